-- Written by this session's own program wip/bin/dprint.py, over the kit's print.py, with own texts for some functions: no print of print.sh's
import Derived.Test.YtfkgidiedpkbdaaPTx0
import Derived.Test.YtfkgidiedpkbdaaPTx1
import Derived.Test.YtfkgidiedpkbdaaPTx2
import Derived.Test.YtfkgidiedpkbdaaPTx4
import Derived.Test.YtfkgidiedpkbdaaPTx5
import Derived.Test.YtfkgidiedpkbdaaPTx6
import Derived.Test.YtfkgidiedpkbdaaPTx7
import Derived.Test.YtfkgidiedpkbdaaPTx9
import Derived.Test.YtfkgidiedpkbdaaPTx10
namespace Go.Proofs.Ytfkgidiedpkbdaa.PT
open Go.RowKit Go.Proofs.YtfkgidiedpkbdaaW.PrintWords Go.Proofs.YtfkgidiedpkbdaaW.PrintLast Go.Proofs.YtfkgidiedpkbdaaW.PrintMore
attribute [local go_sem] max2_int min2_int max_two min_two max_three min_three max_four min_four   -- for this text's walks alone
set_option linter.unusedVariables false
set_option linter.unusedSimpArgs false

/-! ### dowserlaw01_VarintTakes: function 12 -/
mutual
def dowserlaw01_VarintTakes.l0 : Nat → ByteArray → List (S67) → List (S67) → Int → Int → ByteArray → Int → Option (Bool)
  | 0, _, _, _, _, _, _, _ => none
  | k + 1, x0, x6, x29, x30, x31, x176000, x176001 => if x31 < x30 then (if 0 ≤ x31 then (if x31 < (x29.length : Int) then (if (Go.bits .and .i64 ((rd_T67 x29 x31).f0) 3) = 1 then (if x6.length < 5864062014805 then (dowserlaw01_VarintTakes.l0 k x0 (x6 ++ [(⟨Go.bits .and .i64 ((rd_T67 x29 x31).f0) 3, mn ((rd_T67 x29 x31).f1) 1099511627776, (rd_T67 x29 x31).f2⟩ : S67)]) x29 x30 (wrap64 (x31 + 1)) x176000 x176001) else (none)) else (if x6.length < 5864062014805 then (dowserlaw01_VarintTakes.l0 k x0 (x6 ++ [(⟨Go.bits .and .i64 ((rd_T67 x29 x31).f0) 3, (rd_T67 x29 x31).f1, (rd_T67 x29 x31).f2⟩ : S67)]) x29 x30 (wrap64 (x31 + 1)) x176000 x176001) else (none))) else (none)) else (none)) else ((dowserref01_Take.f k x0 x6).bind fun bt184 => (dowserlaw01_VarintTakes.l1 k bt184.1 bt184.2.1 bt184.2.2 x6 (x6.length : Int) 0 x176000 x176001))
def dowserlaw01_VarintTakes.l1 : Nat → List ByteArray → ByteArray → Int → List (S67) → Int → Int → ByteArray → Int → Option (Bool)
  | 0, _, _, _, _, _, _, _, _ => none
  | k + 1, x9, x10, x11, x58, x59, x60, x176000, x176001 => if x60 < x59 then (if 0 ≤ x60 then (if x60 < (x58.length : Int) then (if ((rd_T67 x58 x60).f0) = 0 then ((varint_In_Num.f k x176000 x176001 ((rd_T67 x58 x60).f1)).bind fun bt191 => ((dowserref01_Num.f k bt191.1).bind fun t194 => (if x60 < (x9.length : Int) then (if t194.toList = (rdOf ByteArray.empty x9 x60).toList then (dowserlaw01_VarintTakes.l1 k x9 x10 x11 x58 x59 (wrap64 (x60 + 1)) bt191.2.1 bt191.2.2) else (none)) else (none)))) else (if ((rd_T67 x58 x60).f0) = 1 then ((varint_In_Text.f k x176000 x176001 (wrap64 ((rd_T67 x58 x60).f1))).bind fun bt196 => (if x60 < (x9.length : Int) then (if bt196.1.toList = (rdOf ByteArray.empty x9 x60).toList then (dowserlaw01_VarintTakes.l1 k x9 x10 x11 x58 x59 (wrap64 (x60 + 1)) bt196.2.1 bt196.2.2) else (none)) else (none))) else (if ((rd_T67 x58 x60).f0) = 2 then ((varint_In_Raw.f x176000 x176001 ((rd_T67 x58 x60).f2)).bind fun bt200 => (if x60 < (x9.length : Int) then (if bt200.1.toList = (rdOf ByteArray.empty x9 x60).toList then (dowserlaw01_VarintTakes.l1 k x9 x10 x11 x58 x59 (wrap64 (x60 + 1)) bt200.2.1 bt200.2.2) else (none)) else (none))) else (if ((rd_T67 x58 x60).f0) = 3 then ((varint_In_Fail.f x176000 x176001 0).bind fun bt204 => ((varint_In_Fail.f bt204.1 bt204.2 13).bind fun bt206 => (if x60 < (x9.length : Int) then (if ([] : List UInt8) = (rdOf ByteArray.empty x9 x60).toList then (dowserlaw01_VarintTakes.l1 k x9 x10 x11 x58 x59 (wrap64 (x60 + 1)) bt206.1 bt206.2) else (none)) else (none)))) else (if x60 < (x9.length : Int) then (if ([] : List UInt8) = (rdOf ByteArray.empty x9 x60).toList then (dowserlaw01_VarintTakes.l1 k x9 x10 x11 x58 x59 (wrap64 (x60 + 1)) x176000 x176001) else (none)) else (none)))))) else (none)) else (none)) else (if x11 = 0 then (dowserlaw01_VarintTakes.j2 k x10 x11 x11 (x10.toList != ([] : List UInt8)) x176000 x176001) else (dowserlaw01_VarintTakes.j2 k x10 x11 x11 false x176000 x176001))
def dowserlaw01_VarintTakes.j2 : Nat → ByteArray → Int → Int → Bool → ByteArray → Int → Option (Bool)
  | 0, _, _, _, _, _, _ => none
  | k + 1, x10, x11, x15, x106, x176000, x176001 => if x106 = true then ((varint_In_Err.f x176000 x176001).bind fun bt228 => (if bt228.1 = x11 then ((varint_In_Left.f bt228.2.1 bt228.2.2).bind fun bt231 => (if bt231.1 = (x10.size : Int) then ((varint_In_End.f bt231.2.1 bt231.2.2).bind fun bt234 => (some (bt234.1 == 3))) else (none))) else (none))) else ((varint_In_Err.f x176000 x176001).bind fun bt237 => (if bt237.1 = x11 then ((varint_In_Left.f bt237.2.1 bt237.2.2).bind fun bt240 => (if bt240.1 = (x10.size : Int) then ((varint_In_End.f bt240.2.1 bt240.2.2).bind fun bt243 => (some (bt243.1 == x15))) else (none))) else (none)))
def dowserlaw01_VarintTakes.l2 : Nat → ByteArray → List (S67) → List (S67) → Int → Int → ByteArray → Int → Option (Bool)
  | 0, _, _, _, _, _, _, _ => none
  | k + 1, x0, x6, x29, x30, x31, x249000, x249001 => if x31 < x30 then (if 0 ≤ x31 then (if x31 < (x29.length : Int) then (if (Go.bits .and .i64 ((rd_T67 x29 x31).f0) 3) = 1 then (if x6.length < 5864062014805 then (dowserlaw01_VarintTakes.l2 k x0 (x6 ++ [(⟨Go.bits .and .i64 ((rd_T67 x29 x31).f0) 3, mn ((rd_T67 x29 x31).f1) 1099511627776, (rd_T67 x29 x31).f2⟩ : S67)]) x29 x30 (wrap64 (x31 + 1)) x249000 x249001) else (none)) else (if x6.length < 5864062014805 then (dowserlaw01_VarintTakes.l2 k x0 (x6 ++ [(⟨Go.bits .and .i64 ((rd_T67 x29 x31).f0) 3, (rd_T67 x29 x31).f1, (rd_T67 x29 x31).f2⟩ : S67)]) x29 x30 (wrap64 (x31 + 1)) x249000 x249001) else (none))) else (none)) else (none)) else ((dowserref01_Take.f k x0 x6).bind fun bt257 => (dowserlaw01_VarintTakes.l3 k bt257.1 bt257.2.1 bt257.2.2 x6 (x6.length : Int) 0 x249000 x249001))
def dowserlaw01_VarintTakes.l3 : Nat → List ByteArray → ByteArray → Int → List (S67) → Int → Int → ByteArray → Int → Option (Bool)
  | 0, _, _, _, _, _, _, _, _ => none
  | k + 1, x9, x10, x11, x58, x59, x60, x249000, x249001 => if x60 < x59 then (if 0 ≤ x60 then (if x60 < (x58.length : Int) then (if ((rd_T67 x58 x60).f0) = 0 then ((varint_In_Num.f k x249000 x249001 ((rd_T67 x58 x60).f1)).bind fun bt264 => ((dowserref01_Num.f k bt264.1).bind fun t267 => (if x60 < (x9.length : Int) then (if t267.toList = (rdOf ByteArray.empty x9 x60).toList then (dowserlaw01_VarintTakes.l3 k x9 x10 x11 x58 x59 (wrap64 (x60 + 1)) bt264.2.1 bt264.2.2) else (none)) else (none)))) else (if ((rd_T67 x58 x60).f0) = 1 then ((varint_In_Text.f k x249000 x249001 (wrap64 ((rd_T67 x58 x60).f1))).bind fun bt269 => (if x60 < (x9.length : Int) then (if bt269.1.toList = (rdOf ByteArray.empty x9 x60).toList then (dowserlaw01_VarintTakes.l3 k x9 x10 x11 x58 x59 (wrap64 (x60 + 1)) bt269.2.1 bt269.2.2) else (none)) else (none))) else (if ((rd_T67 x58 x60).f0) = 2 then ((varint_In_Raw.f x249000 x249001 ((rd_T67 x58 x60).f2)).bind fun bt273 => (if x60 < (x9.length : Int) then (if bt273.1.toList = (rdOf ByteArray.empty x9 x60).toList then (dowserlaw01_VarintTakes.l3 k x9 x10 x11 x58 x59 (wrap64 (x60 + 1)) bt273.2.1 bt273.2.2) else (none)) else (none))) else (if ((rd_T67 x58 x60).f0) = 3 then ((varint_In_Fail.f x249000 x249001 0).bind fun bt277 => ((varint_In_Fail.f bt277.1 bt277.2 13).bind fun bt279 => (if x60 < (x9.length : Int) then (if ([] : List UInt8) = (rdOf ByteArray.empty x9 x60).toList then (dowserlaw01_VarintTakes.l3 k x9 x10 x11 x58 x59 (wrap64 (x60 + 1)) bt279.1 bt279.2) else (none)) else (none)))) else (if x60 < (x9.length : Int) then (if ([] : List UInt8) = (rdOf ByteArray.empty x9 x60).toList then (dowserlaw01_VarintTakes.l3 k x9 x10 x11 x58 x59 (wrap64 (x60 + 1)) x249000 x249001) else (none)) else (none)))))) else (none)) else (none)) else (if x11 = 0 then (dowserlaw01_VarintTakes.j5 k x10 x11 x11 (x10.toList != ([] : List UInt8)) x249000 x249001) else (dowserlaw01_VarintTakes.j5 k x10 x11 x11 false x249000 x249001))
def dowserlaw01_VarintTakes.j5 : Nat → ByteArray → Int → Int → Bool → ByteArray → Int → Option (Bool)
  | 0, _, _, _, _, _, _ => none
  | k + 1, x10, x11, x15, x106, x249000, x249001 => if x106 = true then ((varint_In_Err.f x249000 x249001).bind fun bt301 => (if bt301.1 = x11 then ((varint_In_Left.f bt301.2.1 bt301.2.2).bind fun bt304 => (if bt304.1 = (x10.size : Int) then ((varint_In_End.f bt304.2.1 bt304.2.2).bind fun bt307 => (some (bt307.1 == 3))) else (none))) else (none))) else ((varint_In_Err.f x249000 x249001).bind fun bt310 => (if bt310.1 = x11 then ((varint_In_Left.f bt310.2.1 bt310.2.2).bind fun bt313 => (if bt313.1 = (x10.size : Int) then ((varint_In_End.f bt313.2.1 bt313.2.2).bind fun bt316 => (some (bt316.1 == x15))) else (none))) else (none)))
end
def dowserlaw01_VarintTakes.f (k : Nat) (a0 : ByteArray) (l1 : List (S67)) : Option (Bool) := (dowserlaw01_awake.f k).bind fun t151 => (if t151 = true then ((dowserlaw01_Cut.f a0 60).bind fun t152 => (if (l1.length : Int) > 10 then (if 10 ≤ (l1.length : Int) then ((some (l1.take 10 : List (S67))).bind fun y153 => ((varint_Of.f t152).bind fun bt173 => (dowserlaw01_VarintTakes.l0 k t152 ([] : List (S67)) y153 (y153.length : Int) 0 bt173.1 bt173.2))) else (none)) else ((varint_Of.f t152).bind fun bt246 => (dowserlaw01_VarintTakes.l2 k t152 ([] : List (S67)) l1 (l1.length : Int) 0 bt246.1 bt246.2)))) else (none))
theorem dowserlaw01_VarintTakes.mono_l : ∀ k, (∀ y0 y1 y2 y3 y4 y5 y6, LeO (dowserlaw01_VarintTakes.l0 k y0 y1 y2 y3 y4 y5 y6) (dowserlaw01_VarintTakes.l0 (k + 1) y0 y1 y2 y3 y4 y5 y6)) ∧ (∀ y0 y1 y2 y3 y4 y5 y6 y7, LeO (dowserlaw01_VarintTakes.l1 k y0 y1 y2 y3 y4 y5 y6 y7) (dowserlaw01_VarintTakes.l1 (k + 1) y0 y1 y2 y3 y4 y5 y6 y7)) ∧ (∀ y0 y1 y2 y3 y4 y5, LeO (dowserlaw01_VarintTakes.j2 k y0 y1 y2 y3 y4 y5) (dowserlaw01_VarintTakes.j2 (k + 1) y0 y1 y2 y3 y4 y5)) ∧ (∀ y0 y1 y2 y3 y4 y5 y6, LeO (dowserlaw01_VarintTakes.l2 k y0 y1 y2 y3 y4 y5 y6) (dowserlaw01_VarintTakes.l2 (k + 1) y0 y1 y2 y3 y4 y5 y6)) ∧ (∀ y0 y1 y2 y3 y4 y5 y6 y7, LeO (dowserlaw01_VarintTakes.l3 k y0 y1 y2 y3 y4 y5 y6 y7) (dowserlaw01_VarintTakes.l3 (k + 1) y0 y1 y2 y3 y4 y5 y6 y7)) ∧ (∀ y0 y1 y2 y3 y4 y5, LeO (dowserlaw01_VarintTakes.j5 k y0 y1 y2 y3 y4 y5) (dowserlaw01_VarintTakes.j5 (k + 1) y0 y1 y2 y3 y4 y5))
  | 0 => ⟨fun _ _ _ _ _ _ _ r h => by simp [dowserlaw01_VarintTakes.l0] at h, fun _ _ _ _ _ _ _ _ r h => by simp [dowserlaw01_VarintTakes.l1] at h, fun _ _ _ _ _ _ r h => by simp [dowserlaw01_VarintTakes.j2] at h, fun _ _ _ _ _ _ _ r h => by simp [dowserlaw01_VarintTakes.l2] at h, fun _ _ _ _ _ _ _ _ r h => by simp [dowserlaw01_VarintTakes.l3] at h, fun _ _ _ _ _ _ r h => by simp [dowserlaw01_VarintTakes.j5] at h⟩
  | k + 1 => by
    obtain ⟨ih0, ih1, ih2, ih3, ih4, ih5⟩ := dowserlaw01_VarintTakes.mono_l k
    refine ⟨?_, ?_, ?_, ?_, ?_, ?_⟩
    · intro y0 y1 y2 y3 y4 y5 y6
      unfold dowserlaw01_VarintTakes.l0
      repeat' first
      | (with_reducible exact ih0 _ _ _ _ _ _ _)
      | (with_reducible exact ih1 _ _ _ _ _ _ _ _)
      | (with_reducible exact ih2 _ _ _ _ _ _)
      | (with_reducible exact ih3 _ _ _ _ _ _ _)
      | (with_reducible exact ih4 _ _ _ _ _ _ _ _)
      | (with_reducible exact ih5 _ _ _ _ _ _)
      | (with_reducible exact dowserlaw01_awake.mono _)
      | (with_reducible exact dowserref01_Num.mono _ _)
      | (with_reducible exact dowserref01_Take.mono _ _ _)
      | (with_reducible exact varint_In_Num.mono _ _ _ _)
      | (with_reducible exact varint_In_Text.mono _ _ _ _)
      | (with_reducible exact LeO.refl _)
      | (with_reducible exact LeO.none _)
      | (with_reducible refine LeO.ite ?_ ?_)
      | (with_reducible refine LeO.bind ?_ (fun _ => ?_))
      | exact ih0 _ _ _ _ _ _ _
      | exact ih1 _ _ _ _ _ _ _ _
      | exact ih2 _ _ _ _ _ _
      | exact ih3 _ _ _ _ _ _ _
      | exact ih4 _ _ _ _ _ _ _ _
      | exact ih5 _ _ _ _ _ _
      | exact dowserlaw01_awake.mono _
      | exact dowserref01_Num.mono _ _
      | exact dowserref01_Take.mono _ _ _
      | exact varint_In_Num.mono _ _ _ _
      | exact varint_In_Text.mono _ _ _ _
      | exact LeO.none _
      | refine LeO.ite ?_ ?_
      | refine LeO.bind ?_ (fun _ => ?_)
    · intro y0 y1 y2 y3 y4 y5 y6 y7
      unfold dowserlaw01_VarintTakes.l1
      repeat' first
      | (with_reducible exact ih0 _ _ _ _ _ _ _)
      | (with_reducible exact ih1 _ _ _ _ _ _ _ _)
      | (with_reducible exact ih2 _ _ _ _ _ _)
      | (with_reducible exact ih3 _ _ _ _ _ _ _)
      | (with_reducible exact ih4 _ _ _ _ _ _ _ _)
      | (with_reducible exact ih5 _ _ _ _ _ _)
      | (with_reducible exact dowserlaw01_awake.mono _)
      | (with_reducible exact dowserref01_Num.mono _ _)
      | (with_reducible exact dowserref01_Take.mono _ _ _)
      | (with_reducible exact varint_In_Num.mono _ _ _ _)
      | (with_reducible exact varint_In_Text.mono _ _ _ _)
      | (with_reducible exact LeO.refl _)
      | (with_reducible exact LeO.none _)
      | (with_reducible refine LeO.ite ?_ ?_)
      | (with_reducible refine LeO.bind ?_ (fun _ => ?_))
      | exact ih0 _ _ _ _ _ _ _
      | exact ih1 _ _ _ _ _ _ _ _
      | exact ih2 _ _ _ _ _ _
      | exact ih3 _ _ _ _ _ _ _
      | exact ih4 _ _ _ _ _ _ _ _
      | exact ih5 _ _ _ _ _ _
      | exact dowserlaw01_awake.mono _
      | exact dowserref01_Num.mono _ _
      | exact dowserref01_Take.mono _ _ _
      | exact varint_In_Num.mono _ _ _ _
      | exact varint_In_Text.mono _ _ _ _
      | exact LeO.none _
      | refine LeO.ite ?_ ?_
      | refine LeO.bind ?_ (fun _ => ?_)
    · intro y0 y1 y2 y3 y4 y5
      unfold dowserlaw01_VarintTakes.j2
      repeat' first
      | (with_reducible exact ih0 _ _ _ _ _ _ _)
      | (with_reducible exact ih1 _ _ _ _ _ _ _ _)
      | (with_reducible exact ih2 _ _ _ _ _ _)
      | (with_reducible exact ih3 _ _ _ _ _ _ _)
      | (with_reducible exact ih4 _ _ _ _ _ _ _ _)
      | (with_reducible exact ih5 _ _ _ _ _ _)
      | (with_reducible exact dowserlaw01_awake.mono _)
      | (with_reducible exact dowserref01_Num.mono _ _)
      | (with_reducible exact dowserref01_Take.mono _ _ _)
      | (with_reducible exact varint_In_Num.mono _ _ _ _)
      | (with_reducible exact varint_In_Text.mono _ _ _ _)
      | (with_reducible exact LeO.refl _)
      | (with_reducible exact LeO.none _)
      | (with_reducible refine LeO.ite ?_ ?_)
      | (with_reducible refine LeO.bind ?_ (fun _ => ?_))
      | exact ih0 _ _ _ _ _ _ _
      | exact ih1 _ _ _ _ _ _ _ _
      | exact ih2 _ _ _ _ _ _
      | exact ih3 _ _ _ _ _ _ _
      | exact ih4 _ _ _ _ _ _ _ _
      | exact ih5 _ _ _ _ _ _
      | exact dowserlaw01_awake.mono _
      | exact dowserref01_Num.mono _ _
      | exact dowserref01_Take.mono _ _ _
      | exact varint_In_Num.mono _ _ _ _
      | exact varint_In_Text.mono _ _ _ _
      | exact LeO.none _
      | refine LeO.ite ?_ ?_
      | refine LeO.bind ?_ (fun _ => ?_)
    · intro y0 y1 y2 y3 y4 y5 y6
      unfold dowserlaw01_VarintTakes.l2
      repeat' first
      | (with_reducible exact ih0 _ _ _ _ _ _ _)
      | (with_reducible exact ih1 _ _ _ _ _ _ _ _)
      | (with_reducible exact ih2 _ _ _ _ _ _)
      | (with_reducible exact ih3 _ _ _ _ _ _ _)
      | (with_reducible exact ih4 _ _ _ _ _ _ _ _)
      | (with_reducible exact ih5 _ _ _ _ _ _)
      | (with_reducible exact dowserlaw01_awake.mono _)
      | (with_reducible exact dowserref01_Num.mono _ _)
      | (with_reducible exact dowserref01_Take.mono _ _ _)
      | (with_reducible exact varint_In_Num.mono _ _ _ _)
      | (with_reducible exact varint_In_Text.mono _ _ _ _)
      | (with_reducible exact LeO.refl _)
      | (with_reducible exact LeO.none _)
      | (with_reducible refine LeO.ite ?_ ?_)
      | (with_reducible refine LeO.bind ?_ (fun _ => ?_))
      | exact ih0 _ _ _ _ _ _ _
      | exact ih1 _ _ _ _ _ _ _ _
      | exact ih2 _ _ _ _ _ _
      | exact ih3 _ _ _ _ _ _ _
      | exact ih4 _ _ _ _ _ _ _ _
      | exact ih5 _ _ _ _ _ _
      | exact dowserlaw01_awake.mono _
      | exact dowserref01_Num.mono _ _
      | exact dowserref01_Take.mono _ _ _
      | exact varint_In_Num.mono _ _ _ _
      | exact varint_In_Text.mono _ _ _ _
      | exact LeO.none _
      | refine LeO.ite ?_ ?_
      | refine LeO.bind ?_ (fun _ => ?_)
    · intro y0 y1 y2 y3 y4 y5 y6 y7
      unfold dowserlaw01_VarintTakes.l3
      repeat' first
      | (with_reducible exact ih0 _ _ _ _ _ _ _)
      | (with_reducible exact ih1 _ _ _ _ _ _ _ _)
      | (with_reducible exact ih2 _ _ _ _ _ _)
      | (with_reducible exact ih3 _ _ _ _ _ _ _)
      | (with_reducible exact ih4 _ _ _ _ _ _ _ _)
      | (with_reducible exact ih5 _ _ _ _ _ _)
      | (with_reducible exact dowserlaw01_awake.mono _)
      | (with_reducible exact dowserref01_Num.mono _ _)
      | (with_reducible exact dowserref01_Take.mono _ _ _)
      | (with_reducible exact varint_In_Num.mono _ _ _ _)
      | (with_reducible exact varint_In_Text.mono _ _ _ _)
      | (with_reducible exact LeO.refl _)
      | (with_reducible exact LeO.none _)
      | (with_reducible refine LeO.ite ?_ ?_)
      | (with_reducible refine LeO.bind ?_ (fun _ => ?_))
      | exact ih0 _ _ _ _ _ _ _
      | exact ih1 _ _ _ _ _ _ _ _
      | exact ih2 _ _ _ _ _ _
      | exact ih3 _ _ _ _ _ _ _
      | exact ih4 _ _ _ _ _ _ _ _
      | exact ih5 _ _ _ _ _ _
      | exact dowserlaw01_awake.mono _
      | exact dowserref01_Num.mono _ _
      | exact dowserref01_Take.mono _ _ _
      | exact varint_In_Num.mono _ _ _ _
      | exact varint_In_Text.mono _ _ _ _
      | exact LeO.none _
      | refine LeO.ite ?_ ?_
      | refine LeO.bind ?_ (fun _ => ?_)
    · intro y0 y1 y2 y3 y4 y5
      unfold dowserlaw01_VarintTakes.j5
      repeat' first
      | (with_reducible exact ih0 _ _ _ _ _ _ _)
      | (with_reducible exact ih1 _ _ _ _ _ _ _ _)
      | (with_reducible exact ih2 _ _ _ _ _ _)
      | (with_reducible exact ih3 _ _ _ _ _ _ _)
      | (with_reducible exact ih4 _ _ _ _ _ _ _ _)
      | (with_reducible exact ih5 _ _ _ _ _ _)
      | (with_reducible exact dowserlaw01_awake.mono _)
      | (with_reducible exact dowserref01_Num.mono _ _)
      | (with_reducible exact dowserref01_Take.mono _ _ _)
      | (with_reducible exact varint_In_Num.mono _ _ _ _)
      | (with_reducible exact varint_In_Text.mono _ _ _ _)
      | (with_reducible exact LeO.refl _)
      | (with_reducible exact LeO.none _)
      | (with_reducible refine LeO.ite ?_ ?_)
      | (with_reducible refine LeO.bind ?_ (fun _ => ?_))
      | exact ih0 _ _ _ _ _ _ _
      | exact ih1 _ _ _ _ _ _ _ _
      | exact ih2 _ _ _ _ _ _
      | exact ih3 _ _ _ _ _ _ _
      | exact ih4 _ _ _ _ _ _ _ _
      | exact ih5 _ _ _ _ _ _
      | exact dowserlaw01_awake.mono _
      | exact dowserref01_Num.mono _ _
      | exact dowserref01_Take.mono _ _ _
      | exact varint_In_Num.mono _ _ _ _
      | exact varint_In_Text.mono _ _ _ _
      | exact LeO.none _
      | refine LeO.ite ?_ ?_
      | refine LeO.bind ?_ (fun _ => ?_)
theorem dowserlaw01_VarintTakes.mono : ∀ a0 a1 k, LeO (dowserlaw01_VarintTakes.f k a0 a1) (dowserlaw01_VarintTakes.f (k + 1) a0 a1) := by
  intro a0 a1 k
  obtain ⟨ih0, ih1, ih2, ih3, ih4, ih5⟩ := dowserlaw01_VarintTakes.mono_l k
  unfold dowserlaw01_VarintTakes.f
  repeat' first
      | (with_reducible exact ih0 _ _ _ _ _ _ _)
      | (with_reducible exact ih1 _ _ _ _ _ _ _ _)
      | (with_reducible exact ih2 _ _ _ _ _ _)
      | (with_reducible exact ih3 _ _ _ _ _ _ _)
      | (with_reducible exact ih4 _ _ _ _ _ _ _ _)
      | (with_reducible exact ih5 _ _ _ _ _ _)
      | (with_reducible exact dowserlaw01_awake.mono _)
      | (with_reducible exact dowserref01_Num.mono _ _)
      | (with_reducible exact dowserref01_Take.mono _ _ _)
      | (with_reducible exact varint_In_Num.mono _ _ _ _)
      | (with_reducible exact varint_In_Text.mono _ _ _ _)
      | (with_reducible exact LeO.refl _)
      | (with_reducible exact LeO.none _)
      | (with_reducible refine LeO.ite ?_ ?_)
      | (with_reducible refine LeO.bind ?_ (fun _ => ?_))
      | exact ih0 _ _ _ _ _ _ _
      | exact ih1 _ _ _ _ _ _ _ _
      | exact ih2 _ _ _ _ _ _
      | exact ih3 _ _ _ _ _ _ _
      | exact ih4 _ _ _ _ _ _ _ _
      | exact ih5 _ _ _ _ _ _
      | exact dowserlaw01_awake.mono _
      | exact dowserref01_Num.mono _ _
      | exact dowserref01_Take.mono _ _ _
      | exact varint_In_Num.mono _ _ _ _
      | exact varint_In_Text.mono _ _ _ _
      | exact LeO.none _
      | refine LeO.ite ?_ ?_
      | refine LeO.bind ?_ (fun _ => ?_)
set_option maxHeartbeats 8000000 in
set_option maxRecDepth 100000 in
theorem dowserlaw01_VarintTakes.calls (k : Nat) (a0 : ByteArray) (A1 : Option Addr) (c1 : Nat) (l1 : List (S67)) (r : Bool) (w : World) (hr1 : Kd.C k67 w A1 l1.length l1) (hc1 : l1.length ≤ c1) (h : dowserlaw01_VarintTakes.f k a0 l1 = some r) :
    Calls Try.prog 12 #[.string a0, .slice A1 l1.length c1] w fun e w' => e = .returned (.bool r) ∧ Below w.heap.size w w' := by
  have hu67 := Try.underlying67
  have HR1 := Aside0.mk hr1
  have HC1 := Aside0.mk hc1
  clear hr1 hc1
  have HB := Aside0.mk (Below.refl w.heap.size w)
  have H : ((dowserlaw01_awake.f k).bind fun t151 => (if t151 = true then ((dowserlaw01_Cut.f a0 60).bind fun t152 => (if (l1.length : Int) > 10 then (if 10 ≤ (l1.length : Int) then ((some (l1.take 10 : List (S67))).bind fun y153 => ((varint_Of.f t152).bind fun bt173 => (dowserlaw01_VarintTakes.l0 k t152 ([] : List (S67)) y153 (y153.length : Int) 0 bt173.1 bt173.2))) else (none)) else ((varint_Of.f t152).bind fun bt246 => (dowserlaw01_VarintTakes.l2 k t152 ([] : List (S67)) l1 (l1.length : Int) 0 bt246.1 bt246.2)))) else (none))) = some r := h
  clear h
  replace H := Option.bind_eq_some_iff.mp H
  obtain ⟨t151, A30, H⟩ := H
  replace H : (if t151 = true then ((dowserlaw01_Cut.f a0 60).bind fun t152 => (if (l1.length : Int) > 10 then (if 10 ≤ (l1.length : Int) then ((some (l1.take 10 : List (S67))).bind fun y153 => ((varint_Of.f t152).bind fun bt173 => (dowserlaw01_VarintTakes.l0 k t152 ([] : List (S67)) y153 (y153.length : Int) 0 bt173.1 bt173.2))) else (none)) else ((varint_Of.f t152).bind fun bt246 => (dowserlaw01_VarintTakes.l2 k t152 ([] : List (S67)) l1 (l1.length : Int) 0 bt246.1 bt246.2)))) else (none)) = some r := H
  have A3 := Aside0.mk A30
  clear A30
  by_cases c4 : t151 = true
  · subst c4
    have H1 : ((dowserlaw01_Cut.f a0 60).bind fun t152 => (if (l1.length : Int) > 10 then (if 10 ≤ (l1.length : Int) then ((some (l1.take 10 : List (S67))).bind fun y153 => ((varint_Of.f t152).bind fun bt173 => (dowserlaw01_VarintTakes.l0 k t152 ([] : List (S67)) y153 (y153.length : Int) 0 bt173.1 bt173.2))) else (none)) else ((varint_Of.f t152).bind fun bt246 => (dowserlaw01_VarintTakes.l2 k t152 ([] : List (S67)) l1 (l1.length : Int) 0 bt246.1 bt246.2)))) = some r := by rw [if_pos rfl] at H; exact H
    clear H
    have H := H1
    clear H1
    replace H := Option.bind_eq_some_iff.mp H
    obtain ⟨t152, A50, H⟩ := H
    replace H : (if (l1.length : Int) > 10 then (if 10 ≤ (l1.length : Int) then ((some (l1.take 10 : List (S67))).bind fun y153 => ((varint_Of.f t152).bind fun bt173 => (dowserlaw01_VarintTakes.l0 k t152 ([] : List (S67)) y153 (y153.length : Int) 0 bt173.1 bt173.2))) else (none)) else ((varint_Of.f t152).bind fun bt246 => (dowserlaw01_VarintTakes.l2 k t152 ([] : List (S67)) l1 (l1.length : Int) 0 bt246.1 bt246.2))) = some r := H
    have A5 := Aside0.mk A50
    clear A50
    by_cases c6 : (l1.length : Int) > 10
    · rw [if_pos c6] at H
      have c6b0 : decide (10 < (l1.length : Int)) = true := decide_eq_true c6
      have c6b1 : decide (10 < l1.length) = true := decide_eq_true (by omega)
      clear c6
      by_cases c7 : 10 ≤ (l1.length : Int)
      · rw [if_pos c7] at H
        have c7b0 := eq_true c7
        have c7b1 : decide (10 ≤ (l1.length : Int)) = true := decide_eq_true c7
        clear c7
        obtain ⟨y153, hy153⟩ : ∃ y_ : List (S67), y_ = (l1.take 10) := ⟨_, rfl⟩
        replace H : ((varint_Of.f t152).bind fun bt173 => (dowserlaw01_VarintTakes.l0 k t152 ([] : List (S67)) y153 (y153.length : Int) 0 bt173.1 bt173.2)) = some r := by first | (rw [hy153]; with_reducible exact H) | (have H2_ := (Option.bind_some _ _).symm.trans H; rw [hy153]; with_reducible exact H2_) | (have H2_ := (Option.bind_some _ _).symm.trans H; with_reducible exact H2_) | with_reducible exact H | (rw [hy153]; exact H) | exact H
        have Ny153 := Aside0.mk hy153
        clear hy153
        replace H := Option.bind_eq_some_iff.mp H
        obtain ⟨⟨t173, t174⟩, A80, H⟩ := H
        replace H : (dowserlaw01_VarintTakes.l0 k t152 ([] : List (S67)) y153 (y153.length : Int) 0 t173 t174) = some r := H
        have A8 := Aside0.mk A80
        clear A80
        have H' := Aside0.mk H
        clear H
        go_enter Try.func12, Try.ntmps12
        go_wp2_with (first | ((with_reducible refine gate_callee (f := 27) rfl ?_); refine goesL_ (some 16) rfl rfl Try.func27 (by kernel_rfl) rfl #[] rfl (by (try simp only [List.map_toArray, List.map_cons, List.map_nil]); first | done | rfl | (simp only [List.length_drop, List.length_take]; rfl)) ?_; (with_reducible refine (dowserlaw01_awake.calls k  true _ A3.out).mono ?_); rintro e w9 ⟨rfl, hb⟩; refine ⟨_, rfl, ?_⟩; have n0_ := Aside0.mk (below_step (by repeat (first | (with_reducible first | exact HB.out | apply below_alloc | apply pw_below_drewN | apply below_drew1) | exact HB.out)) hb); clear HB; have HB := n0_; clear n0_; (try clear hb); (try clear hb2); (try clear hk); (try clear hi)) | ((with_reducible refine gate_callee (f := 14) rfl ?_); refine goesL_ (some 19) rfl rfl Try.func14 (by kernel_rfl) rfl #[.string a0, .int .i64 60] rfl (by (try simp only [List.map_toArray, List.map_cons, List.map_nil]); first | done | rfl | (simp only [List.length_drop, List.length_take]; rfl)) ?_; (with_reducible refine (dowserlaw01_Cut.calls a0 60 t152 _ A5.out).mono ?_); rintro e w' ⟨rfl, ⟨nd, rfl⟩⟩; refine ⟨_, rfl, ?_⟩; have q10 : (10 : Int) ≤ ((l1.length : Int) : Int) := of_decide_eq_true (by first | (with_reducible assumption) | assumption); obtain ⟨i010, hi010, _, hsz10, _⟩ := info_parts info67; have hroom10 : l1.length ≤ c1 := HC1.out; have hC10 : Kd.C k67 _ A1 l1.length l1 := HR1.out; have hcut10 := cut_to (P := Try.prog) 65 67 .i64 Try.underlying65 hi010 A1 l1.length c1 10 (by omega) q10 hroom10; have hr10 := Kd.C_take (m := 10) hC10 (by omega); have hy10 : y153.length = (10 : Int).toNat := (by rw [Ny153.out, List.length_take]; omega); rw [← Ny153.out] at hr10; rw [← hy10] at hcut10; have HR156 := Aside0.mk hr10; have HC156 := Aside0.mk (show y153.length ≤ c1 from by omega); clear hr10 hC10 hroom10 hi010 hsz10; have KY10 := Aside0.mk hy10; clear hy10; replace q10 := eq_true q10) | ((with_reducible refine gate_callee (f := 29) rfl ?_); refine goesL_ (some 26) rfl rfl Try.func29 (by kernel_rfl) rfl #[.string t152] rfl (by (try simp only [List.map_toArray, List.map_cons, List.map_nil]); first | done | rfl | (simp only [List.length_drop, List.length_take]; rfl)) ?_; (with_reducible refine (varint_Of.calls t152 t173 t174 w _ ?side1 A8.out).mono ?_); (case side1 => repeat (first | (with_reducible first | exact HB.out | apply below_alloc | apply pw_below_drewN | apply below_drew1) | exact HB.out)); rintro e w11 ⟨g175, rfl, hi, hb, hb2⟩; refine ⟨_, rfl, ?_⟩; have n0_ := Aside0.mk (hb); have n1_ := Aside0.mk (hi); clear HB; have HB := n0_; have HI175 := n1_; clear n0_ n1_; (try clear hb); (try clear hb2); (try clear hk); (try clear hi)))
        go_loopg [6, 31] k (fun kq v6 v31 w' => ∃ (x6_1 : List (S67)) (x31_1 : Int), v31 = .int .i64 x31_1 ∧ Aside0 (dowserlaw01_VarintTakes.l0 kq t152 x6_1 y153 (y153.length : Int) x31_1 t173 t174 = some r) ∧ Aside0 (kq ≤ k) ∧ Aside0 (Kd.R k67 67 w' w.heap.size (fun _ => True) v6 x6_1) ∧ Aside0 (IsS78 w w' g175 t173 t174) ∧ Aside0 (Below w.heap.size w w'))
        case atStart => exact ⟨(([] : List (S67))), (0), (by first | rfl | (simp; done) | (simp [*]; done) | (simp; rw [Bool.eq_iff_iff]; simp; done)), H', ⟨Nat.le_refl _⟩, ⟨by first | exact Kd.R_nil _ _ _ _ _ | exact Kd.N_nil _ _ _ _ _ | exact Kd.V_nil _ _ _ _ _ | exact Kd.Q_nil _ _ _ _ _ | exact Kd.S_nil _ _ _ _ _⟩, ⟨by repeat (first | (with_reducible first | exact HI175.out | apply IsS78.alloc | apply IsS78.drewN | apply IsS78.drew | apply IsS78.set_0 | apply IsS78.set_1) | exact HI175.out)⟩, ⟨by repeat (first | (with_reducible first | exact HB.out | apply below_alloc | apply pw_below_drewN | apply below_drew1 | refine below_set ?_ (IsS78.ge HI175.out)) | exact HB.out)⟩⟩
        case round =>
          clear H'
          try clear c1
          try clear q1
          try clear c2
          try clear p2
          try clear c4
          try clear c6
          try clear c6b0
          try clear c6b1
          try clear c7
          try clear c7b0
          try clear c7b1
          try clear q10
          try clear q10
          obtain ⟨x6_1, x31_1, rfl, HA, HK1, HO_6, HI175, HB⟩ := hrel
          cases gk with
          | zero => exact absurd HA.out (by simp [dowserlaw01_VarintTakes.l0])
          | succ k1 =>
            have H := HA.out
            clear HA
            simp only [dowserlaw01_VarintTakes.l0] at H
            by_cases c12 : x31_1 < (y153.length : Int)
            · rw [if_pos c12] at H
              have c12b0 : decide (x31_1 < (y153.length : Int)) = true := decide_eq_true c12
              clear c12
              by_cases c13 : 0 ≤ x31_1
              · rw [if_pos c13] at H
                have c13b0 : decide (0 ≤ x31_1) = true := decide_eq_true c13
                clear c13
                by_cases c14 : x31_1 < (y153.length : Int)
                · rw [if_pos c14] at H
                  have c14b0 : decide (x31_1 < (y153.length : Int)) = true := decide_eq_true c14
                  clear c14
                  obtain ⟨ji15, hji15⟩ : ∃ j_ : Int, (Go.bits .and .i64 ((rd_T67 y153 x31_1).f0) 3) = j_ := ⟨_, rfl⟩
                  replace H : (if (ji15) = 1 then (if x6_1.length < 5864062014805 then (dowserlaw01_VarintTakes.l0 k1 t152 (x6_1 ++ [(⟨ji15, mn ((rd_T67 y153 x31_1).f1) 1099511627776, (rd_T67 y153 x31_1).f2⟩ : S67)]) y153 (y153.length : Int) (wrap64 (x31_1 + 1)) t173 t174) else (none)) else (if x6_1.length < 5864062014805 then (dowserlaw01_VarintTakes.l0 k1 t152 (x6_1 ++ [(⟨ji15, (rd_T67 y153 x31_1).f1, (rd_T67 y153 x31_1).f2⟩ : S67)]) y153 (y153.length : Int) (wrap64 (x31_1 + 1)) t173 t174) else (none))) = some r := by first | (rw [hji15] at H; exact H) | (simp only [hji15] at H ⊢; exact H)
                  by_cases c16 : (ji15) = 1
                  · rw [if_pos c16] at H
                    have c16b0 : ((ji15) == 1) = true := beq_iff_eq.mpr c16
                    have c16b1 : ((ji15) != 1) = false := bne_eq_false_iff_eq.mpr c16
                    clear c16
                    obtain ⟨ji17, hji17⟩ : ∃ j_ : Int, (mn ((rd_T67 y153 x31_1).f1) 1099511627776) = j_ := ⟨_, rfl⟩
                    replace H : (if x6_1.length < 5864062014805 then (dowserlaw01_VarintTakes.l0 k1 t152 (x6_1 ++ [(⟨ji15, ji17, (rd_T67 y153 x31_1).f2⟩ : S67)]) y153 (y153.length : Int) (wrap64 (x31_1 + 1)) t173 t174) else (none)) = some r := by first | (rw [hji17] at H; exact H) | (simp only [hji17] at H ⊢; exact H)
                    have hji17_ : (if 1099511627776 < ((rd_T67 y153 x31_1).f1) then 1099511627776 else ((rd_T67 y153 x31_1).f1)) = ji17 := hji17
                    by_cases c18 : x6_1.length < 5864062014805
                    · rw [if_pos c18] at H
                      have LMc18 := Aside0.mk c18
                      clear c18
                      obtain ⟨y178, hy178⟩ : ∃ y_ : List (S67), y_ = (x6_1 ++ [(⟨ji15, ji17, (rd_T67 y153 x31_1).f2⟩ : S67)]) := ⟨_, rfl⟩
                      replace H : (dowserlaw01_VarintTakes.l0 k1 t152 y178 y153 (y153.length : Int) (wrap64 (x31_1 + 1)) t173 t174) = some r := by first | (rw [hy178]; with_reducible exact H) | (have H2_ := (Option.bind_some _ _).symm.trans H; rw [hy178]; with_reducible exact H2_) | (have H2_ := (Option.bind_some _ _).symm.trans H; with_reducible exact H2_) | with_reducible exact H | (rw [hy178]; exact H) | exact H
                      have Ny178 := Aside0.mk hy178
                      clear hy178
                      have H' := Aside0.mk H
                      clear H
                      have p176 : 0 ≤ (x31_1 : Int) := of_decide_eq_true (by first | (with_reducible assumption) | assumption)
                      have q176 : x31_1 < (y153.length : Int) := of_decide_eq_true (by first | (with_reducible assumption) | assumption)
                      obtain ⟨ad176, e176, hx176_0, hx176_1, hx176_2⟩ := at_T67 HR156.out x31_1 p176 q176
                      cases e176
                      replace hx176_0 := (HB.out.cell (World.block_lt_of_cell? w _ hx176_0)).trans hx176_0
                      replace hx176_1 := (HB.out.cell (World.block_lt_of_cell? w _ hx176_1)).trans hx176_1
                      replace hx176_2 := (HB.out.cell (World.block_lt_of_cell? w _ hx176_2)).trans hx176_2
                      replace p176 := eq_true p176
                      replace q176 := eq_true q176
                      go_wp2_with (first | ((with_reducible refine gate_dst (N := 8) rfl ?_); (try (refine gate_guard (by rfl) ?_; dsimp only)); refine box_event ?hg (N := 8) ?hd (cs := #[.int .i64 0, .int .u64 0, .int .i64 0]) (t := 67) ?hr ?_; (case hd => rfl); (case hg => rfl); (case hr => first | (go_simp; done) | (go_simp; rfl)); intro gb177 hg w19 hbox hb; have n0_ := Aside0.mk (Kd.R_below (Kd.R_elderB (by (with_reducible repeat (first | apply Kd.R_alloc | apply Kd.R_drewN | apply Kd.R_drew)); exact HO_6.out) gb177 (Nat.le_of_eq hg.symm)) hb); have n1_ := Aside0.mk (IsS78.below (by repeat (first | (with_reducible first | exact HI175.out | apply IsS78.alloc | apply IsS78.drewN | apply IsS78.drew | apply IsS78.set_0 | apply IsS78.set_1) | exact HI175.out)) hb); have n2_ := Aside0.mk (below_step (by repeat (first | (with_reducible first | exact HB.out | apply below_alloc | apply pw_below_drewN | apply below_drew1 | refine below_set ?_ (IsS78.ge HI175.out)) | exact HB.out)) hb); have n3_ := Aside0.mk (hbox); have n4_ := Aside0.mk ((by rw [hg]; exact (below_size (by repeat (first | (with_reducible first | exact HB.out | apply below_alloc | apply pw_below_drewN | apply below_drew1 | refine below_set ?_ (IsS78.ge HI175.out)) | exact HB.out))) : w.heap.size ≤ gb177)); have n5_ := Aside0.mk ((by rw [hg]; exact (below_size (by repeat (first | (with_reducible first | exact HB.out | apply below_alloc | apply pw_below_drewN | apply below_drew1 | refine below_set ?_ (IsS78.ge HI175.out)) | exact HB.out))) : w.heap.size ≤ gb177)); have n6_ := Aside0.mk ((by rw [hg]; exact Nat.ne_of_lt (IsS78.lt (show IsS78 w _ g175 t173 t174 from by repeat (first | (with_reducible first | exact HI175.out | apply IsS78.alloc | apply IsS78.drewN | apply IsS78.drew | apply IsS78.set_0 | apply IsS78.set_1) | exact HI175.out))) : g175 ≠ gb177)); have n7_ := Aside0.mk ((by rw [hg]; exact Nat.ne_of_gt (IsS78.lt (show IsS78 w _ g175 t173 t174 from by repeat (first | (with_reducible first | exact HI175.out | apply IsS78.alloc | apply IsS78.drewN | apply IsS78.drew | apply IsS78.set_0 | apply IsS78.set_1) | exact HI175.out))) : gb177 ≠ g175)); clear HO_6; clear HI175; clear HB; have HO_6 := n0_; have HI175 := n1_; have HB := n2_; have BK177 := n3_; have GW177 := n4_; have GE177 := n5_; have NB175_177 := n6_; have NB177_175 := n7_; clear n0_ n1_ n2_ n3_ n4_ n5_ n6_ n7_; clear hb hbox hg; have hnb20 := NB177_175.out; have hnc20 := NB175_177.out; have hcz21_0 : w19.cell? ⟨gb177, 0, none⟩ = some (.int .i64 0) := (blk_cell BK177.out 0).trans rfl; have hcz21_1 : w19.cell? ⟨gb177, 1, none⟩ = some (.int .u64 0) := (blk_cell BK177.out 1).trans rfl; have hcz21_2 : w19.cell? ⟨gb177, 2, none⟩ = some (.int .i64 0) := (blk_cell BK177.out 2).trans rfl; have hfz21_0 := blk_frozen BK177.out 0; have hfz21_1 := blk_frozen BK177.out 1; have hfz21_2 := blk_frozen BK177.out 2) | ((with_reducible refine gate_store (t := 3) (p := 38) rfl ?_); refine store_event (t := 3) (p := 38) (v := ?vo_w22) (w1 := ((((w19.setCell ⟨gb177, 0, none⟩ (.int .i64 ((rd_T67 y153 x31_1).f0))).setCell ⟨gb177, 1, none⟩ (.int .u64 ((rd_T67 y153 x31_1).f1))).setCell ⟨gb177, 2, none⟩ (.int .i64 ((rd_T67 y153 x31_1).f2))).setCell ⟨gb177, 0, none⟩ (.int .i64 ji15))) ?hg ?ho ?hn ?hr ?_; (case ho => rfl); (case hg => rfl); (case hn => rfl); (case hr => first | (go_simp; done) | (go_simp; rfl)); intro w22 hw; have n0_ : Aside0 (Kd.R k67 67 w22 w.heap.size (fun k_ => k_ ≠ gb177) u6 x6_1) := ⟨(by rw [hw]; exact (by (with_reducible repeat (first | apply Kd.R_alloc | apply Kd.R_drewN | apply Kd.R_drew)); exact Kd.R_mono (Kd.R_far (p := ⟨gb177, 0, none⟩) (Kd.R_far (p := ⟨gb177, 2, none⟩) (Kd.R_far (p := ⟨gb177, 1, none⟩) (Kd.R_far (p := ⟨gb177, 0, none⟩) (Kd.R_mono HO_6.out (fun k_ hk => (⟨hk, hk.2⟩ : _ ∧ k_ ≠ gb177))) (fun _ hk => hk.2) (.int .i64 ((rd_T67 y153 x31_1).f0))) (fun _ hk => hk.2) (.int .u64 ((rd_T67 y153 x31_1).f1))) (fun _ hk => hk.2) (.int .i64 ((rd_T67 y153 x31_1).f2))) (fun _ hk => hk.2) (.int .i64 ji15)) (fun _ hk => hk.1.2)))⟩; have n1_ : Aside0 (w22.heap[gb177]? = some (.cells #[.int .i64 ji15, .int .u64 ((rd_T67 y153 x31_1).f1), .int .i64 ((rd_T67 y153 x31_1).f2)] 67 (0, 0))) := ⟨(by rw [hw]; exact (by (with_reducible repeat (first | refine blk_drewN ?_ _ | refine blk_drew ?_ | refine blk_alloc ?_ _)); refine blk_put (cs := #[.int .i64 ((rd_T67 y153 x31_1).f0), .int .u64 ((rd_T67 y153 x31_1).f1), .int .i64 ((rd_T67 y153 x31_1).f2)]) ?_ 0 _ rfl; (with_reducible repeat (first | refine blk_drewN ?_ _ | refine blk_drew ?_ | refine blk_alloc ?_ _)); refine blk_put (cs := #[.int .i64 ((rd_T67 y153 x31_1).f0), .int .u64 ((rd_T67 y153 x31_1).f1), .int .i64 0]) ?_ 2 _ rfl; (with_reducible repeat (first | refine blk_drewN ?_ _ | refine blk_drew ?_ | refine blk_alloc ?_ _)); refine blk_put (cs := #[.int .i64 ((rd_T67 y153 x31_1).f0), .int .u64 0, .int .i64 0]) ?_ 1 _ rfl; (with_reducible repeat (first | refine blk_drewN ?_ _ | refine blk_drew ?_ | refine blk_alloc ?_ _)); refine blk_put (cs := #[.int .i64 0, .int .u64 0, .int .i64 0]) ?_ 0 _ rfl; (with_reducible repeat (first | refine blk_drewN ?_ _ | refine blk_drew ?_ | refine blk_alloc ?_ _)); exact BK177.out))⟩; have n2_ : Aside0 (IsS78 w w22 g175 t173 t174) := ⟨(by rw [hw]; exact (by repeat (first | (with_reducible first | exact HI175.out | apply IsS78.alloc | apply IsS78.drewN | apply IsS78.drew | apply IsS78.set_0 | apply IsS78.set_1 | refine IsS78.far ?_ NB175_177.out _) | exact HI175.out)))⟩; have n3_ : Aside0 (Below w.heap.size w w22) := ⟨(by rw [hw]; exact (by repeat (first | (with_reducible first | exact HB.out | apply below_alloc | apply pw_below_drewN | apply below_drew1 | refine below_set ?_ (IsS78.ge HI175.out) | refine below_set ?_ GE177.out) | exact HB.out)))⟩; clear hw; clear HO_6; clear BK177; clear HI175; clear HB; have HO_6 := n0_; have BK177 := n1_; have HI175 := n2_; have HB := n3_; clear n0_ n1_ n2_ n3_; have hcz23_0 : w22.cell? ⟨gb177, 0, none⟩ = some (.int .i64 ji15) := (blk_cell BK177.out 0).trans rfl; have hcz23_1 : w22.cell? ⟨gb177, 1, none⟩ = some (.int .u64 ((rd_T67 y153 x31_1).f1)) := (blk_cell BK177.out 1).trans rfl; have hcz23_2 : w22.cell? ⟨gb177, 2, none⟩ = some (.int .i64 ((rd_T67 y153 x31_1).f2)) := (blk_cell BK177.out 2).trans rfl; have hfz23_0 := blk_frozen BK177.out 0; have hfz23_1 := blk_frozen BK177.out 1; have hfz23_2 := blk_frozen BK177.out 2) | ((with_reducible refine gate_builtin (b := .append) (xs := #[.tmp 46, .tmp 48]) rfl ?_); (try (refine gate_guard (by rfl) ?_; dsimp only)); at_builtin; refine Kd.R_append k67 (w0 := w) w.heap.size rfl (.tmp 46) (.tmp 48) 65 67 (.agg #[(.int .i64 0), (.int .u64 0), (.int .i64 0)]) 24 rfl Try.underlying65 info67 rfl (by decide) (by omega) u6 x6_1 (⟨ji15, ji17, (rd_T67 y153 x31_1).f2⟩ : S67) [.int .i64 ji15, .int .u64 ji17, .int .i64 ((rd_T67 y153 x31_1).f2)] (fun k_ => k_ ≠ gb177) (fun _ => False) rfl (by first | (go_simp; done) | (go_simp; rfl)) ?aP (fun _ hk => hk.elim) ?aF ?aO ?aB ?aS ?aL ?_; (case aP => exact k67_mkM _ _ _ (⟨ji15, ji17, (rd_T67 y153 x31_1).f2⟩ : S67)); (case aB => exact (by repeat (first | (with_reducible first | exact HB.out | apply below_alloc | apply pw_below_drewN | apply below_drew1 | refine below_set ?_ (IsS78.ge HI175.out) | refine below_set ?_ GE177.out) | exact HB.out))); (case aF => exact (fun k_ hk => Kd.freshB (g := gb177) (o := .cells #[.int .i64 ji15, .int .u64 ji17, .int .i64 ((rd_T67 y153 x31_1).f2)] 67 (0, 0)) (by (with_reducible repeat (first | refine blk_drewN ?_ _ | refine blk_drew ?_ | refine blk_alloc ?_ _)); refine blk_put (cs := #[.int .i64 ji15, .int .u64 ((rd_T67 y153 x31_1).f1), .int .i64 ((rd_T67 y153 x31_1).f2)]) ?_ 1 _ rfl; (with_reducible repeat (first | refine blk_drewN ?_ _ | refine blk_drew ?_ | refine blk_alloc ?_ _)); exact BK177.out) k_ hk)); (case aO => exact (by (with_reducible repeat (first | apply Kd.R_alloc | apply Kd.R_drewN | apply Kd.R_drew)); exact Kd.R_mono (Kd.R_far (p := ⟨gb177, 1, none⟩) (Kd.R_mono HO_6.out (fun k_ hk => (⟨hk, hk⟩ : _ ∧ k_ ≠ gb177))) (fun _ hk => hk.2) (.int .u64 ji17)) (fun _ hk => hk.1))); (case aS => exact (below_size (by repeat (first | (with_reducible first | exact HB.out | apply below_alloc | apply pw_below_drewN | apply below_drew1 | refine below_set ?_ (IsS78.ge HI175.out) | refine below_set ?_ GE177.out) | exact HB.out)))); (case aL => have := LMc18.out; omega); intro v179 w24 ho hb hg hat; rw [← Ny178.out] at ho; have n0_ := Aside0.mk (IsS78.grown (show IsS78 w _ g175 t173 t174 from by repeat (first | (with_reducible first | exact HI175.out | apply IsS78.alloc | apply IsS78.drewN | apply IsS78.drew | apply IsS78.set_0 | apply IsS78.set_1 | refine IsS78.far ?_ NB175_177.out _) | exact HI175.out)) hg (IsS78.own_ne HI175.out HO_6.out (by decide))); have n1_ := Aside0.mk (blk_grown (g := gb177) (o := .cells #[.int .i64 ji15, .int .u64 ji17, .int .i64 ((rd_T67 y153 x31_1).f2)] 67 (0, 0)) (by (with_reducible repeat (first | refine blk_drewN ?_ _ | refine blk_drew ?_ | refine blk_alloc ?_ _)); refine blk_put (cs := #[.int .i64 ji15, .int .u64 ((rd_T67 y153 x31_1).f1), .int .i64 ((rd_T67 y153 x31_1).f2)]) ?_ 1 _ rfl; (with_reducible repeat (first | refine blk_drewN ?_ _ | refine blk_drew ?_ | refine blk_alloc ?_ _)); exact BK177.out) hg (Kd.R_away HO_6.out (fun _ hk => hk))); have n2_ := Aside0.mk (hb); have n3_ := Aside0.mk (ho); clear HI175; clear BK177; clear HB; clear HO_6; have HI175 := n0_; have BK177 := n1_; have HB := n2_; have HO180 := n3_; clear n0_ n1_ n2_ n3_; clear ho hb hg hat))
                      go_roundg k1
                      case measure => have := HK1.out; omega
                      case rel => exact ⟨(y178), (wrap64 (x31_1 + 1)), (by first | rfl | (simp; done) | (simp [*]; done) | (simp; rw [Bool.eq_iff_iff]; simp; done)), H', ⟨by have := HK1.out; omega⟩, ⟨by (with_reducible repeat (first | apply Kd.R_alloc | apply Kd.R_drewN | apply Kd.R_drew)); exact Kd.R_mono HO180.out (fun _ hk => trivial)⟩, ⟨by repeat (first | (with_reducible first | exact HI175.out | apply IsS78.alloc | apply IsS78.drewN | apply IsS78.drew | apply IsS78.set_0 | apply IsS78.set_1 | refine IsS78.far ?_ NB175_177.out _) | exact HI175.out)⟩, ⟨by repeat (first | (with_reducible first | exact HB.out | apply below_alloc | apply pw_below_drewN | apply below_drew1 | refine below_set ?_ (IsS78.ge HI175.out) | refine below_set ?_ GE177.out) | exact HB.out)⟩⟩
                    · rw [if_neg c18] at H
                      exact absurd H (by simp)
                  · rw [if_neg c16] at H
                    have c16b0 : ((ji15) == 1) = false := beq_eq_false_iff_ne.mpr c16
                    have c16b1 : ((ji15) != 1) = true := bne_iff_ne.mpr c16
                    by_cases c25 : x6_1.length < 5864062014805
                    · rw [if_pos c25] at H
                      have LMc25 := Aside0.mk c25
                      clear c25
                      obtain ⟨y181, hy181⟩ : ∃ y_ : List (S67), y_ = (x6_1 ++ [(⟨ji15, (rd_T67 y153 x31_1).f1, (rd_T67 y153 x31_1).f2⟩ : S67)]) := ⟨_, rfl⟩
                      replace H : (dowserlaw01_VarintTakes.l0 k1 t152 y181 y153 (y153.length : Int) (wrap64 (x31_1 + 1)) t173 t174) = some r := by first | (rw [hy181]; with_reducible exact H) | (have H2_ := (Option.bind_some _ _).symm.trans H; rw [hy181]; with_reducible exact H2_) | (have H2_ := (Option.bind_some _ _).symm.trans H; with_reducible exact H2_) | with_reducible exact H | (rw [hy181]; exact H) | exact H
                      have Ny181 := Aside0.mk hy181
                      clear hy181
                      have H' := Aside0.mk H
                      clear H
                      have p176 : 0 ≤ (x31_1 : Int) := of_decide_eq_true (by first | (with_reducible assumption) | assumption)
                      have q176 : x31_1 < (y153.length : Int) := of_decide_eq_true (by first | (with_reducible assumption) | assumption)
                      obtain ⟨ad176, e176, hx176_0, hx176_1, hx176_2⟩ := at_T67 HR156.out x31_1 p176 q176
                      cases e176
                      replace hx176_0 := (HB.out.cell (World.block_lt_of_cell? w _ hx176_0)).trans hx176_0
                      replace hx176_1 := (HB.out.cell (World.block_lt_of_cell? w _ hx176_1)).trans hx176_1
                      replace hx176_2 := (HB.out.cell (World.block_lt_of_cell? w _ hx176_2)).trans hx176_2
                      replace p176 := eq_true p176
                      replace q176 := eq_true q176
                      go_wp2_with (first | ((with_reducible refine gate_dst (N := 8) rfl ?_); (try (refine gate_guard (by rfl) ?_; dsimp only)); refine box_event ?hg (N := 8) ?hd (cs := #[.int .i64 0, .int .u64 0, .int .i64 0]) (t := 67) ?hr ?_; (case hd => rfl); (case hg => rfl); (case hr => first | (go_simp; done) | (go_simp; rfl)); intro gb177 hg w26 hbox hb; have n0_ := Aside0.mk (Kd.R_below (Kd.R_elderB (by (with_reducible repeat (first | apply Kd.R_alloc | apply Kd.R_drewN | apply Kd.R_drew)); exact HO_6.out) gb177 (Nat.le_of_eq hg.symm)) hb); have n1_ := Aside0.mk (IsS78.below (by repeat (first | (with_reducible first | exact HI175.out | apply IsS78.alloc | apply IsS78.drewN | apply IsS78.drew | apply IsS78.set_0 | apply IsS78.set_1) | exact HI175.out)) hb); have n2_ := Aside0.mk (below_step (by repeat (first | (with_reducible first | exact HB.out | apply below_alloc | apply pw_below_drewN | apply below_drew1 | refine below_set ?_ (IsS78.ge HI175.out)) | exact HB.out)) hb); have n3_ := Aside0.mk (hbox); have n4_ := Aside0.mk ((by rw [hg]; exact (below_size (by repeat (first | (with_reducible first | exact HB.out | apply below_alloc | apply pw_below_drewN | apply below_drew1 | refine below_set ?_ (IsS78.ge HI175.out)) | exact HB.out))) : w.heap.size ≤ gb177)); have n5_ := Aside0.mk ((by rw [hg]; exact (below_size (by repeat (first | (with_reducible first | exact HB.out | apply below_alloc | apply pw_below_drewN | apply below_drew1 | refine below_set ?_ (IsS78.ge HI175.out)) | exact HB.out))) : w.heap.size ≤ gb177)); have n6_ := Aside0.mk ((by rw [hg]; exact Nat.ne_of_lt (IsS78.lt (show IsS78 w _ g175 t173 t174 from by repeat (first | (with_reducible first | exact HI175.out | apply IsS78.alloc | apply IsS78.drewN | apply IsS78.drew | apply IsS78.set_0 | apply IsS78.set_1) | exact HI175.out))) : g175 ≠ gb177)); have n7_ := Aside0.mk ((by rw [hg]; exact Nat.ne_of_gt (IsS78.lt (show IsS78 w _ g175 t173 t174 from by repeat (first | (with_reducible first | exact HI175.out | apply IsS78.alloc | apply IsS78.drewN | apply IsS78.drew | apply IsS78.set_0 | apply IsS78.set_1) | exact HI175.out))) : gb177 ≠ g175)); clear HO_6; clear HI175; clear HB; have HO_6 := n0_; have HI175 := n1_; have HB := n2_; have BK177 := n3_; have GW177 := n4_; have GE177 := n5_; have NB175_177 := n6_; have NB177_175 := n7_; clear n0_ n1_ n2_ n3_ n4_ n5_ n6_ n7_; clear hb hbox hg; have hnb27 := NB177_175.out; have hnc27 := NB175_177.out; have hcz28_0 : w26.cell? ⟨gb177, 0, none⟩ = some (.int .i64 0) := (blk_cell BK177.out 0).trans rfl; have hcz28_1 : w26.cell? ⟨gb177, 1, none⟩ = some (.int .u64 0) := (blk_cell BK177.out 1).trans rfl; have hcz28_2 : w26.cell? ⟨gb177, 2, none⟩ = some (.int .i64 0) := (blk_cell BK177.out 2).trans rfl; have hfz28_0 := blk_frozen BK177.out 0; have hfz28_1 := blk_frozen BK177.out 1; have hfz28_2 := blk_frozen BK177.out 2) | ((with_reducible refine gate_store (t := 3) (p := 38) rfl ?_); refine store_event (t := 3) (p := 38) (v := ?vo_w29) (w1 := ((((w26.setCell ⟨gb177, 0, none⟩ (.int .i64 ((rd_T67 y153 x31_1).f0))).setCell ⟨gb177, 1, none⟩ (.int .u64 ((rd_T67 y153 x31_1).f1))).setCell ⟨gb177, 2, none⟩ (.int .i64 ((rd_T67 y153 x31_1).f2))).setCell ⟨gb177, 0, none⟩ (.int .i64 ji15))) ?hg ?ho ?hn ?hr ?_; (case ho => rfl); (case hg => rfl); (case hn => rfl); (case hr => first | (go_simp; done) | (go_simp; rfl)); intro w29 hw; have n0_ : Aside0 (Kd.R k67 67 w29 w.heap.size (fun k_ => k_ ≠ gb177) u6 x6_1) := ⟨(by rw [hw]; exact (by (with_reducible repeat (first | apply Kd.R_alloc | apply Kd.R_drewN | apply Kd.R_drew)); exact Kd.R_mono (Kd.R_far (p := ⟨gb177, 0, none⟩) (Kd.R_far (p := ⟨gb177, 2, none⟩) (Kd.R_far (p := ⟨gb177, 1, none⟩) (Kd.R_far (p := ⟨gb177, 0, none⟩) (Kd.R_mono HO_6.out (fun k_ hk => (⟨hk, hk.2⟩ : _ ∧ k_ ≠ gb177))) (fun _ hk => hk.2) (.int .i64 ((rd_T67 y153 x31_1).f0))) (fun _ hk => hk.2) (.int .u64 ((rd_T67 y153 x31_1).f1))) (fun _ hk => hk.2) (.int .i64 ((rd_T67 y153 x31_1).f2))) (fun _ hk => hk.2) (.int .i64 ji15)) (fun _ hk => hk.1.2)))⟩; have n1_ : Aside0 (w29.heap[gb177]? = some (.cells #[.int .i64 ji15, .int .u64 ((rd_T67 y153 x31_1).f1), .int .i64 ((rd_T67 y153 x31_1).f2)] 67 (0, 0))) := ⟨(by rw [hw]; exact (by (with_reducible repeat (first | refine blk_drewN ?_ _ | refine blk_drew ?_ | refine blk_alloc ?_ _)); refine blk_put (cs := #[.int .i64 ((rd_T67 y153 x31_1).f0), .int .u64 ((rd_T67 y153 x31_1).f1), .int .i64 ((rd_T67 y153 x31_1).f2)]) ?_ 0 _ rfl; (with_reducible repeat (first | refine blk_drewN ?_ _ | refine blk_drew ?_ | refine blk_alloc ?_ _)); refine blk_put (cs := #[.int .i64 ((rd_T67 y153 x31_1).f0), .int .u64 ((rd_T67 y153 x31_1).f1), .int .i64 0]) ?_ 2 _ rfl; (with_reducible repeat (first | refine blk_drewN ?_ _ | refine blk_drew ?_ | refine blk_alloc ?_ _)); refine blk_put (cs := #[.int .i64 ((rd_T67 y153 x31_1).f0), .int .u64 0, .int .i64 0]) ?_ 1 _ rfl; (with_reducible repeat (first | refine blk_drewN ?_ _ | refine blk_drew ?_ | refine blk_alloc ?_ _)); refine blk_put (cs := #[.int .i64 0, .int .u64 0, .int .i64 0]) ?_ 0 _ rfl; (with_reducible repeat (first | refine blk_drewN ?_ _ | refine blk_drew ?_ | refine blk_alloc ?_ _)); exact BK177.out))⟩; have n2_ : Aside0 (IsS78 w w29 g175 t173 t174) := ⟨(by rw [hw]; exact (by repeat (first | (with_reducible first | exact HI175.out | apply IsS78.alloc | apply IsS78.drewN | apply IsS78.drew | apply IsS78.set_0 | apply IsS78.set_1 | refine IsS78.far ?_ NB175_177.out _) | exact HI175.out)))⟩; have n3_ : Aside0 (Below w.heap.size w w29) := ⟨(by rw [hw]; exact (by repeat (first | (with_reducible first | exact HB.out | apply below_alloc | apply pw_below_drewN | apply below_drew1 | refine below_set ?_ (IsS78.ge HI175.out) | refine below_set ?_ GE177.out) | exact HB.out)))⟩; clear hw; clear HO_6; clear BK177; clear HI175; clear HB; have HO_6 := n0_; have BK177 := n1_; have HI175 := n2_; have HB := n3_; clear n0_ n1_ n2_ n3_; have hcz30_0 : w29.cell? ⟨gb177, 0, none⟩ = some (.int .i64 ji15) := (blk_cell BK177.out 0).trans rfl; have hcz30_1 : w29.cell? ⟨gb177, 1, none⟩ = some (.int .u64 ((rd_T67 y153 x31_1).f1)) := (blk_cell BK177.out 1).trans rfl; have hcz30_2 : w29.cell? ⟨gb177, 2, none⟩ = some (.int .i64 ((rd_T67 y153 x31_1).f2)) := (blk_cell BK177.out 2).trans rfl; have hfz30_0 := blk_frozen BK177.out 0; have hfz30_1 := blk_frozen BK177.out 1; have hfz30_2 := blk_frozen BK177.out 2) | ((with_reducible refine gate_builtin (b := .append) (xs := #[.tmp 46, .tmp 48]) rfl ?_); (try (refine gate_guard (by rfl) ?_; dsimp only)); at_builtin; refine Kd.R_append k67 (w0 := w) w.heap.size rfl (.tmp 46) (.tmp 48) 65 67 (.agg #[(.int .i64 0), (.int .u64 0), (.int .i64 0)]) 24 rfl Try.underlying65 info67 rfl (by decide) (by omega) u6 x6_1 (⟨ji15, (rd_T67 y153 x31_1).f1, (rd_T67 y153 x31_1).f2⟩ : S67) [.int .i64 ji15, .int .u64 ((rd_T67 y153 x31_1).f1), .int .i64 ((rd_T67 y153 x31_1).f2)] (fun k_ => k_ ≠ gb177) (fun _ => False) rfl rfl ?aP (fun _ hk => hk.elim) ?aF ?aO ?aB ?aS ?aL ?_; (case aP => exact k67_mkM _ _ _ (⟨ji15, (rd_T67 y153 x31_1).f1, (rd_T67 y153 x31_1).f2⟩ : S67)); (case aB => exact (by repeat (first | (with_reducible first | exact HB.out | apply below_alloc | apply pw_below_drewN | apply below_drew1 | refine below_set ?_ (IsS78.ge HI175.out) | refine below_set ?_ GE177.out) | exact HB.out))); (case aF => exact (fun k_ hk => Kd.freshB (g := gb177) (o := .cells #[.int .i64 ji15, .int .u64 ((rd_T67 y153 x31_1).f1), .int .i64 ((rd_T67 y153 x31_1).f2)] 67 (0, 0)) (by (with_reducible repeat (first | refine blk_drewN ?_ _ | refine blk_drew ?_ | refine blk_alloc ?_ _)); exact BK177.out) k_ hk)); (case aO => exact (by (with_reducible repeat (first | apply Kd.R_alloc | apply Kd.R_drewN | apply Kd.R_drew)); exact HO_6.out)); (case aS => exact (below_size (by repeat (first | (with_reducible first | exact HB.out | apply below_alloc | apply pw_below_drewN | apply below_drew1 | refine below_set ?_ (IsS78.ge HI175.out) | refine below_set ?_ GE177.out) | exact HB.out)))); (case aL => have := LMc25.out; omega); intro v182 w31 ho hb hg hat; rw [← Ny181.out] at ho; have n0_ := Aside0.mk (IsS78.grown (show IsS78 w _ g175 t173 t174 from by repeat (first | (with_reducible first | exact HI175.out | apply IsS78.alloc | apply IsS78.drewN | apply IsS78.drew | apply IsS78.set_0 | apply IsS78.set_1 | refine IsS78.far ?_ NB175_177.out _) | exact HI175.out)) hg (IsS78.own_ne HI175.out HO_6.out (by decide))); have n1_ := Aside0.mk (blk_grown (g := gb177) (o := .cells #[.int .i64 ji15, .int .u64 ((rd_T67 y153 x31_1).f1), .int .i64 ((rd_T67 y153 x31_1).f2)] 67 (0, 0)) (by (with_reducible repeat (first | refine blk_drewN ?_ _ | refine blk_drew ?_ | refine blk_alloc ?_ _)); exact BK177.out) hg (Kd.R_away HO_6.out (fun _ hk => hk))); have n2_ := Aside0.mk (hb); have n3_ := Aside0.mk (ho); clear HI175; clear BK177; clear HB; clear HO_6; have HI175 := n0_; have BK177 := n1_; have HB := n2_; have HO183 := n3_; clear n0_ n1_ n2_ n3_; clear ho hb hg hat))
                      go_roundg k1
                      case measure => have := HK1.out; omega
                      case rel => exact ⟨(y181), (wrap64 (x31_1 + 1)), (by first | rfl | (simp; done) | (simp [*]; done) | (simp; rw [Bool.eq_iff_iff]; simp; done)), H', ⟨by have := HK1.out; omega⟩, ⟨by (with_reducible repeat (first | apply Kd.R_alloc | apply Kd.R_drewN | apply Kd.R_drew)); exact Kd.R_mono HO183.out (fun _ hk => trivial)⟩, ⟨by repeat (first | (with_reducible first | exact HI175.out | apply IsS78.alloc | apply IsS78.drewN | apply IsS78.drew | apply IsS78.set_0 | apply IsS78.set_1 | refine IsS78.far ?_ NB175_177.out _) | exact HI175.out)⟩, ⟨by repeat (first | (with_reducible first | exact HB.out | apply below_alloc | apply pw_below_drewN | apply below_drew1 | refine below_set ?_ (IsS78.ge HI175.out) | refine below_set ?_ GE177.out) | exact HB.out)⟩⟩
                    · rw [if_neg c25] at H
                      exact absurd H (by simp)
                · rw [if_neg c14] at H
                  exact absurd H (by simp)
              · rw [if_neg c13] at H
                exact absurd H (by simp)
            · rw [if_neg c12] at H
              have c12b0 : decide (x31_1 < (y153.length : Int)) = false := decide_eq_false c12
              clear c12
              replace H := Option.bind_eq_some_iff.mp H
              obtain ⟨⟨t184, t185, t186⟩, A320, H⟩ := H
              replace H : (dowserlaw01_VarintTakes.l1 k1 t184 t185 t186 x6_1 (x6_1.length : Int) 0 t173 t174) = some r := H
              have A32 := Aside0.mk A320
              clear A320
              have H' := Aside0.mk H
              clear H
              obtain ⟨Ao33, co33, eo33⟩ := Kd.R_slice HO_6.out
              subst eo33
              go_wp2_with (first | ((with_reducible refine gate_callee (f := 47) rfl ?_); refine goesL_ (some 54) rfl rfl Try.func47 (by kernel_rfl) rfl #[.string t152, .slice Ao33 x6_1.length co33] rfl (by (try simp only [List.map_toArray, List.map_cons, List.map_nil]); first | done | rfl | (simp only [List.length_drop, List.length_take]; rfl)) ?_; (with_reducible refine (dowserref01_Take.calls k1 t152 _ _ x6_1 t184 t185 t186 _ ?side1 ?side2 A32.out).mono ?_); (case side1 => repeat (first | exact (Kd.R_reads' HO_6.out).2.2 | (with_reducible refine Kd.C_alloc ?_ _) | (with_reducible refine Kd.C_drewN ?_ _) | (with_reducible refine Kd.C_drew ?_))); (case side2 => exact (Kd.R_reads' HO_6.out).2.1); rintro e w34 ⟨v187, rfl, ho0, hb⟩; refine ⟨_, rfl, ?_⟩; have n0_ := Aside0.mk (Kd.R_below (by (with_reducible repeat (first | apply Kd.R_alloc | apply Kd.R_drewN | apply Kd.R_drew)); exact HO_6.out) hb); have n1_ := Aside0.mk (Kd.R_lower ho0 (below_size (by repeat (first | (with_reducible first | exact HB.out | apply below_alloc | apply pw_below_drewN | apply below_drew1 | refine below_set ?_ (IsS78.ge HI175.out)) | exact HB.out)))); have n2_ := Aside0.mk (IsS78.below (by repeat (first | (with_reducible first | exact HI175.out | apply IsS78.alloc | apply IsS78.drewN | apply IsS78.drew | apply IsS78.set_0 | apply IsS78.set_1) | exact HI175.out)) hb); have n3_ := Aside0.mk (below_step (by repeat (first | (with_reducible first | exact HB.out | apply below_alloc | apply pw_below_drewN | apply below_drew1 | refine below_set ?_ (IsS78.ge HI175.out)) | exact HB.out)) hb); clear HO_6; clear HI175; clear HB; have HO_6 := n0_; have HO188 := n1_; have HI175 := n2_; have HB := n3_; clear n0_ n1_ n2_ n3_; (try clear hb); (try clear hb2); (try clear hk); (try clear hi); (try clear ho0)))
              go_loopg [60] k1 (fun kq v60 w' => ∃ (x60_2 : Int) (x176000_2 : ByteArray) (x176001_2 : Int), v60 = .int .i64 x60_2 ∧ Aside0 (dowserlaw01_VarintTakes.l1 kq t184 t185 t186 x6_1 (x6_1.length : Int) x60_2 x176000_2 x176001_2 = some r) ∧ Aside0 (kq ≤ k1) ∧ Aside0 (Kd.R Kd.string 9 w' w.heap.size (fun _ => True) v187 t184) ∧ Aside0 (Kd.R k67 67 w' w.heap.size (fun _ => True) (.slice Ao33 x6_1.length co33) x6_1) ∧ Aside0 (IsS78 w w' g175 x176000_2 x176001_2) ∧ Aside0 (Below w.heap.size w w'))
              case atStart => exact ⟨(0), (t173), (t174), (by first | rfl | (simp; done) | (simp [*]; done) | (simp; rw [Bool.eq_iff_iff]; simp; done)), H', ⟨Nat.le_refl _⟩, ⟨by (with_reducible repeat (first | apply Kd.R_alloc | apply Kd.R_drewN | apply Kd.R_drew)); exact HO188.out⟩, ⟨by (with_reducible repeat (first | apply Kd.R_alloc | apply Kd.R_drewN | apply Kd.R_drew)); exact HO_6.out⟩, ⟨by repeat (first | (with_reducible first | exact HI175.out | apply IsS78.alloc | apply IsS78.drewN | apply IsS78.drew | apply IsS78.set_0 | apply IsS78.set_1) | exact HI175.out)⟩, ⟨by repeat (first | (with_reducible first | exact HB.out | apply below_alloc | apply pw_below_drewN | apply below_drew1 | refine below_set ?_ (IsS78.ge HI175.out)) | exact HB.out)⟩⟩
              case round =>
                clear H'
                try clear c1
                try clear p1
                try clear q1
                try clear hx1
                try clear c2
                try clear p2
                try clear c4
                try clear c6
                try clear c6b0
                try clear c6b1
                try clear p6
                try clear c7
                try clear c7b0
                try clear c7b1
                try clear q10
                try clear c12
                try clear c12b0
                try clear c13
                try clear c13b0
                try clear c14
                try clear c14b0
                try clear c16
                try clear c16b0
                try clear c16b1
                try clear p17
                try clear q17
                try clear hx17
                try clear c18
                try clear c20
                try clear c25
                try clear c27
                try clear c29
                try clear hcz21_0
                try clear hcz21_1
                try clear hcz21_2
                try clear hcz23_0
                try clear hcz23_1
                try clear hcz23_2
                try clear hcz28_0
                try clear hcz28_1
                try clear hcz28_2
                try clear hcz30_0
                try clear hcz30_1
                try clear hcz30_2
                try clear hfz21_0
                try clear hfz21_1
                try clear hfz21_2
                try clear hfz23_0
                try clear hfz23_1
                try clear hfz23_2
                try clear hfz28_0
                try clear hfz28_1
                try clear hfz28_2
                try clear hfz30_0
                try clear hfz30_1
                try clear hfz30_2
                try clear hx176_0
                try clear hx176_1
                try clear hx176_2
                try clear p176
                try clear p2
                try clear q1
                try clear q10
                try clear q176
                obtain ⟨x60_2, x176000_2, x176001_2, rfl, HA, HK2, HO_9, HO_58, HI175, HB⟩ := hrel
                cases gk with
                | zero => exact absurd HA.out (by simp [dowserlaw01_VarintTakes.l1])
                | succ k2 =>
                  have H := HA.out
                  clear HA
                  simp only [dowserlaw01_VarintTakes.l1] at H
                  by_cases c35 : x60_2 < (x6_1.length : Int)
                  · rw [if_pos c35] at H
                    have c35b0 : decide (x60_2 < (x6_1.length : Int)) = true := decide_eq_true c35
                    clear c35
                    by_cases c36 : 0 ≤ x60_2
                    · rw [if_pos c36] at H
                      have c36b0 : decide (0 ≤ x60_2) = true := decide_eq_true c36
                      clear c36
                      by_cases c37 : x60_2 < (x6_1.length : Int)
                      · rw [if_pos c37] at H
                        have c37b0 : decide (x60_2 < (x6_1.length : Int)) = true := decide_eq_true c37
                        clear c37
                        by_cases c38 : ((rd_T67 x6_1 x60_2).f0) = 0
                        · rw [if_pos c38] at H
                          have c38b0 : (((rd_T67 x6_1 x60_2).f0) == 0) = true := beq_iff_eq.mpr c38
                          have c38b1 : (((rd_T67 x6_1 x60_2).f0) != 0) = false := bne_eq_false_iff_eq.mpr c38
                          clear c38
                          replace H := Option.bind_eq_some_iff.mp H
                          obtain ⟨⟨t191, t192, t193⟩, A390, H⟩ := H
                          replace H : ((dowserref01_Num.f k2 t191).bind fun t194 => (if x60_2 < (t184.length : Int) then (if t194.toList = (rdOf ByteArray.empty t184 x60_2).toList then (dowserlaw01_VarintTakes.l1 k2 t184 t185 t186 x6_1 (x6_1.length : Int) (wrap64 (x60_2 + 1)) t192 t193) else (none)) else (none))) = some r := H
                          have A39 := Aside0.mk A390
                          clear A390
                          replace H := Option.bind_eq_some_iff.mp H
                          obtain ⟨t194, A400, H⟩ := H
                          replace H : (if x60_2 < (t184.length : Int) then (if t194.toList = (rdOf ByteArray.empty t184 x60_2).toList then (dowserlaw01_VarintTakes.l1 k2 t184 t185 t186 x6_1 (x6_1.length : Int) (wrap64 (x60_2 + 1)) t192 t193) else (none)) else (none)) = some r := H
                          have A40 := Aside0.mk A400
                          clear A400
                          by_cases c41 : x60_2 < (t184.length : Int)
                          · rw [if_pos c41] at H
                            have c41b0 : decide (x60_2 < (t184.length : Int)) = true := decide_eq_true c41
                            clear c41
                            by_cases c42 : t194.toList = (rdOf ByteArray.empty t184 x60_2).toList
                            · rw [if_pos c42] at H
                              have c42b0 : (t194.toList == (rdOf ByteArray.empty t184 x60_2).toList) = true := beq_iff_eq.mpr c42
                              have c42b1 : (t194.toList != (rdOf ByteArray.empty t184 x60_2).toList) = false := bne_eq_false_iff_eq.mpr c42
                              clear c42
                              have H' := Aside0.mk H
                              clear H
                              have p189 : 0 ≤ (x60_2 : Int) := of_decide_eq_true (by first | (with_reducible assumption) | assumption)
                              have q189 : x60_2 < (x6_1.length : Int) := of_decide_eq_true (by first | (with_reducible assumption) | assumption)
                              obtain ⟨ad189, e189, hx189_0, hx189_1, hx189_2⟩ := at_T67 (Kd.R_reads' HO_58.out).2.2 x60_2 p189 q189
                              cases e189
                              replace p189 := eq_true p189
                              replace q189 := eq_true q189
                              go_wp2_with (first | ((with_reducible refine gate_dst (N := 13) rfl ?_); (try (refine gate_guard (by rfl) ?_; dsimp only)); refine box_event ?hg (N := 13) ?hd (cs := #[.int .i64 0, .int .u64 0, .int .i64 0]) (t := 67) ?hr ?_; (case hd => rfl); (case hg => rfl); (case hr => first | (go_simp; done) | (go_simp; rfl)); intro gb190 hg w43 hbox hb; have n0_ := Aside0.mk (Kd.R_below (by (with_reducible repeat (first | apply Kd.R_alloc | apply Kd.R_drewN | apply Kd.R_drew)); exact HO_9.out) hb); have n1_ := Aside0.mk (Kd.R_below (Kd.R_elderB (by (with_reducible repeat (first | apply Kd.R_alloc | apply Kd.R_drewN | apply Kd.R_drew)); exact HO_58.out) gb190 (Nat.le_of_eq hg.symm)) hb); have n2_ := Aside0.mk (IsS78.below (by repeat (first | (with_reducible first | exact HI175.out | apply IsS78.alloc | apply IsS78.drewN | apply IsS78.drew | apply IsS78.set_0 | apply IsS78.set_1) | exact HI175.out)) hb); have n3_ := Aside0.mk (below_step (by repeat (first | (with_reducible first | exact HB.out | apply below_alloc | apply pw_below_drewN | apply below_drew1 | refine below_set ?_ (IsS78.ge HI175.out)) | exact HB.out)) hb); have n4_ := Aside0.mk (hbox); have n5_ := Aside0.mk ((by rw [hg]; exact (below_size (by repeat (first | (with_reducible first | exact HB.out | apply below_alloc | apply pw_below_drewN | apply below_drew1 | refine below_set ?_ (IsS78.ge HI175.out)) | exact HB.out))) : w.heap.size ≤ gb190)); have n6_ := Aside0.mk ((by rw [hg]; exact (below_size (by repeat (first | (with_reducible first | exact HB.out | apply below_alloc | apply pw_below_drewN | apply below_drew1 | refine below_set ?_ (IsS78.ge HI175.out)) | exact HB.out))) : w.heap.size ≤ gb190)); have n7_ := Aside0.mk ((by rw [hg]; exact Nat.ne_of_lt (IsS78.lt (show IsS78 w _ g175 x176000_2 x176001_2 from by repeat (first | (with_reducible first | exact HI175.out | apply IsS78.alloc | apply IsS78.drewN | apply IsS78.drew | apply IsS78.set_0 | apply IsS78.set_1) | exact HI175.out))) : g175 ≠ gb190)); have n8_ := Aside0.mk ((by rw [hg]; exact Nat.ne_of_gt (IsS78.lt (show IsS78 w _ g175 x176000_2 x176001_2 from by repeat (first | (with_reducible first | exact HI175.out | apply IsS78.alloc | apply IsS78.drewN | apply IsS78.drew | apply IsS78.set_0 | apply IsS78.set_1) | exact HI175.out))) : gb190 ≠ g175)); clear HO_9; clear HO_58; clear HI175; clear HB; have HO_9 := n0_; have HO_58 := n1_; have HI175 := n2_; have HB := n3_; have BK190 := n4_; have GW190 := n5_; have GE190 := n6_; have NB175_190 := n7_; have NB190_175 := n8_; clear n0_ n1_ n2_ n3_ n4_ n5_ n6_ n7_ n8_; clear hb hbox hg; have hnb44 := NB190_175.out; have hnc44 := NB175_190.out; have hcz45_0 : w43.cell? ⟨gb190, 0, none⟩ = some (.int .i64 0) := (blk_cell BK190.out 0).trans rfl; have hcz45_1 : w43.cell? ⟨gb190, 1, none⟩ = some (.int .u64 0) := (blk_cell BK190.out 1).trans rfl; have hcz45_2 : w43.cell? ⟨gb190, 2, none⟩ = some (.int .i64 0) := (blk_cell BK190.out 2).trans rfl; have hfz45_0 := blk_frozen BK190.out 0; have hfz45_1 := blk_frozen BK190.out 1; have hfz45_2 := blk_frozen BK190.out 2) | ((with_reducible refine gate_callee (f := 30) rfl ?_); refine goesL_ (some 72) rfl rfl Try.func30 (by kernel_rfl) rfl #[.pointer (some ⟨g175, 0, none⟩), .int .u64 ((rd_T67 x6_1 x60_2).f1)] rfl (by (try simp only [List.map_toArray, List.map_cons, List.map_nil]); first | done | rfl | (simp only [List.length_drop, List.length_take]; rfl)) ?_; (with_reducible refine (varint_In_Num.calls k2 g175 x176000_2 x176001_2 ((rd_T67 x6_1 x60_2).f1) t191 t192 t193 w _ ?side1 ?side2 A39.out).mono ?_); (case side1 => repeat (first | (with_reducible first | exact HI175.out | apply IsS78.alloc | apply IsS78.drewN | apply IsS78.drew | apply IsS78.set_0 | apply IsS78.set_1 | refine IsS78.far ?_ NB175_190.out _) | exact HI175.out)); (case side2 => repeat (first | (with_reducible first | exact HB.out | apply below_alloc | apply pw_below_drewN | apply below_drew1 | refine below_set ?_ (IsS78.ge HI175.out) | refine below_set ?_ GE190.out) | exact HB.out)); rintro e w46 ⟨rfl, hi, hb, hk⟩; refine ⟨_, rfl, ?_⟩; have n0_ := Aside0.mk (Kd.R_mono (Kd.R_keep (IsS78.apart (show IsS78 w _ g175 x176000_2 x176001_2 from by repeat (first | (with_reducible first | exact HI175.out | apply IsS78.alloc | apply IsS78.drewN | apply IsS78.drew | apply IsS78.set_0 | apply IsS78.set_1 | refine IsS78.far ?_ NB175_190.out _) | exact HI175.out)) (by (with_reducible repeat (first | apply Kd.R_alloc | apply Kd.R_drewN | apply Kd.R_drew)); exact (Kd.R_mono (Kd.R_far (p := ⟨gb190, 2, none⟩) (Kd.R_far (p := ⟨gb190, 1, none⟩) (Kd.R_far (p := ⟨gb190, 0, none⟩) (Kd.R_types HO_9.out BK190.out (by decide)) (fun _ hk => hk.2) (.int .i64 ((rd_T67 x6_1 x60_2).f0))) (fun _ hk => hk.2) (.int .u64 ((rd_T67 x6_1 x60_2).f1))) (fun _ hk => hk.2) (.int .i64 ((rd_T67 x6_1 x60_2).f2))) (fun _ h_ => h_.1))) (by decide)) hk (fun _ h => h.2)) (fun _ h => h.1)); have n1_ := Aside0.mk (Kd.R_mono (Kd.R_keep (IsS78.apart (show IsS78 w _ g175 x176000_2 x176001_2 from by repeat (first | (with_reducible first | exact HI175.out | apply IsS78.alloc | apply IsS78.drewN | apply IsS78.drew | apply IsS78.set_0 | apply IsS78.set_1 | refine IsS78.far ?_ NB175_190.out _) | exact HI175.out)) (by (with_reducible repeat (first | apply Kd.R_alloc | apply Kd.R_drewN | apply Kd.R_drew)); exact (Kd.R_mono (Kd.R_far (p := ⟨gb190, 2, none⟩) (Kd.R_far (p := ⟨gb190, 1, none⟩) (Kd.R_far (p := ⟨gb190, 0, none⟩) (Kd.R_mono HO_58.out (fun k_ hk => (⟨hk, hk.2⟩ : _ ∧ k_ ≠ gb190))) (fun _ hk => hk.2) (.int .i64 ((rd_T67 x6_1 x60_2).f0))) (fun _ hk => hk.2) (.int .u64 ((rd_T67 x6_1 x60_2).f1))) (fun _ hk => hk.2) (.int .i64 ((rd_T67 x6_1 x60_2).f2))) (fun _ h_ => h_.1))) (by decide)) hk (fun _ h => h.2)) (fun _ h => h.1)); have n2_ := Aside0.mk (KeepBut.blk hk (g' := gb190) (o := .cells #[.int .i64 ((rd_T67 x6_1 x60_2).f0), .int .u64 ((rd_T67 x6_1 x60_2).f1), .int .i64 ((rd_T67 x6_1 x60_2).f2)] 67 (0, 0)) (by (with_reducible repeat (first | refine blk_drewN ?_ _ | refine blk_drew ?_ | refine blk_alloc ?_ _)); refine blk_put (cs := #[.int .i64 ((rd_T67 x6_1 x60_2).f0), .int .u64 ((rd_T67 x6_1 x60_2).f1), .int .i64 0]) ?_ 2 _ rfl; (with_reducible repeat (first | refine blk_drewN ?_ _ | refine blk_drew ?_ | refine blk_alloc ?_ _)); refine blk_put (cs := #[.int .i64 ((rd_T67 x6_1 x60_2).f0), .int .u64 0, .int .i64 0]) ?_ 1 _ rfl; (with_reducible repeat (first | refine blk_drewN ?_ _ | refine blk_drew ?_ | refine blk_alloc ?_ _)); refine blk_put (cs := #[.int .i64 0, .int .u64 0, .int .i64 0]) ?_ 0 _ rfl; (with_reducible repeat (first | refine blk_drewN ?_ _ | refine blk_drew ?_ | refine blk_alloc ?_ _)); exact BK190.out) NB190_175.out (by simp)); have n3_ := Aside0.mk (hb); have n4_ := Aside0.mk (hi); clear HO_9; clear HO_58; clear BK190; clear HB; clear HI175; have HO_9 := n0_; have HO_58 := n1_; have BK190 := n2_; have HB := n3_; have HI175 := n4_; clear n0_ n1_ n2_ n3_ n4_; (try clear hb); (try clear hb2); (try clear hk); (try clear hi)) | ((with_reducible refine gate_callee (f := 31) rfl ?_); refine goesL_ (some 73) rfl rfl Try.func31 (by kernel_rfl) rfl #[.int .u64 t191] rfl (by (try simp only [List.map_toArray, List.map_cons, List.map_nil]); first | done | rfl | (simp only [List.length_drop, List.length_take]; rfl)) ?_; (with_reducible refine (dowserref01_Num.calls k2 t191 t194 _ A40.out).mono ?_); rintro e w47 ⟨rfl, hb⟩; refine ⟨_, rfl, ?_⟩; have n0_ := Aside0.mk (Kd.R_below (by (with_reducible repeat (first | apply Kd.R_alloc | apply Kd.R_drewN | apply Kd.R_drew)); exact HO_9.out) hb); have n1_ := Aside0.mk (Kd.R_below (by (with_reducible repeat (first | apply Kd.R_alloc | apply Kd.R_drewN | apply Kd.R_drew)); exact HO_58.out) hb); have n2_ := Aside0.mk (IsS78.below (by repeat (first | (with_reducible first | exact HI175.out | apply IsS78.alloc | apply IsS78.drewN | apply IsS78.drew | apply IsS78.set_0 | apply IsS78.set_1 | refine IsS78.far ?_ NB175_190.out _) | exact HI175.out)) hb); have n3_ := Aside0.mk (blk_below (g := gb190) (o := .cells #[.int .i64 ((rd_T67 x6_1 x60_2).f0), .int .u64 ((rd_T67 x6_1 x60_2).f1), .int .i64 ((rd_T67 x6_1 x60_2).f2)] 67 (0, 0)) (by (with_reducible repeat (first | refine blk_drewN ?_ _ | refine blk_drew ?_ | refine blk_alloc ?_ _)); exact BK190.out) hb); have n4_ := Aside0.mk (below_step (by repeat (first | (with_reducible first | exact HB.out | apply below_alloc | apply pw_below_drewN | apply below_drew1 | refine below_set ?_ (IsS78.ge HI175.out) | refine below_set ?_ GE190.out) | exact HB.out)) hb); clear HO_9; clear HO_58; clear HI175; clear BK190; clear HB; have HO_9 := n0_; have HO_58 := n1_; have HI175 := n2_; have BK190 := n3_; have HB := n4_; clear n0_ n1_ n2_ n3_ n4_; (try clear hb); (try clear hb2); (try clear hk); (try clear hi); obtain ⟨Ao48, co48, eo48⟩ := Kd.R_slice HO_9.out; subst eo48; have p195 : 0 ≤ (x60_2 : Int) := of_decide_eq_true (by first | (with_reducible assumption) | assumption); have q195 : x60_2 < (t184.length : Int) := of_decide_eq_true (by first | (with_reducible assumption) | assumption); obtain ⟨ad195, e195, hx195_0⟩ := Kd.at_string (Kd.R_reads' HO_9.out).2.2 x60_2 p195 q195; cases e195; replace p195 := eq_true p195; replace q195 := eq_true q195))
                              go_roundg k2
                              case measure => have := HK1.out; have := HK2.out; omega
                              case rel => exact ⟨(wrap64 (x60_2 + 1)), (t192), (t193), (by first | rfl | (simp; done) | (simp [*]; done) | (simp; rw [Bool.eq_iff_iff]; simp; done)), H', ⟨by have := HK1.out; have := HK2.out; omega⟩, ⟨by (with_reducible repeat (first | apply Kd.R_alloc | apply Kd.R_drewN | apply Kd.R_drew)); exact HO_9.out⟩, ⟨by (with_reducible repeat (first | apply Kd.R_alloc | apply Kd.R_drewN | apply Kd.R_drew)); exact Kd.R_mono HO_58.out (fun _ hk => trivial)⟩, ⟨by repeat (first | (with_reducible first | exact HI175.out | apply IsS78.alloc | apply IsS78.drewN | apply IsS78.drew | apply IsS78.set_0 | apply IsS78.set_1 | refine IsS78.far ?_ NB175_190.out _) | exact HI175.out)⟩, ⟨by repeat (first | (with_reducible first | exact HB.out | apply below_alloc | apply pw_below_drewN | apply below_drew1 | refine below_set ?_ (IsS78.ge HI175.out) | refine below_set ?_ GE190.out) | exact HB.out)⟩⟩
                            · rw [if_neg c42] at H
                              exact absurd H (by simp)
                          · rw [if_neg c41] at H
                            exact absurd H (by simp)
                        · rw [if_neg c38] at H
                          have c38b0 : (((rd_T67 x6_1 x60_2).f0) == 0) = false := beq_eq_false_iff_ne.mpr c38
                          have c38b1 : (((rd_T67 x6_1 x60_2).f0) != 0) = true := bne_iff_ne.mpr c38
                          by_cases c49 : ((rd_T67 x6_1 x60_2).f0) = 1
                          · rw [if_pos c49] at H
                            have c49b0 : (((rd_T67 x6_1 x60_2).f0) == 1) = true := beq_iff_eq.mpr c49
                            have c49b1 : (((rd_T67 x6_1 x60_2).f0) != 1) = false := bne_eq_false_iff_eq.mpr c49
                            clear c49
                            replace H := Option.bind_eq_some_iff.mp H
                            obtain ⟨⟨t196, t197, t198⟩, A500, H⟩ := H
                            replace H : (if x60_2 < (t184.length : Int) then (if t196.toList = (rdOf ByteArray.empty t184 x60_2).toList then (dowserlaw01_VarintTakes.l1 k2 t184 t185 t186 x6_1 (x6_1.length : Int) (wrap64 (x60_2 + 1)) t197 t198) else (none)) else (none)) = some r := H
                            have A50 := Aside0.mk A500
                            clear A500
                            by_cases c51 : x60_2 < (t184.length : Int)
                            · rw [if_pos c51] at H
                              have c51b0 : decide (x60_2 < (t184.length : Int)) = true := decide_eq_true c51
                              clear c51
                              by_cases c52 : t196.toList = (rdOf ByteArray.empty t184 x60_2).toList
                              · rw [if_pos c52] at H
                                have c52b0 : (t196.toList == (rdOf ByteArray.empty t184 x60_2).toList) = true := beq_iff_eq.mpr c52
                                have c52b1 : (t196.toList != (rdOf ByteArray.empty t184 x60_2).toList) = false := bne_eq_false_iff_eq.mpr c52
                                clear c52
                                have H' := Aside0.mk H
                                clear H
                                have p189 : 0 ≤ (x60_2 : Int) := of_decide_eq_true (by first | (with_reducible assumption) | assumption)
                                have q189 : x60_2 < (x6_1.length : Int) := of_decide_eq_true (by first | (with_reducible assumption) | assumption)
                                obtain ⟨ad189, e189, hx189_0, hx189_1, hx189_2⟩ := at_T67 (Kd.R_reads' HO_58.out).2.2 x60_2 p189 q189
                                cases e189
                                replace p189 := eq_true p189
                                replace q189 := eq_true q189
                                go_wp2_with (first | ((with_reducible refine gate_dst (N := 13) rfl ?_); (try (refine gate_guard (by rfl) ?_; dsimp only)); refine box_event ?hg (N := 13) ?hd (cs := #[.int .i64 0, .int .u64 0, .int .i64 0]) (t := 67) ?hr ?_; (case hd => rfl); (case hg => rfl); (case hr => first | (go_simp; done) | (go_simp; rfl)); intro gb190 hg w53 hbox hb; have n0_ := Aside0.mk (Kd.R_below (by (with_reducible repeat (first | apply Kd.R_alloc | apply Kd.R_drewN | apply Kd.R_drew)); exact HO_9.out) hb); have n1_ := Aside0.mk (Kd.R_below (Kd.R_elderB (by (with_reducible repeat (first | apply Kd.R_alloc | apply Kd.R_drewN | apply Kd.R_drew)); exact HO_58.out) gb190 (Nat.le_of_eq hg.symm)) hb); have n2_ := Aside0.mk (IsS78.below (by repeat (first | (with_reducible first | exact HI175.out | apply IsS78.alloc | apply IsS78.drewN | apply IsS78.drew | apply IsS78.set_0 | apply IsS78.set_1) | exact HI175.out)) hb); have n3_ := Aside0.mk (below_step (by repeat (first | (with_reducible first | exact HB.out | apply below_alloc | apply pw_below_drewN | apply below_drew1 | refine below_set ?_ (IsS78.ge HI175.out)) | exact HB.out)) hb); have n4_ := Aside0.mk (hbox); have n5_ := Aside0.mk ((by rw [hg]; exact (below_size (by repeat (first | (with_reducible first | exact HB.out | apply below_alloc | apply pw_below_drewN | apply below_drew1 | refine below_set ?_ (IsS78.ge HI175.out)) | exact HB.out))) : w.heap.size ≤ gb190)); have n6_ := Aside0.mk ((by rw [hg]; exact (below_size (by repeat (first | (with_reducible first | exact HB.out | apply below_alloc | apply pw_below_drewN | apply below_drew1 | refine below_set ?_ (IsS78.ge HI175.out)) | exact HB.out))) : w.heap.size ≤ gb190)); have n7_ := Aside0.mk ((by rw [hg]; exact Nat.ne_of_lt (IsS78.lt (show IsS78 w _ g175 x176000_2 x176001_2 from by repeat (first | (with_reducible first | exact HI175.out | apply IsS78.alloc | apply IsS78.drewN | apply IsS78.drew | apply IsS78.set_0 | apply IsS78.set_1) | exact HI175.out))) : g175 ≠ gb190)); have n8_ := Aside0.mk ((by rw [hg]; exact Nat.ne_of_gt (IsS78.lt (show IsS78 w _ g175 x176000_2 x176001_2 from by repeat (first | (with_reducible first | exact HI175.out | apply IsS78.alloc | apply IsS78.drewN | apply IsS78.drew | apply IsS78.set_0 | apply IsS78.set_1) | exact HI175.out))) : gb190 ≠ g175)); clear HO_9; clear HO_58; clear HI175; clear HB; have HO_9 := n0_; have HO_58 := n1_; have HI175 := n2_; have HB := n3_; have BK190 := n4_; have GW190 := n5_; have GE190 := n6_; have NB175_190 := n7_; have NB190_175 := n8_; clear n0_ n1_ n2_ n3_ n4_ n5_ n6_ n7_ n8_; clear hb hbox hg; have hnb54 := NB190_175.out; have hnc54 := NB175_190.out; have hcz55_0 : w53.cell? ⟨gb190, 0, none⟩ = some (.int .i64 0) := (blk_cell BK190.out 0).trans rfl; have hcz55_1 : w53.cell? ⟨gb190, 1, none⟩ = some (.int .u64 0) := (blk_cell BK190.out 1).trans rfl; have hcz55_2 : w53.cell? ⟨gb190, 2, none⟩ = some (.int .i64 0) := (blk_cell BK190.out 2).trans rfl; have hfz55_0 := blk_frozen BK190.out 0; have hfz55_1 := blk_frozen BK190.out 1; have hfz55_2 := blk_frozen BK190.out 2) | ((with_reducible refine gate_callee (f := 44) rfl ?_); refine goesL_ (some 80) rfl rfl Try.func44 (by kernel_rfl) rfl #[.pointer (some ⟨g175, 0, none⟩), .int .i64 (wrap64 ((rd_T67 x6_1 x60_2).f1))] rfl (by (try simp only [List.map_toArray, List.map_cons, List.map_nil]); first | done | rfl | (simp only [List.length_drop, List.length_take]; rfl)) ?_; (with_reducible refine (varint_In_Text.calls k2 g175 x176000_2 x176001_2 (wrap64 ((rd_T67 x6_1 x60_2).f1)) t196 t197 t198 w _ ?side1 ?side2 A50.out).mono ?_); (case side1 => repeat (first | (with_reducible first | exact HI175.out | apply IsS78.alloc | apply IsS78.drewN | apply IsS78.drew | apply IsS78.set_0 | apply IsS78.set_1 | refine IsS78.far ?_ NB175_190.out _) | exact HI175.out)); (case side2 => repeat (first | (with_reducible first | exact HB.out | apply below_alloc | apply pw_below_drewN | apply below_drew1 | refine below_set ?_ (IsS78.ge HI175.out) | refine below_set ?_ GE190.out) | exact HB.out)); rintro e w56 ⟨rfl, hi, hb, hk⟩; refine ⟨_, rfl, ?_⟩; have n0_ := Aside0.mk (Kd.R_mono (Kd.R_keep (IsS78.apart (show IsS78 w _ g175 x176000_2 x176001_2 from by repeat (first | (with_reducible first | exact HI175.out | apply IsS78.alloc | apply IsS78.drewN | apply IsS78.drew | apply IsS78.set_0 | apply IsS78.set_1 | refine IsS78.far ?_ NB175_190.out _) | exact HI175.out)) (by (with_reducible repeat (first | apply Kd.R_alloc | apply Kd.R_drewN | apply Kd.R_drew)); exact (Kd.R_mono (Kd.R_far (p := ⟨gb190, 2, none⟩) (Kd.R_far (p := ⟨gb190, 1, none⟩) (Kd.R_far (p := ⟨gb190, 0, none⟩) (Kd.R_types HO_9.out BK190.out (by decide)) (fun _ hk => hk.2) (.int .i64 ((rd_T67 x6_1 x60_2).f0))) (fun _ hk => hk.2) (.int .u64 ((rd_T67 x6_1 x60_2).f1))) (fun _ hk => hk.2) (.int .i64 ((rd_T67 x6_1 x60_2).f2))) (fun _ h_ => h_.1))) (by decide)) hk (fun _ h => h.2)) (fun _ h => h.1)); have n1_ := Aside0.mk (Kd.R_mono (Kd.R_keep (IsS78.apart (show IsS78 w _ g175 x176000_2 x176001_2 from by repeat (first | (with_reducible first | exact HI175.out | apply IsS78.alloc | apply IsS78.drewN | apply IsS78.drew | apply IsS78.set_0 | apply IsS78.set_1 | refine IsS78.far ?_ NB175_190.out _) | exact HI175.out)) (by (with_reducible repeat (first | apply Kd.R_alloc | apply Kd.R_drewN | apply Kd.R_drew)); exact (Kd.R_mono (Kd.R_far (p := ⟨gb190, 2, none⟩) (Kd.R_far (p := ⟨gb190, 1, none⟩) (Kd.R_far (p := ⟨gb190, 0, none⟩) (Kd.R_mono HO_58.out (fun k_ hk => (⟨hk, hk.2⟩ : _ ∧ k_ ≠ gb190))) (fun _ hk => hk.2) (.int .i64 ((rd_T67 x6_1 x60_2).f0))) (fun _ hk => hk.2) (.int .u64 ((rd_T67 x6_1 x60_2).f1))) (fun _ hk => hk.2) (.int .i64 ((rd_T67 x6_1 x60_2).f2))) (fun _ h_ => h_.1))) (by decide)) hk (fun _ h => h.2)) (fun _ h => h.1)); have n2_ := Aside0.mk (KeepBut.blk hk (g' := gb190) (o := .cells #[.int .i64 ((rd_T67 x6_1 x60_2).f0), .int .u64 ((rd_T67 x6_1 x60_2).f1), .int .i64 ((rd_T67 x6_1 x60_2).f2)] 67 (0, 0)) (by (with_reducible repeat (first | refine blk_drewN ?_ _ | refine blk_drew ?_ | refine blk_alloc ?_ _)); refine blk_put (cs := #[.int .i64 ((rd_T67 x6_1 x60_2).f0), .int .u64 ((rd_T67 x6_1 x60_2).f1), .int .i64 0]) ?_ 2 _ rfl; (with_reducible repeat (first | refine blk_drewN ?_ _ | refine blk_drew ?_ | refine blk_alloc ?_ _)); refine blk_put (cs := #[.int .i64 ((rd_T67 x6_1 x60_2).f0), .int .u64 0, .int .i64 0]) ?_ 1 _ rfl; (with_reducible repeat (first | refine blk_drewN ?_ _ | refine blk_drew ?_ | refine blk_alloc ?_ _)); refine blk_put (cs := #[.int .i64 0, .int .u64 0, .int .i64 0]) ?_ 0 _ rfl; (with_reducible repeat (first | refine blk_drewN ?_ _ | refine blk_drew ?_ | refine blk_alloc ?_ _)); exact BK190.out) NB190_175.out (by simp)); have n3_ := Aside0.mk (hb); have n4_ := Aside0.mk (hi); clear HO_9; clear HO_58; clear BK190; clear HB; clear HI175; have HO_9 := n0_; have HO_58 := n1_; have BK190 := n2_; have HB := n3_; have HI175 := n4_; clear n0_ n1_ n2_ n3_ n4_; (try clear hb); (try clear hb2); (try clear hk); (try clear hi); obtain ⟨Ao57, co57, eo57⟩ := Kd.R_slice HO_9.out; subst eo57; have p199 : 0 ≤ (x60_2 : Int) := of_decide_eq_true (by first | (with_reducible assumption) | assumption); have q199 : x60_2 < (t184.length : Int) := of_decide_eq_true (by first | (with_reducible assumption) | assumption); obtain ⟨ad199, e199, hx199_0⟩ := Kd.at_string (Kd.R_reads' HO_9.out).2.2 x60_2 p199 q199; cases e199; replace p199 := eq_true p199; replace q199 := eq_true q199))
                                go_roundg k2
                                case measure => have := HK1.out; have := HK2.out; omega
                                case rel => exact ⟨(wrap64 (x60_2 + 1)), (t197), (t198), (by first | rfl | (simp; done) | (simp [*]; done) | (simp; rw [Bool.eq_iff_iff]; simp; done)), H', ⟨by have := HK1.out; have := HK2.out; omega⟩, ⟨by (with_reducible repeat (first | apply Kd.R_alloc | apply Kd.R_drewN | apply Kd.R_drew)); exact HO_9.out⟩, ⟨by (with_reducible repeat (first | apply Kd.R_alloc | apply Kd.R_drewN | apply Kd.R_drew)); exact Kd.R_mono HO_58.out (fun _ hk => trivial)⟩, ⟨by repeat (first | (with_reducible first | exact HI175.out | apply IsS78.alloc | apply IsS78.drewN | apply IsS78.drew | apply IsS78.set_0 | apply IsS78.set_1 | refine IsS78.far ?_ NB175_190.out _) | exact HI175.out)⟩, ⟨by repeat (first | (with_reducible first | exact HB.out | apply below_alloc | apply pw_below_drewN | apply below_drew1 | refine below_set ?_ (IsS78.ge HI175.out) | refine below_set ?_ GE190.out) | exact HB.out)⟩⟩
                              · rw [if_neg c52] at H
                                exact absurd H (by simp)
                            · rw [if_neg c51] at H
                              exact absurd H (by simp)
                          · rw [if_neg c49] at H
                            have c49b0 : (((rd_T67 x6_1 x60_2).f0) == 1) = false := beq_eq_false_iff_ne.mpr c49
                            have c49b1 : (((rd_T67 x6_1 x60_2).f0) != 1) = true := bne_iff_ne.mpr c49
                            by_cases c58 : ((rd_T67 x6_1 x60_2).f0) = 2
                            · rw [if_pos c58] at H
                              have c58b0 : (((rd_T67 x6_1 x60_2).f0) == 2) = true := beq_iff_eq.mpr c58
                              have c58b1 : (((rd_T67 x6_1 x60_2).f0) != 2) = false := bne_eq_false_iff_eq.mpr c58
                              clear c58
                              replace H := Option.bind_eq_some_iff.mp H
                              obtain ⟨⟨t200, t201, t202⟩, A590, H⟩ := H
                              replace H : (if x60_2 < (t184.length : Int) then (if t200.toList = (rdOf ByteArray.empty t184 x60_2).toList then (dowserlaw01_VarintTakes.l1 k2 t184 t185 t186 x6_1 (x6_1.length : Int) (wrap64 (x60_2 + 1)) t201 t202) else (none)) else (none)) = some r := H
                              have A59 := Aside0.mk A590
                              clear A590
                              by_cases c60 : x60_2 < (t184.length : Int)
                              · rw [if_pos c60] at H
                                have c60b0 : decide (x60_2 < (t184.length : Int)) = true := decide_eq_true c60
                                clear c60
                                by_cases c61 : t200.toList = (rdOf ByteArray.empty t184 x60_2).toList
                                · rw [if_pos c61] at H
                                  have c61b0 : (t200.toList == (rdOf ByteArray.empty t184 x60_2).toList) = true := beq_iff_eq.mpr c61
                                  have c61b1 : (t200.toList != (rdOf ByteArray.empty t184 x60_2).toList) = false := bne_eq_false_iff_eq.mpr c61
                                  clear c61
                                  have H' := Aside0.mk H
                                  clear H
                                  have p189 : 0 ≤ (x60_2 : Int) := of_decide_eq_true (by first | (with_reducible assumption) | assumption)
                                  have q189 : x60_2 < (x6_1.length : Int) := of_decide_eq_true (by first | (with_reducible assumption) | assumption)
                                  obtain ⟨ad189, e189, hx189_0, hx189_1, hx189_2⟩ := at_T67 (Kd.R_reads' HO_58.out).2.2 x60_2 p189 q189
                                  cases e189
                                  replace p189 := eq_true p189
                                  replace q189 := eq_true q189
                                  go_wp2_with (first | ((with_reducible refine gate_dst (N := 13) rfl ?_); (try (refine gate_guard (by rfl) ?_; dsimp only)); refine box_event ?hg (N := 13) ?hd (cs := #[.int .i64 0, .int .u64 0, .int .i64 0]) (t := 67) ?hr ?_; (case hd => rfl); (case hg => rfl); (case hr => first | (go_simp; done) | (go_simp; rfl)); intro gb190 hg w62 hbox hb; have n0_ := Aside0.mk (Kd.R_below (by (with_reducible repeat (first | apply Kd.R_alloc | apply Kd.R_drewN | apply Kd.R_drew)); exact HO_9.out) hb); have n1_ := Aside0.mk (Kd.R_below (Kd.R_elderB (by (with_reducible repeat (first | apply Kd.R_alloc | apply Kd.R_drewN | apply Kd.R_drew)); exact HO_58.out) gb190 (Nat.le_of_eq hg.symm)) hb); have n2_ := Aside0.mk (IsS78.below (by repeat (first | (with_reducible first | exact HI175.out | apply IsS78.alloc | apply IsS78.drewN | apply IsS78.drew | apply IsS78.set_0 | apply IsS78.set_1) | exact HI175.out)) hb); have n3_ := Aside0.mk (below_step (by repeat (first | (with_reducible first | exact HB.out | apply below_alloc | apply pw_below_drewN | apply below_drew1 | refine below_set ?_ (IsS78.ge HI175.out)) | exact HB.out)) hb); have n4_ := Aside0.mk (hbox); have n5_ := Aside0.mk ((by rw [hg]; exact (below_size (by repeat (first | (with_reducible first | exact HB.out | apply below_alloc | apply pw_below_drewN | apply below_drew1 | refine below_set ?_ (IsS78.ge HI175.out)) | exact HB.out))) : w.heap.size ≤ gb190)); have n6_ := Aside0.mk ((by rw [hg]; exact (below_size (by repeat (first | (with_reducible first | exact HB.out | apply below_alloc | apply pw_below_drewN | apply below_drew1 | refine below_set ?_ (IsS78.ge HI175.out)) | exact HB.out))) : w.heap.size ≤ gb190)); have n7_ := Aside0.mk ((by rw [hg]; exact Nat.ne_of_lt (IsS78.lt (show IsS78 w _ g175 x176000_2 x176001_2 from by repeat (first | (with_reducible first | exact HI175.out | apply IsS78.alloc | apply IsS78.drewN | apply IsS78.drew | apply IsS78.set_0 | apply IsS78.set_1) | exact HI175.out))) : g175 ≠ gb190)); have n8_ := Aside0.mk ((by rw [hg]; exact Nat.ne_of_gt (IsS78.lt (show IsS78 w _ g175 x176000_2 x176001_2 from by repeat (first | (with_reducible first | exact HI175.out | apply IsS78.alloc | apply IsS78.drewN | apply IsS78.drew | apply IsS78.set_0 | apply IsS78.set_1) | exact HI175.out))) : gb190 ≠ g175)); clear HO_9; clear HO_58; clear HI175; clear HB; have HO_9 := n0_; have HO_58 := n1_; have HI175 := n2_; have HB := n3_; have BK190 := n4_; have GW190 := n5_; have GE190 := n6_; have NB175_190 := n7_; have NB190_175 := n8_; clear n0_ n1_ n2_ n3_ n4_ n5_ n6_ n7_ n8_; clear hb hbox hg; have hnb63 := NB190_175.out; have hnc63 := NB175_190.out; have hcz64_0 : w62.cell? ⟨gb190, 0, none⟩ = some (.int .i64 0) := (blk_cell BK190.out 0).trans rfl; have hcz64_1 : w62.cell? ⟨gb190, 1, none⟩ = some (.int .u64 0) := (blk_cell BK190.out 1).trans rfl; have hcz64_2 : w62.cell? ⟨gb190, 2, none⟩ = some (.int .i64 0) := (blk_cell BK190.out 2).trans rfl; have hfz64_0 := blk_frozen BK190.out 0; have hfz64_1 := blk_frozen BK190.out 1; have hfz64_2 := blk_frozen BK190.out 2) | ((with_reducible refine gate_callee (f := 48) rfl ?_); refine goesL_ (some 86) rfl rfl Try.func48 (by kernel_rfl) rfl #[.pointer (some ⟨g175, 0, none⟩), .int .i64 ((rd_T67 x6_1 x60_2).f2)] rfl (by (try simp only [List.map_toArray, List.map_cons, List.map_nil]); first | done | rfl | (simp only [List.length_drop, List.length_take]; rfl)) ?_; (with_reducible refine (varint_In_Raw.calls g175 x176000_2 x176001_2 ((rd_T67 x6_1 x60_2).f2) t200 t201 t202 w _ ?side1 ?side2 A59.out).mono ?_); (case side1 => repeat (first | (with_reducible first | exact HI175.out | apply IsS78.alloc | apply IsS78.drewN | apply IsS78.drew | apply IsS78.set_0 | apply IsS78.set_1 | refine IsS78.far ?_ NB175_190.out _) | exact HI175.out)); (case side2 => repeat (first | (with_reducible first | exact HB.out | apply below_alloc | apply pw_below_drewN | apply below_drew1 | refine below_set ?_ (IsS78.ge HI175.out) | refine below_set ?_ GE190.out) | exact HB.out)); rintro e w65 ⟨rfl, hi, hb, hk⟩; refine ⟨_, rfl, ?_⟩; have n0_ := Aside0.mk (Kd.R_mono (Kd.R_keep (IsS78.apart (show IsS78 w _ g175 x176000_2 x176001_2 from by repeat (first | (with_reducible first | exact HI175.out | apply IsS78.alloc | apply IsS78.drewN | apply IsS78.drew | apply IsS78.set_0 | apply IsS78.set_1 | refine IsS78.far ?_ NB175_190.out _) | exact HI175.out)) (by (with_reducible repeat (first | apply Kd.R_alloc | apply Kd.R_drewN | apply Kd.R_drew)); exact (Kd.R_mono (Kd.R_far (p := ⟨gb190, 2, none⟩) (Kd.R_far (p := ⟨gb190, 1, none⟩) (Kd.R_far (p := ⟨gb190, 0, none⟩) (Kd.R_types HO_9.out BK190.out (by decide)) (fun _ hk => hk.2) (.int .i64 ((rd_T67 x6_1 x60_2).f0))) (fun _ hk => hk.2) (.int .u64 ((rd_T67 x6_1 x60_2).f1))) (fun _ hk => hk.2) (.int .i64 ((rd_T67 x6_1 x60_2).f2))) (fun _ h_ => h_.1))) (by decide)) hk (fun _ h => h.2)) (fun _ h => h.1)); have n1_ := Aside0.mk (Kd.R_mono (Kd.R_keep (IsS78.apart (show IsS78 w _ g175 x176000_2 x176001_2 from by repeat (first | (with_reducible first | exact HI175.out | apply IsS78.alloc | apply IsS78.drewN | apply IsS78.drew | apply IsS78.set_0 | apply IsS78.set_1 | refine IsS78.far ?_ NB175_190.out _) | exact HI175.out)) (by (with_reducible repeat (first | apply Kd.R_alloc | apply Kd.R_drewN | apply Kd.R_drew)); exact (Kd.R_mono (Kd.R_far (p := ⟨gb190, 2, none⟩) (Kd.R_far (p := ⟨gb190, 1, none⟩) (Kd.R_far (p := ⟨gb190, 0, none⟩) (Kd.R_mono HO_58.out (fun k_ hk => (⟨hk, hk.2⟩ : _ ∧ k_ ≠ gb190))) (fun _ hk => hk.2) (.int .i64 ((rd_T67 x6_1 x60_2).f0))) (fun _ hk => hk.2) (.int .u64 ((rd_T67 x6_1 x60_2).f1))) (fun _ hk => hk.2) (.int .i64 ((rd_T67 x6_1 x60_2).f2))) (fun _ h_ => h_.1))) (by decide)) hk (fun _ h => h.2)) (fun _ h => h.1)); have n2_ := Aside0.mk (KeepBut.blk hk (g' := gb190) (o := .cells #[.int .i64 ((rd_T67 x6_1 x60_2).f0), .int .u64 ((rd_T67 x6_1 x60_2).f1), .int .i64 ((rd_T67 x6_1 x60_2).f2)] 67 (0, 0)) (by (with_reducible repeat (first | refine blk_drewN ?_ _ | refine blk_drew ?_ | refine blk_alloc ?_ _)); refine blk_put (cs := #[.int .i64 ((rd_T67 x6_1 x60_2).f0), .int .u64 ((rd_T67 x6_1 x60_2).f1), .int .i64 0]) ?_ 2 _ rfl; (with_reducible repeat (first | refine blk_drewN ?_ _ | refine blk_drew ?_ | refine blk_alloc ?_ _)); refine blk_put (cs := #[.int .i64 ((rd_T67 x6_1 x60_2).f0), .int .u64 0, .int .i64 0]) ?_ 1 _ rfl; (with_reducible repeat (first | refine blk_drewN ?_ _ | refine blk_drew ?_ | refine blk_alloc ?_ _)); refine blk_put (cs := #[.int .i64 0, .int .u64 0, .int .i64 0]) ?_ 0 _ rfl; (with_reducible repeat (first | refine blk_drewN ?_ _ | refine blk_drew ?_ | refine blk_alloc ?_ _)); exact BK190.out) NB190_175.out (by simp)); have n3_ := Aside0.mk (hb); have n4_ := Aside0.mk (hi); clear HO_9; clear HO_58; clear BK190; clear HB; clear HI175; have HO_9 := n0_; have HO_58 := n1_; have BK190 := n2_; have HB := n3_; have HI175 := n4_; clear n0_ n1_ n2_ n3_ n4_; (try clear hb); (try clear hb2); (try clear hk); (try clear hi); obtain ⟨Ao66, co66, eo66⟩ := Kd.R_slice HO_9.out; subst eo66; have p203 : 0 ≤ (x60_2 : Int) := of_decide_eq_true (by first | (with_reducible assumption) | assumption); have q203 : x60_2 < (t184.length : Int) := of_decide_eq_true (by first | (with_reducible assumption) | assumption); obtain ⟨ad203, e203, hx203_0⟩ := Kd.at_string (Kd.R_reads' HO_9.out).2.2 x60_2 p203 q203; cases e203; replace p203 := eq_true p203; replace q203 := eq_true q203))
                                  go_roundg k2
                                  case measure => have := HK1.out; have := HK2.out; omega
                                  case rel => exact ⟨(wrap64 (x60_2 + 1)), (t201), (t202), (by first | rfl | (simp; done) | (simp [*]; done) | (simp; rw [Bool.eq_iff_iff]; simp; done)), H', ⟨by have := HK1.out; have := HK2.out; omega⟩, ⟨by (with_reducible repeat (first | apply Kd.R_alloc | apply Kd.R_drewN | apply Kd.R_drew)); exact HO_9.out⟩, ⟨by (with_reducible repeat (first | apply Kd.R_alloc | apply Kd.R_drewN | apply Kd.R_drew)); exact Kd.R_mono HO_58.out (fun _ hk => trivial)⟩, ⟨by repeat (first | (with_reducible first | exact HI175.out | apply IsS78.alloc | apply IsS78.drewN | apply IsS78.drew | apply IsS78.set_0 | apply IsS78.set_1 | refine IsS78.far ?_ NB175_190.out _) | exact HI175.out)⟩, ⟨by repeat (first | (with_reducible first | exact HB.out | apply below_alloc | apply pw_below_drewN | apply below_drew1 | refine below_set ?_ (IsS78.ge HI175.out) | refine below_set ?_ GE190.out) | exact HB.out)⟩⟩
                                · rw [if_neg c61] at H
                                  exact absurd H (by simp)
                              · rw [if_neg c60] at H
                                exact absurd H (by simp)
                            · rw [if_neg c58] at H
                              have c58b0 : (((rd_T67 x6_1 x60_2).f0) == 2) = false := beq_eq_false_iff_ne.mpr c58
                              have c58b1 : (((rd_T67 x6_1 x60_2).f0) != 2) = true := bne_iff_ne.mpr c58
                              by_cases c67 : ((rd_T67 x6_1 x60_2).f0) = 3
                              · rw [if_pos c67] at H
                                have c67b0 : (((rd_T67 x6_1 x60_2).f0) == 3) = true := beq_iff_eq.mpr c67
                                have c67b1 : (((rd_T67 x6_1 x60_2).f0) != 3) = false := bne_eq_false_iff_eq.mpr c67
                                clear c67
                                replace H := Option.bind_eq_some_iff.mp H
                                obtain ⟨⟨t204, t205⟩, A680, H⟩ := H
                                replace H : ((varint_In_Fail.f t204 t205 13).bind fun bt206 => (if x60_2 < (t184.length : Int) then (if ([] : List UInt8) = (rdOf ByteArray.empty t184 x60_2).toList then (dowserlaw01_VarintTakes.l1 k2 t184 t185 t186 x6_1 (x6_1.length : Int) (wrap64 (x60_2 + 1)) bt206.1 bt206.2) else (none)) else (none))) = some r := H
                                have A68 := Aside0.mk A680
                                clear A680
                                replace H := Option.bind_eq_some_iff.mp H
                                obtain ⟨⟨t206, t207⟩, A690, H⟩ := H
                                replace H : (if x60_2 < (t184.length : Int) then (if ([] : List UInt8) = (rdOf ByteArray.empty t184 x60_2).toList then (dowserlaw01_VarintTakes.l1 k2 t184 t185 t186 x6_1 (x6_1.length : Int) (wrap64 (x60_2 + 1)) t206 t207) else (none)) else (none)) = some r := H
                                have A69 := Aside0.mk A690
                                clear A690
                                by_cases c70 : x60_2 < (t184.length : Int)
                                · rw [if_pos c70] at H
                                  have c70b0 : decide (x60_2 < (t184.length : Int)) = true := decide_eq_true c70
                                  clear c70
                                  by_cases c71 : ([] : List UInt8) = (rdOf ByteArray.empty t184 x60_2).toList
                                  · rw [if_pos c71] at H
                                    have c71b0 : (([] : List UInt8) == (rdOf ByteArray.empty t184 x60_2).toList) = true := beq_iff_eq.mpr c71
                                    have c71b1 : (([] : List UInt8) != (rdOf ByteArray.empty t184 x60_2).toList) = false := bne_eq_false_iff_eq.mpr c71
                                    clear c71
                                    have H' := Aside0.mk H
                                    clear H
                                    have p189 : 0 ≤ (x60_2 : Int) := of_decide_eq_true (by first | (with_reducible assumption) | assumption)
                                    have q189 : x60_2 < (x6_1.length : Int) := of_decide_eq_true (by first | (with_reducible assumption) | assumption)
                                    obtain ⟨ad189, e189, hx189_0, hx189_1, hx189_2⟩ := at_T67 (Kd.R_reads' HO_58.out).2.2 x60_2 p189 q189
                                    cases e189
                                    replace p189 := eq_true p189
                                    replace q189 := eq_true q189
                                    go_wp2_with (first | ((with_reducible refine gate_dst (N := 13) rfl ?_); (try (refine gate_guard (by rfl) ?_; dsimp only)); refine box_event ?hg (N := 13) ?hd (cs := #[.int .i64 0, .int .u64 0, .int .i64 0]) (t := 67) ?hr ?_; (case hd => rfl); (case hg => rfl); (case hr => first | (go_simp; done) | (go_simp; rfl)); intro gb190 hg w72 hbox hb; have n0_ := Aside0.mk (Kd.R_below (by (with_reducible repeat (first | apply Kd.R_alloc | apply Kd.R_drewN | apply Kd.R_drew)); exact HO_9.out) hb); have n1_ := Aside0.mk (Kd.R_below (Kd.R_elderB (by (with_reducible repeat (first | apply Kd.R_alloc | apply Kd.R_drewN | apply Kd.R_drew)); exact HO_58.out) gb190 (Nat.le_of_eq hg.symm)) hb); have n2_ := Aside0.mk (IsS78.below (by repeat (first | (with_reducible first | exact HI175.out | apply IsS78.alloc | apply IsS78.drewN | apply IsS78.drew | apply IsS78.set_0 | apply IsS78.set_1) | exact HI175.out)) hb); have n3_ := Aside0.mk (below_step (by repeat (first | (with_reducible first | exact HB.out | apply below_alloc | apply pw_below_drewN | apply below_drew1 | refine below_set ?_ (IsS78.ge HI175.out)) | exact HB.out)) hb); have n4_ := Aside0.mk (hbox); have n5_ := Aside0.mk ((by rw [hg]; exact (below_size (by repeat (first | (with_reducible first | exact HB.out | apply below_alloc | apply pw_below_drewN | apply below_drew1 | refine below_set ?_ (IsS78.ge HI175.out)) | exact HB.out))) : w.heap.size ≤ gb190)); have n6_ := Aside0.mk ((by rw [hg]; exact (below_size (by repeat (first | (with_reducible first | exact HB.out | apply below_alloc | apply pw_below_drewN | apply below_drew1 | refine below_set ?_ (IsS78.ge HI175.out)) | exact HB.out))) : w.heap.size ≤ gb190)); have n7_ := Aside0.mk ((by rw [hg]; exact Nat.ne_of_lt (IsS78.lt (show IsS78 w _ g175 x176000_2 x176001_2 from by repeat (first | (with_reducible first | exact HI175.out | apply IsS78.alloc | apply IsS78.drewN | apply IsS78.drew | apply IsS78.set_0 | apply IsS78.set_1) | exact HI175.out))) : g175 ≠ gb190)); have n8_ := Aside0.mk ((by rw [hg]; exact Nat.ne_of_gt (IsS78.lt (show IsS78 w _ g175 x176000_2 x176001_2 from by repeat (first | (with_reducible first | exact HI175.out | apply IsS78.alloc | apply IsS78.drewN | apply IsS78.drew | apply IsS78.set_0 | apply IsS78.set_1) | exact HI175.out))) : gb190 ≠ g175)); clear HO_9; clear HO_58; clear HI175; clear HB; have HO_9 := n0_; have HO_58 := n1_; have HI175 := n2_; have HB := n3_; have BK190 := n4_; have GW190 := n5_; have GE190 := n6_; have NB175_190 := n7_; have NB190_175 := n8_; clear n0_ n1_ n2_ n3_ n4_ n5_ n6_ n7_ n8_; clear hb hbox hg; have hnb73 := NB190_175.out; have hnc73 := NB175_190.out; have hcz74_0 : w72.cell? ⟨gb190, 0, none⟩ = some (.int .i64 0) := (blk_cell BK190.out 0).trans rfl; have hcz74_1 : w72.cell? ⟨gb190, 1, none⟩ = some (.int .u64 0) := (blk_cell BK190.out 1).trans rfl; have hcz74_2 : w72.cell? ⟨gb190, 2, none⟩ = some (.int .i64 0) := (blk_cell BK190.out 2).trans rfl; have hfz74_0 := blk_frozen BK190.out 0; have hfz74_1 := blk_frozen BK190.out 1; have hfz74_2 := blk_frozen BK190.out 2) | ((with_reducible refine gate_callee (f := 49) rfl ?_); refine goesL_ (some 90) rfl rfl Try.func49 (by kernel_rfl) rfl #[.pointer (some ⟨g175, 0, none⟩), .int .i64 0] rfl (by (try simp only [List.map_toArray, List.map_cons, List.map_nil]); first | done | rfl | (simp only [List.length_drop, List.length_take]; rfl)) ?_; (with_reducible refine (varint_In_Fail.calls g175 x176000_2 x176001_2 0 t204 t205 w _ ?side1 ?side2 A68.out).mono ?_); (case side1 => repeat (first | (with_reducible first | exact HI175.out | apply IsS78.alloc | apply IsS78.drewN | apply IsS78.drew | apply IsS78.set_0 | apply IsS78.set_1 | refine IsS78.far ?_ NB175_190.out _) | exact HI175.out)); (case side2 => repeat (first | (with_reducible first | exact HB.out | apply below_alloc | apply pw_below_drewN | apply below_drew1 | refine below_set ?_ (IsS78.ge HI175.out) | refine below_set ?_ GE190.out) | exact HB.out)); rintro e w75 ⟨rfl, hi, hb, hk⟩; refine ⟨_, rfl, ?_⟩; have n0_ := Aside0.mk (Kd.R_mono (Kd.R_keep (IsS78.apart (show IsS78 w _ g175 x176000_2 x176001_2 from by repeat (first | (with_reducible first | exact HI175.out | apply IsS78.alloc | apply IsS78.drewN | apply IsS78.drew | apply IsS78.set_0 | apply IsS78.set_1 | refine IsS78.far ?_ NB175_190.out _) | exact HI175.out)) (by (with_reducible repeat (first | apply Kd.R_alloc | apply Kd.R_drewN | apply Kd.R_drew)); exact (Kd.R_mono (Kd.R_far (p := ⟨gb190, 2, none⟩) (Kd.R_far (p := ⟨gb190, 1, none⟩) (Kd.R_far (p := ⟨gb190, 0, none⟩) (Kd.R_types HO_9.out BK190.out (by decide)) (fun _ hk => hk.2) (.int .i64 ((rd_T67 x6_1 x60_2).f0))) (fun _ hk => hk.2) (.int .u64 ((rd_T67 x6_1 x60_2).f1))) (fun _ hk => hk.2) (.int .i64 ((rd_T67 x6_1 x60_2).f2))) (fun _ h_ => h_.1))) (by decide)) hk (fun _ h => h.2)) (fun _ h => h.1)); have n1_ := Aside0.mk (Kd.R_mono (Kd.R_keep (IsS78.apart (show IsS78 w _ g175 x176000_2 x176001_2 from by repeat (first | (with_reducible first | exact HI175.out | apply IsS78.alloc | apply IsS78.drewN | apply IsS78.drew | apply IsS78.set_0 | apply IsS78.set_1 | refine IsS78.far ?_ NB175_190.out _) | exact HI175.out)) (by (with_reducible repeat (first | apply Kd.R_alloc | apply Kd.R_drewN | apply Kd.R_drew)); exact (Kd.R_mono (Kd.R_far (p := ⟨gb190, 2, none⟩) (Kd.R_far (p := ⟨gb190, 1, none⟩) (Kd.R_far (p := ⟨gb190, 0, none⟩) (Kd.R_mono HO_58.out (fun k_ hk => (⟨hk, hk.2⟩ : _ ∧ k_ ≠ gb190))) (fun _ hk => hk.2) (.int .i64 ((rd_T67 x6_1 x60_2).f0))) (fun _ hk => hk.2) (.int .u64 ((rd_T67 x6_1 x60_2).f1))) (fun _ hk => hk.2) (.int .i64 ((rd_T67 x6_1 x60_2).f2))) (fun _ h_ => h_.1))) (by decide)) hk (fun _ h => h.2)) (fun _ h => h.1)); have n2_ := Aside0.mk (KeepBut.blk hk (g' := gb190) (o := .cells #[.int .i64 ((rd_T67 x6_1 x60_2).f0), .int .u64 ((rd_T67 x6_1 x60_2).f1), .int .i64 ((rd_T67 x6_1 x60_2).f2)] 67 (0, 0)) (by (with_reducible repeat (first | refine blk_drewN ?_ _ | refine blk_drew ?_ | refine blk_alloc ?_ _)); refine blk_put (cs := #[.int .i64 ((rd_T67 x6_1 x60_2).f0), .int .u64 ((rd_T67 x6_1 x60_2).f1), .int .i64 0]) ?_ 2 _ rfl; (with_reducible repeat (first | refine blk_drewN ?_ _ | refine blk_drew ?_ | refine blk_alloc ?_ _)); refine blk_put (cs := #[.int .i64 ((rd_T67 x6_1 x60_2).f0), .int .u64 0, .int .i64 0]) ?_ 1 _ rfl; (with_reducible repeat (first | refine blk_drewN ?_ _ | refine blk_drew ?_ | refine blk_alloc ?_ _)); refine blk_put (cs := #[.int .i64 0, .int .u64 0, .int .i64 0]) ?_ 0 _ rfl; (with_reducible repeat (first | refine blk_drewN ?_ _ | refine blk_drew ?_ | refine blk_alloc ?_ _)); exact BK190.out) NB190_175.out (by simp)); have n3_ := Aside0.mk (hb); have n4_ := Aside0.mk (hi); clear HO_9; clear HO_58; clear BK190; clear HB; clear HI175; have HO_9 := n0_; have HO_58 := n1_; have BK190 := n2_; have HB := n3_; have HI175 := n4_; clear n0_ n1_ n2_ n3_ n4_; (try clear hb); (try clear hb2); (try clear hk); (try clear hi)) | ((with_reducible refine gate_callee (f := 49) rfl ?_); refine goesL_ (some 92) rfl rfl Try.func49 (by kernel_rfl) rfl #[.pointer (some ⟨g175, 0, none⟩), .int .i64 13] rfl (by (try simp only [List.map_toArray, List.map_cons, List.map_nil]); first | done | rfl | (simp only [List.length_drop, List.length_take]; rfl)) ?_; (with_reducible refine (varint_In_Fail.calls g175 t204 t205 13 t206 t207 w _ ?side1 ?side2 A69.out).mono ?_); (case side1 => repeat (first | (with_reducible first | exact HI175.out | apply IsS78.alloc | apply IsS78.drewN | apply IsS78.drew | apply IsS78.set_0 | apply IsS78.set_1 | refine IsS78.far ?_ NB175_190.out _) | exact HI175.out)); (case side2 => repeat (first | (with_reducible first | exact HB.out | apply below_alloc | apply pw_below_drewN | apply below_drew1 | refine below_set ?_ (IsS78.ge HI175.out) | refine below_set ?_ GE190.out) | exact HB.out)); rintro e w76 ⟨rfl, hi, hb, hk⟩; refine ⟨_, rfl, ?_⟩; have n0_ := Aside0.mk (Kd.R_mono (Kd.R_keep (IsS78.apart (show IsS78 w _ g175 t204 t205 from by repeat (first | (with_reducible first | exact HI175.out | apply IsS78.alloc | apply IsS78.drewN | apply IsS78.drew | apply IsS78.set_0 | apply IsS78.set_1 | refine IsS78.far ?_ NB175_190.out _) | exact HI175.out)) (by (with_reducible repeat (first | apply Kd.R_alloc | apply Kd.R_drewN | apply Kd.R_drew)); exact HO_9.out) (by decide)) hk (fun _ h => h.2)) (fun _ h => h.1)); have n1_ := Aside0.mk (Kd.R_mono (Kd.R_keep (IsS78.apart (show IsS78 w _ g175 t204 t205 from by repeat (first | (with_reducible first | exact HI175.out | apply IsS78.alloc | apply IsS78.drewN | apply IsS78.drew | apply IsS78.set_0 | apply IsS78.set_1 | refine IsS78.far ?_ NB175_190.out _) | exact HI175.out)) (by (with_reducible repeat (first | apply Kd.R_alloc | apply Kd.R_drewN | apply Kd.R_drew)); exact HO_58.out) (by decide)) hk (fun _ h => h.2)) (fun _ h => h.1)); have n2_ := Aside0.mk (KeepBut.blk hk (g' := gb190) (o := .cells #[.int .i64 ((rd_T67 x6_1 x60_2).f0), .int .u64 ((rd_T67 x6_1 x60_2).f1), .int .i64 ((rd_T67 x6_1 x60_2).f2)] 67 (0, 0)) (by (with_reducible repeat (first | refine blk_drewN ?_ _ | refine blk_drew ?_ | refine blk_alloc ?_ _)); exact BK190.out) NB190_175.out (by simp)); have n3_ := Aside0.mk (hb); have n4_ := Aside0.mk (hi); clear HO_9; clear HO_58; clear BK190; clear HB; clear HI175; have HO_9 := n0_; have HO_58 := n1_; have BK190 := n2_; have HB := n3_; have HI175 := n4_; clear n0_ n1_ n2_ n3_ n4_; (try clear hb); (try clear hb2); (try clear hk); (try clear hi); obtain ⟨Ao77, co77, eo77⟩ := Kd.R_slice HO_9.out; subst eo77; have p208 : 0 ≤ (x60_2 : Int) := of_decide_eq_true (by first | (with_reducible assumption) | assumption); have q208 : x60_2 < (t184.length : Int) := of_decide_eq_true (by first | (with_reducible assumption) | assumption); obtain ⟨ad208, e208, hx208_0⟩ := Kd.at_string (Kd.R_reads' HO_9.out).2.2 x60_2 p208 q208; cases e208; replace p208 := eq_true p208; replace q208 := eq_true q208))
                                    go_roundg k2
                                    case measure => have := HK1.out; have := HK2.out; omega
                                    case rel => exact ⟨(wrap64 (x60_2 + 1)), (t206), (t207), (by first | rfl | (simp; done) | (simp [*]; done) | (simp; rw [Bool.eq_iff_iff]; simp; done)), H', ⟨by have := HK1.out; have := HK2.out; omega⟩, ⟨by (with_reducible repeat (first | apply Kd.R_alloc | apply Kd.R_drewN | apply Kd.R_drew)); exact HO_9.out⟩, ⟨by (with_reducible repeat (first | apply Kd.R_alloc | apply Kd.R_drewN | apply Kd.R_drew)); exact Kd.R_mono HO_58.out (fun _ hk => trivial)⟩, ⟨by repeat (first | (with_reducible first | exact HI175.out | apply IsS78.alloc | apply IsS78.drewN | apply IsS78.drew | apply IsS78.set_0 | apply IsS78.set_1 | refine IsS78.far ?_ NB175_190.out _) | exact HI175.out)⟩, ⟨by repeat (first | (with_reducible first | exact HB.out | apply below_alloc | apply pw_below_drewN | apply below_drew1 | refine below_set ?_ (IsS78.ge HI175.out) | refine below_set ?_ GE190.out) | exact HB.out)⟩⟩
                                  · rw [if_neg c71] at H
                                    exact absurd H (by simp)
                                · rw [if_neg c70] at H
                                  exact absurd H (by simp)
                              · rw [if_neg c67] at H
                                have c67b0 : (((rd_T67 x6_1 x60_2).f0) == 3) = false := beq_eq_false_iff_ne.mpr c67
                                have c67b1 : (((rd_T67 x6_1 x60_2).f0) != 3) = true := bne_iff_ne.mpr c67
                                by_cases c78 : x60_2 < (t184.length : Int)
                                · rw [if_pos c78] at H
                                  have c78b0 : decide (x60_2 < (t184.length : Int)) = true := decide_eq_true c78
                                  clear c78
                                  by_cases c79 : ([] : List UInt8) = (rdOf ByteArray.empty t184 x60_2).toList
                                  · rw [if_pos c79] at H
                                    have c79b0 : (([] : List UInt8) == (rdOf ByteArray.empty t184 x60_2).toList) = true := beq_iff_eq.mpr c79
                                    have c79b1 : (([] : List UInt8) != (rdOf ByteArray.empty t184 x60_2).toList) = false := bne_eq_false_iff_eq.mpr c79
                                    clear c79
                                    have H' := Aside0.mk H
                                    clear H
                                    have p189 : 0 ≤ (x60_2 : Int) := of_decide_eq_true (by first | (with_reducible assumption) | assumption)
                                    have q189 : x60_2 < (x6_1.length : Int) := of_decide_eq_true (by first | (with_reducible assumption) | assumption)
                                    obtain ⟨ad189, e189, hx189_0, hx189_1, hx189_2⟩ := at_T67 (Kd.R_reads' HO_58.out).2.2 x60_2 p189 q189
                                    cases e189
                                    replace p189 := eq_true p189
                                    replace q189 := eq_true q189
                                    go_wp2_with (first | ((with_reducible refine gate_dst (N := 13) rfl ?_); (try (refine gate_guard (by rfl) ?_; dsimp only)); refine box_event ?hg (N := 13) ?hd (cs := #[.int .i64 0, .int .u64 0, .int .i64 0]) (t := 67) ?hr ?_; (case hd => rfl); (case hg => rfl); (case hr => first | (go_simp; done) | (go_simp; rfl)); intro gb190 hg w80 hbox hb; have n0_ := Aside0.mk (Kd.R_below (by (with_reducible repeat (first | apply Kd.R_alloc | apply Kd.R_drewN | apply Kd.R_drew)); exact HO_9.out) hb); have n1_ := Aside0.mk (Kd.R_below (Kd.R_elderB (by (with_reducible repeat (first | apply Kd.R_alloc | apply Kd.R_drewN | apply Kd.R_drew)); exact HO_58.out) gb190 (Nat.le_of_eq hg.symm)) hb); have n2_ := Aside0.mk (IsS78.below (by repeat (first | (with_reducible first | exact HI175.out | apply IsS78.alloc | apply IsS78.drewN | apply IsS78.drew | apply IsS78.set_0 | apply IsS78.set_1) | exact HI175.out)) hb); have n3_ := Aside0.mk (below_step (by repeat (first | (with_reducible first | exact HB.out | apply below_alloc | apply pw_below_drewN | apply below_drew1 | refine below_set ?_ (IsS78.ge HI175.out)) | exact HB.out)) hb); have n4_ := Aside0.mk (hbox); have n5_ := Aside0.mk ((by rw [hg]; exact (below_size (by repeat (first | (with_reducible first | exact HB.out | apply below_alloc | apply pw_below_drewN | apply below_drew1 | refine below_set ?_ (IsS78.ge HI175.out)) | exact HB.out))) : w.heap.size ≤ gb190)); have n6_ := Aside0.mk ((by rw [hg]; exact (below_size (by repeat (first | (with_reducible first | exact HB.out | apply below_alloc | apply pw_below_drewN | apply below_drew1 | refine below_set ?_ (IsS78.ge HI175.out)) | exact HB.out))) : w.heap.size ≤ gb190)); have n7_ := Aside0.mk ((by rw [hg]; exact Nat.ne_of_lt (IsS78.lt (show IsS78 w _ g175 x176000_2 x176001_2 from by repeat (first | (with_reducible first | exact HI175.out | apply IsS78.alloc | apply IsS78.drewN | apply IsS78.drew | apply IsS78.set_0 | apply IsS78.set_1) | exact HI175.out))) : g175 ≠ gb190)); have n8_ := Aside0.mk ((by rw [hg]; exact Nat.ne_of_gt (IsS78.lt (show IsS78 w _ g175 x176000_2 x176001_2 from by repeat (first | (with_reducible first | exact HI175.out | apply IsS78.alloc | apply IsS78.drewN | apply IsS78.drew | apply IsS78.set_0 | apply IsS78.set_1) | exact HI175.out))) : gb190 ≠ g175)); clear HO_9; clear HO_58; clear HI175; clear HB; have HO_9 := n0_; have HO_58 := n1_; have HI175 := n2_; have HB := n3_; have BK190 := n4_; have GW190 := n5_; have GE190 := n6_; have NB175_190 := n7_; have NB190_175 := n8_; clear n0_ n1_ n2_ n3_ n4_ n5_ n6_ n7_ n8_; clear hb hbox hg; have hnb81 := NB190_175.out; have hnc81 := NB175_190.out; have hcz82_0 : w80.cell? ⟨gb190, 0, none⟩ = some (.int .i64 0) := (blk_cell BK190.out 0).trans rfl; have hcz82_1 : w80.cell? ⟨gb190, 1, none⟩ = some (.int .u64 0) := (blk_cell BK190.out 1).trans rfl; have hcz82_2 : w80.cell? ⟨gb190, 2, none⟩ = some (.int .i64 0) := (blk_cell BK190.out 2).trans rfl; have hfz82_0 := blk_frozen BK190.out 0; have hfz82_1 := blk_frozen BK190.out 1; have hfz82_2 := blk_frozen BK190.out 2; obtain ⟨Ao83, co83, eo83⟩ := Kd.R_slice HO_9.out; subst eo83; have p209 : 0 ≤ (x60_2 : Int) := of_decide_eq_true (by first | (with_reducible assumption) | assumption); have q209 : x60_2 < (t184.length : Int) := of_decide_eq_true (by first | (with_reducible assumption) | assumption); obtain ⟨ad209, e209, hx209_0⟩ := Kd.at_string (Kd.R_reads' HO_9.out).2.2 x60_2 p209 q209; cases e209; have hn209_0 : ad209.block ≠ gb190 := Kd.own_blk (Kd.R_ne HO_9.out BK190.out (by decide)); have hn209_1 : ad209.block ≠ gb190 := Kd.own_blk (Kd.R_ne HO_9.out BK190.out (by decide)); have hn209_2 : ad209.block ≠ gb190 := Kd.own_blk (Kd.R_ne HO_9.out BK190.out (by decide)); replace hx209_0 := (cell_far (p := ⟨gb190, 0, none⟩) (by first | (rw [add_block]; exact hn209_0) | (show (Addr.add _ _).block ≠ _; rw [add_block]; exact hn209_0) | exact hn209_0) (.int .i64 ((rd_T67 x6_1 x60_2).f0))).trans hx209_0; replace hx209_0 := (cell_far (p := ⟨gb190, 1, none⟩) (by first | (rw [add_block]; exact hn209_1) | (show (Addr.add _ _).block ≠ _; rw [add_block]; exact hn209_1) | exact hn209_1) (.int .u64 ((rd_T67 x6_1 x60_2).f1))).trans hx209_0; replace hx209_0 := (cell_far (p := ⟨gb190, 2, none⟩) (by first | (rw [add_block]; exact hn209_2) | (show (Addr.add _ _).block ≠ _; rw [add_block]; exact hn209_2) | exact hn209_2) (.int .i64 ((rd_T67 x6_1 x60_2).f2))).trans hx209_0; clear hn209_0; clear hn209_1; clear hn209_2; replace p209 := eq_true p209; replace q209 := eq_true q209))
                                    go_roundg k2
                                    case measure => have := HK1.out; have := HK2.out; omega
                                    case rel => exact ⟨(wrap64 (x60_2 + 1)), (x176000_2), (x176001_2), (by first | rfl | (simp; done) | (simp [*]; done) | (simp; rw [Bool.eq_iff_iff]; simp; done)), H', ⟨by have := HK1.out; have := HK2.out; omega⟩, ⟨by (with_reducible repeat (first | apply Kd.R_alloc | apply Kd.R_drewN | apply Kd.R_drew)); exact Kd.R_mono (Kd.R_far (p := ⟨gb190, 2, none⟩) (Kd.R_far (p := ⟨gb190, 1, none⟩) (Kd.R_far (p := ⟨gb190, 0, none⟩) (Kd.R_types HO_9.out BK190.out (by decide)) (fun _ hk => hk.2) (.int .i64 ((rd_T67 x6_1 x60_2).f0))) (fun _ hk => hk.2) (.int .u64 ((rd_T67 x6_1 x60_2).f1))) (fun _ hk => hk.2) (.int .i64 ((rd_T67 x6_1 x60_2).f2))) (fun _ hk => trivial)⟩, ⟨by (with_reducible repeat (first | apply Kd.R_alloc | apply Kd.R_drewN | apply Kd.R_drew)); exact Kd.R_mono (Kd.R_far (p := ⟨gb190, 2, none⟩) (Kd.R_far (p := ⟨gb190, 1, none⟩) (Kd.R_far (p := ⟨gb190, 0, none⟩) (Kd.R_mono HO_58.out (fun k_ hk => (⟨hk, hk.2⟩ : _ ∧ k_ ≠ gb190))) (fun _ hk => hk.2) (.int .i64 ((rd_T67 x6_1 x60_2).f0))) (fun _ hk => hk.2) (.int .u64 ((rd_T67 x6_1 x60_2).f1))) (fun _ hk => hk.2) (.int .i64 ((rd_T67 x6_1 x60_2).f2))) (fun _ hk => trivial)⟩, ⟨by repeat (first | (with_reducible first | exact HI175.out | apply IsS78.alloc | apply IsS78.drewN | apply IsS78.drew | apply IsS78.set_0 | apply IsS78.set_1 | refine IsS78.far ?_ NB175_190.out _) | exact HI175.out)⟩, ⟨by repeat (first | (with_reducible first | exact HB.out | apply below_alloc | apply pw_below_drewN | apply below_drew1 | refine below_set ?_ (IsS78.ge HI175.out) | refine below_set ?_ GE190.out) | exact HB.out)⟩⟩
                                  · rw [if_neg c79] at H
                                    exact absurd H (by simp)
                                · rw [if_neg c78] at H
                                  exact absurd H (by simp)
                      · rw [if_neg c37] at H
                        exact absurd H (by simp)
                    · rw [if_neg c36] at H
                      exact absurd H (by simp)
                  · rw [if_neg c35] at H
                    have c35b0 : decide (x60_2 < (x6_1.length : Int)) = false := decide_eq_false c35
                    clear c35
                    have HC84 := Aside0.mk H
                    clear H
                    go_upto_region 37 with (fail)
                    go_cut [106] (fun v106 wc => ∃ (kq : Nat) (x106_83 : Bool), v106 = .bool x106_83 ∧ Aside0 (dowserlaw01_VarintTakes.j2 kq t185 t186 t186 x106_83 x176000_2 x176001_2 = some r) ∧ Aside0 (kq ≤ k2) ∧ Aside0 (IsS78 w wc g175 x176000_2 x176001_2) ∧ Aside0 (Below w.heap.size w wc))
                    case first =>
                      have H := HC84.out
                      clear HC84
                      by_cases c85 : t186 = 0
                      · rw [if_pos c85] at H
                        have c85b0 : (t186 == 0) = true := beq_iff_eq.mpr c85
                        have c85b1 : (t186 != 0) = false := bne_eq_false_iff_eq.mpr c85
                        clear c85
                        (first | rw [c85b0] | (simp only [i64_w, i32_w]; rw [c85b0]) | skip)
                        have H' := Aside0.mk H
                        clear H
                        go_wp2
                        go_meet
                        case rel => exact ⟨_, ((t185.toList != ([] : List UInt8))), (by first | rfl | (simp; done) | (simp [*]; done) | (simp; rw [Bool.eq_iff_iff]; simp; done)), H', ⟨by have := HK1.out; have := HK2.out; first | omega | exact Nat.le_refl _⟩, ⟨by repeat (first | (with_reducible first | exact HI175.out | apply IsS78.alloc | apply IsS78.drewN | apply IsS78.drew | apply IsS78.set_0 | apply IsS78.set_1) | exact HI175.out)⟩, ⟨by repeat (first | (with_reducible first | exact HB.out | apply below_alloc | apply pw_below_drewN | apply below_drew1 | refine below_set ?_ (IsS78.ge HI175.out)) | exact HB.out)⟩⟩
                      · rw [if_neg c85] at H
                        have c85b0 : (t186 == 0) = false := beq_eq_false_iff_ne.mpr c85
                        have c85b1 : (t186 != 0) = true := bne_iff_ne.mpr c85
                        (first | rw [c85b0] | (simp only [i64_w, i32_w]; rw [c85b0]) | skip)
                        have H' := Aside0.mk H
                        clear H
                        go_wp2
                        go_meet
                        case rel => exact ⟨_, (false), (by first | rfl | (simp; done) | (simp [*]; done) | (simp; rw [Bool.eq_iff_iff]; simp; done)), H', ⟨by have := HK1.out; have := HK2.out; first | omega | exact Nat.le_refl _⟩, ⟨by repeat (first | (with_reducible first | exact HI175.out | apply IsS78.alloc | apply IsS78.drewN | apply IsS78.drew | apply IsS78.set_0 | apply IsS78.set_1) | exact HI175.out)⟩, ⟨by repeat (first | (with_reducible first | exact HB.out | apply below_alloc | apply pw_below_drewN | apply below_drew1 | refine below_set ?_ (IsS78.ge HI175.out)) | exact HB.out)⟩⟩
                    case rest =>
                      clear HC84
                      try clear c1
                      try clear p1
                      try clear q1
                      try clear hx1
                      try clear c2
                      try clear p2
                      try clear q2
                      try clear hx2
                      try clear c3
                      try clear c4
                      try clear c5
                      try clear c6
                      try clear c6b0
                      try clear c6b1
                      try clear p6
                      try clear c7
                      try clear c7b0
                      try clear c7b1
                      try clear c8
                      try clear q10
                      try clear c12
                      try clear c12b0
                      try clear c13
                      try clear c13b0
                      try clear c14
                      try clear c14b0
                      try clear c16
                      try clear c16b0
                      try clear c16b1
                      try clear p17
                      try clear q17
                      try clear hx17
                      try clear c18
                      try clear p18
                      try clear q18
                      try clear hx18
                      try clear p19
                      try clear q19
                      try clear hx19
                      try clear c20
                      try clear p20
                      try clear q20
                      try clear hx20
                      try clear c25
                      try clear c27
                      try clear c29
                      try clear c30
                      try clear c31
                      try clear c35
                      try clear c35b0
                      try clear c36
                      try clear c36b0
                      try clear c37
                      try clear c37b0
                      try clear c38
                      try clear c38b0
                      try clear c38b1
                      try clear c41
                      try clear c41b0
                      try clear c42
                      try clear c42b0
                      try clear c42b1
                      try clear c44
                      try clear c47
                      try clear c48
                      try clear c49
                      try clear c49b0
                      try clear c49b1
                      try clear c51
                      try clear c51b0
                      try clear c52
                      try clear c52b0
                      try clear c52b1
                      try clear c54
                      try clear c58
                      try clear c58b0
                      try clear c58b1
                      try clear c60
                      try clear c60b0
                      try clear c61
                      try clear c61b0
                      try clear c61b1
                      try clear c63
                      try clear p64
                      try clear c67
                      try clear c67b0
                      try clear c67b1
                      try clear c70
                      try clear c70b0
                      try clear c71
                      try clear c71b0
                      try clear c71b1
                      try clear c73
                      try clear c78
                      try clear c78b0
                      try clear c79
                      try clear c79b0
                      try clear c79b1
                      try clear c81
                      try clear c85
                      try clear c85b0
                      try clear c85b1
                      try clear hcz21_0
                      try clear hcz21_1
                      try clear hcz21_2
                      try clear hcz23_0
                      try clear hcz23_1
                      try clear hcz23_2
                      try clear hcz28_0
                      try clear hcz28_1
                      try clear hcz28_2
                      try clear hcz30_0
                      try clear hcz30_1
                      try clear hcz30_2
                      try clear hcz45_0
                      try clear hcz45_1
                      try clear hcz45_2
                      try clear hcz55_0
                      try clear hcz55_1
                      try clear hcz55_2
                      try clear hcz64_0
                      try clear hcz64_1
                      try clear hcz64_2
                      try clear hcz74_0
                      try clear hcz74_1
                      try clear hcz74_2
                      try clear hcz82_0
                      try clear hcz82_1
                      try clear hcz82_2
                      try clear hfz21_0
                      try clear hfz21_1
                      try clear hfz21_2
                      try clear hfz23_0
                      try clear hfz23_1
                      try clear hfz23_2
                      try clear hfz28_0
                      try clear hfz28_1
                      try clear hfz28_2
                      try clear hfz30_0
                      try clear hfz30_1
                      try clear hfz30_2
                      try clear hfz45_0
                      try clear hfz45_1
                      try clear hfz45_2
                      try clear hfz55_0
                      try clear hfz55_1
                      try clear hfz55_2
                      try clear hfz64_0
                      try clear hfz64_1
                      try clear hfz64_2
                      try clear hfz74_0
                      try clear hfz74_1
                      try clear hfz74_2
                      try clear hfz82_0
                      try clear hfz82_1
                      try clear hfz82_2
                      try clear hx176_0
                      try clear hx176_1
                      try clear hx176_2
                      try clear hx189_0
                      try clear hx189_1
                      try clear hx189_2
                      try clear hx195_0
                      try clear hx199_0
                      try clear hx203_0
                      try clear hx208_0
                      try clear hx209_0
                      try clear p1
                      try clear p17
                      try clear p176
                      try clear p189
                      try clear p195
                      try clear p199
                      try clear p2
                      try clear p203
                      try clear p208
                      try clear p209
                      try clear p6
                      try clear q1
                      try clear q10
                      try clear q17
                      try clear q176
                      try clear q189
                      try clear q195
                      try clear q199
                      try clear q203
                      try clear q208
                      try clear q209
                      obtain ⟨kq, x106_83, rfl, HA, HJ83, HI175, HB⟩ := hcut
                      cases kq with
                      | zero => exact absurd HA.out (by simp [dowserlaw01_VarintTakes.j2])
                      | succ kj83 =>
                        have H := HA.out
                        clear HA
                        simp only [dowserlaw01_VarintTakes.j2] at H
                        by_cases c86 : x106_83 = true
                        · subst c86
                          have H1 : ((varint_In_Err.f x176000_2 x176001_2).bind fun bt228 => (if bt228.1 = t186 then ((varint_In_Left.f bt228.2.1 bt228.2.2).bind fun bt231 => (if bt231.1 = (t185.size : Int) then ((varint_In_End.f bt231.2.1 bt231.2.2).bind fun bt234 => (some (bt234.1 == 3))) else (none))) else (none))) = some r := by rw [if_pos rfl] at H; exact H
                          clear H
                          have H := H1
                          clear H1
                          replace H := Option.bind_eq_some_iff.mp H
                          obtain ⟨⟨t228, t229, t230⟩, A870, H⟩ := H
                          replace H : (if t228 = t186 then ((varint_In_Left.f t229 t230).bind fun bt231 => (if bt231.1 = (t185.size : Int) then ((varint_In_End.f bt231.2.1 bt231.2.2).bind fun bt234 => (some (bt234.1 == 3))) else (none))) else (none)) = some r := H
                          have A87 := Aside0.mk A870
                          clear A870
                          by_cases c88 : t228 = t186
                          · rw [if_pos c88] at H
                            have c88b0 : (t228 == t186) = true := beq_iff_eq.mpr c88
                            have c88b1 : (t228 != t186) = false := bne_eq_false_iff_eq.mpr c88
                            clear c88
                            replace H := Option.bind_eq_some_iff.mp H
                            obtain ⟨⟨t231, t232, t233⟩, A890, H⟩ := H
                            replace H : (if t231 = (t185.size : Int) then ((varint_In_End.f t232 t233).bind fun bt234 => (some (bt234.1 == 3))) else (none)) = some r := H
                            have A89 := Aside0.mk A890
                            clear A890
                            by_cases c90 : t231 = (t185.size : Int)
                            · rw [if_pos c90] at H
                              have c90b0 : (t231 == (t185.size : Int)) = true := beq_iff_eq.mpr c90
                              have c90b1 : (t231 != (t185.size : Int)) = false := bne_eq_false_iff_eq.mpr c90
                              clear c90
                              replace H := Option.bind_eq_some_iff.mp H
                              obtain ⟨⟨t234, t235, t236⟩, A910, H⟩ := H
                              replace H : (some (t234 == 3)) = some r := H
                              have A91 := Aside0.mk A910
                              clear A910
                              obtain rfl := Option.some.inj H
                              go_wp2_with (first | ((with_reducible refine gate_callee (f := 46) rfl ?_); refine goesL_ (some 108) rfl rfl Try.func46 (by kernel_rfl) rfl #[.pointer (some ⟨g175, 0, none⟩)] rfl (by (try simp only [List.map_toArray, List.map_cons, List.map_nil]); first | done | rfl | (simp only [List.length_drop, List.length_take]; rfl)) ?_; (with_reducible refine (varint_In_Err.calls g175 x176000_2 x176001_2 t228 t229 t230 w _ ?side1 ?side2 A87.out).mono ?_); (case side1 => repeat (first | (with_reducible first | exact HI175.out | apply IsS78.alloc | apply IsS78.drewN | apply IsS78.drew | apply IsS78.set_0 | apply IsS78.set_1) | exact HI175.out)); (case side2 => repeat (first | (with_reducible first | exact HB.out | apply below_alloc | apply pw_below_drewN | apply below_drew1 | refine below_set ?_ (IsS78.ge HI175.out)) | exact HB.out)); rintro e w92 ⟨rfl, hi, hb, hk⟩; refine ⟨_, rfl, ?_⟩; have n0_ := Aside0.mk (hb); have n1_ := Aside0.mk (hi); clear HB; clear HI175; have HB := n0_; have HI175 := n1_; clear n0_ n1_; (try clear hb); (try clear hb2); (try clear hk); (try clear hi)) | (go_at_call 50; (with_reducible refine (varint_In_Left.calls g175 t229 t230 t231 t232 t233 w _ ?side1 ?side2 A89.out).mono ?_); (case side1 => repeat (first | (with_reducible first | exact HI175.out | apply IsS78.alloc | apply IsS78.drewN | apply IsS78.drew | apply IsS78.set_0 | apply IsS78.set_1) | exact HI175.out)); (case side2 => repeat (first | (with_reducible first | exact HB.out | apply below_alloc | apply pw_below_drewN | apply below_drew1 | refine below_set ?_ (IsS78.ge HI175.out)) | exact HB.out)); rintro e w93 ⟨rfl, hi, hb, hk⟩; have n0_ := Aside0.mk (hb); have n1_ := Aside0.mk (hi); clear HB; clear HI175; have HB := n0_; have HI175 := n1_; clear n0_ n1_; (try clear hb); (try clear hb2); (try clear hk); (try clear hi)) | (go_at_call 32; (with_reducible refine (varint_In_End.calls g175 t232 t233 t234 t235 t236 w _ ?side1 ?side2 A91.out).mono ?_); (case side1 => repeat (first | (with_reducible first | exact HI175.out | apply IsS78.alloc | apply IsS78.drewN | apply IsS78.drew | apply IsS78.set_0 | apply IsS78.set_1) | exact HI175.out)); (case side2 => repeat (first | (with_reducible first | exact HB.out | apply below_alloc | apply pw_below_drewN | apply below_drew1 | refine below_set ?_ (IsS78.ge HI175.out)) | exact HB.out)); rintro e w94 ⟨rfl, hi, hb, hk⟩; have n0_ := Aside0.mk (hb); have n1_ := Aside0.mk (hi); clear HB; clear HI175; have HB := n0_; have HI175 := n1_; clear n0_ n1_; (try clear hb); (try clear hb2); (try clear hk); (try clear hi)))
                              go_ret
                              exact ⟨by first | rfl | (simp [errW_none, errW_some] <;> rfl) | (simp [*, errW_none, errW_some] <;> rfl), by repeat (first | (with_reducible first | exact HB.out | apply below_alloc | apply pw_below_drewN | apply below_drew1 | refine below_set ?_ (IsS78.ge HI175.out)) | exact HB.out)⟩
                            · rw [if_neg c90] at H
                              exact absurd H (by simp)
                          · rw [if_neg c88] at H
                            exact absurd H (by simp)
                        · replace c86 := Bool.eq_false_iff.mpr c86
                          subst c86
                          have H1 : ((varint_In_Err.f x176000_2 x176001_2).bind fun bt237 => (if bt237.1 = t186 then ((varint_In_Left.f bt237.2.1 bt237.2.2).bind fun bt240 => (if bt240.1 = (t185.size : Int) then ((varint_In_End.f bt240.2.1 bt240.2.2).bind fun bt243 => (some (bt243.1 == t186))) else (none))) else (none))) = some r := by rw [if_neg (show ¬ (false = true) by decide)] at H; exact H
                          clear H
                          have H := H1
                          clear H1
                          replace H := Option.bind_eq_some_iff.mp H
                          obtain ⟨⟨t237, t238, t239⟩, A950, H⟩ := H
                          replace H : (if t237 = t186 then ((varint_In_Left.f t238 t239).bind fun bt240 => (if bt240.1 = (t185.size : Int) then ((varint_In_End.f bt240.2.1 bt240.2.2).bind fun bt243 => (some (bt243.1 == t186))) else (none))) else (none)) = some r := H
                          have A95 := Aside0.mk A950
                          clear A950
                          by_cases c96 : t237 = t186
                          · rw [if_pos c96] at H
                            have c96b0 : (t237 == t186) = true := beq_iff_eq.mpr c96
                            have c96b1 : (t237 != t186) = false := bne_eq_false_iff_eq.mpr c96
                            clear c96
                            replace H := Option.bind_eq_some_iff.mp H
                            obtain ⟨⟨t240, t241, t242⟩, A970, H⟩ := H
                            replace H : (if t240 = (t185.size : Int) then ((varint_In_End.f t241 t242).bind fun bt243 => (some (bt243.1 == t186))) else (none)) = some r := H
                            have A97 := Aside0.mk A970
                            clear A970
                            by_cases c98 : t240 = (t185.size : Int)
                            · rw [if_pos c98] at H
                              have c98b0 : (t240 == (t185.size : Int)) = true := beq_iff_eq.mpr c98
                              have c98b1 : (t240 != (t185.size : Int)) = false := bne_eq_false_iff_eq.mpr c98
                              clear c98
                              replace H := Option.bind_eq_some_iff.mp H
                              obtain ⟨⟨t243, t244, t245⟩, A990, H⟩ := H
                              replace H : (some (t243 == t186)) = some r := H
                              have A99 := Aside0.mk A990
                              clear A990
                              obtain rfl := Option.some.inj H
                              go_wp2_with (first | ((with_reducible refine gate_callee (f := 46) rfl ?_); refine goesL_ (some 108) rfl rfl Try.func46 (by kernel_rfl) rfl #[.pointer (some ⟨g175, 0, none⟩)] rfl (by (try simp only [List.map_toArray, List.map_cons, List.map_nil]); first | done | rfl | (simp only [List.length_drop, List.length_take]; rfl)) ?_; (with_reducible refine (varint_In_Err.calls g175 x176000_2 x176001_2 t237 t238 t239 w _ ?side1 ?side2 A95.out).mono ?_); (case side1 => repeat (first | (with_reducible first | exact HI175.out | apply IsS78.alloc | apply IsS78.drewN | apply IsS78.drew | apply IsS78.set_0 | apply IsS78.set_1) | exact HI175.out)); (case side2 => repeat (first | (with_reducible first | exact HB.out | apply below_alloc | apply pw_below_drewN | apply below_drew1 | refine below_set ?_ (IsS78.ge HI175.out)) | exact HB.out)); rintro e w100 ⟨rfl, hi, hb, hk⟩; refine ⟨_, rfl, ?_⟩; have n0_ := Aside0.mk (hb); have n1_ := Aside0.mk (hi); clear HB; clear HI175; have HB := n0_; have HI175 := n1_; clear n0_ n1_; (try clear hb); (try clear hb2); (try clear hk); (try clear hi)) | (go_at_call 50; (with_reducible refine (varint_In_Left.calls g175 t238 t239 t240 t241 t242 w _ ?side1 ?side2 A97.out).mono ?_); (case side1 => repeat (first | (with_reducible first | exact HI175.out | apply IsS78.alloc | apply IsS78.drewN | apply IsS78.drew | apply IsS78.set_0 | apply IsS78.set_1) | exact HI175.out)); (case side2 => repeat (first | (with_reducible first | exact HB.out | apply below_alloc | apply pw_below_drewN | apply below_drew1 | refine below_set ?_ (IsS78.ge HI175.out)) | exact HB.out)); rintro e w101 ⟨rfl, hi, hb, hk⟩; have n0_ := Aside0.mk (hb); have n1_ := Aside0.mk (hi); clear HB; clear HI175; have HB := n0_; have HI175 := n1_; clear n0_ n1_; (try clear hb); (try clear hb2); (try clear hk); (try clear hi)) | (go_at_call 32; (with_reducible refine (varint_In_End.calls g175 t241 t242 t243 t244 t245 w _ ?side1 ?side2 A99.out).mono ?_); (case side1 => repeat (first | (with_reducible first | exact HI175.out | apply IsS78.alloc | apply IsS78.drewN | apply IsS78.drew | apply IsS78.set_0 | apply IsS78.set_1) | exact HI175.out)); (case side2 => repeat (first | (with_reducible first | exact HB.out | apply below_alloc | apply pw_below_drewN | apply below_drew1 | refine below_set ?_ (IsS78.ge HI175.out)) | exact HB.out)); rintro e w102 ⟨rfl, hi, hb, hk⟩; have n0_ := Aside0.mk (hb); have n1_ := Aside0.mk (hi); clear HB; clear HI175; have HB := n0_; have HI175 := n1_; clear n0_ n1_; (try clear hb); (try clear hb2); (try clear hk); (try clear hi)))
                              go_ret
                              exact ⟨by first | rfl | (simp [errW_none, errW_some] <;> rfl) | (simp [*, errW_none, errW_some] <;> rfl), by repeat (first | (with_reducible first | exact HB.out | apply below_alloc | apply pw_below_drewN | apply below_drew1 | refine below_set ?_ (IsS78.ge HI175.out)) | exact HB.out)⟩
                            · rw [if_neg c98] at H
                              exact absurd H (by simp)
                          · rw [if_neg c96] at H
                            exact absurd H (by simp)
      · rw [if_neg c7] at H
        exact absurd H (by simp)
    · rw [if_neg c6] at H
      have c6b0 : decide (10 < (l1.length : Int)) = false := decide_eq_false c6
      have c6b1 : decide (10 < l1.length) = false := decide_eq_false (by omega)
      clear c6
      replace H := Option.bind_eq_some_iff.mp H
      obtain ⟨⟨t246, t247⟩, A1030, H⟩ := H
      replace H : (dowserlaw01_VarintTakes.l2 k t152 ([] : List (S67)) l1 (l1.length : Int) 0 t246 t247) = some r := H
      have A103 := Aside0.mk A1030
      clear A1030
      have H' := Aside0.mk H
      clear H
      go_enter Try.func12, Try.ntmps12
      go_wp2_with (first | ((with_reducible refine gate_callee (f := 27) rfl ?_); refine goesL_ (some 16) rfl rfl Try.func27 (by kernel_rfl) rfl #[] rfl (by (try simp only [List.map_toArray, List.map_cons, List.map_nil]); first | done | rfl | (simp only [List.length_drop, List.length_take]; rfl)) ?_; (with_reducible refine (dowserlaw01_awake.calls k  true _ A3.out).mono ?_); rintro e w104 ⟨rfl, hb⟩; refine ⟨_, rfl, ?_⟩; have n0_ := Aside0.mk (below_step (by repeat (first | (with_reducible first | exact HB.out | apply below_alloc | apply pw_below_drewN | apply below_drew1) | exact HB.out)) hb); clear HB; have HB := n0_; clear n0_; (try clear hb); (try clear hb2); (try clear hk); (try clear hi)) | ((with_reducible refine gate_callee (f := 14) rfl ?_); refine goesL_ (some 19) rfl rfl Try.func14 (by kernel_rfl) rfl #[.string a0, .int .i64 60] rfl (by (try simp only [List.map_toArray, List.map_cons, List.map_nil]); first | done | rfl | (simp only [List.length_drop, List.length_take]; rfl)) ?_; (with_reducible refine (dowserlaw01_Cut.calls a0 60 t152 _ A5.out).mono ?_); rintro e w' ⟨rfl, ⟨nd, rfl⟩⟩; refine ⟨_, rfl, ?_⟩) | ((with_reducible refine gate_callee (f := 29) rfl ?_); refine goesL_ (some 26) rfl rfl Try.func29 (by kernel_rfl) rfl #[.string t152] rfl (by (try simp only [List.map_toArray, List.map_cons, List.map_nil]); first | done | rfl | (simp only [List.length_drop, List.length_take]; rfl)) ?_; (with_reducible refine (varint_Of.calls t152 t246 t247 w _ ?side1 A103.out).mono ?_); (case side1 => repeat (first | (with_reducible first | exact HB.out | apply below_alloc | apply pw_below_drewN | apply below_drew1) | exact HB.out)); rintro e w105 ⟨g248, rfl, hi, hb, hb2⟩; refine ⟨_, rfl, ?_⟩; have n0_ := Aside0.mk (hb); have n1_ := Aside0.mk (hi); clear HB; have HB := n0_; have HI248 := n1_; clear n0_ n1_; (try clear hb); (try clear hb2); (try clear hk); (try clear hi)))
      go_loopg [6, 31] k (fun kq v6 v31 w' => ∃ (x6_1 : List (S67)) (x31_1 : Int), v31 = .int .i64 x31_1 ∧ Aside0 (dowserlaw01_VarintTakes.l2 kq t152 x6_1 l1 (l1.length : Int) x31_1 t246 t247 = some r) ∧ Aside0 (kq ≤ k) ∧ Aside0 (Kd.R k67 67 w' w.heap.size (fun _ => True) v6 x6_1) ∧ Aside0 (IsS78 w w' g248 t246 t247) ∧ Aside0 (Below w.heap.size w w'))
      case atStart => exact ⟨(([] : List (S67))), (0), (by first | rfl | (simp; done) | (simp [*]; done) | (simp; rw [Bool.eq_iff_iff]; simp; done)), H', ⟨Nat.le_refl _⟩, ⟨by first | exact Kd.R_nil _ _ _ _ _ | exact Kd.N_nil _ _ _ _ _ | exact Kd.V_nil _ _ _ _ _ | exact Kd.Q_nil _ _ _ _ _ | exact Kd.S_nil _ _ _ _ _⟩, ⟨by repeat (first | (with_reducible first | exact HI248.out | apply IsS78.alloc | apply IsS78.drewN | apply IsS78.drew | apply IsS78.set_0 | apply IsS78.set_1) | exact HI248.out)⟩, ⟨by repeat (first | (with_reducible first | exact HB.out | apply below_alloc | apply pw_below_drewN | apply below_drew1 | refine below_set ?_ (IsS78.ge HI248.out)) | exact HB.out)⟩⟩
      case round =>
        clear H'
        try clear c1
        try clear p1
        try clear q1
        try clear hx1
        try clear c2
        try clear p2
        try clear q2
        try clear hx2
        try clear c3
        try clear c4
        try clear c5
        try clear c6
        try clear c6b0
        try clear c6b1
        try clear p6
        try clear c7
        try clear c7b0
        try clear c7b1
        try clear c8
        try clear c9
        try clear q10
        try clear c12
        try clear c12b0
        try clear c13
        try clear c13b0
        try clear c14
        try clear c14b0
        try clear c16
        try clear c16b0
        try clear c16b1
        try clear p17
        try clear q17
        try clear hx17
        try clear c18
        try clear p18
        try clear q18
        try clear hx18
        try clear p19
        try clear q19
        try clear hx19
        try clear c20
        try clear p20
        try clear q20
        try clear hx20
        try clear c25
        try clear c27
        try clear c29
        try clear c30
        try clear c31
        try clear c35
        try clear c35b0
        try clear c36
        try clear c36b0
        try clear c37
        try clear c37b0
        try clear c38
        try clear c38b0
        try clear c38b1
        try clear c41
        try clear c41b0
        try clear c42
        try clear c42b0
        try clear c42b1
        try clear c44
        try clear c46
        try clear c47
        try clear c48
        try clear c49
        try clear c49b0
        try clear c49b1
        try clear c51
        try clear c51b0
        try clear c52
        try clear c52b0
        try clear c52b1
        try clear c54
        try clear c58
        try clear c58b0
        try clear c58b1
        try clear c60
        try clear c60b0
        try clear c61
        try clear c61b0
        try clear c61b1
        try clear c63
        try clear p64
        try clear c67
        try clear c67b0
        try clear c67b1
        try clear c70
        try clear c70b0
        try clear c71
        try clear c71b0
        try clear c71b1
        try clear c73
        try clear c78
        try clear c78b0
        try clear c79
        try clear c79b0
        try clear c79b1
        try clear c81
        try clear c85
        try clear c85b0
        try clear c85b1
        try clear c86
        try clear c88
        try clear c88b0
        try clear c88b1
        try clear c90
        try clear c90b0
        try clear c90b1
        try clear c96
        try clear c96b0
        try clear c96b1
        try clear c98
        try clear c98b0
        try clear c98b1
        try clear hcz21_0
        try clear hcz21_1
        try clear hcz21_2
        try clear hcz23_0
        try clear hcz23_1
        try clear hcz23_2
        try clear hcz28_0
        try clear hcz28_1
        try clear hcz28_2
        try clear hcz30_0
        try clear hcz30_1
        try clear hcz30_2
        try clear hcz45_0
        try clear hcz45_1
        try clear hcz45_2
        try clear hcz55_0
        try clear hcz55_1
        try clear hcz55_2
        try clear hcz64_0
        try clear hcz64_1
        try clear hcz64_2
        try clear hcz74_0
        try clear hcz74_1
        try clear hcz74_2
        try clear hcz82_0
        try clear hcz82_1
        try clear hcz82_2
        try clear hfz21_0
        try clear hfz21_1
        try clear hfz21_2
        try clear hfz23_0
        try clear hfz23_1
        try clear hfz23_2
        try clear hfz28_0
        try clear hfz28_1
        try clear hfz28_2
        try clear hfz30_0
        try clear hfz30_1
        try clear hfz30_2
        try clear hfz45_0
        try clear hfz45_1
        try clear hfz45_2
        try clear hfz55_0
        try clear hfz55_1
        try clear hfz55_2
        try clear hfz64_0
        try clear hfz64_1
        try clear hfz64_2
        try clear hfz74_0
        try clear hfz74_1
        try clear hfz74_2
        try clear hfz82_0
        try clear hfz82_1
        try clear hfz82_2
        try clear hx176_0
        try clear hx176_1
        try clear hx176_2
        try clear hx189_0
        try clear hx189_1
        try clear hx189_2
        try clear hx195_0
        try clear hx199_0
        try clear hx203_0
        try clear hx208_0
        try clear hx209_0
        try clear p1
        try clear p17
        try clear p176
        try clear p18
        try clear p189
        try clear p19
        try clear p195
        try clear p199
        try clear p2
        try clear p20
        try clear p203
        try clear p208
        try clear p209
        try clear p6
        try clear p64
        try clear q1
        try clear q10
        try clear q17
        try clear q176
        try clear q18
        try clear q189
        try clear q19
        try clear q195
        try clear q199
        try clear q2
        try clear q20
        try clear q203
        try clear q208
        try clear q209
        obtain ⟨x6_1, x31_1, rfl, HA, HK1, HO_6, HI248, HB⟩ := hrel
        cases gk with
        | zero => exact absurd HA.out (by simp [dowserlaw01_VarintTakes.l2])
        | succ k1 =>
          have H := HA.out
          clear HA
          simp only [dowserlaw01_VarintTakes.l2] at H
          by_cases c106 : x31_1 < (l1.length : Int)
          · rw [if_pos c106] at H
            have c106b0 : decide (x31_1 < (l1.length : Int)) = true := decide_eq_true c106
            clear c106
            by_cases c107 : 0 ≤ x31_1
            · rw [if_pos c107] at H
              have c107b0 : decide (0 ≤ x31_1) = true := decide_eq_true c107
              clear c107
              by_cases c108 : x31_1 < (l1.length : Int)
              · rw [if_pos c108] at H
                have c108b0 : decide (x31_1 < (l1.length : Int)) = true := decide_eq_true c108
                clear c108
                obtain ⟨ji109, hji109⟩ : ∃ j_ : Int, (Go.bits .and .i64 ((rd_T67 l1 x31_1).f0) 3) = j_ := ⟨_, rfl⟩
                replace H : (if (ji109) = 1 then (if x6_1.length < 5864062014805 then (dowserlaw01_VarintTakes.l2 k1 t152 (x6_1 ++ [(⟨ji109, mn ((rd_T67 l1 x31_1).f1) 1099511627776, (rd_T67 l1 x31_1).f2⟩ : S67)]) l1 (l1.length : Int) (wrap64 (x31_1 + 1)) t246 t247) else (none)) else (if x6_1.length < 5864062014805 then (dowserlaw01_VarintTakes.l2 k1 t152 (x6_1 ++ [(⟨ji109, (rd_T67 l1 x31_1).f1, (rd_T67 l1 x31_1).f2⟩ : S67)]) l1 (l1.length : Int) (wrap64 (x31_1 + 1)) t246 t247) else (none))) = some r := by first | (rw [hji109] at H; exact H) | (simp only [hji109] at H ⊢; exact H)
                by_cases c110 : (ji109) = 1
                · rw [if_pos c110] at H
                  have c110b0 : ((ji109) == 1) = true := beq_iff_eq.mpr c110
                  have c110b1 : ((ji109) != 1) = false := bne_eq_false_iff_eq.mpr c110
                  clear c110
                  obtain ⟨ji111, hji111⟩ : ∃ j_ : Int, (mn ((rd_T67 l1 x31_1).f1) 1099511627776) = j_ := ⟨_, rfl⟩
                  replace H : (if x6_1.length < 5864062014805 then (dowserlaw01_VarintTakes.l2 k1 t152 (x6_1 ++ [(⟨ji109, ji111, (rd_T67 l1 x31_1).f2⟩ : S67)]) l1 (l1.length : Int) (wrap64 (x31_1 + 1)) t246 t247) else (none)) = some r := by first | (rw [hji111] at H; exact H) | (simp only [hji111] at H ⊢; exact H)
                  have hji111_ : (if 1099511627776 < ((rd_T67 l1 x31_1).f1) then 1099511627776 else ((rd_T67 l1 x31_1).f1)) = ji111 := hji111
                  by_cases c112 : x6_1.length < 5864062014805
                  · rw [if_pos c112] at H
                    have LMc112 := Aside0.mk c112
                    clear c112
                    obtain ⟨y251, hy251⟩ : ∃ y_ : List (S67), y_ = (x6_1 ++ [(⟨ji109, ji111, (rd_T67 l1 x31_1).f2⟩ : S67)]) := ⟨_, rfl⟩
                    replace H : (dowserlaw01_VarintTakes.l2 k1 t152 y251 l1 (l1.length : Int) (wrap64 (x31_1 + 1)) t246 t247) = some r := by first | (rw [hy251]; with_reducible exact H) | (have H2_ := (Option.bind_some _ _).symm.trans H; rw [hy251]; with_reducible exact H2_) | (have H2_ := (Option.bind_some _ _).symm.trans H; with_reducible exact H2_) | with_reducible exact H | (rw [hy251]; exact H) | exact H
                    have Ny251 := Aside0.mk hy251
                    clear hy251
                    have H' := Aside0.mk H
                    clear H
                    have p249 : 0 ≤ (x31_1 : Int) := of_decide_eq_true (by first | (with_reducible assumption) | assumption)
                    have q249 : x31_1 < (l1.length : Int) := of_decide_eq_true (by first | (with_reducible assumption) | assumption)
                    obtain ⟨ad249, e249, hx249_0, hx249_1, hx249_2⟩ := at_T67 HR1.out x31_1 p249 q249
                    cases e249
                    replace hx249_0 := (HB.out.cell (World.block_lt_of_cell? w _ hx249_0)).trans hx249_0
                    replace hx249_1 := (HB.out.cell (World.block_lt_of_cell? w _ hx249_1)).trans hx249_1
                    replace hx249_2 := (HB.out.cell (World.block_lt_of_cell? w _ hx249_2)).trans hx249_2
                    replace p249 := eq_true p249
                    replace q249 := eq_true q249
                    go_wp2_with (first | ((with_reducible refine gate_dst (N := 8) rfl ?_); (try (refine gate_guard (by rfl) ?_; dsimp only)); refine box_event ?hg (N := 8) ?hd (cs := #[.int .i64 0, .int .u64 0, .int .i64 0]) (t := 67) ?hr ?_; (case hd => rfl); (case hg => rfl); (case hr => first | (go_simp; done) | (go_simp; rfl)); intro gb250 hg w113 hbox hb; have n0_ := Aside0.mk (Kd.R_below (Kd.R_elderB (by (with_reducible repeat (first | apply Kd.R_alloc | apply Kd.R_drewN | apply Kd.R_drew)); exact HO_6.out) gb250 (Nat.le_of_eq hg.symm)) hb); have n1_ := Aside0.mk (IsS78.below (by repeat (first | (with_reducible first | exact HI248.out | apply IsS78.alloc | apply IsS78.drewN | apply IsS78.drew | apply IsS78.set_0 | apply IsS78.set_1) | exact HI248.out)) hb); have n2_ := Aside0.mk (below_step (by repeat (first | (with_reducible first | exact HB.out | apply below_alloc | apply pw_below_drewN | apply below_drew1 | refine below_set ?_ (IsS78.ge HI248.out)) | exact HB.out)) hb); have n3_ := Aside0.mk (hbox); have n4_ := Aside0.mk ((by rw [hg]; exact (below_size (by repeat (first | (with_reducible first | exact HB.out | apply below_alloc | apply pw_below_drewN | apply below_drew1 | refine below_set ?_ (IsS78.ge HI248.out)) | exact HB.out))) : w.heap.size ≤ gb250)); have n5_ := Aside0.mk ((by rw [hg]; exact (below_size (by repeat (first | (with_reducible first | exact HB.out | apply below_alloc | apply pw_below_drewN | apply below_drew1 | refine below_set ?_ (IsS78.ge HI248.out)) | exact HB.out))) : w.heap.size ≤ gb250)); have n6_ := Aside0.mk ((by rw [hg]; exact Nat.ne_of_lt (IsS78.lt (show IsS78 w _ g248 t246 t247 from by repeat (first | (with_reducible first | exact HI248.out | apply IsS78.alloc | apply IsS78.drewN | apply IsS78.drew | apply IsS78.set_0 | apply IsS78.set_1) | exact HI248.out))) : g248 ≠ gb250)); have n7_ := Aside0.mk ((by rw [hg]; exact Nat.ne_of_gt (IsS78.lt (show IsS78 w _ g248 t246 t247 from by repeat (first | (with_reducible first | exact HI248.out | apply IsS78.alloc | apply IsS78.drewN | apply IsS78.drew | apply IsS78.set_0 | apply IsS78.set_1) | exact HI248.out))) : gb250 ≠ g248)); clear HO_6; clear HI248; clear HB; have HO_6 := n0_; have HI248 := n1_; have HB := n2_; have BK250 := n3_; have GW250 := n4_; have GE250 := n5_; have NB248_250 := n6_; have NB250_248 := n7_; clear n0_ n1_ n2_ n3_ n4_ n5_ n6_ n7_; clear hb hbox hg; have hnb114 := NB250_248.out; have hnc114 := NB248_250.out; have hcz115_0 : w113.cell? ⟨gb250, 0, none⟩ = some (.int .i64 0) := (blk_cell BK250.out 0).trans rfl; have hcz115_1 : w113.cell? ⟨gb250, 1, none⟩ = some (.int .u64 0) := (blk_cell BK250.out 1).trans rfl; have hcz115_2 : w113.cell? ⟨gb250, 2, none⟩ = some (.int .i64 0) := (blk_cell BK250.out 2).trans rfl; have hfz115_0 := blk_frozen BK250.out 0; have hfz115_1 := blk_frozen BK250.out 1; have hfz115_2 := blk_frozen BK250.out 2) | ((with_reducible refine gate_store (t := 3) (p := 38) rfl ?_); refine store_event (t := 3) (p := 38) (v := ?vo_w116) (w1 := ((((w113.setCell ⟨gb250, 0, none⟩ (.int .i64 ((rd_T67 l1 x31_1).f0))).setCell ⟨gb250, 1, none⟩ (.int .u64 ((rd_T67 l1 x31_1).f1))).setCell ⟨gb250, 2, none⟩ (.int .i64 ((rd_T67 l1 x31_1).f2))).setCell ⟨gb250, 0, none⟩ (.int .i64 ji109))) ?hg ?ho ?hn ?hr ?_; (case ho => rfl); (case hg => rfl); (case hn => rfl); (case hr => first | (go_simp; done) | (go_simp; rfl)); intro w116 hw; have n0_ : Aside0 (Kd.R k67 67 w116 w.heap.size (fun k_ => k_ ≠ gb250) u6 x6_1) := ⟨(by rw [hw]; exact (by (with_reducible repeat (first | apply Kd.R_alloc | apply Kd.R_drewN | apply Kd.R_drew)); exact Kd.R_mono (Kd.R_far (p := ⟨gb250, 0, none⟩) (Kd.R_far (p := ⟨gb250, 2, none⟩) (Kd.R_far (p := ⟨gb250, 1, none⟩) (Kd.R_far (p := ⟨gb250, 0, none⟩) (Kd.R_mono HO_6.out (fun k_ hk => (⟨hk, hk.2⟩ : _ ∧ k_ ≠ gb250))) (fun _ hk => hk.2) (.int .i64 ((rd_T67 l1 x31_1).f0))) (fun _ hk => hk.2) (.int .u64 ((rd_T67 l1 x31_1).f1))) (fun _ hk => hk.2) (.int .i64 ((rd_T67 l1 x31_1).f2))) (fun _ hk => hk.2) (.int .i64 ji109)) (fun _ hk => hk.1.2)))⟩; have n1_ : Aside0 (w116.heap[gb250]? = some (.cells #[.int .i64 ji109, .int .u64 ((rd_T67 l1 x31_1).f1), .int .i64 ((rd_T67 l1 x31_1).f2)] 67 (0, 0))) := ⟨(by rw [hw]; exact (by (with_reducible repeat (first | refine blk_drewN ?_ _ | refine blk_drew ?_ | refine blk_alloc ?_ _)); refine blk_put (cs := #[.int .i64 ((rd_T67 l1 x31_1).f0), .int .u64 ((rd_T67 l1 x31_1).f1), .int .i64 ((rd_T67 l1 x31_1).f2)]) ?_ 0 _ rfl; (with_reducible repeat (first | refine blk_drewN ?_ _ | refine blk_drew ?_ | refine blk_alloc ?_ _)); refine blk_put (cs := #[.int .i64 ((rd_T67 l1 x31_1).f0), .int .u64 ((rd_T67 l1 x31_1).f1), .int .i64 0]) ?_ 2 _ rfl; (with_reducible repeat (first | refine blk_drewN ?_ _ | refine blk_drew ?_ | refine blk_alloc ?_ _)); refine blk_put (cs := #[.int .i64 ((rd_T67 l1 x31_1).f0), .int .u64 0, .int .i64 0]) ?_ 1 _ rfl; (with_reducible repeat (first | refine blk_drewN ?_ _ | refine blk_drew ?_ | refine blk_alloc ?_ _)); refine blk_put (cs := #[.int .i64 0, .int .u64 0, .int .i64 0]) ?_ 0 _ rfl; (with_reducible repeat (first | refine blk_drewN ?_ _ | refine blk_drew ?_ | refine blk_alloc ?_ _)); exact BK250.out))⟩; have n2_ : Aside0 (IsS78 w w116 g248 t246 t247) := ⟨(by rw [hw]; exact (by repeat (first | (with_reducible first | exact HI248.out | apply IsS78.alloc | apply IsS78.drewN | apply IsS78.drew | apply IsS78.set_0 | apply IsS78.set_1 | refine IsS78.far ?_ NB248_250.out _) | exact HI248.out)))⟩; have n3_ : Aside0 (Below w.heap.size w w116) := ⟨(by rw [hw]; exact (by repeat (first | (with_reducible first | exact HB.out | apply below_alloc | apply pw_below_drewN | apply below_drew1 | refine below_set ?_ (IsS78.ge HI248.out) | refine below_set ?_ GE250.out) | exact HB.out)))⟩; clear hw; clear HO_6; clear BK250; clear HI248; clear HB; have HO_6 := n0_; have BK250 := n1_; have HI248 := n2_; have HB := n3_; clear n0_ n1_ n2_ n3_; have hcz117_0 : w116.cell? ⟨gb250, 0, none⟩ = some (.int .i64 ji109) := (blk_cell BK250.out 0).trans rfl; have hcz117_1 : w116.cell? ⟨gb250, 1, none⟩ = some (.int .u64 ((rd_T67 l1 x31_1).f1)) := (blk_cell BK250.out 1).trans rfl; have hcz117_2 : w116.cell? ⟨gb250, 2, none⟩ = some (.int .i64 ((rd_T67 l1 x31_1).f2)) := (blk_cell BK250.out 2).trans rfl; have hfz117_0 := blk_frozen BK250.out 0; have hfz117_1 := blk_frozen BK250.out 1; have hfz117_2 := blk_frozen BK250.out 2) | ((with_reducible refine gate_builtin (b := .append) (xs := #[.tmp 46, .tmp 48]) rfl ?_); (try (refine gate_guard (by rfl) ?_; dsimp only)); at_builtin; refine Kd.R_append k67 (w0 := w) w.heap.size rfl (.tmp 46) (.tmp 48) 65 67 (.agg #[(.int .i64 0), (.int .u64 0), (.int .i64 0)]) 24 rfl Try.underlying65 info67 rfl (by decide) (by omega) u6 x6_1 (⟨ji109, ji111, (rd_T67 l1 x31_1).f2⟩ : S67) [.int .i64 ji109, .int .u64 ji111, .int .i64 ((rd_T67 l1 x31_1).f2)] (fun k_ => k_ ≠ gb250) (fun _ => False) rfl (by first | (go_simp; done) | (go_simp; rfl)) ?aP (fun _ hk => hk.elim) ?aF ?aO ?aB ?aS ?aL ?_; (case aP => exact k67_mkM _ _ _ (⟨ji109, ji111, (rd_T67 l1 x31_1).f2⟩ : S67)); (case aB => exact (by repeat (first | (with_reducible first | exact HB.out | apply below_alloc | apply pw_below_drewN | apply below_drew1 | refine below_set ?_ (IsS78.ge HI248.out) | refine below_set ?_ GE250.out) | exact HB.out))); (case aF => exact (fun k_ hk => Kd.freshB (g := gb250) (o := .cells #[.int .i64 ji109, .int .u64 ji111, .int .i64 ((rd_T67 l1 x31_1).f2)] 67 (0, 0)) (by (with_reducible repeat (first | refine blk_drewN ?_ _ | refine blk_drew ?_ | refine blk_alloc ?_ _)); refine blk_put (cs := #[.int .i64 ji109, .int .u64 ((rd_T67 l1 x31_1).f1), .int .i64 ((rd_T67 l1 x31_1).f2)]) ?_ 1 _ rfl; (with_reducible repeat (first | refine blk_drewN ?_ _ | refine blk_drew ?_ | refine blk_alloc ?_ _)); exact BK250.out) k_ hk)); (case aO => exact (by (with_reducible repeat (first | apply Kd.R_alloc | apply Kd.R_drewN | apply Kd.R_drew)); exact Kd.R_mono (Kd.R_far (p := ⟨gb250, 1, none⟩) (Kd.R_mono HO_6.out (fun k_ hk => (⟨hk, hk⟩ : _ ∧ k_ ≠ gb250))) (fun _ hk => hk.2) (.int .u64 ji111)) (fun _ hk => hk.1))); (case aS => exact (below_size (by repeat (first | (with_reducible first | exact HB.out | apply below_alloc | apply pw_below_drewN | apply below_drew1 | refine below_set ?_ (IsS78.ge HI248.out) | refine below_set ?_ GE250.out) | exact HB.out)))); (case aL => have := LMc112.out; omega); intro v252 w118 ho hb hg hat; rw [← Ny251.out] at ho; have n0_ := Aside0.mk (IsS78.grown (show IsS78 w _ g248 t246 t247 from by repeat (first | (with_reducible first | exact HI248.out | apply IsS78.alloc | apply IsS78.drewN | apply IsS78.drew | apply IsS78.set_0 | apply IsS78.set_1 | refine IsS78.far ?_ NB248_250.out _) | exact HI248.out)) hg (IsS78.own_ne HI248.out HO_6.out (by decide))); have n1_ := Aside0.mk (blk_grown (g := gb250) (o := .cells #[.int .i64 ji109, .int .u64 ji111, .int .i64 ((rd_T67 l1 x31_1).f2)] 67 (0, 0)) (by (with_reducible repeat (first | refine blk_drewN ?_ _ | refine blk_drew ?_ | refine blk_alloc ?_ _)); refine blk_put (cs := #[.int .i64 ji109, .int .u64 ((rd_T67 l1 x31_1).f1), .int .i64 ((rd_T67 l1 x31_1).f2)]) ?_ 1 _ rfl; (with_reducible repeat (first | refine blk_drewN ?_ _ | refine blk_drew ?_ | refine blk_alloc ?_ _)); exact BK250.out) hg (Kd.R_away HO_6.out (fun _ hk => hk))); have n2_ := Aside0.mk (hb); have n3_ := Aside0.mk (ho); clear HI248; clear BK250; clear HB; clear HO_6; have HI248 := n0_; have BK250 := n1_; have HB := n2_; have HO253 := n3_; clear n0_ n1_ n2_ n3_; clear ho hb hg hat))
                    go_roundg k1
                    case measure => have := HK1.out; omega
                    case rel => exact ⟨(y251), (wrap64 (x31_1 + 1)), (by first | rfl | (simp; done) | (simp [*]; done) | (simp; rw [Bool.eq_iff_iff]; simp; done)), H', ⟨by have := HK1.out; omega⟩, ⟨by (with_reducible repeat (first | apply Kd.R_alloc | apply Kd.R_drewN | apply Kd.R_drew)); exact Kd.R_mono HO253.out (fun _ hk => trivial)⟩, ⟨by repeat (first | (with_reducible first | exact HI248.out | apply IsS78.alloc | apply IsS78.drewN | apply IsS78.drew | apply IsS78.set_0 | apply IsS78.set_1 | refine IsS78.far ?_ NB248_250.out _) | exact HI248.out)⟩, ⟨by repeat (first | (with_reducible first | exact HB.out | apply below_alloc | apply pw_below_drewN | apply below_drew1 | refine below_set ?_ (IsS78.ge HI248.out) | refine below_set ?_ GE250.out) | exact HB.out)⟩⟩
                  · rw [if_neg c112] at H
                    exact absurd H (by simp)
                · rw [if_neg c110] at H
                  have c110b0 : ((ji109) == 1) = false := beq_eq_false_iff_ne.mpr c110
                  have c110b1 : ((ji109) != 1) = true := bne_iff_ne.mpr c110
                  by_cases c119 : x6_1.length < 5864062014805
                  · rw [if_pos c119] at H
                    have LMc119 := Aside0.mk c119
                    clear c119
                    obtain ⟨y254, hy254⟩ : ∃ y_ : List (S67), y_ = (x6_1 ++ [(⟨ji109, (rd_T67 l1 x31_1).f1, (rd_T67 l1 x31_1).f2⟩ : S67)]) := ⟨_, rfl⟩
                    replace H : (dowserlaw01_VarintTakes.l2 k1 t152 y254 l1 (l1.length : Int) (wrap64 (x31_1 + 1)) t246 t247) = some r := by first | (rw [hy254]; with_reducible exact H) | (have H2_ := (Option.bind_some _ _).symm.trans H; rw [hy254]; with_reducible exact H2_) | (have H2_ := (Option.bind_some _ _).symm.trans H; with_reducible exact H2_) | with_reducible exact H | (rw [hy254]; exact H) | exact H
                    have Ny254 := Aside0.mk hy254
                    clear hy254
                    have H' := Aside0.mk H
                    clear H
                    have p249 : 0 ≤ (x31_1 : Int) := of_decide_eq_true (by first | (with_reducible assumption) | assumption)
                    have q249 : x31_1 < (l1.length : Int) := of_decide_eq_true (by first | (with_reducible assumption) | assumption)
                    obtain ⟨ad249, e249, hx249_0, hx249_1, hx249_2⟩ := at_T67 HR1.out x31_1 p249 q249
                    cases e249
                    replace hx249_0 := (HB.out.cell (World.block_lt_of_cell? w _ hx249_0)).trans hx249_0
                    replace hx249_1 := (HB.out.cell (World.block_lt_of_cell? w _ hx249_1)).trans hx249_1
                    replace hx249_2 := (HB.out.cell (World.block_lt_of_cell? w _ hx249_2)).trans hx249_2
                    replace p249 := eq_true p249
                    replace q249 := eq_true q249
                    go_wp2_with (first | ((with_reducible refine gate_dst (N := 8) rfl ?_); (try (refine gate_guard (by rfl) ?_; dsimp only)); refine box_event ?hg (N := 8) ?hd (cs := #[.int .i64 0, .int .u64 0, .int .i64 0]) (t := 67) ?hr ?_; (case hd => rfl); (case hg => rfl); (case hr => first | (go_simp; done) | (go_simp; rfl)); intro gb250 hg w120 hbox hb; have n0_ := Aside0.mk (Kd.R_below (Kd.R_elderB (by (with_reducible repeat (first | apply Kd.R_alloc | apply Kd.R_drewN | apply Kd.R_drew)); exact HO_6.out) gb250 (Nat.le_of_eq hg.symm)) hb); have n1_ := Aside0.mk (IsS78.below (by repeat (first | (with_reducible first | exact HI248.out | apply IsS78.alloc | apply IsS78.drewN | apply IsS78.drew | apply IsS78.set_0 | apply IsS78.set_1) | exact HI248.out)) hb); have n2_ := Aside0.mk (below_step (by repeat (first | (with_reducible first | exact HB.out | apply below_alloc | apply pw_below_drewN | apply below_drew1 | refine below_set ?_ (IsS78.ge HI248.out)) | exact HB.out)) hb); have n3_ := Aside0.mk (hbox); have n4_ := Aside0.mk ((by rw [hg]; exact (below_size (by repeat (first | (with_reducible first | exact HB.out | apply below_alloc | apply pw_below_drewN | apply below_drew1 | refine below_set ?_ (IsS78.ge HI248.out)) | exact HB.out))) : w.heap.size ≤ gb250)); have n5_ := Aside0.mk ((by rw [hg]; exact (below_size (by repeat (first | (with_reducible first | exact HB.out | apply below_alloc | apply pw_below_drewN | apply below_drew1 | refine below_set ?_ (IsS78.ge HI248.out)) | exact HB.out))) : w.heap.size ≤ gb250)); have n6_ := Aside0.mk ((by rw [hg]; exact Nat.ne_of_lt (IsS78.lt (show IsS78 w _ g248 t246 t247 from by repeat (first | (with_reducible first | exact HI248.out | apply IsS78.alloc | apply IsS78.drewN | apply IsS78.drew | apply IsS78.set_0 | apply IsS78.set_1) | exact HI248.out))) : g248 ≠ gb250)); have n7_ := Aside0.mk ((by rw [hg]; exact Nat.ne_of_gt (IsS78.lt (show IsS78 w _ g248 t246 t247 from by repeat (first | (with_reducible first | exact HI248.out | apply IsS78.alloc | apply IsS78.drewN | apply IsS78.drew | apply IsS78.set_0 | apply IsS78.set_1) | exact HI248.out))) : gb250 ≠ g248)); clear HO_6; clear HI248; clear HB; have HO_6 := n0_; have HI248 := n1_; have HB := n2_; have BK250 := n3_; have GW250 := n4_; have GE250 := n5_; have NB248_250 := n6_; have NB250_248 := n7_; clear n0_ n1_ n2_ n3_ n4_ n5_ n6_ n7_; clear hb hbox hg; have hnb121 := NB250_248.out; have hnc121 := NB248_250.out; have hcz122_0 : w120.cell? ⟨gb250, 0, none⟩ = some (.int .i64 0) := (blk_cell BK250.out 0).trans rfl; have hcz122_1 : w120.cell? ⟨gb250, 1, none⟩ = some (.int .u64 0) := (blk_cell BK250.out 1).trans rfl; have hcz122_2 : w120.cell? ⟨gb250, 2, none⟩ = some (.int .i64 0) := (blk_cell BK250.out 2).trans rfl; have hfz122_0 := blk_frozen BK250.out 0; have hfz122_1 := blk_frozen BK250.out 1; have hfz122_2 := blk_frozen BK250.out 2) | ((with_reducible refine gate_store (t := 3) (p := 38) rfl ?_); refine store_event (t := 3) (p := 38) (v := ?vo_w123) (w1 := ((((w120.setCell ⟨gb250, 0, none⟩ (.int .i64 ((rd_T67 l1 x31_1).f0))).setCell ⟨gb250, 1, none⟩ (.int .u64 ((rd_T67 l1 x31_1).f1))).setCell ⟨gb250, 2, none⟩ (.int .i64 ((rd_T67 l1 x31_1).f2))).setCell ⟨gb250, 0, none⟩ (.int .i64 ji109))) ?hg ?ho ?hn ?hr ?_; (case ho => rfl); (case hg => rfl); (case hn => rfl); (case hr => first | (go_simp; done) | (go_simp; rfl)); intro w123 hw; have n0_ : Aside0 (Kd.R k67 67 w123 w.heap.size (fun k_ => k_ ≠ gb250) u6 x6_1) := ⟨(by rw [hw]; exact (by (with_reducible repeat (first | apply Kd.R_alloc | apply Kd.R_drewN | apply Kd.R_drew)); exact Kd.R_mono (Kd.R_far (p := ⟨gb250, 0, none⟩) (Kd.R_far (p := ⟨gb250, 2, none⟩) (Kd.R_far (p := ⟨gb250, 1, none⟩) (Kd.R_far (p := ⟨gb250, 0, none⟩) (Kd.R_mono HO_6.out (fun k_ hk => (⟨hk, hk.2⟩ : _ ∧ k_ ≠ gb250))) (fun _ hk => hk.2) (.int .i64 ((rd_T67 l1 x31_1).f0))) (fun _ hk => hk.2) (.int .u64 ((rd_T67 l1 x31_1).f1))) (fun _ hk => hk.2) (.int .i64 ((rd_T67 l1 x31_1).f2))) (fun _ hk => hk.2) (.int .i64 ji109)) (fun _ hk => hk.1.2)))⟩; have n1_ : Aside0 (w123.heap[gb250]? = some (.cells #[.int .i64 ji109, .int .u64 ((rd_T67 l1 x31_1).f1), .int .i64 ((rd_T67 l1 x31_1).f2)] 67 (0, 0))) := ⟨(by rw [hw]; exact (by (with_reducible repeat (first | refine blk_drewN ?_ _ | refine blk_drew ?_ | refine blk_alloc ?_ _)); refine blk_put (cs := #[.int .i64 ((rd_T67 l1 x31_1).f0), .int .u64 ((rd_T67 l1 x31_1).f1), .int .i64 ((rd_T67 l1 x31_1).f2)]) ?_ 0 _ rfl; (with_reducible repeat (first | refine blk_drewN ?_ _ | refine blk_drew ?_ | refine blk_alloc ?_ _)); refine blk_put (cs := #[.int .i64 ((rd_T67 l1 x31_1).f0), .int .u64 ((rd_T67 l1 x31_1).f1), .int .i64 0]) ?_ 2 _ rfl; (with_reducible repeat (first | refine blk_drewN ?_ _ | refine blk_drew ?_ | refine blk_alloc ?_ _)); refine blk_put (cs := #[.int .i64 ((rd_T67 l1 x31_1).f0), .int .u64 0, .int .i64 0]) ?_ 1 _ rfl; (with_reducible repeat (first | refine blk_drewN ?_ _ | refine blk_drew ?_ | refine blk_alloc ?_ _)); refine blk_put (cs := #[.int .i64 0, .int .u64 0, .int .i64 0]) ?_ 0 _ rfl; (with_reducible repeat (first | refine blk_drewN ?_ _ | refine blk_drew ?_ | refine blk_alloc ?_ _)); exact BK250.out))⟩; have n2_ : Aside0 (IsS78 w w123 g248 t246 t247) := ⟨(by rw [hw]; exact (by repeat (first | (with_reducible first | exact HI248.out | apply IsS78.alloc | apply IsS78.drewN | apply IsS78.drew | apply IsS78.set_0 | apply IsS78.set_1 | refine IsS78.far ?_ NB248_250.out _) | exact HI248.out)))⟩; have n3_ : Aside0 (Below w.heap.size w w123) := ⟨(by rw [hw]; exact (by repeat (first | (with_reducible first | exact HB.out | apply below_alloc | apply pw_below_drewN | apply below_drew1 | refine below_set ?_ (IsS78.ge HI248.out) | refine below_set ?_ GE250.out) | exact HB.out)))⟩; clear hw; clear HO_6; clear BK250; clear HI248; clear HB; have HO_6 := n0_; have BK250 := n1_; have HI248 := n2_; have HB := n3_; clear n0_ n1_ n2_ n3_; have hcz124_0 : w123.cell? ⟨gb250, 0, none⟩ = some (.int .i64 ji109) := (blk_cell BK250.out 0).trans rfl; have hcz124_1 : w123.cell? ⟨gb250, 1, none⟩ = some (.int .u64 ((rd_T67 l1 x31_1).f1)) := (blk_cell BK250.out 1).trans rfl; have hcz124_2 : w123.cell? ⟨gb250, 2, none⟩ = some (.int .i64 ((rd_T67 l1 x31_1).f2)) := (blk_cell BK250.out 2).trans rfl; have hfz124_0 := blk_frozen BK250.out 0; have hfz124_1 := blk_frozen BK250.out 1; have hfz124_2 := blk_frozen BK250.out 2) | ((with_reducible refine gate_builtin (b := .append) (xs := #[.tmp 46, .tmp 48]) rfl ?_); (try (refine gate_guard (by rfl) ?_; dsimp only)); at_builtin; refine Kd.R_append k67 (w0 := w) w.heap.size rfl (.tmp 46) (.tmp 48) 65 67 (.agg #[(.int .i64 0), (.int .u64 0), (.int .i64 0)]) 24 rfl Try.underlying65 info67 rfl (by decide) (by omega) u6 x6_1 (⟨ji109, (rd_T67 l1 x31_1).f1, (rd_T67 l1 x31_1).f2⟩ : S67) [.int .i64 ji109, .int .u64 ((rd_T67 l1 x31_1).f1), .int .i64 ((rd_T67 l1 x31_1).f2)] (fun k_ => k_ ≠ gb250) (fun _ => False) rfl rfl ?aP (fun _ hk => hk.elim) ?aF ?aO ?aB ?aS ?aL ?_; (case aP => exact k67_mkM _ _ _ (⟨ji109, (rd_T67 l1 x31_1).f1, (rd_T67 l1 x31_1).f2⟩ : S67)); (case aB => exact (by repeat (first | (with_reducible first | exact HB.out | apply below_alloc | apply pw_below_drewN | apply below_drew1 | refine below_set ?_ (IsS78.ge HI248.out) | refine below_set ?_ GE250.out) | exact HB.out))); (case aF => exact (fun k_ hk => Kd.freshB (g := gb250) (o := .cells #[.int .i64 ji109, .int .u64 ((rd_T67 l1 x31_1).f1), .int .i64 ((rd_T67 l1 x31_1).f2)] 67 (0, 0)) (by (with_reducible repeat (first | refine blk_drewN ?_ _ | refine blk_drew ?_ | refine blk_alloc ?_ _)); exact BK250.out) k_ hk)); (case aO => exact (by (with_reducible repeat (first | apply Kd.R_alloc | apply Kd.R_drewN | apply Kd.R_drew)); exact HO_6.out)); (case aS => exact (below_size (by repeat (first | (with_reducible first | exact HB.out | apply below_alloc | apply pw_below_drewN | apply below_drew1 | refine below_set ?_ (IsS78.ge HI248.out) | refine below_set ?_ GE250.out) | exact HB.out)))); (case aL => have := LMc119.out; omega); intro v255 w125 ho hb hg hat; rw [← Ny254.out] at ho; have n0_ := Aside0.mk (IsS78.grown (show IsS78 w _ g248 t246 t247 from by repeat (first | (with_reducible first | exact HI248.out | apply IsS78.alloc | apply IsS78.drewN | apply IsS78.drew | apply IsS78.set_0 | apply IsS78.set_1 | refine IsS78.far ?_ NB248_250.out _) | exact HI248.out)) hg (IsS78.own_ne HI248.out HO_6.out (by decide))); have n1_ := Aside0.mk (blk_grown (g := gb250) (o := .cells #[.int .i64 ji109, .int .u64 ((rd_T67 l1 x31_1).f1), .int .i64 ((rd_T67 l1 x31_1).f2)] 67 (0, 0)) (by (with_reducible repeat (first | refine blk_drewN ?_ _ | refine blk_drew ?_ | refine blk_alloc ?_ _)); exact BK250.out) hg (Kd.R_away HO_6.out (fun _ hk => hk))); have n2_ := Aside0.mk (hb); have n3_ := Aside0.mk (ho); clear HI248; clear BK250; clear HB; clear HO_6; have HI248 := n0_; have BK250 := n1_; have HB := n2_; have HO256 := n3_; clear n0_ n1_ n2_ n3_; clear ho hb hg hat))
                    go_roundg k1
                    case measure => have := HK1.out; omega
                    case rel => exact ⟨(y254), (wrap64 (x31_1 + 1)), (by first | rfl | (simp; done) | (simp [*]; done) | (simp; rw [Bool.eq_iff_iff]; simp; done)), H', ⟨by have := HK1.out; omega⟩, ⟨by (with_reducible repeat (first | apply Kd.R_alloc | apply Kd.R_drewN | apply Kd.R_drew)); exact Kd.R_mono HO256.out (fun _ hk => trivial)⟩, ⟨by repeat (first | (with_reducible first | exact HI248.out | apply IsS78.alloc | apply IsS78.drewN | apply IsS78.drew | apply IsS78.set_0 | apply IsS78.set_1 | refine IsS78.far ?_ NB248_250.out _) | exact HI248.out)⟩, ⟨by repeat (first | (with_reducible first | exact HB.out | apply below_alloc | apply pw_below_drewN | apply below_drew1 | refine below_set ?_ (IsS78.ge HI248.out) | refine below_set ?_ GE250.out) | exact HB.out)⟩⟩
                  · rw [if_neg c119] at H
                    exact absurd H (by simp)
              · rw [if_neg c108] at H
                exact absurd H (by simp)
            · rw [if_neg c107] at H
              exact absurd H (by simp)
          · rw [if_neg c106] at H
            have c106b0 : decide (x31_1 < (l1.length : Int)) = false := decide_eq_false c106
            clear c106
            replace H := Option.bind_eq_some_iff.mp H
            obtain ⟨⟨t257, t258, t259⟩, A1260, H⟩ := H
            replace H : (dowserlaw01_VarintTakes.l3 k1 t257 t258 t259 x6_1 (x6_1.length : Int) 0 t246 t247) = some r := H
            have A126 := Aside0.mk A1260
            clear A1260
            have H' := Aside0.mk H
            clear H
            obtain ⟨Ao127, co127, eo127⟩ := Kd.R_slice HO_6.out
            subst eo127
            go_wp2_with (first | ((with_reducible refine gate_callee (f := 47) rfl ?_); refine goesL_ (some 54) rfl rfl Try.func47 (by kernel_rfl) rfl #[.string t152, .slice Ao127 x6_1.length co127] rfl (by (try simp only [List.map_toArray, List.map_cons, List.map_nil]); first | done | rfl | (simp only [List.length_drop, List.length_take]; rfl)) ?_; (with_reducible refine (dowserref01_Take.calls k1 t152 _ _ x6_1 t257 t258 t259 _ ?side1 ?side2 A126.out).mono ?_); (case side1 => repeat (first | exact (Kd.R_reads' HO_6.out).2.2 | (with_reducible refine Kd.C_alloc ?_ _) | (with_reducible refine Kd.C_drewN ?_ _) | (with_reducible refine Kd.C_drew ?_))); (case side2 => exact (Kd.R_reads' HO_6.out).2.1); rintro e w128 ⟨v260, rfl, ho0, hb⟩; refine ⟨_, rfl, ?_⟩; have n0_ := Aside0.mk (Kd.R_below (by (with_reducible repeat (first | apply Kd.R_alloc | apply Kd.R_drewN | apply Kd.R_drew)); exact HO_6.out) hb); have n1_ := Aside0.mk (Kd.R_lower ho0 (below_size (by repeat (first | (with_reducible first | exact HB.out | apply below_alloc | apply pw_below_drewN | apply below_drew1 | refine below_set ?_ (IsS78.ge HI248.out)) | exact HB.out)))); have n2_ := Aside0.mk (IsS78.below (by repeat (first | (with_reducible first | exact HI248.out | apply IsS78.alloc | apply IsS78.drewN | apply IsS78.drew | apply IsS78.set_0 | apply IsS78.set_1) | exact HI248.out)) hb); have n3_ := Aside0.mk (below_step (by repeat (first | (with_reducible first | exact HB.out | apply below_alloc | apply pw_below_drewN | apply below_drew1 | refine below_set ?_ (IsS78.ge HI248.out)) | exact HB.out)) hb); clear HO_6; clear HI248; clear HB; have HO_6 := n0_; have HO261 := n1_; have HI248 := n2_; have HB := n3_; clear n0_ n1_ n2_ n3_; (try clear hb); (try clear hb2); (try clear hk); (try clear hi); (try clear ho0)))
            go_loopg [60] k1 (fun kq v60 w' => ∃ (x60_2 : Int) (x249000_2 : ByteArray) (x249001_2 : Int), v60 = .int .i64 x60_2 ∧ Aside0 (dowserlaw01_VarintTakes.l3 kq t257 t258 t259 x6_1 (x6_1.length : Int) x60_2 x249000_2 x249001_2 = some r) ∧ Aside0 (kq ≤ k1) ∧ Aside0 (Kd.R Kd.string 9 w' w.heap.size (fun _ => True) v260 t257) ∧ Aside0 (Kd.R k67 67 w' w.heap.size (fun _ => True) (.slice Ao127 x6_1.length co127) x6_1) ∧ Aside0 (IsS78 w w' g248 x249000_2 x249001_2) ∧ Aside0 (Below w.heap.size w w'))
            case atStart => exact ⟨(0), (t246), (t247), (by first | rfl | (simp; done) | (simp [*]; done) | (simp; rw [Bool.eq_iff_iff]; simp; done)), H', ⟨Nat.le_refl _⟩, ⟨by (with_reducible repeat (first | apply Kd.R_alloc | apply Kd.R_drewN | apply Kd.R_drew)); exact HO261.out⟩, ⟨by (with_reducible repeat (first | apply Kd.R_alloc | apply Kd.R_drewN | apply Kd.R_drew)); exact HO_6.out⟩, ⟨by repeat (first | (with_reducible first | exact HI248.out | apply IsS78.alloc | apply IsS78.drewN | apply IsS78.drew | apply IsS78.set_0 | apply IsS78.set_1) | exact HI248.out)⟩, ⟨by repeat (first | (with_reducible first | exact HB.out | apply below_alloc | apply pw_below_drewN | apply below_drew1 | refine below_set ?_ (IsS78.ge HI248.out)) | exact HB.out)⟩⟩
            case round =>
              clear H'
              try clear c1
              try clear p1
              try clear q1
              try clear hx1
              try clear c2
              try clear p2
              try clear q2
              try clear hx2
              try clear c3
              try clear c4
              try clear c5
              try clear c6
              try clear c6b0
              try clear c6b1
              try clear p6
              try clear c7
              try clear c7b0
              try clear c7b1
              try clear c8
              try clear c9
              try clear c10
              try clear q10
              try clear c11
              try clear c12
              try clear c12b0
              try clear c13
              try clear c13b0
              try clear c14
              try clear c14b0
              try clear c16
              try clear c16b0
              try clear c16b1
              try clear p17
              try clear q17
              try clear hx17
              try clear c18
              try clear p18
              try clear q18
              try clear hx18
              try clear p19
              try clear q19
              try clear hx19
              try clear c20
              try clear p20
              try clear q20
              try clear hx20
              try clear p24
              try clear q24
              try clear hx24
              try clear c25
              try clear c27
              try clear c29
              try clear c30
              try clear c31
              try clear c35
              try clear c35b0
              try clear c36
              try clear c36b0
              try clear c37
              try clear c37b0
              try clear c38
              try clear c38b0
              try clear c38b1
              try clear c41
              try clear c41b0
              try clear c42
              try clear c42b0
              try clear c42b1
              try clear c44
              try clear c46
              try clear c47
              try clear c48
              try clear c49
              try clear c49b0
              try clear c49b1
              try clear c51
              try clear c51b0
              try clear c52
              try clear c52b0
              try clear c52b1
              try clear c54
              try clear c58
              try clear c58b0
              try clear c58b1
              try clear c60
              try clear c60b0
              try clear c61
              try clear c61b0
              try clear c61b1
              try clear c63
              try clear p64
              try clear c67
              try clear c67b0
              try clear c67b1
              try clear c70
              try clear c70b0
              try clear c71
              try clear c71b0
              try clear c71b1
              try clear c73
              try clear c78
              try clear c78b0
              try clear c79
              try clear c79b0
              try clear c79b1
              try clear c81
              try clear c85
              try clear c85b0
              try clear c85b1
              try clear c86
              try clear c88
              try clear c88b0
              try clear c88b1
              try clear c90
              try clear c90b0
              try clear c90b1
              try clear c96
              try clear c96b0
              try clear c96b1
              try clear c98
              try clear c98b0
              try clear c98b1
              try clear c106
              try clear c106b0
              try clear c107
              try clear c107b0
              try clear c108
              try clear c108b0
              try clear c110
              try clear c110b0
              try clear c110b1
              try clear c112
              try clear c114
              try clear c119
              try clear c121
              try clear hcz115_0
              try clear hcz115_1
              try clear hcz115_2
              try clear hcz117_0
              try clear hcz117_1
              try clear hcz117_2
              try clear hcz122_0
              try clear hcz122_1
              try clear hcz122_2
              try clear hcz124_0
              try clear hcz124_1
              try clear hcz124_2
              try clear hcz21_0
              try clear hcz21_1
              try clear hcz21_2
              try clear hcz23_0
              try clear hcz23_1
              try clear hcz23_2
              try clear hcz28_0
              try clear hcz28_1
              try clear hcz28_2
              try clear hcz30_0
              try clear hcz30_1
              try clear hcz30_2
              try clear hcz45_0
              try clear hcz45_1
              try clear hcz45_2
              try clear hcz55_0
              try clear hcz55_1
              try clear hcz55_2
              try clear hcz64_0
              try clear hcz64_1
              try clear hcz64_2
              try clear hcz74_0
              try clear hcz74_1
              try clear hcz74_2
              try clear hcz82_0
              try clear hcz82_1
              try clear hcz82_2
              try clear hfz115_0
              try clear hfz115_1
              try clear hfz115_2
              try clear hfz117_0
              try clear hfz117_1
              try clear hfz117_2
              try clear hfz122_0
              try clear hfz122_1
              try clear hfz122_2
              try clear hfz124_0
              try clear hfz124_1
              try clear hfz124_2
              try clear hfz21_0
              try clear hfz21_1
              try clear hfz21_2
              try clear hfz23_0
              try clear hfz23_1
              try clear hfz23_2
              try clear hfz28_0
              try clear hfz28_1
              try clear hfz28_2
              try clear hfz30_0
              try clear hfz30_1
              try clear hfz30_2
              try clear hfz45_0
              try clear hfz45_1
              try clear hfz45_2
              try clear hfz55_0
              try clear hfz55_1
              try clear hfz55_2
              try clear hfz64_0
              try clear hfz64_1
              try clear hfz64_2
              try clear hfz74_0
              try clear hfz74_1
              try clear hfz74_2
              try clear hfz82_0
              try clear hfz82_1
              try clear hfz82_2
              try clear hx176_0
              try clear hx176_1
              try clear hx176_2
              try clear hx189_0
              try clear hx189_1
              try clear hx189_2
              try clear hx195_0
              try clear hx199_0
              try clear hx203_0
              try clear hx208_0
              try clear hx209_0
              try clear hx249_0
              try clear hx249_1
              try clear hx249_2
              try clear p1
              try clear p17
              try clear p176
              try clear p18
              try clear p189
              try clear p19
              try clear p195
              try clear p199
              try clear p2
              try clear p20
              try clear p203
              try clear p208
              try clear p209
              try clear p249
              try clear p6
              try clear p64
              try clear q1
              try clear q10
              try clear q17
              try clear q176
              try clear q18
              try clear q189
              try clear q19
              try clear q195
              try clear q199
              try clear q2
              try clear q20
              try clear q203
              try clear q208
              try clear q209
              try clear q249
              obtain ⟨x60_2, x249000_2, x249001_2, rfl, HA, HK2, HO_9, HO_58, HI248, HB⟩ := hrel
              cases gk with
              | zero => exact absurd HA.out (by simp [dowserlaw01_VarintTakes.l3])
              | succ k2 =>
                have H := HA.out
                clear HA
                simp only [dowserlaw01_VarintTakes.l3] at H
                by_cases c129 : x60_2 < (x6_1.length : Int)
                · rw [if_pos c129] at H
                  have c129b0 : decide (x60_2 < (x6_1.length : Int)) = true := decide_eq_true c129
                  clear c129
                  by_cases c130 : 0 ≤ x60_2
                  · rw [if_pos c130] at H
                    have c130b0 : decide (0 ≤ x60_2) = true := decide_eq_true c130
                    clear c130
                    by_cases c131 : x60_2 < (x6_1.length : Int)
                    · rw [if_pos c131] at H
                      have c131b0 : decide (x60_2 < (x6_1.length : Int)) = true := decide_eq_true c131
                      clear c131
                      by_cases c132 : ((rd_T67 x6_1 x60_2).f0) = 0
                      · rw [if_pos c132] at H
                        have c132b0 : (((rd_T67 x6_1 x60_2).f0) == 0) = true := beq_iff_eq.mpr c132
                        have c132b1 : (((rd_T67 x6_1 x60_2).f0) != 0) = false := bne_eq_false_iff_eq.mpr c132
                        clear c132
                        replace H := Option.bind_eq_some_iff.mp H
                        obtain ⟨⟨t264, t265, t266⟩, A1330, H⟩ := H
                        replace H : ((dowserref01_Num.f k2 t264).bind fun t267 => (if x60_2 < (t257.length : Int) then (if t267.toList = (rdOf ByteArray.empty t257 x60_2).toList then (dowserlaw01_VarintTakes.l3 k2 t257 t258 t259 x6_1 (x6_1.length : Int) (wrap64 (x60_2 + 1)) t265 t266) else (none)) else (none))) = some r := H
                        have A133 := Aside0.mk A1330
                        clear A1330
                        replace H := Option.bind_eq_some_iff.mp H
                        obtain ⟨t267, A1340, H⟩ := H
                        replace H : (if x60_2 < (t257.length : Int) then (if t267.toList = (rdOf ByteArray.empty t257 x60_2).toList then (dowserlaw01_VarintTakes.l3 k2 t257 t258 t259 x6_1 (x6_1.length : Int) (wrap64 (x60_2 + 1)) t265 t266) else (none)) else (none)) = some r := H
                        have A134 := Aside0.mk A1340
                        clear A1340
                        by_cases c135 : x60_2 < (t257.length : Int)
                        · rw [if_pos c135] at H
                          have c135b0 : decide (x60_2 < (t257.length : Int)) = true := decide_eq_true c135
                          clear c135
                          by_cases c136 : t267.toList = (rdOf ByteArray.empty t257 x60_2).toList
                          · rw [if_pos c136] at H
                            have c136b0 : (t267.toList == (rdOf ByteArray.empty t257 x60_2).toList) = true := beq_iff_eq.mpr c136
                            have c136b1 : (t267.toList != (rdOf ByteArray.empty t257 x60_2).toList) = false := bne_eq_false_iff_eq.mpr c136
                            clear c136
                            have H' := Aside0.mk H
                            clear H
                            have p262 : 0 ≤ (x60_2 : Int) := of_decide_eq_true (by first | (with_reducible assumption) | assumption)
                            have q262 : x60_2 < (x6_1.length : Int) := of_decide_eq_true (by first | (with_reducible assumption) | assumption)
                            obtain ⟨ad262, e262, hx262_0, hx262_1, hx262_2⟩ := at_T67 (Kd.R_reads' HO_58.out).2.2 x60_2 p262 q262
                            cases e262
                            replace p262 := eq_true p262
                            replace q262 := eq_true q262
                            go_wp2_with (first | ((with_reducible refine gate_dst (N := 13) rfl ?_); (try (refine gate_guard (by rfl) ?_; dsimp only)); refine box_event ?hg (N := 13) ?hd (cs := #[.int .i64 0, .int .u64 0, .int .i64 0]) (t := 67) ?hr ?_; (case hd => rfl); (case hg => rfl); (case hr => first | (go_simp; done) | (go_simp; rfl)); intro gb263 hg w137 hbox hb; have n0_ := Aside0.mk (Kd.R_below (by (with_reducible repeat (first | apply Kd.R_alloc | apply Kd.R_drewN | apply Kd.R_drew)); exact HO_9.out) hb); have n1_ := Aside0.mk (Kd.R_below (Kd.R_elderB (by (with_reducible repeat (first | apply Kd.R_alloc | apply Kd.R_drewN | apply Kd.R_drew)); exact HO_58.out) gb263 (Nat.le_of_eq hg.symm)) hb); have n2_ := Aside0.mk (IsS78.below (by repeat (first | (with_reducible first | exact HI248.out | apply IsS78.alloc | apply IsS78.drewN | apply IsS78.drew | apply IsS78.set_0 | apply IsS78.set_1) | exact HI248.out)) hb); have n3_ := Aside0.mk (below_step (by repeat (first | (with_reducible first | exact HB.out | apply below_alloc | apply pw_below_drewN | apply below_drew1 | refine below_set ?_ (IsS78.ge HI248.out)) | exact HB.out)) hb); have n4_ := Aside0.mk (hbox); have n5_ := Aside0.mk ((by rw [hg]; exact (below_size (by repeat (first | (with_reducible first | exact HB.out | apply below_alloc | apply pw_below_drewN | apply below_drew1 | refine below_set ?_ (IsS78.ge HI248.out)) | exact HB.out))) : w.heap.size ≤ gb263)); have n6_ := Aside0.mk ((by rw [hg]; exact (below_size (by repeat (first | (with_reducible first | exact HB.out | apply below_alloc | apply pw_below_drewN | apply below_drew1 | refine below_set ?_ (IsS78.ge HI248.out)) | exact HB.out))) : w.heap.size ≤ gb263)); have n7_ := Aside0.mk ((by rw [hg]; exact Nat.ne_of_lt (IsS78.lt (show IsS78 w _ g248 x249000_2 x249001_2 from by repeat (first | (with_reducible first | exact HI248.out | apply IsS78.alloc | apply IsS78.drewN | apply IsS78.drew | apply IsS78.set_0 | apply IsS78.set_1) | exact HI248.out))) : g248 ≠ gb263)); have n8_ := Aside0.mk ((by rw [hg]; exact Nat.ne_of_gt (IsS78.lt (show IsS78 w _ g248 x249000_2 x249001_2 from by repeat (first | (with_reducible first | exact HI248.out | apply IsS78.alloc | apply IsS78.drewN | apply IsS78.drew | apply IsS78.set_0 | apply IsS78.set_1) | exact HI248.out))) : gb263 ≠ g248)); clear HO_9; clear HO_58; clear HI248; clear HB; have HO_9 := n0_; have HO_58 := n1_; have HI248 := n2_; have HB := n3_; have BK263 := n4_; have GW263 := n5_; have GE263 := n6_; have NB248_263 := n7_; have NB263_248 := n8_; clear n0_ n1_ n2_ n3_ n4_ n5_ n6_ n7_ n8_; clear hb hbox hg; have hnb138 := NB263_248.out; have hnc138 := NB248_263.out; have hcz139_0 : w137.cell? ⟨gb263, 0, none⟩ = some (.int .i64 0) := (blk_cell BK263.out 0).trans rfl; have hcz139_1 : w137.cell? ⟨gb263, 1, none⟩ = some (.int .u64 0) := (blk_cell BK263.out 1).trans rfl; have hcz139_2 : w137.cell? ⟨gb263, 2, none⟩ = some (.int .i64 0) := (blk_cell BK263.out 2).trans rfl; have hfz139_0 := blk_frozen BK263.out 0; have hfz139_1 := blk_frozen BK263.out 1; have hfz139_2 := blk_frozen BK263.out 2) | ((with_reducible refine gate_callee (f := 30) rfl ?_); refine goesL_ (some 72) rfl rfl Try.func30 (by kernel_rfl) rfl #[.pointer (some ⟨g248, 0, none⟩), .int .u64 ((rd_T67 x6_1 x60_2).f1)] rfl (by (try simp only [List.map_toArray, List.map_cons, List.map_nil]); first | done | rfl | (simp only [List.length_drop, List.length_take]; rfl)) ?_; (with_reducible refine (varint_In_Num.calls k2 g248 x249000_2 x249001_2 ((rd_T67 x6_1 x60_2).f1) t264 t265 t266 w _ ?side1 ?side2 A133.out).mono ?_); (case side1 => repeat (first | (with_reducible first | exact HI248.out | apply IsS78.alloc | apply IsS78.drewN | apply IsS78.drew | apply IsS78.set_0 | apply IsS78.set_1 | refine IsS78.far ?_ NB248_263.out _) | exact HI248.out)); (case side2 => repeat (first | (with_reducible first | exact HB.out | apply below_alloc | apply pw_below_drewN | apply below_drew1 | refine below_set ?_ (IsS78.ge HI248.out) | refine below_set ?_ GE263.out) | exact HB.out)); rintro e w140 ⟨rfl, hi, hb, hk⟩; refine ⟨_, rfl, ?_⟩; have n0_ := Aside0.mk (Kd.R_mono (Kd.R_keep (IsS78.apart (show IsS78 w _ g248 x249000_2 x249001_2 from by repeat (first | (with_reducible first | exact HI248.out | apply IsS78.alloc | apply IsS78.drewN | apply IsS78.drew | apply IsS78.set_0 | apply IsS78.set_1 | refine IsS78.far ?_ NB248_263.out _) | exact HI248.out)) (by (with_reducible repeat (first | apply Kd.R_alloc | apply Kd.R_drewN | apply Kd.R_drew)); exact (Kd.R_mono (Kd.R_far (p := ⟨gb263, 2, none⟩) (Kd.R_far (p := ⟨gb263, 1, none⟩) (Kd.R_far (p := ⟨gb263, 0, none⟩) (Kd.R_types HO_9.out BK263.out (by decide)) (fun _ hk => hk.2) (.int .i64 ((rd_T67 x6_1 x60_2).f0))) (fun _ hk => hk.2) (.int .u64 ((rd_T67 x6_1 x60_2).f1))) (fun _ hk => hk.2) (.int .i64 ((rd_T67 x6_1 x60_2).f2))) (fun _ h_ => h_.1))) (by decide)) hk (fun _ h => h.2)) (fun _ h => h.1)); have n1_ := Aside0.mk (Kd.R_mono (Kd.R_keep (IsS78.apart (show IsS78 w _ g248 x249000_2 x249001_2 from by repeat (first | (with_reducible first | exact HI248.out | apply IsS78.alloc | apply IsS78.drewN | apply IsS78.drew | apply IsS78.set_0 | apply IsS78.set_1 | refine IsS78.far ?_ NB248_263.out _) | exact HI248.out)) (by (with_reducible repeat (first | apply Kd.R_alloc | apply Kd.R_drewN | apply Kd.R_drew)); exact (Kd.R_mono (Kd.R_far (p := ⟨gb263, 2, none⟩) (Kd.R_far (p := ⟨gb263, 1, none⟩) (Kd.R_far (p := ⟨gb263, 0, none⟩) (Kd.R_mono HO_58.out (fun k_ hk => (⟨hk, hk.2⟩ : _ ∧ k_ ≠ gb263))) (fun _ hk => hk.2) (.int .i64 ((rd_T67 x6_1 x60_2).f0))) (fun _ hk => hk.2) (.int .u64 ((rd_T67 x6_1 x60_2).f1))) (fun _ hk => hk.2) (.int .i64 ((rd_T67 x6_1 x60_2).f2))) (fun _ h_ => h_.1))) (by decide)) hk (fun _ h => h.2)) (fun _ h => h.1)); have n2_ := Aside0.mk (KeepBut.blk hk (g' := gb263) (o := .cells #[.int .i64 ((rd_T67 x6_1 x60_2).f0), .int .u64 ((rd_T67 x6_1 x60_2).f1), .int .i64 ((rd_T67 x6_1 x60_2).f2)] 67 (0, 0)) (by (with_reducible repeat (first | refine blk_drewN ?_ _ | refine blk_drew ?_ | refine blk_alloc ?_ _)); refine blk_put (cs := #[.int .i64 ((rd_T67 x6_1 x60_2).f0), .int .u64 ((rd_T67 x6_1 x60_2).f1), .int .i64 0]) ?_ 2 _ rfl; (with_reducible repeat (first | refine blk_drewN ?_ _ | refine blk_drew ?_ | refine blk_alloc ?_ _)); refine blk_put (cs := #[.int .i64 ((rd_T67 x6_1 x60_2).f0), .int .u64 0, .int .i64 0]) ?_ 1 _ rfl; (with_reducible repeat (first | refine blk_drewN ?_ _ | refine blk_drew ?_ | refine blk_alloc ?_ _)); refine blk_put (cs := #[.int .i64 0, .int .u64 0, .int .i64 0]) ?_ 0 _ rfl; (with_reducible repeat (first | refine blk_drewN ?_ _ | refine blk_drew ?_ | refine blk_alloc ?_ _)); exact BK263.out) NB263_248.out (by simp)); have n3_ := Aside0.mk (hb); have n4_ := Aside0.mk (hi); clear HO_9; clear HO_58; clear BK263; clear HB; clear HI248; have HO_9 := n0_; have HO_58 := n1_; have BK263 := n2_; have HB := n3_; have HI248 := n4_; clear n0_ n1_ n2_ n3_ n4_; (try clear hb); (try clear hb2); (try clear hk); (try clear hi)) | ((with_reducible refine gate_callee (f := 31) rfl ?_); refine goesL_ (some 73) rfl rfl Try.func31 (by kernel_rfl) rfl #[.int .u64 t264] rfl (by (try simp only [List.map_toArray, List.map_cons, List.map_nil]); first | done | rfl | (simp only [List.length_drop, List.length_take]; rfl)) ?_; (with_reducible refine (dowserref01_Num.calls k2 t264 t267 _ A134.out).mono ?_); rintro e w141 ⟨rfl, hb⟩; refine ⟨_, rfl, ?_⟩; have n0_ := Aside0.mk (Kd.R_below (by (with_reducible repeat (first | apply Kd.R_alloc | apply Kd.R_drewN | apply Kd.R_drew)); exact HO_9.out) hb); have n1_ := Aside0.mk (Kd.R_below (by (with_reducible repeat (first | apply Kd.R_alloc | apply Kd.R_drewN | apply Kd.R_drew)); exact HO_58.out) hb); have n2_ := Aside0.mk (IsS78.below (by repeat (first | (with_reducible first | exact HI248.out | apply IsS78.alloc | apply IsS78.drewN | apply IsS78.drew | apply IsS78.set_0 | apply IsS78.set_1 | refine IsS78.far ?_ NB248_263.out _) | exact HI248.out)) hb); have n3_ := Aside0.mk (blk_below (g := gb263) (o := .cells #[.int .i64 ((rd_T67 x6_1 x60_2).f0), .int .u64 ((rd_T67 x6_1 x60_2).f1), .int .i64 ((rd_T67 x6_1 x60_2).f2)] 67 (0, 0)) (by (with_reducible repeat (first | refine blk_drewN ?_ _ | refine blk_drew ?_ | refine blk_alloc ?_ _)); exact BK263.out) hb); have n4_ := Aside0.mk (below_step (by repeat (first | (with_reducible first | exact HB.out | apply below_alloc | apply pw_below_drewN | apply below_drew1 | refine below_set ?_ (IsS78.ge HI248.out) | refine below_set ?_ GE263.out) | exact HB.out)) hb); clear HO_9; clear HO_58; clear HI248; clear BK263; clear HB; have HO_9 := n0_; have HO_58 := n1_; have HI248 := n2_; have BK263 := n3_; have HB := n4_; clear n0_ n1_ n2_ n3_ n4_; (try clear hb); (try clear hb2); (try clear hk); (try clear hi); obtain ⟨Ao142, co142, eo142⟩ := Kd.R_slice HO_9.out; subst eo142; have p268 : 0 ≤ (x60_2 : Int) := of_decide_eq_true (by first | (with_reducible assumption) | assumption); have q268 : x60_2 < (t257.length : Int) := of_decide_eq_true (by first | (with_reducible assumption) | assumption); obtain ⟨ad268, e268, hx268_0⟩ := Kd.at_string (Kd.R_reads' HO_9.out).2.2 x60_2 p268 q268; cases e268; replace p268 := eq_true p268; replace q268 := eq_true q268))
                            go_roundg k2
                            case measure => have := HK1.out; have := HK2.out; omega
                            case rel => exact ⟨(wrap64 (x60_2 + 1)), (t265), (t266), (by first | rfl | (simp; done) | (simp [*]; done) | (simp; rw [Bool.eq_iff_iff]; simp; done)), H', ⟨by have := HK1.out; have := HK2.out; omega⟩, ⟨by (with_reducible repeat (first | apply Kd.R_alloc | apply Kd.R_drewN | apply Kd.R_drew)); exact HO_9.out⟩, ⟨by (with_reducible repeat (first | apply Kd.R_alloc | apply Kd.R_drewN | apply Kd.R_drew)); exact Kd.R_mono HO_58.out (fun _ hk => trivial)⟩, ⟨by repeat (first | (with_reducible first | exact HI248.out | apply IsS78.alloc | apply IsS78.drewN | apply IsS78.drew | apply IsS78.set_0 | apply IsS78.set_1 | refine IsS78.far ?_ NB248_263.out _) | exact HI248.out)⟩, ⟨by repeat (first | (with_reducible first | exact HB.out | apply below_alloc | apply pw_below_drewN | apply below_drew1 | refine below_set ?_ (IsS78.ge HI248.out) | refine below_set ?_ GE263.out) | exact HB.out)⟩⟩
                          · rw [if_neg c136] at H
                            exact absurd H (by simp)
                        · rw [if_neg c135] at H
                          exact absurd H (by simp)
                      · rw [if_neg c132] at H
                        have c132b0 : (((rd_T67 x6_1 x60_2).f0) == 0) = false := beq_eq_false_iff_ne.mpr c132
                        have c132b1 : (((rd_T67 x6_1 x60_2).f0) != 0) = true := bne_iff_ne.mpr c132
                        by_cases c143 : ((rd_T67 x6_1 x60_2).f0) = 1
                        · rw [if_pos c143] at H
                          have c143b0 : (((rd_T67 x6_1 x60_2).f0) == 1) = true := beq_iff_eq.mpr c143
                          have c143b1 : (((rd_T67 x6_1 x60_2).f0) != 1) = false := bne_eq_false_iff_eq.mpr c143
                          clear c143
                          replace H := Option.bind_eq_some_iff.mp H
                          obtain ⟨⟨t269, t270, t271⟩, A1440, H⟩ := H
                          replace H : (if x60_2 < (t257.length : Int) then (if t269.toList = (rdOf ByteArray.empty t257 x60_2).toList then (dowserlaw01_VarintTakes.l3 k2 t257 t258 t259 x6_1 (x6_1.length : Int) (wrap64 (x60_2 + 1)) t270 t271) else (none)) else (none)) = some r := H
                          have A144 := Aside0.mk A1440
                          clear A1440
                          by_cases c145 : x60_2 < (t257.length : Int)
                          · rw [if_pos c145] at H
                            have c145b0 : decide (x60_2 < (t257.length : Int)) = true := decide_eq_true c145
                            clear c145
                            by_cases c146 : t269.toList = (rdOf ByteArray.empty t257 x60_2).toList
                            · rw [if_pos c146] at H
                              have c146b0 : (t269.toList == (rdOf ByteArray.empty t257 x60_2).toList) = true := beq_iff_eq.mpr c146
                              have c146b1 : (t269.toList != (rdOf ByteArray.empty t257 x60_2).toList) = false := bne_eq_false_iff_eq.mpr c146
                              clear c146
                              have H' := Aside0.mk H
                              clear H
                              have p262 : 0 ≤ (x60_2 : Int) := of_decide_eq_true (by first | (with_reducible assumption) | assumption)
                              have q262 : x60_2 < (x6_1.length : Int) := of_decide_eq_true (by first | (with_reducible assumption) | assumption)
                              obtain ⟨ad262, e262, hx262_0, hx262_1, hx262_2⟩ := at_T67 (Kd.R_reads' HO_58.out).2.2 x60_2 p262 q262
                              cases e262
                              replace p262 := eq_true p262
                              replace q262 := eq_true q262
                              go_wp2_with (first | ((with_reducible refine gate_dst (N := 13) rfl ?_); (try (refine gate_guard (by rfl) ?_; dsimp only)); refine box_event ?hg (N := 13) ?hd (cs := #[.int .i64 0, .int .u64 0, .int .i64 0]) (t := 67) ?hr ?_; (case hd => rfl); (case hg => rfl); (case hr => first | (go_simp; done) | (go_simp; rfl)); intro gb263 hg w147 hbox hb; have n0_ := Aside0.mk (Kd.R_below (by (with_reducible repeat (first | apply Kd.R_alloc | apply Kd.R_drewN | apply Kd.R_drew)); exact HO_9.out) hb); have n1_ := Aside0.mk (Kd.R_below (Kd.R_elderB (by (with_reducible repeat (first | apply Kd.R_alloc | apply Kd.R_drewN | apply Kd.R_drew)); exact HO_58.out) gb263 (Nat.le_of_eq hg.symm)) hb); have n2_ := Aside0.mk (IsS78.below (by repeat (first | (with_reducible first | exact HI248.out | apply IsS78.alloc | apply IsS78.drewN | apply IsS78.drew | apply IsS78.set_0 | apply IsS78.set_1) | exact HI248.out)) hb); have n3_ := Aside0.mk (below_step (by repeat (first | (with_reducible first | exact HB.out | apply below_alloc | apply pw_below_drewN | apply below_drew1 | refine below_set ?_ (IsS78.ge HI248.out)) | exact HB.out)) hb); have n4_ := Aside0.mk (hbox); have n5_ := Aside0.mk ((by rw [hg]; exact (below_size (by repeat (first | (with_reducible first | exact HB.out | apply below_alloc | apply pw_below_drewN | apply below_drew1 | refine below_set ?_ (IsS78.ge HI248.out)) | exact HB.out))) : w.heap.size ≤ gb263)); have n6_ := Aside0.mk ((by rw [hg]; exact (below_size (by repeat (first | (with_reducible first | exact HB.out | apply below_alloc | apply pw_below_drewN | apply below_drew1 | refine below_set ?_ (IsS78.ge HI248.out)) | exact HB.out))) : w.heap.size ≤ gb263)); have n7_ := Aside0.mk ((by rw [hg]; exact Nat.ne_of_lt (IsS78.lt (show IsS78 w _ g248 x249000_2 x249001_2 from by repeat (first | (with_reducible first | exact HI248.out | apply IsS78.alloc | apply IsS78.drewN | apply IsS78.drew | apply IsS78.set_0 | apply IsS78.set_1) | exact HI248.out))) : g248 ≠ gb263)); have n8_ := Aside0.mk ((by rw [hg]; exact Nat.ne_of_gt (IsS78.lt (show IsS78 w _ g248 x249000_2 x249001_2 from by repeat (first | (with_reducible first | exact HI248.out | apply IsS78.alloc | apply IsS78.drewN | apply IsS78.drew | apply IsS78.set_0 | apply IsS78.set_1) | exact HI248.out))) : gb263 ≠ g248)); clear HO_9; clear HO_58; clear HI248; clear HB; have HO_9 := n0_; have HO_58 := n1_; have HI248 := n2_; have HB := n3_; have BK263 := n4_; have GW263 := n5_; have GE263 := n6_; have NB248_263 := n7_; have NB263_248 := n8_; clear n0_ n1_ n2_ n3_ n4_ n5_ n6_ n7_ n8_; clear hb hbox hg; have hnb148 := NB263_248.out; have hnc148 := NB248_263.out; have hcz149_0 : w147.cell? ⟨gb263, 0, none⟩ = some (.int .i64 0) := (blk_cell BK263.out 0).trans rfl; have hcz149_1 : w147.cell? ⟨gb263, 1, none⟩ = some (.int .u64 0) := (blk_cell BK263.out 1).trans rfl; have hcz149_2 : w147.cell? ⟨gb263, 2, none⟩ = some (.int .i64 0) := (blk_cell BK263.out 2).trans rfl; have hfz149_0 := blk_frozen BK263.out 0; have hfz149_1 := blk_frozen BK263.out 1; have hfz149_2 := blk_frozen BK263.out 2) | ((with_reducible refine gate_callee (f := 44) rfl ?_); refine goesL_ (some 80) rfl rfl Try.func44 (by kernel_rfl) rfl #[.pointer (some ⟨g248, 0, none⟩), .int .i64 (wrap64 ((rd_T67 x6_1 x60_2).f1))] rfl (by (try simp only [List.map_toArray, List.map_cons, List.map_nil]); first | done | rfl | (simp only [List.length_drop, List.length_take]; rfl)) ?_; (with_reducible refine (varint_In_Text.calls k2 g248 x249000_2 x249001_2 (wrap64 ((rd_T67 x6_1 x60_2).f1)) t269 t270 t271 w _ ?side1 ?side2 A144.out).mono ?_); (case side1 => repeat (first | (with_reducible first | exact HI248.out | apply IsS78.alloc | apply IsS78.drewN | apply IsS78.drew | apply IsS78.set_0 | apply IsS78.set_1 | refine IsS78.far ?_ NB248_263.out _) | exact HI248.out)); (case side2 => repeat (first | (with_reducible first | exact HB.out | apply below_alloc | apply pw_below_drewN | apply below_drew1 | refine below_set ?_ (IsS78.ge HI248.out) | refine below_set ?_ GE263.out) | exact HB.out)); rintro e w150 ⟨rfl, hi, hb, hk⟩; refine ⟨_, rfl, ?_⟩; have n0_ := Aside0.mk (Kd.R_mono (Kd.R_keep (IsS78.apart (show IsS78 w _ g248 x249000_2 x249001_2 from by repeat (first | (with_reducible first | exact HI248.out | apply IsS78.alloc | apply IsS78.drewN | apply IsS78.drew | apply IsS78.set_0 | apply IsS78.set_1 | refine IsS78.far ?_ NB248_263.out _) | exact HI248.out)) (by (with_reducible repeat (first | apply Kd.R_alloc | apply Kd.R_drewN | apply Kd.R_drew)); exact (Kd.R_mono (Kd.R_far (p := ⟨gb263, 2, none⟩) (Kd.R_far (p := ⟨gb263, 1, none⟩) (Kd.R_far (p := ⟨gb263, 0, none⟩) (Kd.R_types HO_9.out BK263.out (by decide)) (fun _ hk => hk.2) (.int .i64 ((rd_T67 x6_1 x60_2).f0))) (fun _ hk => hk.2) (.int .u64 ((rd_T67 x6_1 x60_2).f1))) (fun _ hk => hk.2) (.int .i64 ((rd_T67 x6_1 x60_2).f2))) (fun _ h_ => h_.1))) (by decide)) hk (fun _ h => h.2)) (fun _ h => h.1)); have n1_ := Aside0.mk (Kd.R_mono (Kd.R_keep (IsS78.apart (show IsS78 w _ g248 x249000_2 x249001_2 from by repeat (first | (with_reducible first | exact HI248.out | apply IsS78.alloc | apply IsS78.drewN | apply IsS78.drew | apply IsS78.set_0 | apply IsS78.set_1 | refine IsS78.far ?_ NB248_263.out _) | exact HI248.out)) (by (with_reducible repeat (first | apply Kd.R_alloc | apply Kd.R_drewN | apply Kd.R_drew)); exact (Kd.R_mono (Kd.R_far (p := ⟨gb263, 2, none⟩) (Kd.R_far (p := ⟨gb263, 1, none⟩) (Kd.R_far (p := ⟨gb263, 0, none⟩) (Kd.R_mono HO_58.out (fun k_ hk => (⟨hk, hk.2⟩ : _ ∧ k_ ≠ gb263))) (fun _ hk => hk.2) (.int .i64 ((rd_T67 x6_1 x60_2).f0))) (fun _ hk => hk.2) (.int .u64 ((rd_T67 x6_1 x60_2).f1))) (fun _ hk => hk.2) (.int .i64 ((rd_T67 x6_1 x60_2).f2))) (fun _ h_ => h_.1))) (by decide)) hk (fun _ h => h.2)) (fun _ h => h.1)); have n2_ := Aside0.mk (KeepBut.blk hk (g' := gb263) (o := .cells #[.int .i64 ((rd_T67 x6_1 x60_2).f0), .int .u64 ((rd_T67 x6_1 x60_2).f1), .int .i64 ((rd_T67 x6_1 x60_2).f2)] 67 (0, 0)) (by (with_reducible repeat (first | refine blk_drewN ?_ _ | refine blk_drew ?_ | refine blk_alloc ?_ _)); refine blk_put (cs := #[.int .i64 ((rd_T67 x6_1 x60_2).f0), .int .u64 ((rd_T67 x6_1 x60_2).f1), .int .i64 0]) ?_ 2 _ rfl; (with_reducible repeat (first | refine blk_drewN ?_ _ | refine blk_drew ?_ | refine blk_alloc ?_ _)); refine blk_put (cs := #[.int .i64 ((rd_T67 x6_1 x60_2).f0), .int .u64 0, .int .i64 0]) ?_ 1 _ rfl; (with_reducible repeat (first | refine blk_drewN ?_ _ | refine blk_drew ?_ | refine blk_alloc ?_ _)); refine blk_put (cs := #[.int .i64 0, .int .u64 0, .int .i64 0]) ?_ 0 _ rfl; (with_reducible repeat (first | refine blk_drewN ?_ _ | refine blk_drew ?_ | refine blk_alloc ?_ _)); exact BK263.out) NB263_248.out (by simp)); have n3_ := Aside0.mk (hb); have n4_ := Aside0.mk (hi); clear HO_9; clear HO_58; clear BK263; clear HB; clear HI248; have HO_9 := n0_; have HO_58 := n1_; have BK263 := n2_; have HB := n3_; have HI248 := n4_; clear n0_ n1_ n2_ n3_ n4_; (try clear hb); (try clear hb2); (try clear hk); (try clear hi); obtain ⟨Ao151, co151, eo151⟩ := Kd.R_slice HO_9.out; subst eo151; have p272 : 0 ≤ (x60_2 : Int) := of_decide_eq_true (by first | (with_reducible assumption) | assumption); have q272 : x60_2 < (t257.length : Int) := of_decide_eq_true (by first | (with_reducible assumption) | assumption); obtain ⟨ad272, e272, hx272_0⟩ := Kd.at_string (Kd.R_reads' HO_9.out).2.2 x60_2 p272 q272; cases e272; replace p272 := eq_true p272; replace q272 := eq_true q272))
                              go_roundg k2
                              case measure => have := HK1.out; have := HK2.out; omega
                              case rel => exact ⟨(wrap64 (x60_2 + 1)), (t270), (t271), (by first | rfl | (simp; done) | (simp [*]; done) | (simp; rw [Bool.eq_iff_iff]; simp; done)), H', ⟨by have := HK1.out; have := HK2.out; omega⟩, ⟨by (with_reducible repeat (first | apply Kd.R_alloc | apply Kd.R_drewN | apply Kd.R_drew)); exact HO_9.out⟩, ⟨by (with_reducible repeat (first | apply Kd.R_alloc | apply Kd.R_drewN | apply Kd.R_drew)); exact Kd.R_mono HO_58.out (fun _ hk => trivial)⟩, ⟨by repeat (first | (with_reducible first | exact HI248.out | apply IsS78.alloc | apply IsS78.drewN | apply IsS78.drew | apply IsS78.set_0 | apply IsS78.set_1 | refine IsS78.far ?_ NB248_263.out _) | exact HI248.out)⟩, ⟨by repeat (first | (with_reducible first | exact HB.out | apply below_alloc | apply pw_below_drewN | apply below_drew1 | refine below_set ?_ (IsS78.ge HI248.out) | refine below_set ?_ GE263.out) | exact HB.out)⟩⟩
                            · rw [if_neg c146] at H
                              exact absurd H (by simp)
                          · rw [if_neg c145] at H
                            exact absurd H (by simp)
                        · rw [if_neg c143] at H
                          have c143b0 : (((rd_T67 x6_1 x60_2).f0) == 1) = false := beq_eq_false_iff_ne.mpr c143
                          have c143b1 : (((rd_T67 x6_1 x60_2).f0) != 1) = true := bne_iff_ne.mpr c143
                          by_cases c152 : ((rd_T67 x6_1 x60_2).f0) = 2
                          · rw [if_pos c152] at H
                            have c152b0 : (((rd_T67 x6_1 x60_2).f0) == 2) = true := beq_iff_eq.mpr c152
                            have c152b1 : (((rd_T67 x6_1 x60_2).f0) != 2) = false := bne_eq_false_iff_eq.mpr c152
                            clear c152
                            replace H := Option.bind_eq_some_iff.mp H
                            obtain ⟨⟨t273, t274, t275⟩, A1530, H⟩ := H
                            replace H : (if x60_2 < (t257.length : Int) then (if t273.toList = (rdOf ByteArray.empty t257 x60_2).toList then (dowserlaw01_VarintTakes.l3 k2 t257 t258 t259 x6_1 (x6_1.length : Int) (wrap64 (x60_2 + 1)) t274 t275) else (none)) else (none)) = some r := H
                            have A153 := Aside0.mk A1530
                            clear A1530
                            by_cases c154 : x60_2 < (t257.length : Int)
                            · rw [if_pos c154] at H
                              have c154b0 : decide (x60_2 < (t257.length : Int)) = true := decide_eq_true c154
                              clear c154
                              by_cases c155 : t273.toList = (rdOf ByteArray.empty t257 x60_2).toList
                              · rw [if_pos c155] at H
                                have c155b0 : (t273.toList == (rdOf ByteArray.empty t257 x60_2).toList) = true := beq_iff_eq.mpr c155
                                have c155b1 : (t273.toList != (rdOf ByteArray.empty t257 x60_2).toList) = false := bne_eq_false_iff_eq.mpr c155
                                clear c155
                                have H' := Aside0.mk H
                                clear H
                                have p262 : 0 ≤ (x60_2 : Int) := of_decide_eq_true (by first | (with_reducible assumption) | assumption)
                                have q262 : x60_2 < (x6_1.length : Int) := of_decide_eq_true (by first | (with_reducible assumption) | assumption)
                                obtain ⟨ad262, e262, hx262_0, hx262_1, hx262_2⟩ := at_T67 (Kd.R_reads' HO_58.out).2.2 x60_2 p262 q262
                                cases e262
                                replace p262 := eq_true p262
                                replace q262 := eq_true q262
                                go_wp2_with (first | ((with_reducible refine gate_dst (N := 13) rfl ?_); (try (refine gate_guard (by rfl) ?_; dsimp only)); refine box_event ?hg (N := 13) ?hd (cs := #[.int .i64 0, .int .u64 0, .int .i64 0]) (t := 67) ?hr ?_; (case hd => rfl); (case hg => rfl); (case hr => first | (go_simp; done) | (go_simp; rfl)); intro gb263 hg w156 hbox hb; have n0_ := Aside0.mk (Kd.R_below (by (with_reducible repeat (first | apply Kd.R_alloc | apply Kd.R_drewN | apply Kd.R_drew)); exact HO_9.out) hb); have n1_ := Aside0.mk (Kd.R_below (Kd.R_elderB (by (with_reducible repeat (first | apply Kd.R_alloc | apply Kd.R_drewN | apply Kd.R_drew)); exact HO_58.out) gb263 (Nat.le_of_eq hg.symm)) hb); have n2_ := Aside0.mk (IsS78.below (by repeat (first | (with_reducible first | exact HI248.out | apply IsS78.alloc | apply IsS78.drewN | apply IsS78.drew | apply IsS78.set_0 | apply IsS78.set_1) | exact HI248.out)) hb); have n3_ := Aside0.mk (below_step (by repeat (first | (with_reducible first | exact HB.out | apply below_alloc | apply pw_below_drewN | apply below_drew1 | refine below_set ?_ (IsS78.ge HI248.out)) | exact HB.out)) hb); have n4_ := Aside0.mk (hbox); have n5_ := Aside0.mk ((by rw [hg]; exact (below_size (by repeat (first | (with_reducible first | exact HB.out | apply below_alloc | apply pw_below_drewN | apply below_drew1 | refine below_set ?_ (IsS78.ge HI248.out)) | exact HB.out))) : w.heap.size ≤ gb263)); have n6_ := Aside0.mk ((by rw [hg]; exact (below_size (by repeat (first | (with_reducible first | exact HB.out | apply below_alloc | apply pw_below_drewN | apply below_drew1 | refine below_set ?_ (IsS78.ge HI248.out)) | exact HB.out))) : w.heap.size ≤ gb263)); have n7_ := Aside0.mk ((by rw [hg]; exact Nat.ne_of_lt (IsS78.lt (show IsS78 w _ g248 x249000_2 x249001_2 from by repeat (first | (with_reducible first | exact HI248.out | apply IsS78.alloc | apply IsS78.drewN | apply IsS78.drew | apply IsS78.set_0 | apply IsS78.set_1) | exact HI248.out))) : g248 ≠ gb263)); have n8_ := Aside0.mk ((by rw [hg]; exact Nat.ne_of_gt (IsS78.lt (show IsS78 w _ g248 x249000_2 x249001_2 from by repeat (first | (with_reducible first | exact HI248.out | apply IsS78.alloc | apply IsS78.drewN | apply IsS78.drew | apply IsS78.set_0 | apply IsS78.set_1) | exact HI248.out))) : gb263 ≠ g248)); clear HO_9; clear HO_58; clear HI248; clear HB; have HO_9 := n0_; have HO_58 := n1_; have HI248 := n2_; have HB := n3_; have BK263 := n4_; have GW263 := n5_; have GE263 := n6_; have NB248_263 := n7_; have NB263_248 := n8_; clear n0_ n1_ n2_ n3_ n4_ n5_ n6_ n7_ n8_; clear hb hbox hg; have hnb157 := NB263_248.out; have hnc157 := NB248_263.out; have hcz158_0 : w156.cell? ⟨gb263, 0, none⟩ = some (.int .i64 0) := (blk_cell BK263.out 0).trans rfl; have hcz158_1 : w156.cell? ⟨gb263, 1, none⟩ = some (.int .u64 0) := (blk_cell BK263.out 1).trans rfl; have hcz158_2 : w156.cell? ⟨gb263, 2, none⟩ = some (.int .i64 0) := (blk_cell BK263.out 2).trans rfl; have hfz158_0 := blk_frozen BK263.out 0; have hfz158_1 := blk_frozen BK263.out 1; have hfz158_2 := blk_frozen BK263.out 2) | ((with_reducible refine gate_callee (f := 48) rfl ?_); refine goesL_ (some 86) rfl rfl Try.func48 (by kernel_rfl) rfl #[.pointer (some ⟨g248, 0, none⟩), .int .i64 ((rd_T67 x6_1 x60_2).f2)] rfl (by (try simp only [List.map_toArray, List.map_cons, List.map_nil]); first | done | rfl | (simp only [List.length_drop, List.length_take]; rfl)) ?_; (with_reducible refine (varint_In_Raw.calls g248 x249000_2 x249001_2 ((rd_T67 x6_1 x60_2).f2) t273 t274 t275 w _ ?side1 ?side2 A153.out).mono ?_); (case side1 => repeat (first | (with_reducible first | exact HI248.out | apply IsS78.alloc | apply IsS78.drewN | apply IsS78.drew | apply IsS78.set_0 | apply IsS78.set_1 | refine IsS78.far ?_ NB248_263.out _) | exact HI248.out)); (case side2 => repeat (first | (with_reducible first | exact HB.out | apply below_alloc | apply pw_below_drewN | apply below_drew1 | refine below_set ?_ (IsS78.ge HI248.out) | refine below_set ?_ GE263.out) | exact HB.out)); rintro e w159 ⟨rfl, hi, hb, hk⟩; refine ⟨_, rfl, ?_⟩; have n0_ := Aside0.mk (Kd.R_mono (Kd.R_keep (IsS78.apart (show IsS78 w _ g248 x249000_2 x249001_2 from by repeat (first | (with_reducible first | exact HI248.out | apply IsS78.alloc | apply IsS78.drewN | apply IsS78.drew | apply IsS78.set_0 | apply IsS78.set_1 | refine IsS78.far ?_ NB248_263.out _) | exact HI248.out)) (by (with_reducible repeat (first | apply Kd.R_alloc | apply Kd.R_drewN | apply Kd.R_drew)); exact (Kd.R_mono (Kd.R_far (p := ⟨gb263, 2, none⟩) (Kd.R_far (p := ⟨gb263, 1, none⟩) (Kd.R_far (p := ⟨gb263, 0, none⟩) (Kd.R_types HO_9.out BK263.out (by decide)) (fun _ hk => hk.2) (.int .i64 ((rd_T67 x6_1 x60_2).f0))) (fun _ hk => hk.2) (.int .u64 ((rd_T67 x6_1 x60_2).f1))) (fun _ hk => hk.2) (.int .i64 ((rd_T67 x6_1 x60_2).f2))) (fun _ h_ => h_.1))) (by decide)) hk (fun _ h => h.2)) (fun _ h => h.1)); have n1_ := Aside0.mk (Kd.R_mono (Kd.R_keep (IsS78.apart (show IsS78 w _ g248 x249000_2 x249001_2 from by repeat (first | (with_reducible first | exact HI248.out | apply IsS78.alloc | apply IsS78.drewN | apply IsS78.drew | apply IsS78.set_0 | apply IsS78.set_1 | refine IsS78.far ?_ NB248_263.out _) | exact HI248.out)) (by (with_reducible repeat (first | apply Kd.R_alloc | apply Kd.R_drewN | apply Kd.R_drew)); exact (Kd.R_mono (Kd.R_far (p := ⟨gb263, 2, none⟩) (Kd.R_far (p := ⟨gb263, 1, none⟩) (Kd.R_far (p := ⟨gb263, 0, none⟩) (Kd.R_mono HO_58.out (fun k_ hk => (⟨hk, hk.2⟩ : _ ∧ k_ ≠ gb263))) (fun _ hk => hk.2) (.int .i64 ((rd_T67 x6_1 x60_2).f0))) (fun _ hk => hk.2) (.int .u64 ((rd_T67 x6_1 x60_2).f1))) (fun _ hk => hk.2) (.int .i64 ((rd_T67 x6_1 x60_2).f2))) (fun _ h_ => h_.1))) (by decide)) hk (fun _ h => h.2)) (fun _ h => h.1)); have n2_ := Aside0.mk (KeepBut.blk hk (g' := gb263) (o := .cells #[.int .i64 ((rd_T67 x6_1 x60_2).f0), .int .u64 ((rd_T67 x6_1 x60_2).f1), .int .i64 ((rd_T67 x6_1 x60_2).f2)] 67 (0, 0)) (by (with_reducible repeat (first | refine blk_drewN ?_ _ | refine blk_drew ?_ | refine blk_alloc ?_ _)); refine blk_put (cs := #[.int .i64 ((rd_T67 x6_1 x60_2).f0), .int .u64 ((rd_T67 x6_1 x60_2).f1), .int .i64 0]) ?_ 2 _ rfl; (with_reducible repeat (first | refine blk_drewN ?_ _ | refine blk_drew ?_ | refine blk_alloc ?_ _)); refine blk_put (cs := #[.int .i64 ((rd_T67 x6_1 x60_2).f0), .int .u64 0, .int .i64 0]) ?_ 1 _ rfl; (with_reducible repeat (first | refine blk_drewN ?_ _ | refine blk_drew ?_ | refine blk_alloc ?_ _)); refine blk_put (cs := #[.int .i64 0, .int .u64 0, .int .i64 0]) ?_ 0 _ rfl; (with_reducible repeat (first | refine blk_drewN ?_ _ | refine blk_drew ?_ | refine blk_alloc ?_ _)); exact BK263.out) NB263_248.out (by simp)); have n3_ := Aside0.mk (hb); have n4_ := Aside0.mk (hi); clear HO_9; clear HO_58; clear BK263; clear HB; clear HI248; have HO_9 := n0_; have HO_58 := n1_; have BK263 := n2_; have HB := n3_; have HI248 := n4_; clear n0_ n1_ n2_ n3_ n4_; (try clear hb); (try clear hb2); (try clear hk); (try clear hi); obtain ⟨Ao160, co160, eo160⟩ := Kd.R_slice HO_9.out; subst eo160; have p276 : 0 ≤ (x60_2 : Int) := of_decide_eq_true (by first | (with_reducible assumption) | assumption); have q276 : x60_2 < (t257.length : Int) := of_decide_eq_true (by first | (with_reducible assumption) | assumption); obtain ⟨ad276, e276, hx276_0⟩ := Kd.at_string (Kd.R_reads' HO_9.out).2.2 x60_2 p276 q276; cases e276; replace p276 := eq_true p276; replace q276 := eq_true q276))
                                go_roundg k2
                                case measure => have := HK1.out; have := HK2.out; omega
                                case rel => exact ⟨(wrap64 (x60_2 + 1)), (t274), (t275), (by first | rfl | (simp; done) | (simp [*]; done) | (simp; rw [Bool.eq_iff_iff]; simp; done)), H', ⟨by have := HK1.out; have := HK2.out; omega⟩, ⟨by (with_reducible repeat (first | apply Kd.R_alloc | apply Kd.R_drewN | apply Kd.R_drew)); exact HO_9.out⟩, ⟨by (with_reducible repeat (first | apply Kd.R_alloc | apply Kd.R_drewN | apply Kd.R_drew)); exact Kd.R_mono HO_58.out (fun _ hk => trivial)⟩, ⟨by repeat (first | (with_reducible first | exact HI248.out | apply IsS78.alloc | apply IsS78.drewN | apply IsS78.drew | apply IsS78.set_0 | apply IsS78.set_1 | refine IsS78.far ?_ NB248_263.out _) | exact HI248.out)⟩, ⟨by repeat (first | (with_reducible first | exact HB.out | apply below_alloc | apply pw_below_drewN | apply below_drew1 | refine below_set ?_ (IsS78.ge HI248.out) | refine below_set ?_ GE263.out) | exact HB.out)⟩⟩
                              · rw [if_neg c155] at H
                                exact absurd H (by simp)
                            · rw [if_neg c154] at H
                              exact absurd H (by simp)
                          · rw [if_neg c152] at H
                            have c152b0 : (((rd_T67 x6_1 x60_2).f0) == 2) = false := beq_eq_false_iff_ne.mpr c152
                            have c152b1 : (((rd_T67 x6_1 x60_2).f0) != 2) = true := bne_iff_ne.mpr c152
                            by_cases c161 : ((rd_T67 x6_1 x60_2).f0) = 3
                            · rw [if_pos c161] at H
                              have c161b0 : (((rd_T67 x6_1 x60_2).f0) == 3) = true := beq_iff_eq.mpr c161
                              have c161b1 : (((rd_T67 x6_1 x60_2).f0) != 3) = false := bne_eq_false_iff_eq.mpr c161
                              clear c161
                              replace H := Option.bind_eq_some_iff.mp H
                              obtain ⟨⟨t277, t278⟩, A1620, H⟩ := H
                              replace H : ((varint_In_Fail.f t277 t278 13).bind fun bt279 => (if x60_2 < (t257.length : Int) then (if ([] : List UInt8) = (rdOf ByteArray.empty t257 x60_2).toList then (dowserlaw01_VarintTakes.l3 k2 t257 t258 t259 x6_1 (x6_1.length : Int) (wrap64 (x60_2 + 1)) bt279.1 bt279.2) else (none)) else (none))) = some r := H
                              have A162 := Aside0.mk A1620
                              clear A1620
                              replace H := Option.bind_eq_some_iff.mp H
                              obtain ⟨⟨t279, t280⟩, A1630, H⟩ := H
                              replace H : (if x60_2 < (t257.length : Int) then (if ([] : List UInt8) = (rdOf ByteArray.empty t257 x60_2).toList then (dowserlaw01_VarintTakes.l3 k2 t257 t258 t259 x6_1 (x6_1.length : Int) (wrap64 (x60_2 + 1)) t279 t280) else (none)) else (none)) = some r := H
                              have A163 := Aside0.mk A1630
                              clear A1630
                              by_cases c164 : x60_2 < (t257.length : Int)
                              · rw [if_pos c164] at H
                                have c164b0 : decide (x60_2 < (t257.length : Int)) = true := decide_eq_true c164
                                clear c164
                                by_cases c165 : ([] : List UInt8) = (rdOf ByteArray.empty t257 x60_2).toList
                                · rw [if_pos c165] at H
                                  have c165b0 : (([] : List UInt8) == (rdOf ByteArray.empty t257 x60_2).toList) = true := beq_iff_eq.mpr c165
                                  have c165b1 : (([] : List UInt8) != (rdOf ByteArray.empty t257 x60_2).toList) = false := bne_eq_false_iff_eq.mpr c165
                                  clear c165
                                  have H' := Aside0.mk H
                                  clear H
                                  have p262 : 0 ≤ (x60_2 : Int) := of_decide_eq_true (by first | (with_reducible assumption) | assumption)
                                  have q262 : x60_2 < (x6_1.length : Int) := of_decide_eq_true (by first | (with_reducible assumption) | assumption)
                                  obtain ⟨ad262, e262, hx262_0, hx262_1, hx262_2⟩ := at_T67 (Kd.R_reads' HO_58.out).2.2 x60_2 p262 q262
                                  cases e262
                                  replace p262 := eq_true p262
                                  replace q262 := eq_true q262
                                  go_wp2_with (first | ((with_reducible refine gate_dst (N := 13) rfl ?_); (try (refine gate_guard (by rfl) ?_; dsimp only)); refine box_event ?hg (N := 13) ?hd (cs := #[.int .i64 0, .int .u64 0, .int .i64 0]) (t := 67) ?hr ?_; (case hd => rfl); (case hg => rfl); (case hr => first | (go_simp; done) | (go_simp; rfl)); intro gb263 hg w166 hbox hb; have n0_ := Aside0.mk (Kd.R_below (by (with_reducible repeat (first | apply Kd.R_alloc | apply Kd.R_drewN | apply Kd.R_drew)); exact HO_9.out) hb); have n1_ := Aside0.mk (Kd.R_below (Kd.R_elderB (by (with_reducible repeat (first | apply Kd.R_alloc | apply Kd.R_drewN | apply Kd.R_drew)); exact HO_58.out) gb263 (Nat.le_of_eq hg.symm)) hb); have n2_ := Aside0.mk (IsS78.below (by repeat (first | (with_reducible first | exact HI248.out | apply IsS78.alloc | apply IsS78.drewN | apply IsS78.drew | apply IsS78.set_0 | apply IsS78.set_1) | exact HI248.out)) hb); have n3_ := Aside0.mk (below_step (by repeat (first | (with_reducible first | exact HB.out | apply below_alloc | apply pw_below_drewN | apply below_drew1 | refine below_set ?_ (IsS78.ge HI248.out)) | exact HB.out)) hb); have n4_ := Aside0.mk (hbox); have n5_ := Aside0.mk ((by rw [hg]; exact (below_size (by repeat (first | (with_reducible first | exact HB.out | apply below_alloc | apply pw_below_drewN | apply below_drew1 | refine below_set ?_ (IsS78.ge HI248.out)) | exact HB.out))) : w.heap.size ≤ gb263)); have n6_ := Aside0.mk ((by rw [hg]; exact (below_size (by repeat (first | (with_reducible first | exact HB.out | apply below_alloc | apply pw_below_drewN | apply below_drew1 | refine below_set ?_ (IsS78.ge HI248.out)) | exact HB.out))) : w.heap.size ≤ gb263)); have n7_ := Aside0.mk ((by rw [hg]; exact Nat.ne_of_lt (IsS78.lt (show IsS78 w _ g248 x249000_2 x249001_2 from by repeat (first | (with_reducible first | exact HI248.out | apply IsS78.alloc | apply IsS78.drewN | apply IsS78.drew | apply IsS78.set_0 | apply IsS78.set_1) | exact HI248.out))) : g248 ≠ gb263)); have n8_ := Aside0.mk ((by rw [hg]; exact Nat.ne_of_gt (IsS78.lt (show IsS78 w _ g248 x249000_2 x249001_2 from by repeat (first | (with_reducible first | exact HI248.out | apply IsS78.alloc | apply IsS78.drewN | apply IsS78.drew | apply IsS78.set_0 | apply IsS78.set_1) | exact HI248.out))) : gb263 ≠ g248)); clear HO_9; clear HO_58; clear HI248; clear HB; have HO_9 := n0_; have HO_58 := n1_; have HI248 := n2_; have HB := n3_; have BK263 := n4_; have GW263 := n5_; have GE263 := n6_; have NB248_263 := n7_; have NB263_248 := n8_; clear n0_ n1_ n2_ n3_ n4_ n5_ n6_ n7_ n8_; clear hb hbox hg; have hnb167 := NB263_248.out; have hnc167 := NB248_263.out; have hcz168_0 : w166.cell? ⟨gb263, 0, none⟩ = some (.int .i64 0) := (blk_cell BK263.out 0).trans rfl; have hcz168_1 : w166.cell? ⟨gb263, 1, none⟩ = some (.int .u64 0) := (blk_cell BK263.out 1).trans rfl; have hcz168_2 : w166.cell? ⟨gb263, 2, none⟩ = some (.int .i64 0) := (blk_cell BK263.out 2).trans rfl; have hfz168_0 := blk_frozen BK263.out 0; have hfz168_1 := blk_frozen BK263.out 1; have hfz168_2 := blk_frozen BK263.out 2) | ((with_reducible refine gate_callee (f := 49) rfl ?_); refine goesL_ (some 90) rfl rfl Try.func49 (by kernel_rfl) rfl #[.pointer (some ⟨g248, 0, none⟩), .int .i64 0] rfl (by (try simp only [List.map_toArray, List.map_cons, List.map_nil]); first | done | rfl | (simp only [List.length_drop, List.length_take]; rfl)) ?_; (with_reducible refine (varint_In_Fail.calls g248 x249000_2 x249001_2 0 t277 t278 w _ ?side1 ?side2 A162.out).mono ?_); (case side1 => repeat (first | (with_reducible first | exact HI248.out | apply IsS78.alloc | apply IsS78.drewN | apply IsS78.drew | apply IsS78.set_0 | apply IsS78.set_1 | refine IsS78.far ?_ NB248_263.out _) | exact HI248.out)); (case side2 => repeat (first | (with_reducible first | exact HB.out | apply below_alloc | apply pw_below_drewN | apply below_drew1 | refine below_set ?_ (IsS78.ge HI248.out) | refine below_set ?_ GE263.out) | exact HB.out)); rintro e w169 ⟨rfl, hi, hb, hk⟩; refine ⟨_, rfl, ?_⟩; have n0_ := Aside0.mk (Kd.R_mono (Kd.R_keep (IsS78.apart (show IsS78 w _ g248 x249000_2 x249001_2 from by repeat (first | (with_reducible first | exact HI248.out | apply IsS78.alloc | apply IsS78.drewN | apply IsS78.drew | apply IsS78.set_0 | apply IsS78.set_1 | refine IsS78.far ?_ NB248_263.out _) | exact HI248.out)) (by (with_reducible repeat (first | apply Kd.R_alloc | apply Kd.R_drewN | apply Kd.R_drew)); exact (Kd.R_mono (Kd.R_far (p := ⟨gb263, 2, none⟩) (Kd.R_far (p := ⟨gb263, 1, none⟩) (Kd.R_far (p := ⟨gb263, 0, none⟩) (Kd.R_types HO_9.out BK263.out (by decide)) (fun _ hk => hk.2) (.int .i64 ((rd_T67 x6_1 x60_2).f0))) (fun _ hk => hk.2) (.int .u64 ((rd_T67 x6_1 x60_2).f1))) (fun _ hk => hk.2) (.int .i64 ((rd_T67 x6_1 x60_2).f2))) (fun _ h_ => h_.1))) (by decide)) hk (fun _ h => h.2)) (fun _ h => h.1)); have n1_ := Aside0.mk (Kd.R_mono (Kd.R_keep (IsS78.apart (show IsS78 w _ g248 x249000_2 x249001_2 from by repeat (first | (with_reducible first | exact HI248.out | apply IsS78.alloc | apply IsS78.drewN | apply IsS78.drew | apply IsS78.set_0 | apply IsS78.set_1 | refine IsS78.far ?_ NB248_263.out _) | exact HI248.out)) (by (with_reducible repeat (first | apply Kd.R_alloc | apply Kd.R_drewN | apply Kd.R_drew)); exact (Kd.R_mono (Kd.R_far (p := ⟨gb263, 2, none⟩) (Kd.R_far (p := ⟨gb263, 1, none⟩) (Kd.R_far (p := ⟨gb263, 0, none⟩) (Kd.R_mono HO_58.out (fun k_ hk => (⟨hk, hk.2⟩ : _ ∧ k_ ≠ gb263))) (fun _ hk => hk.2) (.int .i64 ((rd_T67 x6_1 x60_2).f0))) (fun _ hk => hk.2) (.int .u64 ((rd_T67 x6_1 x60_2).f1))) (fun _ hk => hk.2) (.int .i64 ((rd_T67 x6_1 x60_2).f2))) (fun _ h_ => h_.1))) (by decide)) hk (fun _ h => h.2)) (fun _ h => h.1)); have n2_ := Aside0.mk (KeepBut.blk hk (g' := gb263) (o := .cells #[.int .i64 ((rd_T67 x6_1 x60_2).f0), .int .u64 ((rd_T67 x6_1 x60_2).f1), .int .i64 ((rd_T67 x6_1 x60_2).f2)] 67 (0, 0)) (by (with_reducible repeat (first | refine blk_drewN ?_ _ | refine blk_drew ?_ | refine blk_alloc ?_ _)); refine blk_put (cs := #[.int .i64 ((rd_T67 x6_1 x60_2).f0), .int .u64 ((rd_T67 x6_1 x60_2).f1), .int .i64 0]) ?_ 2 _ rfl; (with_reducible repeat (first | refine blk_drewN ?_ _ | refine blk_drew ?_ | refine blk_alloc ?_ _)); refine blk_put (cs := #[.int .i64 ((rd_T67 x6_1 x60_2).f0), .int .u64 0, .int .i64 0]) ?_ 1 _ rfl; (with_reducible repeat (first | refine blk_drewN ?_ _ | refine blk_drew ?_ | refine blk_alloc ?_ _)); refine blk_put (cs := #[.int .i64 0, .int .u64 0, .int .i64 0]) ?_ 0 _ rfl; (with_reducible repeat (first | refine blk_drewN ?_ _ | refine blk_drew ?_ | refine blk_alloc ?_ _)); exact BK263.out) NB263_248.out (by simp)); have n3_ := Aside0.mk (hb); have n4_ := Aside0.mk (hi); clear HO_9; clear HO_58; clear BK263; clear HB; clear HI248; have HO_9 := n0_; have HO_58 := n1_; have BK263 := n2_; have HB := n3_; have HI248 := n4_; clear n0_ n1_ n2_ n3_ n4_; (try clear hb); (try clear hb2); (try clear hk); (try clear hi)) | ((with_reducible refine gate_callee (f := 49) rfl ?_); refine goesL_ (some 92) rfl rfl Try.func49 (by kernel_rfl) rfl #[.pointer (some ⟨g248, 0, none⟩), .int .i64 13] rfl (by (try simp only [List.map_toArray, List.map_cons, List.map_nil]); first | done | rfl | (simp only [List.length_drop, List.length_take]; rfl)) ?_; (with_reducible refine (varint_In_Fail.calls g248 t277 t278 13 t279 t280 w _ ?side1 ?side2 A163.out).mono ?_); (case side1 => repeat (first | (with_reducible first | exact HI248.out | apply IsS78.alloc | apply IsS78.drewN | apply IsS78.drew | apply IsS78.set_0 | apply IsS78.set_1 | refine IsS78.far ?_ NB248_263.out _) | exact HI248.out)); (case side2 => repeat (first | (with_reducible first | exact HB.out | apply below_alloc | apply pw_below_drewN | apply below_drew1 | refine below_set ?_ (IsS78.ge HI248.out) | refine below_set ?_ GE263.out) | exact HB.out)); rintro e w170 ⟨rfl, hi, hb, hk⟩; refine ⟨_, rfl, ?_⟩; have n0_ := Aside0.mk (Kd.R_mono (Kd.R_keep (IsS78.apart (show IsS78 w _ g248 t277 t278 from by repeat (first | (with_reducible first | exact HI248.out | apply IsS78.alloc | apply IsS78.drewN | apply IsS78.drew | apply IsS78.set_0 | apply IsS78.set_1 | refine IsS78.far ?_ NB248_263.out _) | exact HI248.out)) (by (with_reducible repeat (first | apply Kd.R_alloc | apply Kd.R_drewN | apply Kd.R_drew)); exact HO_9.out) (by decide)) hk (fun _ h => h.2)) (fun _ h => h.1)); have n1_ := Aside0.mk (Kd.R_mono (Kd.R_keep (IsS78.apart (show IsS78 w _ g248 t277 t278 from by repeat (first | (with_reducible first | exact HI248.out | apply IsS78.alloc | apply IsS78.drewN | apply IsS78.drew | apply IsS78.set_0 | apply IsS78.set_1 | refine IsS78.far ?_ NB248_263.out _) | exact HI248.out)) (by (with_reducible repeat (first | apply Kd.R_alloc | apply Kd.R_drewN | apply Kd.R_drew)); exact HO_58.out) (by decide)) hk (fun _ h => h.2)) (fun _ h => h.1)); have n2_ := Aside0.mk (KeepBut.blk hk (g' := gb263) (o := .cells #[.int .i64 ((rd_T67 x6_1 x60_2).f0), .int .u64 ((rd_T67 x6_1 x60_2).f1), .int .i64 ((rd_T67 x6_1 x60_2).f2)] 67 (0, 0)) (by (with_reducible repeat (first | refine blk_drewN ?_ _ | refine blk_drew ?_ | refine blk_alloc ?_ _)); exact BK263.out) NB263_248.out (by simp)); have n3_ := Aside0.mk (hb); have n4_ := Aside0.mk (hi); clear HO_9; clear HO_58; clear BK263; clear HB; clear HI248; have HO_9 := n0_; have HO_58 := n1_; have BK263 := n2_; have HB := n3_; have HI248 := n4_; clear n0_ n1_ n2_ n3_ n4_; (try clear hb); (try clear hb2); (try clear hk); (try clear hi); obtain ⟨Ao171, co171, eo171⟩ := Kd.R_slice HO_9.out; subst eo171; have p281 : 0 ≤ (x60_2 : Int) := of_decide_eq_true (by first | (with_reducible assumption) | assumption); have q281 : x60_2 < (t257.length : Int) := of_decide_eq_true (by first | (with_reducible assumption) | assumption); obtain ⟨ad281, e281, hx281_0⟩ := Kd.at_string (Kd.R_reads' HO_9.out).2.2 x60_2 p281 q281; cases e281; replace p281 := eq_true p281; replace q281 := eq_true q281))
                                  go_roundg k2
                                  case measure => have := HK1.out; have := HK2.out; omega
                                  case rel => exact ⟨(wrap64 (x60_2 + 1)), (t279), (t280), (by first | rfl | (simp; done) | (simp [*]; done) | (simp; rw [Bool.eq_iff_iff]; simp; done)), H', ⟨by have := HK1.out; have := HK2.out; omega⟩, ⟨by (with_reducible repeat (first | apply Kd.R_alloc | apply Kd.R_drewN | apply Kd.R_drew)); exact HO_9.out⟩, ⟨by (with_reducible repeat (first | apply Kd.R_alloc | apply Kd.R_drewN | apply Kd.R_drew)); exact Kd.R_mono HO_58.out (fun _ hk => trivial)⟩, ⟨by repeat (first | (with_reducible first | exact HI248.out | apply IsS78.alloc | apply IsS78.drewN | apply IsS78.drew | apply IsS78.set_0 | apply IsS78.set_1 | refine IsS78.far ?_ NB248_263.out _) | exact HI248.out)⟩, ⟨by repeat (first | (with_reducible first | exact HB.out | apply below_alloc | apply pw_below_drewN | apply below_drew1 | refine below_set ?_ (IsS78.ge HI248.out) | refine below_set ?_ GE263.out) | exact HB.out)⟩⟩
                                · rw [if_neg c165] at H
                                  exact absurd H (by simp)
                              · rw [if_neg c164] at H
                                exact absurd H (by simp)
                            · rw [if_neg c161] at H
                              have c161b0 : (((rd_T67 x6_1 x60_2).f0) == 3) = false := beq_eq_false_iff_ne.mpr c161
                              have c161b1 : (((rd_T67 x6_1 x60_2).f0) != 3) = true := bne_iff_ne.mpr c161
                              by_cases c172 : x60_2 < (t257.length : Int)
                              · rw [if_pos c172] at H
                                have c172b0 : decide (x60_2 < (t257.length : Int)) = true := decide_eq_true c172
                                clear c172
                                by_cases c173 : ([] : List UInt8) = (rdOf ByteArray.empty t257 x60_2).toList
                                · rw [if_pos c173] at H
                                  have c173b0 : (([] : List UInt8) == (rdOf ByteArray.empty t257 x60_2).toList) = true := beq_iff_eq.mpr c173
                                  have c173b1 : (([] : List UInt8) != (rdOf ByteArray.empty t257 x60_2).toList) = false := bne_eq_false_iff_eq.mpr c173
                                  clear c173
                                  have H' := Aside0.mk H
                                  clear H
                                  have p262 : 0 ≤ (x60_2 : Int) := of_decide_eq_true (by first | (with_reducible assumption) | assumption)
                                  have q262 : x60_2 < (x6_1.length : Int) := of_decide_eq_true (by first | (with_reducible assumption) | assumption)
                                  obtain ⟨ad262, e262, hx262_0, hx262_1, hx262_2⟩ := at_T67 (Kd.R_reads' HO_58.out).2.2 x60_2 p262 q262
                                  cases e262
                                  replace p262 := eq_true p262
                                  replace q262 := eq_true q262
                                  go_wp2_with (first | ((with_reducible refine gate_dst (N := 13) rfl ?_); (try (refine gate_guard (by rfl) ?_; dsimp only)); refine box_event ?hg (N := 13) ?hd (cs := #[.int .i64 0, .int .u64 0, .int .i64 0]) (t := 67) ?hr ?_; (case hd => rfl); (case hg => rfl); (case hr => first | (go_simp; done) | (go_simp; rfl)); intro gb263 hg w174 hbox hb; have n0_ := Aside0.mk (Kd.R_below (by (with_reducible repeat (first | apply Kd.R_alloc | apply Kd.R_drewN | apply Kd.R_drew)); exact HO_9.out) hb); have n1_ := Aside0.mk (Kd.R_below (Kd.R_elderB (by (with_reducible repeat (first | apply Kd.R_alloc | apply Kd.R_drewN | apply Kd.R_drew)); exact HO_58.out) gb263 (Nat.le_of_eq hg.symm)) hb); have n2_ := Aside0.mk (IsS78.below (by repeat (first | (with_reducible first | exact HI248.out | apply IsS78.alloc | apply IsS78.drewN | apply IsS78.drew | apply IsS78.set_0 | apply IsS78.set_1) | exact HI248.out)) hb); have n3_ := Aside0.mk (below_step (by repeat (first | (with_reducible first | exact HB.out | apply below_alloc | apply pw_below_drewN | apply below_drew1 | refine below_set ?_ (IsS78.ge HI248.out)) | exact HB.out)) hb); have n4_ := Aside0.mk (hbox); have n5_ := Aside0.mk ((by rw [hg]; exact (below_size (by repeat (first | (with_reducible first | exact HB.out | apply below_alloc | apply pw_below_drewN | apply below_drew1 | refine below_set ?_ (IsS78.ge HI248.out)) | exact HB.out))) : w.heap.size ≤ gb263)); have n6_ := Aside0.mk ((by rw [hg]; exact (below_size (by repeat (first | (with_reducible first | exact HB.out | apply below_alloc | apply pw_below_drewN | apply below_drew1 | refine below_set ?_ (IsS78.ge HI248.out)) | exact HB.out))) : w.heap.size ≤ gb263)); have n7_ := Aside0.mk ((by rw [hg]; exact Nat.ne_of_lt (IsS78.lt (show IsS78 w _ g248 x249000_2 x249001_2 from by repeat (first | (with_reducible first | exact HI248.out | apply IsS78.alloc | apply IsS78.drewN | apply IsS78.drew | apply IsS78.set_0 | apply IsS78.set_1) | exact HI248.out))) : g248 ≠ gb263)); have n8_ := Aside0.mk ((by rw [hg]; exact Nat.ne_of_gt (IsS78.lt (show IsS78 w _ g248 x249000_2 x249001_2 from by repeat (first | (with_reducible first | exact HI248.out | apply IsS78.alloc | apply IsS78.drewN | apply IsS78.drew | apply IsS78.set_0 | apply IsS78.set_1) | exact HI248.out))) : gb263 ≠ g248)); clear HO_9; clear HO_58; clear HI248; clear HB; have HO_9 := n0_; have HO_58 := n1_; have HI248 := n2_; have HB := n3_; have BK263 := n4_; have GW263 := n5_; have GE263 := n6_; have NB248_263 := n7_; have NB263_248 := n8_; clear n0_ n1_ n2_ n3_ n4_ n5_ n6_ n7_ n8_; clear hb hbox hg; have hnb175 := NB263_248.out; have hnc175 := NB248_263.out; have hcz176_0 : w174.cell? ⟨gb263, 0, none⟩ = some (.int .i64 0) := (blk_cell BK263.out 0).trans rfl; have hcz176_1 : w174.cell? ⟨gb263, 1, none⟩ = some (.int .u64 0) := (blk_cell BK263.out 1).trans rfl; have hcz176_2 : w174.cell? ⟨gb263, 2, none⟩ = some (.int .i64 0) := (blk_cell BK263.out 2).trans rfl; have hfz176_0 := blk_frozen BK263.out 0; have hfz176_1 := blk_frozen BK263.out 1; have hfz176_2 := blk_frozen BK263.out 2; obtain ⟨Ao177, co177, eo177⟩ := Kd.R_slice HO_9.out; subst eo177; have p282 : 0 ≤ (x60_2 : Int) := of_decide_eq_true (by first | (with_reducible assumption) | assumption); have q282 : x60_2 < (t257.length : Int) := of_decide_eq_true (by first | (with_reducible assumption) | assumption); obtain ⟨ad282, e282, hx282_0⟩ := Kd.at_string (Kd.R_reads' HO_9.out).2.2 x60_2 p282 q282; cases e282; have hn282_0 : ad282.block ≠ gb263 := Kd.own_blk (Kd.R_ne HO_9.out BK263.out (by decide)); have hn282_1 : ad282.block ≠ gb263 := Kd.own_blk (Kd.R_ne HO_9.out BK263.out (by decide)); have hn282_2 : ad282.block ≠ gb263 := Kd.own_blk (Kd.R_ne HO_9.out BK263.out (by decide)); replace hx282_0 := (cell_far (p := ⟨gb263, 0, none⟩) (by first | (rw [add_block]; exact hn282_0) | (show (Addr.add _ _).block ≠ _; rw [add_block]; exact hn282_0) | exact hn282_0) (.int .i64 ((rd_T67 x6_1 x60_2).f0))).trans hx282_0; replace hx282_0 := (cell_far (p := ⟨gb263, 1, none⟩) (by first | (rw [add_block]; exact hn282_1) | (show (Addr.add _ _).block ≠ _; rw [add_block]; exact hn282_1) | exact hn282_1) (.int .u64 ((rd_T67 x6_1 x60_2).f1))).trans hx282_0; replace hx282_0 := (cell_far (p := ⟨gb263, 2, none⟩) (by first | (rw [add_block]; exact hn282_2) | (show (Addr.add _ _).block ≠ _; rw [add_block]; exact hn282_2) | exact hn282_2) (.int .i64 ((rd_T67 x6_1 x60_2).f2))).trans hx282_0; clear hn282_0; clear hn282_1; clear hn282_2; replace p282 := eq_true p282; replace q282 := eq_true q282))
                                  go_roundg k2
                                  case measure => have := HK1.out; have := HK2.out; omega
                                  case rel => exact ⟨(wrap64 (x60_2 + 1)), (x249000_2), (x249001_2), (by first | rfl | (simp; done) | (simp [*]; done) | (simp; rw [Bool.eq_iff_iff]; simp; done)), H', ⟨by have := HK1.out; have := HK2.out; omega⟩, ⟨by (with_reducible repeat (first | apply Kd.R_alloc | apply Kd.R_drewN | apply Kd.R_drew)); exact Kd.R_mono (Kd.R_far (p := ⟨gb263, 2, none⟩) (Kd.R_far (p := ⟨gb263, 1, none⟩) (Kd.R_far (p := ⟨gb263, 0, none⟩) (Kd.R_types HO_9.out BK263.out (by decide)) (fun _ hk => hk.2) (.int .i64 ((rd_T67 x6_1 x60_2).f0))) (fun _ hk => hk.2) (.int .u64 ((rd_T67 x6_1 x60_2).f1))) (fun _ hk => hk.2) (.int .i64 ((rd_T67 x6_1 x60_2).f2))) (fun _ hk => trivial)⟩, ⟨by (with_reducible repeat (first | apply Kd.R_alloc | apply Kd.R_drewN | apply Kd.R_drew)); exact Kd.R_mono (Kd.R_far (p := ⟨gb263, 2, none⟩) (Kd.R_far (p := ⟨gb263, 1, none⟩) (Kd.R_far (p := ⟨gb263, 0, none⟩) (Kd.R_mono HO_58.out (fun k_ hk => (⟨hk, hk.2⟩ : _ ∧ k_ ≠ gb263))) (fun _ hk => hk.2) (.int .i64 ((rd_T67 x6_1 x60_2).f0))) (fun _ hk => hk.2) (.int .u64 ((rd_T67 x6_1 x60_2).f1))) (fun _ hk => hk.2) (.int .i64 ((rd_T67 x6_1 x60_2).f2))) (fun _ hk => trivial)⟩, ⟨by repeat (first | (with_reducible first | exact HI248.out | apply IsS78.alloc | apply IsS78.drewN | apply IsS78.drew | apply IsS78.set_0 | apply IsS78.set_1 | refine IsS78.far ?_ NB248_263.out _) | exact HI248.out)⟩, ⟨by repeat (first | (with_reducible first | exact HB.out | apply below_alloc | apply pw_below_drewN | apply below_drew1 | refine below_set ?_ (IsS78.ge HI248.out) | refine below_set ?_ GE263.out) | exact HB.out)⟩⟩
                                · rw [if_neg c173] at H
                                  exact absurd H (by simp)
                              · rw [if_neg c172] at H
                                exact absurd H (by simp)
                    · rw [if_neg c131] at H
                      exact absurd H (by simp)
                  · rw [if_neg c130] at H
                    exact absurd H (by simp)
                · rw [if_neg c129] at H
                  have c129b0 : decide (x60_2 < (x6_1.length : Int)) = false := decide_eq_false c129
                  clear c129
                  have HC178 := Aside0.mk H
                  clear H
                  go_upto_region 37 with (fail)
                  go_cut [106] (fun v106 wc => ∃ (kq : Nat) (x106_177 : Bool), v106 = .bool x106_177 ∧ Aside0 (dowserlaw01_VarintTakes.j5 kq t258 t259 t259 x106_177 x249000_2 x249001_2 = some r) ∧ Aside0 (kq ≤ k2) ∧ Aside0 (IsS78 w wc g248 x249000_2 x249001_2) ∧ Aside0 (Below w.heap.size w wc))
                  case first =>
                    have H := HC178.out
                    clear HC178
                    by_cases c179 : t259 = 0
                    · rw [if_pos c179] at H
                      have c179b0 : (t259 == 0) = true := beq_iff_eq.mpr c179
                      have c179b1 : (t259 != 0) = false := bne_eq_false_iff_eq.mpr c179
                      clear c179
                      (first | rw [c179b0] | (simp only [i64_w, i32_w]; rw [c179b0]) | skip)
                      have H' := Aside0.mk H
                      clear H
                      go_wp2
                      go_meet
                      case rel => exact ⟨_, ((t258.toList != ([] : List UInt8))), (by first | rfl | (simp; done) | (simp [*]; done) | (simp; rw [Bool.eq_iff_iff]; simp; done)), H', ⟨by have := HK1.out; have := HK2.out; first | omega | exact Nat.le_refl _⟩, ⟨by repeat (first | (with_reducible first | exact HI248.out | apply IsS78.alloc | apply IsS78.drewN | apply IsS78.drew | apply IsS78.set_0 | apply IsS78.set_1) | exact HI248.out)⟩, ⟨by repeat (first | (with_reducible first | exact HB.out | apply below_alloc | apply pw_below_drewN | apply below_drew1 | refine below_set ?_ (IsS78.ge HI248.out)) | exact HB.out)⟩⟩
                    · rw [if_neg c179] at H
                      have c179b0 : (t259 == 0) = false := beq_eq_false_iff_ne.mpr c179
                      have c179b1 : (t259 != 0) = true := bne_iff_ne.mpr c179
                      (first | rw [c179b0] | (simp only [i64_w, i32_w]; rw [c179b0]) | skip)
                      have H' := Aside0.mk H
                      clear H
                      go_wp2
                      go_meet
                      case rel => exact ⟨_, (false), (by first | rfl | (simp; done) | (simp [*]; done) | (simp; rw [Bool.eq_iff_iff]; simp; done)), H', ⟨by have := HK1.out; have := HK2.out; first | omega | exact Nat.le_refl _⟩, ⟨by repeat (first | (with_reducible first | exact HI248.out | apply IsS78.alloc | apply IsS78.drewN | apply IsS78.drew | apply IsS78.set_0 | apply IsS78.set_1) | exact HI248.out)⟩, ⟨by repeat (first | (with_reducible first | exact HB.out | apply below_alloc | apply pw_below_drewN | apply below_drew1 | refine below_set ?_ (IsS78.ge HI248.out)) | exact HB.out)⟩⟩
                  case rest =>
                    clear HC178
                    try clear c1
                    try clear p1
                    try clear q1
                    try clear hx1
                    try clear c2
                    try clear p2
                    try clear q2
                    try clear hx2
                    try clear c3
                    try clear c4
                    try clear c5
                    try clear c6
                    try clear c6b0
                    try clear c6b1
                    try clear p6
                    try clear c7
                    try clear c7b0
                    try clear c7b1
                    try clear c8
                    try clear c9
                    try clear c10
                    try clear q10
                    try clear c11
                    try clear c12
                    try clear c12b0
                    try clear c13
                    try clear c13b0
                    try clear c14
                    try clear c14b0
                    try clear c15
                    try clear c16
                    try clear c16b0
                    try clear c16b1
                    try clear c17
                    try clear p17
                    try clear q17
                    try clear hx17
                    try clear c18
                    try clear p18
                    try clear q18
                    try clear hx18
                    try clear p19
                    try clear q19
                    try clear hx19
                    try clear c20
                    try clear p20
                    try clear q20
                    try clear hx20
                    try clear p24
                    try clear q24
                    try clear hx24
                    try clear c25
                    try clear p26
                    try clear q26
                    try clear hx26
                    try clear c27
                    try clear p27
                    try clear q27
                    try clear hx27
                    try clear p28
                    try clear q28
                    try clear hx28
                    try clear c29
                    try clear c30
                    try clear c31
                    try clear c35
                    try clear c35b0
                    try clear c36
                    try clear c36b0
                    try clear c37
                    try clear c37b0
                    try clear c38
                    try clear c38b0
                    try clear c38b1
                    try clear c41
                    try clear c41b0
                    try clear c42
                    try clear c42b0
                    try clear c42b1
                    try clear c44
                    try clear c46
                    try clear c47
                    try clear c48
                    try clear c49
                    try clear c49b0
                    try clear c49b1
                    try clear c51
                    try clear c51b0
                    try clear c52
                    try clear c52b0
                    try clear c52b1
                    try clear c54
                    try clear c58
                    try clear c58b0
                    try clear c58b1
                    try clear c60
                    try clear c60b0
                    try clear c61
                    try clear c61b0
                    try clear c61b1
                    try clear c63
                    try clear p64
                    try clear c67
                    try clear c67b0
                    try clear c67b1
                    try clear c70
                    try clear c70b0
                    try clear c71
                    try clear c71b0
                    try clear c71b1
                    try clear c73
                    try clear c78
                    try clear c78b0
                    try clear c79
                    try clear c79b0
                    try clear c79b1
                    try clear c81
                    try clear c85
                    try clear c85b0
                    try clear c85b1
                    try clear c86
                    try clear c88
                    try clear c88b0
                    try clear c88b1
                    try clear c90
                    try clear c90b0
                    try clear c90b1
                    try clear c96
                    try clear c96b0
                    try clear c96b1
                    try clear c98
                    try clear c98b0
                    try clear c98b1
                    try clear c106
                    try clear c106b0
                    try clear c107
                    try clear c107b0
                    try clear c108
                    try clear c108b0
                    try clear c110
                    try clear c110b0
                    try clear c110b1
                    try clear c112
                    try clear c114
                    try clear c119
                    try clear c121
                    try clear c129
                    try clear c129b0
                    try clear c130
                    try clear c130b0
                    try clear c131
                    try clear c131b0
                    try clear c132
                    try clear c132b0
                    try clear c132b1
                    try clear c135
                    try clear c135b0
                    try clear c136
                    try clear c136b0
                    try clear c136b1
                    try clear c138
                    try clear c143
                    try clear c143b0
                    try clear c143b1
                    try clear c145
                    try clear c145b0
                    try clear c146
                    try clear c146b0
                    try clear c146b1
                    try clear c148
                    try clear c152
                    try clear c152b0
                    try clear c152b1
                    try clear c154
                    try clear c154b0
                    try clear c155
                    try clear c155b0
                    try clear c155b1
                    try clear c157
                    try clear c161
                    try clear c161b0
                    try clear c161b1
                    try clear c164
                    try clear c164b0
                    try clear c165
                    try clear c165b0
                    try clear c165b1
                    try clear c167
                    try clear c172
                    try clear c172b0
                    try clear c173
                    try clear c173b0
                    try clear c173b1
                    try clear c175
                    try clear p176
                    try clear q176
                    try clear hx176
                    try clear c179
                    try clear c179b0
                    try clear c179b1
                    try clear hcz115_0
                    try clear hcz115_1
                    try clear hcz115_2
                    try clear hcz117_0
                    try clear hcz117_1
                    try clear hcz117_2
                    try clear hcz122_0
                    try clear hcz122_1
                    try clear hcz122_2
                    try clear hcz124_0
                    try clear hcz124_1
                    try clear hcz124_2
                    try clear hcz139_0
                    try clear hcz139_1
                    try clear hcz139_2
                    try clear hcz149_0
                    try clear hcz149_1
                    try clear hcz149_2
                    try clear hcz158_0
                    try clear hcz158_1
                    try clear hcz158_2
                    try clear hcz168_0
                    try clear hcz168_1
                    try clear hcz168_2
                    try clear hcz176_0
                    try clear hcz176_1
                    try clear hcz176_2
                    try clear hcz21_0
                    try clear hcz21_1
                    try clear hcz21_2
                    try clear hcz23_0
                    try clear hcz23_1
                    try clear hcz23_2
                    try clear hcz28_0
                    try clear hcz28_1
                    try clear hcz28_2
                    try clear hcz30_0
                    try clear hcz30_1
                    try clear hcz30_2
                    try clear hcz45_0
                    try clear hcz45_1
                    try clear hcz45_2
                    try clear hcz55_0
                    try clear hcz55_1
                    try clear hcz55_2
                    try clear hcz64_0
                    try clear hcz64_1
                    try clear hcz64_2
                    try clear hcz74_0
                    try clear hcz74_1
                    try clear hcz74_2
                    try clear hcz82_0
                    try clear hcz82_1
                    try clear hcz82_2
                    try clear hfz115_0
                    try clear hfz115_1
                    try clear hfz115_2
                    try clear hfz117_0
                    try clear hfz117_1
                    try clear hfz117_2
                    try clear hfz122_0
                    try clear hfz122_1
                    try clear hfz122_2
                    try clear hfz124_0
                    try clear hfz124_1
                    try clear hfz124_2
                    try clear hfz139_0
                    try clear hfz139_1
                    try clear hfz139_2
                    try clear hfz149_0
                    try clear hfz149_1
                    try clear hfz149_2
                    try clear hfz158_0
                    try clear hfz158_1
                    try clear hfz158_2
                    try clear hfz168_0
                    try clear hfz168_1
                    try clear hfz168_2
                    try clear hfz176_0
                    try clear hfz176_1
                    try clear hfz176_2
                    try clear hfz21_0
                    try clear hfz21_1
                    try clear hfz21_2
                    try clear hfz23_0
                    try clear hfz23_1
                    try clear hfz23_2
                    try clear hfz28_0
                    try clear hfz28_1
                    try clear hfz28_2
                    try clear hfz30_0
                    try clear hfz30_1
                    try clear hfz30_2
                    try clear hfz45_0
                    try clear hfz45_1
                    try clear hfz45_2
                    try clear hfz55_0
                    try clear hfz55_1
                    try clear hfz55_2
                    try clear hfz64_0
                    try clear hfz64_1
                    try clear hfz64_2
                    try clear hfz74_0
                    try clear hfz74_1
                    try clear hfz74_2
                    try clear hfz82_0
                    try clear hfz82_1
                    try clear hfz82_2
                    try clear hx176_0
                    try clear hx176_1
                    try clear hx176_2
                    try clear hx189_0
                    try clear hx189_1
                    try clear hx189_2
                    try clear hx195_0
                    try clear hx199_0
                    try clear hx203_0
                    try clear hx208_0
                    try clear hx209_0
                    try clear hx249_0
                    try clear hx249_1
                    try clear hx249_2
                    try clear hx262_0
                    try clear hx262_1
                    try clear hx262_2
                    try clear hx268_0
                    try clear hx272_0
                    try clear hx276_0
                    try clear hx281_0
                    try clear hx282_0
                    try clear p1
                    try clear p17
                    try clear p176
                    try clear p18
                    try clear p189
                    try clear p19
                    try clear p195
                    try clear p199
                    try clear p2
                    try clear p20
                    try clear p203
                    try clear p208
                    try clear p209
                    try clear p24
                    try clear p249
                    try clear p262
                    try clear p268
                    try clear p272
                    try clear p276
                    try clear p281
                    try clear p282
                    try clear p6
                    try clear p64
                    try clear q1
                    try clear q10
                    try clear q17
                    try clear q176
                    try clear q18
                    try clear q189
                    try clear q19
                    try clear q195
                    try clear q199
                    try clear q2
                    try clear q20
                    try clear q203
                    try clear q208
                    try clear q209
                    try clear q24
                    try clear q249
                    try clear q262
                    try clear q268
                    try clear q272
                    try clear q276
                    try clear q281
                    try clear q282
                    obtain ⟨kq, x106_177, rfl, HA, HJ177, HI248, HB⟩ := hcut
                    cases kq with
                    | zero => exact absurd HA.out (by simp [dowserlaw01_VarintTakes.j5])
                    | succ kj177 =>
                      have H := HA.out
                      clear HA
                      simp only [dowserlaw01_VarintTakes.j5] at H
                      by_cases c180 : x106_177 = true
                      · subst c180
                        have H1 : ((varint_In_Err.f x249000_2 x249001_2).bind fun bt301 => (if bt301.1 = t259 then ((varint_In_Left.f bt301.2.1 bt301.2.2).bind fun bt304 => (if bt304.1 = (t258.size : Int) then ((varint_In_End.f bt304.2.1 bt304.2.2).bind fun bt307 => (some (bt307.1 == 3))) else (none))) else (none))) = some r := by rw [if_pos rfl] at H; exact H
                        clear H
                        have H := H1
                        clear H1
                        replace H := Option.bind_eq_some_iff.mp H
                        obtain ⟨⟨t301, t302, t303⟩, A1810, H⟩ := H
                        replace H : (if t301 = t259 then ((varint_In_Left.f t302 t303).bind fun bt304 => (if bt304.1 = (t258.size : Int) then ((varint_In_End.f bt304.2.1 bt304.2.2).bind fun bt307 => (some (bt307.1 == 3))) else (none))) else (none)) = some r := H
                        have A181 := Aside0.mk A1810
                        clear A1810
                        by_cases c182 : t301 = t259
                        · rw [if_pos c182] at H
                          have c182b0 : (t301 == t259) = true := beq_iff_eq.mpr c182
                          have c182b1 : (t301 != t259) = false := bne_eq_false_iff_eq.mpr c182
                          clear c182
                          replace H := Option.bind_eq_some_iff.mp H
                          obtain ⟨⟨t304, t305, t306⟩, A1830, H⟩ := H
                          replace H : (if t304 = (t258.size : Int) then ((varint_In_End.f t305 t306).bind fun bt307 => (some (bt307.1 == 3))) else (none)) = some r := H
                          have A183 := Aside0.mk A1830
                          clear A1830
                          by_cases c184 : t304 = (t258.size : Int)
                          · rw [if_pos c184] at H
                            have c184b0 : (t304 == (t258.size : Int)) = true := beq_iff_eq.mpr c184
                            have c184b1 : (t304 != (t258.size : Int)) = false := bne_eq_false_iff_eq.mpr c184
                            clear c184
                            replace H := Option.bind_eq_some_iff.mp H
                            obtain ⟨⟨t307, t308, t309⟩, A1850, H⟩ := H
                            replace H : (some (t307 == 3)) = some r := H
                            have A185 := Aside0.mk A1850
                            clear A1850
                            obtain rfl := Option.some.inj H
                            go_wp2_with (first | ((with_reducible refine gate_callee (f := 46) rfl ?_); refine goesL_ (some 108) rfl rfl Try.func46 (by kernel_rfl) rfl #[.pointer (some ⟨g248, 0, none⟩)] rfl (by (try simp only [List.map_toArray, List.map_cons, List.map_nil]); first | done | rfl | (simp only [List.length_drop, List.length_take]; rfl)) ?_; (with_reducible refine (varint_In_Err.calls g248 x249000_2 x249001_2 t301 t302 t303 w _ ?side1 ?side2 A181.out).mono ?_); (case side1 => repeat (first | (with_reducible first | exact HI248.out | apply IsS78.alloc | apply IsS78.drewN | apply IsS78.drew | apply IsS78.set_0 | apply IsS78.set_1) | exact HI248.out)); (case side2 => repeat (first | (with_reducible first | exact HB.out | apply below_alloc | apply pw_below_drewN | apply below_drew1 | refine below_set ?_ (IsS78.ge HI248.out)) | exact HB.out)); rintro e w186 ⟨rfl, hi, hb, hk⟩; refine ⟨_, rfl, ?_⟩; have n0_ := Aside0.mk (hb); have n1_ := Aside0.mk (hi); clear HB; clear HI248; have HB := n0_; have HI248 := n1_; clear n0_ n1_; (try clear hb); (try clear hb2); (try clear hk); (try clear hi)) | (go_at_call 50; (with_reducible refine (varint_In_Left.calls g248 t302 t303 t304 t305 t306 w _ ?side1 ?side2 A183.out).mono ?_); (case side1 => repeat (first | (with_reducible first | exact HI248.out | apply IsS78.alloc | apply IsS78.drewN | apply IsS78.drew | apply IsS78.set_0 | apply IsS78.set_1) | exact HI248.out)); (case side2 => repeat (first | (with_reducible first | exact HB.out | apply below_alloc | apply pw_below_drewN | apply below_drew1 | refine below_set ?_ (IsS78.ge HI248.out)) | exact HB.out)); rintro e w187 ⟨rfl, hi, hb, hk⟩; have n0_ := Aside0.mk (hb); have n1_ := Aside0.mk (hi); clear HB; clear HI248; have HB := n0_; have HI248 := n1_; clear n0_ n1_; (try clear hb); (try clear hb2); (try clear hk); (try clear hi)) | (go_at_call 32; (with_reducible refine (varint_In_End.calls g248 t305 t306 t307 t308 t309 w _ ?side1 ?side2 A185.out).mono ?_); (case side1 => repeat (first | (with_reducible first | exact HI248.out | apply IsS78.alloc | apply IsS78.drewN | apply IsS78.drew | apply IsS78.set_0 | apply IsS78.set_1) | exact HI248.out)); (case side2 => repeat (first | (with_reducible first | exact HB.out | apply below_alloc | apply pw_below_drewN | apply below_drew1 | refine below_set ?_ (IsS78.ge HI248.out)) | exact HB.out)); rintro e w188 ⟨rfl, hi, hb, hk⟩; have n0_ := Aside0.mk (hb); have n1_ := Aside0.mk (hi); clear HB; clear HI248; have HB := n0_; have HI248 := n1_; clear n0_ n1_; (try clear hb); (try clear hb2); (try clear hk); (try clear hi)))
                            go_ret
                            exact ⟨by first | rfl | (simp [errW_none, errW_some] <;> rfl) | (simp [*, errW_none, errW_some] <;> rfl), by repeat (first | (with_reducible first | exact HB.out | apply below_alloc | apply pw_below_drewN | apply below_drew1 | refine below_set ?_ (IsS78.ge HI248.out)) | exact HB.out)⟩
                          · rw [if_neg c184] at H
                            exact absurd H (by simp)
                        · rw [if_neg c182] at H
                          exact absurd H (by simp)
                      · replace c180 := Bool.eq_false_iff.mpr c180
                        subst c180
                        have H1 : ((varint_In_Err.f x249000_2 x249001_2).bind fun bt310 => (if bt310.1 = t259 then ((varint_In_Left.f bt310.2.1 bt310.2.2).bind fun bt313 => (if bt313.1 = (t258.size : Int) then ((varint_In_End.f bt313.2.1 bt313.2.2).bind fun bt316 => (some (bt316.1 == t259))) else (none))) else (none))) = some r := by rw [if_neg (show ¬ (false = true) by decide)] at H; exact H
                        clear H
                        have H := H1
                        clear H1
                        replace H := Option.bind_eq_some_iff.mp H
                        obtain ⟨⟨t310, t311, t312⟩, A1890, H⟩ := H
                        replace H : (if t310 = t259 then ((varint_In_Left.f t311 t312).bind fun bt313 => (if bt313.1 = (t258.size : Int) then ((varint_In_End.f bt313.2.1 bt313.2.2).bind fun bt316 => (some (bt316.1 == t259))) else (none))) else (none)) = some r := H
                        have A189 := Aside0.mk A1890
                        clear A1890
                        by_cases c190 : t310 = t259
                        · rw [if_pos c190] at H
                          have c190b0 : (t310 == t259) = true := beq_iff_eq.mpr c190
                          have c190b1 : (t310 != t259) = false := bne_eq_false_iff_eq.mpr c190
                          clear c190
                          replace H := Option.bind_eq_some_iff.mp H
                          obtain ⟨⟨t313, t314, t315⟩, A1910, H⟩ := H
                          replace H : (if t313 = (t258.size : Int) then ((varint_In_End.f t314 t315).bind fun bt316 => (some (bt316.1 == t259))) else (none)) = some r := H
                          have A191 := Aside0.mk A1910
                          clear A1910
                          by_cases c192 : t313 = (t258.size : Int)
                          · rw [if_pos c192] at H
                            have c192b0 : (t313 == (t258.size : Int)) = true := beq_iff_eq.mpr c192
                            have c192b1 : (t313 != (t258.size : Int)) = false := bne_eq_false_iff_eq.mpr c192
                            clear c192
                            replace H := Option.bind_eq_some_iff.mp H
                            obtain ⟨⟨t316, t317, t318⟩, A1930, H⟩ := H
                            replace H : (some (t316 == t259)) = some r := H
                            have A193 := Aside0.mk A1930
                            clear A1930
                            obtain rfl := Option.some.inj H
                            go_wp2_with (first | ((with_reducible refine gate_callee (f := 46) rfl ?_); refine goesL_ (some 108) rfl rfl Try.func46 (by kernel_rfl) rfl #[.pointer (some ⟨g248, 0, none⟩)] rfl (by (try simp only [List.map_toArray, List.map_cons, List.map_nil]); first | done | rfl | (simp only [List.length_drop, List.length_take]; rfl)) ?_; (with_reducible refine (varint_In_Err.calls g248 x249000_2 x249001_2 t310 t311 t312 w _ ?side1 ?side2 A189.out).mono ?_); (case side1 => repeat (first | (with_reducible first | exact HI248.out | apply IsS78.alloc | apply IsS78.drewN | apply IsS78.drew | apply IsS78.set_0 | apply IsS78.set_1) | exact HI248.out)); (case side2 => repeat (first | (with_reducible first | exact HB.out | apply below_alloc | apply pw_below_drewN | apply below_drew1 | refine below_set ?_ (IsS78.ge HI248.out)) | exact HB.out)); rintro e w194 ⟨rfl, hi, hb, hk⟩; refine ⟨_, rfl, ?_⟩; have n0_ := Aside0.mk (hb); have n1_ := Aside0.mk (hi); clear HB; clear HI248; have HB := n0_; have HI248 := n1_; clear n0_ n1_; (try clear hb); (try clear hb2); (try clear hk); (try clear hi)) | (go_at_call 50; (with_reducible refine (varint_In_Left.calls g248 t311 t312 t313 t314 t315 w _ ?side1 ?side2 A191.out).mono ?_); (case side1 => repeat (first | (with_reducible first | exact HI248.out | apply IsS78.alloc | apply IsS78.drewN | apply IsS78.drew | apply IsS78.set_0 | apply IsS78.set_1) | exact HI248.out)); (case side2 => repeat (first | (with_reducible first | exact HB.out | apply below_alloc | apply pw_below_drewN | apply below_drew1 | refine below_set ?_ (IsS78.ge HI248.out)) | exact HB.out)); rintro e w195 ⟨rfl, hi, hb, hk⟩; have n0_ := Aside0.mk (hb); have n1_ := Aside0.mk (hi); clear HB; clear HI248; have HB := n0_; have HI248 := n1_; clear n0_ n1_; (try clear hb); (try clear hb2); (try clear hk); (try clear hi)) | (go_at_call 32; (with_reducible refine (varint_In_End.calls g248 t314 t315 t316 t317 t318 w _ ?side1 ?side2 A193.out).mono ?_); (case side1 => repeat (first | (with_reducible first | exact HI248.out | apply IsS78.alloc | apply IsS78.drewN | apply IsS78.drew | apply IsS78.set_0 | apply IsS78.set_1) | exact HI248.out)); (case side2 => repeat (first | (with_reducible first | exact HB.out | apply below_alloc | apply pw_below_drewN | apply below_drew1 | refine below_set ?_ (IsS78.ge HI248.out)) | exact HB.out)); rintro e w196 ⟨rfl, hi, hb, hk⟩; have n0_ := Aside0.mk (hb); have n1_ := Aside0.mk (hi); clear HB; clear HI248; have HB := n0_; have HI248 := n1_; clear n0_ n1_; (try clear hb); (try clear hb2); (try clear hk); (try clear hi)))
                            go_ret
                            exact ⟨by first | rfl | (simp [errW_none, errW_some] <;> rfl) | (simp [*, errW_none, errW_some] <;> rfl), by repeat (first | (with_reducible first | exact HB.out | apply below_alloc | apply pw_below_drewN | apply below_drew1 | refine below_set ?_ (IsS78.ge HI248.out)) | exact HB.out)⟩
                          · rw [if_neg c192] at H
                            exact absurd H (by simp)
                        · rw [if_neg c190] at H
                          exact absurd H (by simp)
  · replace c4 := Bool.eq_false_iff.mpr c4
    subst c4
    have H1 : (none) = some r := by rw [if_neg (show ¬ (false = true) by decide)] at H; exact H
    clear H
    have H := H1
    clear H1
    exact absurd H (by simp)

def dowserlaw01_VarintTakes.Pure : Prop := ∀ (a0 : ByteArray) (l1 : List (S67)), a0.size ≤ 140737488351232 → (l1.length ≤ maxLen ∧ ∀ y319 ∈ l1, ((Lit.int .i64 y319.f0).wf = true ∧ (Lit.int .u64 y319.f1).wf = true ∧ (Lit.int .i64 y319.f2).wf = true)) → ∃ k, dowserlaw01_VarintTakes.f k a0 l1 = some true

end Go.Proofs.Ytfkgidiedpkbdaa.PT

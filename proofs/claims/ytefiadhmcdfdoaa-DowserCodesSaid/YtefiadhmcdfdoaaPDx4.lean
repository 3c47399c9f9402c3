-- Written by this session's own program wip/bin/dprint.py, over the kit's print.py, with own texts for some functions: no print of print.sh's
import Derived.WalkMore
import Derived.Test.YtefiadhmcdfdoaaPDx0
import Derived.Test.YtefiadhmcdfdoaaPDx1
import Derived.Test.YtefiadhmcdfdoaaPDx2
import Derived.Test.YtefiadhmcdfdoaaPDx3
namespace Go.Proofs.Ytefiadhmcdfdoaa.PD
open Go.RowKit Go.Proofs.YtefiadhmcdfdoaaW.PrintWords Go.Proofs.YtefiadhmcdfdoaaW.PrintLast Go.Proofs.YtefiadhmcdfdoaaW.PrintMore
attribute [local go_sem] max2_int min2_int max_two min_two max_three min_three max_four min_four   -- for this text's walks alone
set_option linter.unusedVariables false
set_option linter.unusedSimpArgs false

/-! ### request_Parse: function 16 -/
mutual
def request_Parse.j0 : Nat → Bool → ByteArray → Int → Int → ByteArray → Option (Int × (List (List Int)) × ByteArray × Int)
  | 0, _, _, _, _, _ => none
  | k + 1, x23, x164000, x164001, x168000, x168002 => if x23 = true then ((varint_In_Num.f k x164000 x164001 2147483647).bind fun bt171 => (if bt171.1 > 8 then ((varint_In_Fail.f bt171.2.1 bt171.2.2 4).bind fun bt174 => (request_Parse.j1 k 0 bt174.1 bt174.2 x168000 x168002)) else (request_Parse.j1 k bt171.1 bt171.2.1 bt171.2.2 x168000 x168002))) else ((varint_In_End.f x164000 x164001).bind fun bt197 => (if bt197.1 = 0 then (some (x168000, ([] : List (List Int)), x168002, 0)) else (some (0, ([] : List (List Int)), (⟨#[]⟩ : ByteArray), bt197.1))))
def request_Parse.j1 : Nat → Int → ByteArray → Int → Int → ByteArray → Option (Int × (List (List Int)) × ByteArray × Int)
  | 0, _, _, _, _, _ => none
  | k + 1, x6, x164000, x164001, x168000, x168002 => request_Parse.l0 k x6 0 x164000 x164001 x168000 ([] : List (List Int)) x168002
def request_Parse.j4 : Nat → ByteArray → Int → Int → List (List Int) → ByteArray → Option (Int × (List (List Int)) × ByteArray × Int)
  | 0, _, _, _, _, _ => none
  | k + 1, x164000, x164001, x168000, x168001, x168002 => (varint_In_Text.f k x164000 x164001 65536).bind fun bt191 => ((varint_In_End.f bt191.2.1 bt191.2.2).bind fun bt194 => (if bt194.1 = 0 then (some (x168000, x168001, bt191.1, 0)) else (some (0, ([] : List (List Int)), (⟨#[]⟩ : ByteArray), bt194.1))))
def request_Parse.l0 : Nat → Int → Int → ByteArray → Int → Int → List (List Int) → ByteArray → Option (Int × (List (List Int)) × ByteArray × Int)
  | 0, _, _, _, _, _, _, _ => none
  | k + 1, x30, x31, x164000, x164001, x168000, x168001, x168002 => if x31 < x30 then ((varint_In_Num.f k x164000 x164001 2147483647).bind fun bt176 => (request_Parse.l1 k ([] : List Int) bt176.1 x30 x31 bt176.2.1 bt176.2.2 x168000 x168001 x168002)) else (request_Parse.j4 k x164000 x164001 x168000 x168001 x168002)
def request_Parse.l1 : Nat → List Int → Int → Int → Int → ByteArray → Int → Int → List (List Int) → ByteArray → Option (Int × (List (List Int)) × ByteArray × Int)
  | 0, _, _, _, _, _, _, _, _, _ => none
  | k + 1, x7, x8, x30, x31, x164000, x164001, x168000, x168001, x168002 => if x8 > 0 then ((varint_In_Num.f k x164000 x164001 2147483647).bind fun bt182 => (if x7.length < 17592186044416 then ((varint_In_Err.f bt182.2.1 bt182.2.2).bind fun bt188 => (if bt188.1 = 0 then (request_Parse.l1 k (x7 ++ [wrap64 (bt182.1)]) (IntKind.u64.wrap (x8 - 1)) x30 x31 bt188.2.1 bt188.2.2 x168000 x168001 x168002) else (request_Parse.j4 k bt188.2.1 bt188.2.2 x168000 x168001 x168002))) else (none))) else (if x168001.length < 5864062014805 then (request_Parse.l0 k x30 (IntKind.u64.wrap (x31 + 1)) x164000 x164001 x168000 (x168001 ++ [x7]) x168002) else (none))
end
def request_Parse.f (k : Nat) (a0 : ByteArray) : Option (Int × (List (List Int)) × ByteArray × Int) := (varint_Of.f a0).bind fun bt161 => ((varint_In_Num.f k bt161.1 bt161.2 255).bind fun bt164 => ((varint_In_Err.f bt164.2.1 bt164.2.2).bind fun bt168 => (if bt168.1 = 0 then (request_Parse.j0 k ((wrap64 (bt164.1)) == 0) bt168.2.1 bt168.2.2 (wrap64 (bt164.1)) (⟨#[]⟩ : ByteArray)) else (request_Parse.j0 k false bt168.2.1 bt168.2.2 (wrap64 (bt164.1)) (⟨#[]⟩ : ByteArray)))))
theorem request_Parse.mono_l : ∀ k, (∀ y0 y1 y2 y3 y4, LeO (request_Parse.j0 k y0 y1 y2 y3 y4) (request_Parse.j0 (k + 1) y0 y1 y2 y3 y4)) ∧ (∀ y0 y1 y2 y3 y4, LeO (request_Parse.j1 k y0 y1 y2 y3 y4) (request_Parse.j1 (k + 1) y0 y1 y2 y3 y4)) ∧ (∀ y0 y1 y2 y3 y4, LeO (request_Parse.j4 k y0 y1 y2 y3 y4) (request_Parse.j4 (k + 1) y0 y1 y2 y3 y4)) ∧ (∀ y0 y1 y2 y3 y4 y5 y6, LeO (request_Parse.l0 k y0 y1 y2 y3 y4 y5 y6) (request_Parse.l0 (k + 1) y0 y1 y2 y3 y4 y5 y6)) ∧ (∀ y0 y1 y2 y3 y4 y5 y6 y7 y8, LeO (request_Parse.l1 k y0 y1 y2 y3 y4 y5 y6 y7 y8) (request_Parse.l1 (k + 1) y0 y1 y2 y3 y4 y5 y6 y7 y8))
  | 0 => ⟨fun _ _ _ _ _ r h => by simp [request_Parse.j0] at h, fun _ _ _ _ _ r h => by simp [request_Parse.j1] at h, fun _ _ _ _ _ r h => by simp [request_Parse.j4] at h, fun _ _ _ _ _ _ _ r h => by simp [request_Parse.l0] at h, fun _ _ _ _ _ _ _ _ _ r h => by simp [request_Parse.l1] at h⟩
  | k + 1 => by
    obtain ⟨ih0, ih1, ih2, ih3, ih4⟩ := request_Parse.mono_l k
    refine ⟨?_, ?_, ?_, ?_, ?_⟩
    · intro y0 y1 y2 y3 y4
      unfold request_Parse.j0
      repeat' first
      | (with_reducible exact ih0 _ _ _ _ _)
      | (with_reducible exact ih1 _ _ _ _ _)
      | (with_reducible exact ih2 _ _ _ _ _)
      | (with_reducible exact ih3 _ _ _ _ _ _ _)
      | (with_reducible exact ih4 _ _ _ _ _ _ _ _ _)
      | (with_reducible exact varint_In_Num.mono _ _ _ _)
      | (with_reducible exact varint_In_Text.mono _ _ _ _)
      | (with_reducible exact LeO.refl _)
      | (with_reducible exact LeO.none _)
      | (with_reducible refine LeO.ite ?_ ?_)
      | (with_reducible refine LeO.bind ?_ (fun _ => ?_))
      | exact ih0 _ _ _ _ _
      | exact ih1 _ _ _ _ _
      | exact ih2 _ _ _ _ _
      | exact ih3 _ _ _ _ _ _ _
      | exact ih4 _ _ _ _ _ _ _ _ _
      | exact varint_In_Num.mono _ _ _ _
      | exact varint_In_Text.mono _ _ _ _
      | exact LeO.none _
      | refine LeO.ite ?_ ?_
      | refine LeO.bind ?_ (fun _ => ?_)
    · intro y0 y1 y2 y3 y4
      unfold request_Parse.j1
      repeat' first
      | (with_reducible exact ih0 _ _ _ _ _)
      | (with_reducible exact ih1 _ _ _ _ _)
      | (with_reducible exact ih2 _ _ _ _ _)
      | (with_reducible exact ih3 _ _ _ _ _ _ _)
      | (with_reducible exact ih4 _ _ _ _ _ _ _ _ _)
      | (with_reducible exact varint_In_Num.mono _ _ _ _)
      | (with_reducible exact varint_In_Text.mono _ _ _ _)
      | (with_reducible exact LeO.refl _)
      | (with_reducible exact LeO.none _)
      | (with_reducible refine LeO.ite ?_ ?_)
      | (with_reducible refine LeO.bind ?_ (fun _ => ?_))
      | exact ih0 _ _ _ _ _
      | exact ih1 _ _ _ _ _
      | exact ih2 _ _ _ _ _
      | exact ih3 _ _ _ _ _ _ _
      | exact ih4 _ _ _ _ _ _ _ _ _
      | exact varint_In_Num.mono _ _ _ _
      | exact varint_In_Text.mono _ _ _ _
      | exact LeO.none _
      | refine LeO.ite ?_ ?_
      | refine LeO.bind ?_ (fun _ => ?_)
    · intro y0 y1 y2 y3 y4
      unfold request_Parse.j4
      repeat' first
      | (with_reducible exact ih0 _ _ _ _ _)
      | (with_reducible exact ih1 _ _ _ _ _)
      | (with_reducible exact ih2 _ _ _ _ _)
      | (with_reducible exact ih3 _ _ _ _ _ _ _)
      | (with_reducible exact ih4 _ _ _ _ _ _ _ _ _)
      | (with_reducible exact varint_In_Num.mono _ _ _ _)
      | (with_reducible exact varint_In_Text.mono _ _ _ _)
      | (with_reducible exact LeO.refl _)
      | (with_reducible exact LeO.none _)
      | (with_reducible refine LeO.ite ?_ ?_)
      | (with_reducible refine LeO.bind ?_ (fun _ => ?_))
      | exact ih0 _ _ _ _ _
      | exact ih1 _ _ _ _ _
      | exact ih2 _ _ _ _ _
      | exact ih3 _ _ _ _ _ _ _
      | exact ih4 _ _ _ _ _ _ _ _ _
      | exact varint_In_Num.mono _ _ _ _
      | exact varint_In_Text.mono _ _ _ _
      | exact LeO.none _
      | refine LeO.ite ?_ ?_
      | refine LeO.bind ?_ (fun _ => ?_)
    · intro y0 y1 y2 y3 y4 y5 y6
      unfold request_Parse.l0
      repeat' first
      | (with_reducible exact ih0 _ _ _ _ _)
      | (with_reducible exact ih1 _ _ _ _ _)
      | (with_reducible exact ih2 _ _ _ _ _)
      | (with_reducible exact ih3 _ _ _ _ _ _ _)
      | (with_reducible exact ih4 _ _ _ _ _ _ _ _ _)
      | (with_reducible exact varint_In_Num.mono _ _ _ _)
      | (with_reducible exact varint_In_Text.mono _ _ _ _)
      | (with_reducible exact LeO.refl _)
      | (with_reducible exact LeO.none _)
      | (with_reducible refine LeO.ite ?_ ?_)
      | (with_reducible refine LeO.bind ?_ (fun _ => ?_))
      | exact ih0 _ _ _ _ _
      | exact ih1 _ _ _ _ _
      | exact ih2 _ _ _ _ _
      | exact ih3 _ _ _ _ _ _ _
      | exact ih4 _ _ _ _ _ _ _ _ _
      | exact varint_In_Num.mono _ _ _ _
      | exact varint_In_Text.mono _ _ _ _
      | exact LeO.none _
      | refine LeO.ite ?_ ?_
      | refine LeO.bind ?_ (fun _ => ?_)
    · intro y0 y1 y2 y3 y4 y5 y6 y7 y8
      unfold request_Parse.l1
      repeat' first
      | (with_reducible exact ih0 _ _ _ _ _)
      | (with_reducible exact ih1 _ _ _ _ _)
      | (with_reducible exact ih2 _ _ _ _ _)
      | (with_reducible exact ih3 _ _ _ _ _ _ _)
      | (with_reducible exact ih4 _ _ _ _ _ _ _ _ _)
      | (with_reducible exact varint_In_Num.mono _ _ _ _)
      | (with_reducible exact varint_In_Text.mono _ _ _ _)
      | (with_reducible exact LeO.refl _)
      | (with_reducible exact LeO.none _)
      | (with_reducible refine LeO.ite ?_ ?_)
      | (with_reducible refine LeO.bind ?_ (fun _ => ?_))
      | exact ih0 _ _ _ _ _
      | exact ih1 _ _ _ _ _
      | exact ih2 _ _ _ _ _
      | exact ih3 _ _ _ _ _ _ _
      | exact ih4 _ _ _ _ _ _ _ _ _
      | exact varint_In_Num.mono _ _ _ _
      | exact varint_In_Text.mono _ _ _ _
      | exact LeO.none _
      | refine LeO.ite ?_ ?_
      | refine LeO.bind ?_ (fun _ => ?_)
theorem request_Parse.mono : ∀ a0 k, LeO (request_Parse.f k a0) (request_Parse.f (k + 1) a0) := by
  intro a0 k
  obtain ⟨ih0, ih1, ih2, ih3, ih4⟩ := request_Parse.mono_l k
  unfold request_Parse.f
  repeat' first
      | (with_reducible exact ih0 _ _ _ _ _)
      | (with_reducible exact ih1 _ _ _ _ _)
      | (with_reducible exact ih2 _ _ _ _ _)
      | (with_reducible exact ih3 _ _ _ _ _ _ _)
      | (with_reducible exact ih4 _ _ _ _ _ _ _ _ _)
      | (with_reducible exact varint_In_Num.mono _ _ _ _)
      | (with_reducible exact varint_In_Text.mono _ _ _ _)
      | (with_reducible exact LeO.refl _)
      | (with_reducible exact LeO.none _)
      | (with_reducible refine LeO.ite ?_ ?_)
      | (with_reducible refine LeO.bind ?_ (fun _ => ?_))
      | exact ih0 _ _ _ _ _
      | exact ih1 _ _ _ _ _
      | exact ih2 _ _ _ _ _
      | exact ih3 _ _ _ _ _ _ _
      | exact ih4 _ _ _ _ _ _ _ _ _
      | exact varint_In_Num.mono _ _ _ _
      | exact varint_In_Text.mono _ _ _ _
      | exact LeO.none _
      | refine LeO.ite ?_ ?_
      | refine LeO.bind ?_ (fun _ => ?_)
set_option maxHeartbeats 40000000 in
set_option maxRecDepth 100000 in
theorem request_Parse.calls (k : Nat) (a0 : ByteArray) (r1 : Int) (r2 : List (List Int)) (r3 : ByteArray) (r4 : Int) (w : World) (h : request_Parse.f k a0 = some (r1, r2, r3, r4)) :
    Calls Try.prog 16 #[.string a0] w fun e w' => ∃ v1_ : Value, e = .returned (.tuple #[.agg #[.int .i64 r1, v1_, .string r3], .int .i64 r4]) ∧ Kd.S (Kd.slice 3 (Kd.int .i64)) 22 w' w.heap.size (fun _ => True) v1_ r2 ∧ Below w.heap.size w w' := by
  have hu37 := Try.underlying37
  have HB := Aside0.mk (Below.refl w.heap.size w)
  have H : ((varint_Of.f a0).bind fun bt161 => ((varint_In_Num.f k bt161.1 bt161.2 255).bind fun bt164 => ((varint_In_Err.f bt164.2.1 bt164.2.2).bind fun bt168 => (if bt168.1 = 0 then (request_Parse.j0 k ((wrap64 (bt164.1)) == 0) bt168.2.1 bt168.2.2 (wrap64 (bt164.1)) (⟨#[]⟩ : ByteArray)) else (request_Parse.j0 k false bt168.2.1 bt168.2.2 (wrap64 (bt164.1)) (⟨#[]⟩ : ByteArray)))))) = some (r1, r2, r3, r4) := h
  clear h
  replace H := Option.bind_eq_some_iff.mp H
  obtain ⟨⟨t161, t162⟩, A20, H⟩ := H
  replace H : ((varint_In_Num.f k t161 t162 255).bind fun bt164 => ((varint_In_Err.f bt164.2.1 bt164.2.2).bind fun bt168 => (if bt168.1 = 0 then (request_Parse.j0 k ((wrap64 (bt164.1)) == 0) bt168.2.1 bt168.2.2 (wrap64 (bt164.1)) (⟨#[]⟩ : ByteArray)) else (request_Parse.j0 k false bt168.2.1 bt168.2.2 (wrap64 (bt164.1)) (⟨#[]⟩ : ByteArray))))) = some (r1, r2, r3, r4) := H
  have A2 := Aside0.mk A20
  clear A20
  replace H := Option.bind_eq_some_iff.mp H
  obtain ⟨⟨t164, t165, t166⟩, A30, H⟩ := H
  replace H : ((varint_In_Err.f t165 t166).bind fun bt168 => (if bt168.1 = 0 then (request_Parse.j0 k ((wrap64 (t164)) == 0) bt168.2.1 bt168.2.2 (wrap64 (t164)) (⟨#[]⟩ : ByteArray)) else (request_Parse.j0 k false bt168.2.1 bt168.2.2 (wrap64 (t164)) (⟨#[]⟩ : ByteArray)))) = some (r1, r2, r3, r4) := H
  have A3 := Aside0.mk A30
  clear A30
  have HC4 := Aside0.mk H
  clear H
  go_enter Try.func16, Try.ntmps16
  go_upto_region 3 with (first | (go_step3) | (rw [Exit.noGoto_normal]) | (rw [Exit.noGoto_exit]) | (rw [Exit.noGoto_ret]) | ((with_reducible refine gate_dst (N := 2) rfl ?_); refine box_event ?hg (N := 2) ?hd (cs := #[.int .i64 0, .slice none 0 0, .string (⟨#[]⟩ : ByteArray)]) (t := 37) ?hr ?_; (case hd => rfl); (case hg => rfl); (case hr => first | (go_simp; done) | (go_simp; rfl)); intro gb160 hg w5 hbox hb; have n0_ := Aside0.mk (below_step (by repeat (first | (with_reducible first | exact HB.out | apply below_alloc | apply pw_below_drewN | apply below_drew1) | exact HB.out)) hb); have n1_ := Aside0.mk (hbox); have n2_ := Aside0.mk ((by rw [hg]; exact (below_size (by repeat (first | (with_reducible first | exact HB.out | apply below_alloc | apply pw_below_drewN | apply below_drew1) | exact HB.out))) : w.heap.size ≤ gb160)); have n3_ := Aside0.mk ((by rw [hg]; exact (below_size (by repeat (first | (with_reducible first | exact HB.out | apply below_alloc | apply pw_below_drewN | apply below_drew1) | exact HB.out))) : w.heap.size ≤ gb160)); clear HB; have HB := n0_; have BK160 := n1_; have GW160 := n2_; have GE160 := n3_; clear n0_ n1_ n2_ n3_; clear hb hbox hg) | ((with_reducible refine gate_callee (f := 32) rfl ?_); refine goesL_ (some 11) rfl rfl Try.func32 (by kernel_rfl) rfl #[.string a0] rfl (by (try simp only [List.map_toArray, List.map_cons, List.map_nil]); first | done | rfl | (simp only [List.length_drop, List.length_take]; rfl)) ?_; (with_reducible refine (varint_Of.calls a0 t161 t162 w _ ?side1 A2.out).mono ?_); (case side1 => repeat (first | (with_reducible first | exact HB.out | apply below_alloc | apply pw_below_drewN | apply below_drew1 | refine below_set ?_ GE160.out) | exact HB.out)); rintro e w6 ⟨g163, rfl, hi, hb, hb2⟩; refine ⟨_, rfl, ?_⟩; have n0_ := Aside0.mk (blk_below (g := gb160) (o := .cells #[.int .i64 0, .slice none 0 0, .string (⟨#[]⟩ : ByteArray)] 37 (0, 0)) (by (with_reducible repeat (first | refine blk_drewN ?_ _ | refine blk_drew ?_ | refine blk_alloc ?_ _)); exact BK160.out) hb2); have n1_ := Aside0.mk (hb); have n2_ := Aside0.mk (hi); have n3_ := Aside0.mk (IsS80.ne_blk hi (blk_below (g := gb160) (o := .cells #[.int .i64 0, .slice none 0 0, .string (⟨#[]⟩ : ByteArray)] 37 (0, 0)) (by (with_reducible repeat (first | refine blk_drewN ?_ _ | refine blk_drew ?_ | refine blk_alloc ?_ _)); exact BK160.out) hb2) (by decide)); have n4_ := Aside0.mk (Ne.symm (IsS80.ne_blk hi (blk_below (g := gb160) (o := .cells #[.int .i64 0, .slice none 0 0, .string (⟨#[]⟩ : ByteArray)] 37 (0, 0)) (by (with_reducible repeat (first | refine blk_drewN ?_ _ | refine blk_drew ?_ | refine blk_alloc ?_ _)); exact BK160.out) hb2) (by decide))); clear BK160; clear HB; have BK160 := n0_; have HB := n1_; have HI163 := n2_; have NB163_160 := n3_; have NB160_163 := n4_; clear n0_ n1_ n2_ n3_ n4_; (try clear hb); (try clear hb2); (try clear hk); (try clear hi)) | ((with_reducible refine gate_callee (f := 33) rfl ?_); refine goesL_ (some 13) rfl rfl Try.func33 (by kernel_rfl) rfl #[.pointer (some ⟨g163, 0, none⟩), .int .u64 255] rfl (by (try simp only [List.map_toArray, List.map_cons, List.map_nil]); first | done | rfl | (simp only [List.length_drop, List.length_take]; rfl)) ?_; (with_reducible refine (varint_In_Num.calls k g163 t161 t162 255 t164 t165 t166 w _ ?side1 ?side2 A3.out).mono ?_); (case side1 => repeat (first | (with_reducible first | exact HI163.out | apply IsS80.alloc | apply IsS80.drewN | apply IsS80.drew | apply IsS80.set_0 | apply IsS80.set_1 | refine IsS80.far ?_ NB163_160.out _) | exact HI163.out)); (case side2 => repeat (first | (with_reducible first | exact HB.out | apply below_alloc | apply pw_below_drewN | apply below_drew1 | refine below_set ?_ (IsS80.ge HI163.out) | refine below_set ?_ GE160.out) | exact HB.out)); rintro e w7 ⟨rfl, hi, hb, hk⟩; refine ⟨_, rfl, ?_⟩; have n0_ := Aside0.mk (KeepBut.blk hk (g' := gb160) (o := .cells #[.int .i64 0, .slice none 0 0, .string (⟨#[]⟩ : ByteArray)] 37 (0, 0)) (by (with_reducible repeat (first | refine blk_drewN ?_ _ | refine blk_drew ?_ | refine blk_alloc ?_ _)); exact BK160.out) NB160_163.out (by simp)); have n1_ := Aside0.mk (hb); have n2_ := Aside0.mk (hi); clear BK160; clear HB; clear HI163; have BK160 := n0_; have HB := n1_; have HI163 := n2_; clear n0_ n1_ n2_; (try clear hb); (try clear hb2); (try clear hk); (try clear hi)) | ((with_reducible refine gate_dst (N := 5) rfl ?_); refine box_event ?hg (N := 5) ?hd (cs := #[.int .i64 0, .slice none 0 0, .string (⟨#[]⟩ : ByteArray)]) (t := 37) ?hr ?_; (case hd => rfl); (case hg => rfl); (case hr => first | (go_simp; done) | (go_simp; rfl)); intro gb167 hg w8 hbox hb; have n0_ := Aside0.mk (blk_below (g := gb160) (o := .cells #[.int .i64 0, .slice none 0 0, .string (⟨#[]⟩ : ByteArray)] 37 (0, 0)) (by (with_reducible repeat (first | refine blk_drewN ?_ _ | refine blk_drew ?_ | refine blk_alloc ?_ _)); exact BK160.out) hb); have n1_ := Aside0.mk (IsS80.below (by repeat (first | (with_reducible first | exact HI163.out | apply IsS80.alloc | apply IsS80.drewN | apply IsS80.drew | apply IsS80.set_0 | apply IsS80.set_1 | refine IsS80.far ?_ NB163_160.out _) | exact HI163.out)) hb); have n2_ := Aside0.mk (below_step (by repeat (first | (with_reducible first | exact HB.out | apply below_alloc | apply pw_below_drewN | apply below_drew1 | refine below_set ?_ (IsS80.ge HI163.out) | refine below_set ?_ GE160.out) | exact HB.out)) hb); have n3_ := Aside0.mk (hbox); have n4_ := Aside0.mk ((by rw [hg]; exact (below_size (by repeat (first | (with_reducible first | exact HB.out | apply below_alloc | apply pw_below_drewN | apply below_drew1 | refine below_set ?_ (IsS80.ge HI163.out) | refine below_set ?_ GE160.out) | exact HB.out))) : w.heap.size ≤ gb167)); have n5_ := Aside0.mk ((by rw [hg]; exact (below_size (by repeat (first | (with_reducible first | exact HB.out | apply below_alloc | apply pw_below_drewN | apply below_drew1 | refine below_set ?_ (IsS80.ge HI163.out) | refine below_set ?_ GE160.out) | exact HB.out))) : w.heap.size ≤ gb167)); have n6_ := Aside0.mk ((by rw [hg]; exact Nat.ne_of_lt (blk_lt (g := gb160) (o := .cells #[.int .i64 0, .slice none 0 0, .string (⟨#[]⟩ : ByteArray)] 37 (0, 0)) (by (with_reducible repeat (first | refine blk_drewN ?_ _ | refine blk_drew ?_ | refine blk_alloc ?_ _)); exact BK160.out)) : gb160 ≠ gb167)); have n7_ := Aside0.mk ((by rw [hg]; exact Nat.ne_of_gt (blk_lt (g := gb160) (o := .cells #[.int .i64 0, .slice none 0 0, .string (⟨#[]⟩ : ByteArray)] 37 (0, 0)) (by (with_reducible repeat (first | refine blk_drewN ?_ _ | refine blk_drew ?_ | refine blk_alloc ?_ _)); exact BK160.out)) : gb167 ≠ gb160)); have n8_ := Aside0.mk ((by rw [hg]; exact Nat.ne_of_lt (IsS80.lt (show IsS80 w _ g163 t165 t166 from by repeat (first | (with_reducible first | exact HI163.out | apply IsS80.alloc | apply IsS80.drewN | apply IsS80.drew | apply IsS80.set_0 | apply IsS80.set_1 | refine IsS80.far ?_ NB163_160.out _) | exact HI163.out))) : g163 ≠ gb167)); have n9_ := Aside0.mk ((by rw [hg]; exact Nat.ne_of_gt (IsS80.lt (show IsS80 w _ g163 t165 t166 from by repeat (first | (with_reducible first | exact HI163.out | apply IsS80.alloc | apply IsS80.drewN | apply IsS80.drew | apply IsS80.set_0 | apply IsS80.set_1 | refine IsS80.far ?_ NB163_160.out _) | exact HI163.out))) : gb167 ≠ g163)); clear BK160; clear HI163; clear HB; have BK160 := n0_; have HI163 := n1_; have HB := n2_; have BK167 := n3_; have GW167 := n4_; have GE167 := n5_; have NB160_167 := n6_; have NB167_160 := n7_; have NB163_167 := n8_; have NB167_163 := n9_; clear n0_ n1_ n2_ n3_ n4_ n5_ n6_ n7_ n8_ n9_; clear hb hbox hg; have hnb9 := NB167_160.out; have hnc9 := NB160_167.out; have hnb10 := NB167_163.out; have hnc10 := NB163_167.out; have hcz11_0 : w8.cell? ⟨gb167, 0, none⟩ = some (.int .i64 0) := (blk_cell BK167.out 0).trans rfl; have hcz11_1 : w8.cell? ⟨gb167, 1, none⟩ = some (.slice none 0 0) := (blk_cell BK167.out 1).trans rfl; have hcz11_2 : w8.cell? ⟨gb167, 2, none⟩ = some (.string (⟨#[]⟩ : ByteArray)) := (blk_cell BK167.out 2).trans rfl; have hfz11_0 := blk_frozen BK167.out 0; have hfz11_1 := blk_frozen BK167.out 1; have hfz11_2 := blk_frozen BK167.out 2))
  (try simp only [Act.put, List.setIfInBounds_toArray, List.set_cons_zero, List.set_cons_succ])
  go_cut [23] (fun v23 wc => ∃ (kq : Nat) (x23_3 : Bool) (x164000_3 : ByteArray) (x164001_3 : Int), v23 = .bool x23_3 ∧ Aside0 (request_Parse.j0 kq x23_3 x164000_3 x164001_3 (wrap64 (t164)) (⟨#[]⟩ : ByteArray) = some (r1, r2, r3, r4)) ∧ Aside0 (kq ≤ k) ∧ Aside0 (wc.heap[gb160]? = some (.cells #[.int .i64 0, (.slice none 0 0), .string (⟨#[]⟩ : ByteArray)] 37 (0, 0))) ∧ Aside0 (wc.heap[gb167]? = some (.cells #[.int .i64 (wrap64 (t164)), (.slice none 0 0), .string (⟨#[]⟩ : ByteArray)] 37 (0, 0))) ∧ Aside0 (IsS80 w wc g163 x164000_3 x164001_3) ∧ Aside0 (Below w.heap.size w wc))
  case first =>
    have H := HC4.out
    clear HC4
    replace H := Option.bind_eq_some_iff.mp H
    obtain ⟨⟨t168, t169, t170⟩, A120, H⟩ := H
    replace H : (if t168 = 0 then (request_Parse.j0 k ((wrap64 (t164)) == 0) t169 t170 (wrap64 (t164)) (⟨#[]⟩ : ByteArray)) else (request_Parse.j0 k false t169 t170 (wrap64 (t164)) (⟨#[]⟩ : ByteArray))) = some (r1, r2, r3, r4) := H
    have A12 := Aside0.mk A120
    clear A120
    by_cases c13 : t168 = 0
    · rw [if_pos c13] at H
      have c13b0 : (t168 == 0) = true := beq_iff_eq.mpr c13
      have c13b1 : (t168 != 0) = false := bne_eq_false_iff_eq.mpr c13
      clear c13
      (first | rw [c13b0] | (simp only [i64_w, i32_w]; rw [c13b0]) | skip)
      have H' := Aside0.mk H
      clear H
      go_wp2_with (first | (go_step3) | (rw [Exit.noGoto_normal]) | (rw [Exit.noGoto_exit]) | (rw [Exit.noGoto_ret]) | ((with_reducible refine gate_callee (f := 34) rfl ?_); refine goesL_ (some 17) rfl rfl Try.func34 (by kernel_rfl) rfl #[.pointer (some ⟨g163, 0, none⟩)] rfl (by (try simp only [List.map_toArray, List.map_cons, List.map_nil]); first | done | rfl | (simp only [List.length_drop, List.length_take]; rfl)) ?_; (with_reducible refine (varint_In_Err.calls g163 t165 t166 t168 t169 t170 w _ ?side1 ?side2 A12.out).mono ?_); (case side1 => repeat (first | (with_reducible first | exact HI163.out | apply IsS80.alloc | apply IsS80.drewN | apply IsS80.drew | apply IsS80.set_0 | apply IsS80.set_1 | refine IsS80.far ?_ NB163_160.out _ | refine IsS80.far ?_ NB163_167.out _) | exact HI163.out)); (case side2 => repeat (first | (with_reducible first | exact HB.out | apply below_alloc | apply pw_below_drewN | apply below_drew1 | refine below_set ?_ (IsS80.ge HI163.out) | refine below_set ?_ GE160.out | refine below_set ?_ GE167.out) | exact HB.out)); rintro e w14 ⟨rfl, hi, hb, hk⟩; refine ⟨_, rfl, ?_⟩; have n0_ := Aside0.mk (KeepBut.blk hk (g' := gb160) (o := .cells #[.int .i64 0, .slice none 0 0, .string (⟨#[]⟩ : ByteArray)] 37 (0, 0)) (by (with_reducible repeat (first | refine blk_drewN ?_ _ | refine blk_drew ?_ | refine blk_alloc ?_ _)); refine blk_far ?_ NB160_167.out _; (with_reducible repeat (first | refine blk_drewN ?_ _ | refine blk_drew ?_ | refine blk_alloc ?_ _)); refine blk_far ?_ NB160_167.out _; (with_reducible repeat (first | refine blk_drewN ?_ _ | refine blk_drew ?_ | refine blk_alloc ?_ _)); refine blk_far ?_ NB160_167.out _; (with_reducible repeat (first | refine blk_drewN ?_ _ | refine blk_drew ?_ | refine blk_alloc ?_ _)); exact BK160.out) NB160_163.out (by simp)); have n1_ := Aside0.mk (KeepBut.blk hk (g' := gb167) (o := .cells #[.int .i64 (wrap64 (t164)), .slice none 0 0, .string (⟨#[]⟩ : ByteArray)] 37 (0, 0)) (by (with_reducible repeat (first | refine blk_drewN ?_ _ | refine blk_drew ?_ | refine blk_alloc ?_ _)); refine blk_put (cs := #[.int .i64 (wrap64 (t164)), .slice none 0 0, .string (⟨#[]⟩ : ByteArray)]) ?_ 2 _ rfl; (with_reducible repeat (first | refine blk_drewN ?_ _ | refine blk_drew ?_ | refine blk_alloc ?_ _)); refine blk_put (cs := #[.int .i64 (wrap64 (t164)), .slice none 0 0, .string (⟨#[]⟩ : ByteArray)]) ?_ 1 _ rfl; (with_reducible repeat (first | refine blk_drewN ?_ _ | refine blk_drew ?_ | refine blk_alloc ?_ _)); refine blk_put (cs := #[.int .i64 0, .slice none 0 0, .string (⟨#[]⟩ : ByteArray)]) ?_ 0 _ rfl; (with_reducible repeat (first | refine blk_drewN ?_ _ | refine blk_drew ?_ | refine blk_alloc ?_ _)); exact BK167.out) NB167_163.out (by simp)); have n2_ := Aside0.mk (hb); have n3_ := Aside0.mk (hi); clear BK160; clear BK167; clear HB; clear HI163; have BK160 := n0_; have BK167 := n1_; have HB := n2_; have HI163 := n3_; clear n0_ n1_ n2_ n3_; (try clear hb); (try clear hb2); (try clear hk); (try clear hi); have hnb15 := NB167_160.out; have hnc15 := NB160_167.out; have hnb16 := NB167_163.out; have hnc16 := NB163_167.out; have hcz17_0 : w14.cell? ⟨gb167, 0, none⟩ = some (.int .i64 (wrap64 (t164))) := (blk_cell BK167.out 0).trans rfl; have hcz17_1 : w14.cell? ⟨gb167, 1, none⟩ = some (.slice none 0 0) := (blk_cell BK167.out 1).trans rfl; have hcz17_2 : w14.cell? ⟨gb167, 2, none⟩ = some (.string (⟨#[]⟩ : ByteArray)) := (blk_cell BK167.out 2).trans rfl; have hfz17_0 := blk_frozen BK167.out 0; have hfz17_1 := blk_frozen BK167.out 1; have hfz17_2 := blk_frozen BK167.out 2))
      go_meet
      case rel => exact ⟨_, (((wrap64 (t164)) == 0)), (t169), (t170), (by first | rfl | (simp; done) | (simp [*]; done) | (simp; rw [Bool.eq_iff_iff]; simp; done)), H', ⟨by first | omega | exact Nat.le_refl _⟩, ⟨by (with_reducible repeat (first | refine blk_drewN ?_ _ | refine blk_drew ?_ | refine blk_alloc ?_ _)); exact BK160.out⟩, ⟨by (with_reducible repeat (first | refine blk_drewN ?_ _ | refine blk_drew ?_ | refine blk_alloc ?_ _)); exact BK167.out⟩, ⟨by repeat (first | (with_reducible first | exact HI163.out | apply IsS80.alloc | apply IsS80.drewN | apply IsS80.drew | apply IsS80.set_0 | apply IsS80.set_1 | refine IsS80.far ?_ NB163_160.out _ | refine IsS80.far ?_ NB163_167.out _) | exact HI163.out)⟩, ⟨by repeat (first | (with_reducible first | exact HB.out | apply below_alloc | apply pw_below_drewN | apply below_drew1 | refine below_set ?_ (IsS80.ge HI163.out) | refine below_set ?_ GE160.out | refine below_set ?_ GE167.out) | exact HB.out)⟩⟩
    · rw [if_neg c13] at H
      have c13b0 : (t168 == 0) = false := beq_eq_false_iff_ne.mpr c13
      have c13b1 : (t168 != 0) = true := bne_iff_ne.mpr c13
      (first | rw [c13b0] | (simp only [i64_w, i32_w]; rw [c13b0]) | skip)
      have H' := Aside0.mk H
      clear H
      go_wp2_with (first | (go_step3) | (rw [Exit.noGoto_normal]) | (rw [Exit.noGoto_exit]) | (rw [Exit.noGoto_ret]) | ((with_reducible refine gate_callee (f := 34) rfl ?_); refine goesL_ (some 17) rfl rfl Try.func34 (by kernel_rfl) rfl #[.pointer (some ⟨g163, 0, none⟩)] rfl (by (try simp only [List.map_toArray, List.map_cons, List.map_nil]); first | done | rfl | (simp only [List.length_drop, List.length_take]; rfl)) ?_; (with_reducible refine (varint_In_Err.calls g163 t165 t166 t168 t169 t170 w _ ?side1 ?side2 A12.out).mono ?_); (case side1 => repeat (first | (with_reducible first | exact HI163.out | apply IsS80.alloc | apply IsS80.drewN | apply IsS80.drew | apply IsS80.set_0 | apply IsS80.set_1 | refine IsS80.far ?_ NB163_160.out _ | refine IsS80.far ?_ NB163_167.out _) | exact HI163.out)); (case side2 => repeat (first | (with_reducible first | exact HB.out | apply below_alloc | apply pw_below_drewN | apply below_drew1 | refine below_set ?_ (IsS80.ge HI163.out) | refine below_set ?_ GE160.out | refine below_set ?_ GE167.out) | exact HB.out)); rintro e w18 ⟨rfl, hi, hb, hk⟩; refine ⟨_, rfl, ?_⟩; have n0_ := Aside0.mk (KeepBut.blk hk (g' := gb160) (o := .cells #[.int .i64 0, .slice none 0 0, .string (⟨#[]⟩ : ByteArray)] 37 (0, 0)) (by (with_reducible repeat (first | refine blk_drewN ?_ _ | refine blk_drew ?_ | refine blk_alloc ?_ _)); refine blk_far ?_ NB160_167.out _; (with_reducible repeat (first | refine blk_drewN ?_ _ | refine blk_drew ?_ | refine blk_alloc ?_ _)); refine blk_far ?_ NB160_167.out _; (with_reducible repeat (first | refine blk_drewN ?_ _ | refine blk_drew ?_ | refine blk_alloc ?_ _)); refine blk_far ?_ NB160_167.out _; (with_reducible repeat (first | refine blk_drewN ?_ _ | refine blk_drew ?_ | refine blk_alloc ?_ _)); exact BK160.out) NB160_163.out (by simp)); have n1_ := Aside0.mk (KeepBut.blk hk (g' := gb167) (o := .cells #[.int .i64 (wrap64 (t164)), .slice none 0 0, .string (⟨#[]⟩ : ByteArray)] 37 (0, 0)) (by (with_reducible repeat (first | refine blk_drewN ?_ _ | refine blk_drew ?_ | refine blk_alloc ?_ _)); refine blk_put (cs := #[.int .i64 (wrap64 (t164)), .slice none 0 0, .string (⟨#[]⟩ : ByteArray)]) ?_ 2 _ rfl; (with_reducible repeat (first | refine blk_drewN ?_ _ | refine blk_drew ?_ | refine blk_alloc ?_ _)); refine blk_put (cs := #[.int .i64 (wrap64 (t164)), .slice none 0 0, .string (⟨#[]⟩ : ByteArray)]) ?_ 1 _ rfl; (with_reducible repeat (first | refine blk_drewN ?_ _ | refine blk_drew ?_ | refine blk_alloc ?_ _)); refine blk_put (cs := #[.int .i64 0, .slice none 0 0, .string (⟨#[]⟩ : ByteArray)]) ?_ 0 _ rfl; (with_reducible repeat (first | refine blk_drewN ?_ _ | refine blk_drew ?_ | refine blk_alloc ?_ _)); exact BK167.out) NB167_163.out (by simp)); have n2_ := Aside0.mk (hb); have n3_ := Aside0.mk (hi); clear BK160; clear BK167; clear HB; clear HI163; have BK160 := n0_; have BK167 := n1_; have HB := n2_; have HI163 := n3_; clear n0_ n1_ n2_ n3_; (try clear hb); (try clear hb2); (try clear hk); (try clear hi)))
      go_meet
      case rel => exact ⟨_, (false), (t169), (t170), (by first | rfl | (simp; done) | (simp [*]; done) | (simp; rw [Bool.eq_iff_iff]; simp; done)), H', ⟨by first | omega | exact Nat.le_refl _⟩, ⟨by (with_reducible repeat (first | refine blk_drewN ?_ _ | refine blk_drew ?_ | refine blk_alloc ?_ _)); exact BK160.out⟩, ⟨by (with_reducible repeat (first | refine blk_drewN ?_ _ | refine blk_drew ?_ | refine blk_alloc ?_ _)); exact BK167.out⟩, ⟨by repeat (first | (with_reducible first | exact HI163.out | apply IsS80.alloc | apply IsS80.drewN | apply IsS80.drew | apply IsS80.set_0 | apply IsS80.set_1 | refine IsS80.far ?_ NB163_160.out _ | refine IsS80.far ?_ NB163_167.out _) | exact HI163.out)⟩, ⟨by repeat (first | (with_reducible first | exact HB.out | apply below_alloc | apply pw_below_drewN | apply below_drew1 | refine below_set ?_ (IsS80.ge HI163.out) | refine below_set ?_ GE160.out | refine below_set ?_ GE167.out) | exact HB.out)⟩⟩
  case rest =>
    clear HC4
    try clear c1
    try clear p2
    try clear c3
    try clear p6
    try clear c9
    try clear c10
    try clear c13
    try clear c13b0
    try clear c13b1
    try clear c15
    try clear c16
    try clear hcz11_0
    try clear hcz11_1
    try clear hcz11_2
    try clear hcz17_0
    try clear hcz17_1
    try clear hcz17_2
    try clear hfz11_0
    try clear hfz11_1
    try clear hfz11_2
    try clear hfz17_0
    try clear hfz17_1
    try clear hfz17_2
    obtain ⟨kq, x23_3, x164000_3, x164001_3, rfl, HA, HJ3, BK160, BK167, HI163, HB⟩ := hcut
    cases kq with
    | zero => exact absurd HA.out (by simp [request_Parse.j0])
    | succ kj3 =>
      have H := HA.out
      clear HA
      simp only [request_Parse.j0] at H
      by_cases c19 : x23_3 = true
      · subst c19
        have H1 : ((varint_In_Num.f kj3 x164000_3 x164001_3 2147483647).bind fun bt171 => (if bt171.1 > 8 then ((varint_In_Fail.f bt171.2.1 bt171.2.2 4).bind fun bt174 => (request_Parse.j1 kj3 0 bt174.1 bt174.2 (wrap64 (t164)) (⟨#[]⟩ : ByteArray))) else (request_Parse.j1 kj3 bt171.1 bt171.2.1 bt171.2.2 (wrap64 (t164)) (⟨#[]⟩ : ByteArray)))) = some (r1, r2, r3, r4) := by rw [if_pos rfl] at H; exact H
        clear H
        have H := H1
        clear H1
        replace H := Option.bind_eq_some_iff.mp H
        obtain ⟨⟨t171, t172, t173⟩, A200, H⟩ := H
        replace H : (if t171 > 8 then ((varint_In_Fail.f t172 t173 4).bind fun bt174 => (request_Parse.j1 kj3 0 bt174.1 bt174.2 (wrap64 (t164)) (⟨#[]⟩ : ByteArray))) else (request_Parse.j1 kj3 t171 t172 t173 (wrap64 (t164)) (⟨#[]⟩ : ByteArray))) = some (r1, r2, r3, r4) := H
        have A20 := Aside0.mk A200
        clear A200
        have HC21 := Aside0.mk H
        clear H
        go_upto_if 27 with (first | (go_step3) | (rw [Exit.noGoto_normal]) | (rw [Exit.noGoto_exit]) | (rw [Exit.noGoto_ret]) | ((with_reducible refine gate_callee (f := 33) rfl ?_); refine goesL_ (some 25) rfl rfl Try.func33 (by kernel_rfl) rfl #[.pointer (some ⟨g163, 0, none⟩), .int .u64 2147483647] rfl (by (try simp only [List.map_toArray, List.map_cons, List.map_nil]); first | done | rfl | (simp only [List.length_drop, List.length_take]; rfl)) ?_; (with_reducible refine (varint_In_Num.calls kj3 g163 x164000_3 x164001_3 2147483647 t171 t172 t173 w _ ?side1 ?side2 A20.out).mono ?_); (case side1 => repeat (first | (with_reducible first | exact HI163.out | apply IsS80.alloc | apply IsS80.drewN | apply IsS80.drew | apply IsS80.set_0 | apply IsS80.set_1 | refine IsS80.far ?_ NB163_160.out _ | refine IsS80.far ?_ NB163_167.out _) | exact HI163.out)); (case side2 => repeat (first | (with_reducible first | exact HB.out | apply below_alloc | apply pw_below_drewN | apply below_drew1 | refine below_set ?_ (IsS80.ge HI163.out) | refine below_set ?_ GE160.out | refine below_set ?_ GE167.out) | exact HB.out)); rintro e w22 ⟨rfl, hi, hb, hk⟩; refine ⟨_, rfl, ?_⟩; have n0_ := Aside0.mk (KeepBut.blk hk (g' := gb160) (o := .cells #[.int .i64 0, .slice none 0 0, .string (⟨#[]⟩ : ByteArray)] 37 (0, 0)) (by (with_reducible repeat (first | refine blk_drewN ?_ _ | refine blk_drew ?_ | refine blk_alloc ?_ _)); exact BK160.out) NB160_163.out (by simp)); have n1_ := Aside0.mk (KeepBut.blk hk (g' := gb167) (o := .cells #[.int .i64 (wrap64 (t164)), .slice none 0 0, .string (⟨#[]⟩ : ByteArray)] 37 (0, 0)) (by (with_reducible repeat (first | refine blk_drewN ?_ _ | refine blk_drew ?_ | refine blk_alloc ?_ _)); exact BK167.out) NB167_163.out (by simp)); have n2_ := Aside0.mk (hb); have n3_ := Aside0.mk (hi); clear BK160; clear BK167; clear HB; clear HI163; have BK160 := n0_; have BK167 := n1_; have HB := n2_; have HI163 := n3_; clear n0_ n1_ n2_ n3_; (try clear hb); (try clear hb2); (try clear hk); (try clear hi)))
        (try simp only [Act.put, List.setIfInBounds_toArray, List.set_cons_zero, List.set_cons_succ])
        go_cut [6] (fun v6 wc => ∃ (kq : Nat) (x6_20 : Int) (x164000_20 : ByteArray) (x164001_20 : Int), v6 = .int .u64 x6_20 ∧ Aside0 (request_Parse.j1 kq x6_20 x164000_20 x164001_20 (wrap64 (t164)) (⟨#[]⟩ : ByteArray) = some (r1, r2, r3, r4)) ∧ Aside0 (kq ≤ kj3) ∧ Aside0 (wc.heap[gb160]? = some (.cells #[.int .i64 0, (.slice none 0 0), .string (⟨#[]⟩ : ByteArray)] 37 (0, 0))) ∧ Aside0 (wc.heap[gb167]? = some (.cells #[.int .i64 (wrap64 (t164)), (.slice none 0 0), .string (⟨#[]⟩ : ByteArray)] 37 (0, 0))) ∧ Aside0 (IsS80 w wc g163 x164000_20 x164001_20) ∧ Aside0 (Below w.heap.size w wc))
        case first =>
          have H := HC21.out
          clear HC21
          by_cases c23 : t171 > 8
          · rw [if_pos c23] at H
            have c23b0 : decide (8 < t171) = true := decide_eq_true c23
            clear c23
            (first | rw [c23b0] | (simp only [i64_w, i32_w]; rw [c23b0]) | skip)
            replace H := Option.bind_eq_some_iff.mp H
            obtain ⟨⟨t174, t175⟩, A240, H⟩ := H
            replace H : (request_Parse.j1 kj3 0 t174 t175 (wrap64 (t164)) (⟨#[]⟩ : ByteArray)) = some (r1, r2, r3, r4) := H
            have A24 := Aside0.mk A240
            clear A240
            have H' := Aside0.mk H
            clear H
            go_wp2_with (first | (go_step3) | (rw [Exit.noGoto_normal]) | (rw [Exit.noGoto_exit]) | (rw [Exit.noGoto_ret]) | ((with_reducible refine gate_callee (f := 35) rfl ?_); refine goesL_ (some 29) rfl rfl Try.func35 (by kernel_rfl) rfl #[.pointer (some ⟨g163, 0, none⟩), .int .i64 4] rfl (by (try simp only [List.map_toArray, List.map_cons, List.map_nil]); first | done | rfl | (simp only [List.length_drop, List.length_take]; rfl)) ?_; (with_reducible refine (varint_In_Fail.calls g163 t172 t173 4 t174 t175 w _ ?side1 ?side2 A24.out).mono ?_); (case side1 => repeat (first | (with_reducible first | exact HI163.out | apply IsS80.alloc | apply IsS80.drewN | apply IsS80.drew | apply IsS80.set_0 | apply IsS80.set_1 | refine IsS80.far ?_ NB163_160.out _ | refine IsS80.far ?_ NB163_167.out _) | exact HI163.out)); (case side2 => repeat (first | (with_reducible first | exact HB.out | apply below_alloc | apply pw_below_drewN | apply below_drew1 | refine below_set ?_ (IsS80.ge HI163.out) | refine below_set ?_ GE160.out | refine below_set ?_ GE167.out) | exact HB.out)); rintro e w25 ⟨rfl, hi, hb, hk⟩; refine ⟨_, rfl, ?_⟩; have n0_ := Aside0.mk (KeepBut.blk hk (g' := gb160) (o := .cells #[.int .i64 0, .slice none 0 0, .string (⟨#[]⟩ : ByteArray)] 37 (0, 0)) (by (with_reducible repeat (first | refine blk_drewN ?_ _ | refine blk_drew ?_ | refine blk_alloc ?_ _)); exact BK160.out) NB160_163.out (by simp)); have n1_ := Aside0.mk (KeepBut.blk hk (g' := gb167) (o := .cells #[.int .i64 (wrap64 (t164)), .slice none 0 0, .string (⟨#[]⟩ : ByteArray)] 37 (0, 0)) (by (with_reducible repeat (first | refine blk_drewN ?_ _ | refine blk_drew ?_ | refine blk_alloc ?_ _)); exact BK167.out) NB167_163.out (by simp)); have n2_ := Aside0.mk (hb); have n3_ := Aside0.mk (hi); clear BK160; clear BK167; clear HB; clear HI163; have BK160 := n0_; have BK167 := n1_; have HB := n2_; have HI163 := n3_; clear n0_ n1_ n2_ n3_; (try clear hb); (try clear hb2); (try clear hk); (try clear hi)))
            go_meet
            case rel => exact ⟨_, (0), (t174), (t175), (by first | rfl | (simp; done) | (simp [*]; done) | (simp; rw [Bool.eq_iff_iff]; simp; done)), H', ⟨by have := HJ3.out; first | omega | exact Nat.le_refl _⟩, ⟨by (with_reducible repeat (first | refine blk_drewN ?_ _ | refine blk_drew ?_ | refine blk_alloc ?_ _)); exact BK160.out⟩, ⟨by (with_reducible repeat (first | refine blk_drewN ?_ _ | refine blk_drew ?_ | refine blk_alloc ?_ _)); exact BK167.out⟩, ⟨by repeat (first | (with_reducible first | exact HI163.out | apply IsS80.alloc | apply IsS80.drewN | apply IsS80.drew | apply IsS80.set_0 | apply IsS80.set_1 | refine IsS80.far ?_ NB163_160.out _ | refine IsS80.far ?_ NB163_167.out _) | exact HI163.out)⟩, ⟨by repeat (first | (with_reducible first | exact HB.out | apply below_alloc | apply pw_below_drewN | apply below_drew1 | refine below_set ?_ (IsS80.ge HI163.out) | refine below_set ?_ GE160.out | refine below_set ?_ GE167.out) | exact HB.out)⟩⟩
          · rw [if_neg c23] at H
            have c23b0 : decide (8 < t171) = false := decide_eq_false c23
            clear c23
            (first | rw [c23b0] | (simp only [i64_w, i32_w]; rw [c23b0]) | skip)
            have H' := Aside0.mk H
            clear H
            go_wp2_with (first | (go_step3) | (rw [Exit.noGoto_normal]) | (rw [Exit.noGoto_exit]) | (rw [Exit.noGoto_ret]))
            go_meet
            case rel => exact ⟨_, (t171), (t172), (t173), (by first | rfl | (simp; done) | (simp [*]; done) | (simp; rw [Bool.eq_iff_iff]; simp; done)), H', ⟨by have := HJ3.out; first | omega | exact Nat.le_refl _⟩, ⟨by (with_reducible repeat (first | refine blk_drewN ?_ _ | refine blk_drew ?_ | refine blk_alloc ?_ _)); exact BK160.out⟩, ⟨by (with_reducible repeat (first | refine blk_drewN ?_ _ | refine blk_drew ?_ | refine blk_alloc ?_ _)); exact BK167.out⟩, ⟨by repeat (first | (with_reducible first | exact HI163.out | apply IsS80.alloc | apply IsS80.drewN | apply IsS80.drew | apply IsS80.set_0 | apply IsS80.set_1 | refine IsS80.far ?_ NB163_160.out _ | refine IsS80.far ?_ NB163_167.out _) | exact HI163.out)⟩, ⟨by repeat (first | (with_reducible first | exact HB.out | apply below_alloc | apply pw_below_drewN | apply below_drew1 | refine below_set ?_ (IsS80.ge HI163.out) | refine below_set ?_ GE160.out | refine below_set ?_ GE167.out) | exact HB.out)⟩⟩
        case rest =>
          clear HC21
          try clear c1
          try clear c2
          try clear p2
          try clear c3
          try clear p6
          try clear c9
          try clear c10
          try clear c13
          try clear c13b0
          try clear c13b1
          try clear c15
          try clear c16
          try clear c19
          try clear c23
          try clear c23b0
          try clear hcz11_0
          try clear hcz11_1
          try clear hcz11_2
          try clear hcz17_0
          try clear hcz17_1
          try clear hcz17_2
          try clear hfz11_0
          try clear hfz11_1
          try clear hfz11_2
          try clear hfz17_0
          try clear hfz17_1
          try clear hfz17_2
          try clear p2
          try clear p6
          obtain ⟨kq, x6_20, x164000_20, x164001_20, rfl, HA, HJ20, BK160, BK167, HI163, HB⟩ := hcut
          cases kq with
          | zero => exact absurd HA.out (by simp [request_Parse.j1])
          | succ kj20 =>
            have H := HA.out
            clear HA
            simp only [request_Parse.j1] at H
            have HC26 := Aside0.mk H
            clear H
            go_upto_block 0 with (first | (go_step3) | (rw [Exit.noGoto_normal]) | (rw [Exit.noGoto_exit]) | (rw [Exit.noGoto_ret]))
            go_cut [] (fun wc => ∃ (kq : Nat) (x164000_25 : ByteArray) (x164001_25 : Int) (x168001_25 : List (List Int)) (u168001 : Value), Aside0 (request_Parse.j4 kq x164000_25 x164001_25 (wrap64 (t164)) x168001_25 (⟨#[]⟩ : ByteArray) = some (r1, r2, r3, r4)) ∧ Aside0 (kq ≤ kj20) ∧ Aside0 (Kd.S (Kd.slice 3 (Kd.int .i64)) 22 wc w.heap.size (fun _ => True) u168001 x168001_25) ∧ Aside0 (wc.heap[gb160]? = some (.cells #[.int .i64 0, (.slice none 0 0), .string (⟨#[]⟩ : ByteArray)] 37 (0, 0))) ∧ Aside0 (wc.heap[gb167]? = some (.cells #[.int .i64 (wrap64 (t164)), u168001, .string (⟨#[]⟩ : ByteArray)] 37 (0, 0))) ∧ Aside0 (IsS80 w wc g163 x164000_25 x164001_25) ∧ Aside0 (Below w.heap.size w wc))
            case first =>
              have H := HC26.out
              clear HC26
              have H' := Aside0.mk H
              clear H
              go_wp2_with (first | (go_step3) | (rw [Exit.noGoto_normal]) | (rw [Exit.noGoto_exit]) | (rw [Exit.noGoto_ret]))
              go_loopg [31] kj20 (fun kq v31 w' => ∃ (x31_3 : Int) (x164000_3 : ByteArray) (x164001_3 : Int) (x168001_3 : List (List Int)) (u168001 : Value), v31 = .int .u64 x31_3 ∧ Aside0 (request_Parse.l0 kq x6_20 x31_3 x164000_3 x164001_3 (wrap64 (t164)) x168001_3 (⟨#[]⟩ : ByteArray) = some (r1, r2, r3, r4)) ∧ Aside0 (kq ≤ kj20) ∧ Aside0 (Kd.S (Kd.slice 3 (Kd.int .i64)) 22 w' w.heap.size (fun _ => True) u168001 x168001_3) ∧ Aside0 (w'.heap[gb160]? = some (.cells #[.int .i64 0, (.slice none 0 0), .string (⟨#[]⟩ : ByteArray)] 37 (0, 0))) ∧ Aside0 (w'.heap[gb167]? = some (.cells #[.int .i64 (wrap64 (t164)), u168001, .string (⟨#[]⟩ : ByteArray)] 37 (0, 0))) ∧ Aside0 (IsS80 w w' g163 x164000_3 x164001_3) ∧ Aside0 (Below w.heap.size w w'))
              case atStart => exact ⟨(0), (x164000_20), (x164001_20), (([] : List (List Int))), (.slice none 0 0), (by first | rfl | (simp; done) | (simp [*]; done) | (simp; rw [Bool.eq_iff_iff]; simp; done)), H', ⟨Nat.le_refl _⟩, ⟨by first | exact Kd.S_nil _ _ _ _ _ | exact Kd.N_nil _ _ _ _ _ | exact Kd.V_nil _ _ _ _ _ | exact Kd.Q_nil _ _ _ _ _ | exact Kd.R_nil _ _ _ _ _⟩, ⟨by (with_reducible repeat (first | refine blk_drewN ?_ _ | refine blk_drew ?_ | refine blk_alloc ?_ _)); exact BK160.out⟩, ⟨by (with_reducible repeat (first | refine blk_drewN ?_ _ | refine blk_drew ?_ | refine blk_alloc ?_ _)); exact BK167.out⟩, ⟨by repeat (first | (with_reducible first | exact HI163.out | apply IsS80.alloc | apply IsS80.drewN | apply IsS80.drew | apply IsS80.set_0 | apply IsS80.set_1 | refine IsS80.far ?_ NB163_160.out _ | refine IsS80.far ?_ NB163_167.out _) | exact HI163.out)⟩, ⟨by repeat (first | (with_reducible first | exact HB.out | apply below_alloc | apply pw_below_drewN | apply below_drew1 | refine below_set ?_ (IsS80.ge HI163.out) | refine below_set ?_ GE160.out | refine below_set ?_ GE167.out) | exact HB.out)⟩⟩
              case round =>
                clear H'
                try clear c1
                try clear c2
                try clear p2
                try clear c3
                try clear p6
                try clear c9
                try clear c10
                try clear c13
                try clear c13b0
                try clear c13b1
                try clear c15
                try clear c16
                try clear c19
                try clear c23
                try clear c23b0
                try clear hcz11_0
                try clear hcz11_1
                try clear hcz11_2
                try clear hcz17_0
                try clear hcz17_1
                try clear hcz17_2
                try clear hfz11_0
                try clear hfz11_1
                try clear hfz11_2
                try clear hfz17_0
                try clear hfz17_1
                try clear hfz17_2
                try clear p2
                try clear p6
                obtain ⟨x31_3, x164000_3, x164001_3, x168001_3, u168001, rfl, HA, HK3, HO_168001, BK160, BK167, HI163, HB⟩ := hrel
                cases gk with
                | zero => exact absurd HA.out (by simp [request_Parse.l0])
                | succ k3 =>
                  have H := HA.out
                  clear HA
                  simp only [request_Parse.l0] at H
                  by_cases c27 : x31_3 < x6_20
                  · rw [if_pos c27] at H
                    have c27b0 : decide (x31_3 < x6_20) = true := decide_eq_true c27
                    clear c27
                    (first | rw [c27b0] | (simp only [i64_w, i32_w]; rw [c27b0]) | skip)
                    replace H := Option.bind_eq_some_iff.mp H
                    obtain ⟨⟨t176, t177, t178⟩, A280, H⟩ := H
                    replace H : (request_Parse.l1 k3 ([] : List Int) t176 x6_20 x31_3 t177 t178 (wrap64 (t164)) x168001_3 (⟨#[]⟩ : ByteArray)) = some (r1, r2, r3, r4) := H
                    have A28 := Aside0.mk A280
                    clear A280
                    have H' := Aside0.mk H
                    clear H
                    go_wp2_with (first | (go_step3) | (rw [Exit.noGoto_normal]) | (rw [Exit.noGoto_exit]) | (rw [Exit.noGoto_ret]) | ((with_reducible refine gate_callee (f := 33) rfl ?_); refine goesL_ (some 34) rfl rfl Try.func33 (by kernel_rfl) rfl #[.pointer (some ⟨g163, 0, none⟩), .int .u64 2147483647] rfl (by (try simp only [List.map_toArray, List.map_cons, List.map_nil]); first | done | rfl | (simp only [List.length_drop, List.length_take]; rfl)) ?_; (with_reducible refine (varint_In_Num.calls k3 g163 x164000_3 x164001_3 2147483647 t176 t177 t178 w _ ?side1 ?side2 A28.out).mono ?_); (case side1 => repeat (first | (with_reducible first | exact HI163.out | apply IsS80.alloc | apply IsS80.drewN | apply IsS80.drew | apply IsS80.set_0 | apply IsS80.set_1 | refine IsS80.far ?_ NB163_160.out _ | refine IsS80.far ?_ NB163_167.out _) | exact HI163.out)); (case side2 => repeat (first | (with_reducible first | exact HB.out | apply below_alloc | apply pw_below_drewN | apply below_drew1 | refine below_set ?_ (IsS80.ge HI163.out) | refine below_set ?_ GE160.out | refine below_set ?_ GE167.out) | exact HB.out)); rintro e w29 ⟨rfl, hi, hb, hk⟩; refine ⟨_, rfl, ?_⟩; have n0_ := Aside0.mk (Kd.S_mono (Kd.S_keep (IsS80.apartS (show IsS80 w _ g163 x164000_3 x164001_3 from by repeat (first | (with_reducible first | exact HI163.out | apply IsS80.alloc | apply IsS80.drewN | apply IsS80.drew | apply IsS80.set_0 | apply IsS80.set_1 | refine IsS80.far ?_ NB163_160.out _ | refine IsS80.far ?_ NB163_167.out _) | exact HI163.out)) (by (with_reducible repeat (first | apply Kd.S_alloc | apply Kd.S_drewN | apply Kd.S_drew)); exact HO_168001.out) (by decide)) hk (fun _ h => h.2)) (fun _ h => h.1)); have n1_ := Aside0.mk (KeepBut.blk hk (g' := gb160) (o := .cells #[.int .i64 0, .slice none 0 0, .string (⟨#[]⟩ : ByteArray)] 37 (0, 0)) (by (with_reducible repeat (first | refine blk_drewN ?_ _ | refine blk_drew ?_ | refine blk_alloc ?_ _)); exact BK160.out) NB160_163.out (by simp)); have n2_ := Aside0.mk (KeepBut.blk hk (g' := gb167) (o := .cells #[.int .i64 (wrap64 (t164)), u168001, .string (⟨#[]⟩ : ByteArray)] 37 (0, 0)) (by (with_reducible repeat (first | refine blk_drewN ?_ _ | refine blk_drew ?_ | refine blk_alloc ?_ _)); exact BK167.out) NB167_163.out (by simp)); have n3_ := Aside0.mk (hb); have n4_ := Aside0.mk (hi); clear HO_168001; clear BK160; clear BK167; clear HB; clear HI163; have HO_168001 := n0_; have BK160 := n1_; have BK167 := n2_; have HB := n3_; have HI163 := n4_; clear n0_ n1_ n2_ n3_ n4_; (try clear hb); (try clear hb2); (try clear hk); (try clear hi)))
                    go_loopg [7, 8] k3 (fun kq v7 v8 w' => ∃ (x7_4 : List Int) (x8_4 : Int) (x164000_4 : ByteArray) (x164001_4 : Int), v8 = .int .u64 x8_4 ∧ Aside0 (request_Parse.l1 kq x7_4 x8_4 x6_20 x31_3 x164000_4 x164001_4 (wrap64 (t164)) x168001_3 (⟨#[]⟩ : ByteArray) = some (r1, r2, r3, r4)) ∧ Aside0 (kq ≤ k3) ∧ Aside0 (Kd.R (Kd.int .i64) 3 w' w.heap.size (fun _ => True) v7 x7_4) ∧ Aside0 (Kd.S (Kd.slice 3 (Kd.int .i64)) 22 w' w.heap.size (fun k_ => some k_ ≠ (v7 : Value).ownBlock) u168001 x168001_3) ∧ Aside0 (w'.heap[gb160]? = some (.cells #[.int .i64 0, (.slice none 0 0), .string (⟨#[]⟩ : ByteArray)] 37 (0, 0))) ∧ Aside0 (w'.heap[gb167]? = some (.cells #[.int .i64 (wrap64 (t164)), u168001, .string (⟨#[]⟩ : ByteArray)] 37 (0, 0))) ∧ Aside0 (IsS80 w w' g163 x164000_4 x164001_4) ∧ Aside0 (Below w.heap.size w w'))
                    case atStart => exact ⟨(([] : List Int)), (t176), (t177), (t178), (by first | rfl | (simp; done) | (simp [*]; done) | (simp; rw [Bool.eq_iff_iff]; simp; done)), H', ⟨Nat.le_refl _⟩, ⟨by first | exact Kd.R_nil _ _ _ _ _ | exact Kd.N_nil _ _ _ _ _ | exact Kd.V_nil _ _ _ _ _ | exact Kd.Q_nil _ _ _ _ _ | exact Kd.S_nil _ _ _ _ _⟩, ⟨by (with_reducible repeat (first | apply Kd.S_alloc | apply Kd.S_drewN | apply Kd.S_drew)); exact Kd.S_mono HO_168001.out (fun _ hk => (by simp [Value.ownBlock]))⟩, ⟨by (with_reducible repeat (first | refine blk_drewN ?_ _ | refine blk_drew ?_ | refine blk_alloc ?_ _)); exact BK160.out⟩, ⟨by (with_reducible repeat (first | refine blk_drewN ?_ _ | refine blk_drew ?_ | refine blk_alloc ?_ _)); exact BK167.out⟩, ⟨by repeat (first | (with_reducible first | exact HI163.out | apply IsS80.alloc | apply IsS80.drewN | apply IsS80.drew | apply IsS80.set_0 | apply IsS80.set_1 | refine IsS80.far ?_ NB163_160.out _ | refine IsS80.far ?_ NB163_167.out _) | exact HI163.out)⟩, ⟨by repeat (first | (with_reducible first | exact HB.out | apply below_alloc | apply pw_below_drewN | apply below_drew1 | refine below_set ?_ (IsS80.ge HI163.out) | refine below_set ?_ GE160.out | refine below_set ?_ GE167.out) | exact HB.out)⟩⟩
                    case round =>
                      clear H'
                      try clear c1
                      try clear c2
                      try clear p2
                      try clear c3
                      try clear p6
                      try clear c9
                      try clear c10
                      try clear c13
                      try clear c13b0
                      try clear c13b1
                      try clear c15
                      try clear c16
                      try clear c19
                      try clear c23
                      try clear c23b0
                      try clear c27
                      try clear c27b0
                      try clear hcz11_0
                      try clear hcz11_1
                      try clear hcz11_2
                      try clear hcz17_0
                      try clear hcz17_1
                      try clear hcz17_2
                      try clear hfz11_0
                      try clear hfz11_1
                      try clear hfz11_2
                      try clear hfz17_0
                      try clear hfz17_1
                      try clear hfz17_2
                      try clear p2
                      try clear p6
                      obtain ⟨x7_4, x8_4, x164000_4, x164001_4, rfl, HA, HK4, HO_7, HO_168001, BK160, BK167, HI163, HB⟩ := hrel
                      cases gk with
                      | zero => exact absurd HA.out (by simp [request_Parse.l1])
                      | succ k4 =>
                        have H := HA.out
                        clear HA
                        simp only [request_Parse.l1] at H
                        by_cases c30 : x8_4 > 0
                        · rw [if_pos c30] at H
                          have c30b0 : decide (0 < x8_4) = true := decide_eq_true c30
                          clear c30
                          replace H := Option.bind_eq_some_iff.mp H
                          obtain ⟨⟨t182, t183, t184⟩, A310, H⟩ := H
                          replace H : (if x7_4.length < 17592186044416 then ((varint_In_Err.f t183 t184).bind fun bt188 => (if bt188.1 = 0 then (request_Parse.l1 k4 (x7_4 ++ [wrap64 (t182)]) (IntKind.u64.wrap (x8_4 - 1)) x6_20 x31_3 bt188.2.1 bt188.2.2 (wrap64 (t164)) x168001_3 (⟨#[]⟩ : ByteArray)) else (request_Parse.j4 k4 bt188.2.1 bt188.2.2 (wrap64 (t164)) x168001_3 (⟨#[]⟩ : ByteArray)))) else (none)) = some (r1, r2, r3, r4) := H
                          have A31 := Aside0.mk A310
                          clear A310
                          by_cases c32 : x7_4.length < 17592186044416
                          · rw [if_pos c32] at H
                            have LMc32 := Aside0.mk c32
                            clear c32
                            obtain ⟨y185, hy185⟩ : ∃ y_ : List Int, y_ = (x7_4 ++ [wrap64 (t182)]) := ⟨_, rfl⟩
                            replace H : ((varint_In_Err.f t183 t184).bind fun bt188 => (if bt188.1 = 0 then (request_Parse.l1 k4 y185 (IntKind.u64.wrap (x8_4 - 1)) x6_20 x31_3 bt188.2.1 bt188.2.2 (wrap64 (t164)) x168001_3 (⟨#[]⟩ : ByteArray)) else (request_Parse.j4 k4 bt188.2.1 bt188.2.2 (wrap64 (t164)) x168001_3 (⟨#[]⟩ : ByteArray)))) = some (r1, r2, r3, r4) := by first | (rw [hy185]; with_reducible exact H) | (have H2_ := (Option.bind_some _ _).symm.trans H; rw [hy185]; with_reducible exact H2_) | (have H2_ := (Option.bind_some _ _).symm.trans H; with_reducible exact H2_) | with_reducible exact H | (rw [hy185]; exact H) | exact H
                            have Ny185 := Aside0.mk hy185
                            clear hy185
                            replace H := Option.bind_eq_some_iff.mp H
                            obtain ⟨⟨t188, t189, t190⟩, A330, H⟩ := H
                            replace H : (if t188 = 0 then (request_Parse.l1 k4 y185 (IntKind.u64.wrap (x8_4 - 1)) x6_20 x31_3 t189 t190 (wrap64 (t164)) x168001_3 (⟨#[]⟩ : ByteArray)) else (request_Parse.j4 k4 t189 t190 (wrap64 (t164)) x168001_3 (⟨#[]⟩ : ByteArray))) = some (r1, r2, r3, r4) := H
                            have A33 := Aside0.mk A330
                            clear A330
                            by_cases c34 : t188 = 0
                            · rw [if_pos c34] at H
                              have c34b0 : (t188 == 0) = true := beq_iff_eq.mpr c34
                              have c34b1 : (t188 != 0) = false := bne_eq_false_iff_eq.mpr c34
                              clear c34
                              have H' := Aside0.mk H
                              clear H
                              go_wp2_with (first | (go_step3) | (rw [Exit.noGoto_normal]) | (rw [Exit.noGoto_exit]) | (rw [Exit.noGoto_ret]) | ((with_reducible refine gate_callee (f := 33) rfl ?_); refine goesL_ (some 41) rfl rfl Try.func33 (by kernel_rfl) rfl #[.pointer (some ⟨g163, 0, none⟩), .int .u64 2147483647] rfl (by (try simp only [List.map_toArray, List.map_cons, List.map_nil]); first | done | rfl | (simp only [List.length_drop, List.length_take]; rfl)) ?_; (with_reducible refine (varint_In_Num.calls k4 g163 x164000_4 x164001_4 2147483647 t182 t183 t184 w _ ?side1 ?side2 A31.out).mono ?_); (case side1 => repeat (first | (with_reducible first | exact HI163.out | apply IsS80.alloc | apply IsS80.drewN | apply IsS80.drew | apply IsS80.set_0 | apply IsS80.set_1 | refine IsS80.far ?_ NB163_160.out _ | refine IsS80.far ?_ NB163_167.out _) | exact HI163.out)); (case side2 => repeat (first | (with_reducible first | exact HB.out | apply below_alloc | apply pw_below_drewN | apply below_drew1 | refine below_set ?_ (IsS80.ge HI163.out) | refine below_set ?_ GE160.out | refine below_set ?_ GE167.out) | exact HB.out)); rintro e w35 ⟨rfl, hi, hb, hk⟩; refine ⟨_, rfl, ?_⟩; have n0_ := Aside0.mk (Kd.R_mono (Kd.R_keep (IsS80.apart (show IsS80 w _ g163 x164000_4 x164001_4 from by repeat (first | (with_reducible first | exact HI163.out | apply IsS80.alloc | apply IsS80.drewN | apply IsS80.drew | apply IsS80.set_0 | apply IsS80.set_1 | refine IsS80.far ?_ NB163_160.out _ | refine IsS80.far ?_ NB163_167.out _) | exact HI163.out)) (by (with_reducible repeat (first | apply Kd.R_alloc | apply Kd.R_drewN | apply Kd.R_drew)); exact HO_7.out) (by decide)) hk (fun _ h => h.2)) (fun _ h => h.1)); have n1_ := Aside0.mk (Kd.S_mono (Kd.S_keep (IsS80.apartS (show IsS80 w _ g163 x164000_4 x164001_4 from by repeat (first | (with_reducible first | exact HI163.out | apply IsS80.alloc | apply IsS80.drewN | apply IsS80.drew | apply IsS80.set_0 | apply IsS80.set_1 | refine IsS80.far ?_ NB163_160.out _ | refine IsS80.far ?_ NB163_167.out _) | exact HI163.out)) (by (with_reducible repeat (first | apply Kd.S_alloc | apply Kd.S_drewN | apply Kd.S_drew)); exact HO_168001.out) (by decide)) hk (fun _ h => h.2)) (fun _ h => h.1)); have n2_ := Aside0.mk (KeepBut.blk hk (g' := gb160) (o := .cells #[.int .i64 0, .slice none 0 0, .string (⟨#[]⟩ : ByteArray)] 37 (0, 0)) (by (with_reducible repeat (first | refine blk_drewN ?_ _ | refine blk_drew ?_ | refine blk_alloc ?_ _)); exact BK160.out) NB160_163.out (by simp)); have n3_ := Aside0.mk (KeepBut.blk hk (g' := gb167) (o := .cells #[.int .i64 (wrap64 (t164)), u168001, .string (⟨#[]⟩ : ByteArray)] 37 (0, 0)) (by (with_reducible repeat (first | refine blk_drewN ?_ _ | refine blk_drew ?_ | refine blk_alloc ?_ _)); exact BK167.out) NB167_163.out (by simp)); have n4_ := Aside0.mk (hb); have n5_ := Aside0.mk (hi); clear HO_7; clear HO_168001; clear BK160; clear BK167; clear HB; clear HI163; have HO_7 := n0_; have HO_168001 := n1_; have BK160 := n2_; have BK167 := n3_; have HB := n4_; have HI163 := n5_; clear n0_ n1_ n2_ n3_ n4_ n5_; (try clear hb); (try clear hb2); (try clear hk); (try clear hi)) | ((with_reducible refine gate_builtin (b := .append) (xs := #[.tmp 39, .tmp 43]) rfl ?_); at_builtin; refine Kd.R_append (Kd.int .i64) (w0 := w) w.heap.size rfl (.tmp 39) (.tmp 43) 22 3 (.int .i64 0) 8 rfl Try.underlying22 info3 rfl (by decide) (by omega) u7 x7_4 (wrap64 (t182)) [.int .i64 (wrap64 (t182))] (fun _ => True) (fun _ => False) rfl rfl ?aP (fun _ hk => hk.elim) ?aF ?aO ?aB ?aS ?aL ?_; (case aP => exact rfl); (case aB => exact (by repeat (first | (with_reducible first | exact HB.out | apply below_alloc | apply pw_below_drewN | apply below_drew1 | refine below_set ?_ (IsS80.ge HI163.out) | refine below_set ?_ GE160.out | refine below_set ?_ GE167.out) | exact HB.out))); (case aF => exact (fun _ _ => trivial)); (case aO => exact (by (with_reducible repeat (first | apply Kd.R_alloc | apply Kd.R_drewN | apply Kd.R_drew)); exact HO_7.out)); (case aS => exact (below_size (by repeat (first | (with_reducible first | exact HB.out | apply below_alloc | apply pw_below_drewN | apply below_drew1 | refine below_set ?_ (IsS80.ge HI163.out) | refine below_set ?_ GE160.out | refine below_set ?_ GE167.out) | exact HB.out)))); (case aL => have := LMc32.out; omega); intro v186 w36 ho hb hg hat; rw [← Ny185.out] at ho; have n0_ := Aside0.mk (Kd.S_after (ok := (fun _ => True)) (by (with_reducible repeat (first | apply Kd.S_alloc | apply Kd.S_drewN | apply Kd.S_drew)); exact Kd.S_mono HO_168001.out (fun _ hk => ⟨trivial, hk⟩)) hg hat); have n1_ := Aside0.mk (blk_grown (g := gb160) (o := .cells #[.int .i64 0, .slice none 0 0, .string (⟨#[]⟩ : ByteArray)] 37 (0, 0)) (by (with_reducible repeat (first | refine blk_drewN ?_ _ | refine blk_drew ?_ | refine blk_alloc ?_ _)); exact BK160.out) hg (Kd.R_ne HO_7.out BK160.out (by decide))); have n2_ := Aside0.mk (blk_grown (g := gb167) (o := .cells #[.int .i64 (wrap64 (t164)), u168001, .string (⟨#[]⟩ : ByteArray)] 37 (0, 0)) (by (with_reducible repeat (first | refine blk_drewN ?_ _ | refine blk_drew ?_ | refine blk_alloc ?_ _)); exact BK167.out) hg (Kd.R_ne HO_7.out BK167.out (by decide))); have n3_ := Aside0.mk (IsS80.grown (show IsS80 w _ g163 t183 t184 from by repeat (first | (with_reducible first | exact HI163.out | apply IsS80.alloc | apply IsS80.drewN | apply IsS80.drew | apply IsS80.set_0 | apply IsS80.set_1 | refine IsS80.far ?_ NB163_160.out _ | refine IsS80.far ?_ NB163_167.out _) | exact HI163.out)) hg (IsS80.own_ne HI163.out HO_7.out (by decide))); have n4_ := Aside0.mk (hb); have n5_ := Aside0.mk (ho); clear HO_168001; clear BK160; clear BK167; clear HI163; clear HB; clear HO_7; have HO_168001 := n0_; have BK160 := n1_; have BK167 := n2_; have HI163 := n3_; have HB := n4_; have HO187 := n5_; clear n0_ n1_ n2_ n3_ n4_ n5_; clear ho hb hg hat) | ((with_reducible refine gate_callee (f := 34) rfl ?_); refine goesL_ (some 46) rfl rfl Try.func34 (by kernel_rfl) rfl #[.pointer (some ⟨g163, 0, none⟩)] rfl (by (try simp only [List.map_toArray, List.map_cons, List.map_nil]); first | done | rfl | (simp only [List.length_drop, List.length_take]; rfl)) ?_; (with_reducible refine (varint_In_Err.calls g163 t183 t184 t188 t189 t190 w _ ?side1 ?side2 A33.out).mono ?_); (case side1 => repeat (first | (with_reducible first | exact HI163.out | apply IsS80.alloc | apply IsS80.drewN | apply IsS80.drew | apply IsS80.set_0 | apply IsS80.set_1 | refine IsS80.far ?_ NB163_160.out _ | refine IsS80.far ?_ NB163_167.out _) | exact HI163.out)); (case side2 => repeat (first | (with_reducible first | exact HB.out | apply below_alloc | apply pw_below_drewN | apply below_drew1 | refine below_set ?_ (IsS80.ge HI163.out) | refine below_set ?_ GE160.out | refine below_set ?_ GE167.out) | exact HB.out)); rintro e w37 ⟨rfl, hi, hb, hk⟩; refine ⟨_, rfl, ?_⟩; have n0_ := Aside0.mk (Kd.S_mono (Kd.S_keep (IsS80.apartS (show IsS80 w _ g163 t183 t184 from by repeat (first | (with_reducible first | exact HI163.out | apply IsS80.alloc | apply IsS80.drewN | apply IsS80.drew | apply IsS80.set_0 | apply IsS80.set_1 | refine IsS80.far ?_ NB163_160.out _ | refine IsS80.far ?_ NB163_167.out _) | exact HI163.out)) (by (with_reducible repeat (first | apply Kd.S_alloc | apply Kd.S_drewN | apply Kd.S_drew)); exact HO_168001.out) (by decide)) hk (fun _ h => h.2)) (fun _ h => h.1)); have n1_ := Aside0.mk (KeepBut.blk hk (g' := gb160) (o := .cells #[.int .i64 0, .slice none 0 0, .string (⟨#[]⟩ : ByteArray)] 37 (0, 0)) (by (with_reducible repeat (first | refine blk_drewN ?_ _ | refine blk_drew ?_ | refine blk_alloc ?_ _)); exact BK160.out) NB160_163.out (by simp)); have n2_ := Aside0.mk (KeepBut.blk hk (g' := gb167) (o := .cells #[.int .i64 (wrap64 (t164)), u168001, .string (⟨#[]⟩ : ByteArray)] 37 (0, 0)) (by (with_reducible repeat (first | refine blk_drewN ?_ _ | refine blk_drew ?_ | refine blk_alloc ?_ _)); exact BK167.out) NB167_163.out (by simp)); have n3_ := Aside0.mk (Kd.R_mono (Kd.R_keep (IsS80.apart (show IsS80 w _ g163 t183 t184 from by repeat (first | (with_reducible first | exact HI163.out | apply IsS80.alloc | apply IsS80.drewN | apply IsS80.drew | apply IsS80.set_0 | apply IsS80.set_1 | refine IsS80.far ?_ NB163_160.out _ | refine IsS80.far ?_ NB163_167.out _) | exact HI163.out)) (by (with_reducible repeat (first | apply Kd.R_alloc | apply Kd.R_drewN | apply Kd.R_drew)); exact HO187.out) (by decide)) hk (fun _ h => h.2)) (fun _ h => h.1)); have n4_ := Aside0.mk (hb); have n5_ := Aside0.mk (hi); clear HO_168001; clear BK160; clear BK167; clear HO187; clear HB; clear HI163; have HO_168001 := n0_; have BK160 := n1_; have BK167 := n2_; have HO187 := n3_; have HB := n4_; have HI163 := n5_; clear n0_ n1_ n2_ n3_ n4_ n5_; (try clear hb); (try clear hb2); (try clear hk); (try clear hi)))
                              go_roundg k4
                              case measure => have := HJ3.out; have := HJ20.out; have := HK3.out; have := HK4.out; omega
                              case rel => exact ⟨(y185), (IntKind.u64.wrap (x8_4 - 1)), (t189), (t190), (by first | rfl | (simp; done) | (simp [*]; done) | (simp; rw [Bool.eq_iff_iff]; simp; done)), H', ⟨by have := HJ3.out; have := HJ20.out; have := HK3.out; have := HK4.out; omega⟩, ⟨by (with_reducible repeat (first | apply Kd.R_alloc | apply Kd.R_drewN | apply Kd.R_drew)); exact HO187.out⟩, ⟨by (with_reducible repeat (first | apply Kd.S_alloc | apply Kd.S_drewN | apply Kd.S_drew)); exact Kd.S_mono HO_168001.out (fun _ hk => hk.2)⟩, ⟨by (with_reducible repeat (first | refine blk_drewN ?_ _ | refine blk_drew ?_ | refine blk_alloc ?_ _)); exact BK160.out⟩, ⟨by (with_reducible repeat (first | refine blk_drewN ?_ _ | refine blk_drew ?_ | refine blk_alloc ?_ _)); exact BK167.out⟩, ⟨by repeat (first | (with_reducible first | exact HI163.out | apply IsS80.alloc | apply IsS80.drewN | apply IsS80.drew | apply IsS80.set_0 | apply IsS80.set_1 | refine IsS80.far ?_ NB163_160.out _ | refine IsS80.far ?_ NB163_167.out _) | exact HI163.out)⟩, ⟨by repeat (first | (with_reducible first | exact HB.out | apply below_alloc | apply pw_below_drewN | apply below_drew1 | refine below_set ?_ (IsS80.ge HI163.out) | refine below_set ?_ GE160.out | refine below_set ?_ GE167.out) | exact HB.out)⟩⟩
                            · rw [if_neg c34] at H
                              have c34b0 : (t188 == 0) = false := beq_eq_false_iff_ne.mpr c34
                              have c34b1 : (t188 != 0) = true := bne_iff_ne.mpr c34
                              have H' := Aside0.mk H
                              clear H
                              go_wp2_with (first | (go_step3) | (rw [Exit.noGoto_normal]) | (rw [Exit.noGoto_exit]) | (rw [Exit.noGoto_ret]) | ((with_reducible refine gate_callee (f := 33) rfl ?_); refine goesL_ (some 41) rfl rfl Try.func33 (by kernel_rfl) rfl #[.pointer (some ⟨g163, 0, none⟩), .int .u64 2147483647] rfl (by (try simp only [List.map_toArray, List.map_cons, List.map_nil]); first | done | rfl | (simp only [List.length_drop, List.length_take]; rfl)) ?_; (with_reducible refine (varint_In_Num.calls k4 g163 x164000_4 x164001_4 2147483647 t182 t183 t184 w _ ?side1 ?side2 A31.out).mono ?_); (case side1 => repeat (first | (with_reducible first | exact HI163.out | apply IsS80.alloc | apply IsS80.drewN | apply IsS80.drew | apply IsS80.set_0 | apply IsS80.set_1 | refine IsS80.far ?_ NB163_160.out _ | refine IsS80.far ?_ NB163_167.out _) | exact HI163.out)); (case side2 => repeat (first | (with_reducible first | exact HB.out | apply below_alloc | apply pw_below_drewN | apply below_drew1 | refine below_set ?_ (IsS80.ge HI163.out) | refine below_set ?_ GE160.out | refine below_set ?_ GE167.out) | exact HB.out)); rintro e w38 ⟨rfl, hi, hb, hk⟩; refine ⟨_, rfl, ?_⟩; have n0_ := Aside0.mk (Kd.R_mono (Kd.R_keep (IsS80.apart (show IsS80 w _ g163 x164000_4 x164001_4 from by repeat (first | (with_reducible first | exact HI163.out | apply IsS80.alloc | apply IsS80.drewN | apply IsS80.drew | apply IsS80.set_0 | apply IsS80.set_1 | refine IsS80.far ?_ NB163_160.out _ | refine IsS80.far ?_ NB163_167.out _) | exact HI163.out)) (by (with_reducible repeat (first | apply Kd.R_alloc | apply Kd.R_drewN | apply Kd.R_drew)); exact HO_7.out) (by decide)) hk (fun _ h => h.2)) (fun _ h => h.1)); have n1_ := Aside0.mk (Kd.S_mono (Kd.S_keep (IsS80.apartS (show IsS80 w _ g163 x164000_4 x164001_4 from by repeat (first | (with_reducible first | exact HI163.out | apply IsS80.alloc | apply IsS80.drewN | apply IsS80.drew | apply IsS80.set_0 | apply IsS80.set_1 | refine IsS80.far ?_ NB163_160.out _ | refine IsS80.far ?_ NB163_167.out _) | exact HI163.out)) (by (with_reducible repeat (first | apply Kd.S_alloc | apply Kd.S_drewN | apply Kd.S_drew)); exact HO_168001.out) (by decide)) hk (fun _ h => h.2)) (fun _ h => h.1)); have n2_ := Aside0.mk (KeepBut.blk hk (g' := gb160) (o := .cells #[.int .i64 0, .slice none 0 0, .string (⟨#[]⟩ : ByteArray)] 37 (0, 0)) (by (with_reducible repeat (first | refine blk_drewN ?_ _ | refine blk_drew ?_ | refine blk_alloc ?_ _)); exact BK160.out) NB160_163.out (by simp)); have n3_ := Aside0.mk (KeepBut.blk hk (g' := gb167) (o := .cells #[.int .i64 (wrap64 (t164)), u168001, .string (⟨#[]⟩ : ByteArray)] 37 (0, 0)) (by (with_reducible repeat (first | refine blk_drewN ?_ _ | refine blk_drew ?_ | refine blk_alloc ?_ _)); exact BK167.out) NB167_163.out (by simp)); have n4_ := Aside0.mk (hb); have n5_ := Aside0.mk (hi); clear HO_7; clear HO_168001; clear BK160; clear BK167; clear HB; clear HI163; have HO_7 := n0_; have HO_168001 := n1_; have BK160 := n2_; have BK167 := n3_; have HB := n4_; have HI163 := n5_; clear n0_ n1_ n2_ n3_ n4_ n5_; (try clear hb); (try clear hb2); (try clear hk); (try clear hi)) | ((with_reducible refine gate_builtin (b := .append) (xs := #[.tmp 39, .tmp 43]) rfl ?_); at_builtin; refine Kd.R_append (Kd.int .i64) (w0 := w) w.heap.size rfl (.tmp 39) (.tmp 43) 22 3 (.int .i64 0) 8 rfl Try.underlying22 info3 rfl (by decide) (by omega) u7 x7_4 (wrap64 (t182)) [.int .i64 (wrap64 (t182))] (fun _ => True) (fun _ => False) rfl rfl ?aP (fun _ hk => hk.elim) ?aF ?aO ?aB ?aS ?aL ?_; (case aP => exact rfl); (case aB => exact (by repeat (first | (with_reducible first | exact HB.out | apply below_alloc | apply pw_below_drewN | apply below_drew1 | refine below_set ?_ (IsS80.ge HI163.out) | refine below_set ?_ GE160.out | refine below_set ?_ GE167.out) | exact HB.out))); (case aF => exact (fun _ _ => trivial)); (case aO => exact (by (with_reducible repeat (first | apply Kd.R_alloc | apply Kd.R_drewN | apply Kd.R_drew)); exact HO_7.out)); (case aS => exact (below_size (by repeat (first | (with_reducible first | exact HB.out | apply below_alloc | apply pw_below_drewN | apply below_drew1 | refine below_set ?_ (IsS80.ge HI163.out) | refine below_set ?_ GE160.out | refine below_set ?_ GE167.out) | exact HB.out)))); (case aL => have := LMc32.out; omega); intro v186 w39 ho hb hg hat; rw [← Ny185.out] at ho; have n0_ := Aside0.mk (Kd.S_after (ok := (fun _ => True)) (by (with_reducible repeat (first | apply Kd.S_alloc | apply Kd.S_drewN | apply Kd.S_drew)); exact Kd.S_mono HO_168001.out (fun _ hk => ⟨trivial, hk⟩)) hg hat); have n1_ := Aside0.mk (blk_grown (g := gb160) (o := .cells #[.int .i64 0, .slice none 0 0, .string (⟨#[]⟩ : ByteArray)] 37 (0, 0)) (by (with_reducible repeat (first | refine blk_drewN ?_ _ | refine blk_drew ?_ | refine blk_alloc ?_ _)); exact BK160.out) hg (Kd.R_ne HO_7.out BK160.out (by decide))); have n2_ := Aside0.mk (blk_grown (g := gb167) (o := .cells #[.int .i64 (wrap64 (t164)), u168001, .string (⟨#[]⟩ : ByteArray)] 37 (0, 0)) (by (with_reducible repeat (first | refine blk_drewN ?_ _ | refine blk_drew ?_ | refine blk_alloc ?_ _)); exact BK167.out) hg (Kd.R_ne HO_7.out BK167.out (by decide))); have n3_ := Aside0.mk (IsS80.grown (show IsS80 w _ g163 t183 t184 from by repeat (first | (with_reducible first | exact HI163.out | apply IsS80.alloc | apply IsS80.drewN | apply IsS80.drew | apply IsS80.set_0 | apply IsS80.set_1 | refine IsS80.far ?_ NB163_160.out _ | refine IsS80.far ?_ NB163_167.out _) | exact HI163.out)) hg (IsS80.own_ne HI163.out HO_7.out (by decide))); have n4_ := Aside0.mk (hb); have n5_ := Aside0.mk (ho); clear HO_168001; clear BK160; clear BK167; clear HI163; clear HB; clear HO_7; have HO_168001 := n0_; have BK160 := n1_; have BK167 := n2_; have HI163 := n3_; have HB := n4_; have HO187 := n5_; clear n0_ n1_ n2_ n3_ n4_ n5_; clear ho hb hg hat) | ((with_reducible refine gate_callee (f := 34) rfl ?_); refine goesL_ (some 46) rfl rfl Try.func34 (by kernel_rfl) rfl #[.pointer (some ⟨g163, 0, none⟩)] rfl (by (try simp only [List.map_toArray, List.map_cons, List.map_nil]); first | done | rfl | (simp only [List.length_drop, List.length_take]; rfl)) ?_; (with_reducible refine (varint_In_Err.calls g163 t183 t184 t188 t189 t190 w _ ?side1 ?side2 A33.out).mono ?_); (case side1 => repeat (first | (with_reducible first | exact HI163.out | apply IsS80.alloc | apply IsS80.drewN | apply IsS80.drew | apply IsS80.set_0 | apply IsS80.set_1 | refine IsS80.far ?_ NB163_160.out _ | refine IsS80.far ?_ NB163_167.out _) | exact HI163.out)); (case side2 => repeat (first | (with_reducible first | exact HB.out | apply below_alloc | apply pw_below_drewN | apply below_drew1 | refine below_set ?_ (IsS80.ge HI163.out) | refine below_set ?_ GE160.out | refine below_set ?_ GE167.out) | exact HB.out)); rintro e w40 ⟨rfl, hi, hb, hk⟩; refine ⟨_, rfl, ?_⟩; have n0_ := Aside0.mk (Kd.S_mono (Kd.S_keep (IsS80.apartS (show IsS80 w _ g163 t183 t184 from by repeat (first | (with_reducible first | exact HI163.out | apply IsS80.alloc | apply IsS80.drewN | apply IsS80.drew | apply IsS80.set_0 | apply IsS80.set_1 | refine IsS80.far ?_ NB163_160.out _ | refine IsS80.far ?_ NB163_167.out _) | exact HI163.out)) (by (with_reducible repeat (first | apply Kd.S_alloc | apply Kd.S_drewN | apply Kd.S_drew)); exact HO_168001.out) (by decide)) hk (fun _ h => h.2)) (fun _ h => h.1)); have n1_ := Aside0.mk (KeepBut.blk hk (g' := gb160) (o := .cells #[.int .i64 0, .slice none 0 0, .string (⟨#[]⟩ : ByteArray)] 37 (0, 0)) (by (with_reducible repeat (first | refine blk_drewN ?_ _ | refine blk_drew ?_ | refine blk_alloc ?_ _)); exact BK160.out) NB160_163.out (by simp)); have n2_ := Aside0.mk (KeepBut.blk hk (g' := gb167) (o := .cells #[.int .i64 (wrap64 (t164)), u168001, .string (⟨#[]⟩ : ByteArray)] 37 (0, 0)) (by (with_reducible repeat (first | refine blk_drewN ?_ _ | refine blk_drew ?_ | refine blk_alloc ?_ _)); exact BK167.out) NB167_163.out (by simp)); have n3_ := Aside0.mk (Kd.R_mono (Kd.R_keep (IsS80.apart (show IsS80 w _ g163 t183 t184 from by repeat (first | (with_reducible first | exact HI163.out | apply IsS80.alloc | apply IsS80.drewN | apply IsS80.drew | apply IsS80.set_0 | apply IsS80.set_1 | refine IsS80.far ?_ NB163_160.out _ | refine IsS80.far ?_ NB163_167.out _) | exact HI163.out)) (by (with_reducible repeat (first | apply Kd.R_alloc | apply Kd.R_drewN | apply Kd.R_drew)); exact HO187.out) (by decide)) hk (fun _ h => h.2)) (fun _ h => h.1)); have n4_ := Aside0.mk (hb); have n5_ := Aside0.mk (hi); clear HO_168001; clear BK160; clear BK167; clear HO187; clear HB; clear HI163; have HO_168001 := n0_; have BK160 := n1_; have BK167 := n2_; have HO187 := n3_; have HB := n4_; have HI163 := n5_; clear n0_ n1_ n2_ n3_ n4_ n5_; (try clear hb); (try clear hb2); (try clear hk); (try clear hi)))
                              go_meet
                              case rel => exact ⟨_, (t189), (t190), (x168001_3), (u168001), H', ⟨by have := HJ3.out; have := HJ20.out; have := HK3.out; have := HK4.out; first | omega | exact Nat.le_refl _⟩, ⟨by (with_reducible repeat (first | apply Kd.S_alloc | apply Kd.S_drewN | apply Kd.S_drew)); exact Kd.S_mono HO_168001.out (fun _ hk => trivial)⟩, ⟨by (with_reducible repeat (first | refine blk_drewN ?_ _ | refine blk_drew ?_ | refine blk_alloc ?_ _)); exact BK160.out⟩, ⟨by (with_reducible repeat (first | refine blk_drewN ?_ _ | refine blk_drew ?_ | refine blk_alloc ?_ _)); exact BK167.out⟩, ⟨by repeat (first | (with_reducible first | exact HI163.out | apply IsS80.alloc | apply IsS80.drewN | apply IsS80.drew | apply IsS80.set_0 | apply IsS80.set_1 | refine IsS80.far ?_ NB163_160.out _ | refine IsS80.far ?_ NB163_167.out _) | exact HI163.out)⟩, ⟨by repeat (first | (with_reducible first | exact HB.out | apply below_alloc | apply pw_below_drewN | apply below_drew1 | refine below_set ?_ (IsS80.ge HI163.out) | refine below_set ?_ GE160.out | refine below_set ?_ GE167.out) | exact HB.out)⟩⟩
                          · rw [if_neg c32] at H
                            exact absurd H (by simp)
                        · rw [if_neg c30] at H
                          have c30b0 : decide (0 < x8_4) = false := decide_eq_false c30
                          clear c30
                          by_cases c41 : x168001_3.length < 5864062014805
                          · rw [if_pos c41] at H
                            have LMc41 := Aside0.mk c41
                            clear c41
                            obtain ⟨y179, hy179⟩ : ∃ y_ : List (List Int), y_ = (x168001_3 ++ [x7_4]) := ⟨_, rfl⟩
                            replace H : (request_Parse.l0 k4 x6_20 (IntKind.u64.wrap (x31_3 + 1)) x164000_4 x164001_4 (wrap64 (t164)) y179 (⟨#[]⟩ : ByteArray)) = some (r1, r2, r3, r4) := by first | (rw [hy179]; with_reducible exact H) | (have H2_ := (Option.bind_some _ _).symm.trans H; rw [hy179]; with_reducible exact H2_) | (have H2_ := (Option.bind_some _ _).symm.trans H; with_reducible exact H2_) | with_reducible exact H | (rw [hy179]; exact H) | exact H
                            have Ny179 := Aside0.mk hy179
                            clear hy179
                            have H' := Aside0.mk H
                            clear H
                            have hnb42 := NB167_160.out
                            have hnc42 := NB160_167.out
                            have hnb43 := NB167_163.out
                            have hnc43 := NB163_167.out
                            have hcz44_0 : wr.cell? ⟨gb167, 0, none⟩ = some (.int .i64 (wrap64 (t164))) := (blk_cell BK167.out 0).trans rfl
                            have hcz44_1 : wr.cell? ⟨gb167, 1, none⟩ = some (u168001) := (blk_cell BK167.out 1).trans rfl
                            have hcz44_2 : wr.cell? ⟨gb167, 2, none⟩ = some (.string (⟨#[]⟩ : ByteArray)) := (blk_cell BK167.out 2).trans rfl
                            have hfz44_0 := blk_frozen BK167.out 0
                            have hfz44_1 := blk_frozen BK167.out 1
                            have hfz44_2 := blk_frozen BK167.out 2
                            obtain ⟨Ao46, co46, eo46⟩ := Kd.R_slice HO_7.out
                            subst eo46
                            go_wp2_with (first | (go_step3) | (rw [Exit.noGoto_normal]) | (rw [Exit.noGoto_exit]) | (rw [Exit.noGoto_ret]) | ((with_reducible refine gate_builtin (b := .append) (xs := #[.tmp 49, .tmp 51]) rfl ?_); at_builtin; refine Kd.S_append (Kd.slice 3 (Kd.int .i64)) (w0 := w) w.heap.size rfl (.tmp 49) (.tmp 51) 35 22 (.slice none 0 0) 24 rfl Try.underlying35 info22 rfl (by decide) (by omega) u168001 x168001_3 x7_4 [.slice Ao46 x7_4.length co46] (fun _ => True) (fun k_ => some k_ = (.slice Ao46 x7_4.length co46 : Value).ownBlock) rfl rfl ?aP (fun k_ hk_ => ((Kd.R_mono (ok' := fun k_ => ((fun _ => True)) k_ ∧ some k_ ≠ (u168001 : Value).ownBlock) (Kd.R_apart' (HO_7.out) (Kd.S_typed HO_168001.out) (by decide)) (fun k_ hk => ⟨trivial, hk.2⟩))).1 k_ hk_.symm) ?aF ?aO ?aB ?aS ?aL ?_; (case aP => exact Kd.M_row (Kd.R_mono (Kd.R_tight rfl (Kd.R_mono (ok' := fun k_ => ((fun _ => True)) k_ ∧ some k_ ≠ (u168001 : Value).ownBlock) (Kd.R_apart' (HO_7.out) (Kd.S_typed HO_168001.out) (by decide)) (fun k_ hk => ⟨trivial, hk.2⟩))) (fun _ h_ => h_))); (case aB => exact (by repeat (first | (with_reducible first | exact HB.out | apply below_alloc | apply pw_below_drewN | apply below_drew1 | refine below_set ?_ (IsS80.ge HI163.out) | refine below_set ?_ GE160.out | refine below_set ?_ GE167.out) | exact HB.out))); (case aF => exact (fun _ _ => trivial)); (case aO => exact (by (with_reducible repeat (first | apply Kd.S_alloc | apply Kd.S_drewN | apply Kd.S_drew)); exact Kd.S_mono HO_168001.out (fun k_ hk => ⟨trivial, fun e_ => hk e_⟩))); (case aS => exact (below_size (by repeat (first | (with_reducible first | exact HB.out | apply below_alloc | apply pw_below_drewN | apply below_drew1 | refine below_set ?_ (IsS80.ge HI163.out) | refine below_set ?_ GE160.out | refine below_set ?_ GE167.out) | exact HB.out)))); (case aL => have := LMc41.out; omega); intro v180 w45 ho hb hg hat; rw [← Ny179.out] at ho; have n0_ := Aside0.mk (blk_grown (g := gb160) (o := .cells #[.int .i64 0, .slice none 0 0, .string (⟨#[]⟩ : ByteArray)] 37 (0, 0)) (by (with_reducible repeat (first | refine blk_drewN ?_ _ | refine blk_drew ?_ | refine blk_alloc ?_ _)); exact BK160.out) hg (Kd.S_ne HO_168001.out BK160.out (by decide))); have n1_ := Aside0.mk (blk_grown (g := gb167) (o := .cells #[.int .i64 (wrap64 (t164)), u168001, .string (⟨#[]⟩ : ByteArray)] 37 (0, 0)) (by (with_reducible repeat (first | refine blk_drewN ?_ _ | refine blk_drew ?_ | refine blk_alloc ?_ _)); exact BK167.out) hg (Kd.S_ne HO_168001.out BK167.out (by decide))); have n2_ := Aside0.mk (IsS80.grown (show IsS80 w _ g163 x164000_4 x164001_4 from by repeat (first | (with_reducible first | exact HI163.out | apply IsS80.alloc | apply IsS80.drewN | apply IsS80.drew | apply IsS80.set_0 | apply IsS80.set_1 | refine IsS80.far ?_ NB163_160.out _ | refine IsS80.far ?_ NB163_167.out _) | exact HI163.out)) hg (IsS80.own_neS HI163.out HO_168001.out (by decide))); have n3_ := Aside0.mk (hb); have n4_ := Aside0.mk (ho); clear BK160; clear BK167; clear HI163; clear HB; clear HO_168001; clear HO_7; have BK160 := n0_; have BK167 := n1_; have HI163 := n2_; have HB := n3_; have HO181 := n4_; clear n0_ n1_ n2_ n3_ n4_; clear ho hb hg hat; obtain ⟨Ao47, co47, eo47⟩ := Kd.S_slice HO181.out; subst eo47; have hcz48_0 : w45.cell? ⟨gb167, 0, none⟩ = some (.int .i64 (wrap64 (t164))) := (blk_cell BK167.out 0).trans rfl; have hcz48_1 : w45.cell? ⟨gb167, 1, none⟩ = some (u168001) := (blk_cell BK167.out 1).trans rfl; have hcz48_2 : w45.cell? ⟨gb167, 2, none⟩ = some (.string (⟨#[]⟩ : ByteArray)) := (blk_cell BK167.out 2).trans rfl; have hfz48_0 := blk_frozen BK167.out 0; have hfz48_1 := blk_frozen BK167.out 1; have hfz48_2 := blk_frozen BK167.out 2))
                            go_roundg k4
                            case measure => have := HJ3.out; have := HJ20.out; have := HK3.out; have := HK4.out; omega
                            case rel => exact ⟨(IntKind.u64.wrap (x31_3 + 1)), (x164000_4), (x164001_4), (y179), (.slice Ao47 y179.length co47), (by first | rfl | (simp; done) | (simp [*]; done) | (simp; rw [Bool.eq_iff_iff]; simp; done)), H', ⟨by have := HJ3.out; have := HJ20.out; have := HK3.out; have := HK4.out; omega⟩, ⟨by (with_reducible repeat (first | apply Kd.S_alloc | apply Kd.S_drewN | apply Kd.S_drew)); exact Kd.S_mono (Kd.S_far (p := ⟨gb167, 1, none⟩) (Kd.S_types HO181.out BK167.out (by decide)) (fun _ hk => hk.2) (.slice Ao47 y179.length co47)) (fun _ hk => trivial)⟩, ⟨by (with_reducible repeat (first | refine blk_drewN ?_ _ | refine blk_drew ?_ | refine blk_alloc ?_ _)); refine blk_far ?_ NB160_167.out _; (with_reducible repeat (first | refine blk_drewN ?_ _ | refine blk_drew ?_ | refine blk_alloc ?_ _)); exact BK160.out⟩, ⟨by (with_reducible repeat (first | refine blk_drewN ?_ _ | refine blk_drew ?_ | refine blk_alloc ?_ _)); refine blk_put (cs := #[.int .i64 (wrap64 (t164)), u168001, .string (⟨#[]⟩ : ByteArray)]) ?_ 1 _ rfl; (with_reducible repeat (first | refine blk_drewN ?_ _ | refine blk_drew ?_ | refine blk_alloc ?_ _)); exact BK167.out⟩, ⟨by repeat (first | (with_reducible first | exact HI163.out | apply IsS80.alloc | apply IsS80.drewN | apply IsS80.drew | apply IsS80.set_0 | apply IsS80.set_1 | refine IsS80.far ?_ NB163_160.out _ | refine IsS80.far ?_ NB163_167.out _) | exact HI163.out)⟩, ⟨by repeat (first | (with_reducible first | exact HB.out | apply below_alloc | apply pw_below_drewN | apply below_drew1 | refine below_set ?_ (IsS80.ge HI163.out) | refine below_set ?_ GE160.out | refine below_set ?_ GE167.out) | exact HB.out)⟩⟩
                          · rw [if_neg c41] at H
                            exact absurd H (by simp)
                  · rw [if_neg c27] at H
                    have c27b0 : decide (x31_3 < x6_20) = false := decide_eq_false c27
                    clear c27
                    (first | rw [c27b0] | (simp only [i64_w, i32_w]; rw [c27b0]) | skip)
                    have H' := Aside0.mk H
                    clear H
                    go_wp2_with (first | (go_step3) | (rw [Exit.noGoto_normal]) | (rw [Exit.noGoto_exit]) | (rw [Exit.noGoto_ret]))
                    go_meet
                    case rel => exact ⟨_, (x164000_3), (x164001_3), (x168001_3), (u168001), H', ⟨by have := HJ3.out; have := HJ20.out; have := HK3.out; first | omega | exact Nat.le_refl _⟩, ⟨by (with_reducible repeat (first | apply Kd.S_alloc | apply Kd.S_drewN | apply Kd.S_drew)); exact HO_168001.out⟩, ⟨by (with_reducible repeat (first | refine blk_drewN ?_ _ | refine blk_drew ?_ | refine blk_alloc ?_ _)); exact BK160.out⟩, ⟨by (with_reducible repeat (first | refine blk_drewN ?_ _ | refine blk_drew ?_ | refine blk_alloc ?_ _)); exact BK167.out⟩, ⟨by repeat (first | (with_reducible first | exact HI163.out | apply IsS80.alloc | apply IsS80.drewN | apply IsS80.drew | apply IsS80.set_0 | apply IsS80.set_1 | refine IsS80.far ?_ NB163_160.out _ | refine IsS80.far ?_ NB163_167.out _) | exact HI163.out)⟩, ⟨by repeat (first | (with_reducible first | exact HB.out | apply below_alloc | apply pw_below_drewN | apply below_drew1 | refine below_set ?_ (IsS80.ge HI163.out) | refine below_set ?_ GE160.out | refine below_set ?_ GE167.out) | exact HB.out)⟩⟩
            case rest =>
              clear HC26
              try clear c1
              try clear c2
              try clear p2
              try clear c3
              try clear c4
              try clear p6
              try clear c9
              try clear c10
              try clear c13
              try clear c13b0
              try clear c13b1
              try clear c15
              try clear c16
              try clear c19
              try clear c23
              try clear c23b0
              try clear c27
              try clear c27b0
              try clear c30
              try clear c30b0
              try clear c32
              try clear c33
              try clear c34
              try clear c34b0
              try clear c34b1
              try clear c35
              try clear c41
              try clear c42
              try clear c43
              try clear hcz11_0
              try clear hcz11_1
              try clear hcz11_2
              try clear hcz17_0
              try clear hcz17_1
              try clear hcz17_2
              try clear hcz44_0
              try clear hcz44_1
              try clear hcz44_2
              try clear hcz48_0
              try clear hcz48_1
              try clear hcz48_2
              try clear hfz11_0
              try clear hfz11_1
              try clear hfz11_2
              try clear hfz17_0
              try clear hfz17_1
              try clear hfz17_2
              try clear hfz44_0
              try clear hfz44_1
              try clear hfz44_2
              try clear hfz48_0
              try clear hfz48_1
              try clear hfz48_2
              try clear p2
              try clear p6
              obtain ⟨kq, x164000_25, x164001_25, x168001_25, u168001, HA, HJ25, HO_168001, BK160, BK167, HI163, HB⟩ := hcut
              cases kq with
              | zero => exact absurd HA.out (by simp [request_Parse.j4])
              | succ kj25 =>
                have H := HA.out
                clear HA
                simp only [request_Parse.j4] at H
                replace H := Option.bind_eq_some_iff.mp H
                obtain ⟨⟨t191, t192, t193⟩, A490, H⟩ := H
                replace H : ((varint_In_End.f t192 t193).bind fun bt194 => (if bt194.1 = 0 then (some ((wrap64 (t164)), x168001_25, t191, 0)) else (some (0, ([] : List (List Int)), (⟨#[]⟩ : ByteArray), bt194.1)))) = some (r1, r2, r3, r4) := H
                have A49 := Aside0.mk A490
                clear A490
                replace H := Option.bind_eq_some_iff.mp H
                obtain ⟨⟨t194, t195, t196⟩, A500, H⟩ := H
                replace H : (if t194 = 0 then (some ((wrap64 (t164)), x168001_25, t191, 0)) else (some (0, ([] : List (List Int)), (⟨#[]⟩ : ByteArray), t194))) = some (r1, r2, r3, r4) := H
                have A50 := Aside0.mk A500
                clear A500
                by_cases c51 : t194 = 0
                · rw [if_pos c51] at H
                  have c51b0 : (t194 == 0) = true := beq_iff_eq.mpr c51
                  have c51b1 : (t194 != 0) = false := bne_eq_false_iff_eq.mpr c51
                  clear c51
                  simp only [Option.some.injEq, Prod.mk.injEq] at H
                  obtain ⟨rfl, rfl, rfl, rfl⟩ := H
                  go_wp2_with (first | (go_step3) | (rw [Exit.noGoto_normal]) | (rw [Exit.noGoto_exit]) | (rw [Exit.noGoto_ret]) | ((with_reducible refine gate_callee (f := 38) rfl ?_); refine goesL_ (some 56) rfl rfl Try.func38 (by kernel_rfl) rfl #[.pointer (some ⟨g163, 0, none⟩), .int .i64 65536] rfl (by (try simp only [List.map_toArray, List.map_cons, List.map_nil]); first | done | rfl | (simp only [List.length_drop, List.length_take]; rfl)) ?_; (with_reducible refine (varint_In_Text.calls kj25 g163 x164000_25 x164001_25 65536 t191 t192 t193 w _ ?side1 ?side2 A49.out).mono ?_); (case side1 => repeat (first | (with_reducible first | exact HI163.out | apply IsS80.alloc | apply IsS80.drewN | apply IsS80.drew | apply IsS80.set_0 | apply IsS80.set_1 | refine IsS80.far ?_ NB163_160.out _ | refine IsS80.far ?_ NB163_167.out _) | exact HI163.out)); (case side2 => repeat (first | (with_reducible first | exact HB.out | apply below_alloc | apply pw_below_drewN | apply below_drew1 | refine below_set ?_ (IsS80.ge HI163.out) | refine below_set ?_ GE160.out | refine below_set ?_ GE167.out) | exact HB.out)); rintro e w52 ⟨rfl, hi, hb, hk⟩; refine ⟨_, rfl, ?_⟩; have n0_ := Aside0.mk (Kd.S_mono (Kd.S_keep (IsS80.apartS (show IsS80 w _ g163 x164000_25 x164001_25 from by repeat (first | (with_reducible first | exact HI163.out | apply IsS80.alloc | apply IsS80.drewN | apply IsS80.drew | apply IsS80.set_0 | apply IsS80.set_1 | refine IsS80.far ?_ NB163_160.out _ | refine IsS80.far ?_ NB163_167.out _) | exact HI163.out)) (by (with_reducible repeat (first | apply Kd.S_alloc | apply Kd.S_drewN | apply Kd.S_drew)); exact HO_168001.out) (by decide)) hk (fun _ h => h.2)) (fun _ h => h.1)); have n1_ := Aside0.mk (KeepBut.blk hk (g' := gb160) (o := .cells #[.int .i64 0, .slice none 0 0, .string (⟨#[]⟩ : ByteArray)] 37 (0, 0)) (by (with_reducible repeat (first | refine blk_drewN ?_ _ | refine blk_drew ?_ | refine blk_alloc ?_ _)); exact BK160.out) NB160_163.out (by simp)); have n2_ := Aside0.mk (KeepBut.blk hk (g' := gb167) (o := .cells #[.int .i64 (wrap64 (t164)), u168001, .string (⟨#[]⟩ : ByteArray)] 37 (0, 0)) (by (with_reducible repeat (first | refine blk_drewN ?_ _ | refine blk_drew ?_ | refine blk_alloc ?_ _)); exact BK167.out) NB167_163.out (by simp)); have n3_ := Aside0.mk (hb); have n4_ := Aside0.mk (hi); clear HO_168001; clear BK160; clear BK167; clear HB; clear HI163; have HO_168001 := n0_; have BK160 := n1_; have BK167 := n2_; have HB := n3_; have HI163 := n4_; clear n0_ n1_ n2_ n3_ n4_; (try clear hb); (try clear hb2); (try clear hk); (try clear hi); have hnb53 := NB167_160.out; have hnc53 := NB160_167.out; have hnb54 := NB167_163.out; have hnc54 := NB163_167.out; have hcz55_0 : w52.cell? ⟨gb167, 0, none⟩ = some (.int .i64 (wrap64 (t164))) := (blk_cell BK167.out 0).trans rfl; have hcz55_1 : w52.cell? ⟨gb167, 1, none⟩ = some (u168001) := (blk_cell BK167.out 1).trans rfl; have hcz55_2 : w52.cell? ⟨gb167, 2, none⟩ = some (.string (⟨#[]⟩ : ByteArray)) := (blk_cell BK167.out 2).trans rfl; have hfz55_0 := blk_frozen BK167.out 0; have hfz55_1 := blk_frozen BK167.out 1; have hfz55_2 := blk_frozen BK167.out 2) | ((with_reducible refine gate_callee (f := 36) rfl ?_); refine goesL_ (some 59) rfl rfl Try.func36 (by kernel_rfl) rfl #[.pointer (some ⟨g163, 0, none⟩)] rfl (by (try simp only [List.map_toArray, List.map_cons, List.map_nil]); first | done | rfl | (simp only [List.length_drop, List.length_take]; rfl)) ?_; (with_reducible refine (varint_In_End.calls g163 t192 t193 t194 t195 t196 w _ ?side1 ?side2 A50.out).mono ?_); (case side1 => repeat (first | (with_reducible first | exact HI163.out | apply IsS80.alloc | apply IsS80.drewN | apply IsS80.drew | apply IsS80.set_0 | apply IsS80.set_1 | refine IsS80.far ?_ NB163_160.out _ | refine IsS80.far ?_ NB163_167.out _) | exact HI163.out)); (case side2 => repeat (first | (with_reducible first | exact HB.out | apply below_alloc | apply pw_below_drewN | apply below_drew1 | refine below_set ?_ (IsS80.ge HI163.out) | refine below_set ?_ GE160.out | refine below_set ?_ GE167.out) | exact HB.out)); rintro e w56 ⟨rfl, hi, hb, hk⟩; refine ⟨_, rfl, ?_⟩; have n0_ := Aside0.mk (Kd.S_mono (Kd.S_keep (IsS80.apartS (show IsS80 w _ g163 t192 t193 from by repeat (first | (with_reducible first | exact HI163.out | apply IsS80.alloc | apply IsS80.drewN | apply IsS80.drew | apply IsS80.set_0 | apply IsS80.set_1 | refine IsS80.far ?_ NB163_160.out _ | refine IsS80.far ?_ NB163_167.out _) | exact HI163.out)) (by (with_reducible repeat (first | apply Kd.S_alloc | apply Kd.S_drewN | apply Kd.S_drew)); exact (Kd.S_mono (Kd.S_far (p := ⟨gb167, 2, none⟩) (Kd.S_types HO_168001.out BK167.out (by decide)) (fun _ hk => hk.2) (.string t191)) (fun _ h_ => h_.1))) (by decide)) hk (fun _ h => h.2)) (fun _ h => h.1)); have n1_ := Aside0.mk (KeepBut.blk hk (g' := gb160) (o := .cells #[.int .i64 0, .slice none 0 0, .string (⟨#[]⟩ : ByteArray)] 37 (0, 0)) (by (with_reducible repeat (first | refine blk_drewN ?_ _ | refine blk_drew ?_ | refine blk_alloc ?_ _)); refine blk_far ?_ NB160_167.out _; (with_reducible repeat (first | refine blk_drewN ?_ _ | refine blk_drew ?_ | refine blk_alloc ?_ _)); exact BK160.out) NB160_163.out (by simp)); have n2_ := Aside0.mk (KeepBut.blk hk (g' := gb167) (o := .cells #[.int .i64 (wrap64 (t164)), u168001, .string t191] 37 (0, 0)) (by (with_reducible repeat (first | refine blk_drewN ?_ _ | refine blk_drew ?_ | refine blk_alloc ?_ _)); refine blk_put (cs := #[.int .i64 (wrap64 (t164)), u168001, .string (⟨#[]⟩ : ByteArray)]) ?_ 2 _ rfl; (with_reducible repeat (first | refine blk_drewN ?_ _ | refine blk_drew ?_ | refine blk_alloc ?_ _)); exact BK167.out) NB167_163.out (by simp)); have n3_ := Aside0.mk (hb); have n4_ := Aside0.mk (hi); clear HO_168001; clear BK160; clear BK167; clear HB; clear HI163; have HO_168001 := n0_; have BK160 := n1_; have BK167 := n2_; have HB := n3_; have HI163 := n4_; clear n0_ n1_ n2_ n3_ n4_; (try clear hb); (try clear hb2); (try clear hk); (try clear hi); have hcz57_0 : w56.cell? ⟨gb167, 0, none⟩ = some (.int .i64 (wrap64 (t164))) := (blk_cell BK167.out 0).trans rfl; have hcz57_1 : w56.cell? ⟨gb167, 1, none⟩ = some (u168001) := (blk_cell BK167.out 1).trans rfl; have hcz57_2 : w56.cell? ⟨gb167, 2, none⟩ = some (.string t191) := (blk_cell BK167.out 2).trans rfl; have hfz57_0 := blk_frozen BK167.out 0; have hfz57_1 := blk_frozen BK167.out 1; have hfz57_2 := blk_frozen BK167.out 2; have hnb58 := NB160_163.out; have hnc58 := NB163_160.out; have hcz59_0 : w56.cell? ⟨gb160, 0, none⟩ = some (.int .i64 0) := (blk_cell BK160.out 0).trans rfl; have hcz59_1 : w56.cell? ⟨gb160, 1, none⟩ = some (.slice none 0 0) := (blk_cell BK160.out 1).trans rfl; have hcz59_2 : w56.cell? ⟨gb160, 2, none⟩ = some (.string (⟨#[]⟩ : ByteArray)) := (blk_cell BK160.out 2).trans rfl; have hfz59_0 := blk_frozen BK160.out 0; have hfz59_1 := blk_frozen BK160.out 1; have hfz59_2 := blk_frozen BK160.out 2; obtain ⟨Ao60, co60, eo60⟩ := Kd.S_slice HO_168001.out; subst eo60))
                  refine bodyPost_ret (results_ct rfl _ _ gb160 37 #[.int .i64 (wrap64 (t164)), .slice Ao60 x168001_25.length co60, .string t191] (0, 0) _ rfl (by (with_reducible repeat (first | refine blk_drewN ?_ _ | refine blk_drew ?_ | refine blk_alloc ?_ _)); refine blk_put (cs := #[.int .i64 (wrap64 (t164)), .slice Ao60 x168001_25.length co60, .string (⟨#[]⟩ : ByteArray)]) ?_ 2 _ rfl; (with_reducible repeat (first | refine blk_drewN ?_ _ | refine blk_drew ?_ | refine blk_alloc ?_ _)); refine blk_put (cs := #[.int .i64 (wrap64 (t164)), .slice none 0 0, .string (⟨#[]⟩ : ByteArray)]) ?_ 1 _ rfl; (with_reducible repeat (first | refine blk_drewN ?_ _ | refine blk_drew ?_ | refine blk_alloc ?_ _)); refine blk_put (cs := #[.int .i64 0, .slice none 0 0, .string (⟨#[]⟩ : ByteArray)]) ?_ 0 _ rfl; (with_reducible repeat (first | refine blk_drewN ?_ _ | refine blk_drew ?_ | refine blk_alloc ?_ _)); exact BK160.out) Try.underlying37 rfl (by kernel_rfl)) rfl ?_
                  exact ⟨_, by first | rfl | (simp [errW_none, errW_some] <;> rfl) | (simp [*, errW_none, errW_some] <;> rfl), by (with_reducible repeat (first | apply Kd.S_alloc | apply Kd.S_drewN | apply Kd.S_drew)); exact Kd.S_mono (Kd.S_far (p := ⟨gb160, 2, none⟩) (Kd.S_far (p := ⟨gb160, 1, none⟩) (Kd.S_far (p := ⟨gb160, 0, none⟩) (Kd.S_types HO_168001.out BK160.out (by decide)) (fun _ hk => hk.2) (.int .i64 (wrap64 (t164)))) (fun _ hk => hk.2) (.slice Ao60 x168001_25.length co60)) (fun _ hk => hk.2) (.string t191)) (fun _ hk => trivial), by repeat (first | (with_reducible first | exact HB.out | apply below_alloc | apply pw_below_drewN | apply below_drew1 | refine below_set ?_ (IsS80.ge HI163.out) | refine below_set ?_ GE160.out | refine below_set ?_ GE167.out) | exact HB.out)⟩
                · rw [if_neg c51] at H
                  have c51b0 : (t194 == 0) = false := beq_eq_false_iff_ne.mpr c51
                  have c51b1 : (t194 != 0) = true := bne_iff_ne.mpr c51
                  simp only [Option.some.injEq, Prod.mk.injEq] at H
                  obtain ⟨rfl, rfl, rfl, rfl⟩ := H
                  go_wp2_with (first | (go_step3) | (rw [Exit.noGoto_normal]) | (rw [Exit.noGoto_exit]) | (rw [Exit.noGoto_ret]) | ((with_reducible refine gate_callee (f := 38) rfl ?_); refine goesL_ (some 56) rfl rfl Try.func38 (by kernel_rfl) rfl #[.pointer (some ⟨g163, 0, none⟩), .int .i64 65536] rfl (by (try simp only [List.map_toArray, List.map_cons, List.map_nil]); first | done | rfl | (simp only [List.length_drop, List.length_take]; rfl)) ?_; (with_reducible refine (varint_In_Text.calls kj25 g163 x164000_25 x164001_25 65536 t191 t192 t193 w _ ?side1 ?side2 A49.out).mono ?_); (case side1 => repeat (first | (with_reducible first | exact HI163.out | apply IsS80.alloc | apply IsS80.drewN | apply IsS80.drew | apply IsS80.set_0 | apply IsS80.set_1 | refine IsS80.far ?_ NB163_160.out _ | refine IsS80.far ?_ NB163_167.out _) | exact HI163.out)); (case side2 => repeat (first | (with_reducible first | exact HB.out | apply below_alloc | apply pw_below_drewN | apply below_drew1 | refine below_set ?_ (IsS80.ge HI163.out) | refine below_set ?_ GE160.out | refine below_set ?_ GE167.out) | exact HB.out)); rintro e w61 ⟨rfl, hi, hb, hk⟩; refine ⟨_, rfl, ?_⟩; have n0_ := Aside0.mk (Kd.S_mono (Kd.S_keep (IsS80.apartS (show IsS80 w _ g163 x164000_25 x164001_25 from by repeat (first | (with_reducible first | exact HI163.out | apply IsS80.alloc | apply IsS80.drewN | apply IsS80.drew | apply IsS80.set_0 | apply IsS80.set_1 | refine IsS80.far ?_ NB163_160.out _ | refine IsS80.far ?_ NB163_167.out _) | exact HI163.out)) (by (with_reducible repeat (first | apply Kd.S_alloc | apply Kd.S_drewN | apply Kd.S_drew)); exact HO_168001.out) (by decide)) hk (fun _ h => h.2)) (fun _ h => h.1)); have n1_ := Aside0.mk (KeepBut.blk hk (g' := gb160) (o := .cells #[.int .i64 0, .slice none 0 0, .string (⟨#[]⟩ : ByteArray)] 37 (0, 0)) (by (with_reducible repeat (first | refine blk_drewN ?_ _ | refine blk_drew ?_ | refine blk_alloc ?_ _)); exact BK160.out) NB160_163.out (by simp)); have n2_ := Aside0.mk (KeepBut.blk hk (g' := gb167) (o := .cells #[.int .i64 (wrap64 (t164)), u168001, .string (⟨#[]⟩ : ByteArray)] 37 (0, 0)) (by (with_reducible repeat (first | refine blk_drewN ?_ _ | refine blk_drew ?_ | refine blk_alloc ?_ _)); exact BK167.out) NB167_163.out (by simp)); have n3_ := Aside0.mk (hb); have n4_ := Aside0.mk (hi); clear HO_168001; clear BK160; clear BK167; clear HB; clear HI163; have HO_168001 := n0_; have BK160 := n1_; have BK167 := n2_; have HB := n3_; have HI163 := n4_; clear n0_ n1_ n2_ n3_ n4_; (try clear hb); (try clear hb2); (try clear hk); (try clear hi); have hnb62 := NB167_160.out; have hnc62 := NB160_167.out; have hnb63 := NB167_163.out; have hnc63 := NB163_167.out; have hcz64_0 : w61.cell? ⟨gb167, 0, none⟩ = some (.int .i64 (wrap64 (t164))) := (blk_cell BK167.out 0).trans rfl; have hcz64_1 : w61.cell? ⟨gb167, 1, none⟩ = some (u168001) := (blk_cell BK167.out 1).trans rfl; have hcz64_2 : w61.cell? ⟨gb167, 2, none⟩ = some (.string (⟨#[]⟩ : ByteArray)) := (blk_cell BK167.out 2).trans rfl; have hfz64_0 := blk_frozen BK167.out 0; have hfz64_1 := blk_frozen BK167.out 1; have hfz64_2 := blk_frozen BK167.out 2) | ((with_reducible refine gate_callee (f := 36) rfl ?_); refine goesL_ (some 59) rfl rfl Try.func36 (by kernel_rfl) rfl #[.pointer (some ⟨g163, 0, none⟩)] rfl (by (try simp only [List.map_toArray, List.map_cons, List.map_nil]); first | done | rfl | (simp only [List.length_drop, List.length_take]; rfl)) ?_; (with_reducible refine (varint_In_End.calls g163 t192 t193 t194 t195 t196 w _ ?side1 ?side2 A50.out).mono ?_); (case side1 => repeat (first | (with_reducible first | exact HI163.out | apply IsS80.alloc | apply IsS80.drewN | apply IsS80.drew | apply IsS80.set_0 | apply IsS80.set_1 | refine IsS80.far ?_ NB163_160.out _ | refine IsS80.far ?_ NB163_167.out _) | exact HI163.out)); (case side2 => repeat (first | (with_reducible first | exact HB.out | apply below_alloc | apply pw_below_drewN | apply below_drew1 | refine below_set ?_ (IsS80.ge HI163.out) | refine below_set ?_ GE160.out | refine below_set ?_ GE167.out) | exact HB.out)); rintro e w65 ⟨rfl, hi, hb, hk⟩; refine ⟨_, rfl, ?_⟩; have n0_ := Aside0.mk (Kd.S_mono (Kd.S_keep (IsS80.apartS (show IsS80 w _ g163 t192 t193 from by repeat (first | (with_reducible first | exact HI163.out | apply IsS80.alloc | apply IsS80.drewN | apply IsS80.drew | apply IsS80.set_0 | apply IsS80.set_1 | refine IsS80.far ?_ NB163_160.out _ | refine IsS80.far ?_ NB163_167.out _) | exact HI163.out)) (by (with_reducible repeat (first | apply Kd.S_alloc | apply Kd.S_drewN | apply Kd.S_drew)); exact (Kd.S_mono (Kd.S_far (p := ⟨gb167, 2, none⟩) (Kd.S_types HO_168001.out BK167.out (by decide)) (fun _ hk => hk.2) (.string t191)) (fun _ h_ => h_.1))) (by decide)) hk (fun _ h => h.2)) (fun _ h => h.1)); have n1_ := Aside0.mk (KeepBut.blk hk (g' := gb160) (o := .cells #[.int .i64 0, .slice none 0 0, .string (⟨#[]⟩ : ByteArray)] 37 (0, 0)) (by (with_reducible repeat (first | refine blk_drewN ?_ _ | refine blk_drew ?_ | refine blk_alloc ?_ _)); refine blk_far ?_ NB160_167.out _; (with_reducible repeat (first | refine blk_drewN ?_ _ | refine blk_drew ?_ | refine blk_alloc ?_ _)); exact BK160.out) NB160_163.out (by simp)); have n2_ := Aside0.mk (KeepBut.blk hk (g' := gb167) (o := .cells #[.int .i64 (wrap64 (t164)), u168001, .string t191] 37 (0, 0)) (by (with_reducible repeat (first | refine blk_drewN ?_ _ | refine blk_drew ?_ | refine blk_alloc ?_ _)); refine blk_put (cs := #[.int .i64 (wrap64 (t164)), u168001, .string (⟨#[]⟩ : ByteArray)]) ?_ 2 _ rfl; (with_reducible repeat (first | refine blk_drewN ?_ _ | refine blk_drew ?_ | refine blk_alloc ?_ _)); exact BK167.out) NB167_163.out (by simp)); have n3_ := Aside0.mk (hb); have n4_ := Aside0.mk (hi); clear HO_168001; clear BK160; clear BK167; clear HB; clear HI163; have HO_168001 := n0_; have BK160 := n1_; have BK167 := n2_; have HB := n3_; have HI163 := n4_; clear n0_ n1_ n2_ n3_ n4_; (try clear hb); (try clear hb2); (try clear hk); (try clear hi); have hnb66 := NB160_163.out; have hnc66 := NB163_160.out; have hcz67_0 : w65.cell? ⟨gb160, 0, none⟩ = some (.int .i64 0) := (blk_cell BK160.out 0).trans rfl; have hcz67_1 : w65.cell? ⟨gb160, 1, none⟩ = some (.slice none 0 0) := (blk_cell BK160.out 1).trans rfl; have hcz67_2 : w65.cell? ⟨gb160, 2, none⟩ = some (.string (⟨#[]⟩ : ByteArray)) := (blk_cell BK160.out 2).trans rfl; have hfz67_0 := blk_frozen BK160.out 0; have hfz67_1 := blk_frozen BK160.out 1; have hfz67_2 := blk_frozen BK160.out 2))
                  refine bodyPost_ret (results_ct rfl _ _ gb160 37 #[.int .i64 0, .slice none 0 0, .string (⟨#[]⟩ : ByteArray)] (0, 0) _ rfl (by (with_reducible repeat (first | refine blk_drewN ?_ _ | refine blk_drew ?_ | refine blk_alloc ?_ _)); refine blk_put (cs := #[.int .i64 0, .slice none 0 0, .string (⟨#[]⟩ : ByteArray)]) ?_ 2 _ rfl; (with_reducible repeat (first | refine blk_drewN ?_ _ | refine blk_drew ?_ | refine blk_alloc ?_ _)); refine blk_put (cs := #[.int .i64 0, .slice none 0 0, .string (⟨#[]⟩ : ByteArray)]) ?_ 1 _ rfl; (with_reducible repeat (first | refine blk_drewN ?_ _ | refine blk_drew ?_ | refine blk_alloc ?_ _)); refine blk_put (cs := #[.int .i64 0, .slice none 0 0, .string (⟨#[]⟩ : ByteArray)]) ?_ 0 _ rfl; (with_reducible repeat (first | refine blk_drewN ?_ _ | refine blk_drew ?_ | refine blk_alloc ?_ _)); exact BK160.out) Try.underlying37 rfl (by kernel_rfl)) rfl ?_
                  exact ⟨_, by first | rfl | (simp [errW_none, errW_some] <;> rfl) | (simp [*, errW_none, errW_some] <;> rfl), by first | exact Kd.S_nil _ _ _ _ _ | exact Kd.N_nil _ _ _ _ _ | exact Kd.V_nil _ _ _ _ _ | exact Kd.Q_nil _ _ _ _ _ | exact Kd.R_nil _ _ _ _ _, by repeat (first | (with_reducible first | exact HB.out | apply below_alloc | apply pw_below_drewN | apply below_drew1 | refine below_set ?_ (IsS80.ge HI163.out) | refine below_set ?_ GE160.out | refine below_set ?_ GE167.out) | exact HB.out)⟩
      · replace c19 := Bool.eq_false_iff.mpr c19
        subst c19
        have H1 : ((varint_In_End.f x164000_3 x164001_3).bind fun bt197 => (if bt197.1 = 0 then (some ((wrap64 (t164)), ([] : List (List Int)), (⟨#[]⟩ : ByteArray), 0)) else (some (0, ([] : List (List Int)), (⟨#[]⟩ : ByteArray), bt197.1)))) = some (r1, r2, r3, r4) := by rw [if_neg (show ¬ (false = true) by decide)] at H; exact H
        clear H
        have H := H1
        clear H1
        replace H := Option.bind_eq_some_iff.mp H
        obtain ⟨⟨t197, t198, t199⟩, A680, H⟩ := H
        replace H : (if t197 = 0 then (some ((wrap64 (t164)), ([] : List (List Int)), (⟨#[]⟩ : ByteArray), 0)) else (some (0, ([] : List (List Int)), (⟨#[]⟩ : ByteArray), t197))) = some (r1, r2, r3, r4) := H
        have A68 := Aside0.mk A680
        clear A680
        by_cases c69 : t197 = 0
        · rw [if_pos c69] at H
          have c69b0 : (t197 == 0) = true := beq_iff_eq.mpr c69
          have c69b1 : (t197 != 0) = false := bne_eq_false_iff_eq.mpr c69
          clear c69
          simp only [Option.some.injEq, Prod.mk.injEq] at H
          obtain ⟨rfl, rfl, rfl, rfl⟩ := H
          go_wp2_with (first | (go_step3) | (rw [Exit.noGoto_normal]) | (rw [Exit.noGoto_exit]) | (rw [Exit.noGoto_ret]) | ((with_reducible refine gate_callee (f := 36) rfl ?_); refine goesL_ (some 59) rfl rfl Try.func36 (by kernel_rfl) rfl #[.pointer (some ⟨g163, 0, none⟩)] rfl (by (try simp only [List.map_toArray, List.map_cons, List.map_nil]); first | done | rfl | (simp only [List.length_drop, List.length_take]; rfl)) ?_; (with_reducible refine (varint_In_End.calls g163 x164000_3 x164001_3 t197 t198 t199 w _ ?side1 ?side2 A68.out).mono ?_); (case side1 => repeat (first | (with_reducible first | exact HI163.out | apply IsS80.alloc | apply IsS80.drewN | apply IsS80.drew | apply IsS80.set_0 | apply IsS80.set_1 | refine IsS80.far ?_ NB163_160.out _ | refine IsS80.far ?_ NB163_167.out _) | exact HI163.out)); (case side2 => repeat (first | (with_reducible first | exact HB.out | apply below_alloc | apply pw_below_drewN | apply below_drew1 | refine below_set ?_ (IsS80.ge HI163.out) | refine below_set ?_ GE160.out | refine below_set ?_ GE167.out) | exact HB.out)); rintro e w70 ⟨rfl, hi, hb, hk⟩; refine ⟨_, rfl, ?_⟩; have n0_ := Aside0.mk (KeepBut.blk hk (g' := gb160) (o := .cells #[.int .i64 0, .slice none 0 0, .string (⟨#[]⟩ : ByteArray)] 37 (0, 0)) (by (with_reducible repeat (first | refine blk_drewN ?_ _ | refine blk_drew ?_ | refine blk_alloc ?_ _)); exact BK160.out) NB160_163.out (by simp)); have n1_ := Aside0.mk (KeepBut.blk hk (g' := gb167) (o := .cells #[.int .i64 (wrap64 (t164)), .slice none 0 0, .string (⟨#[]⟩ : ByteArray)] 37 (0, 0)) (by (with_reducible repeat (first | refine blk_drewN ?_ _ | refine blk_drew ?_ | refine blk_alloc ?_ _)); exact BK167.out) NB167_163.out (by simp)); have n2_ := Aside0.mk (hb); have n3_ := Aside0.mk (hi); clear BK160; clear BK167; clear HB; clear HI163; have BK160 := n0_; have BK167 := n1_; have HB := n2_; have HI163 := n3_; clear n0_ n1_ n2_ n3_; (try clear hb); (try clear hb2); (try clear hk); (try clear hi); have hnb71 := NB167_160.out; have hnc71 := NB160_167.out; have hnb72 := NB167_163.out; have hnc72 := NB163_167.out; have hcz73_0 : w70.cell? ⟨gb167, 0, none⟩ = some (.int .i64 (wrap64 (t164))) := (blk_cell BK167.out 0).trans rfl; have hcz73_1 : w70.cell? ⟨gb167, 1, none⟩ = some (.slice none 0 0) := (blk_cell BK167.out 1).trans rfl; have hcz73_2 : w70.cell? ⟨gb167, 2, none⟩ = some (.string (⟨#[]⟩ : ByteArray)) := (blk_cell BK167.out 2).trans rfl; have hfz73_0 := blk_frozen BK167.out 0; have hfz73_1 := blk_frozen BK167.out 1; have hfz73_2 := blk_frozen BK167.out 2; have hnb74 := NB160_163.out; have hnc74 := NB163_160.out; have hcz75_0 : w70.cell? ⟨gb160, 0, none⟩ = some (.int .i64 0) := (blk_cell BK160.out 0).trans rfl; have hcz75_1 : w70.cell? ⟨gb160, 1, none⟩ = some (.slice none 0 0) := (blk_cell BK160.out 1).trans rfl; have hcz75_2 : w70.cell? ⟨gb160, 2, none⟩ = some (.string (⟨#[]⟩ : ByteArray)) := (blk_cell BK160.out 2).trans rfl; have hfz75_0 := blk_frozen BK160.out 0; have hfz75_1 := blk_frozen BK160.out 1; have hfz75_2 := blk_frozen BK160.out 2))
          refine bodyPost_ret (results_ct rfl _ _ gb160 37 #[.int .i64 (wrap64 (t164)), .slice none 0 0, .string (⟨#[]⟩ : ByteArray)] (0, 0) _ rfl (by (with_reducible repeat (first | refine blk_drewN ?_ _ | refine blk_drew ?_ | refine blk_alloc ?_ _)); refine blk_put (cs := #[.int .i64 (wrap64 (t164)), .slice none 0 0, .string (⟨#[]⟩ : ByteArray)]) ?_ 2 _ rfl; (with_reducible repeat (first | refine blk_drewN ?_ _ | refine blk_drew ?_ | refine blk_alloc ?_ _)); refine blk_put (cs := #[.int .i64 (wrap64 (t164)), .slice none 0 0, .string (⟨#[]⟩ : ByteArray)]) ?_ 1 _ rfl; (with_reducible repeat (first | refine blk_drewN ?_ _ | refine blk_drew ?_ | refine blk_alloc ?_ _)); refine blk_put (cs := #[.int .i64 0, .slice none 0 0, .string (⟨#[]⟩ : ByteArray)]) ?_ 0 _ rfl; (with_reducible repeat (first | refine blk_drewN ?_ _ | refine blk_drew ?_ | refine blk_alloc ?_ _)); exact BK160.out) Try.underlying37 rfl (by kernel_rfl)) rfl ?_
          exact ⟨_, by first | rfl | (simp [errW_none, errW_some] <;> rfl) | (simp [*, errW_none, errW_some] <;> rfl), by first | exact Kd.S_nil _ _ _ _ _ | exact Kd.N_nil _ _ _ _ _ | exact Kd.V_nil _ _ _ _ _ | exact Kd.Q_nil _ _ _ _ _ | exact Kd.R_nil _ _ _ _ _, by repeat (first | (with_reducible first | exact HB.out | apply below_alloc | apply pw_below_drewN | apply below_drew1 | refine below_set ?_ (IsS80.ge HI163.out) | refine below_set ?_ GE160.out | refine below_set ?_ GE167.out) | exact HB.out)⟩
        · rw [if_neg c69] at H
          have c69b0 : (t197 == 0) = false := beq_eq_false_iff_ne.mpr c69
          have c69b1 : (t197 != 0) = true := bne_iff_ne.mpr c69
          simp only [Option.some.injEq, Prod.mk.injEq] at H
          obtain ⟨rfl, rfl, rfl, rfl⟩ := H
          go_wp2_with (first | (go_step3) | (rw [Exit.noGoto_normal]) | (rw [Exit.noGoto_exit]) | (rw [Exit.noGoto_ret]) | ((with_reducible refine gate_callee (f := 36) rfl ?_); refine goesL_ (some 59) rfl rfl Try.func36 (by kernel_rfl) rfl #[.pointer (some ⟨g163, 0, none⟩)] rfl (by (try simp only [List.map_toArray, List.map_cons, List.map_nil]); first | done | rfl | (simp only [List.length_drop, List.length_take]; rfl)) ?_; (with_reducible refine (varint_In_End.calls g163 x164000_3 x164001_3 t197 t198 t199 w _ ?side1 ?side2 A68.out).mono ?_); (case side1 => repeat (first | (with_reducible first | exact HI163.out | apply IsS80.alloc | apply IsS80.drewN | apply IsS80.drew | apply IsS80.set_0 | apply IsS80.set_1 | refine IsS80.far ?_ NB163_160.out _ | refine IsS80.far ?_ NB163_167.out _) | exact HI163.out)); (case side2 => repeat (first | (with_reducible first | exact HB.out | apply below_alloc | apply pw_below_drewN | apply below_drew1 | refine below_set ?_ (IsS80.ge HI163.out) | refine below_set ?_ GE160.out | refine below_set ?_ GE167.out) | exact HB.out)); rintro e w76 ⟨rfl, hi, hb, hk⟩; refine ⟨_, rfl, ?_⟩; have n0_ := Aside0.mk (KeepBut.blk hk (g' := gb160) (o := .cells #[.int .i64 0, .slice none 0 0, .string (⟨#[]⟩ : ByteArray)] 37 (0, 0)) (by (with_reducible repeat (first | refine blk_drewN ?_ _ | refine blk_drew ?_ | refine blk_alloc ?_ _)); exact BK160.out) NB160_163.out (by simp)); have n1_ := Aside0.mk (KeepBut.blk hk (g' := gb167) (o := .cells #[.int .i64 (wrap64 (t164)), .slice none 0 0, .string (⟨#[]⟩ : ByteArray)] 37 (0, 0)) (by (with_reducible repeat (first | refine blk_drewN ?_ _ | refine blk_drew ?_ | refine blk_alloc ?_ _)); exact BK167.out) NB167_163.out (by simp)); have n2_ := Aside0.mk (hb); have n3_ := Aside0.mk (hi); clear BK160; clear BK167; clear HB; clear HI163; have BK160 := n0_; have BK167 := n1_; have HB := n2_; have HI163 := n3_; clear n0_ n1_ n2_ n3_; (try clear hb); (try clear hb2); (try clear hk); (try clear hi); have hnb77 := NB160_167.out; have hnc77 := NB167_160.out; have hnb78 := NB160_163.out; have hnc78 := NB163_160.out; have hcz79_0 : w76.cell? ⟨gb160, 0, none⟩ = some (.int .i64 0) := (blk_cell BK160.out 0).trans rfl; have hcz79_1 : w76.cell? ⟨gb160, 1, none⟩ = some (.slice none 0 0) := (blk_cell BK160.out 1).trans rfl; have hcz79_2 : w76.cell? ⟨gb160, 2, none⟩ = some (.string (⟨#[]⟩ : ByteArray)) := (blk_cell BK160.out 2).trans rfl; have hfz79_0 := blk_frozen BK160.out 0; have hfz79_1 := blk_frozen BK160.out 1; have hfz79_2 := blk_frozen BK160.out 2))
          refine bodyPost_ret (results_ct rfl _ _ gb160 37 #[.int .i64 0, .slice none 0 0, .string (⟨#[]⟩ : ByteArray)] (0, 0) _ rfl (by (with_reducible repeat (first | refine blk_drewN ?_ _ | refine blk_drew ?_ | refine blk_alloc ?_ _)); refine blk_put (cs := #[.int .i64 0, .slice none 0 0, .string (⟨#[]⟩ : ByteArray)]) ?_ 2 _ rfl; (with_reducible repeat (first | refine blk_drewN ?_ _ | refine blk_drew ?_ | refine blk_alloc ?_ _)); refine blk_put (cs := #[.int .i64 0, .slice none 0 0, .string (⟨#[]⟩ : ByteArray)]) ?_ 1 _ rfl; (with_reducible repeat (first | refine blk_drewN ?_ _ | refine blk_drew ?_ | refine blk_alloc ?_ _)); refine blk_put (cs := #[.int .i64 0, .slice none 0 0, .string (⟨#[]⟩ : ByteArray)]) ?_ 0 _ rfl; (with_reducible repeat (first | refine blk_drewN ?_ _ | refine blk_drew ?_ | refine blk_alloc ?_ _)); exact BK160.out) Try.underlying37 rfl (by kernel_rfl)) rfl ?_
          exact ⟨_, by first | rfl | (simp [errW_none, errW_some] <;> rfl) | (simp [*, errW_none, errW_some] <;> rfl), by first | exact Kd.S_nil _ _ _ _ _ | exact Kd.N_nil _ _ _ _ _ | exact Kd.V_nil _ _ _ _ _ | exact Kd.Q_nil _ _ _ _ _ | exact Kd.R_nil _ _ _ _ _, by repeat (first | (with_reducible first | exact HB.out | apply below_alloc | apply pw_below_drewN | apply below_drew1 | refine below_set ?_ (IsS80.ge HI163.out) | refine below_set ?_ GE160.out | refine below_set ?_ GE167.out) | exact HB.out)⟩


/-! ### request_nums: function 39 (own text) -/
def request_nums.l0 : Nat → List Int → Nat → List UInt8 → Option ByteArray
  | 0, _, _, _ => none
  | k + 1, l, i, acc => if i < l.length then (varint_Num.f k (IntKind.u64.wrap (rd l (i : Int)))).bind fun t => (if acc.length + t.size ≤ 140737488355328 then request_nums.l0 k l (i + 1) (acc ++ t.data.toList) else none) else some ⟨acc.toArray⟩
def request_nums.f (k : Nat) (l0 : List Int) : Option ByteArray := request_nums.l0 k l0 0 []
theorem request_nums.mono_l : ∀ k l i acc, LeO (request_nums.l0 k l i acc) (request_nums.l0 (k + 1) l i acc)
  | 0 => fun _ _ _ => LeO.none _
  | k + 1 => fun l i acc => by
    have ih := request_nums.mono_l k
    unfold request_nums.l0
    exact LeO.ite (LeO.bind (varint_Num.mono _ _) (fun t => LeO.ite (ih _ _ _) (LeO.refl _))) (LeO.refl _)
theorem request_nums.mono : ∀ a0 k, LeO (request_nums.f k a0) (request_nums.f (k + 1) a0) := fun a0 k => request_nums.mono_l k a0 0 []
set_option maxHeartbeats 4000000 in
set_option maxRecDepth 100000 in
theorem request_nums.calls (k : Nat) (A0 : Option Addr) (c0 : Nat) (l0 : List Int) (r : ByteArray) (w : World) (hr0 : Kd.C (Kd.int .i64) w A0 l0.length l0) (hc0 : l0.length ≤ c0) (h : request_nums.f k l0 = some r) :
    Calls Try.prog 39 #[.slice A0 l0.length c0] w fun e w' => e = .returned (.string r) ∧ Below w.heap.size w w' := by
  have HR := Aside0.mk hr0
  have hm := Kd.C_max hr0
  have H2 := Aside0.mk (show request_nums.l0 k l0 0 [] = some r from h)
  clear hr0 h hc0
  go_enter Try.func39, Try.ntmps39
  go_wp2
  have hH : Go.Proofs.Ytefiadhmcdfdoaa.Bld.Holds w.heap.size w.heap.size [] (w.alloc (.cells #[.pointer none, .slice none 0 0] 59)) := Go.Proofs.Ytefiadhmcdfdoaa.Bld.Holds.fresh w
  have HH := Aside0.mk hH
  have HB := Aside0.mk (below_alloc (Below.refl w.heap.size w) (.cells #[.pointer none, .slice none 0 0] 59))
  clear hH
  go_loopg [5, 8] k (fun kq v5 v8 w' => ∃ (i : Nat) (acc : List UInt8), v8 = .int .i64 (i : Int) ∧ Aside0 (request_nums.l0 kq l0 i acc = some r) ∧ Aside0 (kq ≤ k) ∧ Aside0 (Go.Proofs.Ytefiadhmcdfdoaa.Bld.Holds w.heap.size w.heap.size acc w') ∧ Aside0 (Below w.heap.size w w'))
  case atStart => exact ⟨0, [], rfl, H2, ⟨Nat.le_refl _⟩, HH, HB⟩
  case round =>
    obtain ⟨i, acc, rfl, hl, hk, hh, hbw⟩ := hrel
    clear HH HB H2
    cases gk with
    | zero => exact absurd hl.out (by simp [request_nums.l0])
    | succ k1 =>
      have H := hl.out
      clear hl
      unfold request_nums.l0 at H
      by_cases hi : i < l0.length
      · rw [if_pos hi] at H
        obtain ⟨t2, g1, g2⟩ := Option.bind_eq_some_iff.mp H
        have G1 := Aside0.mk g1
        by_cases c3 : acc.length + t2.size ≤ 140737488355328
        · rw [if_pos c3] at g2
          have G2 := Aside0.mk g2
          clear H g1 g2
          have c4 : decide (i < l0.length) = true := decide_eq_true hi
          have hil : (i : Int) < 9223372036854775807 := by omega
          obtain ⟨ad, e1, hx⟩ := Kd.at_int (Kd.C_below HR.out hbw.out) (i : Int) (by omega) (by omega)
          cases e1
          rw [Int.toNat_natCast] at hx
          go_wp2_with fail
          refine (varint_Num.calls k1 _ t2 _ G1.out).mono ?_
          rintro e w4 ⟨rfl, hb4⟩
          have hH4 := hh.out.below hb4
          have hlt1 := hh.out.lt
          go_wp2_with fail
          refine (Go.Proofs.Ytefiadhmcdfdoaa.Bld.write w.heap.size w.heap.size acc t2 _ hH4 c3 (by have := hb4.size; omega)).mono ?_
          rintro e w5 ⟨rfl, hH5, hb5⟩
          have HH5 := Aside0.mk hH5
          have HB5 := Aside0.mk ((hbw.out.trans (hb4.mono hbw.out.size)).trans hb5)
          clear hH4 hH5 hb4 hb5 hx
          go_wp2
          go_roundg k1
          case measure => have := hk.out; omega
          case rel => exact ⟨i + 1, acc ++ t2.data.toList, by go_num, G2, ⟨by have := hk.out; omega⟩, HH5, HB5⟩
        · rw [if_neg c3] at g2; cases g2
      · rw [if_neg hi] at H
        obtain rfl := Option.some.inj H
        clear H
        have c4 : decide (i < l0.length) = false := decide_eq_false hi
        have hlt1 := hh.out.lt
        go_wp2_with fail
        refine (Go.Proofs.Ytefiadhmcdfdoaa.Bld.told w.heap.size w.heap.size acc _ hh.out (by omega)).mono ?_
        rintro e w3 ⟨rfl, hb3⟩
        go_wp2
        go_ret
        exact ⟨rfl, hbw.out.trans hb3⟩

/-! ### varint_Text: function 40 -/
def varint_Text.f (k : Nat) (a0 : ByteArray) : Option (ByteArray) := if a0.size + 0 ≤ 9223372036854775807 then ((varint_Num.f k (a0.size : Int)).bind fun t200 => (if t200.size + a0.size ≤ 9223372036854775807 then (some (t200 ++ a0)) else (none))) else (none)
theorem varint_Text.mono : ∀ a0 k, LeO (varint_Text.f k a0) (varint_Text.f (k + 1) a0) := by
  intro a0 k
  unfold varint_Text.f
  repeat' first
      | (with_reducible exact varint_Num.mono _ _)
      | (with_reducible exact LeO.refl _)
      | (with_reducible exact LeO.none _)
      | (with_reducible refine LeO.ite ?_ ?_)
      | (with_reducible refine LeO.bind ?_ (fun _ => ?_))
      | exact varint_Num.mono _ _
      | exact LeO.none _
      | refine LeO.ite ?_ ?_
      | refine LeO.bind ?_ (fun _ => ?_)
set_option maxHeartbeats 40000000 in
set_option maxRecDepth 100000 in
theorem varint_Text.calls (k : Nat) (a0 : ByteArray) (r : ByteArray) (w : World) (h : varint_Text.f k a0 = some r) :
    Calls Try.prog 40 #[.string a0] w fun e w' => e = .returned (.string r) ∧ Below w.heap.size w w' := by
  have HB := Aside0.mk (Below.refl w.heap.size w)
  have H : (if a0.size + 0 ≤ 9223372036854775807 then ((varint_Num.f k (a0.size : Int)).bind fun t200 => (if t200.size + a0.size ≤ 9223372036854775807 then (some (t200 ++ a0)) else (none))) else (none)) = some r := h
  clear h
  by_cases c2 : a0.size + 0 ≤ 9223372036854775807
  · rw [if_pos c2] at H
    have c2b0 := eq_true c2
    have c2b1 : decide (a0.size + 0 ≤ 9223372036854775807) = true := decide_eq_true c2
    try have c2b2 : (9223372036854775807 < a0.size + 0) = False := eq_false (Nat.not_lt.2 c2)
    replace H := Option.bind_eq_some_iff.mp H
    obtain ⟨t200, A30, H⟩ := H
    replace H : (if t200.size + a0.size ≤ 9223372036854775807 then (some (t200 ++ a0)) else (none)) = some r := H
    have A3 := Aside0.mk A30
    clear A30
    by_cases c4 : t200.size + a0.size ≤ 9223372036854775807
    · rw [if_pos c4] at H
      have c4b0 := eq_true c4
      have c4b1 : decide (t200.size + a0.size ≤ 9223372036854775807) = true := decide_eq_true c4
      try have c4b2 : (9223372036854775807 < t200.size + a0.size) = False := eq_false (Nat.not_lt.2 c4)
      obtain rfl := Option.some.inj H
      go_enter Try.func40, Try.ntmps40
      go_wp2_with (first | ((with_reducible refine gate_callee (f := 30) rfl ?_); refine goesL_ (some 6) rfl rfl Try.func30 (by kernel_rfl) rfl #[.int .u64 (a0.size : Int)] rfl (by (try simp only [List.map_toArray, List.map_cons, List.map_nil]); first | done | rfl | (simp only [List.length_drop, List.length_take]; rfl)) ?_; (with_reducible refine (varint_Num.calls k (a0.size : Int) t200 _ A3.out).mono ?_); rintro e w5 ⟨rfl, hb⟩; refine ⟨_, rfl, ?_⟩; have n0_ := Aside0.mk (below_step (by repeat (first | (with_reducible first | exact HB.out | apply below_alloc | apply pw_below_drewN | apply below_drew1) | exact HB.out)) hb); clear HB; have HB := n0_; clear n0_; (try clear hb); (try clear hb2); (try clear hk); (try clear hi)))
      go_ret
      exact ⟨by first | rfl | (simp [errW_none, errW_some] <;> rfl) | (simp [*, errW_none, errW_some] <;> rfl), by repeat (first | (with_reducible first | exact HB.out | apply below_alloc | apply pw_below_drewN | apply below_drew1) | exact HB.out)⟩
    · rw [if_neg c4] at H
      exact absurd H (by simp)
  · rw [if_neg c2] at H
    exact absurd H (by simp)

end Go.Proofs.Ytefiadhmcdfdoaa.PD

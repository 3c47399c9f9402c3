-- Written by this session's own program wip/bin/dprint.py, over the kit's print.py, with own texts for some functions: no print of print.sh's
import Derived.Test.YtkpjkgfaepidaaaDoorPCx0
namespace Go.Proofs.YtkpjkgfaepidaaaDoor.PC
open Go.RowKit Go.Proofs.YtkpjkgfaepidaaaDoorW.PrintWords Go.Proofs.YtkpjkgfaepidaaaDoorW.PrintLast Go.Proofs.YtkpjkgfaepidaaaDoorW.PrintMore
attribute [local go_sem] max2_int min2_int max_two min_two max_three min_three max_four min_four   -- for this text's walks alone
set_option linter.unusedVariables false
set_option linter.unusedSimpArgs false

/-! ### request_Fail: function 17 -/
def request_Fail.f (a0 : Int) : Option (Int × (List (List Int)) × ByteArray):=some (a0,([] : List (List Int)),(⟨#[]⟩ : ByteArray))
set_option maxHeartbeats 40000000 in
set_option maxRecDepth 100000 in
theorem request_Fail.calls (a0 : Int) (r1 : Int) (r2 : List (List Int)) (r3 : ByteArray) (w : World) (h : request_Fail.f a0 = some (r1,r2,r3)) :
    Calls Tryd.prog 17 #[.int .i64 a0] w fun e w' => ∃ v1_ : Value,e = .returned (.agg #[.int .i64 r1,v1_,.string r3]) ∧ Kd.S (Kd.slice 3 (Kd.int .i64)) 44 w' w.heap.size (fun _ => True) v1_ r2 ∧ Below w.heap.size w w':=by
  have hu31:=Tryd.underlying31;have HB:=Aside0.mk (Below.refl w.heap.size w);have H : (some (a0,([] : List (List Int)),(⟨#[]⟩ : ByteArray))) = some (r1,r2,r3):=h;clear h;simp only [Option.some.injEq,Prod.mk.injEq] at H;obtain ⟨rfl,rfl,rfl⟩:=H;(go_enter Tryd.func17,Tryd.ntmps17);(go_wp2_with (first | ((with_reducible refine gate_dst (N:=2) rfl ?_);refine box_event ?hg (N:=2) ?hd (cs:=#[.int .i64 0,.slice none 0 0,.string (⟨#[]⟩ : ByteArray)]) (t:=31) ?hr ?_;(case hd => rfl);(case hg => rfl);(case hr => first | (go_simp;done) | (go_simp;rfl));intro gb275 hg w2 hbox hb;have n0_:=Aside0.mk (below_step (by repeat (first | (with_reducible first | exact HB.out | apply below_alloc | apply pw_below_drewN | apply below_drew1) | exact HB.out)) hb);have n1_:=Aside0.mk (hbox);have n2_:=Aside0.mk ((by rw [hg];exact (below_size (by repeat (first | (with_reducible first | exact HB.out | apply below_alloc | apply pw_below_drewN | apply below_drew1) | exact HB.out))) : w.heap.size ≤ gb275));have n3_:=Aside0.mk ((by rw [hg];exact (below_size (by repeat (first | (with_reducible first | exact HB.out | apply below_alloc | apply pw_below_drewN | apply below_drew1) | exact HB.out))) : w.heap.size ≤ gb275));clear HB;have HB:=n0_;have BK275:=n1_;have GW275:=n2_;have GE275:=n3_;clear n0_ n1_ n2_ n3_;clear hb hbox hg;have hcz3_0 : w2.cell? ⟨gb275,0,none⟩ = some (.int .i64 0):=(blk_cell BK275.out 0).trans rfl;have hcz3_1 : w2.cell? ⟨gb275,1,none⟩ = some (.slice none 0 0):=(blk_cell BK275.out 1).trans rfl;have hcz3_2 : w2.cell? ⟨gb275,2,none⟩ = some (.string (⟨#[]⟩ : ByteArray)):=(blk_cell BK275.out 2).trans rfl;have hfz3_0:=blk_frozen BK275.out 0;have hfz3_1:=blk_frozen BK275.out 1;have hfz3_2:=blk_frozen BK275.out 2)));(refine bodyPost_ret (results_cell_row rfl _ _ gb275 31 #[.int .i64 a0,.slice none 0 0,.string (⟨#[]⟩ : ByteArray)] (0,0) _ rfl (by (with_reducible repeat (first | refine blk_drewN ?_ _ | refine blk_drew ?_ | refine blk_alloc ?_ _));refine blk_put (cs:=#[.int .i64 a0,.slice none 0 0,.string (⟨#[]⟩ : ByteArray)]) ?_ 2 _ rfl;(with_reducible repeat (first | refine blk_drewN ?_ _ | refine blk_drew ?_ | refine blk_alloc ?_ _));refine blk_put (cs:=#[.int .i64 a0,.slice none 0 0,.string (⟨#[]⟩ : ByteArray)]) ?_ 1 _ rfl;(with_reducible repeat (first | refine blk_drewN ?_ _ | refine blk_drew ?_ | refine blk_alloc ?_ _));refine blk_put (cs:=#[.int .i64 0,.slice none 0 0,.string (⟨#[]⟩ : ByteArray)]) ?_ 0 _ rfl;(with_reducible repeat (first | refine blk_drewN ?_ _ | refine blk_drew ?_ | refine blk_alloc ?_ _));exact BK275.out) Tryd.underlying31 rfl (by kernel_rfl)) rfl ?_);(exact ⟨_,by first | rfl | (simp [errW_none,errW_some] <;> rfl) | (simp [*,errW_none,errW_some] <;> rfl),by first | exact Kd.S_nil _ _ _ _ _ | exact Kd.N_nil _ _ _ _ _ | exact Kd.V_nil _ _ _ _ _ | exact Kd.Q_nil _ _ _ _ _ | exact Kd.R_nil _ _ _ _ _,by repeat (first | (with_reducible first | exact HB.out | apply below_alloc | apply pw_below_drewN | apply below_drew1 | refine below_set ?_ GE275.out) | exact HB.out)⟩)

/-! ### dowserref01_Num: function 40 -/
def dowserref01_Num.l0 : Nat → Int → ByteArray → Int → Option (ByteArray)
  | 0,_,_,_ => none
  | k + 1,x0,x3,x4 => if x4 < 10 then (if x0 < 128 then ((some (([(x0) % 256] : List Int) : List Int)).bind fun y276 => (if x3.size + (strOfNums y276).size ≤ 9223372036854775807 then (some (x3 ++ (strOfNums y276))) else (none))) else ((some (([(IntKind.u64.wrap (128 + (Int.tmod x0 128))) % 256] : List Int) : List Int)).bind fun y279 => (if x3.size + (strOfNums y279).size ≤ 9223372036854775807 then (dowserref01_Num.l0 k (IntKind.u64.wrap (Int.tdiv x0 128)) (x3 ++ (strOfNums y279)) (wrap64 (x4 + 1))) else (none)))) else (some x3)
def dowserref01_Num.f (k : Nat) (a0 : Int) : Option (ByteArray):=dowserref01_Num.l0 k a0 (⟨#[]⟩ : ByteArray) 0
theorem dowserref01_Num.mono_l : ∀ k,(∀ y0 y1 y2,LeO (dowserref01_Num.l0 k y0 y1 y2) (dowserref01_Num.l0 (k + 1) y0 y1 y2))
  | 0 => fun _ _ _ r h => by simp [dowserref01_Num.l0] at h
  | k + 1 => by
    have ih0:=dowserref01_Num.mono_l k
    · intro y0 y1 y2;unfold dowserref01_Num.l0
      repeat' first
      | (with_reducible exact ih0 _ _ _)
      | (with_reducible exact LeO.refl _)
      | (with_reducible exact LeO.none _)
      | (with_reducible refine LeO.ite ?_ ?_)
      | (with_reducible refine LeO.bind ?_ (fun _ => ?_))
      | exact ih0 _ _ _
      | exact LeO.none _
      | refine LeO.ite ?_ ?_
      | refine LeO.bind ?_ (fun _ => ?_)
theorem dowserref01_Num.mono : ∀ a0 k,LeO (dowserref01_Num.f k a0) (dowserref01_Num.f (k + 1) a0):=by
  intro a0 k;have ih0:=dowserref01_Num.mono_l k;unfold dowserref01_Num.f
  repeat' first
      | (with_reducible exact ih0 _ _ _)
      | (with_reducible exact LeO.refl _)
      | (with_reducible exact LeO.none _)
      | (with_reducible refine LeO.ite ?_ ?_)
      | (with_reducible refine LeO.bind ?_ (fun _ => ?_))
      | exact ih0 _ _ _
      | exact LeO.none _
      | refine LeO.ite ?_ ?_
      | refine LeO.bind ?_ (fun _ => ?_)
set_option maxHeartbeats 40000000 in
set_option maxRecDepth 100000 in
theorem dowserref01_Num.calls (k : Nat) (a0 : Int) (r : ByteArray) (w : World) (h : dowserref01_Num.f k a0 = some r) :
    Calls Tryd.prog 40 #[.int .u64 a0] w fun e w' => e = .returned (.string r) ∧ Below w.heap.size w w':=by
  have HB:=Aside0.mk (Below.refl w.heap.size w);have H : (dowserref01_Num.l0 k a0 (⟨#[]⟩ : ByteArray) 0) = some r:=h;clear h;have H':=Aside0.mk H;clear H;(go_enter Tryd.func40,Tryd.ntmps40);(go_wp2);(go_loopg [0,3,4] k (fun kq v0 v3 v4 w' => ∃ (x0_1 : Int) (x3_1 : ByteArray) (x4_1 : Int),v0 = .int .u64 x0_1 ∧ v3 = .string x3_1 ∧ v4 = .int .i64 x4_1 ∧ Aside0 (dowserref01_Num.l0 kq x0_1 x3_1 x4_1 = some r) ∧ Aside0 (kq ≤ k) ∧ Aside0 (Below w.heap.size w w')));(case atStart => exact ⟨(a0),((⟨#[]⟩ : ByteArray)),(0),(by first | rfl | (simp;done) | (simp [*];done) | (simp;rw [Bool.eq_iff_iff];simp;done)),(by first | rfl | (simp;done) | (simp [*];done) | (simp;rw [Bool.eq_iff_iff];simp;done)),(by first | rfl | (simp;done) | (simp [*];done) | (simp;rw [Bool.eq_iff_iff];simp;done)),H',⟨Nat.le_refl _⟩,⟨by repeat (first | (with_reducible first | exact HB.out | apply below_alloc | apply pw_below_drewN | apply below_drew1) | exact HB.out)⟩⟩)
  case round =>
    clear H';obtain ⟨x0_1,x3_1,x4_1,rfl,rfl,rfl,HA,HK1,HB⟩:=hrel
    cases gk with
    | zero => exact absurd HA.out (by simp [dowserref01_Num.l0])
    | succ k1 =>
      have H:=HA.out;clear HA;simp only [dowserref01_Num.l0] at H;(by_cases c2 : x4_1 < 10)
      · rw [if_pos c2] at H;have c2b0 : decide (x4_1 < 10) = true:=decide_eq_true c2;clear c2;(by_cases c3 : x0_1 < 128)
        · rw [if_pos c3] at H;have c3b0 : decide (x0_1 < 128) = true:=decide_eq_true c3;clear c3;obtain ⟨y276,hy276⟩ : ∃ y_ : List Int,y_ = (([(x0_1) % 256] : List Int)):=⟨_,rfl⟩;(replace H : (if x3_1.size + (strOfNums y276).size ≤ 9223372036854775807 then (some (x3_1 ++ (strOfNums y276))) else (none)) = some r:=by first | (rw [hy276];with_reducible exact H) | (have H2_:=(Option.bind_some _ _).symm.trans H;rw [hy276];with_reducible exact H2_) | (have H2_:=(Option.bind_some _ _).symm.trans H;with_reducible exact H2_) | with_reducible exact H | (rw [hy276];exact H) | exact H);have Ny276:=Aside0.mk hy276;clear hy276;(by_cases c4 : x3_1.size + (strOfNums y276).size ≤ 9223372036854775807)
          · rw [if_pos c4] at H;have c4b0:=eq_true c4;have c4b1 : decide (x3_1.size + (strOfNums y276).size ≤ 9223372036854775807) = true:=decide_eq_true c4;(try have c4b2 : (9223372036854775807 < x3_1.size + (strOfNums y276).size) = False:=eq_false (Nat.not_lt.2 c4));obtain rfl:=Option.some.inj H;(go_wp2_with (first | ((with_reducible refine gate_dst (N:=14) rfl ?_);refine Kd.R_lit (Kd.int .u8) _ 5 ?hg (N:=14) ?hd (xs:=([(x0_1) % 256] : List Int)) (inner:=[.int .u8 ((x0_1) % 256)]) (ok:=fun _ => True) (okp:=fun _ => True) ?hr ?hp (fun _ hk => hk) trivial (Below.refl _ _) (Nat.le_refl _) (by simp) ?_;(case hd => rfl);(case hg => rfl);(case hr => first | (go_simp;done) | (go_simp;rfl));(case hp => exact (Reps.one (show Kd.M (Kd.int .u8) _ _ _ ((x0_1) % 256) [.int .u8 ((x0_1) % 256)] from rfl) (Reps.none _ _)));intro v277 w5 ho6 hb hg_ hnew_;clear hg_ hnew_;(first | rw [← Ny276.out] at ho6 | (simp only [Int.reduceToNat] at ho6;rw [← Ny276.out] at ho6));have n0_:=Aside0.mk (Kd.R_lower ho6 (below_size (by repeat (first | (with_reducible first | exact HB.out | apply below_alloc | apply pw_below_drewN | apply below_drew1) | exact HB.out))));have n1_:=Aside0.mk (below_step (by repeat (first | (with_reducible first | exact HB.out | apply below_alloc | apply pw_below_drewN | apply below_drew1) | exact HB.out)) hb);clear HB;have HO278:=n0_;have HB:=n1_;clear n0_ n1_;clear hb ho6;have hcv7:=own_string (P:=Tryd.prog) Tryd.underlying73 Tryd.underlying5 Tryd.underlying9 (Kd.own_of_R HO278.out))));(go_ret);(exact ⟨by first | rfl | (simp [errW_none,errW_some] <;> rfl) | (simp [*,errW_none,errW_some] <;> rfl),by repeat (first | (with_reducible first | exact HB.out | apply below_alloc | apply pw_below_drewN | apply below_drew1) | exact HB.out)⟩)
          · rw [if_neg c4] at H;(exact absurd H (by simp))
        · rw [if_neg c3] at H;have c3b0 : decide (x0_1 < 128) = false:=decide_eq_false c3;clear c3;obtain ⟨y279,hy279⟩ : ∃ y_ : List Int,y_ = (([(IntKind.u64.wrap (128 + (Int.tmod x0_1 128))) % 256] : List Int)):=⟨_,rfl⟩;(replace H : (if x3_1.size + (strOfNums y279).size ≤ 9223372036854775807 then (dowserref01_Num.l0 k1 (IntKind.u64.wrap (Int.tdiv x0_1 128)) (x3_1 ++ (strOfNums y279)) (wrap64 (x4_1 + 1))) else (none)) = some r:=by first | (rw [hy279];with_reducible exact H) | (have H2_:=(Option.bind_some _ _).symm.trans H;rw [hy279];with_reducible exact H2_) | (have H2_:=(Option.bind_some _ _).symm.trans H;with_reducible exact H2_) | with_reducible exact H | (rw [hy279];exact H) | exact H);have Ny279:=Aside0.mk hy279;clear hy279;(by_cases c8 : x3_1.size + (strOfNums y279).size ≤ 9223372036854775807)
          · rw [if_pos c8] at H;have c8b0:=eq_true c8;have c8b1 : decide (x3_1.size + (strOfNums y279).size ≤ 9223372036854775807) = true:=decide_eq_true c8;(try have c8b2 : (9223372036854775807 < x3_1.size + (strOfNums y279).size) = False:=eq_false (Nat.not_lt.2 c8));have H':=Aside0.mk H;clear H;(go_wp2_with (first | ((with_reducible refine gate_dst (N:=22) rfl ?_);refine Kd.R_lit (Kd.int .u8) _ 5 ?hg (N:=22) ?hd (xs:=([(IntKind.u64.wrap (128 + (Int.tmod x0_1 128))) % 256] : List Int)) (inner:=[.int .u8 ((IntKind.u64.wrap (128 + (Int.tmod x0_1 128))) % 256)]) (ok:=fun _ => True) (okp:=fun _ => True) ?hr ?hp (fun _ hk => hk) trivial (Below.refl _ _) (Nat.le_refl _) (by simp) ?_;(case hd => rfl);(case hg => rfl);(case hr => first | (go_simp;done) | (go_simp;rfl));(case hp => exact (Reps.one (show Kd.M (Kd.int .u8) _ _ _ ((IntKind.u64.wrap (128 + (Int.tmod x0_1 128))) % 256) [.int .u8 ((IntKind.u64.wrap (128 + (Int.tmod x0_1 128))) % 256)] from rfl) (Reps.none _ _)));intro v280 w9 ho10 hb hg_ hnew_;clear hg_ hnew_;(first | rw [← Ny279.out] at ho10 | (simp only [Int.reduceToNat] at ho10;rw [← Ny279.out] at ho10));have n0_:=Aside0.mk (Kd.R_lower ho10 (below_size (by repeat (first | (with_reducible first | exact HB.out | apply below_alloc | apply pw_below_drewN | apply below_drew1) | exact HB.out))));have n1_:=Aside0.mk (below_step (by repeat (first | (with_reducible first | exact HB.out | apply below_alloc | apply pw_below_drewN | apply below_drew1) | exact HB.out)) hb);clear HB;have HO281:=n0_;have HB:=n1_;clear n0_ n1_;clear hb ho10;have hcv11:=own_string (P:=Tryd.prog) Tryd.underlying73 Tryd.underlying5 Tryd.underlying9 (Kd.own_of_R HO281.out))));(go_roundg k1);(case measure => have:=HK1.out;omega);(case rel => exact ⟨(IntKind.u64.wrap (Int.tdiv x0_1 128)),(x3_1 ++ (strOfNums y279)),(wrap64 (x4_1 + 1)),(by first | rfl | (simp;done) | (simp [*];done) | (simp;rw [Bool.eq_iff_iff];simp;done)),(by first | rfl | (simp;done) | (simp [*];done) | (simp;rw [Bool.eq_iff_iff];simp;done)),(by first | rfl | (simp;done) | (simp [*];done) | (simp;rw [Bool.eq_iff_iff];simp;done)),H',⟨by have:=HK1.out;omega⟩,⟨by repeat (first | (with_reducible first | exact HB.out | apply below_alloc | apply pw_below_drewN | apply below_drew1) | exact HB.out)⟩⟩)
          · rw [if_neg c8] at H;(exact absurd H (by simp))
      · rw [if_neg c2] at H;have c2b0 : decide (x4_1 < 10) = false:=decide_eq_false c2;clear c2;obtain rfl:=Option.some.inj H;(go_wp2);(go_ret);(exact ⟨by first | rfl | (simp [errW_none,errW_some] <;> rfl) | (simp [*,errW_none,errW_some] <;> rfl),by repeat (first | (with_reducible first | exact HB.out | apply below_alloc | apply pw_below_drewN | apply below_drew1) | exact HB.out)⟩)

/-! ### dowserref01_Text: function 41 -/
def dowserref01_Text.f (k : Nat) (a0 : ByteArray) : Option (ByteArray):=if a0.size + 0 ≤ 9223372036854775807 then ((dowserref01_Num.f k (a0.size : Int)).bind fun t282 => (if t282.size + a0.size ≤ 9223372036854775807 then (some (t282 ++ a0)) else (none))) else (none)
theorem dowserref01_Text.mono : ∀ a0 k,LeO (dowserref01_Text.f k a0) (dowserref01_Text.f (k + 1) a0):=by
  intro a0 k;unfold dowserref01_Text.f
  repeat' first
      | (with_reducible exact dowserref01_Num.mono _ _)
      | (with_reducible exact LeO.refl _)
      | (with_reducible exact LeO.none _)
      | (with_reducible refine LeO.ite ?_ ?_)
      | (with_reducible refine LeO.bind ?_ (fun _ => ?_))
      | exact dowserref01_Num.mono _ _
      | exact LeO.none _
      | refine LeO.ite ?_ ?_
      | refine LeO.bind ?_ (fun _ => ?_)
set_option maxHeartbeats 40000000 in
set_option maxRecDepth 100000 in
theorem dowserref01_Text.calls (k : Nat) (a0 : ByteArray) (r : ByteArray) (w : World) (h : dowserref01_Text.f k a0 = some r) :
    Calls Tryd.prog 41 #[.string a0] w fun e w' => e = .returned (.string r) ∧ Below w.heap.size w w':=by
  have HB:=Aside0.mk (Below.refl w.heap.size w);(have H : (if a0.size + 0 ≤ 9223372036854775807 then ((dowserref01_Num.f k (a0.size : Int)).bind fun t282 => (if t282.size + a0.size ≤ 9223372036854775807 then (some (t282 ++ a0)) else (none))) else (none)) = some r:=h);clear h;(by_cases c2 : a0.size + 0 ≤ 9223372036854775807)
  · rw [if_pos c2] at H;have c2b0:=eq_true c2;have c2b1 : decide (a0.size + 0 ≤ 9223372036854775807) = true:=decide_eq_true c2;(try have c2b2 : (9223372036854775807 < a0.size + 0) = False:=eq_false (Nat.not_lt.2 c2));replace H:=Option.bind_eq_some_iff.mp H;obtain ⟨t282,A30,H⟩:=H;replace H : (if t282.size + a0.size ≤ 9223372036854775807 then (some (t282 ++ a0)) else (none)) = some r:=H;have A3:=Aside0.mk A30;clear A30;(by_cases c4 : t282.size + a0.size ≤ 9223372036854775807)
    · rw [if_pos c4] at H;have c4b0:=eq_true c4;have c4b1 : decide (t282.size + a0.size ≤ 9223372036854775807) = true:=decide_eq_true c4;(try have c4b2 : (9223372036854775807 < t282.size + a0.size) = False:=eq_false (Nat.not_lt.2 c4));obtain rfl:=Option.some.inj H;(go_enter Tryd.func41,Tryd.ntmps41);(go_wp2_with (first | ((with_reducible refine gate_callee (f:=40) rfl ?_);refine goesL_ (some 6) rfl rfl Tryd.func40 (by kernel_rfl) rfl #[.int .u64 (a0.size : Int)] rfl (by (try simp only [List.map_toArray,List.map_cons,List.map_nil]);first | done | rfl | (simp only [List.length_drop,List.length_take];rfl)) ?_;(with_reducible refine (dowserref01_Num.calls k (a0.size : Int) t282 _ A3.out).mono ?_);rintro e w5 ⟨rfl,hb⟩;refine ⟨_,rfl,?_⟩;have n0_:=Aside0.mk (below_step (by repeat (first | (with_reducible first | exact HB.out | apply below_alloc | apply pw_below_drewN | apply below_drew1) | exact HB.out)) hb);clear HB;have HB:=n0_;clear n0_;(try clear hb);(try clear hb2);(try clear hk);(try clear hi))));(go_ret);(exact ⟨by first | rfl | (simp [errW_none,errW_some] <;> rfl) | (simp [*,errW_none,errW_some] <;> rfl),by repeat (first | (with_reducible first | exact HB.out | apply below_alloc | apply pw_below_drewN | apply below_drew1) | exact HB.out)⟩)
    · rw [if_neg c4] at H;(exact absurd H (by simp))
  · rw [if_neg c2] at H;(exact absurd H (by simp))

end Go.Proofs.YtkpjkgfaepidaaaDoor.PC

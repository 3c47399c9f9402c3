-- Written by this session's own program wip/bin/dprint.py, over the kit's print.py, with own texts for some functions: no print of print.sh's
import Derived.Test.YtlboglbgdjakmaaPBx0
import Derived.Test.YtlboglbgdjakmaaPBx22
import Derived.Test.YtlboglbgdjakmaaUps
namespace Go.Proofs.Ytlboglbgdjakmaa.PB
open Go.RowKit Go.Proofs.YtlboglbgdjakmaaW.PrintWords Go.Proofs.YtlboglbgdjakmaaW.PrintLast Go.Proofs.YtlboglbgdjakmaaW.PrintMore
attribute [local go_sem] max2_int min2_int max_two min_two max_three min_three max_four min_four   -- for this text's walks alone
set_option linter.unusedVariables false
set_option linter.unusedSimpArgs false

/-! ### dowserref09_At: function 26 -/
mutual
def dowserref09_At.l0 : Nat → Int → Int → Int → Int → List ByteArray → List ByteArray → List Int → Option (Int)
 | 0,_,_,_,_,_,_,_ => none
 | k + 1,x3,x9,x10,x350000,x350001,x350002,x350003 => if x10 < x9 then ((dowserref09_Entry.f k x350000 x350001 x350002 x350003 x10).bind fun t350 => (dowserref09_At.l0 k (wrap64 (x3 + (t350.size : Int))) x9 (wrap64 (x10 + 1)) x350000 x350001 x350002 x350003)) else (dowserref09_At.l1 k x3 0 0 x350000 x350001 x350002 x350003)
def dowserref09_At.l1 : Nat → Int → Int → Int → Int → List ByteArray → List ByteArray → List Int → Option (Int)
 | 0,_,_,_,_,_,_,_ => none
 | k + 1,x3,x5,x6,x350000,x350001,x350002,x350003 => if x6 < (wrap64 ((x350001.length : Int) - 1)) then ((dowserref09_Entry.f k x350000 x350001 x350002 x350003 x6).bind fun t351 => (if (wrap64 (2 * (wrap64 (x5 + (t351.size : Int))))) ≥ x3 then (some (wrap64 (x6 + 1))) else (dowserref09_At.l1 k x3 (wrap64 (x5 + (t351.size : Int))) (wrap64 (x6 + 1)) x350000 x350001 x350002 x350003))) else (some (wrap64 ((x350001.length : Int) - 1)))
end
def dowserref09_At.f (k : Nat) (a0_0 : Int) (l0_1 : List ByteArray) (l0_2 : List ByteArray) (l0_3 : List Int) : Option (Int):=dowserref09_At.l0 k 0 (l0_1.length : Int) 0 a0_0 l0_1 l0_2 l0_3
theorem dowserref09_At.mono_l : ∀ k,(∀ y0 y1 y2 y3 y4 y5 y6,LeO (dowserref09_At.l0 k y0 y1 y2 y3 y4 y5 y6) (dowserref09_At.l0 (k + 1) y0 y1 y2 y3 y4 y5 y6)) ∧ (∀ y0 y1 y2 y3 y4 y5 y6,LeO (dowserref09_At.l1 k y0 y1 y2 y3 y4 y5 y6) (dowserref09_At.l1 (k + 1) y0 y1 y2 y3 y4 y5 y6))
 | 0 => ⟨fun _ _ _ _ _ _ _ r h => by simp [dowserref09_At.l0] at h,fun _ _ _ _ _ _ _ r h => by simp [dowserref09_At.l1] at h⟩
 | k + 1 => by
  obtain ⟨ih0,ih1⟩:=dowserref09_At.mono_l k;(refine ⟨?_,?_⟩)
  ·intro y0 y1 y2 y3 y4 y5 y6;unfold dowserref09_At.l0
   repeat' first
   | (with_reducible exact ih0 _ _ _ _ _ _ _)
   | (with_reducible exact ih1 _ _ _ _ _ _ _)
   | (with_reducible exact dowserref09_Entry.mono _ _ _ _ _ _)
   | (with_reducible exact LeO.refl _)
   | (with_reducible exact LeO.none _)
   | (with_reducible refine LeO.ite ?_ ?_)
   | (with_reducible refine LeO.bind ?_ (fun _ => ?_))
   | exact ih0 _ _ _ _ _ _ _
   | exact ih1 _ _ _ _ _ _ _
   | exact dowserref09_Entry.mono _ _ _ _ _ _
   | exact LeO.none _
   | refine LeO.ite ?_ ?_
   | refine LeO.bind ?_ (fun _ => ?_)
  ·intro y0 y1 y2 y3 y4 y5 y6;unfold dowserref09_At.l1
   repeat' first
   | (with_reducible exact ih0 _ _ _ _ _ _ _)
   | (with_reducible exact ih1 _ _ _ _ _ _ _)
   | (with_reducible exact dowserref09_Entry.mono _ _ _ _ _ _)
   | (with_reducible exact LeO.refl _)
   | (with_reducible exact LeO.none _)
   | (with_reducible refine LeO.ite ?_ ?_)
   | (with_reducible refine LeO.bind ?_ (fun _ => ?_))
   | exact ih0 _ _ _ _ _ _ _
   | exact ih1 _ _ _ _ _ _ _
   | exact dowserref09_Entry.mono _ _ _ _ _ _
   | exact LeO.none _
   | refine LeO.ite ?_ ?_
   | refine LeO.bind ?_ (fun _ => ?_)
theorem dowserref09_At.mono : ∀ a0 a1 a2 a3 k,LeO (dowserref09_At.f k a0 a1 a2 a3) (dowserref09_At.f (k + 1) a0 a1 a2 a3):=by
 intro a0 a1 a2 a3 k;obtain ⟨ih0,ih1⟩:=dowserref09_At.mono_l k;unfold dowserref09_At.f
 repeat' first
   | (with_reducible exact ih0 _ _ _ _ _ _ _)
   | (with_reducible exact ih1 _ _ _ _ _ _ _)
   | (with_reducible exact dowserref09_Entry.mono _ _ _ _ _ _)
   | (with_reducible exact LeO.refl _)
   | (with_reducible exact LeO.none _)
   | (with_reducible refine LeO.ite ?_ ?_)
   | (with_reducible refine LeO.bind ?_ (fun _ => ?_))
   | exact ih0 _ _ _ _ _ _ _
   | exact ih1 _ _ _ _ _ _ _
   | exact dowserref09_Entry.mono _ _ _ _ _ _
   | exact LeO.none _
   | refine LeO.ite ?_ ?_
   | refine LeO.bind ?_ (fun _ => ?_)
set_option maxHeartbeats 40000000 in
set_option maxRecDepth 100000 in
theorem dowserref09_At.calls (k : Nat) (a0_0 : Int) (A0_1 : Option Addr) (c0_1 : Nat) (l0_1 : List ByteArray) (A0_2 : Option Addr) (c0_2 : Nat) (l0_2 : List ByteArray) (A0_3 : Option Addr) (c0_3 : Nat) (l0_3 : List Int) (r : Int) (w : World) (hr0_1 : Kd.C Kd.string w A0_1 l0_1.length l0_1) (hc0_1 : l0_1.length ≤ c0_1) (hr0_2 : Kd.C Kd.string w A0_2 l0_2.length l0_2) (hc0_2 : l0_2.length ≤ c0_2) (hr0_3 : Kd.C (Kd.int .i64) w A0_3 l0_3.length l0_3) (hc0_3 : l0_3.length ≤ c0_3) (h : dowserref09_At.f k a0_0 l0_1 l0_2 l0_3 = some r) :
  Calls Try.prog 26 #[.agg #[.int .i64 a0_0,.slice A0_1 l0_1.length c0_1,.slice A0_2 l0_2.length c0_2,.slice A0_3 l0_3.length c0_3]] w fun e w' => e = .returned (.int .i64 r) ∧ Below w.heap.size w w':=by
 have hu25:=Try.underlying25;have HR0_1:=am hr0_1;have HC0_1:=am hc0_1;clear hr0_1 hc0_1;have HR0_2:=am hr0_2;have HC0_2:=am hc0_2;clear hr0_2 hc0_2;have HR0_3:=am hr0_3;have HC0_3:=am hc0_3;clear hr0_3 hc0_3;have HB:=am (Below.refl w.heap.size w);have H : (dowserref09_At.l0 k 0 (l0_1.length : Int) 0 a0_0 l0_1 l0_2 l0_3) = some r:=h;clear h;have H':=am H;clear H;(go_enter Try.func26,Try.ntmps26);(go_wp2_with (first | ((with_reducible refine gate_dst (N:=1) rfl ?_);refine box_event ?hg (N:=1) ?hd (cs:=#[.int .i64 a0_0,.slice A0_1 l0_1.length c0_1,.slice A0_2 l0_2.length c0_2,.slice A0_3 l0_3.length c0_3]) (t:=25) ?hr ?_;(case hd => rfl);(case hg => rfl);(case hr => first | (go_simp;done) | (go_simp;rfl));intro gb349 hg w2 hbox hb;have BK349:=am (hbox);(have GW349:=am ((by rw [hg];exact (below_size (lo HB.out)) : w.heap.size ≤ gb349)));have GE349:GEc _ _:=⟨((by rw [hg];exact (below_size (lo HB.out)) : w.heap.size ≤ gb349))⟩;replace HB:=am (below_step (lo HB.out) hb);clear hb hbox hg;have hcz3_0 : w2.cell? ⟨gb349,0,none⟩ = some (.int .i64 a0_0):=bc BK349.out 0 rfl;have hcz3_1 : w2.cell? ⟨gb349,1,none⟩ = some (.slice A0_1 l0_1.length c0_1):=bc BK349.out 1 rfl;have hcz3_2 : w2.cell? ⟨gb349,2,none⟩ = some (.slice A0_2 l0_2.length c0_2):=bc BK349.out 2 rfl;have hcz3_3 : w2.cell? ⟨gb349,3,none⟩ = some (.slice A0_3 l0_3.length c0_3):=bc BK349.out 3 rfl;have hfz3_0:=blk_frozen BK349.out 0;have hfz3_1:=blk_frozen BK349.out 1;have hfz3_2:=blk_frozen BK349.out 2;have hfz3_3:=blk_frozen BK349.out 3)));(go_loopg [3,10] k (fun kq v3 v10 w' => ∃ (x3_1 : Int) (x10_1 : Int),v3 = .int .i64 x3_1 ∧ v10 = .int .i64 x10_1 ∧ Aside0 (dowserref09_At.l0 kq x3_1 (l0_1.length : Int) x10_1 a0_0 l0_1 l0_2 l0_3 = some r) ∧ Aside0 (kq ≤ k) ∧ Aside0 (w'.heap[gb349]? = some (.cells #[.int .i64 a0_0,(.slice A0_1 l0_1.length c0_1),(.slice A0_2 l0_2.length c0_2),(.slice A0_3 l0_3.length c0_3)] 25 (0,0))) ∧ Aside0 (Below w.heap.size w w')));(case atStart => exact ⟨(0),(0),(by first | rfl | (simp;done) | (simp [*];done) | (simp;rw [Bool.eq_iff_iff];simp;done)),(by first | rfl | (simp;done) | (simp [*];done) | (simp;rw [Bool.eq_iff_iff];simp;done)),H',⟨Nat.le_refl _⟩,⟨by exact bu BK349.out⟩,⟨lo HB.out⟩⟩)
 case round =>
  clear H';(try clear c2);(try clear p2);(try clear hcz3_0);(try clear hcz3_1);(try clear hcz3_2);(try clear hcz3_3);(try clear hfz3_0);(try clear hfz3_1);(try clear hfz3_2);(try clear hfz3_3);obtain ⟨x3_1,x10_1,rfl,rfl,HA,HK1,BK349,HB⟩:=hrel
  cases gk with
  | zero => exact absurd HA.out (by simp [dowserref09_At.l0])
  | succ k1 =>
   have H:=HA.out;clear HA;simp only [dowserref09_At.l0] at H;(by_cases c4 : x10_1 < (l0_1.length : Int))
   ·rw [if_pos c4] at H;have c4b0 : decide (x10_1 < (l0_1.length : Int)) = true:=decide_eq_true c4;clear c4;replace H:=Option.bind_eq_some_iff.mp H;obtain ⟨t350,A50,H⟩:=H;replace H : (dowserref09_At.l0 k1 (wrap64 (x3_1 + (t350.size : Int))) (l0_1.length : Int) (wrap64 (x10_1 + 1)) a0_0 l0_1 l0_2 l0_3) = some r:=H;have A5:=am A50;clear A50;have H':=am H;clear H;have hcz6_0 : wr.cell? ⟨gb349,0,none⟩ = some (.int .i64 a0_0):=bc BK349.out 0 rfl;have hcz6_1 : wr.cell? ⟨gb349,1,none⟩ = some (.slice A0_1 l0_1.length c0_1):=bc BK349.out 1 rfl;have hcz6_2 : wr.cell? ⟨gb349,2,none⟩ = some (.slice A0_2 l0_2.length c0_2):=bc BK349.out 2 rfl;have hcz6_3 : wr.cell? ⟨gb349,3,none⟩ = some (.slice A0_3 l0_3.length c0_3):=bc BK349.out 3 rfl;have hfz6_0:=blk_frozen BK349.out 0;have hfz6_1:=blk_frozen BK349.out 1;have hfz6_2:=blk_frozen BK349.out 2;have hfz6_3:=blk_frozen BK349.out 3;(go_wp2_with (first | ((with_reducible refine gate_callee (f:=44) rfl ?_);refine goesL_ (some 16) rfl rfl Try.func44 (by kernel_rfl) rfl #[.agg #[.int .i64 a0_0,.slice A0_1 l0_1.length c0_1,.slice A0_2 l0_2.length c0_2,.slice A0_3 l0_3.length c0_3],.int .i64 x10_1] rfl (by (try simp only [List.map_toArray,List.map_cons,List.map_nil]);first | done | rfl | (simp only [List.length_drop,List.length_take];rfl)) ?_;(with_reducible refine (dowserref09_Entry.calls k1 a0_0 _ _ l0_1 _ _ l0_2 _ _ l0_3 x10_1 t350 _ ?side1 ?side2 ?side3 ?side4 ?side5 ?side6 A5.out).mono ?_);(case side1 => exact cu (Kd.C_below HR0_1.out HB.out));(case side2 => exact HC0_1.out);(case side3 => exact cu (Kd.C_below HR0_2.out HB.out));(case side4 => exact HC0_2.out);(case side5 => exact cu (Kd.C_below HR0_3.out HB.out));(case side6 => exact HC0_3.out);rintro e w7 ⟨rfl,hb⟩;refine ⟨_,rfl,?_⟩;replace BK349:=am (blk_below (bu BK349.out) hb);replace HB:=am (below_step (lo HB.out) hb);(try clear hb);(try clear hb2);(try clear hk);(try clear hi))));(go_roundg k1);(case measure => have:=HK1.out;omega);(case rel => exact ⟨(wrap64 (x3_1 + (t350.size : Int))),(wrap64 (x10_1 + 1)),(by first | rfl | (simp;done) | (simp [*];done) | (simp;rw [Bool.eq_iff_iff];simp;done)),(by first | rfl | (simp;done) | (simp [*];done) | (simp;rw [Bool.eq_iff_iff];simp;done)),H',⟨by have:=HK1.out;omega⟩,⟨by exact bu BK349.out⟩,⟨lo HB.out⟩⟩)
   ·rw [if_neg c4] at H;have c4b0 : decide (x10_1 < (l0_1.length : Int)) = false:=decide_eq_false c4;clear c4;have H':=am H;clear H;(go_wp2);(go_loopg [5,6] k1 (fun kq v5 v6 w' => ∃ (x5_2 : Int) (x6_2 : Int),v5 = .int .i64 x5_2 ∧ v6 = .int .i64 x6_2 ∧ Aside0 (dowserref09_At.l1 kq x3_1 x5_2 x6_2 a0_0 l0_1 l0_2 l0_3 = some r) ∧ Aside0 (kq ≤ k1) ∧ Aside0 (w'.heap[gb349]? = some (.cells #[.int .i64 a0_0,(.slice A0_1 l0_1.length c0_1),(.slice A0_2 l0_2.length c0_2),(.slice A0_3 l0_3.length c0_3)] 25 (0,0))) ∧ Aside0 (Below w.heap.size w w')));(case atStart => exact ⟨(0),(0),(by first | rfl | (simp;done) | (simp [*];done) | (simp;rw [Bool.eq_iff_iff];simp;done)),(by first | rfl | (simp;done) | (simp [*];done) | (simp;rw [Bool.eq_iff_iff];simp;done)),H',⟨Nat.le_refl _⟩,⟨by exact bu BK349.out⟩,⟨lo HB.out⟩⟩)
    case round =>
     clear H';(try clear c2);(try clear p2);(try clear c4);(try clear c4b0);(try clear p6);(try clear hcz3_0);(try clear hcz3_1);(try clear hcz3_2);(try clear hcz3_3);(try clear hcz6_0);(try clear hcz6_1);(try clear hcz6_2);(try clear hcz6_3);(try clear hfz3_0);(try clear hfz3_1);(try clear hfz3_2);(try clear hfz3_3);(try clear hfz6_0);(try clear hfz6_1);(try clear hfz6_2);(try clear hfz6_3);(try clear p2);obtain ⟨x5_2,x6_2,rfl,rfl,HA,HK2,BK349,HB⟩:=hrel
     cases gk with
     | zero => exact absurd HA.out (by simp [dowserref09_At.l1])
     | succ k2 =>
      have H:=HA.out;clear HA;simp only [dowserref09_At.l1] at H;(by_cases c8 : x6_2 < (wrap64 ((l0_1.length : Int) - 1)))
      ·rw [if_pos c8] at H;have c8b0 : decide (x6_2 < (wrap64 ((l0_1.length : Int) - 1))) = true:=decide_eq_true c8;clear c8;replace H:=Option.bind_eq_some_iff.mp H;obtain ⟨t351,A90,H⟩:=H;replace H : (if (wrap64 (2 * (wrap64 (x5_2 + (t351.size : Int))))) ≥ x3_1 then (some (wrap64 (x6_2 + 1))) else (dowserref09_At.l1 k2 x3_1 (wrap64 (x5_2 + (t351.size : Int))) (wrap64 (x6_2 + 1)) a0_0 l0_1 l0_2 l0_3)) = some r:=H;have A9:=am A90;clear A90;(by_cases c10 : (wrap64 (2 * (wrap64 (x5_2 + (t351.size : Int))))) ≥ x3_1)
       ·rw [if_pos c10] at H;have c10b0 : decide (x3_1 ≤ (wrap64 (2 * (wrap64 (x5_2 + (t351.size : Int)))))) = true:=decide_eq_true c10;clear c10;obtain rfl:=Option.some.inj H;have hcz11_0 : wr.cell? ⟨gb349,0,none⟩ = some (.int .i64 a0_0):=bc BK349.out 0 rfl;have hcz11_1 : wr.cell? ⟨gb349,1,none⟩ = some (.slice A0_1 l0_1.length c0_1):=bc BK349.out 1 rfl;have hcz11_2 : wr.cell? ⟨gb349,2,none⟩ = some (.slice A0_2 l0_2.length c0_2):=bc BK349.out 2 rfl;have hcz11_3 : wr.cell? ⟨gb349,3,none⟩ = some (.slice A0_3 l0_3.length c0_3):=bc BK349.out 3 rfl;have hfz11_0:=blk_frozen BK349.out 0;have hfz11_1:=blk_frozen BK349.out 1;have hfz11_2:=blk_frozen BK349.out 2;have hfz11_3:=blk_frozen BK349.out 3;(go_wp2_with (first | ((with_reducible refine gate_callee (f:=44) rfl ?_);refine goesL_ (some 31) rfl rfl Try.func44 (by kernel_rfl) rfl #[.agg #[.int .i64 a0_0,.slice A0_1 l0_1.length c0_1,.slice A0_2 l0_2.length c0_2,.slice A0_3 l0_3.length c0_3],.int .i64 x6_2] rfl (by (try simp only [List.map_toArray,List.map_cons,List.map_nil]);first | done | rfl | (simp only [List.length_drop,List.length_take];rfl)) ?_;(with_reducible refine (dowserref09_Entry.calls k2 a0_0 _ _ l0_1 _ _ l0_2 _ _ l0_3 x6_2 t351 _ ?side1 ?side2 ?side3 ?side4 ?side5 ?side6 A9.out).mono ?_);(case side1 => exact cu (Kd.C_below HR0_1.out HB.out));(case side2 => exact HC0_1.out);(case side3 => exact cu (Kd.C_below HR0_2.out HB.out));(case side4 => exact HC0_2.out);(case side5 => exact cu (Kd.C_below HR0_3.out HB.out));(case side6 => exact HC0_3.out);rintro e w12 ⟨rfl,hb⟩;refine ⟨_,rfl,?_⟩;replace BK349:=am (blk_below (bu BK349.out) hb);replace HB:=am (below_step (lo HB.out) hb);(try clear hb);(try clear hb2);(try clear hk);(try clear hi))));(go_ret);(exact ⟨by first | rfl | (simp [errW_none,errW_some] <;> rfl) | (simp [*,errW_none,errW_some] <;> rfl),lo HB.out⟩)
       ·rw [if_neg c10] at H;have c10b0 : decide (x3_1 ≤ (wrap64 (2 * (wrap64 (x5_2 + (t351.size : Int)))))) = false:=decide_eq_false c10;clear c10;have H':=am H;clear H;have hcz13_0 : wr.cell? ⟨gb349,0,none⟩ = some (.int .i64 a0_0):=bc BK349.out 0 rfl;have hcz13_1 : wr.cell? ⟨gb349,1,none⟩ = some (.slice A0_1 l0_1.length c0_1):=bc BK349.out 1 rfl;have hcz13_2 : wr.cell? ⟨gb349,2,none⟩ = some (.slice A0_2 l0_2.length c0_2):=bc BK349.out 2 rfl;have hcz13_3 : wr.cell? ⟨gb349,3,none⟩ = some (.slice A0_3 l0_3.length c0_3):=bc BK349.out 3 rfl;have hfz13_0:=blk_frozen BK349.out 0;have hfz13_1:=blk_frozen BK349.out 1;have hfz13_2:=blk_frozen BK349.out 2;have hfz13_3:=blk_frozen BK349.out 3;(go_wp2_with (first | ((with_reducible refine gate_callee (f:=44) rfl ?_);refine goesL_ (some 31) rfl rfl Try.func44 (by kernel_rfl) rfl #[.agg #[.int .i64 a0_0,.slice A0_1 l0_1.length c0_1,.slice A0_2 l0_2.length c0_2,.slice A0_3 l0_3.length c0_3],.int .i64 x6_2] rfl (by (try simp only [List.map_toArray,List.map_cons,List.map_nil]);first | done | rfl | (simp only [List.length_drop,List.length_take];rfl)) ?_;(with_reducible refine (dowserref09_Entry.calls k2 a0_0 _ _ l0_1 _ _ l0_2 _ _ l0_3 x6_2 t351 _ ?side1 ?side2 ?side3 ?side4 ?side5 ?side6 A9.out).mono ?_);(case side1 => exact cu (Kd.C_below HR0_1.out HB.out));(case side2 => exact HC0_1.out);(case side3 => exact cu (Kd.C_below HR0_2.out HB.out));(case side4 => exact HC0_2.out);(case side5 => exact cu (Kd.C_below HR0_3.out HB.out));(case side6 => exact HC0_3.out);rintro e w14 ⟨rfl,hb⟩;refine ⟨_,rfl,?_⟩;replace BK349:=am (blk_below (bu BK349.out) hb);replace HB:=am (below_step (lo HB.out) hb);(try clear hb);(try clear hb2);(try clear hk);(try clear hi))));(go_roundg k2);(case measure => have:=HK1.out;have:=HK2.out;omega);(case rel => exact ⟨(wrap64 (x5_2 + (t351.size : Int))),(wrap64 (x6_2 + 1)),(by first | rfl | (simp;done) | (simp [*];done) | (simp;rw [Bool.eq_iff_iff];simp;done)),(by first | rfl | (simp;done) | (simp [*];done) | (simp;rw [Bool.eq_iff_iff];simp;done)),H',⟨by have:=HK1.out;have:=HK2.out;omega⟩,⟨by exact bu BK349.out⟩,⟨lo HB.out⟩⟩)
      ·rw [if_neg c8] at H;have c8b0 : decide (x6_2 < (wrap64 ((l0_1.length : Int) - 1))) = false:=decide_eq_false c8;clear c8;obtain rfl:=Option.some.inj H;have hcz15_0 : wr.cell? ⟨gb349,0,none⟩ = some (.int .i64 a0_0):=bc BK349.out 0 rfl;have hcz15_1 : wr.cell? ⟨gb349,1,none⟩ = some (.slice A0_1 l0_1.length c0_1):=bc BK349.out 1 rfl;have hcz15_2 : wr.cell? ⟨gb349,2,none⟩ = some (.slice A0_2 l0_2.length c0_2):=bc BK349.out 2 rfl;have hcz15_3 : wr.cell? ⟨gb349,3,none⟩ = some (.slice A0_3 l0_3.length c0_3):=bc BK349.out 3 rfl;have hfz15_0:=blk_frozen BK349.out 0;have hfz15_1:=blk_frozen BK349.out 1;have hfz15_2:=blk_frozen BK349.out 2;have hfz15_3:=blk_frozen BK349.out 3;(go_wp2);(go_ret);(exact ⟨by first | rfl | (simp [errW_none,errW_some] <;> rfl) | (simp [*,errW_none,errW_some] <;> rfl),lo HB.out⟩)

end Go.Proofs.Ytlboglbgdjakmaa.PB

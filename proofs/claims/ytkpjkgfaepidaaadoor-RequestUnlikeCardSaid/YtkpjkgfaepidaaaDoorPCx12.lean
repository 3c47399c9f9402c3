-- Written by this session's own program wip/bin/dprint.py, over the kit's print.py, with own texts for some functions: no print of print.sh's
import Derived.Test.YtkpjkgfaepidaaaDoorPCx0
import Derived.Test.YtkpjkgfaepidaaaDoorPCx11
import Derived.Test.YtkpjkgfaepidaaaDoorUps
namespace Go.Proofs.YtkpjkgfaepidaaaDoor.PC
open Go.RowKit Go.Proofs.YtkpjkgfaepidaaaDoorW.PrintWords Go.Proofs.YtkpjkgfaepidaaaDoorW.PrintLast Go.Proofs.YtkpjkgfaepidaaaDoorW.PrintMore
attribute [local go_sem] max2_int min2_int max_two min_two max_three min_three max_four min_four   -- for this text's walks alone
set_option linter.unusedVariables false
set_option linter.unusedSimpArgs false

/-! ### dowserref28_Fine: function 10 -/
mutual
def dowserref28_Fine.j0 : Nat → Bool → Int → List (List Int) → ByteArray → Option (Bool)
 | 0,_,_,_,_ => none
 | k + 1,x24,x194000,x194001,x194002 => if x24 = true then (some false) else (dowserref28_Fine.l0 k x194001 (x194001.length : Int) 0 x194000 x194001 x194002)
def dowserref28_Fine.l0 : Nat → List (List Int) → Int → Int → Int → List (List Int) → ByteArray → Option (Bool)
 | 0,_,_,_,_,_,_ => none
 | k + 1,x26,x27,x28,x194000,x194001,x194002 => if x28 < x27 then (if 0 ≤ x28 then (if x28 < (x26.length : Int) then ((dowserref28_numbers.f k (rd_L2 x26 x28)).bind fun t195 => (if t195 = true then (dowserref28_Fine.l0 k x26 x27 (wrap64 (x28 + 1)) x194000 x194001 x194002) else (some false))) else (none)) else (none)) else (if x194000 = 0 then (some true) else (if (x194001.length : Int) = 0 then (some (x194002.toList == ([] : List UInt8))) else (some false)))
end
def dowserref28_Fine.f (k : Nat) (a0_0 : Int) (l0_1 : List (List Int)) (a0_2 : ByteArray) : Option (Bool):=if a0_0 < 0 then (dowserref28_Fine.j0 k true a0_0 l0_1 a0_2) else (if a0_0 > 255 then (dowserref28_Fine.j0 k true a0_0 l0_1 a0_2) else (if (l0_1.length : Int) > 8 then (dowserref28_Fine.j0 k true a0_0 l0_1 a0_2) else (dowserref28_Fine.j0 k (decide ((a0_2.size : Int) > 65536)) a0_0 l0_1 a0_2)))
theorem dowserref28_Fine.mono_l : ∀ k,(∀ y0 y1 y2 y3,LeO (dowserref28_Fine.j0 k y0 y1 y2 y3) (dowserref28_Fine.j0 (k + 1) y0 y1 y2 y3)) ∧ (∀ y0 y1 y2 y3 y4 y5,LeO (dowserref28_Fine.l0 k y0 y1 y2 y3 y4 y5) (dowserref28_Fine.l0 (k + 1) y0 y1 y2 y3 y4 y5))
 | 0 => ⟨fun _ _ _ _ r h => by simp [dowserref28_Fine.j0] at h,fun _ _ _ _ _ _ r h => by simp [dowserref28_Fine.l0] at h⟩
 | k + 1 => by
  obtain ⟨ih0,ih1⟩:=dowserref28_Fine.mono_l k;(refine ⟨?_,?_⟩)
  ·intro y0 y1 y2 y3;unfold dowserref28_Fine.j0
   repeat' first
   | (with_reducible exact ih0 _ _ _ _)
   | (with_reducible exact ih1 _ _ _ _ _ _)
   | (with_reducible exact dowserref28_numbers.mono _ _)
   | (with_reducible exact LeO.refl _)
   | (with_reducible exact LeO.none _)
   | (with_reducible refine LeO.ite ?_ ?_)
   | (with_reducible refine LeO.bind ?_ (fun _ => ?_))
   | exact ih0 _ _ _ _
   | exact ih1 _ _ _ _ _ _
   | exact dowserref28_numbers.mono _ _
   | exact LeO.none _
   | refine LeO.ite ?_ ?_
   | refine LeO.bind ?_ (fun _ => ?_)
  ·intro y0 y1 y2 y3 y4 y5;unfold dowserref28_Fine.l0
   repeat' first
   | (with_reducible exact ih0 _ _ _ _)
   | (with_reducible exact ih1 _ _ _ _ _ _)
   | (with_reducible exact dowserref28_numbers.mono _ _)
   | (with_reducible exact LeO.refl _)
   | (with_reducible exact LeO.none _)
   | (with_reducible refine LeO.ite ?_ ?_)
   | (with_reducible refine LeO.bind ?_ (fun _ => ?_))
   | exact ih0 _ _ _ _
   | exact ih1 _ _ _ _ _ _
   | exact dowserref28_numbers.mono _ _
   | exact LeO.none _
   | refine LeO.ite ?_ ?_
   | refine LeO.bind ?_ (fun _ => ?_)
theorem dowserref28_Fine.mono : ∀ a0 a1 a2 k,LeO (dowserref28_Fine.f k a0 a1 a2) (dowserref28_Fine.f (k + 1) a0 a1 a2):=by
 intro a0 a1 a2 k;obtain ⟨ih0,ih1⟩:=dowserref28_Fine.mono_l k;unfold dowserref28_Fine.f
 repeat' first
   | (with_reducible exact ih0 _ _ _ _)
   | (with_reducible exact ih1 _ _ _ _ _ _)
   | (with_reducible exact dowserref28_numbers.mono _ _)
   | (with_reducible exact LeO.refl _)
   | (with_reducible exact LeO.none _)
   | (with_reducible refine LeO.ite ?_ ?_)
   | (with_reducible refine LeO.bind ?_ (fun _ => ?_))
   | exact ih0 _ _ _ _
   | exact ih1 _ _ _ _ _ _
   | exact dowserref28_numbers.mono _ _
   | exact LeO.none _
   | refine LeO.ite ?_ ?_
   | refine LeO.bind ?_ (fun _ => ?_)
set_option maxHeartbeats 40000000 in
set_option maxRecDepth 100000 in
theorem dowserref28_Fine.calls (k : Nat) (a0_0 : Int) (A0_1 : Option Addr) (c0_1 : Nat) (l0_1 : List (List Int)) (a0_2 : ByteArray) (r : Bool) (w : World) (hr0_1 : Kd.C (Kd.slice 3 (Kd.int .i64)) w A0_1 l0_1.length l0_1) (hc0_1 : l0_1.length ≤ c0_1) (h : dowserref28_Fine.f k a0_0 l0_1 a0_2 = some r) :
  Calls Tryd.prog 10 #[.agg #[.int .i64 a0_0,.slice A0_1 l0_1.length c0_1,.string a0_2]] w fun e w' => e = .returned (.bool r) ∧ Below w.heap.size w w':=by
 have hu24:=Tryd.underlying24;have HR0_1:=am hr0_1;have HC0_1:=am hc0_1;clear hr0_1 hc0_1;have HB:=am (Below.refl w.heap.size w);have H : (if a0_0 < 0 then (dowserref28_Fine.j0 k true a0_0 l0_1 a0_2) else (if a0_0 > 255 then (dowserref28_Fine.j0 k true a0_0 l0_1 a0_2) else (if (l0_1.length : Int) > 8 then (dowserref28_Fine.j0 k true a0_0 l0_1 a0_2) else (dowserref28_Fine.j0 k (decide ((a0_2.size : Int) > 65536)) a0_0 l0_1 a0_2)))) = some r:=h;clear h;have HC2:=am H;clear H;(go_enter Tryd.func10,Tryd.ntmps10);(go_upto_region 1 with (first | ((with_reducible refine gate_dst (N:=1) rfl ?_);(try (refine gate_guard (by rfl) ?_;dsimp only));refine box_event ?hg (N:=1) ?hd (cs:=#[.int .i64 a0_0,.slice A0_1 l0_1.length c0_1,.string a0_2]) (t:=24) ?hr ?_;(case hd => rfl);(case hg => rfl);(case hr => first | (go_simp;done) | (go_simp;rfl));intro gb193 hg w3 hbox hb;have BK193:=am (hbox);(have GW193:=am ((by rw [hg];exact (below_size (lo HB.out)) : w.heap.size ≤ gb193)));have GE193:GEc _ _:=⟨((by rw [hg];exact (below_size (lo HB.out)) : w.heap.size ≤ gb193))⟩;replace HB:=am (below_step (lo HB.out) hb);clear hb hbox hg)));(try simp only [Act.put,sA,sZ,sS]);(go_cut [24] (fun v24 wc => ∃ (kq : Nat) (x24_1 : Bool),v24 = .bool x24_1 ∧ Aside0 (dowserref28_Fine.j0 kq x24_1 a0_0 l0_1 a0_2 = some r) ∧ Aside0 (kq ≤ k) ∧ Aside0 (wc.heap[gb193]? = some (.cells #[.int .i64 a0_0,(.slice A0_1 l0_1.length c0_1),.string a0_2] 24 (0,0))) ∧ Aside0 (Below w.heap.size w wc)))
 case first =>
  have H:=HC2.out;clear HC2;(by_cases c4 : a0_0 < 0)
  ·rw [if_pos c4] at H;have c4b0 : decide (a0_0 < 0) = true:=decide_eq_true c4;clear c4;(first | rw [c4b0] | (simp only [i64_w,i32_w];rw [c4b0]) | skip);have H':=am H;clear H;have hcz5_0 : w3.cell? ⟨gb193,0,none⟩ = some (.int .i64 a0_0):=bc BK193.out 0 rfl;have hcz5_1 : w3.cell? ⟨gb193,1,none⟩ = some (.slice A0_1 l0_1.length c0_1):=bc BK193.out 1 rfl;have hcz5_2 : w3.cell? ⟨gb193,2,none⟩ = some (.string a0_2):=bc BK193.out 2 rfl;have hfz5_0:=blk_frozen BK193.out 0;have hfz5_1:=blk_frozen BK193.out 1;have hfz5_2:=blk_frozen BK193.out 2;(go_wp2);(go_meet);(case rel => exact ⟨_,(true),(by first | rfl | (simp;done) | (simp [*];done) | (simp;rw [Bool.eq_iff_iff];simp;done)),H',⟨by first | omega | exact Nat.le_refl _⟩,⟨by exact bu BK193.out⟩,⟨lo HB.out⟩⟩)
  ·rw [if_neg c4] at H;have c4b0 : decide (a0_0 < 0) = false:=decide_eq_false c4;clear c4;(first | rw [c4b0] | (simp only [i64_w,i32_w];rw [c4b0]) | skip);(by_cases c6 : a0_0 > 255)
   ·rw [if_pos c6] at H;have c6b0 : decide (255 < a0_0) = true:=decide_eq_true c6;clear c6;have H':=am H;clear H;have hcz7_0 : w3.cell? ⟨gb193,0,none⟩ = some (.int .i64 a0_0):=bc BK193.out 0 rfl;have hcz7_1 : w3.cell? ⟨gb193,1,none⟩ = some (.slice A0_1 l0_1.length c0_1):=bc BK193.out 1 rfl;have hcz7_2 : w3.cell? ⟨gb193,2,none⟩ = some (.string a0_2):=bc BK193.out 2 rfl;have hfz7_0:=blk_frozen BK193.out 0;have hfz7_1:=blk_frozen BK193.out 1;have hfz7_2:=blk_frozen BK193.out 2;(go_wp2);(go_meet);(case rel => exact ⟨_,(true),(by first | rfl | (simp;done) | (simp [*];done) | (simp;rw [Bool.eq_iff_iff];simp;done)),H',⟨by first | omega | exact Nat.le_refl _⟩,⟨by exact bu BK193.out⟩,⟨lo HB.out⟩⟩)
   ·rw [if_neg c6] at H;have c6b0 : decide (255 < a0_0) = false:=decide_eq_false c6;clear c6;(by_cases c8 : (l0_1.length : Int) > 8)
    ·rw [if_pos c8] at H;have c8b0 : decide (8 < (l0_1.length : Int)) = true:=decide_eq_true c8;(have c8b1 : decide (8 < l0_1.length) = true:=decide_eq_true (by omega));clear c8;have H':=am H;clear H;have hcz9_0 : w3.cell? ⟨gb193,0,none⟩ = some (.int .i64 a0_0):=bc BK193.out 0 rfl;have hcz9_1 : w3.cell? ⟨gb193,1,none⟩ = some (.slice A0_1 l0_1.length c0_1):=bc BK193.out 1 rfl;have hcz9_2 : w3.cell? ⟨gb193,2,none⟩ = some (.string a0_2):=bc BK193.out 2 rfl;have hfz9_0:=blk_frozen BK193.out 0;have hfz9_1:=blk_frozen BK193.out 1;have hfz9_2:=blk_frozen BK193.out 2;(go_wp2);(go_meet);(case rel => exact ⟨_,(true),(by first | rfl | (simp;done) | (simp [*];done) | (simp;rw [Bool.eq_iff_iff];simp;done)),H',⟨by first | omega | exact Nat.le_refl _⟩,⟨by exact bu BK193.out⟩,⟨lo HB.out⟩⟩)
    ·rw [if_neg c8] at H;have c8b0 : decide (8 < (l0_1.length : Int)) = false:=decide_eq_false c8;(have c8b1 : decide (8 < l0_1.length) = false:=decide_eq_false (by omega));clear c8;have H':=am H;clear H;have hcz10_0 : w3.cell? ⟨gb193,0,none⟩ = some (.int .i64 a0_0):=bc BK193.out 0 rfl;have hcz10_1 : w3.cell? ⟨gb193,1,none⟩ = some (.slice A0_1 l0_1.length c0_1):=bc BK193.out 1 rfl;have hcz10_2 : w3.cell? ⟨gb193,2,none⟩ = some (.string a0_2):=bc BK193.out 2 rfl;have hfz10_0:=blk_frozen BK193.out 0;have hfz10_1:=blk_frozen BK193.out 1;have hfz10_2:=blk_frozen BK193.out 2;(go_wp2);(go_meet);(case rel => exact ⟨_,(decide ((a0_2.size : Int) > 65536)),(by first | rfl | (simp;done) | (simp [*];done) | (simp;rw [Bool.eq_iff_iff];simp;done)),H',⟨by first | omega | exact Nat.le_refl _⟩,⟨by exact bu BK193.out⟩,⟨lo HB.out⟩⟩)
 case rest =>
  clear HC2;(try clear c1);(try clear p2);(try clear c4);(try clear c4b0);(try clear c6);(try clear c6b0);(try clear c8);(try clear c8b0);(try clear c8b1);(try clear c10);(try clear hcz10_0);(try clear hcz10_1);(try clear hcz10_2);(try clear hcz5_0);(try clear hcz5_1);(try clear hcz5_2);(try clear hcz7_0);(try clear hcz7_1);(try clear hcz7_2);(try clear hcz9_0);(try clear hcz9_1);(try clear hcz9_2);(try clear hfz10_0);(try clear hfz10_1);(try clear hfz10_2);(try clear hfz5_0);(try clear hfz5_1);(try clear hfz5_2);(try clear hfz7_0);(try clear hfz7_1);(try clear hfz7_2);(try clear hfz9_0);(try clear hfz9_1);(try clear hfz9_2);obtain ⟨kq,x24_1,rfl,HA,HJ1,BK193,HB⟩:=hcut
  cases kq with
  | zero => exact absurd HA.out (by simp [dowserref28_Fine.j0])
  | succ kj1 =>
   have H:=HA.out;clear HA;simp only [dowserref28_Fine.j0] at H;(by_cases c11 : x24_1 = true)
   ·subst c11;(have H1 : (some false) = some r:=by rw [if_pos rfl] at H;exact H);clear H;have H:=H1;clear H1;obtain rfl:=Option.some.inj H;(go_wp2);(go_ret);(exact ⟨by first | rfl | (simp [errW_none,errW_some] <;> rfl) | (simp [*,errW_none,errW_some] <;> rfl),lo HB.out⟩)
   ·replace c11:=Bool.eq_false_iff.mpr c11;subst c11;(have H1 : (dowserref28_Fine.l0 kj1 l0_1 (l0_1.length : Int) 0 a0_0 l0_1 a0_2) = some r:=by rw [if_neg (show ¬ (false = true) by decide)] at H;exact H);clear H;have H:=H1;clear H1;have H':=am H;clear H;have hcz12_0 : wc.cell? ⟨gb193,0,none⟩ = some (.int .i64 a0_0):=bc BK193.out 0 rfl;have hcz12_1 : wc.cell? ⟨gb193,1,none⟩ = some (.slice A0_1 l0_1.length c0_1):=bc BK193.out 1 rfl;have hcz12_2 : wc.cell? ⟨gb193,2,none⟩ = some (.string a0_2):=bc BK193.out 2 rfl;have hfz12_0:=blk_frozen BK193.out 0;have hfz12_1:=blk_frozen BK193.out 1;have hfz12_2:=blk_frozen BK193.out 2;(go_wp2);(go_loopg [28] kj1 (fun kq v28 w' => ∃ (x28_2 : Int),v28 = .int .i64 x28_2 ∧ Aside0 (dowserref28_Fine.l0 kq l0_1 (l0_1.length : Int) x28_2 a0_0 l0_1 a0_2 = some r) ∧ Aside0 (kq ≤ kj1) ∧ Aside0 (w'.heap[gb193]? = some (.cells #[.int .i64 a0_0,(.slice A0_1 l0_1.length c0_1),.string a0_2] 24 (0,0))) ∧ Aside0 (Below w.heap.size w w')));(case atStart => exact ⟨(0),(by first | rfl | (simp;done) | (simp [*];done) | (simp;rw [Bool.eq_iff_iff];simp;done)),H',⟨Nat.le_refl _⟩,⟨by exact bu BK193.out⟩,⟨lo HB.out⟩⟩)
    case round =>
     clear H';(try clear c1);(try clear p2);(try clear c4);(try clear c4b0);(try clear c6);(try clear c6b0);(try clear c8);(try clear c8b0);(try clear c8b1);(try clear c10);(try clear c11);(try clear hcz10_0);(try clear hcz10_1);(try clear hcz10_2);(try clear hcz12_0);(try clear hcz12_1);(try clear hcz12_2);(try clear hcz5_0);(try clear hcz5_1);(try clear hcz5_2);(try clear hcz7_0);(try clear hcz7_1);(try clear hcz7_2);(try clear hcz9_0);(try clear hcz9_1);(try clear hcz9_2);(try clear hfz10_0);(try clear hfz10_1);(try clear hfz10_2);(try clear hfz12_0);(try clear hfz12_1);(try clear hfz12_2);(try clear hfz5_0);(try clear hfz5_1);(try clear hfz5_2);(try clear hfz7_0);(try clear hfz7_1);(try clear hfz7_2);(try clear hfz9_0);(try clear hfz9_1);(try clear hfz9_2);(try clear p2);obtain ⟨x28_2,rfl,HA,HK2,BK193,HB⟩:=hrel
     cases gk with
     | zero => exact absurd HA.out (by simp [dowserref28_Fine.l0])
     | succ k2 =>
      have H:=HA.out;clear HA;simp only [dowserref28_Fine.l0] at H;(by_cases c13 : x28_2 < (l0_1.length : Int))
      ·rw [if_pos c13] at H;have c13b0 : decide (x28_2 < (l0_1.length : Int)) = true:=decide_eq_true c13;clear c13;(by_cases c14 : 0 ≤ x28_2)
       ·rw [if_pos c14] at H;have c14b0 : decide (0 ≤ x28_2) = true:=decide_eq_true c14;clear c14;(by_cases c15 : x28_2 < (l0_1.length : Int))
        ·rw [if_pos c15] at H;have c15b0 : decide (x28_2 < (l0_1.length : Int)) = true:=decide_eq_true c15;clear c15;replace H:=Option.bind_eq_some_iff.mp H;obtain ⟨t195,A160,H⟩:=H;replace H : (if t195 = true then (dowserref28_Fine.l0 k2 l0_1 (l0_1.length : Int) (wrap64 (x28_2 + 1)) a0_0 l0_1 a0_2) else (some false)) = some r:=H;have A16:=am A160;clear A160;(by_cases c17 : t195 = true)
         ·subst c17;(have H1 : (dowserref28_Fine.l0 k2 l0_1 (l0_1.length : Int) (wrap64 (x28_2 + 1)) a0_0 l0_1 a0_2) = some r:=by rw [if_pos rfl] at H;exact H);clear H;have H:=H1;clear H1;have H':=am H;clear H;(have p194 : 0 ≤ (x28_2 : Int):=of_decide_eq_true (by first | (with_reducible assumption) | assumption));(have q194 : x28_2 < (l0_1.length : Int):=of_decide_eq_true (by first | (with_reducible assumption) | assumption));obtain ⟨ad194,A194_0,c194_0,e194,hx194_0,hl194_0,hi194_0⟩:=at_L2 HR0_1.out x28_2 p194 q194;cases e194;replace hx194_0:=(HB.out.cell (World.block_lt_of_cell? w _ hx194_0)).trans hx194_0;have HR194_0:=am hi194_0;have HC194_0:=am hl194_0;clear hi194_0 hl194_0;replace p194:=eq_true p194;replace q194:=eq_true q194;(go_wp2_with (first | ((with_reducible refine gate_callee (f:=25) rfl ?_);refine goesL_ (some 33) rfl rfl Tryd.func25 (by kernel_rfl) rfl #[.slice A194_0 (rd_L2 l0_1 x28_2).length c194_0] rfl (by (try simp only [List.map_toArray,List.map_cons,List.map_nil]);first | done | rfl | (simp only [List.length_drop,List.length_take];rfl)) ?_;(with_reducible refine (dowserref28_numbers.calls k2 _ _ (rd_L2 l0_1 x28_2) true _ ?side1 ?side2 A16.out).mono ?_);(case side1 => exact cu (Kd.C_below HR194_0.out HB.out));(case side2 => exact HC194_0.out);rintro e w' ⟨rfl,⟨nd,rfl⟩⟩;refine ⟨_,rfl,?_⟩)));(go_roundg k2);(case measure => have:=HJ1.out;have:=HK2.out;omega);(case rel => exact ⟨(wrap64 (x28_2 + 1)),(by first | rfl | (simp;done) | (simp [*];done) | (simp;rw [Bool.eq_iff_iff];simp;done)),H',⟨by have:=HJ1.out;have:=HK2.out;omega⟩,⟨by exact bu BK193.out⟩,⟨lo HB.out⟩⟩)
         ·replace c17:=Bool.eq_false_iff.mpr c17;subst c17;(have H1 : (some false) = some r:=by rw [if_neg (show ¬ (false = true) by decide)] at H;exact H);clear H;have H:=H1;clear H1;obtain rfl:=Option.some.inj H;(have p194 : 0 ≤ (x28_2 : Int):=of_decide_eq_true (by first | (with_reducible assumption) | assumption));(have q194 : x28_2 < (l0_1.length : Int):=of_decide_eq_true (by first | (with_reducible assumption) | assumption));obtain ⟨ad194,A194_0,c194_0,e194,hx194_0,hl194_0,hi194_0⟩:=at_L2 HR0_1.out x28_2 p194 q194;cases e194;replace hx194_0:=(HB.out.cell (World.block_lt_of_cell? w _ hx194_0)).trans hx194_0;have HR194_0:=am hi194_0;have HC194_0:=am hl194_0;clear hi194_0 hl194_0;replace p194:=eq_true p194;replace q194:=eq_true q194;(go_wp2_with (first | ((with_reducible refine gate_callee (f:=25) rfl ?_);refine goesL_ (some 33) rfl rfl Tryd.func25 (by kernel_rfl) rfl #[.slice A194_0 (rd_L2 l0_1 x28_2).length c194_0] rfl (by (try simp only [List.map_toArray,List.map_cons,List.map_nil]);first | done | rfl | (simp only [List.length_drop,List.length_take];rfl)) ?_;(with_reducible refine (dowserref28_numbers.calls k2 _ _ (rd_L2 l0_1 x28_2) false _ ?side1 ?side2 A16.out).mono ?_);(case side1 => exact cu (Kd.C_below HR194_0.out HB.out));(case side2 => exact HC194_0.out);rintro e w' ⟨rfl,⟨nd,rfl⟩⟩;refine ⟨_,rfl,?_⟩)));(go_ret);(exact ⟨by first | rfl | (simp [errW_none,errW_some] <;> rfl) | (simp [*,errW_none,errW_some] <;> rfl),lo HB.out⟩)
        ·rw [if_neg c15] at H;(exact absurd H (by simp))
       ·rw [if_neg c14] at H;(exact absurd H (by simp))
      ·rw [if_neg c13] at H;have c13b0 : decide (x28_2 < (l0_1.length : Int)) = false:=decide_eq_false c13;clear c13;(by_cases c18 : a0_0 = 0)
       ·rw [if_pos c18] at H;have c18b0 : (a0_0 == 0) = true:=beq_iff_eq.mpr c18;have c18b1 : (a0_0 != 0) = false:=bne_eq_false_iff_eq.mpr c18;clear c18;obtain rfl:=Option.some.inj H;have hcz19_0 : wr.cell? ⟨gb193,0,none⟩ = some (.int .i64 a0_0):=bc BK193.out 0 rfl;have hcz19_1 : wr.cell? ⟨gb193,1,none⟩ = some (.slice A0_1 l0_1.length c0_1):=bc BK193.out 1 rfl;have hcz19_2 : wr.cell? ⟨gb193,2,none⟩ = some (.string a0_2):=bc BK193.out 2 rfl;have hfz19_0:=blk_frozen BK193.out 0;have hfz19_1:=blk_frozen BK193.out 1;have hfz19_2:=blk_frozen BK193.out 2;(go_wp2);(go_ret);(exact ⟨by first | rfl | (simp [errW_none,errW_some] <;> rfl) | (simp [*,errW_none,errW_some] <;> rfl),lo HB.out⟩)
       ·rw [if_neg c18] at H;have c18b0 : (a0_0 == 0) = false:=beq_eq_false_iff_ne.mpr c18;have c18b1 : (a0_0 != 0) = true:=bne_iff_ne.mpr c18;(by_cases c20 : (l0_1.length : Int) = 0)
        ·rw [if_pos c20] at H;have c20b0 : ((l0_1.length : Int) == 0) = true:=beq_iff_eq.mpr c20;have c20b1 : ((l0_1.length : Int) != 0) = false:=bne_eq_false_iff_eq.mpr c20;clear c20;obtain rfl:=Option.some.inj H;have hcz21_0 : wr.cell? ⟨gb193,0,none⟩ = some (.int .i64 a0_0):=bc BK193.out 0 rfl;have hcz21_1 : wr.cell? ⟨gb193,1,none⟩ = some (.slice A0_1 l0_1.length c0_1):=bc BK193.out 1 rfl;have hcz21_2 : wr.cell? ⟨gb193,2,none⟩ = some (.string a0_2):=bc BK193.out 2 rfl;have hfz21_0:=blk_frozen BK193.out 0;have hfz21_1:=blk_frozen BK193.out 1;have hfz21_2:=blk_frozen BK193.out 2;(go_wp2);(go_ret);(exact ⟨by first | rfl | (simp [errW_none,errW_some] <;> rfl) | (simp [*,errW_none,errW_some] <;> rfl),lo HB.out⟩)
        ·rw [if_neg c20] at H;have c20b0 : ((l0_1.length : Int) == 0) = false:=beq_eq_false_iff_ne.mpr c20;have c20b1 : ((l0_1.length : Int) != 0) = true:=bne_iff_ne.mpr c20;(have c20b2 : ¬ (l0_1 = []):=fun h_ => c20 (by rw [h_];rfl));obtain rfl:=Option.some.inj H;have hcz22_0 : wr.cell? ⟨gb193,0,none⟩ = some (.int .i64 a0_0):=bc BK193.out 0 rfl;have hcz22_1 : wr.cell? ⟨gb193,1,none⟩ = some (.slice A0_1 l0_1.length c0_1):=bc BK193.out 1 rfl;have hcz22_2 : wr.cell? ⟨gb193,2,none⟩ = some (.string a0_2):=bc BK193.out 2 rfl;have hfz22_0:=blk_frozen BK193.out 0;have hfz22_1:=blk_frozen BK193.out 1;have hfz22_2:=blk_frozen BK193.out 2;(go_wp2);(go_ret);(exact ⟨by first | rfl | (simp [errW_none,errW_some] <;> rfl) | (simp [*,errW_none,errW_some] <;> rfl),lo HB.out⟩)

end Go.Proofs.YtkpjkgfaepidaaaDoor.PC

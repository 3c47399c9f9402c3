-- Written by this session's own program wip/bin/dprint.py, over the kit's print.py, with own texts for some functions: no print of print.sh's
import Derived.Test.YtlboglbgdjakmaaPBx0
import Derived.Test.YtlboglbgdjakmaaPBx19
import Derived.Test.YtlboglbgdjakmaaUps
namespace Go.Proofs.Ytlboglbgdjakmaa.PB
open Go.RowKit Go.Proofs.YtlboglbgdjakmaaW.PrintWords Go.Proofs.YtlboglbgdjakmaaW.PrintLast Go.Proofs.YtlboglbgdjakmaaW.PrintMore
attribute [local go_sem] max2_int min2_int max_two min_two max_three min_three max_four min_four   -- for this text's walks alone
set_option linter.unusedVariables false
set_option linter.unusedSimpArgs false

/-! ### slices_Concat_int_int: function 48 -/
mutual
def slices_Concat_int_int.l0 : Nat → List (List Int) → Int → List (List Int) → Int → Int → Option (List Int)
 | 0,_,_,_,_,_ => none
 | k + 1,x0,x3,x9,x10,x11 => if x11 < x10 then (if 0 ≤ x11 then (if x11 < (x9.length : Int) then (if (wrap64 (x3 + ((rd_L4 x9 x11).length : Int))) < 0 then (none) else (slices_Concat_int_int.l0 k x0 (wrap64 (x3 + ((rd_L4 x9 x11).length : Int))) x9 x10 (wrap64 (x11 + 1)))) else (none)) else (none)) else ((slices_Grow_int.f x3).bind fun t326 => (slices_Concat_int_int.l1 k t326 x0 (x0.length : Int) 0))
def slices_Concat_int_int.l1 : Nat → List Int → List (List Int) → Int → Int → Option (List Int)
 | 0,_,_,_,_ => none
 | k + 1,x6,x25,x26,x27 => if x27 < x26 then (if 0 ≤ x27 then (if x27 < (x25.length : Int) then (if x6.length + (rd_L4 x25 x27).length < 17592186044416 then (slices_Concat_int_int.l1 k (x6 ++ (rd_L4 x25 x27)) x25 x26 (wrap64 (x27 + 1))) else (none)) else (none)) else (none)) else (some x6)
end
def slices_Concat_int_int.f (k : Nat) (l0 : List (List Int)) : Option (List Int):=slices_Concat_int_int.l0 k l0 0 l0 (l0.length : Int) 0
theorem slices_Concat_int_int.mono_l : ∀ k,(∀ y0 y1 y2 y3 y4,LeO (slices_Concat_int_int.l0 k y0 y1 y2 y3 y4) (slices_Concat_int_int.l0 (k + 1) y0 y1 y2 y3 y4)) ∧ (∀ y0 y1 y2 y3,LeO (slices_Concat_int_int.l1 k y0 y1 y2 y3) (slices_Concat_int_int.l1 (k + 1) y0 y1 y2 y3))
 | 0 => ⟨fun _ _ _ _ _ r h => by simp [slices_Concat_int_int.l0] at h,fun _ _ _ _ r h => by simp [slices_Concat_int_int.l1] at h⟩
 | k + 1 => by
  obtain ⟨ih0,ih1⟩:=slices_Concat_int_int.mono_l k;(refine ⟨?_,?_⟩)
  ·intro y0 y1 y2 y3 y4;unfold slices_Concat_int_int.l0
   repeat' first
   | (with_reducible exact ih0 _ _ _ _ _)
   | (with_reducible exact ih1 _ _ _ _)
   | (with_reducible exact LeO.refl _)
   | (with_reducible exact LeO.none _)
   | (with_reducible refine LeO.ite ?_ ?_)
   | (with_reducible refine LeO.bind ?_ (fun _ => ?_))
   | exact ih0 _ _ _ _ _
   | exact ih1 _ _ _ _
   | exact LeO.none _
   | refine LeO.ite ?_ ?_
   | refine LeO.bind ?_ (fun _ => ?_)
  ·intro y0 y1 y2 y3;unfold slices_Concat_int_int.l1
   repeat' first
   | (with_reducible exact ih0 _ _ _ _ _)
   | (with_reducible exact ih1 _ _ _ _)
   | (with_reducible exact LeO.refl _)
   | (with_reducible exact LeO.none _)
   | (with_reducible refine LeO.ite ?_ ?_)
   | (with_reducible refine LeO.bind ?_ (fun _ => ?_))
   | exact ih0 _ _ _ _ _
   | exact ih1 _ _ _ _
   | exact LeO.none _
   | refine LeO.ite ?_ ?_
   | refine LeO.bind ?_ (fun _ => ?_)
theorem slices_Concat_int_int.mono : ∀ a0 k,LeO (slices_Concat_int_int.f k a0) (slices_Concat_int_int.f (k + 1) a0):=by
 intro a0 k;obtain ⟨ih0,ih1⟩:=slices_Concat_int_int.mono_l k;unfold slices_Concat_int_int.f
 repeat' first
   | (with_reducible exact ih0 _ _ _ _ _)
   | (with_reducible exact ih1 _ _ _ _)
   | (with_reducible exact LeO.refl _)
   | (with_reducible exact LeO.none _)
   | (with_reducible refine LeO.ite ?_ ?_)
   | (with_reducible refine LeO.bind ?_ (fun _ => ?_))
   | exact ih0 _ _ _ _ _
   | exact ih1 _ _ _ _
   | exact LeO.none _
   | refine LeO.ite ?_ ?_
   | refine LeO.bind ?_ (fun _ => ?_)
set_option maxHeartbeats 40000000 in
set_option maxRecDepth 100000 in
theorem slices_Concat_int_int.calls (k : Nat) (A0 : Option Addr) (c0 : Nat) (l0 : List (List Int)) (r : List Int) (w : World) (hr0 : Kd.C (Kd.slice 3 (Kd.int .i64)) w A0 l0.length l0) (hc0 : l0.length ≤ c0) (h : slices_Concat_int_int.f k l0 = some r) :
  Calls Try.prog 48 #[.slice A0 l0.length c0] w fun e w' => ∃ v0_ : Value,e = .returned (v0_) ∧ Kd.R (Kd.int .i64) 3 w' w.heap.size (fun _ => True) v0_ r ∧ Below w.heap.size w w':=by
 have HR0:=am hr0;have HC0:=am hc0;clear hr0 hc0;have HB:=am (Below.refl w.heap.size w);have H : (slices_Concat_int_int.l0 k l0 0 l0 (l0.length : Int) 0) = some r:=h;clear h;have H':=am H;clear H;(go_enter Try.func48,Try.ntmps48);(go_wp2);(go_loopg [3,11] k (fun kq v3 v11 w' => ∃ (x3_1 : Int) (x11_1 : Int),v3 = .int .i64 x3_1 ∧ v11 = .int .i64 x11_1 ∧ Aside0 (slices_Concat_int_int.l0 kq l0 x3_1 l0 (l0.length : Int) x11_1 = some r) ∧ Aside0 (kq ≤ k) ∧ Aside0 (Below w.heap.size w w')));(case atStart => exact ⟨(0),(0),(by first | rfl | (simp;done) | (simp [*];done) | (simp;rw [Bool.eq_iff_iff];simp;done)),(by first | rfl | (simp;done) | (simp [*];done) | (simp;rw [Bool.eq_iff_iff];simp;done)),H',⟨Nat.le_refl _⟩,⟨lo HB.out⟩⟩)
 case round =>
  clear H';obtain ⟨x3_1,x11_1,rfl,rfl,HA,HK1,HB⟩:=hrel
  cases gk with
  | zero => exact absurd HA.out (by simp [slices_Concat_int_int.l0])
  | succ k1 =>
   have H:=HA.out;clear HA;simp only [slices_Concat_int_int.l0] at H;(by_cases c2 : x11_1 < (l0.length : Int))
   ·rw [if_pos c2] at H;have c2b0 : decide (x11_1 < (l0.length : Int)) = true:=decide_eq_true c2;clear c2;(by_cases c3 : 0 ≤ x11_1)
    ·rw [if_pos c3] at H;have c3b0 : decide (0 ≤ x11_1) = true:=decide_eq_true c3;clear c3;(by_cases c4 : x11_1 < (l0.length : Int))
     ·rw [if_pos c4] at H;have c4b0 : decide (x11_1 < (l0.length : Int)) = true:=decide_eq_true c4;clear c4;(by_cases c5 : (wrap64 (x3_1 + ((rd_L4 l0 x11_1).length : Int))) < 0)
      ·rw [if_pos c5] at H;(exact absurd H (by simp))
      ·rw [if_neg c5] at H;have c5b0 : decide ((wrap64 (x3_1 + ((rd_L4 l0 x11_1).length : Int))) < 0) = false:=decide_eq_false c5;clear c5;have H':=am H;clear H;(have p325 : 0 ≤ (x11_1 : Int):=of_decide_eq_true (by first | (with_reducible assumption) | assumption));(have q325 : x11_1 < (l0.length : Int):=of_decide_eq_true (by first | (with_reducible assumption) | assumption));obtain ⟨ad325,A325_0,c325_0,e325,hx325_0,hl325_0,hi325_0⟩:=at_L4 HR0.out x11_1 p325 q325;cases e325;replace hx325_0:=(HB.out.cell (World.block_lt_of_cell? w _ hx325_0)).trans hx325_0;have HR325_0:=am hi325_0;have HC325_0:=am hl325_0;clear hi325_0 hl325_0;replace p325:=eq_true p325;replace q325:=eq_true q325;(go_wp2);(go_roundg k1);(case measure => have:=HK1.out;omega);(case rel => exact ⟨(wrap64 (x3_1 + ((rd_L4 l0 x11_1).length : Int))),(wrap64 (x11_1 + 1)),(by first | rfl | (simp;done) | (simp [*];done) | (simp;rw [Bool.eq_iff_iff];simp;done)),(by first | rfl | (simp;done) | (simp [*];done) | (simp;rw [Bool.eq_iff_iff];simp;done)),H',⟨by have:=HK1.out;omega⟩,⟨lo HB.out⟩⟩)
     ·rw [if_neg c4] at H;(exact absurd H (by simp))
    ·rw [if_neg c3] at H;(exact absurd H (by simp))
   ·rw [if_neg c2] at H;have c2b0 : decide (x11_1 < (l0.length : Int)) = false:=decide_eq_false c2;clear c2;replace H:=Option.bind_eq_some_iff.mp H;obtain ⟨t326,A60,H⟩:=H;replace H : (slices_Concat_int_int.l1 k1 t326 l0 (l0.length : Int) 0) = some r:=H;have A6:=am A60;clear A60;have H':=am H;clear H;(go_wp2_with (first | (go_at_call 64;(with_reducible refine (slices_Grow_int.calls x3_1 t326 _ A6.out).mono ?_);rintro e w7 ⟨v327,rfl,ho0,hb⟩;have HO328:=am (Kd.R_lower ho0 (below_size (lo HB.out)));replace HB:=am (below_step (lo HB.out) hb);(try clear hb);(try clear hb2);(try clear hk);(try clear hi);(try clear ho0))));(go_loopg [6,27] k1 (fun kq v6 v27 w' => ∃ (x6_2 : List Int) (x27_2 : Int),v27 = .int .i64 x27_2 ∧ Aside0 (slices_Concat_int_int.l1 kq x6_2 l0 (l0.length : Int) x27_2 = some r) ∧ Aside0 (kq ≤ k1) ∧ Aside0 (Kd.R (Kd.int .i64) 3 w' w.heap.size (fun _ => True) v6 x6_2) ∧ Aside0 (Below w.heap.size w w')));(case atStart => exact ⟨(t326),(0),(by first | rfl | (simp;done) | (simp [*];done) | (simp;rw [Bool.eq_iff_iff];simp;done)),H',⟨Nat.le_refl _⟩,⟨by exact ru HO328.out⟩,⟨lo HB.out⟩⟩)
    case round =>
     clear H';(try clear c2);(try clear c2b0);(try clear p2);(try clear c3);(try clear c3b0);(try clear p3);(try clear q3);(try clear hx3);(try clear c4);(try clear c4b0);(try clear c5);(try clear c5b0);(try clear p6);(try clear hx325_0);(try clear p325);(try clear q325);obtain ⟨x6_2,x27_2,rfl,HA,HK2,HO_6,HB⟩:=hrel
     cases gk with
     | zero => exact absurd HA.out (by simp [slices_Concat_int_int.l1])
     | succ k2 =>
      have H:=HA.out;clear HA;simp only [slices_Concat_int_int.l1] at H;(by_cases c8 : x27_2 < (l0.length : Int))
      ·rw [if_pos c8] at H;have c8b0 : decide (x27_2 < (l0.length : Int)) = true:=decide_eq_true c8;clear c8;(by_cases c9 : 0 ≤ x27_2)
       ·rw [if_pos c9] at H;have c9b0 : decide (0 ≤ x27_2) = true:=decide_eq_true c9;clear c9;(by_cases c10 : x27_2 < (l0.length : Int))
        ·rw [if_pos c10] at H;have c10b0 : decide (x27_2 < (l0.length : Int)) = true:=decide_eq_true c10;clear c10;(by_cases c11 : x6_2.length + (rd_L4 l0 x27_2).length < 17592186044416)
         ·rw [if_pos c11] at H;have LMc11:=am c11;clear c11;obtain ⟨y330,hy330⟩ : ∃ y_ : List Int,y_ = (x6_2 ++ (rd_L4 l0 x27_2)):=⟨_,rfl⟩;(replace H : (slices_Concat_int_int.l1 k2 y330 l0 (l0.length : Int) (wrap64 (x27_2 + 1))) = some r:=by first | (rw [hy330];with_reducible exact H) | (have H2_:=(Option.bind_some _ _).symm.trans H;rw [hy330];with_reducible exact H2_) | (have H2_:=(Option.bind_some _ _).symm.trans H;with_reducible exact H2_) | with_reducible exact H | (rw [hy330];exact H) | exact H);have Ny330:=am hy330;clear hy330;have H':=am H;clear H;(have p329 : 0 ≤ (x27_2 : Int):=of_decide_eq_true (by first | (with_reducible assumption) | assumption));(have q329 : x27_2 < (l0.length : Int):=of_decide_eq_true (by first | (with_reducible assumption) | assumption));obtain ⟨ad329,A329_0,c329_0,e329,hx329_0,hl329_0,hi329_0⟩:=at_L4 HR0.out x27_2 p329 q329;cases e329;replace hx329_0:=(HB.out.cell (World.block_lt_of_cell? w _ hx329_0)).trans hx329_0;have HR329_0:=am hi329_0;have HC329_0:=am hl329_0;clear hi329_0 hl329_0;replace p329:=eq_true p329;replace q329:=eq_true q329;(go_wp2_with (first | ((with_reducible refine gate_builtin (b:=.append) (xs:=#[.tmp 31,.tmp 32]) rfl ?_);at_builtin;refine Kd.R_append_rows (Kd.int .i64) (w0:=w) w.heap.size rfl (.tmp 31) (.tmp 32) 23 3 (.int .i64 0) 8 rfl Try.underlying23 info3 rfl (by decide) (by omega) u6 x6_2 (rd_L4 l0 x27_2) _ _ _ (fun _ => True) (fun _ => False) rfl rfl ?aO ?aR (fun _ _ h => h) (fun _ h => h.elim) ?aF ?aB ?aS ?aL ?_;(case aR => exact cu (Kd.C_below HR329_0.out HB.out));(case aB => exact lo HB.out);(case aF => exact (fun _ _ => trivial));(case aO => exact ru HO_6.out);(case aS => exact (below_size (lo HB.out)));(case aL => have:=LMc11.out;omega);intro v331 w12 ho hb hg hat;rw [← Ny330.out] at ho;replace HB:=am (hb);have HO332:=am (ho);clear HO_6;clear ho hb hg hat)));(go_roundg k2);(case measure => have:=HK1.out;have:=HK2.out;omega);(case rel => exact ⟨(y330),(wrap64 (x27_2 + 1)),(by first | rfl | (simp;done) | (simp [*];done) | (simp;rw [Bool.eq_iff_iff];simp;done)),H',⟨by have:=HK1.out;have:=HK2.out;omega⟩,⟨by exact ru HO332.out⟩,⟨lo HB.out⟩⟩)
         ·rw [if_neg c11] at H;(exact absurd H (by simp))
        ·rw [if_neg c10] at H;(exact absurd H (by simp))
       ·rw [if_neg c9] at H;(exact absurd H (by simp))
      ·rw [if_neg c8] at H;have c8b0 : decide (x27_2 < (l0.length : Int)) = false:=decide_eq_false c8;clear c8;obtain rfl:=Option.some.inj H;(go_wp2);(go_ret);(exact ⟨_,by first | rfl | (simp [errW_none,errW_some] <;> rfl) | (simp [*,errW_none,errW_some] <;> rfl),by exact ru HO_6.out,lo HB.out⟩)


/-! ### node_Join: function 25 (own text) -/
section
def node_Join.f (k : Nat) (a0_0 : Int) (l0_1 : List ByteArray) (l0_2 : List ByteArray) (l0_3 : List Int) (a1_0 : Int) (l1_1 : List ByteArray) (l1_2 : List ByteArray) (l1_3 : List Int) : Option (Int × List ByteArray × List ByteArray × List Int):=(slices_Concat_string_string.f k [l0_1,l1_1]).bind fun t1 => (slices_Concat_string_string.f k [l0_2,l1_2]).bind fun t2 => (slices_Concat_int_int.f k [l0_3,l1_3]).bind fun t3 => some (a0_0,t1,t2,t3)
theorem node_Join.mono : ∀ a0 a1 a2 a3 a4 a5 a6 a7 k,LeO (node_Join.f k a0 a1 a2 a3 a4 a5 a6 a7) (node_Join.f (k + 1) a0 a1 a2 a3 a4 a5 a6 a7):=by
 intro a0 a1 a2 a3 a4 a5 a6 a7 k;unfold node_Join.f;(exact LeO.bind (slices_Concat_string_string.mono _ _) (fun _ => LeO.bind (slices_Concat_string_string.mono _ _) (fun _ => LeO.bind (slices_Concat_int_int.mono _ _) (fun _ => LeO.refl _))))
theorem node_Join.two_ {α : Type} {d : Kd α} {q : Nat} {w : World} {g c0 c1 : Nat} {A0 A1 : Option Addr} {x y : List α} (h0 : w.cell? ⟨g,0,Option.none⟩ = some (.slice A0 x.length c0)) (h1 : w.cell? ⟨g,1,Option.none⟩ = some (.slice A1 y.length c1))
  (hx : d.C w A0 x.length x) (hc0 : x.length ≤ c0) (hy : d.C w A1 y.length y) (hc1 : y.length ≤ c1) : Kd.C (Kd.slice q d) w (some ⟨g,0,Option.none⟩) 2 [x,y]:=by
 refine ⟨rfl,by decide,fun _ => ⟨_,rfl,fun j p hj => ?_⟩⟩
 match j,hj with
 | 0,hj =>
  (injection hj with hj);subst hj
  exact ⟨[.slice A0 x.length c0],rfl,⟨A0,c0,rfl,hc0,hx⟩,fun i u hu => by
   cases i with
   | zero => injection hu with hu;subst hu;simpa [Addr.add,Kd.slice] using h0
   | succ i => simp at hu⟩
 | 1,hj =>
  (injection hj with hj);subst hj
  exact ⟨[.slice A1 y.length c1],rfl,⟨A1,c1,rfl,hc1,hy⟩,fun i u hu => by
   cases i with
   | zero => injection hu with hu;subst hu;simpa [Addr.add,Kd.slice] using h1
   | succ i => simp at hu⟩
 | j + 2,hj => simp at hj
theorem node_Join.cellA_ {w : World} {a : Addr} {v : Value} (h : w.cell? a = some v) (o : Obj) : (w.alloc o).cell? a = some v:=pw_cell_below (below_alloc (Below.refl _ _) o) h
theorem node_Join.cellS_ {w : World} {a p : Addr} {v : Value} (h : w.cell? a = some v) (hne : a.block ≠ p.block) (u : Value) : (w.setCell p u).cell? a = some v:=by
 rw [World.cell?_setCell_other]
 ·exact h
 ·intro e;exact hne (by rw [e])
theorem node_Join.cellD_ {w : World} {a : Addr} {v : Value} (h : w.cell? a = some v) : w.drew.cell? a = some v:=h
theorem node_Join.cellN_ {w : World} {a : Addr} {v : Value} (h : w.cell? a = some v) (m : Nat) : (w.drewN m).cell? a = some v:=h
/-- What Join made lies apart. -/
theorem node_Join.end_ {w W w1 w3 X1 X2 X3 : World} {a : Int} {t1 t2 : List ByteArray} {t3 : List Int} {v1 v2 v3 : Value} (x0 x1 x2 x3 : Value)
  (hs : W.heap.size = w.heap.size + 3) (h3 : Below w.heap.size w w3) (g3 : Below W.heap.size W w3) (b12 : w1.heap.size ≤ X2.heap.size) (bw1 : W.heap.size ≤ w1.heap.size) (b01 : W.heap.size ≤ X1.heap.size) (b23 : W.heap.size ≤ X3.heap.size)
  (o1 : Kd.R Kd.string 9 w3 X1.heap.size (fun k => k < w1.heap.size) v1 t1) (o2 : Kd.R Kd.string 9 w3 X2.heap.size (fun _ => True) v2 t2) (o3 : Kd.R (Kd.int .i64) 3 w3 X3.heap.size (fun _ => True) v3 t3) :
  ∃ v1_ v2_ v3_ : Value,Ending.returned (Value.agg #[.int .i64 a,v1,v2,v3]) = .returned (.agg #[.int .i64 a,v1_,v2_,v3_]) ∧ Kd.R Kd.string 9 ((((w3.setCell ⟨w.heap.size + 1 + 1,0,none⟩ x0).setCell ⟨w.heap.size + 1 + 1,1,none⟩ x1).setCell ⟨w.heap.size + 1 + 1,2,none⟩ x2).setCell ⟨w.heap.size + 1 + 1,3,none⟩ x3) w.heap.size (fun k_ => some k_ ≠ (v2_ : Value).ownBlock) v1_ t1 ∧ Kd.R Kd.string 9 ((((w3.setCell ⟨w.heap.size + 1 + 1,0,none⟩ x0).setCell ⟨w.heap.size + 1 + 1,1,none⟩ x1).setCell ⟨w.heap.size + 1 + 1,2,none⟩ x2).setCell ⟨w.heap.size + 1 + 1,3,none⟩ x3) w.heap.size (fun k_ => some k_ ≠ (v1_ : Value).ownBlock) v2_ t2 ∧ Kd.R (Kd.int .i64) 3 ((((w3.setCell ⟨w.heap.size + 1 + 1,0,none⟩ x0).setCell ⟨w.heap.size + 1 + 1,1,none⟩ x1).setCell ⟨w.heap.size + 1 + 1,2,none⟩ x2).setCell ⟨w.heap.size + 1 + 1,3,none⟩ x3) w.heap.size (fun _ => True) v3_ t3 ∧ Below w.heap.size w ((((w3.setCell ⟨w.heap.size + 1 + 1,0,none⟩ x0).setCell ⟨w.heap.size + 1 + 1,1,none⟩ x1).setCell ⟨w.heap.size + 1 + 1,2,none⟩ x2).setCell ⟨w.heap.size + 1 + 1,3,none⟩ x3):=by
 have r1:=Kd.R_base o1;have r2:=Kd.R_base o2;have r3:=Kd.R_base o3;(have p1 : Kd.R Kd.string 9 w3 w.heap.size (fun k => (some k ≠ v2.ownBlock) ∧ k ≠ w.heap.size + 1 + 1) v1 t1:=Kd.R_lower (Kd.R_mono (Kd.R_bound o1) (fun k hk => ⟨fun e => by have h4:=r2 k e.symm;have h5 : k < w1.heap.size:=hk.1;omega,by have h5 : X1.heap.size ≤ k:=hk.2.1;omega⟩)) (by omega));(have p2 : Kd.R Kd.string 9 w3 w.heap.size (fun k => (some k ≠ v1.ownBlock) ∧ k ≠ w.heap.size + 1 + 1) v2 t2:=Kd.R_lower (Kd.R_mono (Kd.R_bound o2) (fun k hk => ⟨fun e => by have h4 : k < w1.heap.size:=o1.1 k e.symm;have h5 : X2.heap.size ≤ k:=hk.2.1;omega,by have h5 : X2.heap.size ≤ k:=hk.2.1;omega⟩)) (by omega));(have p3 : Kd.R (Kd.int .i64) 3 w3 w.heap.size (fun k => True ∧ k ≠ w.heap.size + 1 + 1) v3 t3:=Kd.R_lower (Kd.R_mono (Kd.R_bound o3) (fun k hk => ⟨trivial,by have h5 : X3.heap.size ≤ k:=hk.2.1;omega⟩)) (by omega));(exact ⟨v1,v2,v3,rfl,Kd.R_mono (Kd.R_far (Kd.R_far (Kd.R_far (Kd.R_far p1 pq2 _) pq2 _) pq2 _) pq2 _) (fun _ hk => hk.1),Kd.R_mono (Kd.R_far (Kd.R_far (Kd.R_far (Kd.R_far p2 pq2 _) pq2 _) pq2 _) pq2 _) (fun _ hk => hk.1),Kd.R_mono (Kd.R_far (Kd.R_far (Kd.R_far (Kd.R_far p3 pq2 _) pq2 _) pq2 _) pq2 _) (fun _ hk => hk.1),below_set (below_set (below_set (below_set h3 (show w.heap.size ≤ w.heap.size + 1 + 1 by omega)) (show w.heap.size ≤ w.heap.size + 1 + 1 by omega)) (show w.heap.size ≤ w.heap.size + 1 + 1 by omega)) (show w.heap.size ≤ w.heap.size + 1 + 1 by omega)⟩)
set_option maxHeartbeats 4000000 in
set_option maxRecDepth 100000 in
theorem node_Join.calls (k : Nat) (a0_0 : Int) (A0_1 : Option Addr) (c0_1 : Nat) (l0_1 : List ByteArray) (A0_2 : Option Addr) (c0_2 : Nat) (l0_2 : List ByteArray) (A0_3 : Option Addr) (c0_3 : Nat) (l0_3 : List Int) (a1_0 : Int) (A1_1 : Option Addr) (c1_1 : Nat) (l1_1 : List ByteArray) (A1_2 : Option Addr) (c1_2 : Nat) (l1_2 : List ByteArray) (A1_3 : Option Addr) (c1_3 : Nat) (l1_3 : List Int) (r1 : Int) (r2 : List ByteArray) (r3 : List ByteArray) (r4 : List Int) (w : World)
  (hr0_1 : Kd.C Kd.string w A0_1 l0_1.length l0_1) (hc0_1 : l0_1.length ≤ c0_1) (hr0_2 : Kd.C Kd.string w A0_2 l0_2.length l0_2) (hc0_2 : l0_2.length ≤ c0_2) (hr0_3 : Kd.C (Kd.int .i64) w A0_3 l0_3.length l0_3) (hc0_3 : l0_3.length ≤ c0_3)
  (hr1_1 : Kd.C Kd.string w A1_1 l1_1.length l1_1) (hc1_1 : l1_1.length ≤ c1_1) (hr1_2 : Kd.C Kd.string w A1_2 l1_2.length l1_2) (hc1_2 : l1_2.length ≤ c1_2) (hr1_3 : Kd.C (Kd.int .i64) w A1_3 l1_3.length l1_3) (hc1_3 : l1_3.length ≤ c1_3) (h : node_Join.f k a0_0 l0_1 l0_2 l0_3 a1_0 l1_1 l1_2 l1_3 = some (r1,r2,r3,r4)) :
  Calls Try.prog 25 #[.agg #[.int .i64 a0_0,.slice A0_1 l0_1.length c0_1,.slice A0_2 l0_2.length c0_2,.slice A0_3 l0_3.length c0_3],.agg #[.int .i64 a1_0,.slice A1_1 l1_1.length c1_1,.slice A1_2 l1_2.length c1_2,.slice A1_3 l1_3.length c1_3]] w fun e w' => ∃ v1_ v2_ v3_ : Value,e = .returned (.agg #[.int .i64 r1,v1_,v2_,v3_]) ∧ Kd.R Kd.string 9 w' w.heap.size (fun k_ => some k_ ≠ (v2_ : Value).ownBlock) v1_ r2 ∧ Kd.R Kd.string 9 w' w.heap.size (fun k_ => some k_ ≠ (v1_ : Value).ownBlock) v2_ r3 ∧ Kd.R (Kd.int .i64) 3 w' w.heap.size (fun _ => True) v3_ r4 ∧ Below w.heap.size w w':=by
 unfold node_Join.f at h;obtain ⟨t1,h1,h⟩:=Option.bind_eq_some_iff.mp h;obtain ⟨t2,h2,h⟩:=Option.bind_eq_some_iff.mp h;obtain ⟨t3,h3,h⟩:=Option.bind_eq_some_iff.mp h;(injection h with h);(injection h with e1 h);(injection h with e2 h);(injection h with e3 e4);subst e1 e2 e3 e4;have H1:=am h1;have H2:=am h2;have H3:=am h3;have X1:=am hr0_1;have X2:=am hr0_2;have X3:=am hr0_3;have Y1:=am hr1_1;have Y2:=am hr1_2;have Y3:=am hr1_3;have D1:=am hc0_1;have D2:=am hc0_2;have D3:=am hc0_3;have E1:=am hc1_1;have E2:=am hc1_2;have E3:=am hc1_3;clear h1 h2 h3 hr0_1 hr0_2 hr0_3 hr1_1 hr1_2 hr1_3 hc0_1 hc0_2 hc0_3 hc1_1 hc1_2 hc1_3;(go_enter Try.func25,Try.ntmps25);(go_wp2_with fail);obtain ⟨W,hW⟩ : ∃ W,W = (((w.alloc (.cells #[.int .i64 a0_0,.slice A0_1 l0_1.length c0_1,.slice A0_2 l0_2.length c0_2,.slice A0_3 l0_3.length c0_3] 29)).alloc (.cells #[.int .i64 a1_0,.slice A1_1 l1_1.length c1_1,.slice A1_2 l1_2.length c1_2,.slice A1_3 l1_3.length c1_3] 29)).alloc (.cells #[.int .i64 0,.slice none 0 0,.slice none 0 0,.slice none 0 0] 29)):=⟨_,rfl⟩;(have hs : W.heap.size = w.heap.size + 3:=by rw [hW];simp);(have hbW : Below w.heap.size w W:=by rw [hW];exact below_alloc (below_alloc (below_alloc (Below.refl _ _) _) _) _);(have z00 : W.cell? ⟨w.heap.size,0,none⟩ = some (.int .i64 a0_0):=by rw [hW];simp [go_sem]);(have z01 : W.cell? ⟨w.heap.size,1,none⟩ = some (.slice A0_1 l0_1.length c0_1):=by rw [hW];simp [go_sem]);(have z02 : W.cell? ⟨w.heap.size,2,none⟩ = some (.slice A0_2 l0_2.length c0_2):=by rw [hW];simp [go_sem]);(have z03 : W.cell? ⟨w.heap.size,3,none⟩ = some (.slice A0_3 l0_3.length c0_3):=by rw [hW];simp [go_sem]);(have z11 : W.cell? ⟨w.heap.size + 1,1,none⟩ = some (.slice A1_1 l1_1.length c1_1):=by rw [hW];simp [go_sem]);(have z12 : W.cell? ⟨w.heap.size + 1,2,none⟩ = some (.slice A1_2 l1_2.length c1_2):=by rw [hW];simp [go_sem]);(have z13 : W.cell? ⟨w.heap.size + 1,3,none⟩ = some (.slice A1_3 l1_3.length c1_3):=by rw [hW];simp [go_sem])
 have hN : W.heap[w.heap.size + 2]? = some (.cells #[.int .i64 0,.slice none 0 0,.slice none 0 0,.slice none 0 0] 29 (0,0)):=by
  rw [hW]
  have:=blk_new ((w.alloc (.cells #[.int .i64 a0_0,.slice A0_1 l0_1.length c0_1,.slice A0_2 l0_2.length c0_2,.slice A0_3 l0_3.length c0_3] 29)).alloc (.cells #[.int .i64 a1_0,.slice A1_1 l1_1.length c1_1,.slice A1_2 l1_2.length c1_2,.slice A1_3 l1_3.length c1_3] 29)) (.cells #[.int .i64 0,.slice none 0 0,.slice none 0 0,.slice none 0 0] 29)
  simpa using this
 rw [← hW]

 clear hW;have HS:=am hs;have HN:=am hN;have HBW:=am hbW;clear hs hN hbW;(have old : ∀ {X Y : World} {b o : Nat} {v : Value},Below X.heap.size X Y → X.cell? ⟨b,o,none⟩ = some v → Y.cell? ⟨b,o,none⟩ = some v:=fun hb hc => (hb.cell (World.block_lt_of_cell? _ _ hc)).trans hc);have OLD:=am @old;clear old;have Z00:=am z00;have Z01:=am z01;have Z02:=am z02;have Z03:=am z03;have Z11:=am z11;have Z12:=am z12;have Z13:=am z13
 go_region_held3 (fun w' => (w'.cell? ⟨w.heap.size,0,none⟩ = some (.int .i64 a0_0) ∧ w'.cell? ⟨w.heap.size,1,none⟩ = some (.slice A0_1 l0_1.length c0_1) ∧ w'.cell? ⟨w.heap.size,2,none⟩ = some (.slice A0_2 l0_2.length c0_2)) ∧ (w'.cell? ⟨w.heap.size,3,none⟩ = some (.slice A0_3 l0_3.length c0_3) ∧ w'.cell? ⟨w.heap.size + 1,1,none⟩ = some (.slice A1_1 l1_1.length c1_1)) ∧ (w'.cell? ⟨w.heap.size + 1,2,none⟩ = some (.slice A1_2 l1_2.length c1_2) ∧ w'.cell? ⟨w.heap.size + 1,3,none⟩ = some (.slice A1_3 l1_3.length c1_3))) (refine ⟨⟨?_,?_,?_⟩,⟨?_,?_⟩,⟨?_,?_⟩⟩ <;> (repeat' first | with_reducible assumption | with_reducible apply node_Join.cellA_ | with_reducible apply node_Join.cellD_ | with_reducible apply node_Join.cellN_ | (with_reducible refine node_Join.cellS_ ?_ (by dsimp only;omega) _))) (first
  | (go_at_call 47;(fail_if_success (clear B1));refine (slices_Concat_string_string.calls k (some _) 2 [l0_1,l1_1] t1 _ (node_Join.two_ (A0:=A0_1) (A1:=A1_1) (c0:=c0_1) (c1:=c1_1) (by go_simp) (by go_simp) (by repeat (first | exact Kd.C_below X1.out HBW.out | refine Kd.C_alloc ?_ _ | refine Kd.C_drewN ?_ _ | refine Kd.C_drew ?_)) D1.out (by repeat (first | exact Kd.C_below Y1.out HBW.out | refine Kd.C_alloc ?_ _ | refine Kd.C_drewN ?_ _ | refine Kd.C_drew ?_)) E1.out) (Nat.le_refl 2) H1.out).mono ?_;rintro e w1 ⟨v1,rfl,ho,hb⟩;obtain ⟨Aw1,cw1,hv1,_,_⟩:=Kd.R_reads ho;subst hv1;have B1:=am (below_step (by repeat (first | exact HBW.out | apply below_alloc | apply below_drew1 | apply pw_below_drewN)) hb);have G1 : Aside0 (Below W.heap.size W w1):=⟨below_step (by repeat (first | exact Below.refl _ _ | apply below_alloc | apply below_drew1 | apply pw_below_drewN)) hb⟩;have O1:=am (Kd.R_mono (Kd.R_bound ho) (fun k hk => hk.2.2.1));(try have b00:=OLD.out hb (b:=W.heap.size) (o:=0) (v:=_) (by go_simp;exact rfl));(try have b01:=OLD.out hb (b:=W.heap.size) (o:=1) (v:=_) (by go_simp;exact rfl));(try have b10:=OLD.out hb (b:=W.heap.size + 1) (o:=0) (v:=_) (by go_simp;exact rfl));(try have b11:=OLD.out hb (b:=W.heap.size + 1) (o:=1) (v:=_) (by go_simp;exact rfl));(try have b20:=OLD.out hb (b:=W.heap.size + 2) (o:=0) (v:=_) (by go_simp;exact rfl));(try have b21:=OLD.out hb (b:=W.heap.size + 2) (o:=1) (v:=_) (by go_simp;exact rfl));(try have s0 : W.heap.size < w1.heap.size:=by have:=hb.size;simp at this;omega);(try have s1 : W.heap.size + 1 < w1.heap.size:=by have:=hb.size;simp at this;omega);(try have s2 : W.heap.size + 2 < w1.heap.size:=by have:=hb.size;simp at this;omega);have S1:=am hb.size;clear ho hb;clear z00 z01 z02 z03 z11 z12 z13;have q00:=OLD.out G1.out Z00.out;have q01:=OLD.out G1.out Z01.out;have q02:=OLD.out G1.out Z02.out;have q03:=OLD.out G1.out Z03.out;have q11:=OLD.out G1.out Z11.out;have q12:=OLD.out G1.out Z12.out;have q13:=OLD.out G1.out Z13.out)
  | (go_at_call 47;(fail_if_success (clear B2));refine (slices_Concat_string_string.calls k (some _) 2 [l0_2,l1_2] t2 _ (node_Join.two_ (A0:=A0_2) (A1:=A1_2) (c0:=c0_2) (c1:=c1_2) (by go_simp) (by go_simp) (by repeat (first | exact Kd.C_below X2.out B1.out | refine Kd.C_alloc ?_ _ | refine Kd.C_drewN ?_ _ | refine Kd.C_drew ?_)) D2.out (by repeat (first | exact Kd.C_below Y2.out B1.out | refine Kd.C_alloc ?_ _ | refine Kd.C_drewN ?_ _ | refine Kd.C_drew ?_)) E2.out) (Nat.le_refl 2) H2.out).mono ?_;rintro e w2 ⟨v2,rfl,ho,hb⟩;obtain ⟨Aw2,cw2,hv2,_,_⟩:=Kd.R_reads ho;subst hv2;have B2:=am (below_step (by repeat (first | exact B1.out | apply below_alloc | apply below_drew1 | apply pw_below_drewN)) hb);have G2 : Aside0 (Below W.heap.size W w2):=⟨below_step (by repeat (first | exact Below.refl _ _ | exact G1.out | apply below_alloc | apply below_drew1 | apply pw_below_drewN)) hb⟩;have O2:=am ho;have G12 : Below w1.heap.size w1 w2:=below_step (by repeat (first | exact Below.refl _ _ | apply below_alloc | apply below_drew1 | apply pw_below_drewN)) hb;(try have d00:=OLD.out hb (b:=w1.heap.size) (o:=0) (v:=_) (by go_simp;exact rfl));(try have d01:=OLD.out hb (b:=w1.heap.size) (o:=1) (v:=_) (by go_simp;exact rfl));(try have d10:=OLD.out hb (b:=w1.heap.size + 1) (o:=0) (v:=_) (by go_simp;exact rfl));(try have d11:=OLD.out hb (b:=w1.heap.size + 1) (o:=1) (v:=_) (by go_simp;exact rfl));(try have e00:=OLD.out G12 b00);(try have e01:=OLD.out G12 b01);(try have e10:=OLD.out G12 b10);(try have e11:=OLD.out G12 b11);(try have e20:=OLD.out G12 b20);(try have e21:=OLD.out G12 b21);(try have s0' : W.heap.size < w2.heap.size:=by have:=G12.size;omega);(try have s1' : W.heap.size + 1 < w2.heap.size:=by have:=G12.size;omega);(try have s2' : W.heap.size + 2 < w2.heap.size:=by have:=G12.size;omega);(try have r0 : w1.heap.size < w2.heap.size:=by have:=hb.size;simp at this;omega);(try have r1 : w1.heap.size + 1 < w2.heap.size:=by have:=hb.size;simp at this;omega);have S2:=am hb.size;have O1n:=am (Kd.R_below (ru O1.out) hb);clear O1;have O1:=O1n;clear O1n;clear ho hb;clear q00 q01 q02 q03 q11 q12 q13;have q00:=OLD.out G2.out Z00.out;have q01:=OLD.out G2.out Z01.out;have q02:=OLD.out G2.out Z02.out;have q03:=OLD.out G2.out Z03.out;have q11:=OLD.out G2.out Z11.out;have q12:=OLD.out G2.out Z12.out;have q13:=OLD.out G2.out Z13.out)
  | (go_at_call 48;refine (slices_Concat_int_int.calls k (some _) 2 [l0_3,l1_3] t3 _ (node_Join.two_ (A0:=A0_3) (A1:=A1_3) (c0:=c0_3) (c1:=c1_3) (by go_simp) (by go_simp) (by repeat (first | exact Kd.C_below X3.out B2.out | refine Kd.C_alloc ?_ _ | refine Kd.C_drewN ?_ _ | refine Kd.C_drew ?_)) D3.out (by repeat (first | exact Kd.C_below Y3.out B2.out | refine Kd.C_alloc ?_ _ | refine Kd.C_drewN ?_ _ | refine Kd.C_drew ?_)) E3.out) (Nat.le_refl 2) H3.out).mono ?_;rintro e w3 ⟨v3,rfl,ho,hb⟩;obtain ⟨Aw3,cw3,hv3,_,_⟩:=Kd.R_reads ho;subst hv3;have B3:=am (below_step (by repeat (first | exact B2.out | apply below_alloc | apply below_drew1 | apply pw_below_drewN)) hb);have G3 : Aside0 (Below W.heap.size W w3):=⟨below_step (by repeat (first | exact Below.refl _ _ | exact G2.out | apply below_alloc | apply below_drew1 | apply pw_below_drewN)) hb⟩;have O3:=am ho;have S3:=am hb.size;have O1n:=am (Kd.R_below (ru O1.out) hb);clear O1;have O1:=O1n;clear O1n;have O2n:=am (Kd.R_below (ru O2.out) hb);clear O2;have O2:=O2n;clear O2n;clear ho hb;clear q00 q01 q02 q03 q11 q12 q13;have q00:=OLD.out G3.out Z00.out;have q01:=OLD.out G3.out Z01.out;have q02:=OLD.out G3.out Z02.out;have q03:=OLD.out G3.out Z03.out;have q11:=OLD.out G3.out Z11.out;have q12:=OLD.out G3.out Z12.out;have q13:=OLD.out G3.out Z13.out;have n20:=blk_cell (blk_below HN.out G3.out) 0;have n21:=blk_cell (blk_below HN.out G3.out) 1;have n22:=blk_cell (blk_below HN.out G3.out) 2;have n23:=blk_cell (blk_below HN.out G3.out) 3;have m20:=blk_frozen (blk_below HN.out G3.out) 0;have m21:=blk_frozen (blk_below HN.out G3.out) 1;have m22:=blk_frozen (blk_below HN.out G3.out) 2;have m23:=blk_frozen (blk_below HN.out G3.out) 3)
  )
 all_goals (go_wp2_with fail;(refine bodyPost_ret (results_cell_row rfl _ _ (w.heap.size + 1 + 1) 29 #[.int .i64 a0_0,.slice Aw1 t1.length cw1,.slice Aw2 t2.length cw2,.slice Aw3 t3.length cw3] (0,0) _ rfl (by refine blk_put (cs:=#[.int .i64 a0_0,.slice Aw1 t1.length cw1,.slice Aw2 t2.length cw2,.slice none 0 0]) ?_ 3 _ rfl;refine blk_put (cs:=#[.int .i64 a0_0,.slice Aw1 t1.length cw1,.slice none 0 0,.slice none 0 0]) ?_ 2 _ rfl;refine blk_put (cs:=#[.int .i64 a0_0,.slice none 0 0,.slice none 0 0,.slice none 0 0]) ?_ 1 _ rfl;refine blk_put (cs:=#[.int .i64 0,.slice none 0 0,.slice none 0 0,.slice none 0 0]) ?_ 0 _ rfl;exact blk_below HN.out G3.out) Try.underlying29 rfl (by kernel_rfl)) rfl ?_);exact node_Join.end_ _ _ _ _ HS.out B3.out G3.out (by first | exact Nat.le_refl _ | (simp;done) | (simp;omega)) G1.out.size (by first | exact Nat.le_refl _ | (simp;done) | (simp;omega)) (by have:=G2.out.size;first | exact this | (simp;done) | (simp;omega)) O1.out O2.out O3.out)
end

end Go.Proofs.Ytlboglbgdjakmaa.PB

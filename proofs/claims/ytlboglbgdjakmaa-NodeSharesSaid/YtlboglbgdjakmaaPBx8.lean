-- Written by this session's own program wip/bin/dprint.py, over the kit's print.py, with own texts for some functions: no print of print.sh's
import Derived.Test.YtlboglbgdjakmaaPBx0
import Derived.Test.YtlboglbgdjakmaaUps
namespace Go.Proofs.Ytlboglbgdjakmaa.PB
open Go.RowKit Go.Proofs.YtlboglbgdjakmaaW.PrintWords Go.Proofs.YtlboglbgdjakmaaW.PrintLast Go.Proofs.YtlboglbgdjakmaaW.PrintMore
attribute [local go_sem] max2_int min2_int max_two min_two max_three min_three max_four min_four   -- for this text's walks alone
set_option linter.unusedVariables false
set_option linter.unusedSimpArgs false

/-! ### node_Node_Len: function 22 -/
def node_Node_Len.f (a0_0 : Int) (l0_1 : List ByteArray) (l0_2 : List ByteArray) (l0_3 : List Int) : Option (Int):=some (l0_1.length : Int)
set_option maxHeartbeats 40000000 in
set_option maxRecDepth 100000 in
theorem node_Node_Len.calls (a0_0 : Int) (A0_1 : Option Addr) (c0_1 : Nat) (l0_1 : List ByteArray) (A0_2 : Option Addr) (c0_2 : Nat) (l0_2 : List ByteArray) (A0_3 : Option Addr) (c0_3 : Nat) (l0_3 : List Int) (r : Int) (w : World) (hr0_1 : Kd.C Kd.string w A0_1 l0_1.length l0_1) (hc0_1 : l0_1.length ≤ c0_1) (hr0_2 : Kd.C Kd.string w A0_2 l0_2.length l0_2) (hc0_2 : l0_2.length ≤ c0_2) (hr0_3 : Kd.C (Kd.int .i64) w A0_3 l0_3.length l0_3) (hc0_3 : l0_3.length ≤ c0_3) (h : node_Node_Len.f a0_0 l0_1 l0_2 l0_3 = some r) :
  Calls Try.prog 22 #[.agg #[.int .i64 a0_0,.slice A0_1 l0_1.length c0_1,.slice A0_2 l0_2.length c0_2,.slice A0_3 l0_3.length c0_3]] w fun e w' => e = .returned (.int .i64 r) ∧ Below w.heap.size w w':=by
 have hu29:=Try.underlying29;have HR0_1:=am hr0_1;have HC0_1:=am hc0_1;clear hr0_1 hc0_1;have HR0_2:=am hr0_2;have HC0_2:=am hc0_2;clear hr0_2 hc0_2;have HR0_3:=am hr0_3;have HC0_3:=am hc0_3;clear hr0_3 hc0_3;have HB:=am (Below.refl w.heap.size w);have H : (some (l0_1.length : Int)) = some r:=h;clear h;obtain rfl:=Option.some.inj H;(go_enter Try.func22,Try.ntmps22);(go_wp2_with (first | ((with_reducible refine gate_dst (N:=1) rfl ?_);refine box_event ?hg (N:=1) ?hd (cs:=#[.int .i64 a0_0,.slice A0_1 l0_1.length c0_1,.slice A0_2 l0_2.length c0_2,.slice A0_3 l0_3.length c0_3]) (t:=29) ?hr ?_;(case hd => rfl);(case hg => rfl);(case hr => first | (go_simp;done) | (go_simp;rfl));intro gb156 hg w2 hbox hb;have BK156:=am (hbox);(have GW156:=am ((by rw [hg];exact (below_size (lo HB.out)) : w.heap.size ≤ gb156)));have GE156:GEc _ _:=⟨((by rw [hg];exact (below_size (lo HB.out)) : w.heap.size ≤ gb156))⟩;replace HB:=am (below_step (lo HB.out) hb);clear hb hbox hg;have hcz3_0 : w2.cell? ⟨gb156,0,none⟩ = some (.int .i64 a0_0):=bc BK156.out 0 rfl;have hcz3_1 : w2.cell? ⟨gb156,1,none⟩ = some (.slice A0_1 l0_1.length c0_1):=bc BK156.out 1 rfl;have hcz3_2 : w2.cell? ⟨gb156,2,none⟩ = some (.slice A0_2 l0_2.length c0_2):=bc BK156.out 2 rfl;have hcz3_3 : w2.cell? ⟨gb156,3,none⟩ = some (.slice A0_3 l0_3.length c0_3):=bc BK156.out 3 rfl;have hfz3_0:=blk_frozen BK156.out 0;have hfz3_1:=blk_frozen BK156.out 1;have hfz3_2:=blk_frozen BK156.out 2;have hfz3_3:=blk_frozen BK156.out 3)));(go_ret);(exact ⟨by first | rfl | (simp [errW_none,errW_some] <;> rfl) | (simp [*,errW_none,errW_some] <;> rfl),lo HB.out⟩)

-- NOT PRINTED: function 67 (abi_NoEscape)

-- NOT PRINTED: function 56 (strings_Builder_copyCheck)

-- NOT PRINTED: function 39 (strings_Builder_WriteString)

/-! ### varint_Num: function 40 -/
def varint_Num.l0 : Nat → Int → List Int → Option (ByteArray)
 | 0,_,_ => none
 | k + 1,x0,x3 => if x0 ≥ 128 then (if x3.length < 140737488355328 then (varint_Num.l0 k (x0 / 128) (x3 ++ [Go.bits .or .u8 ((x0) % 256) 128])) else (none)) else (if x3.length < 140737488355328 then (some (strOfNums (x3 ++ [(x0) % 256]))) else (none))
def varint_Num.f (k : Nat) (a0 : Int) : Option (ByteArray):=varint_Num.l0 k a0 ([] : List Int)
theorem varint_Num.mono_l : ∀ k,(∀ y0 y1,LeO (varint_Num.l0 k y0 y1) (varint_Num.l0 (k + 1) y0 y1))
 | 0 => fun _ _ r h => by simp [varint_Num.l0] at h
 | k + 1 => by
  have ih0:=varint_Num.mono_l k
  ·intro y0 y1;unfold varint_Num.l0
   repeat' first
   | (with_reducible exact ih0 _ _)
   | (with_reducible exact LeO.refl _)
   | (with_reducible exact LeO.none _)
   | (with_reducible refine LeO.ite ?_ ?_)
   | (with_reducible refine LeO.bind ?_ (fun _ => ?_))
   | exact ih0 _ _
   | exact LeO.none _
   | refine LeO.ite ?_ ?_
   | refine LeO.bind ?_ (fun _ => ?_)
theorem varint_Num.mono : ∀ a0 k,LeO (varint_Num.f k a0) (varint_Num.f (k + 1) a0):=by
 intro a0 k;have ih0:=varint_Num.mono_l k;unfold varint_Num.f
 repeat' first
   | (with_reducible exact ih0 _ _)
   | (with_reducible exact LeO.refl _)
   | (with_reducible exact LeO.none _)
   | (with_reducible refine LeO.ite ?_ ?_)
   | (with_reducible refine LeO.bind ?_ (fun _ => ?_))
   | exact ih0 _ _
   | exact LeO.none _
   | refine LeO.ite ?_ ?_
   | refine LeO.bind ?_ (fun _ => ?_)
set_option maxHeartbeats 40000000 in
set_option maxRecDepth 100000 in
theorem varint_Num.calls (k : Nat) (a0 : Int) (r : ByteArray) (w : World) (h : varint_Num.f k a0 = some r) :
  Calls Try.prog 40 #[.int .u64 a0] w fun e w' => e = .returned (.string r) ∧ Below w.heap.size w w':=by
 have HB:=am (Below.refl w.heap.size w);have H : (varint_Num.l0 k a0 ([] : List Int)) = some r:=h;clear h;have H':=am H;clear H;(go_enter Try.func40,Try.ntmps40);(go_wp2);(go_loopg [0,3] k (fun kq v0 v3 w' => ∃ (x0_1 : Int) (x3_1 : List Int),v0 = .int .u64 x0_1 ∧ Aside0 (varint_Num.l0 kq x0_1 x3_1 = some r) ∧ Aside0 (kq ≤ k) ∧ Aside0 (Kd.R (Kd.int .u8) 5 w' w.heap.size (fun _ => True) v3 x3_1) ∧ Aside0 (Below w.heap.size w w')));(case atStart => exact ⟨(a0),(([] : List Int)),(by first | rfl | (simp;done) | (simp [*];done) | (simp;rw [Bool.eq_iff_iff];simp;done)),H',⟨Nat.le_refl _⟩,⟨by first | exact Kd.R_nil _ _ _ _ _ | exact Kd.N_nil _ _ _ _ _ | exact Kd.V_nil _ _ _ _ _ | exact Kd.Q_nil _ _ _ _ _ | exact Kd.S_nil _ _ _ _ _⟩,⟨lo HB.out⟩⟩)
 case round =>
  clear H';obtain ⟨x0_1,x3_1,rfl,HA,HK1,HO_3,HB⟩:=hrel
  cases gk with
  | zero => exact absurd HA.out (by simp [varint_Num.l0])
  | succ k1 =>
   have H:=HA.out;clear HA;simp only [varint_Num.l0] at H;(by_cases c2 : x0_1 ≥ 128)
   ·rw [if_pos c2] at H;have c2b0 : decide (128 ≤ x0_1) = true:=decide_eq_true c2;clear c2;(by_cases c3 : x3_1.length < 140737488355328)
    ·rw [if_pos c3] at H;have LMc3:=am c3;clear c3;obtain ⟨y157,hy157⟩ : ∃ y_ : List Int,y_ = (x3_1 ++ [Go.bits .or .u8 ((x0_1) % 256) 128]):=⟨_,rfl⟩;(replace H : (varint_Num.l0 k1 (x0_1 / 128) y157) = some r:=by first | (rw [hy157];with_reducible exact H) | (have H2_:=(Option.bind_some _ _).symm.trans H;rw [hy157];with_reducible exact H2_) | (have H2_:=(Option.bind_some _ _).symm.trans H;with_reducible exact H2_) | with_reducible exact H | (rw [hy157];exact H) | exact H);have Ny157:=am hy157;clear hy157;have H':=am H;clear H;(go_wp2_with (first | ((with_reducible refine gate_builtin (b:=.append) (xs:=#[.tmp 6,.tmp 10]) rfl ?_);at_builtin;refine Kd.R_append (Kd.int .u8) (w0:=w) w.heap.size rfl (.tmp 6) (.tmp 10) 65 5 (.int .u8 0) 1 rfl Try.underlying65 info5 rfl (by decide) (by omega) u3 x3_1 (Go.bits .or .u8 ((x0_1) % 256) 128) [.int .u8 (Go.bits .or .u8 ((x0_1) % 256) 128)] (fun _ => True) (fun _ => False) rfl rfl ?aP (fun _ hk => hk.elim) ?aF ?aO ?aB ?aS ?aL ?_;(case aP => exact rfl);(case aB => exact lo HB.out);(case aF => exact (fun _ _ => trivial));(case aO => exact ru HO_3.out);(case aS => exact (below_size (lo HB.out)));(case aL => have:=LMc3.out;omega);intro v158 w4 ho hb hg hat;rw [← Ny157.out] at ho;replace HB:=am (hb);have HO159:=am (ho);clear HO_3;clear ho hb hg hat)));(go_roundg k1);(case measure => have:=HK1.out;omega);(case rel => exact ⟨(x0_1 / 128),(y157),(by first | rfl | (simp;done) | (simp [*];done) | (simp;rw [Bool.eq_iff_iff];simp;done)),H',⟨by have:=HK1.out;omega⟩,⟨by exact ru HO159.out⟩,⟨lo HB.out⟩⟩)
    ·rw [if_neg c3] at H;(exact absurd H (by simp))
   ·rw [if_neg c2] at H;have c2b0 : decide (128 ≤ x0_1) = false:=decide_eq_false c2;clear c2;(by_cases c5 : x3_1.length < 140737488355328)
    ·rw [if_pos c5] at H;have LMc5:=am c5;clear c5;obtain ⟨y160,hy160⟩ : ∃ y_ : List Int,y_ = (x3_1 ++ [(x0_1) % 256]):=⟨_,rfl⟩;(replace H : (some (strOfNums y160)) = some r:=by first | (rw [hy160];with_reducible exact H) | (have H2_:=(Option.bind_some _ _).symm.trans H;rw [hy160];with_reducible exact H2_) | (have H2_:=(Option.bind_some _ _).symm.trans H;with_reducible exact H2_) | with_reducible exact H | (rw [hy160];exact H) | exact H);have Ny160:=am hy160;clear hy160;obtain rfl:=Option.some.inj H;(go_wp2_with (first | ((with_reducible refine gate_builtin (b:=.append) (xs:=#[.tmp 14,.tmp 17]) rfl ?_);at_builtin;refine Kd.R_append (Kd.int .u8) (w0:=w) w.heap.size rfl (.tmp 14) (.tmp 17) 65 5 (.int .u8 0) 1 rfl Try.underlying65 info5 rfl (by decide) (by omega) u3 x3_1 ((x0_1) % 256) [.int .u8 ((x0_1) % 256)] (fun _ => True) (fun _ => False) rfl rfl ?aP (fun _ hk => hk.elim) ?aF ?aO ?aB ?aS ?aL ?_;(case aP => exact rfl);(case aB => exact lo HB.out);(case aF => exact (fun _ _ => trivial));(case aO => exact ru HO_3.out);(case aS => exact (below_size (lo HB.out)));(case aL => have:=LMc5.out;omega);intro v161 w6 ho hb hg hat;rw [← Ny160.out] at ho;replace HB:=am (hb);have HO162:=am (ho);clear HO_3;clear ho hb hg hat;have hcv7:=own_string (P:=Try.prog) Try.underlying65 Try.underlying5 Try.underlying9 (Kd.own_of_R HO162.out))));(go_ret);(exact ⟨by first | rfl | (simp [errW_none,errW_some] <;> rfl) | (simp [*,errW_none,errW_some] <;> rfl),lo HB.out⟩)
    ·rw [if_neg c5] at H;(exact absurd H (by simp))

/-! ### varint_Text: function 57 -/
def varint_Text.f (k : Nat) (a0 : ByteArray) : Option (ByteArray):=if a0.size + 0 ≤ 9223372036854775807 then ((varint_Num.f k (a0.size : Int)).bind fun t163 => (if t163.size + a0.size ≤ 9223372036854775807 then (some (t163 ++ a0)) else (none))) else (none)
theorem varint_Text.mono : ∀ a0 k,LeO (varint_Text.f k a0) (varint_Text.f (k + 1) a0):=by
 intro a0 k;unfold varint_Text.f
 repeat' first
   | (with_reducible exact varint_Num.mono _ _)
   | (with_reducible exact LeO.refl _)
   | (with_reducible exact LeO.none _)
   | (with_reducible refine LeO.ite ?_ ?_)
   | (with_reducible refine LeO.bind ?_ (fun _ => ?_))
   | exact varint_Num.mono _ _
   | exact LeO.none _
   | refine LeO.ite ?_ ?_
   | refine LeO.bind ?_ (fun _ => ?_)
set_option maxHeartbeats 40000000 in
set_option maxRecDepth 100000 in
theorem varint_Text.calls (k : Nat) (a0 : ByteArray) (r : ByteArray) (w : World) (h : varint_Text.f k a0 = some r) :
  Calls Try.prog 57 #[.string a0] w fun e w' => e = .returned (.string r) ∧ Below w.heap.size w w':=by
 have HB:=am (Below.refl w.heap.size w);(have H : (if a0.size + 0 ≤ 9223372036854775807 then ((varint_Num.f k (a0.size : Int)).bind fun t163 => (if t163.size + a0.size ≤ 9223372036854775807 then (some (t163 ++ a0)) else (none))) else (none)) = some r:=h);clear h;(by_cases c2 : a0.size + 0 ≤ 9223372036854775807)
 ·rw [if_pos c2] at H;have c2b0:=eq_true c2;have c2b1 : decide (a0.size + 0 ≤ 9223372036854775807) = true:=decide_eq_true c2;(try have c2b2 : (9223372036854775807 < a0.size + 0) = False:=eq_false (Nat.not_lt.2 c2));replace H:=Option.bind_eq_some_iff.mp H;obtain ⟨t163,A30,H⟩:=H;replace H : (if t163.size + a0.size ≤ 9223372036854775807 then (some (t163 ++ a0)) else (none)) = some r:=H;have A3:=am A30;clear A30;(by_cases c4 : t163.size + a0.size ≤ 9223372036854775807)
  ·rw [if_pos c4] at H;have c4b0:=eq_true c4;have c4b1 : decide (t163.size + a0.size ≤ 9223372036854775807) = true:=decide_eq_true c4;(try have c4b2 : (9223372036854775807 < t163.size + a0.size) = False:=eq_false (Nat.not_lt.2 c4));obtain rfl:=Option.some.inj H;(go_enter Try.func57,Try.ntmps57);(go_wp2_with (first | ((with_reducible refine gate_callee (f:=40) rfl ?_);refine goesL_ (some 6) rfl rfl Try.func40 (by kernel_rfl) rfl #[.int .u64 (a0.size : Int)] rfl (by (try simp only [List.map_toArray,List.map_cons,List.map_nil]);first | done | rfl | (simp only [List.length_drop,List.length_take];rfl)) ?_;(with_reducible refine (varint_Num.calls k (a0.size : Int) t163 _ A3.out).mono ?_);rintro e w5 ⟨rfl,hb⟩;refine ⟨_,rfl,?_⟩;replace HB:=am (below_step (lo HB.out) hb);(try clear hb);(try clear hb2);(try clear hk);(try clear hi))));(go_ret);(exact ⟨by first | rfl | (simp [errW_none,errW_some] <;> rfl) | (simp [*,errW_none,errW_some] <;> rfl),lo HB.out⟩)
  ·rw [if_neg c4] at H;(exact absurd H (by simp))
 ·rw [if_neg c2] at H;(exact absurd H (by simp))

end Go.Proofs.Ytlboglbgdjakmaa.PB

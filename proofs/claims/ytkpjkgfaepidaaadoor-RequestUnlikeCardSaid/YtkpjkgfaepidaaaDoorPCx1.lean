-- Written by this session's own program wip/bin/dprint.py, over the kit's print.py, with own texts for some functions: no print of print.sh's
import Derived.Test.YtkpjkgfaepidaaaDoorPCx0
import Derived.Test.YtkpjkgfaepidaaaDoorUps
namespace Go.Proofs.YtkpjkgfaepidaaaDoor.PC
open Go.RowKit Go.Proofs.YtkpjkgfaepidaaaDoorW.PrintWords Go.Proofs.YtkpjkgfaepidaaaDoorW.PrintLast Go.Proofs.YtkpjkgfaepidaaaDoorW.PrintMore
attribute [local go_sem] max2_int min2_int max_two min_two max_three min_three max_four min_four   -- for this text's walks alone
set_option linter.unusedVariables false
set_option linter.unusedSimpArgs false

-- NOT PRINTED: function 56 (abi_NoEscape)

-- NOT PRINTED: function 54 (strings_Builder_copyCheck)

-- NOT PRINTED: function 45 (strings_Builder_WriteString)

/-! ### varint_Num: function 46 -/
def varint_Num.l0 : Nat → Int → List Int → Option (ByteArray)
 | 0,_,_ => none
 | k + 1,x0,x3 => if x0 ≥ 128 then (if x3.length < 140737488355328 then (varint_Num.l0 k (x0 / 128) (x3 ++ [Go.bits .or .u8 ((x0) % 256) 128])) else (none)) else (if x3.length < 140737488355328 then (some (strOfNums (x3 ++ [(x0) % 256]))) else (none))
def varint_Num.f (k : Nat) (a0 : Int) : Option (ByteArray):=varint_Num.l0 k a0 ([] : List Int)
theorem varint_Num.mono_l : ∀ k,(∀ y0 y1,LeO (varint_Num.l0 k y0 y1) (varint_Num.l0 (k + 1) y0 y1))
 | 0 => fun _ _ r h => by simp [varint_Num.l0] at h
 | k + 1 => by
  have ih0:=varint_Num.mono_l k
  ·intro y0 y1;unfold varint_Num.l0
   repeat' first
   | (with_reducible exact ih0 _ _)
   | (with_reducible exact LeO.refl _)
   | (with_reducible exact LeO.none _)
   | (with_reducible refine LeO.ite ?_ ?_)
   | (with_reducible refine LeO.bind ?_ (fun _ => ?_))
   | exact ih0 _ _
   | exact LeO.none _
   | refine LeO.ite ?_ ?_
   | refine LeO.bind ?_ (fun _ => ?_)
theorem varint_Num.mono : ∀ a0 k,LeO (varint_Num.f k a0) (varint_Num.f (k + 1) a0):=by
 intro a0 k;have ih0:=varint_Num.mono_l k;unfold varint_Num.f
 repeat' first
   | (with_reducible exact ih0 _ _)
   | (with_reducible exact LeO.refl _)
   | (with_reducible exact LeO.none _)
   | (with_reducible refine LeO.ite ?_ ?_)
   | (with_reducible refine LeO.bind ?_ (fun _ => ?_))
   | exact ih0 _ _
   | exact LeO.none _
   | refine LeO.ite ?_ ?_
   | refine LeO.bind ?_ (fun _ => ?_)
set_option maxHeartbeats 40000000 in
set_option maxRecDepth 100000 in
theorem varint_Num.calls (k : Nat) (a0 : Int) (r : ByteArray) (w : World) (h : varint_Num.f k a0 = some r) :
  Calls Tryd.prog 46 #[.int .u64 a0] w fun e w' => e = .returned (.string r) ∧ Below w.heap.size w w':=by
 have HB:=am (Below.refl w.heap.size w);have H : (varint_Num.l0 k a0 ([] : List Int)) = some r:=h;clear h;have H':=am H;clear H;(go_enter Tryd.func46,Tryd.ntmps46);(go_wp2);(go_loopg [0,3] k (fun kq v0 v3 w' => ∃ (x0_1 : Int) (x3_1 : List Int),v0 = .int .u64 x0_1 ∧ Aside0 (varint_Num.l0 kq x0_1 x3_1 = some r) ∧ Aside0 (kq ≤ k) ∧ Aside0 (Kd.R (Kd.int .u8) 5 w' w.heap.size (fun _ => True) v3 x3_1) ∧ Aside0 (Below w.heap.size w w')));(case atStart => exact ⟨(a0),(([] : List Int)),(by first | rfl | (simp;done) | (simp [*];done) | (simp;rw [Bool.eq_iff_iff];simp;done)),H',⟨Nat.le_refl _⟩,⟨by first | exact Kd.R_nil _ _ _ _ _ | exact Kd.N_nil _ _ _ _ _ | exact Kd.V_nil _ _ _ _ _ | exact Kd.Q_nil _ _ _ _ _ | exact Kd.S_nil _ _ _ _ _⟩,⟨lo HB.out⟩⟩)
 case round =>
  clear H';obtain ⟨x0_1,x3_1,rfl,HA,HK1,HO_3,HB⟩:=hrel
  cases gk with
  | zero => exact absurd HA.out (by simp [varint_Num.l0])
  | succ k1 =>
   have H:=HA.out;clear HA;simp only [varint_Num.l0] at H;(by_cases c2 : x0_1 ≥ 128)
   ·rw [if_pos c2] at H;have c2b0 : decide (128 ≤ x0_1) = true:=decide_eq_true c2;clear c2;(by_cases c3 : x3_1.length < 140737488355328)
    ·rw [if_pos c3] at H;have LMc3:=am c3;clear c3;obtain ⟨y101,hy101⟩ : ∃ y_ : List Int,y_ = (x3_1 ++ [Go.bits .or .u8 ((x0_1) % 256) 128]):=⟨_,rfl⟩;(replace H : (varint_Num.l0 k1 (x0_1 / 128) y101) = some r:=by first | (rw [hy101];with_reducible exact H) | (have H2_:=(Option.bind_some _ _).symm.trans H;rw [hy101];with_reducible exact H2_) | (have H2_:=(Option.bind_some _ _).symm.trans H;with_reducible exact H2_) | with_reducible exact H | (rw [hy101];exact H) | exact H);have Ny101:=am hy101;clear hy101;have H':=am H;clear H;(go_wp2_with (first | ((with_reducible refine gate_builtin (b:=.append) (xs:=#[.tmp 6,.tmp 10]) rfl ?_);at_builtin;refine Kd.R_append (Kd.int .u8) (w0:=w) w.heap.size rfl (.tmp 6) (.tmp 10) 73 5 (.int .u8 0) 1 rfl Tryd.underlying73 info5 rfl (by decide) (by omega) u3 x3_1 (Go.bits .or .u8 ((x0_1) % 256) 128) [.int .u8 (Go.bits .or .u8 ((x0_1) % 256) 128)] (fun _ => True) (fun _ => False) rfl rfl ?aP (fun _ hk => hk.elim) ?aF ?aO ?aB ?aS ?aL ?_;(case aP => exact rfl);(case aB => exact lo HB.out);(case aF => exact (fun _ _ => trivial));(case aO => exact ru HO_3.out);(case aS => exact (below_size (lo HB.out)));(case aL => have:=LMc3.out;omega);intro v102 w4 ho hb hg hat;rw [← Ny101.out] at ho;replace HB:=am (hb);have HO103:=am (ho);clear HO_3;clear ho hb hg hat)));(go_roundg k1);(case measure => have:=HK1.out;omega);(case rel => exact ⟨(x0_1 / 128),(y101),(by first | rfl | (simp;done) | (simp [*];done) | (simp;rw [Bool.eq_iff_iff];simp;done)),H',⟨by have:=HK1.out;omega⟩,⟨by exact ru HO103.out⟩,⟨lo HB.out⟩⟩)
    ·rw [if_neg c3] at H;(exact absurd H (by simp))
   ·rw [if_neg c2] at H;have c2b0 : decide (128 ≤ x0_1) = false:=decide_eq_false c2;clear c2;(by_cases c5 : x3_1.length < 140737488355328)
    ·rw [if_pos c5] at H;have LMc5:=am c5;clear c5;obtain ⟨y104,hy104⟩ : ∃ y_ : List Int,y_ = (x3_1 ++ [(x0_1) % 256]):=⟨_,rfl⟩;(replace H : (some (strOfNums y104)) = some r:=by first | (rw [hy104];with_reducible exact H) | (have H2_:=(Option.bind_some _ _).symm.trans H;rw [hy104];with_reducible exact H2_) | (have H2_:=(Option.bind_some _ _).symm.trans H;with_reducible exact H2_) | with_reducible exact H | (rw [hy104];exact H) | exact H);have Ny104:=am hy104;clear hy104;obtain rfl:=Option.some.inj H;(go_wp2_with (first | ((with_reducible refine gate_builtin (b:=.append) (xs:=#[.tmp 14,.tmp 17]) rfl ?_);at_builtin;refine Kd.R_append (Kd.int .u8) (w0:=w) w.heap.size rfl (.tmp 14) (.tmp 17) 73 5 (.int .u8 0) 1 rfl Tryd.underlying73 info5 rfl (by decide) (by omega) u3 x3_1 ((x0_1) % 256) [.int .u8 ((x0_1) % 256)] (fun _ => True) (fun _ => False) rfl rfl ?aP (fun _ hk => hk.elim) ?aF ?aO ?aB ?aS ?aL ?_;(case aP => exact rfl);(case aB => exact lo HB.out);(case aF => exact (fun _ _ => trivial));(case aO => exact ru HO_3.out);(case aS => exact (below_size (lo HB.out)));(case aL => have:=LMc5.out;omega);intro v105 w6 ho hb hg hat;rw [← Ny104.out] at ho;replace HB:=am (hb);have HO106:=am (ho);clear HO_3;clear ho hb hg hat;have hcv7:=own_string (P:=Tryd.prog) Tryd.underlying73 Tryd.underlying5 Tryd.underlying9 (Kd.own_of_R HO106.out))));(go_ret);(exact ⟨by first | rfl | (simp [errW_none,errW_some] <;> rfl) | (simp [*,errW_none,errW_some] <;> rfl),lo HB.out⟩)
    ·rw [if_neg c5] at H;(exact absurd H (by simp))

-- NOT PRINTED: function 47 (strings_Builder_String)


/-! ### request_nums: function 26 (own text) -/
def request_nums.l0 : Nat → List Int → Nat → List UInt8 → Option ByteArray
 | 0,_,_,_ => none
 | k + 1,l,i,acc => if i < l.length then (varint_Num.f k (IntKind.u64.wrap (rd l (i : Int)))).bind fun t => (if acc.length + t.size ≤ 140737488355328 then request_nums.l0 k l (i + 1) (acc ++ t.data.toList) else none) else some ⟨acc.toArray⟩
def request_nums.f (k : Nat) (l0 : List Int) : Option ByteArray:=request_nums.l0 k l0 0 []
theorem request_nums.mono_l : ∀ k l i acc,LeO (request_nums.l0 k l i acc) (request_nums.l0 (k + 1) l i acc)
 | 0 => fun _ _ _ => LeO.none _
 | k + 1 => fun l i acc => by
  have ih:=request_nums.mono_l k;unfold request_nums.l0;(exact LeO.ite (LeO.bind (varint_Num.mono _ _) (fun t => LeO.ite (ih _ _ _) (LeO.refl _))) (LeO.refl _))
theorem request_nums.mono : ∀ a0 k,LeO (request_nums.f k a0) (request_nums.f (k + 1) a0):=fun a0 k => request_nums.mono_l k a0 0 []
set_option maxHeartbeats 4000000 in
set_option maxRecDepth 100000 in
theorem request_nums.calls (k : Nat) (A0 : Option Addr) (c0 : Nat) (l0 : List Int) (r : ByteArray) (w : World) (hr0 : Kd.C (Kd.int .i64) w A0 l0.length l0) (hc0 : l0.length ≤ c0) (h : request_nums.f k l0 = some r) :
  Calls Tryd.prog 26 #[.slice A0 l0.length c0] w fun e w' => e = .returned (.string r) ∧ Below w.heap.size w w':=by
 have HR:=am hr0;have hm:=Kd.C_max hr0;have H2:=am (show request_nums.l0 k l0 0 [] = some r from h);clear hr0 h hc0;(go_enter Tryd.func26,Tryd.ntmps26);(go_wp2);have hH : Go.Proofs.YtkpjkgfaepidaaaDoor.Bld.Holds w.heap.size w.heap.size [] (w.alloc (.cells #[.pointer none,.slice none 0 0] 75)):=Go.Proofs.YtkpjkgfaepidaaaDoor.Bld.Holds.fresh w;have HH:=am hH;have HB:=am (below_alloc (Below.refl w.heap.size w) (.cells #[.pointer none,.slice none 0 0] 75));clear hH;(go_loopg [5,8] k (fun kq v5 v8 w' => ∃ (i : Nat) (acc : List UInt8),v8 = .int .i64 (i : Int) ∧ Aside0 (request_nums.l0 kq l0 i acc = some r) ∧ Aside0 (kq ≤ k) ∧ Aside0 (Go.Proofs.YtkpjkgfaepidaaaDoor.Bld.Holds w.heap.size w.heap.size acc w') ∧ Aside0 (Below w.heap.size w w')));(case atStart => exact ⟨0,[],rfl,H2,⟨Nat.le_refl _⟩,HH,HB⟩)
 case round =>
  obtain ⟨i,acc,rfl,hl,hk,hh,hbw⟩:=hrel;clear HH HB H2
  cases gk with
  | zero => exact absurd hl.out (by simp [request_nums.l0])
  | succ k1 =>
   have H:=hl.out;clear hl;unfold request_nums.l0 at H;(by_cases hi : i < l0.length)
   ·rw [if_pos hi] at H;obtain ⟨t2,g1,g2⟩:=Option.bind_eq_some_iff.mp H;have G1:=am g1;(by_cases c3 : acc.length + t2.size ≤ 140737488355328)
    ·rw [if_pos c3] at g2;have G2:=am g2;clear H g1 g2;have c4 : decide (i < l0.length) = true:=decide_eq_true hi;(have hil : (i : Int) < 9223372036854775807:=by omega);(obtain ⟨ad,e1,hx⟩:=Kd.at_int (Kd.C_below HR.out hbw.out) (i : Int) (by omega) (by omega));cases e1;rw [Int.toNat_natCast] at hx;(go_wp2_with fail);(refine (varint_Num.calls k1 _ t2 _ G1.out).mono ?_);(rintro e w4 ⟨rfl,hb4⟩);have hH4:=hh.out.below hb4;have hlt1:=hh.out.lt;(go_wp2_with fail);(refine (Go.Proofs.YtkpjkgfaepidaaaDoor.Bld.write w.heap.size w.heap.size acc t2 _ hH4 c3 (by have:=hb4.size;omega)).mono ?_);(rintro e w5 ⟨rfl,hH5,hb5⟩);have HH5:=am hH5;have HB5:=am ((hbw.out.trans (hb4.mono hbw.out.size)).trans hb5);clear hH4 hH5 hb4 hb5 hx;(go_wp2);(go_roundg k1);(case measure => have:=hk.out;omega);(case rel => exact ⟨i + 1,acc ++ t2.data.toList,by go_num,G2,⟨by have:=hk.out;omega⟩,HH5,HB5⟩)
    ·rw [if_neg c3] at g2;cases g2
   ·rw [if_neg hi] at H;obtain rfl:=Option.some.inj H;clear H;have c4 : decide (i < l0.length) = false:=decide_eq_false hi;have hlt1:=hh.out.lt;(go_wp2_with fail);(refine (Go.Proofs.YtkpjkgfaepidaaaDoor.Bld.told w.heap.size w.heap.size acc _ hh.out (by omega)).mono ?_);(rintro e w3 ⟨rfl,hb3⟩);(go_wp2);(go_ret);exact ⟨rfl,hbw.out.trans hb3⟩

/-! ### varint_Text: function 27 -/
def varint_Text.f (k : Nat) (a0 : ByteArray) : Option (ByteArray):=if a0.size + 0 ≤ 9223372036854775807 then ((varint_Num.f k (a0.size : Int)).bind fun t107 => (if t107.size + a0.size ≤ 9223372036854775807 then (some (t107 ++ a0)) else (none))) else (none)
theorem varint_Text.mono : ∀ a0 k,LeO (varint_Text.f k a0) (varint_Text.f (k + 1) a0):=by
 intro a0 k;unfold varint_Text.f
 repeat' first
   | (with_reducible exact varint_Num.mono _ _)
   | (with_reducible exact LeO.refl _)
   | (with_reducible exact LeO.none _)
   | (with_reducible refine LeO.ite ?_ ?_)
   | (with_reducible refine LeO.bind ?_ (fun _ => ?_))
   | exact varint_Num.mono _ _
   | exact LeO.none _
   | refine LeO.ite ?_ ?_
   | refine LeO.bind ?_ (fun _ => ?_)
set_option maxHeartbeats 40000000 in
set_option maxRecDepth 100000 in
theorem varint_Text.calls (k : Nat) (a0 : ByteArray) (r : ByteArray) (w : World) (h : varint_Text.f k a0 = some r) :
  Calls Tryd.prog 27 #[.string a0] w fun e w' => e = .returned (.string r) ∧ Below w.heap.size w w':=by
 have HB:=am (Below.refl w.heap.size w);(have H : (if a0.size + 0 ≤ 9223372036854775807 then ((varint_Num.f k (a0.size : Int)).bind fun t107 => (if t107.size + a0.size ≤ 9223372036854775807 then (some (t107 ++ a0)) else (none))) else (none)) = some r:=h);clear h;(by_cases c2 : a0.size + 0 ≤ 9223372036854775807)
 ·rw [if_pos c2] at H;have c2b0:=eq_true c2;have c2b1 : decide (a0.size + 0 ≤ 9223372036854775807) = true:=decide_eq_true c2;(try have c2b2 : (9223372036854775807 < a0.size + 0) = False:=eq_false (Nat.not_lt.2 c2));replace H:=Option.bind_eq_some_iff.mp H;obtain ⟨t107,A30,H⟩:=H;replace H : (if t107.size + a0.size ≤ 9223372036854775807 then (some (t107 ++ a0)) else (none)) = some r:=H;have A3:=am A30;clear A30;(by_cases c4 : t107.size + a0.size ≤ 9223372036854775807)
  ·rw [if_pos c4] at H;have c4b0:=eq_true c4;have c4b1 : decide (t107.size + a0.size ≤ 9223372036854775807) = true:=decide_eq_true c4;(try have c4b2 : (9223372036854775807 < t107.size + a0.size) = False:=eq_false (Nat.not_lt.2 c4));obtain rfl:=Option.some.inj H;(go_enter Tryd.func27,Tryd.ntmps27);(go_wp2_with (first | ((with_reducible refine gate_callee (f:=46) rfl ?_);refine goesL_ (some 6) rfl rfl Tryd.func46 (by kernel_rfl) rfl #[.int .u64 (a0.size : Int)] rfl (by (try simp only [List.map_toArray,List.map_cons,List.map_nil]);first | done | rfl | (simp only [List.length_drop,List.length_take];rfl)) ?_;(with_reducible refine (varint_Num.calls k (a0.size : Int) t107 _ A3.out).mono ?_);rintro e w5 ⟨rfl,hb⟩;refine ⟨_,rfl,?_⟩;replace HB:=am (below_step (lo HB.out) hb);(try clear hb);(try clear hb2);(try clear hk);(try clear hi))));(go_ret);(exact ⟨by first | rfl | (simp [errW_none,errW_some] <;> rfl) | (simp [*,errW_none,errW_some] <;> rfl),lo HB.out⟩)
  ·rw [if_neg c4] at H;(exact absurd H (by simp))
 ·rw [if_neg c2] at H;(exact absurd H (by simp))

end Go.Proofs.YtkpjkgfaepidaaaDoor.PC

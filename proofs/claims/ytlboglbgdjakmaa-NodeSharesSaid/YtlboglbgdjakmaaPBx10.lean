-- Written by this session's own program wip/bin/dprint.py, over the kit's print.py, with own texts for some functions: no print of print.sh's
import Derived.Test.YtlboglbgdjakmaaPBx0
import Derived.Test.YtlboglbgdjakmaaPBx7
import Derived.Test.YtlboglbgdjakmaaPBx8
import Derived.Test.YtlboglbgdjakmaaPBx9
import Derived.Test.YtlboglbgdjakmaaUps
namespace Go.Proofs.Ytlboglbgdjakmaa.PB
open Go.RowKit Go.Proofs.YtlboglbgdjakmaaW.PrintWords Go.Proofs.YtlboglbgdjakmaaW.PrintLast Go.Proofs.YtlboglbgdjakmaaW.PrintMore
attribute [local go_sem] max2_int min2_int max_two min_two max_three min_three max_four min_four   -- for this text's walks alone
set_option linter.unusedVariables false
set_option linter.unusedSimpArgs false

-- NOT PRINTED: function 42 (strings_Builder_String)


/-! ### node_Node_Pack: function 17 (own text) -/
def node_Node_Pack.l0 : Nat → Int → List ByteArray → List ByteArray → List Int → Nat → List UInt8 → Option ByteArray
 | 0,_,_,_,_,_,_ => none
 | k + 1,a,l1,l2,l3,i,acc => if i < l1.length then (node_Node_entry.f k a l1 l2 l3 (i : Int)).bind fun t => (if acc.length + t.size ≤ 140737488355328 then node_Node_Pack.l0 k a l1 l2 l3 (i + 1) (acc ++ t.data.toList) else none) else some ⟨acc.toArray⟩
def node_Node_Pack.f (k : Nat) (a0_0 : Int) (l0_1 : List ByteArray) (l0_2 : List ByteArray) (l0_3 : List Int) : Option ByteArray:=if l0_1.length ≤ 9223372036854775807 then (varint_Num.f k (l0_1.length : Int)).bind fun t => (if t.size ≤ 140737488355328 then node_Node_Pack.l0 k a0_0 l0_1 l0_2 l0_3 0 t.data.toList else none) else none
theorem node_Node_Pack.mono_l : ∀ k a l1 l2 l3 i acc,LeO (node_Node_Pack.l0 k a l1 l2 l3 i acc) (node_Node_Pack.l0 (k + 1) a l1 l2 l3 i acc)
 | 0 => fun _ _ _ _ _ _ => LeO.none _
 | k + 1 => fun a l1 l2 l3 i acc => by
  have ih:=node_Node_Pack.mono_l k;unfold node_Node_Pack.l0;(exact LeO.ite (LeO.bind (node_Node_entry.mono _ _ _ _ _ _) (fun t => LeO.ite (ih _ _ _ _ _ _) (LeO.refl _))) (LeO.refl _))
theorem node_Node_Pack.mono : ∀ a0 a1 a2 a3 k,LeO (node_Node_Pack.f k a0 a1 a2 a3) (node_Node_Pack.f (k + 1) a0 a1 a2 a3):=by
 intro a0 a1 a2 a3 k;unfold node_Node_Pack.f;(exact LeO.ite (LeO.bind (varint_Num.mono _ _) (fun t => LeO.ite (node_Node_Pack.mono_l _ _ _ _ _ _ _) (LeO.refl _))) (LeO.refl _))
theorem node_Node_Pack.calls (k : Nat) (a0_0 : Int) (A0_1 : Option Addr) (c0_1 : Nat) (l0_1 : List ByteArray) (A0_2 : Option Addr) (c0_2 : Nat) (l0_2 : List ByteArray) (A0_3 : Option Addr) (c0_3 : Nat) (l0_3 : List Int) (r : ByteArray) (w : World) (hr0_1 : Kd.C Kd.string w A0_1 l0_1.length l0_1) (hc0_1 : l0_1.length ≤ c0_1) (hr0_2 : Kd.C Kd.string w A0_2 l0_2.length l0_2) (hc0_2 : l0_2.length ≤ c0_2) (hr0_3 : Kd.C (Kd.int .i64) w A0_3 l0_3.length l0_3) (hc0_3 : l0_3.length ≤ c0_3) (h : node_Node_Pack.f k a0_0 l0_1 l0_2 l0_3 = some r) :
  Calls Try.prog 17 #[.agg #[.int .i64 a0_0,.slice A0_1 l0_1.length c0_1,.slice A0_2 l0_2.length c0_2,.slice A0_3 l0_3.length c0_3]] w fun e w' => e = .returned (.string r) ∧ Below w.heap.size w w':=by
 have HR1:=am hr0_1;have HC1:=am hc0_1;have HR2:=am hr0_2;have HC2:=am hc0_2;have HR3:=am hr0_3;have HC3:=am hc0_3;have hm:=Kd.C_max hr0_1;clear hr0_1 hr0_2 hr0_3 hc0_1 hc0_2 hc0_3;unfold node_Node_Pack.f at h;rw [if_pos hm] at h;obtain ⟨t,h1,h⟩:=Option.bind_eq_some_iff.mp h;have H1:=am h1;(by_cases c : t.size ≤ 140737488355328)
 ·rw [if_pos c] at h;have H2:=am h;have HL:=am (show node_Node_Len.f a0_0 l0_1 l0_2 l0_3 = some (l0_1.length : Int) from rfl);clear h h1;(go_enter Try.func17,Try.ntmps17);(go_wp2_with fail);(refine (node_Node_Len.calls a0_0 A0_1 c0_1 l0_1 A0_2 c0_2 l0_2 A0_3 c0_3 l0_3 _ _ (Kd.C_alloc (Kd.C_alloc HR1.out _) _) HC1.out (Kd.C_alloc (Kd.C_alloc HR2.out _) _) HC2.out (Kd.C_alloc (Kd.C_alloc HR3.out _) _) HC3.out HL.out).mono ?_);(rintro e w1 ⟨rfl,hb1⟩);(go_wp2_with fail);(refine (varint_Num.calls k _ t _ H1.out).mono ?_);(rintro e w2 ⟨rfl,hb2⟩);obtain ⟨wa,hwa⟩ : ∃ wa,wa = w.alloc (.cells #[.int .i64 a0_0,.slice A0_1 l0_1.length c0_1,.slice A0_2 l0_2.length c0_2,.slice A0_3 l0_3.length c0_3] 29):=⟨_,rfl⟩;(have hsz : wa.heap.size = w.heap.size + 1:=by rw [hwa];simp);(have hbox : wa.heap[w.heap.size]? = some (.cells #[.int .i64 a0_0,.slice A0_1 l0_1.length c0_1,.slice A0_2 l0_2.length c0_2,.slice A0_3 l0_3.length c0_3] 29 (0,0)):=by rw [hwa];exact blk_new _ _);(have hba : Below w.heap.size w wa:=by rw [hwa];exact below_alloc (Below.refl _ _) _);rw [← hwa] at hb1;have hb12 : Below (wa.alloc (.cells #[.pointer none,.slice none 0 0] 67)).heap.size (wa.alloc (.cells #[.pointer none,.slice none 0 0] 67)) w2:=hb1.trans (hb2.mono hb1.size)
  have hH : Go.Proofs.Ytlboglbgdjakmaa.Bld.Holds (w.heap.size + 1) (w.heap.size + 1) [] w2:=by
   have:=(Go.Proofs.Ytlboglbgdjakmaa.Bld.Holds.fresh wa).below hb12
   rw [hsz] at this;exact this
  have hB2 : Below (w.heap.size + 1) wa w2:=by
   have h3 : Below wa.heap.size wa w2:=below_step (below_alloc (Below.refl _ _) _) hb12;rw [hsz] at h3;exact h3
  (go_wp2_with fail);(refine (Go.Proofs.Ytlboglbgdjakmaa.Bld.write (w.heap.size + 1) (w.heap.size + 1) [] t _ hH (by rw [List.length_nil,Nat.zero_add];exact c) (by have:=hB2.size;omega)).mono ?_);(rintro e w3 ⟨rfl,hH3,hb3⟩);rw [List.nil_append] at hH3;have hB3 : Below (w.heap.size + 1) wa w3:=hB2.trans hb3;have HH:=am hH3;(have hbx : w3.heap[w.heap.size]? = some (.cells #[.int .i64 a0_0,.slice A0_1 l0_1.length c0_1,.slice A0_2 l0_2.length c0_2,.slice A0_3 l0_3.length c0_3] 29 (0,0)):=by rw [hB3.block _ (Nat.lt_succ_self _)];exact hbox);have HX:=am hbx;have HB:=am (hba.trans (hB3.mono (Nat.le_succ _)));have hc0:=Lib.cell_of_heap hbx 0;have hc1:=Lib.cell_of_heap hbx 1;have hc2:=Lib.cell_of_heap hbx 2;have hc3:=Lib.cell_of_heap hbx 3;simp only [List.getElem?_toArray,List.getElem?_cons_zero,List.getElem?_cons_succ] at hc0 hc1 hc2 hc3;clear hH hB2 hb1 hb2 hb3 hb12 hH3 hB3 hbx hba hbox hsz hwa;(go_wp2);clear hc0 hc1 hc2 hc3;(go_loopg [4,13] k (fun kq v4 v13 w' => ∃ (i : Nat) (acc : List UInt8),v13 = .int .i64 (i : Int) ∧ Aside0 (node_Node_Pack.l0 kq a0_0 l0_1 l0_2 l0_3 i acc = some r) ∧ Aside0 (kq ≤ k) ∧ Aside0 (Go.Proofs.Ytlboglbgdjakmaa.Bld.Holds (w.heap.size + 1) (w.heap.size + 1) acc w') ∧ Aside0 (Below w.heap.size w w') ∧ Aside0 (w'.heap[w.heap.size]? = some (.cells #[.int .i64 a0_0,.slice A0_1 l0_1.length c0_1,.slice A0_2 l0_2.length c0_2,.slice A0_3 l0_3.length c0_3] 29 (0,0)))));(case atStart => exact ⟨0,t.data.toList,rfl,H2,⟨Nat.le_refl _⟩,HH,HB,HX⟩)
  case round =>
   obtain ⟨i,acc,rfl,hl,hk,hh,hbw,hx⟩:=hrel;clear HH HB H2 HX HL;have hlt1:=hh.out.lt
   cases gk with
   | zero => exact absurd hl.out (by simp [node_Node_Pack.l0])
   | succ k1 =>
    have H:=hl.out;clear hl;unfold node_Node_Pack.l0 at H;(by_cases hi : i < l0_1.length)
    ·rw [if_pos hi] at H;obtain ⟨t2,g1,H⟩:=Option.bind_eq_some_iff.mp H;have G1:=am g1;(by_cases c3 : acc.length + t2.size ≤ 140737488355328)
     ·rw [if_pos c3] at H;have G2:=am H;clear H g1;have c4 : decide (i < l0_1.length) = true:=decide_eq_true hi;(have hil : (i : Int) < 9223372036854775807:=by omega);have hc0:=Lib.cell_of_heap hx.out 0;have hc1:=Lib.cell_of_heap hx.out 1;have hc2:=Lib.cell_of_heap hx.out 2;have hc3:=Lib.cell_of_heap hx.out 3;simp only [List.getElem?_toArray,List.getElem?_cons_zero,List.getElem?_cons_succ] at hc0 hc1 hc2 hc3;(go_wp2_with fail);(refine (node_Node_entry.calls k1 a0_0 A0_1 c0_1 l0_1 A0_2 c0_2 l0_2 A0_3 c0_3 l0_3 (i : Int) t2 _ (Kd.C_below HR1.out hbw.out) HC1.out (Kd.C_below HR2.out hbw.out) HC2.out (Kd.C_below HR3.out hbw.out) HC3.out G1.out).mono ?_);(rintro e w4 ⟨rfl,hb4⟩);have hH4:=hh.out.below hb4;(go_wp2_with fail);(refine (Go.Proofs.Ytlboglbgdjakmaa.Bld.write (w.heap.size + 1) (w.heap.size + 1) acc t2 _ hH4 c3 (by have:=hb4.size;omega)).mono ?_);(rintro e w5 ⟨rfl,hH5,hb5⟩);have HH5:=am hH5;have HB5:=am ((hbw.out.trans (hb4.mono hbw.out.size)).trans (hb5.mono (Nat.le_succ _)));(have HX5:=am (show w5.heap[w.heap.size]? = some (.cells #[.int .i64 a0_0,.slice A0_1 l0_1.length c0_1,.slice A0_2 l0_2.length c0_2,.slice A0_3 l0_3.length c0_3] 29 (0,0)) by rw [hb5.block _ (Nat.lt_succ_self _),hb4.block _ (by omega)];exact hx.out));clear hH4 hH5 hb4 hb5 hc0 hc1 hc2 hc3;(go_wp2);(go_roundg k1);(case measure => have:=hk.out;omega);(case rel => exact ⟨i + 1,acc ++ t2.data.toList,by go_num,G2,⟨by have:=hk.out;omega⟩,HH5,HB5,HX5⟩)
     ·rw [if_neg c3] at H;cases H
    ·rw [if_neg hi] at H;obtain rfl:=Option.some.inj H;clear H;have c4 : decide (i < l0_1.length) = false:=decide_eq_false hi;(go_wp2_with fail);(refine (Go.Proofs.Ytlboglbgdjakmaa.Bld.told (w.heap.size + 1) (w.heap.size + 1) acc _ hh.out (by omega)).mono ?_);(rintro e w3 ⟨rfl,hb3⟩);(go_wp2);(go_ret);exact ⟨rfl,hbw.out.trans (hb3.mono (Nat.le_succ _))⟩
 ·rw [if_neg c] at h;cases h


/-! ### dowserlaw09_awake: function 8 (own text) -/
def dowserlaw09_awake.f (k : Nat) : Option Bool:=(node_Node_Pack.f k 1 [⟨#[97]⟩] [⟨#[120]⟩] []).bind fun t => (node_Parse.f k 1 t).bind fun m => if t.toList = [1,1,97,1,120] ∧ m.2.1.length = 1 ∧ m.2.2.2.2 = 0 then some true else none
theorem dowserlaw09_awake.mono : ∀ k,LeO (dowserlaw09_awake.f k) (dowserlaw09_awake.f (k + 1)):=by
 intro k;unfold dowserlaw09_awake.f;(exact LeO.bind (node_Node_Pack.mono _ _ _ _ _) (fun _ => LeO.bind (node_Parse.mono _ _ _) (fun _ => LeO.refl _)))
theorem dowserlaw09_awake.one_ (w : World) (g : Nat) (s : ByteArray) (h : w.cell? ⟨g,0,Option.none⟩ = some (.string s)) : Kd.C Kd.string w (some ⟨g,0,Option.none⟩) 1 [s]:=by
 refine ⟨rfl,by omega,fun _ => ⟨_,rfl,fun j p hj => ?_⟩⟩
 cases j with
 | zero =>
  (injection hj with hj);subst hj;(refine ⟨[.string s],rfl,rfl,fun i u hu => ?_⟩)
  cases i with
  | zero =>
   (injection hu with hu);subst hu;(rw [show (⟨g,0,Option.none⟩ : Addr).add (0 * Kd.string.sz + 0) = ⟨g,0,Option.none⟩ by simp [Addr.add]]);exact h
  | succ i => simp at hu
 | succ j => simp at hj
set_option maxHeartbeats 4000000 in
set_option maxRecDepth 100000 in
theorem dowserlaw09_awake.calls (k : Nat) (r : Bool) (w : World) (h : dowserlaw09_awake.f k = some r) :
  Calls Try.prog 8 #[] w fun e w' => e = .returned (.bool r) ∧ Below w.heap.size w w':=by
 unfold dowserlaw09_awake.f at h;obtain ⟨t,h1,h⟩:=Option.bind_eq_some_iff.mp h;obtain ⟨⟨m1,m2,m3,m4,m5⟩,h2,h⟩:=Option.bind_eq_some_iff.mp h;(by_cases c : t.toList = [1,1,97,1,120] ∧ m2.length = 1 ∧ m5 = 0)
 ·rw [if_pos c] at h;obtain rfl:=Option.some.inj h;obtain ⟨c1,c2,rfl⟩:=c;have H1:=am h1;have H2:=am h2;have C2:=am c2;have c1b : (t.toList == [1,1,97,1,120]) = true:=beq_iff_eq.mpr c1;clear h h1 h2 c2 c1;(go_enter Try.func8,Try.ntmps8);(go_wp2_with fail);obtain ⟨W,hW⟩ : ∃ W,W = (((w.alloc (.cells #[.string ⟨#[97]⟩] 9)).alloc (.cells #[.string ⟨#[120]⟩] 9)).alloc (.cells #[.int .i64 1,.slice (some ⟨w.heap.size,0,none⟩) 1 1,.slice (some ⟨w.heap.size + 1,0,none⟩) 1 1,.slice none 0 0] 29)):=⟨_,rfl⟩;(have hs : W.heap.size = w.heap.size + 3:=by rw [hW];simp);(have hbW : Below w.heap.size w W:=by rw [hW];exact below_alloc (below_alloc (below_alloc (Below.refl _ _) _) _) _)
  have hx : W.heap[w.heap.size + 2]? = some (.cells #[.int .i64 1,.slice (some ⟨w.heap.size,0,none⟩) 1 1,.slice (some ⟨w.heap.size + 1,0,none⟩) 1 1,.slice none 0 0] 29 (0,0)):=by
   rw [hW]
   have:=blk_new ((w.alloc (.cells #[.string ⟨#[97]⟩] 9)).alloc (.cells #[.string ⟨#[120]⟩] 9)) (.cells #[.int .i64 1,.slice (some ⟨w.heap.size,0,none⟩) 1 1,.slice (some ⟨w.heap.size + 1,0,none⟩) 1 1,.slice none 0 0] 29)
   simpa using this
  (have hk : Kd.C Kd.string W (some ⟨w.heap.size,0,none⟩) 1 [⟨#[97]⟩]:=dowserlaw09_awake.one_ _ _ _ (by rw [hW];simp [go_sem]));(have hv : Kd.C Kd.string W (some ⟨w.heap.size + 1,0,none⟩) 1 [⟨#[120]⟩]:=dowserlaw09_awake.one_ _ _ _ (by rw [hW];simp [go_sem]));(have hn : ∀ X,Kd.C (Kd.int .i64) X none 0 []:=fun X => Kd.C_nil _ _)
  have pack : ∀ X,Below W.heap.size W X → Calls Try.prog 17 #[.agg #[.int .i64 1,.slice (some ⟨w.heap.size,0,none⟩) 1 1,.slice (some ⟨w.heap.size + 1,0,none⟩) 1 1,.slice none 0 0]] X fun e w' => e = .returned (.string t) ∧ Below X.heap.size X w':=fun X hX =>
   node_Node_Pack.calls k 1 _ 1 [⟨#[97]⟩] _ 1 [⟨#[120]⟩] none 0 [] t X (Kd.C_below hk hX) (Nat.le_refl _) (Kd.C_below hv hX) (Nat.le_refl _) (hn X) (Nat.le_refl _) H1.out
  have len : ∀ X,Below W.heap.size W X → Calls Try.prog 22 #[.agg #[.int .i64 1,.slice (some ⟨w.heap.size,0,none⟩) 1 1,.slice (some ⟨w.heap.size + 1,0,none⟩) 1 1,.slice none 0 0]] X fun e w' => e = .returned (.int .i64 1) ∧ Below X.heap.size X w':=fun X hX =>
   node_Node_Len.calls 1 _ 1 [⟨#[97]⟩] _ 1 [⟨#[120]⟩] none 0 [] 1 X (Kd.C_below hk hX) (Nat.le_refl _) (Kd.C_below hv hX) (Nat.le_refl _) (hn X) (Nat.le_refl _) rfl
  have HP:=am pack;have HL:=am len;have HX:=am hx;have HW:=am hbW;have HS:=am hs;rw [← hW];clear hW hk hv hn pack len hx hbW hs;(refine (HP.out W (Below.refl _ _)).mono ?_);(rintro e w1 ⟨rfl,hb1⟩);have B1:=am hb1;clear hb1;(go_wp2_with fail);(refine (node_Parse.calls k 1 t m1 m2 m3 m4 0 _ H2.out).mono ?_);(rintro e w2 ⟨v1,v2,v3,rfl,ho1,ho2,ho3,hb2⟩);obtain ⟨A1,d1,e1,hd1,r1⟩:=Kd.R_reads ho1;obtain ⟨A2,d2,e2,hd2,r2⟩:=Kd.R_reads ho2;obtain ⟨A3,d3,e3,hd3,r3⟩:=Kd.R_reads ho3;subst e1 e2 e3
  have len2 : ∀ X,Below w2.heap.size w2 X → Calls Try.prog 22 #[.agg #[.int .i64 m1,.slice A1 m2.length d1,.slice A2 m3.length d2,.slice A3 m4.length d3]] X fun e w' => e = .returned (.int .i64 1) ∧ Below X.heap.size X w':=fun X hX =>
   node_Node_Len.calls m1 A1 d1 m2 A2 d2 m3 A3 d3 m4 1 X (Kd.C_below r1 hX) hd1 (Kd.C_below r2 hX) hd2 (Kd.C_below r3 hX) hd3 (by show some (m2.length : Int) = some 1;rw [C2.out];rfl)
  have HL2:=am len2;have B2:=am (B1.out.trans (hb2.mono B1.out.size));clear len2 ho1 ho2 ho3 hb2 r1 r2 r3 hd1 hd2 hd3 C2;(have hx2 : w2.heap[w.heap.size + 2]? = some (.cells #[.int .i64 1,.slice (some ⟨w.heap.size,0,none⟩) 1 1,.slice (some ⟨w.heap.size + 1,0,none⟩) 1 1,.slice none 0 0] 29 (0,0)):=by rw [B2.out.block _ (by rw [HS.out];omega)];exact HX.out);(have hz2 : w.heap.size + 2 < w2.heap.size:=by have:=B2.out.size;rw [HS.out] at this;omega);have q0:=Lib.cell_of_heap hx2 0;have q1:=Lib.cell_of_heap hx2 1;have q2:=Lib.cell_of_heap hx2 2;have q3:=Lib.cell_of_heap hx2 3;simp only [List.getElem?_toArray,List.getElem?_cons_zero,List.getElem?_cons_succ] at q0 q1 q2 q3;(go_wp2_with fail);have B3:=am (B2.out.alloc B2.out.size (.cells #[.int .i64 m1,.slice A1 m2.length d1,.slice A2 m3.length d2,.slice A3 m4.length d3] 29));have hy0:=blk_new w2 (.cells #[.int .i64 m1,.slice A1 m2.length d1,.slice A2 m3.length d2,.slice A3 m4.length d3] 29);have hy1:=(w2.alloc (.cells #[.int .i64 m1,.slice A1 m2.length d1,.slice A2 m3.length d2,.slice A3 m4.length d3] 29));(refine (HP.out _ B3.out).mono ?_);(rintro e w3 ⟨rfl,hb3⟩);have B4:=am (B3.out.trans (hb3.mono B3.out.size));(have hx3 : w3.heap[w.heap.size + 2]? = some (.cells #[.int .i64 1,.slice (some ⟨w.heap.size,0,none⟩) 1 1,.slice (some ⟨w.heap.size + 1,0,none⟩) 1 1,.slice none 0 0] 29 (0,0)):=by rw [B4.out.block _ (by rw [HS.out];omega)];exact HX.out);(have hz3 : w.heap.size + 2 < w3.heap.size:=by have:=B4.out.size;rw [HS.out] at this;omega)
  have hy3 : w3.heap[w2.heap.size]? = some (.cells #[.int .i64 m1,.slice A1 m2.length d1,.slice A2 m3.length d2,.slice A3 m4.length d3] 29 (0,0)):=by
   rw [hb3.block _ (by simp)];exact hy0
  (have hw3 : w2.heap.size < w3.heap.size:=by have:=hb3.size;simp at this;omega);have q0:=Lib.cell_of_heap hx3 0;have q1:=Lib.cell_of_heap hx3 1;have q2:=Lib.cell_of_heap hx3 2;have q3:=Lib.cell_of_heap hx3 3;have p0:=Lib.cell_of_heap hy3 0;have p1:=Lib.cell_of_heap hy3 1;have p2:=Lib.cell_of_heap hy3 2;have p3:=Lib.cell_of_heap hy3 3;simp only [List.getElem?_toArray,List.getElem?_cons_zero,List.getElem?_cons_succ] at q0 q1 q2 q3 p0 p1 p2 p3;(have B5:=am ((below_alloc (Below.refl w2.heap.size w2) (.cells #[.int .i64 m1,.slice A1 m2.length d1,.slice A2 m3.length d2,.slice A3 m4.length d3] 29)).trans (hb3.mono (by simp))));have HY:=am hy3;have HZ:=am hw3;clear hy0 hy1 hx3 hy3 hx2 hz2 hb3;(go_wp2_with fail);(refine (HL.out _ B4.out).mono ?_);(rintro e w4 ⟨rfl,hb4⟩);have B6:=am (B5.out.trans (hb4.mono B5.out.size))
  have hy4 : w4.heap[w2.heap.size]? = some (.cells #[.int .i64 m1,.slice A1 m2.length d1,.slice A2 m3.length d2,.slice A3 m4.length d3] 29 (0,0)):=by
   rw [hb4.block _ HZ.out];exact HY.out
  (have hw4 : w2.heap.size < w4.heap.size:=by have:=hb4.size;have:=HZ.out;omega);have p0:=Lib.cell_of_heap hy4 0;have p1:=Lib.cell_of_heap hy4 1;have p2:=Lib.cell_of_heap hy4 2;have p3:=Lib.cell_of_heap hy4 3;simp only [List.getElem?_toArray,List.getElem?_cons_zero,List.getElem?_cons_succ] at p0 p1 p2 p3;have B7:=am (B4.out.trans (hb4.mono B4.out.size));clear hy4 hb4;(go_wp2_with fail);(refine (HL2.out _ B6.out).mono ?_);(rintro e w5 ⟨rfl,hb5⟩);have B8:=am (HW.out.trans ((B7.out.trans (hb5.mono B7.out.size)).mono HW.out.size));clear hb5;(go_wp2_with fail);(go_ret);exact ⟨rfl,B8.out⟩
 ·rw [if_neg c] at h;cases h

end Go.Proofs.Ytlboglbgdjakmaa.PB

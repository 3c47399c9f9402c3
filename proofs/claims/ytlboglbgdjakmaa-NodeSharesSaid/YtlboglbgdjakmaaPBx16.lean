-- Written by this session's own program wip/bin/dprint.py, over the kit's print.py, with own texts for some functions: no print of print.sh's
import Derived.Test.YtlboglbgdjakmaaPBx0
import Derived.Test.YtlboglbgdjakmaaPBx10
import Derived.Test.YtlboglbgdjakmaaUps
namespace Go.Proofs.Ytlboglbgdjakmaa.PB
open Go.RowKit Go.Proofs.YtlboglbgdjakmaaW.PrintWords Go.Proofs.YtlboglbgdjakmaaW.PrintLast Go.Proofs.YtlboglbgdjakmaaW.PrintMore
attribute [local go_sem] max2_int min2_int max_two min_two max_three min_three max_four min_four   -- for this text's walks alone
set_option linter.unusedVariables false
set_option linter.unusedSimpArgs false

/-! ### node_Node_Size: function 20 -/
def node_Node_Size.f (k : Nat) (a0_0 : Int) (l0_1 : List ByteArray) (l0_2 : List ByteArray) (l0_3 : List Int) : Option (Int):=(node_Node_Pack.f k a0_0 l0_1 l0_2 l0_3).bind fun t252 => (some (t252.size : Int))
theorem node_Node_Size.mono : ∀ a0 a1 a2 a3 k,LeO (node_Node_Size.f k a0 a1 a2 a3) (node_Node_Size.f (k + 1) a0 a1 a2 a3):=by
 intro a0 a1 a2 a3 k;unfold node_Node_Size.f
 repeat' first
   | (with_reducible exact node_Node_Pack.mono _ _ _ _ _)
   | (with_reducible exact LeO.refl _)
   | (with_reducible exact LeO.none _)
   | (with_reducible refine LeO.ite ?_ ?_)
   | (with_reducible refine LeO.bind ?_ (fun _ => ?_))
   | exact node_Node_Pack.mono _ _ _ _ _
   | exact LeO.none _
   | refine LeO.ite ?_ ?_
   | refine LeO.bind ?_ (fun _ => ?_)
set_option maxHeartbeats 40000000 in
set_option maxRecDepth 100000 in
theorem node_Node_Size.calls (k : Nat) (a0_0 : Int) (A0_1 : Option Addr) (c0_1 : Nat) (l0_1 : List ByteArray) (A0_2 : Option Addr) (c0_2 : Nat) (l0_2 : List ByteArray) (A0_3 : Option Addr) (c0_3 : Nat) (l0_3 : List Int) (r : Int) (w : World) (hr0_1 : Kd.C Kd.string w A0_1 l0_1.length l0_1) (hc0_1 : l0_1.length ≤ c0_1) (hr0_2 : Kd.C Kd.string w A0_2 l0_2.length l0_2) (hc0_2 : l0_2.length ≤ c0_2) (hr0_3 : Kd.C (Kd.int .i64) w A0_3 l0_3.length l0_3) (hc0_3 : l0_3.length ≤ c0_3) (h : node_Node_Size.f k a0_0 l0_1 l0_2 l0_3 = some r) :
  Calls Try.prog 20 #[.agg #[.int .i64 a0_0,.slice A0_1 l0_1.length c0_1,.slice A0_2 l0_2.length c0_2,.slice A0_3 l0_3.length c0_3]] w fun e w' => e = .returned (.int .i64 r) ∧ Below w.heap.size w w':=by
 have hu29:=Try.underlying29;have HR0_1:=am hr0_1;have HC0_1:=am hc0_1;clear hr0_1 hc0_1;have HR0_2:=am hr0_2;have HC0_2:=am hc0_2;clear hr0_2 hc0_2;have HR0_3:=am hr0_3;have HC0_3:=am hc0_3;clear hr0_3 hc0_3;have HB:=am (Below.refl w.heap.size w);(have H : ((node_Node_Pack.f k a0_0 l0_1 l0_2 l0_3).bind fun t252 => (some (t252.size : Int))) = some r:=h);clear h;replace H:=Option.bind_eq_some_iff.mp H;obtain ⟨t252,A20,H⟩:=H;replace H : (some (t252.size : Int)) = some r:=H;have A2:=am A20;clear A20;obtain rfl:=Option.some.inj H;(go_enter Try.func20,Try.ntmps20);(go_wp2_with (first | ((with_reducible refine gate_dst (N:=1) rfl ?_);refine box_event ?hg (N:=1) ?hd (cs:=#[.int .i64 a0_0,.slice A0_1 l0_1.length c0_1,.slice A0_2 l0_2.length c0_2,.slice A0_3 l0_3.length c0_3]) (t:=29) ?hr ?_;(case hd => rfl);(case hg => rfl);(case hr => first | (go_simp;done) | (go_simp;rfl));intro gb251 hg w3 hbox hb;have BK251:=am (hbox);(have GW251:=am ((by rw [hg];exact (below_size (lo HB.out)) : w.heap.size ≤ gb251)));have GE251:GEc _ _:=⟨((by rw [hg];exact (below_size (lo HB.out)) : w.heap.size ≤ gb251))⟩;replace HB:=am (below_step (lo HB.out) hb);clear hb hbox hg;have hcz4_0 : w3.cell? ⟨gb251,0,none⟩ = some (.int .i64 a0_0):=bc BK251.out 0 rfl;have hcz4_1 : w3.cell? ⟨gb251,1,none⟩ = some (.slice A0_1 l0_1.length c0_1):=bc BK251.out 1 rfl;have hcz4_2 : w3.cell? ⟨gb251,2,none⟩ = some (.slice A0_2 l0_2.length c0_2):=bc BK251.out 2 rfl;have hcz4_3 : w3.cell? ⟨gb251,3,none⟩ = some (.slice A0_3 l0_3.length c0_3):=bc BK251.out 3 rfl;have hfz4_0:=blk_frozen BK251.out 0;have hfz4_1:=blk_frozen BK251.out 1;have hfz4_2:=blk_frozen BK251.out 2;have hfz4_3:=blk_frozen BK251.out 3) | ((with_reducible refine gate_callee (f:=17) rfl ?_);refine goesL_ (some 4) rfl rfl Try.func17 (by kernel_rfl) rfl #[.agg #[.int .i64 a0_0,.slice A0_1 l0_1.length c0_1,.slice A0_2 l0_2.length c0_2,.slice A0_3 l0_3.length c0_3]] rfl (by (try simp only [List.map_toArray,List.map_cons,List.map_nil]);first | done | rfl | (simp only [List.length_drop,List.length_take];rfl)) ?_;(with_reducible refine (node_Node_Pack.calls k a0_0 _ _ l0_1 _ _ l0_2 _ _ l0_3 t252 _ ?side1 ?side2 ?side3 ?side4 ?side5 ?side6 A2.out).mono ?_);(case side1 => exact cu (Kd.C_below HR0_1.out HB.out));(case side2 => exact HC0_1.out);(case side3 => exact cu (Kd.C_below HR0_2.out HB.out));(case side4 => exact HC0_2.out);(case side5 => exact cu (Kd.C_below HR0_3.out HB.out));(case side6 => exact HC0_3.out);rintro e w5 ⟨rfl,hb⟩;refine ⟨_,rfl,?_⟩;replace BK251:=am (blk_below (bu BK251.out) hb);replace HB:=am (below_step (lo HB.out) hb);(try clear hb);(try clear hb2);(try clear hk);(try clear hi))));(go_ret);(exact ⟨by first | rfl | (simp [errW_none,errW_some] <;> rfl) | (simp [*,errW_none,errW_some] <;> rfl),lo HB.out⟩)

/-! ### node_Node_Fits: function 21 -/
def node_Node_Fits.f (k : Nat) (a0_0 : Int) (l0_1 : List ByteArray) (l0_2 : List ByteArray) (l0_3 : List Int) : Option (Bool):=(node_Node_Size.f k a0_0 l0_1 l0_2 l0_3).bind fun t254 => (some (decide (t254 ≤ 240)))
theorem node_Node_Fits.mono : ∀ a0 a1 a2 a3 k,LeO (node_Node_Fits.f k a0 a1 a2 a3) (node_Node_Fits.f (k + 1) a0 a1 a2 a3):=by
 intro a0 a1 a2 a3 k;unfold node_Node_Fits.f
 repeat' first
   | (with_reducible exact node_Node_Size.mono _ _ _ _ _)
   | (with_reducible exact LeO.refl _)
   | (with_reducible exact LeO.none _)
   | (with_reducible refine LeO.ite ?_ ?_)
   | (with_reducible refine LeO.bind ?_ (fun _ => ?_))
   | exact node_Node_Size.mono _ _ _ _ _
   | exact LeO.none _
   | refine LeO.ite ?_ ?_
   | refine LeO.bind ?_ (fun _ => ?_)
set_option maxHeartbeats 40000000 in
set_option maxRecDepth 100000 in
theorem node_Node_Fits.calls (k : Nat) (a0_0 : Int) (A0_1 : Option Addr) (c0_1 : Nat) (l0_1 : List ByteArray) (A0_2 : Option Addr) (c0_2 : Nat) (l0_2 : List ByteArray) (A0_3 : Option Addr) (c0_3 : Nat) (l0_3 : List Int) (r : Bool) (w : World) (hr0_1 : Kd.C Kd.string w A0_1 l0_1.length l0_1) (hc0_1 : l0_1.length ≤ c0_1) (hr0_2 : Kd.C Kd.string w A0_2 l0_2.length l0_2) (hc0_2 : l0_2.length ≤ c0_2) (hr0_3 : Kd.C (Kd.int .i64) w A0_3 l0_3.length l0_3) (hc0_3 : l0_3.length ≤ c0_3) (h : node_Node_Fits.f k a0_0 l0_1 l0_2 l0_3 = some r) :
  Calls Try.prog 21 #[.agg #[.int .i64 a0_0,.slice A0_1 l0_1.length c0_1,.slice A0_2 l0_2.length c0_2,.slice A0_3 l0_3.length c0_3]] w fun e w' => e = .returned (.bool r) ∧ Below w.heap.size w w':=by
 have hu29:=Try.underlying29;have HR0_1:=am hr0_1;have HC0_1:=am hc0_1;clear hr0_1 hc0_1;have HR0_2:=am hr0_2;have HC0_2:=am hc0_2;clear hr0_2 hc0_2;have HR0_3:=am hr0_3;have HC0_3:=am hc0_3;clear hr0_3 hc0_3;have HB:=am (Below.refl w.heap.size w);(have H : ((node_Node_Size.f k a0_0 l0_1 l0_2 l0_3).bind fun t254 => (some (decide (t254 ≤ 240)))) = some r:=h);clear h;replace H:=Option.bind_eq_some_iff.mp H;obtain ⟨t254,A20,H⟩:=H;replace H : (some (decide (t254 ≤ 240))) = some r:=H;have A2:=am A20;clear A20;obtain rfl:=Option.some.inj H;(go_enter Try.func21,Try.ntmps21);(go_wp2_with (first | ((with_reducible refine gate_dst (N:=1) rfl ?_);refine box_event ?hg (N:=1) ?hd (cs:=#[.int .i64 a0_0,.slice A0_1 l0_1.length c0_1,.slice A0_2 l0_2.length c0_2,.slice A0_3 l0_3.length c0_3]) (t:=29) ?hr ?_;(case hd => rfl);(case hg => rfl);(case hr => first | (go_simp;done) | (go_simp;rfl));intro gb253 hg w3 hbox hb;have BK253:=am (hbox);(have GW253:=am ((by rw [hg];exact (below_size (lo HB.out)) : w.heap.size ≤ gb253)));have GE253:GEc _ _:=⟨((by rw [hg];exact (below_size (lo HB.out)) : w.heap.size ≤ gb253))⟩;replace HB:=am (below_step (lo HB.out) hb);clear hb hbox hg;have hcz4_0 : w3.cell? ⟨gb253,0,none⟩ = some (.int .i64 a0_0):=bc BK253.out 0 rfl;have hcz4_1 : w3.cell? ⟨gb253,1,none⟩ = some (.slice A0_1 l0_1.length c0_1):=bc BK253.out 1 rfl;have hcz4_2 : w3.cell? ⟨gb253,2,none⟩ = some (.slice A0_2 l0_2.length c0_2):=bc BK253.out 2 rfl;have hcz4_3 : w3.cell? ⟨gb253,3,none⟩ = some (.slice A0_3 l0_3.length c0_3):=bc BK253.out 3 rfl;have hfz4_0:=blk_frozen BK253.out 0;have hfz4_1:=blk_frozen BK253.out 1;have hfz4_2:=blk_frozen BK253.out 2;have hfz4_3:=blk_frozen BK253.out 3) | ((with_reducible refine gate_callee (f:=20) rfl ?_);refine goesL_ (some 4) rfl rfl Try.func20 (by kernel_rfl) rfl #[.agg #[.int .i64 a0_0,.slice A0_1 l0_1.length c0_1,.slice A0_2 l0_2.length c0_2,.slice A0_3 l0_3.length c0_3]] rfl (by (try simp only [List.map_toArray,List.map_cons,List.map_nil]);first | done | rfl | (simp only [List.length_drop,List.length_take];rfl)) ?_;(with_reducible refine (node_Node_Size.calls k a0_0 _ _ l0_1 _ _ l0_2 _ _ l0_3 t254 _ ?side1 ?side2 ?side3 ?side4 ?side5 ?side6 A2.out).mono ?_);(case side1 => exact cu (Kd.C_below HR0_1.out HB.out));(case side2 => exact HC0_1.out);(case side3 => exact cu (Kd.C_below HR0_2.out HB.out));(case side4 => exact HC0_2.out);(case side5 => exact cu (Kd.C_below HR0_3.out HB.out));(case side6 => exact HC0_3.out);rintro e w5 ⟨rfl,hb⟩;refine ⟨_,rfl,?_⟩;replace BK253:=am (blk_below (bu BK253.out) hb);replace HB:=am (below_step (lo HB.out) hb);(try clear hb);(try clear hb2);(try clear hk);(try clear hi))));(go_ret);(exact ⟨by first | rfl | (simp [errW_none,errW_some] <;> rfl) | (simp [*,errW_none,errW_some] <;> rfl),lo HB.out⟩)


/-! ### slices_Clone_string_string: function 61 (own text) -/
theorem slices_Clone_string_string.spot_ {w : World} {a : Addr} {v : Value} (h : w.cell? a = some v) : a.spot = none:=by
 unfold World.cell? at h;(split at h)
 ·split at h
  ·cases h
  ·rename_i hs;simpa using hs
 ·cases h
def slices_Clone_string_string.f (l : List ByteArray) : Option (List ByteArray):=if l.length ≤ 8796093022208 then some l else none
theorem slices_Clone_string_string.calls (A0 : Option Addr) (c0 : Nat) (l0 : List ByteArray) (r : List ByteArray) (w : World) (hr0 : Kd.C Kd.string w A0 l0.length l0) (hc0 : l0.length ≤ c0) (h : slices_Clone_string_string.f l0 = some r) :
  Calls Try.prog 61 #[.slice A0 l0.length c0] w fun e w' => ∃ v0_ : Value,e = .returned (v0_) ∧ Kd.R Kd.string 9 w' w.heap.size (fun _ => True) v0_ r ∧ Below w.heap.size w w':=by
 unfold slices_Clone_string_string.f at h;(by_cases hl : l0.length ≤ 8796093022208)
 ·rw [if_pos hl] at h;obtain rfl:=Option.some.inj h
  cases A0 with
  | none =>
   have h0 : l0.length = 0:=by
    rcases Nat.eq_zero_or_pos l0.length with h0 | h0
    ·exact h0
    ·obtain ⟨ad,e,_⟩:=hr0.2.2 h0;cases e
   have hn : l0 = []:=List.eq_nil_of_length_eq_zero h0;subst hn;(refine (Try.slices_Clone_string_nil 0 c0 w).mono ?_);(rintro e w' ⟨rfl,rfl⟩);exact ⟨_,rfl,Kd.R_nil _ _ _ _ _,Below.refl _ _⟩
  | some ad =>
   by_cases h0 : 0 < l0.length
   ·obtain ⟨a1,e1,hx⟩:=Kd.at_string hr0 0 (by omega) (by omega)
    have hs : ad.spot = none:=by
     (have e2 : ad = a1:=by injection e1);rw [← e2] at hx;(have : ad.add (Int.toNat 0) = ad:=by simp [Addr.add]);rw [this] at hx;exact slices_Clone_string_string.spot_ hx
    obtain ⟨b,off,sp⟩:=ad;simp only at hs;subst hs;(refine (Try.slices_Clone_string b off l0.length c0 l0 w (Nat.le_refl _) (by omega) (fun j hj => ?_)).mono ?_)
    ·(obtain ⟨a2,e2,hy⟩:=Kd.at_string hr0 (j : Int) (by omega) (by omega));(have e3 : (⟨b,off,none⟩ : Addr) = a2:=by injection e2);rw [← e3,Int.toNat_natCast] at hy;(have e4 : (⟨b,off,none⟩ : Addr).add j = ⟨b,off + j,none⟩:=by unfold Addr.add;split <;> simp_all);rw [e4] at hy;(rw [hy];unfold rdOf;rw [Int.toNat_natCast])
    ·(rintro e w' ⟨v',rfl,ho,_,hb⟩);rw [List.take_length] at ho;(exact ⟨v',rfl,Kd.R_of_own ho (fun _ _ => trivial),hb⟩)
   ·(have hn : l0 = []:=List.eq_nil_of_length_eq_zero (by omega));subst hn;(refine (Try.slices_Clone_string_zero ad c0 w).mono ?_);(rintro e w' ⟨v',rfl,ho,_,hb⟩);(exact ⟨v',rfl,Kd.R_of_own ho (fun _ _ => trivial),hb⟩)
 ·rw [if_neg hl] at h;cases h


/-! ### slices_Clone_int_int: function 62 (own text) -/
theorem slices_Clone_int_int.spot_ {w : World} {a : Addr} {v : Value} (h : w.cell? a = some v) : a.spot = none:=by
 unfold World.cell? at h;(split at h)
 ·split at h
  ·cases h
  ·rename_i hs;simpa using hs
 ·cases h
def slices_Clone_int_int.f (l : List Int) : Option (List Int):=if l.length ≤ 17592186044416 then some l else none
theorem slices_Clone_int_int.calls (A0 : Option Addr) (c0 : Nat) (l0 : List Int) (r : List Int) (w : World) (hr0 : Kd.C (Kd.int .i64) w A0 l0.length l0) (hc0 : l0.length ≤ c0) (h : slices_Clone_int_int.f l0 = some r) :
  Calls Try.prog 62 #[.slice A0 l0.length c0] w fun e w' => ∃ v0_ : Value,e = .returned (v0_) ∧ Kd.R (Kd.int .i64) 3 w' w.heap.size (fun _ => True) v0_ r ∧ Below w.heap.size w w':=by
 unfold slices_Clone_int_int.f at h;(by_cases hl : l0.length ≤ 17592186044416)
 ·rw [if_pos hl] at h;obtain rfl:=Option.some.inj h
  cases A0 with
  | none =>
   have h0 : l0.length = 0:=by
    rcases Nat.eq_zero_or_pos l0.length with h0 | h0
    ·exact h0
    ·obtain ⟨ad,e,_⟩:=hr0.2.2 h0;cases e
   have hn : l0 = []:=List.eq_nil_of_length_eq_zero h0;subst hn;(refine (Try.slices_Clone_int_nil 0 c0 w).mono ?_);(rintro e w' ⟨rfl,rfl⟩);exact ⟨_,rfl,Kd.R_nil _ _ _ _ _,Below.refl _ _⟩
  | some ad =>
   by_cases h0 : 0 < l0.length
   ·obtain ⟨a1,e1,hx⟩:=Kd.at_int hr0 0 (by omega) (by omega)
    have hs : ad.spot = none:=by
     (have e2 : ad = a1:=by injection e1);rw [← e2] at hx;(have : ad.add (Int.toNat 0) = ad:=by simp [Addr.add]);rw [this] at hx;exact slices_Clone_int_int.spot_ hx
    obtain ⟨b,off,sp⟩:=ad;simp only at hs;subst hs;(refine (Try.slices_Clone_int b off l0.length c0 l0 w (Nat.le_refl _) (by omega) (fun j hj => ?_)).mono ?_)
    ·(obtain ⟨a2,e2,hy⟩:=Kd.at_int hr0 (j : Int) (by omega) (by omega));(have e3 : (⟨b,off,none⟩ : Addr) = a2:=by injection e2);rw [← e3,Int.toNat_natCast] at hy;(have e4 : (⟨b,off,none⟩ : Addr).add j = ⟨b,off + j,none⟩:=by unfold Addr.add;split <;> simp_all);rw [e4] at hy;(rw [hy];unfold rd;rw [Int.toNat_natCast])
    ·(rintro e w' ⟨v',rfl,ho,_,hb⟩);rw [List.take_length] at ho;(exact ⟨v',rfl,Kd.R_of_own ho (fun _ _ => trivial),hb⟩)
   ·(have hn : l0 = []:=List.eq_nil_of_length_eq_zero (by omega));subst hn;(refine (Try.slices_Clone_int_zero ad c0 w).mono ?_);(rintro e w' ⟨v',rfl,ho,_,hb⟩);(exact ⟨v',rfl,Kd.R_of_own ho (fun _ _ => trivial),hb⟩)
 ·rw [if_neg hl] at h;cases h

end Go.Proofs.Ytlboglbgdjakmaa.PB

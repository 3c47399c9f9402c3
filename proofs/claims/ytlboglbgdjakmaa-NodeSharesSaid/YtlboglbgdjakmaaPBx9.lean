-- Written by this session's own program wip/bin/dprint.py, over the kit's print.py, with own texts for some functions: no print of print.sh's
import Derived.Test.YtlboglbgdjakmaaPBx0
import Derived.Test.YtlboglbgdjakmaaPBx8
import Derived.Test.YtlboglbgdjakmaaUps
namespace Go.Proofs.Ytlboglbgdjakmaa.PB
open Go.RowKit Go.Proofs.YtlboglbgdjakmaaW.PrintWords Go.Proofs.YtlboglbgdjakmaaW.PrintLast Go.Proofs.YtlboglbgdjakmaaW.PrintMore
attribute [local go_sem] max2_int min2_int max_two min_two max_three min_three max_four min_four   -- for this text's walks alone
set_option linter.unusedVariables false
set_option linter.unusedSimpArgs false

/-! ### node_Node_entry: function 41 -/
def node_Node_entry.f (k : Nat) (a0_0 : Int) (l0_1 : List ByteArray) (l0_2 : List ByteArray) (l0_3 : List Int) (a1 : Int) : Option (ByteArray):=if a0_0 = 1 then (if 0 ≤ a1 then (if a1 < (l0_1.length : Int) then ((varint_Text.f k (rdOf ByteArray.empty l0_1 a1)).bind fun t166 => (if a1 < (l0_2.length : Int) then ((varint_Text.f k (rdOf ByteArray.empty l0_2 a1)).bind fun t168 => (if t166.size + t168.size ≤ 9223372036854775807 then (some (t166 ++ t168)) else (none))) else (none))) else (none)) else (none)) else (if 0 ≤ a1 then (if a1 < (l0_1.length : Int) then ((varint_Text.f k (rdOf ByteArray.empty l0_1 a1)).bind fun t170 => (if a1 < (l0_3.length : Int) then ((varint_Num.f k (IntKind.u64.wrap (rd l0_3 a1))).bind fun t172 => (if t170.size + t172.size ≤ 9223372036854775807 then (some (t170 ++ t172)) else (none))) else (none))) else (none)) else (none))
theorem node_Node_entry.mono : ∀ a0 a1 a2 a3 a4 k,LeO (node_Node_entry.f k a0 a1 a2 a3 a4) (node_Node_entry.f (k + 1) a0 a1 a2 a3 a4):=by
 intro a0 a1 a2 a3 a4 k;unfold node_Node_entry.f
 repeat' first
   | (with_reducible exact varint_Num.mono _ _)
   | (with_reducible exact varint_Text.mono _ _)
   | (with_reducible exact LeO.refl _)
   | (with_reducible exact LeO.none _)
   | (with_reducible refine LeO.ite ?_ ?_)
   | (with_reducible refine LeO.bind ?_ (fun _ => ?_))
   | exact varint_Num.mono _ _
   | exact varint_Text.mono _ _
   | exact LeO.none _
   | refine LeO.ite ?_ ?_
   | refine LeO.bind ?_ (fun _ => ?_)
def node_Node_entry.T2 : Bool × List (List Nat × List Nat):=(true,[([],[]),([0],[0]),([],[]),([1,2],[1,2]),([3],[3]),([4],[4]),([],[]),([6],[6]),([],[]),([7,8],[7,8]),([9],[9]),([10,5],[10]),([5,11],[5,11]),([12,11,0,1,2,3,4,5,6,7,8,9,10,11,12],[12])])
def node_Node_entry.B2 : List Nat:=[0,1,0,7,15,31,0,64,0,448,960,2047,4095,8191]
theorem node_Node_entry.tab2 : rtab .any (opsOf Try.f41 2) = node_Node_entry.T2:=by kernel_rfl
theorem node_Node_entry.bits2 : waitsOk node_Node_entry.T2.2 node_Node_entry.B2 = true:=by kernel_rfl
def node_Node_entry.T3 : Bool × List (List Nat × List Nat):=(true,[([],[]),([0],[0]),([],[]),([1,2],[1,2]),([3],[3]),([4],[4]),([],[]),([6],[6]),([],[]),([7,8],[7,8]),([9],[9]),([10],[10]),([11,5],[11]),([5,12],[5,12]),([13,12,0,1,2,3,4,5,6,7,8,9,10,11,12,13],[13])])
def node_Node_entry.B3 : List Nat:=[0,1,0,7,15,31,0,64,0,448,960,1984,4095,8191,16383]
theorem node_Node_entry.tab3 : rtab .any (opsOf Try.f41 3) = node_Node_entry.T3:=by kernel_rfl
theorem node_Node_entry.bits3 : waitsOk node_Node_entry.T3.2 node_Node_entry.B3 = true:=by kernel_rfl
set_option maxHeartbeats 40000000 in
set_option maxRecDepth 100000 in
theorem node_Node_entry.calls (k : Nat) (a0_0 : Int) (A0_1 : Option Addr) (c0_1 : Nat) (l0_1 : List ByteArray) (A0_2 : Option Addr) (c0_2 : Nat) (l0_2 : List ByteArray) (A0_3 : Option Addr) (c0_3 : Nat) (l0_3 : List Int) (a1 : Int) (r : ByteArray) (w : World) (hr0_1 : Kd.C Kd.string w A0_1 l0_1.length l0_1) (hc0_1 : l0_1.length ≤ c0_1) (hr0_2 : Kd.C Kd.string w A0_2 l0_2.length l0_2) (hc0_2 : l0_2.length ≤ c0_2) (hr0_3 : Kd.C (Kd.int .i64) w A0_3 l0_3.length l0_3) (hc0_3 : l0_3.length ≤ c0_3) (h : node_Node_entry.f k a0_0 l0_1 l0_2 l0_3 a1 = some r) :
  Calls Try.prog 41 #[.agg #[.int .i64 a0_0,.slice A0_1 l0_1.length c0_1,.slice A0_2 l0_2.length c0_2,.slice A0_3 l0_3.length c0_3],.int .i64 a1] w fun e w' => e = .returned (.string r) ∧ Below w.heap.size w w':=by
 have hu29:=Try.underlying29;have HR0_1:=am hr0_1;have HC0_1:=am hc0_1;clear hr0_1 hc0_1;have HR0_2:=am hr0_2;have HC0_2:=am hc0_2;clear hr0_2 hc0_2;have HR0_3:=am hr0_3;have HC0_3:=am hc0_3;clear hr0_3 hc0_3;have HB:=am (Below.refl w.heap.size w);(have H : (if a0_0 = 1 then (if 0 ≤ a1 then (if a1 < (l0_1.length : Int) then ((varint_Text.f k (rdOf ByteArray.empty l0_1 a1)).bind fun t166 => (if a1 < (l0_2.length : Int) then ((varint_Text.f k (rdOf ByteArray.empty l0_2 a1)).bind fun t168 => (if t166.size + t168.size ≤ 9223372036854775807 then (some (t166 ++ t168)) else (none))) else (none))) else (none)) else (none)) else (if 0 ≤ a1 then (if a1 < (l0_1.length : Int) then ((varint_Text.f k (rdOf ByteArray.empty l0_1 a1)).bind fun t170 => (if a1 < (l0_3.length : Int) then ((varint_Num.f k (IntKind.u64.wrap (rd l0_3 a1))).bind fun t172 => (if t170.size + t172.size ≤ 9223372036854775807 then (some (t170 ++ t172)) else (none))) else (none))) else (none)) else (none))) = some r:=h);clear h;(by_cases c3 : a0_0 = 1)
 ·rw [if_pos c3] at H;have c3b0 : (a0_0 == 1) = true:=beq_iff_eq.mpr c3;have c3b1 : (a0_0 != 1) = false:=bne_eq_false_iff_eq.mpr c3;clear c3;(by_cases c4 : 0 ≤ a1)
  ·rw [if_pos c4] at H;have c4b0 : decide (0 ≤ a1) = true:=decide_eq_true c4;clear c4;(by_cases c5 : a1 < (l0_1.length : Int))
   ·rw [if_pos c5] at H;have c5b0 : decide (a1 < (l0_1.length : Int)) = true:=decide_eq_true c5;clear c5;replace H:=Option.bind_eq_some_iff.mp H;obtain ⟨t166,A60,H⟩:=H;(replace H : (if a1 < (l0_2.length : Int) then ((varint_Text.f k (rdOf ByteArray.empty l0_2 a1)).bind fun t168 => (if t166.size + t168.size ≤ 9223372036854775807 then (some (t166 ++ t168)) else (none))) else (none)) = some r:=H);have A6:=am A60;clear A60;(by_cases c7 : a1 < (l0_2.length : Int))
    ·rw [if_pos c7] at H;have c7b0 : decide (a1 < (l0_2.length : Int)) = true:=decide_eq_true c7;clear c7;replace H:=Option.bind_eq_some_iff.mp H;obtain ⟨t168,A80,H⟩:=H;replace H : (if t166.size + t168.size ≤ 9223372036854775807 then (some (t166 ++ t168)) else (none)) = some r:=H;have A8:=am A80;clear A80;(by_cases c9 : t166.size + t168.size ≤ 9223372036854775807)
     ·rw [if_pos c9] at H;have c9b0:=eq_true c9;have c9b1 : decide (t166.size + t168.size ≤ 9223372036854775807) = true:=decide_eq_true c9;(try have c9b2 : (9223372036854775807 < t166.size + t168.size) = False:=eq_false (Nat.not_lt.2 c9));obtain rfl:=Option.some.inj H;(go_enter Try.func41,Try.ntmps41);(try go_wp2_with (first | ((with_reducible refine gate_dst (N:=2) rfl ?_);refine box_event ?hg (N:=2) ?hd (cs:=#[.int .i64 a0_0,.slice A0_1 l0_1.length c0_1,.slice A0_2 l0_2.length c0_2,.slice A0_3 l0_3.length c0_3]) (t:=29) ?hr ?_;(case hd => rfl);(case hg => rfl);(case hr => first | (go_simp;done) | (go_simp;rfl));intro gb164 hg w10 hbox hb;have BK164:=am (hbox);(have GW164:=am ((by rw [hg];exact (below_size (lo HB.out)) : w.heap.size ≤ gb164)));have GE164:GEc _ _:=⟨((by rw [hg];exact (below_size (lo HB.out)) : w.heap.size ≤ gb164))⟩;replace HB:=am (below_step (lo HB.out) hb);clear hb hbox hg;have hcz11_0 : w10.cell? ⟨gb164,0,none⟩ = some (.int .i64 a0_0):=bc BK164.out 0 rfl;have hcz11_1 : w10.cell? ⟨gb164,1,none⟩ = some (.slice A0_1 l0_1.length c0_1):=bc BK164.out 1 rfl;have hcz11_2 : w10.cell? ⟨gb164,2,none⟩ = some (.slice A0_2 l0_2.length c0_2):=bc BK164.out 2 rfl;have hcz11_3 : w10.cell? ⟨gb164,3,none⟩ = some (.slice A0_3 l0_3.length c0_3):=bc BK164.out 3 rfl;have hfz11_0:=blk_frozen BK164.out 0;have hfz11_1:=blk_frozen BK164.out 1;have hfz11_2:=blk_frozen BK164.out 2;have hfz11_3:=blk_frozen BK164.out 3)));replace BK164:=am (blk_drew BK164.out);replace HB:=am (below_drew1 HB.out);(have p165 : 0 ≤ (a1 : Int):=of_decide_eq_true (by first | (with_reducible assumption) | assumption));(have q165 : a1 < (l0_1.length : Int):=of_decide_eq_true (by first | (with_reducible assumption) | assumption));obtain ⟨ad165,e165,hx165_0⟩:=Kd.at_string HR0_1.out a1 p165 q165;have hw165_0:=hx165_0;cases e165;replace hx165_0:=(HB.out.cell (World.block_lt_of_cell? w _ hx165_0)).trans hx165_0;replace p165:=eq_true p165;replace q165:=eq_true q165;(have p167 : 0 ≤ (a1 : Int):=of_decide_eq_true (by first | (with_reducible assumption) | assumption));(have q167 : a1 < (l0_2.length : Int):=of_decide_eq_true (by first | (with_reducible assumption) | assumption));obtain ⟨ad167,e167,hx167_0⟩:=Kd.at_string HR0_2.out a1 p167 q167;have hw167_0:=hx167_0;cases e167;replace hx167_0:=(HB.out.cell (World.block_lt_of_cell? w _ hx167_0)).trans hx167_0;replace p167:=eq_true p167;replace q167:=eq_true q167;(refine start_ (n:=14) (S:=fun w' => w'.cell? ⟨gb164,0,none⟩ = some (.int .i64 a0_0) ∧ w'.cell? ⟨gb164,1,none⟩ = some (.slice (some ad165) l0_1.length c0_1) ∧ w'.cell? ⟨gb164,2,none⟩ = some (.slice (some ad167) l0_2.length c0_2) ∧ w'.cell? ⟨gb164,3,none⟩ = some (.slice A0_3 l0_3.length c0_3) ∧ w'.cell? (ad165.add (a1).toNat) = some (.string (rdOf ByteArray.empty l0_1 a1)) ∧ w'.cell? (ad167.add (a1).toNat) = some (.string (rdOf ByteArray.empty l0_2 a1))) (ds:=[]) #[ff,ff,ff,ff,ff,ff,ff,ff,ff,ff,ff,ff,ff,ff] (by kernel_rfl) rfl rfl ⟨bc BK164.out 0 rfl,bc BK164.out 1 rfl,bc BK164.out 2 rfl,bc BK164.out 3 rfl,((HB.out.cell (World.block_lt_of_cell? w _ hw165_0)).trans hw165_0),((HB.out.cell (World.block_lt_of_cell? w _ hw167_0)).trans hw167_0)⟩ (fun hHeld => ?_);refine with_tabW node_Node_entry.tab2 node_Node_entry.bits2 (fun HT_ HW_ => ?_));(generalize w10.drew = w12 at BK164 HB hx165_0 hx167_0 hHeld ⊢);(refine pure_ (i:=0) (N:=some 8) (v:=?_) (a':=?_) #[tt,ff,ff,ff,ff,ff,ff,ff,ff,ff,ff,ff,ff,ff] rfl rfl (any_of HT_.out (by kernel_rfl)) (fun _ _ _ h => h) (Or.inl ⟨by rfl,?_⟩) ?_ ?_);rotate_left
      ·intro w';(go_simp);(with_reducible rfl)
      rotate_left
      ·simp only [Act.put,sA,sZ,sS,i64_w,i32_w];(rfl)
      (refine pure_ (i:=2) (N:=some 10) (v:=?_) (a':=?_) #[tt,ff,tt,ff,ff,ff,ff,ff,ff,ff,ff,ff,ff,ff] rfl rfl (any_of HT_.out (by kernel_rfl)) (fun _ _ _ h => h) (Or.inl ⟨by rfl,?_⟩) ?_ ?_);rotate_left
      ·intro w';(go_simp);(with_reducible rfl)
      rotate_left
      ·simp only [Act.put,sA,sZ,sS,i64_w,i32_w];(rfl)
      (refine pure_ (i:=6) (N:=some 14) (v:=?_) (a':=?_) #[tt,ff,tt,ff,ff,ff,tt,ff,ff,ff,ff,ff,ff,ff] rfl rfl (any_of HT_.out (by kernel_rfl)) (fun _ _ _ h => h) (Or.inl ⟨by rfl,?_⟩) ?_ ?_);rotate_left
      ·intro w';(go_simp);(with_reducible rfl)
      rotate_left
      ·simp only [Act.put,sA,sZ,sS,i64_w,i32_w];(rfl)
      (refine pure_ (i:=8) (N:=some 16) (v:=?_) (a':=?_) #[tt,ff,tt,ff,ff,ff,tt,ff,tt,ff,ff,ff,ff,ff] rfl rfl (any_of HT_.out (by kernel_rfl)) (fun _ _ _ h => h) (Or.inl ⟨by rfl,?_⟩) ?_ ?_);rotate_left
      ·intro w';(go_simp);(with_reducible rfl)
      rotate_left
      ·simp only [Act.put,sA,sZ,sS,i64_w,i32_w];(rfl)
      (refine take_ (i:=1) (N:=some 9) (v:=?_) (a':=?_) #[tt,tt,tt,ff,ff,ff,tt,ff,tt,ff,ff,ff,ff,ff] rfl rfl (take_ofW HT_.out HW_.out (by kernel_rfl)) (fun _ _ _ h => h) (Or.inl ⟨by rfl,?_⟩) hHeld ?_ ?_);rotate_left
      ·(rintro w' ⟨s0,s1,s2,s3,s4,s5⟩);(go_simp);(with_reducible rfl)
      rotate_left
      ·simp only [Act.put,sA,sZ,sS,i64_w,i32_w];(rfl)
      (refine pure_ (i:=3) (N:=some 11) (v:=?_) (a':=?_) #[tt,tt,tt,tt,ff,ff,tt,ff,tt,ff,ff,ff,ff,ff] rfl rfl (any_of HT_.out (by kernel_rfl)) (fun _ _ _ h => h) (Or.inl ⟨by rfl,?_⟩) ?_ ?_);rotate_left
      ·intro w';(go_simp);(with_reducible rfl)
      rotate_left
      ·simp only [Act.put,sA,sZ,sS,i64_w,i32_w];(rfl)
      (refine take_ (i:=4) (N:=some 12) (v:=?_) (a':=?_) #[tt,tt,tt,tt,tt,ff,tt,ff,tt,ff,ff,ff,ff,ff] rfl rfl (take_ofW HT_.out HW_.out (by kernel_rfl)) (fun _ _ _ h => h) (Or.inl ⟨by rfl,?_⟩) hHeld ?_ ?_);rotate_left
      ·(rintro w' ⟨s0,s1,s2,s3,s4,s5⟩);(go_simp);(with_reducible rfl)
      rotate_left
      ·simp only [Act.put,sA,sZ,sS,i64_w,i32_w];(rfl)
      (refine take_ (i:=7) (N:=some 15) (v:=?_) (a':=?_) #[tt,tt,tt,tt,tt,ff,tt,tt,tt,ff,ff,ff,ff,ff] rfl rfl (take_ofW HT_.out HW_.out (by kernel_rfl)) (fun _ _ _ h => h) (Or.inl ⟨by rfl,?_⟩) hHeld ?_ ?_);rotate_left
      ·(rintro w' ⟨s0,s1,s2,s3,s4,s5⟩);(go_simp);(with_reducible rfl)
      rotate_left
      ·simp only [Act.put,sA,sZ,sS,i64_w,i32_w];(rfl)
      (refine pure_ (i:=9) (N:=some 17) (v:=?_) (a':=?_) #[tt,tt,tt,tt,tt,ff,tt,tt,tt,tt,ff,ff,ff,ff] rfl rfl (any_of HT_.out (by kernel_rfl)) (fun _ _ _ h => h) (Or.inl ⟨by rfl,?_⟩) ?_ ?_);rotate_left
      ·intro w';(go_simp);(with_reducible rfl)
      rotate_left
      ·simp only [Act.put,sA,sZ,sS,i64_w,i32_w];(rfl)
      (refine take_ (i:=10) (N:=some 18) (v:=?_) (a':=?_) #[tt,tt,tt,tt,tt,ff,tt,tt,tt,tt,tt,ff,ff,ff] rfl rfl (take_ofW HT_.out HW_.out (by kernel_rfl)) (fun _ _ _ h => h) (Or.inl ⟨by rfl,?_⟩) hHeld ?_ ?_);rotate_left
      ·(rintro w' ⟨s0,s1,s2,s3,s4,s5⟩);(go_simp);(with_reducible rfl)
      rotate_left
      ·simp only [Act.put,sA,sZ,sS,i64_w,i32_w];(rfl)
      (refine one_ (i:=5) (N:=some 13) #[tt,tt,tt,tt,tt,tt,tt,tt,tt,tt,tt,ff,ff,ff] rfl rfl (one_of HT_.out (by kernel_rfl)) (by decide) (fun K hK => ?_));(refine goes_ Try.func57 (by kernel_rfl) rfl #[.string (rdOf ByteArray.empty l0_1 a1)] (by rfl) rfl rfl (by (try simp only [List.map_toArray,List.map_cons,List.map_nil]);first | done | rfl | (simp only [List.length_drop,List.length_take];rfl)) ?_);(with_reducible refine (varint_Text.calls k (rdOf ByteArray.empty l0_1 a1) t166 _ A6.out).mono ?_);(rintro e w13 ⟨rfl,hb⟩);(refine ⟨_,rfl,?_⟩);replace BK164:=am (blk_below (bu BK164.out) hb);replace HB:=am (below_step (lo HB.out) hb);(try clear hb);(try clear hb2);(try clear hk);(try clear hi);(refine hK.out _ _ ⟨bc BK164.out 0 rfl,bc BK164.out 1 rfl,bc BK164.out 2 rfl,bc BK164.out 3 rfl,((HB.out.cell (World.block_lt_of_cell? w _ hw165_0)).trans hw165_0),((HB.out.cell (World.block_lt_of_cell? w _ hw167_0)).trans hw167_0)⟩ (fun hHeld => ?_));clear hK K;(refine norm_ (a':=?_) ?_ ?_);rotate_left
      ·(show Act.put _ (some 13) _ = _);simp only [Act.put,sA,sZ,sS,i64_w,i32_w];(rfl)
      (refine one_ (i:=11) (N:=some 19) #[tt,tt,tt,tt,tt,tt,tt,tt,tt,tt,tt,tt,ff,ff] rfl rfl (one_of HT_.out (by kernel_rfl)) (by decide) (fun K hK => ?_));(refine goes_ Try.func57 (by kernel_rfl) rfl #[.string (rdOf ByteArray.empty l0_2 a1)] (by rfl) rfl rfl (by (try simp only [List.map_toArray,List.map_cons,List.map_nil]);first | done | rfl | (simp only [List.length_drop,List.length_take];rfl)) ?_);(with_reducible refine (varint_Text.calls k (rdOf ByteArray.empty l0_2 a1) t168 _ A8.out).mono ?_);(rintro e w14 ⟨rfl,hb⟩);(refine ⟨_,rfl,?_⟩);replace BK164:=am (blk_below (bu BK164.out) hb);replace HB:=am (below_step (lo HB.out) hb);(try clear hb);(try clear hb2);(try clear hk);(try clear hi);(refine hK.out _ _ ⟨bc BK164.out 0 rfl,bc BK164.out 1 rfl,bc BK164.out 2 rfl,bc BK164.out 3 rfl,((HB.out.cell (World.block_lt_of_cell? w _ hw165_0)).trans hw165_0),((HB.out.cell (World.block_lt_of_cell? w _ hw167_0)).trans hw167_0)⟩ (fun hHeld => ?_));clear hK K;(refine norm_ (a':=?_) ?_ ?_);rotate_left
      ·(show Act.put _ (some 19) _ = _);simp only [Act.put,sA,sZ,sS,i64_w,i32_w];(rfl)
      (refine pure_ (i:=12) (N:=some 20) (v:=?_) (a':=?_) #[tt,tt,tt,tt,tt,tt,tt,tt,tt,tt,tt,tt,tt,ff] rfl rfl (any_of HT_.out (by kernel_rfl)) (fun _ _ _ h => h) (Or.inl ⟨by rfl,?_⟩) ?_ ?_);rotate_left
      ·intro w';(go_simp);(with_reducible rfl)
      rotate_left
      ·simp only [Act.put,sA,sZ,sS,i64_w,i32_w];(rfl)
      (refine pure_ (i:=13) (N:=some 4) (v:=?_) (a':=?_) #[tt,tt,tt,tt,tt,tt,tt,tt,tt,tt,tt,tt,tt,tt] rfl rfl (any_of HT_.out (by kernel_rfl)) (fun _ _ _ h => h) (Or.inl ⟨by rfl,?_⟩) ?_ ?_);rotate_left
      ·intro w';(go_simp);(with_reducible rfl)
      rotate_left
      ·simp only [Act.put,sA,sZ,sS,i64_w,i32_w];(rfl)
      (refine done_ (done_of HT_.out (by kernel_rfl)) ?_);(try go_wp2);(go_ret);(exact ⟨by first | rfl | (simp [errW_none,errW_some] <;> rfl) | (simp [*,errW_none,errW_some] <;> rfl),lo HB.out⟩)
     ·rw [if_neg c9] at H;(exact absurd H (by simp))
    ·rw [if_neg c7] at H;(exact absurd H (by simp))
   ·rw [if_neg c5] at H;(exact absurd H (by simp))
  ·rw [if_neg c4] at H;(exact absurd H (by simp))
 ·rw [if_neg c3] at H;have c3b0 : (a0_0 == 1) = false:=beq_eq_false_iff_ne.mpr c3;have c3b1 : (a0_0 != 1) = true:=bne_iff_ne.mpr c3;(by_cases c15 : 0 ≤ a1)
  ·rw [if_pos c15] at H;have c15b0 : decide (0 ≤ a1) = true:=decide_eq_true c15;clear c15;(by_cases c16 : a1 < (l0_1.length : Int))
   ·rw [if_pos c16] at H;have c16b0 : decide (a1 < (l0_1.length : Int)) = true:=decide_eq_true c16;clear c16;replace H:=Option.bind_eq_some_iff.mp H;obtain ⟨t170,A170,H⟩:=H;(replace H : (if a1 < (l0_3.length : Int) then ((varint_Num.f k (IntKind.u64.wrap (rd l0_3 a1))).bind fun t172 => (if t170.size + t172.size ≤ 9223372036854775807 then (some (t170 ++ t172)) else (none))) else (none)) = some r:=H);have A17:=am A170;clear A170;(by_cases c18 : a1 < (l0_3.length : Int))
    ·rw [if_pos c18] at H;have c18b0 : decide (a1 < (l0_3.length : Int)) = true:=decide_eq_true c18;clear c18;replace H:=Option.bind_eq_some_iff.mp H;obtain ⟨t172,A190,H⟩:=H;replace H : (if t170.size + t172.size ≤ 9223372036854775807 then (some (t170 ++ t172)) else (none)) = some r:=H;have A19:=am A190;clear A190;(by_cases c20 : t170.size + t172.size ≤ 9223372036854775807)
     ·rw [if_pos c20] at H;have c20b0:=eq_true c20;have c20b1 : decide (t170.size + t172.size ≤ 9223372036854775807) = true:=decide_eq_true c20;(try have c20b2 : (9223372036854775807 < t170.size + t172.size) = False:=eq_false (Nat.not_lt.2 c20));obtain rfl:=Option.some.inj H;(go_enter Try.func41,Try.ntmps41);(try go_wp2_with (first | ((with_reducible refine gate_dst (N:=2) rfl ?_);refine box_event ?hg (N:=2) ?hd (cs:=#[.int .i64 a0_0,.slice A0_1 l0_1.length c0_1,.slice A0_2 l0_2.length c0_2,.slice A0_3 l0_3.length c0_3]) (t:=29) ?hr ?_;(case hd => rfl);(case hg => rfl);(case hr => first | (go_simp;done) | (go_simp;rfl));intro gb164 hg w21 hbox hb;have BK164:=am (hbox);(have GW164:=am ((by rw [hg];exact (below_size (lo HB.out)) : w.heap.size ≤ gb164)));have GE164:GEc _ _:=⟨((by rw [hg];exact (below_size (lo HB.out)) : w.heap.size ≤ gb164))⟩;replace HB:=am (below_step (lo HB.out) hb);clear hb hbox hg;have hcz22_0 : w21.cell? ⟨gb164,0,none⟩ = some (.int .i64 a0_0):=bc BK164.out 0 rfl;have hcz22_1 : w21.cell? ⟨gb164,1,none⟩ = some (.slice A0_1 l0_1.length c0_1):=bc BK164.out 1 rfl;have hcz22_2 : w21.cell? ⟨gb164,2,none⟩ = some (.slice A0_2 l0_2.length c0_2):=bc BK164.out 2 rfl;have hcz22_3 : w21.cell? ⟨gb164,3,none⟩ = some (.slice A0_3 l0_3.length c0_3):=bc BK164.out 3 rfl;have hfz22_0:=blk_frozen BK164.out 0;have hfz22_1:=blk_frozen BK164.out 1;have hfz22_2:=blk_frozen BK164.out 2;have hfz22_3:=blk_frozen BK164.out 3)));replace BK164:=am (blk_drew BK164.out);replace HB:=am (below_drew1 HB.out);(have p169 : 0 ≤ (a1 : Int):=of_decide_eq_true (by first | (with_reducible assumption) | assumption));(have q169 : a1 < (l0_1.length : Int):=of_decide_eq_true (by first | (with_reducible assumption) | assumption));obtain ⟨ad169,e169,hx169_0⟩:=Kd.at_string HR0_1.out a1 p169 q169;have hw169_0:=hx169_0;cases e169;replace hx169_0:=(HB.out.cell (World.block_lt_of_cell? w _ hx169_0)).trans hx169_0;replace p169:=eq_true p169;replace q169:=eq_true q169;(have p171 : 0 ≤ (a1 : Int):=of_decide_eq_true (by first | (with_reducible assumption) | assumption));(have q171 : a1 < (l0_3.length : Int):=of_decide_eq_true (by first | (with_reducible assumption) | assumption));obtain ⟨ad171,e171,hx171_0⟩:=Kd.at_int HR0_3.out a1 p171 q171;have hw171_0:=hx171_0;cases e171;replace hx171_0:=(HB.out.cell (World.block_lt_of_cell? w _ hx171_0)).trans hx171_0;replace p171:=eq_true p171;replace q171:=eq_true q171;(refine start_ (n:=15) (S:=fun w' => w'.cell? ⟨gb164,0,none⟩ = some (.int .i64 a0_0) ∧ w'.cell? ⟨gb164,1,none⟩ = some (.slice (some ad169) l0_1.length c0_1) ∧ w'.cell? ⟨gb164,2,none⟩ = some (.slice A0_2 l0_2.length c0_2) ∧ w'.cell? ⟨gb164,3,none⟩ = some (.slice (some ad171) l0_3.length c0_3) ∧ w'.cell? (ad169.add (a1).toNat) = some (.string (rdOf ByteArray.empty l0_1 a1)) ∧ w'.cell? (ad171.add (a1).toNat) = some (.int .i64 (rd l0_3 a1))) (ds:=[]) #[ff,ff,ff,ff,ff,ff,ff,ff,ff,ff,ff,ff,ff,ff,ff] (by kernel_rfl) rfl rfl ⟨bc BK164.out 0 rfl,bc BK164.out 1 rfl,bc BK164.out 2 rfl,bc BK164.out 3 rfl,((HB.out.cell (World.block_lt_of_cell? w _ hw169_0)).trans hw169_0),((HB.out.cell (World.block_lt_of_cell? w _ hw171_0)).trans hw171_0)⟩ (fun hHeld => ?_);refine with_tabW node_Node_entry.tab3 node_Node_entry.bits3 (fun HT_ HW_ => ?_));(generalize w21.drew = w23 at BK164 HB hx169_0 hx171_0 hHeld ⊢);(refine pure_ (i:=0) (N:=some 21) (v:=?_) (a':=?_) #[tt,ff,ff,ff,ff,ff,ff,ff,ff,ff,ff,ff,ff,ff,ff] rfl rfl (any_of HT_.out (by kernel_rfl)) (fun _ _ _ h => h) (Or.inl ⟨by rfl,?_⟩) ?_ ?_);rotate_left
      ·intro w';(go_simp);(with_reducible rfl)
      rotate_left
      ·simp only [Act.put,sA,sZ,sS,i64_w,i32_w];(rfl)
      (refine pure_ (i:=2) (N:=some 23) (v:=?_) (a':=?_) #[tt,ff,tt,ff,ff,ff,ff,ff,ff,ff,ff,ff,ff,ff,ff] rfl rfl (any_of HT_.out (by kernel_rfl)) (fun _ _ _ h => h) (Or.inl ⟨by rfl,?_⟩) ?_ ?_);rotate_left
      ·intro w';(go_simp);(with_reducible rfl)
      rotate_left
      ·simp only [Act.put,sA,sZ,sS,i64_w,i32_w];(rfl)
      (refine pure_ (i:=6) (N:=some 27) (v:=?_) (a':=?_) #[tt,ff,tt,ff,ff,ff,tt,ff,ff,ff,ff,ff,ff,ff,ff] rfl rfl (any_of HT_.out (by kernel_rfl)) (fun _ _ _ h => h) (Or.inl ⟨by rfl,?_⟩) ?_ ?_);rotate_left
      ·intro w';(go_simp);(with_reducible rfl)
      rotate_left
      ·simp only [Act.put,sA,sZ,sS,i64_w,i32_w];(rfl)
      (refine pure_ (i:=8) (N:=some 29) (v:=?_) (a':=?_) #[tt,ff,tt,ff,ff,ff,tt,ff,tt,ff,ff,ff,ff,ff,ff] rfl rfl (any_of HT_.out (by kernel_rfl)) (fun _ _ _ h => h) (Or.inl ⟨by rfl,?_⟩) ?_ ?_);rotate_left
      ·intro w';(go_simp);(with_reducible rfl)
      rotate_left
      ·simp only [Act.put,sA,sZ,sS,i64_w,i32_w];(rfl)
      (refine take_ (i:=1) (N:=some 22) (v:=?_) (a':=?_) #[tt,tt,tt,ff,ff,ff,tt,ff,tt,ff,ff,ff,ff,ff,ff] rfl rfl (take_ofW HT_.out HW_.out (by kernel_rfl)) (fun _ _ _ h => h) (Or.inl ⟨by rfl,?_⟩) hHeld ?_ ?_);rotate_left
      ·(rintro w' ⟨s0,s1,s2,s3,s4,s5⟩);(go_simp);(with_reducible rfl)
      rotate_left
      ·simp only [Act.put,sA,sZ,sS,i64_w,i32_w];(rfl)
      (refine pure_ (i:=3) (N:=some 24) (v:=?_) (a':=?_) #[tt,tt,tt,tt,ff,ff,tt,ff,tt,ff,ff,ff,ff,ff,ff] rfl rfl (any_of HT_.out (by kernel_rfl)) (fun _ _ _ h => h) (Or.inl ⟨by rfl,?_⟩) ?_ ?_);rotate_left
      ·intro w';(go_simp);(with_reducible rfl)
      rotate_left
      ·simp only [Act.put,sA,sZ,sS,i64_w,i32_w];(rfl)
      (refine take_ (i:=4) (N:=some 25) (v:=?_) (a':=?_) #[tt,tt,tt,tt,tt,ff,tt,ff,tt,ff,ff,ff,ff,ff,ff] rfl rfl (take_ofW HT_.out HW_.out (by kernel_rfl)) (fun _ _ _ h => h) (Or.inl ⟨by rfl,?_⟩) hHeld ?_ ?_);rotate_left
      ·(rintro w' ⟨s0,s1,s2,s3,s4,s5⟩);(go_simp);(with_reducible rfl)
      rotate_left
      ·simp only [Act.put,sA,sZ,sS,i64_w,i32_w];(rfl)
      (refine take_ (i:=7) (N:=some 28) (v:=?_) (a':=?_) #[tt,tt,tt,tt,tt,ff,tt,tt,tt,ff,ff,ff,ff,ff,ff] rfl rfl (take_ofW HT_.out HW_.out (by kernel_rfl)) (fun _ _ _ h => h) (Or.inl ⟨by rfl,?_⟩) hHeld ?_ ?_);rotate_left
      ·(rintro w' ⟨s0,s1,s2,s3,s4,s5⟩);(go_simp);(with_reducible rfl)
      rotate_left
      ·simp only [Act.put,sA,sZ,sS,i64_w,i32_w];(rfl)
      (refine pure_ (i:=9) (N:=some 30) (v:=?_) (a':=?_) #[tt,tt,tt,tt,tt,ff,tt,tt,tt,tt,ff,ff,ff,ff,ff] rfl rfl (any_of HT_.out (by kernel_rfl)) (fun _ _ _ h => h) (Or.inl ⟨by rfl,?_⟩) ?_ ?_);rotate_left
      ·intro w';(go_simp);(with_reducible rfl)
      rotate_left
      ·simp only [Act.put,sA,sZ,sS,i64_w,i32_w];(rfl)
      (refine take_ (i:=10) (N:=some 31) (v:=?_) (a':=?_) #[tt,tt,tt,tt,tt,ff,tt,tt,tt,tt,tt,ff,ff,ff,ff] rfl rfl (take_ofW HT_.out HW_.out (by kernel_rfl)) (fun _ _ _ h => h) (Or.inl ⟨by rfl,?_⟩) hHeld ?_ ?_);rotate_left
      ·(rintro w' ⟨s0,s1,s2,s3,s4,s5⟩);(go_simp);(with_reducible rfl)
      rotate_left
      ·simp only [Act.put,sA,sZ,sS,i64_w,i32_w];(rfl)
      (refine pure_ (i:=11) (N:=some 32) (v:=?_) (a':=?_) #[tt,tt,tt,tt,tt,ff,tt,tt,tt,tt,tt,tt,ff,ff,ff] rfl rfl (any_of HT_.out (by kernel_rfl)) (fun _ _ _ h => h) (Or.inl ⟨by rfl,?_⟩) ?_ ?_);rotate_left
      ·intro w';(go_simp);(with_reducible rfl)
      rotate_left
      ·simp only [Act.put,sA,sZ,sS,i64_w,i32_w];(rfl)
      (refine one_ (i:=5) (N:=some 26) #[tt,tt,tt,tt,tt,tt,tt,tt,tt,tt,tt,tt,ff,ff,ff] rfl rfl (one_of HT_.out (by kernel_rfl)) (by decide) (fun K hK => ?_));(refine goes_ Try.func57 (by kernel_rfl) rfl #[.string (rdOf ByteArray.empty l0_1 a1)] (by rfl) rfl rfl (by (try simp only [List.map_toArray,List.map_cons,List.map_nil]);first | done | rfl | (simp only [List.length_drop,List.length_take];rfl)) ?_);(with_reducible refine (varint_Text.calls k (rdOf ByteArray.empty l0_1 a1) t170 _ A17.out).mono ?_);(rintro e w24 ⟨rfl,hb⟩);(refine ⟨_,rfl,?_⟩);replace BK164:=am (blk_below (bu BK164.out) hb);replace HB:=am (below_step (lo HB.out) hb);(try clear hb);(try clear hb2);(try clear hk);(try clear hi);(refine hK.out _ _ ⟨bc BK164.out 0 rfl,bc BK164.out 1 rfl,bc BK164.out 2 rfl,bc BK164.out 3 rfl,((HB.out.cell (World.block_lt_of_cell? w _ hw169_0)).trans hw169_0),((HB.out.cell (World.block_lt_of_cell? w _ hw171_0)).trans hw171_0)⟩ (fun hHeld => ?_));clear hK K;(refine norm_ (a':=?_) ?_ ?_);rotate_left
      ·(show Act.put _ (some 26) _ = _);simp only [Act.put,sA,sZ,sS,i64_w,i32_w];(rfl)
      (refine one_ (i:=12) (N:=some 33) #[tt,tt,tt,tt,tt,tt,tt,tt,tt,tt,tt,tt,tt,ff,ff] rfl rfl (one_of HT_.out (by kernel_rfl)) (by decide) (fun K hK => ?_));(refine goes_ Try.func40 (by kernel_rfl) rfl #[.int .u64 (IntKind.u64.wrap (rd l0_3 a1))] (by rfl) rfl rfl (by (try simp only [List.map_toArray,List.map_cons,List.map_nil]);first | done | rfl | (simp only [List.length_drop,List.length_take];rfl)) ?_);(with_reducible refine (varint_Num.calls k (IntKind.u64.wrap (rd l0_3 a1)) t172 _ A19.out).mono ?_);(rintro e w25 ⟨rfl,hb⟩);(refine ⟨_,rfl,?_⟩);replace BK164:=am (blk_below (bu BK164.out) hb);replace HB:=am (below_step (lo HB.out) hb);(try clear hb);(try clear hb2);(try clear hk);(try clear hi);(refine hK.out _ _ ⟨bc BK164.out 0 rfl,bc BK164.out 1 rfl,bc BK164.out 2 rfl,bc BK164.out 3 rfl,((HB.out.cell (World.block_lt_of_cell? w _ hw169_0)).trans hw169_0),((HB.out.cell (World.block_lt_of_cell? w _ hw171_0)).trans hw171_0)⟩ (fun hHeld => ?_));clear hK K;(refine norm_ (a':=?_) ?_ ?_);rotate_left
      ·(show Act.put _ (some 33) _ = _);simp only [Act.put,sA,sZ,sS,i64_w,i32_w];(rfl)
      (refine pure_ (i:=13) (N:=some 34) (v:=?_) (a':=?_) #[tt,tt,tt,tt,tt,tt,tt,tt,tt,tt,tt,tt,tt,tt,ff] rfl rfl (any_of HT_.out (by kernel_rfl)) (fun _ _ _ h => h) (Or.inl ⟨by rfl,?_⟩) ?_ ?_);rotate_left
      ·intro w';(go_simp);(with_reducible rfl)
      rotate_left
      ·simp only [Act.put,sA,sZ,sS,i64_w,i32_w];(rfl)
      (refine pure_ (i:=14) (N:=some 4) (v:=?_) (a':=?_) #[tt,tt,tt,tt,tt,tt,tt,tt,tt,tt,tt,tt,tt,tt,tt] rfl rfl (any_of HT_.out (by kernel_rfl)) (fun _ _ _ h => h) (Or.inl ⟨by rfl,?_⟩) ?_ ?_);rotate_left
      ·intro w';(go_simp);(with_reducible rfl)
      rotate_left
      ·simp only [Act.put,sA,sZ,sS,i64_w,i32_w];(rfl)
      (refine done_ (done_of HT_.out (by kernel_rfl)) ?_);(try go_wp2);(go_ret);(exact ⟨by first | rfl | (simp [errW_none,errW_some] <;> rfl) | (simp [*,errW_none,errW_some] <;> rfl),lo HB.out⟩)
     ·rw [if_neg c20] at H;(exact absurd H (by simp))
    ·rw [if_neg c18] at H;(exact absurd H (by simp))
   ·rw [if_neg c16] at H;(exact absurd H (by simp))
  ·rw [if_neg c15] at H;(exact absurd H (by simp))

end Go.Proofs.Ytlboglbgdjakmaa.PB

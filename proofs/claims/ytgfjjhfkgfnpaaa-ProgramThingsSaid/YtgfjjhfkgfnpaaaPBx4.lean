-- Written by this session's own program wip/bin/dprint.py, over the kit's print.py, with own texts for some functions: no print of print.sh's
import Derived.Test.YtgfjjhfkgfnpaaaPBx0
import Derived.Test.YtgfjjhfkgfnpaaaPBx1
import Derived.Test.YtgfjjhfkgfnpaaaPBx2
import Derived.Test.YtgfjjhfkgfnpaaaPBx3
import Derived.Test.YtgfjjhfkgfnpaaaUps
namespace Go.Proofs.Ytgfjjhfkgfnpaaa.PB
open Go.RowKit Go.Proofs.YtgfjjhfkgfnpaaaW.PrintWords Go.Proofs.YtgfjjhfkgfnpaaaW.PrintLast Go.Proofs.YtgfjjhfkgfnpaaaW.PrintMore
attribute [local go_sem] max2_int min2_int max_two min_two max_three min_three max_four min_four   -- for this text's walks alone
set_option linter.unusedVariables false
set_option linter.unusedSimpArgs false

attribute [local go_sem high] eqA67
/-! ### program_Same_2: function 38 -/
def program_Same_2.f (k : Nat) (a0_0 : Int) (a0_1 : Int) (a0_2 : Int) (a0_3 : Int) (a0_4 : Int) (l0_5 : List Int) (a0_6 : Nat) (a1_0 : Int) (a1_1 : Int) (a1_2 : Int) (a1_3 : Int) (a1_4 : Int) (l1_5 : List Int) (a1_6 : Nat) : Option (Bool):=if (a0_0 == a1_0 && (a0_1 == a1_1 && (a0_2 == a1_2 && (a0_3 == a1_3 && (a0_4 == a1_4))))) = true then ((slices_Equal_int_int.f k l0_5 l1_5).bind fun t107 => (if t107 = true then ((heat_Bits.f a0_6).bind fun t108 => ((heat_Bits.f a1_6).bind fun t109 => (some (t108 == t109)))) else (some false))) else (some false)
theorem program_Same_2.mono : ∀ a0 a1 a2 a3 a4 a5 a6 a7 a8 a9 a10 a11 a12 a13 k,LeO (program_Same_2.f k a0 a1 a2 a3 a4 a5 a6 a7 a8 a9 a10 a11 a12 a13) (program_Same_2.f (k + 1) a0 a1 a2 a3 a4 a5 a6 a7 a8 a9 a10 a11 a12 a13):=by
 intro a0 a1 a2 a3 a4 a5 a6 a7 a8 a9 a10 a11 a12 a13 k;unfold program_Same_2.f
 repeat' first
   | (with_reducible exact slices_Equal_int_int.mono _ _ _)
   | (with_reducible exact LeO.refl _)
   | (with_reducible exact LeO.none _)
   | (with_reducible refine LeO.ite ?_ ?_)
   | (with_reducible refine LeO.bind ?_ (fun _ => ?_))
   | exact slices_Equal_int_int.mono _ _ _
   | exact LeO.none _
   | refine LeO.ite ?_ ?_
   | refine LeO.bind ?_ (fun _ => ?_)
def program_Same_2.T1 : Bool × List (List Nat × List Nat):=(true,[([],[]),([0],[0]),([],[]),([2],[2]),([],[]),([4],[4]),([],[]),([6],[6]),([],[]),([8],[8]),([1,3,5,7,9],[1,3,5,7,9]),([],[]),([11],[11]),([],[]),([13],[13]),([],[]),([15],[15]),([],[]),([17],[17]),([],[]),([19],[19]),([12,14,16,18,20],[12,14,16,18,20]),([10,21],[10,21]),([22],[22]),([23],[23]),([24,23],[23,24]),([23],[23]),([26,23],[23,26]),([25,27,23,23],[23,25,27]),([23,28],[23,28]),([29,28],[29]),([30],[30]),([31,30],[30,31]),([32,30,30],[30,32]),([30],[30]),([34,30],[30,34]),([35,33,30],[30,35]),([33,36,30],[30,33,36]),([30,37],[30,37]),([38,36,0,1,2,3,4,5,6,7,8,9,10,11,12,13,14,15,16,17,18,19,20,21,22,23,24,25,26,27,28,29,30,31,32,33,34,35,36,37,38],[38])])
def program_Same_2.B1 : List Nat:=[0,1,0,4,0,16,0,64,0,256,1023,0,2048,0,8192,0,32768,0,131072,0,524288,2095104,4194303,8388607,16777215,33554431,16777215,83886079,268435455,536870911,1073741823,2147483647,4294967295,8589934591,2147483647,19327352831,68719476735,137438953471,274877906943,549755813887]
theorem program_Same_2.tab1 : rtab .any (opsOf Try.f38 1) = program_Same_2.T1:=by kernel_rfl
theorem program_Same_2.bits1 : waitsOk program_Same_2.T1.2 program_Same_2.B1 = true:=by kernel_rfl
set_option maxHeartbeats 40000000 in
set_option maxRecDepth 100000 in
theorem program_Same_2.calls (k : Nat) (a0_0 : Int) (a0_1 : Int) (a0_2 : Int) (a0_3 : Int) (a0_4 : Int) (A0_5 : Option Addr) (c0_5 : Nat) (l0_5 : List Int) (a0_6 : Nat) (a1_0 : Int) (a1_1 : Int) (a1_2 : Int) (a1_3 : Int) (a1_4 : Int) (A1_5 : Option Addr) (c1_5 : Nat) (l1_5 : List Int) (a1_6 : Nat) (r : Bool) (w : World) (hr0_5 : Kd.C (Kd.int .i64) w A0_5 l0_5.length l0_5) (hc0_5 : l0_5.length ≤ c0_5) (hr1_5 : Kd.C (Kd.int .i64) w A1_5 l1_5.length l1_5) (hc1_5 : l1_5.length ≤ c1_5) (h : program_Same_2.f k a0_0 a0_1 a0_2 a0_3 a0_4 l0_5 a0_6 a1_0 a1_1 a1_2 a1_3 a1_4 l1_5 a1_6 = some r) :
  Calls Try.prog 38 #[.agg #[.int .i64 a0_0,.int .i64 a0_1,.int .i64 a0_2,.int .i64 a0_3,.int .i64 a0_4,.slice A0_5 l0_5.length c0_5,.float .f64 a0_6],.agg #[.int .i64 a1_0,.int .i64 a1_1,.int .i64 a1_2,.int .i64 a1_3,.int .i64 a1_4,.slice A1_5 l1_5.length c1_5,.float .f64 a1_6]] w fun e w' => e = .returned (.bool r) ∧ Below w.heap.size w w':=by
 have hu42:=Try.underlying42;have hu67:=Try.underlying67;have HR0_5:=am hr0_5;have HC0_5:=am hc0_5;clear hr0_5 hc0_5;have HR1_5:=am hr1_5;have HC1_5:=am hc1_5;clear hr1_5 hc1_5;have HB:=am (Below.refl w.heap.size w);(have H : (if (a0_0 == a1_0 && (a0_1 == a1_1 && (a0_2 == a1_2 && (a0_3 == a1_3 && (a0_4 == a1_4))))) = true then ((slices_Equal_int_int.f k l0_5 l1_5).bind fun t107 => (if t107 = true then ((heat_Bits.f a0_6).bind fun t108 => ((heat_Bits.f a1_6).bind fun t109 => (some (t108 == t109)))) else (some false))) else (some false)) = some r:=h);clear h;(by_cases c3 : (a0_0 == a1_0 && (a0_1 == a1_1 && (a0_2 == a1_2 && (a0_3 == a1_3 && (a0_4 == a1_4))))) = true)
 ·rw [if_pos c3] at H;have c3b0 : (a0_0 == a1_0 && (a0_1 == a1_1 && (a0_2 == a1_2 && (a0_3 == a1_3 && (a0_4 == a1_4))))) = true:=c3;(try (have c3b1 : decide (a0_0 = a1_0 && (a0_1 == a1_1 && (a0_2 == a1_2 && (a0_3 == a1_3 && (a0_4 == a1_4))))) = true:=by simpa using c3));(try (have c3b2 : (a0_0 == a1_0 && (a0_1 == a1_1 && (a0_2 == a1_2 && (a0_3 == a1_3 && (a0_4 == a1_4))))) = true:=by simpa using c3));clear c3;replace H:=Option.bind_eq_some_iff.mp H;obtain ⟨t107,A40,H⟩:=H;(replace H : (if t107 = true then ((heat_Bits.f a0_6).bind fun t108 => ((heat_Bits.f a1_6).bind fun t109 => (some (t108 == t109)))) else (some false)) = some r:=H);have A4:=am A40;clear A40;(by_cases c5 : t107 = true)
  ·subst c5;(have H1 : ((heat_Bits.f a0_6).bind fun t108 => ((heat_Bits.f a1_6).bind fun t109 => (some (t108 == t109)))) = some r:=by rw [if_pos rfl] at H;exact H);clear H;have H:=H1;clear H1;replace H:=Option.bind_eq_some_iff.mp H;obtain ⟨t108,A60,H⟩:=H;(replace H : ((heat_Bits.f a1_6).bind fun t109 => (some (t108 == t109))) = some r:=H);have A6:=am A60;clear A60;replace H:=Option.bind_eq_some_iff.mp H;obtain ⟨t109,A70,H⟩:=H;replace H : (some (t108 == t109)) = some r:=H;have A7:=am A70;clear A70;obtain rfl:=Option.some.inj H;(go_enter Try.func38,Try.ntmps38);(try go_wp2_with (first | ((with_reducible refine gate_dst (N:=2) rfl ?_);refine box_event ?hg (N:=2) ?hd (cs:=#[.int .i64 a0_0,.int .i64 a0_1,.int .i64 a0_2,.int .i64 a0_3,.int .i64 a0_4,.slice A0_5 l0_5.length c0_5,.float .f64 a0_6]) (t:=42) ?hr ?_;(case hd => rfl);(case hg => rfl);(case hr => first | (go_simp;done) | (go_simp;rfl));intro gb105 hg w8 hbox hb;have BK105:=am (hbox);(have GW105:=am ((by rw [hg];exact (below_size (lo HB.out)) : w.heap.size ≤ gb105)));have GE105:GEc _ _:=⟨((by rw [hg];exact (below_size (lo HB.out)) : w.heap.size ≤ gb105))⟩;replace HB:=am (below_step (lo HB.out) hb);clear hb hbox hg) | ((with_reducible refine gate_dst (N:=3) rfl ?_);refine box_event ?hg (N:=3) ?hd (cs:=#[.int .i64 a1_0,.int .i64 a1_1,.int .i64 a1_2,.int .i64 a1_3,.int .i64 a1_4,.slice A1_5 l1_5.length c1_5,.float .f64 a1_6]) (t:=42) ?hr ?_;(case hd => rfl);(case hg => rfl);(case hr => first | (go_simp;done) | (go_simp;rfl));intro gb106 hg w9 hbox hb;have BK106:=am (hbox);(have GW106:=am ((by rw [hg];exact (below_size (lo HB.out)) : w.heap.size ≤ gb106)));have GE106:GEc _ _:=⟨((by rw [hg];exact (below_size (lo HB.out)) : w.heap.size ≤ gb106))⟩;replace HB:=am (below_step (lo HB.out) hb);(have NB105_106:=am ((by rw [hg];exact Nat.ne_of_lt (blk_lt (g:=gb105) (o:=.cells #[.int .i64 a0_0,.int .i64 a0_1,.int .i64 a0_2,.int .i64 a0_3,.int .i64 a0_4,.slice A0_5 l0_5.length c0_5,.float .f64 a0_6] 42 (0,0)) (bu BK105.out)) : gb105 ≠ gb106)));(have NB106_105:=am ((by rw [hg];exact Nat.ne_of_gt (blk_lt (g:=gb105) (o:=.cells #[.int .i64 a0_0,.int .i64 a0_1,.int .i64 a0_2,.int .i64 a0_3,.int .i64 a0_4,.slice A0_5 l0_5.length c0_5,.float .f64 a0_6] 42 (0,0)) (bu BK105.out)) : gb106 ≠ gb105)));replace BK105:=am (blk_below (bu BK105.out) hb);clear hb hbox hg)));replace BK105:=am (blk_drew BK105.out);replace BK106:=am (blk_drew BK106.out);replace HB:=am (below_drew1 HB.out);(refine start_ (n:=40) (S:=fun w' => w'.cell? ⟨gb105,0,none⟩ = some (.int .i64 a0_0) ∧ w'.cell? ⟨gb105,1,none⟩ = some (.int .i64 a0_1) ∧ w'.cell? ⟨gb105,2,none⟩ = some (.int .i64 a0_2) ∧ w'.cell? ⟨gb105,3,none⟩ = some (.int .i64 a0_3) ∧ w'.cell? ⟨gb105,4,none⟩ = some (.int .i64 a0_4) ∧ w'.cell? ⟨gb105,5,none⟩ = some (.slice A0_5 l0_5.length c0_5) ∧ w'.cell? ⟨gb105,6,none⟩ = some (.float .f64 a0_6) ∧ w'.cell? ⟨gb106,0,none⟩ = some (.int .i64 a1_0) ∧ w'.cell? ⟨gb106,1,none⟩ = some (.int .i64 a1_1) ∧ w'.cell? ⟨gb106,2,none⟩ = some (.int .i64 a1_2) ∧ w'.cell? ⟨gb106,3,none⟩ = some (.int .i64 a1_3) ∧ w'.cell? ⟨gb106,4,none⟩ = some (.int .i64 a1_4) ∧ w'.cell? ⟨gb106,5,none⟩ = some (.slice A1_5 l1_5.length c1_5) ∧ w'.cell? ⟨gb106,6,none⟩ = some (.float .f64 a1_6)) (ds:=[]) #[ff,ff,ff,ff,ff,ff,ff,ff,ff,ff,ff,ff,ff,ff,ff,ff,ff,ff,ff,ff,ff,ff,ff,ff,ff,ff,ff,ff,ff,ff,ff,ff,ff,ff,ff,ff,ff,ff,ff,ff] (by kernel_rfl) rfl rfl ⟨bc BK105.out 0 rfl,bc BK105.out 1 rfl,bc BK105.out 2 rfl,bc BK105.out 3 rfl,bc BK105.out 4 rfl,bc BK105.out 5 rfl,bc BK105.out 6 rfl,bc BK106.out 0 rfl,bc BK106.out 1 rfl,bc BK106.out 2 rfl,bc BK106.out 3 rfl,bc BK106.out 4 rfl,bc BK106.out 5 rfl,bc BK106.out 6 rfl⟩ (fun hHeld => ?_);refine with_tabW program_Same_2.tab1 program_Same_2.bits1 (fun HT_ HW_ => ?_));(generalize w9.drew = w10 at BK105 BK106 HB hHeld ⊢);(refine pure_ (i:=0) (N:=some 5) (v:=?_) (a':=?_) #[tt,ff,ff,ff,ff,ff,ff,ff,ff,ff,ff,ff,ff,ff,ff,ff,ff,ff,ff,ff,ff,ff,ff,ff,ff,ff,ff,ff,ff,ff,ff,ff,ff,ff,ff,ff,ff,ff,ff,ff] rfl rfl (any_of HT_.out (by kernel_rfl)) (fun _ _ _ h => h) (Or.inl ⟨by rfl,?_⟩) ?_ ?_);rotate_left
   ·intro w';(go_simp);(with_reducible rfl)
   rotate_left
   ·simp only [Act.put,sA,sZ,sS,i64_w,i32_w];(rfl)
   (refine pure_ (i:=2) (N:=some 7) (v:=?_) (a':=?_) #[tt,ff,tt,ff,ff,ff,ff,ff,ff,ff,ff,ff,ff,ff,ff,ff,ff,ff,ff,ff,ff,ff,ff,ff,ff,ff,ff,ff,ff,ff,ff,ff,ff,ff,ff,ff,ff,ff,ff,ff] rfl rfl (any_of HT_.out (by kernel_rfl)) (fun _ _ _ h => h) (Or.inl ⟨by rfl,?_⟩) ?_ ?_);rotate_left
   ·intro w';(go_simp);(with_reducible rfl)
   rotate_left
   ·simp only [Act.put,sA,sZ,sS,i64_w,i32_w];(rfl)
   (refine pure_ (i:=4) (N:=some 9) (v:=?_) (a':=?_) #[tt,ff,tt,ff,tt,ff,ff,ff,ff,ff,ff,ff,ff,ff,ff,ff,ff,ff,ff,ff,ff,ff,ff,ff,ff,ff,ff,ff,ff,ff,ff,ff,ff,ff,ff,ff,ff,ff,ff,ff] rfl rfl (any_of HT_.out (by kernel_rfl)) (fun _ _ _ h => h) (Or.inl ⟨by rfl,?_⟩) ?_ ?_);rotate_left
   ·intro w';(go_simp);(with_reducible rfl)
   rotate_left
   ·simp only [Act.put,sA,sZ,sS,i64_w,i32_w];(rfl)
   (refine pure_ (i:=6) (N:=some 11) (v:=?_) (a':=?_) #[tt,ff,tt,ff,tt,ff,tt,ff,ff,ff,ff,ff,ff,ff,ff,ff,ff,ff,ff,ff,ff,ff,ff,ff,ff,ff,ff,ff,ff,ff,ff,ff,ff,ff,ff,ff,ff,ff,ff,ff] rfl rfl (any_of HT_.out (by kernel_rfl)) (fun _ _ _ h => h) (Or.inl ⟨by rfl,?_⟩) ?_ ?_);rotate_left
   ·intro w';(go_simp);(with_reducible rfl)
   rotate_left
   ·simp only [Act.put,sA,sZ,sS,i64_w,i32_w];(rfl)
   (refine pure_ (i:=8) (N:=some 13) (v:=?_) (a':=?_) #[tt,ff,tt,ff,tt,ff,tt,ff,tt,ff,ff,ff,ff,ff,ff,ff,ff,ff,ff,ff,ff,ff,ff,ff,ff,ff,ff,ff,ff,ff,ff,ff,ff,ff,ff,ff,ff,ff,ff,ff] rfl rfl (any_of HT_.out (by kernel_rfl)) (fun _ _ _ h => h) (Or.inl ⟨by rfl,?_⟩) ?_ ?_);rotate_left
   ·intro w';(go_simp);(with_reducible rfl)
   rotate_left
   ·simp only [Act.put,sA,sZ,sS,i64_w,i32_w];(rfl)
   (refine pure_ (i:=11) (N:=some 16) (v:=?_) (a':=?_) #[tt,ff,tt,ff,tt,ff,tt,ff,tt,ff,ff,tt,ff,ff,ff,ff,ff,ff,ff,ff,ff,ff,ff,ff,ff,ff,ff,ff,ff,ff,ff,ff,ff,ff,ff,ff,ff,ff,ff,ff] rfl rfl (any_of HT_.out (by kernel_rfl)) (fun _ _ _ h => h) (Or.inl ⟨by rfl,?_⟩) ?_ ?_);rotate_left
   ·intro w';(go_simp);(with_reducible rfl)
   rotate_left
   ·simp only [Act.put,sA,sZ,sS,i64_w,i32_w];(rfl)
   (refine pure_ (i:=13) (N:=some 18) (v:=?_) (a':=?_) #[tt,ff,tt,ff,tt,ff,tt,ff,tt,ff,ff,tt,ff,tt,ff,ff,ff,ff,ff,ff,ff,ff,ff,ff,ff,ff,ff,ff,ff,ff,ff,ff,ff,ff,ff,ff,ff,ff,ff,ff] rfl rfl (any_of HT_.out (by kernel_rfl)) (fun _ _ _ h => h) (Or.inl ⟨by rfl,?_⟩) ?_ ?_);rotate_left
   ·intro w';(go_simp);(with_reducible rfl)
   rotate_left
   ·simp only [Act.put,sA,sZ,sS,i64_w,i32_w];(rfl)
   (refine pure_ (i:=15) (N:=some 20) (v:=?_) (a':=?_) #[tt,ff,tt,ff,tt,ff,tt,ff,tt,ff,ff,tt,ff,tt,ff,tt,ff,ff,ff,ff,ff,ff,ff,ff,ff,ff,ff,ff,ff,ff,ff,ff,ff,ff,ff,ff,ff,ff,ff,ff] rfl rfl (any_of HT_.out (by kernel_rfl)) (fun _ _ _ h => h) (Or.inl ⟨by rfl,?_⟩) ?_ ?_);rotate_left
   ·intro w';(go_simp);(with_reducible rfl)
   rotate_left
   ·simp only [Act.put,sA,sZ,sS,i64_w,i32_w];(rfl)
   (refine pure_ (i:=17) (N:=some 22) (v:=?_) (a':=?_) #[tt,ff,tt,ff,tt,ff,tt,ff,tt,ff,ff,tt,ff,tt,ff,tt,ff,tt,ff,ff,ff,ff,ff,ff,ff,ff,ff,ff,ff,ff,ff,ff,ff,ff,ff,ff,ff,ff,ff,ff] rfl rfl (any_of HT_.out (by kernel_rfl)) (fun _ _ _ h => h) (Or.inl ⟨by rfl,?_⟩) ?_ ?_);rotate_left
   ·intro w';(go_simp);(with_reducible rfl)
   rotate_left
   ·simp only [Act.put,sA,sZ,sS,i64_w,i32_w];(rfl)
   (refine pure_ (i:=19) (N:=some 24) (v:=?_) (a':=?_) #[tt,ff,tt,ff,tt,ff,tt,ff,tt,ff,ff,tt,ff,tt,ff,tt,ff,tt,ff,tt,ff,ff,ff,ff,ff,ff,ff,ff,ff,ff,ff,ff,ff,ff,ff,ff,ff,ff,ff,ff] rfl rfl (any_of HT_.out (by kernel_rfl)) (fun _ _ _ h => h) (Or.inl ⟨by rfl,?_⟩) ?_ ?_);rotate_left
   ·intro w';(go_simp);(with_reducible rfl)
   rotate_left
   ·simp only [Act.put,sA,sZ,sS,i64_w,i32_w];(rfl)
   (refine take_ (i:=1) (N:=some 6) (v:=?_) (a':=?_) #[tt,tt,tt,ff,tt,ff,tt,ff,tt,ff,ff,tt,ff,tt,ff,tt,ff,tt,ff,tt,ff,ff,ff,ff,ff,ff,ff,ff,ff,ff,ff,ff,ff,ff,ff,ff,ff,ff,ff,ff] rfl rfl (take_ofW HT_.out HW_.out (by kernel_rfl)) (fun _ _ _ h => h) (Or.inl ⟨by rfl,?_⟩) hHeld ?_ ?_);rotate_left
   ·(rintro w' ⟨s0,s1,s2,s3,s4,s5,s6,s7,s8,s9,s10,s11,s12,s13⟩);(go_simp);(with_reducible rfl)
   rotate_left
   ·simp only [Act.put,sA,sZ,sS,i64_w,i32_w];(rfl)
   (refine take_ (i:=3) (N:=some 8) (v:=?_) (a':=?_) #[tt,tt,tt,tt,tt,ff,tt,ff,tt,ff,ff,tt,ff,tt,ff,tt,ff,tt,ff,tt,ff,ff,ff,ff,ff,ff,ff,ff,ff,ff,ff,ff,ff,ff,ff,ff,ff,ff,ff,ff] rfl rfl (take_ofW HT_.out HW_.out (by kernel_rfl)) (fun _ _ _ h => h) (Or.inl ⟨by rfl,?_⟩) hHeld ?_ ?_);rotate_left
   ·(rintro w' ⟨s0,s1,s2,s3,s4,s5,s6,s7,s8,s9,s10,s11,s12,s13⟩);(go_simp);(with_reducible rfl)
   rotate_left
   ·simp only [Act.put,sA,sZ,sS,i64_w,i32_w];(rfl)
   (refine take_ (i:=5) (N:=some 10) (v:=?_) (a':=?_) #[tt,tt,tt,tt,tt,tt,tt,ff,tt,ff,ff,tt,ff,tt,ff,tt,ff,tt,ff,tt,ff,ff,ff,ff,ff,ff,ff,ff,ff,ff,ff,ff,ff,ff,ff,ff,ff,ff,ff,ff] rfl rfl (take_ofW HT_.out HW_.out (by kernel_rfl)) (fun _ _ _ h => h) (Or.inl ⟨by rfl,?_⟩) hHeld ?_ ?_);rotate_left
   ·(rintro w' ⟨s0,s1,s2,s3,s4,s5,s6,s7,s8,s9,s10,s11,s12,s13⟩);(go_simp);(with_reducible rfl)
   rotate_left
   ·simp only [Act.put,sA,sZ,sS,i64_w,i32_w];(rfl)
   (refine take_ (i:=7) (N:=some 12) (v:=?_) (a':=?_) #[tt,tt,tt,tt,tt,tt,tt,tt,tt,ff,ff,tt,ff,tt,ff,tt,ff,tt,ff,tt,ff,ff,ff,ff,ff,ff,ff,ff,ff,ff,ff,ff,ff,ff,ff,ff,ff,ff,ff,ff] rfl rfl (take_ofW HT_.out HW_.out (by kernel_rfl)) (fun _ _ _ h => h) (Or.inl ⟨by rfl,?_⟩) hHeld ?_ ?_);rotate_left
   ·(rintro w' ⟨s0,s1,s2,s3,s4,s5,s6,s7,s8,s9,s10,s11,s12,s13⟩);(go_simp);(with_reducible rfl)
   rotate_left
   ·simp only [Act.put,sA,sZ,sS,i64_w,i32_w];(rfl)
   (refine take_ (i:=9) (N:=some 14) (v:=?_) (a':=?_) #[tt,tt,tt,tt,tt,tt,tt,tt,tt,tt,ff,tt,ff,tt,ff,tt,ff,tt,ff,tt,ff,ff,ff,ff,ff,ff,ff,ff,ff,ff,ff,ff,ff,ff,ff,ff,ff,ff,ff,ff] rfl rfl (take_ofW HT_.out HW_.out (by kernel_rfl)) (fun _ _ _ h => h) (Or.inl ⟨by rfl,?_⟩) hHeld ?_ ?_);rotate_left
   ·(rintro w' ⟨s0,s1,s2,s3,s4,s5,s6,s7,s8,s9,s10,s11,s12,s13⟩);(go_simp);(with_reducible rfl)
   rotate_left
   ·simp only [Act.put,sA,sZ,sS,i64_w,i32_w];(rfl)
   (refine pure_ (i:=10) (N:=some 15) (v:=?_) (a':=?_) #[tt,tt,tt,tt,tt,tt,tt,tt,tt,tt,tt,tt,ff,tt,ff,tt,ff,tt,ff,tt,ff,ff,ff,ff,ff,ff,ff,ff,ff,ff,ff,ff,ff,ff,ff,ff,ff,ff,ff,ff] rfl rfl (any_of HT_.out (by kernel_rfl)) (fun _ _ _ h => h) (Or.inl ⟨by rfl,?_⟩) ?_ ?_);rotate_left
   ·intro w';(go_simp);(with_reducible rfl)
   rotate_left
   ·simp only [Act.put,sA,sZ,sS,i64_w,i32_w];(rfl)
   (refine take_ (i:=12) (N:=some 17) (v:=?_) (a':=?_) #[tt,tt,tt,tt,tt,tt,tt,tt,tt,tt,tt,tt,tt,tt,ff,tt,ff,tt,ff,tt,ff,ff,ff,ff,ff,ff,ff,ff,ff,ff,ff,ff,ff,ff,ff,ff,ff,ff,ff,ff] rfl rfl (take_ofW HT_.out HW_.out (by kernel_rfl)) (fun _ _ _ h => h) (Or.inl ⟨by rfl,?_⟩) hHeld ?_ ?_);rotate_left
   ·(rintro w' ⟨s0,s1,s2,s3,s4,s5,s6,s7,s8,s9,s10,s11,s12,s13⟩);(go_simp);(with_reducible rfl)
   rotate_left
   ·simp only [Act.put,sA,sZ,sS,i64_w,i32_w];(rfl)
   (refine take_ (i:=14) (N:=some 19) (v:=?_) (a':=?_) #[tt,tt,tt,tt,tt,tt,tt,tt,tt,tt,tt,tt,tt,tt,tt,tt,ff,tt,ff,tt,ff,ff,ff,ff,ff,ff,ff,ff,ff,ff,ff,ff,ff,ff,ff,ff,ff,ff,ff,ff] rfl rfl (take_ofW HT_.out HW_.out (by kernel_rfl)) (fun _ _ _ h => h) (Or.inl ⟨by rfl,?_⟩) hHeld ?_ ?_);rotate_left
   ·(rintro w' ⟨s0,s1,s2,s3,s4,s5,s6,s7,s8,s9,s10,s11,s12,s13⟩);(go_simp);(with_reducible rfl)
   rotate_left
   ·simp only [Act.put,sA,sZ,sS,i64_w,i32_w];(rfl)
   (refine take_ (i:=16) (N:=some 21) (v:=?_) (a':=?_) #[tt,tt,tt,tt,tt,tt,tt,tt,tt,tt,tt,tt,tt,tt,tt,tt,tt,tt,ff,tt,ff,ff,ff,ff,ff,ff,ff,ff,ff,ff,ff,ff,ff,ff,ff,ff,ff,ff,ff,ff] rfl rfl (take_ofW HT_.out HW_.out (by kernel_rfl)) (fun _ _ _ h => h) (Or.inl ⟨by rfl,?_⟩) hHeld ?_ ?_);rotate_left
   ·(rintro w' ⟨s0,s1,s2,s3,s4,s5,s6,s7,s8,s9,s10,s11,s12,s13⟩);(go_simp);(with_reducible rfl)
   rotate_left
   ·simp only [Act.put,sA,sZ,sS,i64_w,i32_w];(rfl)
   (refine take_ (i:=18) (N:=some 23) (v:=?_) (a':=?_) #[tt,tt,tt,tt,tt,tt,tt,tt,tt,tt,tt,tt,tt,tt,tt,tt,tt,tt,tt,tt,ff,ff,ff,ff,ff,ff,ff,ff,ff,ff,ff,ff,ff,ff,ff,ff,ff,ff,ff,ff] rfl rfl (take_ofW HT_.out HW_.out (by kernel_rfl)) (fun _ _ _ h => h) (Or.inl ⟨by rfl,?_⟩) hHeld ?_ ?_);rotate_left
   ·(rintro w' ⟨s0,s1,s2,s3,s4,s5,s6,s7,s8,s9,s10,s11,s12,s13⟩);(go_simp);(with_reducible rfl)
   rotate_left
   ·simp only [Act.put,sA,sZ,sS,i64_w,i32_w];(rfl)
   (refine take_ (i:=20) (N:=some 25) (v:=?_) (a':=?_) #[tt,tt,tt,tt,tt,tt,tt,tt,tt,tt,tt,tt,tt,tt,tt,tt,tt,tt,tt,tt,tt,ff,ff,ff,ff,ff,ff,ff,ff,ff,ff,ff,ff,ff,ff,ff,ff,ff,ff,ff] rfl rfl (take_ofW HT_.out HW_.out (by kernel_rfl)) (fun _ _ _ h => h) (Or.inl ⟨by rfl,?_⟩) hHeld ?_ ?_);rotate_left
   ·(rintro w' ⟨s0,s1,s2,s3,s4,s5,s6,s7,s8,s9,s10,s11,s12,s13⟩);(go_simp);(with_reducible rfl)
   rotate_left
   ·simp only [Act.put,sA,sZ,sS,i64_w,i32_w];(rfl)
   (refine pure_ (i:=21) (N:=some 26) (v:=?_) (a':=?_) #[tt,tt,tt,tt,tt,tt,tt,tt,tt,tt,tt,tt,tt,tt,tt,tt,tt,tt,tt,tt,tt,tt,ff,ff,ff,ff,ff,ff,ff,ff,ff,ff,ff,ff,ff,ff,ff,ff,ff,ff] rfl rfl (any_of HT_.out (by kernel_rfl)) (fun _ _ _ h => h) (Or.inl ⟨by rfl,?_⟩) ?_ ?_);rotate_left
   ·intro w';(go_simp);(with_reducible rfl)
   rotate_left
   ·simp only [Act.put,sA,sZ,sS,i64_w,i32_w];(rfl)
   (refine pure_ (i:=22) (N:=some 27) (v:=?_) (a':=?_) #[tt,tt,tt,tt,tt,tt,tt,tt,tt,tt,tt,tt,tt,tt,tt,tt,tt,tt,tt,tt,tt,tt,tt,ff,ff,ff,ff,ff,ff,ff,ff,ff,ff,ff,ff,ff,ff,ff,ff,ff] rfl rfl (any_of HT_.out (by kernel_rfl)) (fun _ _ _ h => h) (Or.inl ⟨by rfl,?_⟩) ?_ ?_);rotate_left
   ·intro w';(go_simp);(with_reducible rfl)
   rotate_left
   ·simp only [Act.put,sA,sZ,sS,i64_w,i32_w];(rfl)
   (refine pure_ (i:=23) (N:=some 28) (v:=?_) (a':=?_) #[tt,tt,tt,tt,tt,tt,tt,tt,tt,tt,tt,tt,tt,tt,tt,tt,tt,tt,tt,tt,tt,tt,tt,tt,ff,ff,ff,ff,ff,ff,ff,ff,ff,ff,ff,ff,ff,ff,ff,ff] rfl rfl (any_of HT_.out (by kernel_rfl)) (fun _ _ _ h => h) (Or.inl ⟨by rfl,?_⟩) ?_ ?_);rotate_left
   ·intro w';(go_simp);(with_reducible rfl)
   rotate_left
   ·simp only [Act.put,sA,sZ,sS,i64_w,i32_w];(rfl)
   (refine pure_ (i:=24) (N:=some 29) (v:=?_) (a':=?_) #[tt,tt,tt,tt,tt,tt,tt,tt,tt,tt,tt,tt,tt,tt,tt,tt,tt,tt,tt,tt,tt,tt,tt,tt,tt,ff,ff,ff,ff,ff,ff,ff,ff,ff,ff,ff,ff,ff,ff,ff] rfl rfl (any_of HT_.out (by kernel_rfl)) (fun _ _ _ h => h) (Or.inl ⟨by rfl,?_⟩) ?_ ?_);rotate_left
   ·intro w';(go_simp);(with_reducible rfl)
   rotate_left
   ·simp only [Act.put,sA,sZ,sS,i64_w,i32_w];(rfl)
   (refine pure_ (i:=26) (N:=some 31) (v:=?_) (a':=?_) #[tt,tt,tt,tt,tt,tt,tt,tt,tt,tt,tt,tt,tt,tt,tt,tt,tt,tt,tt,tt,tt,tt,tt,tt,tt,ff,tt,ff,ff,ff,ff,ff,ff,ff,ff,ff,ff,ff,ff,ff] rfl rfl (any_of HT_.out (by kernel_rfl)) (fun _ _ _ h => h) (Or.inl ⟨by rfl,?_⟩) ?_ ?_);rotate_left
   ·intro w';(go_simp);(with_reducible rfl)
   rotate_left
   ·simp only [Act.put,sA,sZ,sS,i64_w,i32_w];(rfl)
   (refine take_ (i:=25) (N:=some 30) (v:=?_) (a':=?_) #[tt,tt,tt,tt,tt,tt,tt,tt,tt,tt,tt,tt,tt,tt,tt,tt,tt,tt,tt,tt,tt,tt,tt,tt,tt,tt,tt,ff,ff,ff,ff,ff,ff,ff,ff,ff,ff,ff,ff,ff] rfl rfl (take_ofW HT_.out HW_.out (by kernel_rfl)) (fun _ _ _ h => h) (Or.inl ⟨by rfl,?_⟩) hHeld ?_ ?_);rotate_left
   ·(rintro w' ⟨s0,s1,s2,s3,s4,s5,s6,s7,s8,s9,s10,s11,s12,s13⟩);(go_simp);(with_reducible rfl)
   rotate_left
   ·simp only [Act.put,sA,sZ,sS,i64_w,i32_w];(rfl)
   (refine take_ (i:=27) (N:=some 32) (v:=?_) (a':=?_) #[tt,tt,tt,tt,tt,tt,tt,tt,tt,tt,tt,tt,tt,tt,tt,tt,tt,tt,tt,tt,tt,tt,tt,tt,tt,tt,tt,tt,ff,ff,ff,ff,ff,ff,ff,ff,ff,ff,ff,ff] rfl rfl (take_ofW HT_.out HW_.out (by kernel_rfl)) (fun _ _ _ h => h) (Or.inl ⟨by rfl,?_⟩) hHeld ?_ ?_);rotate_left
   ·(rintro w' ⟨s0,s1,s2,s3,s4,s5,s6,s7,s8,s9,s10,s11,s12,s13⟩);(go_simp);(with_reducible rfl)
   rotate_left
   ·simp only [Act.put,sA,sZ,sS,i64_w,i32_w];(rfl)
   (refine one_ (i:=28) (N:=some 33) #[tt,tt,tt,tt,tt,tt,tt,tt,tt,tt,tt,tt,tt,tt,tt,tt,tt,tt,tt,tt,tt,tt,tt,tt,tt,tt,tt,tt,tt,ff,ff,ff,ff,ff,ff,ff,ff,ff,ff,ff] rfl rfl (one_of HT_.out (by kernel_rfl)) (by decide) (fun K hK => ?_));(refine goes_ Try.func36 (by kernel_rfl) rfl #[.slice A0_5 l0_5.length c0_5,.slice A1_5 l1_5.length c1_5] (by rfl) rfl rfl (by (try simp only [List.map_toArray,List.map_cons,List.map_nil]);first | done | rfl | (simp only [List.length_drop,List.length_take];rfl)) ?_);(with_reducible refine (slices_Equal_int_int.calls k _ _ l0_5 _ _ l1_5 true _ ?side1 ?side2 ?side3 ?side4 A4.out).mono ?_);(case side1 => exact cu (Kd.C_below HR0_5.out HB.out));(case side2 => exact HC0_5.out);(case side3 => exact cu (Kd.C_below HR1_5.out HB.out));(case side4 => exact HC1_5.out);(rintro e w' ⟨rfl,⟨nd,rfl⟩⟩);(refine ⟨_,rfl,?_⟩);(refine hK.out _ _ ⟨bc BK105.out 0 rfl,bc BK105.out 1 rfl,bc BK105.out 2 rfl,bc BK105.out 3 rfl,bc BK105.out 4 rfl,bc BK105.out 5 rfl,bc BK105.out 6 rfl,bc BK106.out 0 rfl,bc BK106.out 1 rfl,bc BK106.out 2 rfl,bc BK106.out 3 rfl,bc BK106.out 4 rfl,bc BK106.out 5 rfl,bc BK106.out 6 rfl⟩ (fun hHeld => ?_));clear hK K;(refine norm_ (a':=?_) ?_ ?_);rotate_left
   ·(show Act.put _ (some 33) _ = _);simp only [Act.put,sA,sZ,sS,i64_w,i32_w];(rfl)
   (refine pure_ (i:=29) (N:=some 34) (v:=?_) (a':=?_) #[tt,tt,tt,tt,tt,tt,tt,tt,tt,tt,tt,tt,tt,tt,tt,tt,tt,tt,tt,tt,tt,tt,tt,tt,tt,tt,tt,tt,tt,tt,ff,ff,ff,ff,ff,ff,ff,ff,ff,ff] rfl rfl (any_of HT_.out (by kernel_rfl)) (fun _ _ _ h => h) (Or.inl ⟨by rfl,?_⟩) ?_ ?_);rotate_left
   ·intro w';(go_simp);(with_reducible rfl)
   rotate_left
   ·simp only [Act.put,sA,sZ,sS,i64_w,i32_w];(rfl)
   (refine pure_ (i:=30) (N:=some 35) (v:=?_) (a':=?_) #[tt,tt,tt,tt,tt,tt,tt,tt,tt,tt,tt,tt,tt,tt,tt,tt,tt,tt,tt,tt,tt,tt,tt,tt,tt,tt,tt,tt,tt,tt,tt,ff,ff,ff,ff,ff,ff,ff,ff,ff] rfl rfl (any_of HT_.out (by kernel_rfl)) (fun _ _ _ h => h) (Or.inl ⟨by rfl,?_⟩) ?_ ?_);rotate_left
   ·intro w';(go_simp);(with_reducible rfl)
   rotate_left
   ·simp only [Act.put,sA,sZ,sS,i64_w,i32_w];(rfl)
   (refine pure_ (i:=31) (N:=some 36) (v:=?_) (a':=?_) #[tt,tt,tt,tt,tt,tt,tt,tt,tt,tt,tt,tt,tt,tt,tt,tt,tt,tt,tt,tt,tt,tt,tt,tt,tt,tt,tt,tt,tt,tt,tt,tt,ff,ff,ff,ff,ff,ff,ff,ff] rfl rfl (any_of HT_.out (by kernel_rfl)) (fun _ _ _ h => h) (Or.inl ⟨by rfl,?_⟩) ?_ ?_);rotate_left
   ·intro w';(go_simp);(with_reducible rfl)
   rotate_left
   ·simp only [Act.put,sA,sZ,sS,i64_w,i32_w];(rfl)
   (refine pure_ (i:=34) (N:=some 39) (v:=?_) (a':=?_) #[tt,tt,tt,tt,tt,tt,tt,tt,tt,tt,tt,tt,tt,tt,tt,tt,tt,tt,tt,tt,tt,tt,tt,tt,tt,tt,tt,tt,tt,tt,tt,tt,ff,ff,tt,ff,ff,ff,ff,ff] rfl rfl (any_of HT_.out (by kernel_rfl)) (fun _ _ _ h => h) (Or.inl ⟨by rfl,?_⟩) ?_ ?_);rotate_left
   ·intro w';(go_simp);(with_reducible rfl)
   rotate_left
   ·simp only [Act.put,sA,sZ,sS,i64_w,i32_w];(rfl)
   (refine take_ (i:=32) (N:=some 37) (v:=?_) (a':=?_) #[tt,tt,tt,tt,tt,tt,tt,tt,tt,tt,tt,tt,tt,tt,tt,tt,tt,tt,tt,tt,tt,tt,tt,tt,tt,tt,tt,tt,tt,tt,tt,tt,tt,ff,tt,ff,ff,ff,ff,ff] rfl rfl (take_ofW HT_.out HW_.out (by kernel_rfl)) (fun _ _ _ h => h) (Or.inl ⟨by rfl,?_⟩) hHeld ?_ ?_);rotate_left
   ·(rintro w' ⟨s0,s1,s2,s3,s4,s5,s6,s7,s8,s9,s10,s11,s12,s13⟩);(go_simp);(with_reducible rfl)
   rotate_left
   ·simp only [Act.put,sA,sZ,sS,i64_w,i32_w];(rfl)
   (refine take_ (i:=35) (N:=some 40) (v:=?_) (a':=?_) #[tt,tt,tt,tt,tt,tt,tt,tt,tt,tt,tt,tt,tt,tt,tt,tt,tt,tt,tt,tt,tt,tt,tt,tt,tt,tt,tt,tt,tt,tt,tt,tt,tt,ff,tt,tt,ff,ff,ff,ff] rfl rfl (take_ofW HT_.out HW_.out (by kernel_rfl)) (fun _ _ _ h => h) (Or.inl ⟨by rfl,?_⟩) hHeld ?_ ?_);rotate_left
   ·(rintro w' ⟨s0,s1,s2,s3,s4,s5,s6,s7,s8,s9,s10,s11,s12,s13⟩);(go_simp);(with_reducible rfl)
   rotate_left
   ·simp only [Act.put,sA,sZ,sS,i64_w,i32_w];(rfl)
   (refine one_ (i:=33) (N:=some 38) #[tt,tt,tt,tt,tt,tt,tt,tt,tt,tt,tt,tt,tt,tt,tt,tt,tt,tt,tt,tt,tt,tt,tt,tt,tt,tt,tt,tt,tt,tt,tt,tt,tt,tt,tt,tt,ff,ff,ff,ff] rfl rfl (one_of HT_.out (by kernel_rfl)) (by decide) (fun K hK => ?_));(refine goes_ Try.func39 (by kernel_rfl) rfl #[.float .f64 a0_6] (by rfl) rfl rfl (by (try simp only [List.map_toArray,List.map_cons,List.map_nil]);first | done | rfl | (simp only [List.length_drop,List.length_take];rfl)) ?_);(with_reducible refine (heat_Bits.calls a0_6 t108 _ A6.out).mono ?_);(rintro e w' ⟨rfl,⟨nd,rfl⟩⟩);(refine ⟨_,rfl,?_⟩);(refine hK.out _ _ ⟨bc BK105.out 0 rfl,bc BK105.out 1 rfl,bc BK105.out 2 rfl,bc BK105.out 3 rfl,bc BK105.out 4 rfl,bc BK105.out 5 rfl,bc BK105.out 6 rfl,bc BK106.out 0 rfl,bc BK106.out 1 rfl,bc BK106.out 2 rfl,bc BK106.out 3 rfl,bc BK106.out 4 rfl,bc BK106.out 5 rfl,bc BK106.out 6 rfl⟩ (fun hHeld => ?_));clear hK K;(refine norm_ (a':=?_) ?_ ?_);rotate_left
   ·(show Act.put _ (some 38) _ = _);simp only [Act.put,sA,sZ,sS,i64_w,i32_w];(rfl)
   (refine one_ (i:=36) (N:=some 41) #[tt,tt,tt,tt,tt,tt,tt,tt,tt,tt,tt,tt,tt,tt,tt,tt,tt,tt,tt,tt,tt,tt,tt,tt,tt,tt,tt,tt,tt,tt,tt,tt,tt,tt,tt,tt,tt,ff,ff,ff] rfl rfl (one_of HT_.out (by kernel_rfl)) (by decide) (fun K hK => ?_));(refine goes_ Try.func39 (by kernel_rfl) rfl #[.float .f64 a1_6] (by rfl) rfl rfl (by (try simp only [List.map_toArray,List.map_cons,List.map_nil]);first | done | rfl | (simp only [List.length_drop,List.length_take];rfl)) ?_);(with_reducible refine (heat_Bits.calls a1_6 t109 _ A7.out).mono ?_);(rintro e w' ⟨rfl,⟨nd,rfl⟩⟩);(refine ⟨_,rfl,?_⟩);(refine hK.out _ _ ⟨bc BK105.out 0 rfl,bc BK105.out 1 rfl,bc BK105.out 2 rfl,bc BK105.out 3 rfl,bc BK105.out 4 rfl,bc BK105.out 5 rfl,bc BK105.out 6 rfl,bc BK106.out 0 rfl,bc BK106.out 1 rfl,bc BK106.out 2 rfl,bc BK106.out 3 rfl,bc BK106.out 4 rfl,bc BK106.out 5 rfl,bc BK106.out 6 rfl⟩ (fun hHeld => ?_));clear hK K;(refine norm_ (a':=?_) ?_ ?_);rotate_left
   ·(show Act.put _ (some 41) _ = _);simp only [Act.put,sA,sZ,sS,i64_w,i32_w];(rfl)
   (refine pure_ (i:=37) (N:=some 42) (v:=?_) (a':=?_) #[tt,tt,tt,tt,tt,tt,tt,tt,tt,tt,tt,tt,tt,tt,tt,tt,tt,tt,tt,tt,tt,tt,tt,tt,tt,tt,tt,tt,tt,tt,tt,tt,tt,tt,tt,tt,tt,tt,ff,ff] rfl rfl (any_of HT_.out (by kernel_rfl)) (fun _ _ _ h => h) (Or.inl ⟨by rfl,?_⟩) ?_ ?_);rotate_left
   ·intro w';(go_simp);(with_reducible rfl)
   rotate_left
   ·simp only [Act.put,sA,sZ,sS,i64_w,i32_w];(rfl)
   (refine pure_ (i:=38) (N:=some 43) (v:=?_) (a':=?_) #[tt,tt,tt,tt,tt,tt,tt,tt,tt,tt,tt,tt,tt,tt,tt,tt,tt,tt,tt,tt,tt,tt,tt,tt,tt,tt,tt,tt,tt,tt,tt,tt,tt,tt,tt,tt,tt,tt,tt,ff] rfl rfl (any_of HT_.out (by kernel_rfl)) (fun _ _ _ h => h) (Or.inl ⟨by rfl,?_⟩) ?_ ?_);rotate_left
   ·intro w';(go_simp);(with_reducible rfl)
   rotate_left
   ·simp only [Act.put,sA,sZ,sS,i64_w,i32_w];(rfl)
   (refine pure_ (i:=39) (N:=some 4) (v:=?_) (a':=?_) #[tt,tt,tt,tt,tt,tt,tt,tt,tt,tt,tt,tt,tt,tt,tt,tt,tt,tt,tt,tt,tt,tt,tt,tt,tt,tt,tt,tt,tt,tt,tt,tt,tt,tt,tt,tt,tt,tt,tt,tt] rfl rfl (any_of HT_.out (by kernel_rfl)) (fun _ _ _ h => h) (Or.inl ⟨by rfl,?_⟩) ?_ ?_);rotate_left
   ·intro w';(go_simp);(with_reducible rfl)
   rotate_left
   ·simp only [Act.put,sA,sZ,sS,i64_w,i32_w];(rfl)
   (refine done_ (done_of HT_.out (by kernel_rfl)) ?_);(try go_wp2);(go_ret);(exact ⟨by first | rfl | (simp [errW_none,errW_some] <;> rfl) | (simp [*,errW_none,errW_some] <;> rfl),lo HB.out⟩)
  ·replace c5:=Bool.eq_false_iff.mpr c5;subst c5;(have H1 : (some false) = some r:=by rw [if_neg (show ¬ (false = true) by decide)] at H;exact H);clear H;have H:=H1;clear H1;obtain rfl:=Option.some.inj H;(go_enter Try.func38,Try.ntmps38);(try go_wp2_with (first | ((with_reducible refine gate_dst (N:=2) rfl ?_);refine box_event ?hg (N:=2) ?hd (cs:=#[.int .i64 a0_0,.int .i64 a0_1,.int .i64 a0_2,.int .i64 a0_3,.int .i64 a0_4,.slice A0_5 l0_5.length c0_5,.float .f64 a0_6]) (t:=42) ?hr ?_;(case hd => rfl);(case hg => rfl);(case hr => first | (go_simp;done) | (go_simp;rfl));intro gb105 hg w11 hbox hb;have BK105:=am (hbox);(have GW105:=am ((by rw [hg];exact (below_size (lo HB.out)) : w.heap.size ≤ gb105)));have GE105:GEc _ _:=⟨((by rw [hg];exact (below_size (lo HB.out)) : w.heap.size ≤ gb105))⟩;replace HB:=am (below_step (lo HB.out) hb);clear hb hbox hg) | ((with_reducible refine gate_dst (N:=3) rfl ?_);refine box_event ?hg (N:=3) ?hd (cs:=#[.int .i64 a1_0,.int .i64 a1_1,.int .i64 a1_2,.int .i64 a1_3,.int .i64 a1_4,.slice A1_5 l1_5.length c1_5,.float .f64 a1_6]) (t:=42) ?hr ?_;(case hd => rfl);(case hg => rfl);(case hr => first | (go_simp;done) | (go_simp;rfl));intro gb106 hg w12 hbox hb;have BK106:=am (hbox);(have GW106:=am ((by rw [hg];exact (below_size (lo HB.out)) : w.heap.size ≤ gb106)));have GE106:GEc _ _:=⟨((by rw [hg];exact (below_size (lo HB.out)) : w.heap.size ≤ gb106))⟩;replace HB:=am (below_step (lo HB.out) hb);(have NB105_106:=am ((by rw [hg];exact Nat.ne_of_lt (blk_lt (g:=gb105) (o:=.cells #[.int .i64 a0_0,.int .i64 a0_1,.int .i64 a0_2,.int .i64 a0_3,.int .i64 a0_4,.slice A0_5 l0_5.length c0_5,.float .f64 a0_6] 42 (0,0)) (bu BK105.out)) : gb105 ≠ gb106)));(have NB106_105:=am ((by rw [hg];exact Nat.ne_of_gt (blk_lt (g:=gb105) (o:=.cells #[.int .i64 a0_0,.int .i64 a0_1,.int .i64 a0_2,.int .i64 a0_3,.int .i64 a0_4,.slice A0_5 l0_5.length c0_5,.float .f64 a0_6] 42 (0,0)) (bu BK105.out)) : gb106 ≠ gb105)));replace BK105:=am (blk_below (bu BK105.out) hb);clear hb hbox hg)));replace BK105:=am (blk_drew BK105.out);replace BK106:=am (blk_drew BK106.out);replace HB:=am (below_drew1 HB.out);(refine start_ (n:=40) (S:=fun w' => w'.cell? ⟨gb105,0,none⟩ = some (.int .i64 a0_0) ∧ w'.cell? ⟨gb105,1,none⟩ = some (.int .i64 a0_1) ∧ w'.cell? ⟨gb105,2,none⟩ = some (.int .i64 a0_2) ∧ w'.cell? ⟨gb105,3,none⟩ = some (.int .i64 a0_3) ∧ w'.cell? ⟨gb105,4,none⟩ = some (.int .i64 a0_4) ∧ w'.cell? ⟨gb105,5,none⟩ = some (.slice A0_5 l0_5.length c0_5) ∧ w'.cell? ⟨gb105,6,none⟩ = some (.float .f64 a0_6) ∧ w'.cell? ⟨gb106,0,none⟩ = some (.int .i64 a1_0) ∧ w'.cell? ⟨gb106,1,none⟩ = some (.int .i64 a1_1) ∧ w'.cell? ⟨gb106,2,none⟩ = some (.int .i64 a1_2) ∧ w'.cell? ⟨gb106,3,none⟩ = some (.int .i64 a1_3) ∧ w'.cell? ⟨gb106,4,none⟩ = some (.int .i64 a1_4) ∧ w'.cell? ⟨gb106,5,none⟩ = some (.slice A1_5 l1_5.length c1_5) ∧ w'.cell? ⟨gb106,6,none⟩ = some (.float .f64 a1_6)) (ds:=[]) #[ff,ff,ff,ff,ff,ff,ff,ff,ff,ff,ff,ff,ff,ff,ff,ff,ff,ff,ff,ff,ff,ff,ff,ff,ff,ff,ff,ff,ff,ff,ff,ff,ff,ff,ff,ff,ff,ff,ff,ff] (by kernel_rfl) rfl rfl ⟨bc BK105.out 0 rfl,bc BK105.out 1 rfl,bc BK105.out 2 rfl,bc BK105.out 3 rfl,bc BK105.out 4 rfl,bc BK105.out 5 rfl,bc BK105.out 6 rfl,bc BK106.out 0 rfl,bc BK106.out 1 rfl,bc BK106.out 2 rfl,bc BK106.out 3 rfl,bc BK106.out 4 rfl,bc BK106.out 5 rfl,bc BK106.out 6 rfl⟩ (fun hHeld => ?_);refine with_tabW program_Same_2.tab1 program_Same_2.bits1 (fun HT_ HW_ => ?_));(generalize w12.drew = w13 at BK105 BK106 HB hHeld ⊢);(refine pure_ (i:=0) (N:=some 5) (v:=?_) (a':=?_) #[tt,ff,ff,ff,ff,ff,ff,ff,ff,ff,ff,ff,ff,ff,ff,ff,ff,ff,ff,ff,ff,ff,ff,ff,ff,ff,ff,ff,ff,ff,ff,ff,ff,ff,ff,ff,ff,ff,ff,ff] rfl rfl (any_of HT_.out (by kernel_rfl)) (fun _ _ _ h => h) (Or.inl ⟨by rfl,?_⟩) ?_ ?_);rotate_left
   ·intro w';(go_simp);(with_reducible rfl)
   rotate_left
   ·simp only [Act.put,sA,sZ,sS,i64_w,i32_w];(rfl)
   (refine pure_ (i:=2) (N:=some 7) (v:=?_) (a':=?_) #[tt,ff,tt,ff,ff,ff,ff,ff,ff,ff,ff,ff,ff,ff,ff,ff,ff,ff,ff,ff,ff,ff,ff,ff,ff,ff,ff,ff,ff,ff,ff,ff,ff,ff,ff,ff,ff,ff,ff,ff] rfl rfl (any_of HT_.out (by kernel_rfl)) (fun _ _ _ h => h) (Or.inl ⟨by rfl,?_⟩) ?_ ?_);rotate_left
   ·intro w';(go_simp);(with_reducible rfl)
   rotate_left
   ·simp only [Act.put,sA,sZ,sS,i64_w,i32_w];(rfl)
   (refine pure_ (i:=4) (N:=some 9) (v:=?_) (a':=?_) #[tt,ff,tt,ff,tt,ff,ff,ff,ff,ff,ff,ff,ff,ff,ff,ff,ff,ff,ff,ff,ff,ff,ff,ff,ff,ff,ff,ff,ff,ff,ff,ff,ff,ff,ff,ff,ff,ff,ff,ff] rfl rfl (any_of HT_.out (by kernel_rfl)) (fun _ _ _ h => h) (Or.inl ⟨by rfl,?_⟩) ?_ ?_);rotate_left
   ·intro w';(go_simp);(with_reducible rfl)
   rotate_left
   ·simp only [Act.put,sA,sZ,sS,i64_w,i32_w];(rfl)
   (refine pure_ (i:=6) (N:=some 11) (v:=?_) (a':=?_) #[tt,ff,tt,ff,tt,ff,tt,ff,ff,ff,ff,ff,ff,ff,ff,ff,ff,ff,ff,ff,ff,ff,ff,ff,ff,ff,ff,ff,ff,ff,ff,ff,ff,ff,ff,ff,ff,ff,ff,ff] rfl rfl (any_of HT_.out (by kernel_rfl)) (fun _ _ _ h => h) (Or.inl ⟨by rfl,?_⟩) ?_ ?_);rotate_left
   ·intro w';(go_simp);(with_reducible rfl)
   rotate_left
   ·simp only [Act.put,sA,sZ,sS,i64_w,i32_w];(rfl)
   (refine pure_ (i:=8) (N:=some 13) (v:=?_) (a':=?_) #[tt,ff,tt,ff,tt,ff,tt,ff,tt,ff,ff,ff,ff,ff,ff,ff,ff,ff,ff,ff,ff,ff,ff,ff,ff,ff,ff,ff,ff,ff,ff,ff,ff,ff,ff,ff,ff,ff,ff,ff] rfl rfl (any_of HT_.out (by kernel_rfl)) (fun _ _ _ h => h) (Or.inl ⟨by rfl,?_⟩) ?_ ?_);rotate_left
   ·intro w';(go_simp);(with_reducible rfl)
   rotate_left
   ·simp only [Act.put,sA,sZ,sS,i64_w,i32_w];(rfl)
   (refine pure_ (i:=11) (N:=some 16) (v:=?_) (a':=?_) #[tt,ff,tt,ff,tt,ff,tt,ff,tt,ff,ff,tt,ff,ff,ff,ff,ff,ff,ff,ff,ff,ff,ff,ff,ff,ff,ff,ff,ff,ff,ff,ff,ff,ff,ff,ff,ff,ff,ff,ff] rfl rfl (any_of HT_.out (by kernel_rfl)) (fun _ _ _ h => h) (Or.inl ⟨by rfl,?_⟩) ?_ ?_);rotate_left
   ·intro w';(go_simp);(with_reducible rfl)
   rotate_left
   ·simp only [Act.put,sA,sZ,sS,i64_w,i32_w];(rfl)
   (refine pure_ (i:=13) (N:=some 18) (v:=?_) (a':=?_) #[tt,ff,tt,ff,tt,ff,tt,ff,tt,ff,ff,tt,ff,tt,ff,ff,ff,ff,ff,ff,ff,ff,ff,ff,ff,ff,ff,ff,ff,ff,ff,ff,ff,ff,ff,ff,ff,ff,ff,ff] rfl rfl (any_of HT_.out (by kernel_rfl)) (fun _ _ _ h => h) (Or.inl ⟨by rfl,?_⟩) ?_ ?_);rotate_left
   ·intro w';(go_simp);(with_reducible rfl)
   rotate_left
   ·simp only [Act.put,sA,sZ,sS,i64_w,i32_w];(rfl)
   (refine pure_ (i:=15) (N:=some 20) (v:=?_) (a':=?_) #[tt,ff,tt,ff,tt,ff,tt,ff,tt,ff,ff,tt,ff,tt,ff,tt,ff,ff,ff,ff,ff,ff,ff,ff,ff,ff,ff,ff,ff,ff,ff,ff,ff,ff,ff,ff,ff,ff,ff,ff] rfl rfl (any_of HT_.out (by kernel_rfl)) (fun _ _ _ h => h) (Or.inl ⟨by rfl,?_⟩) ?_ ?_);rotate_left
   ·intro w';(go_simp);(with_reducible rfl)
   rotate_left
   ·simp only [Act.put,sA,sZ,sS,i64_w,i32_w];(rfl)
   (refine pure_ (i:=17) (N:=some 22) (v:=?_) (a':=?_) #[tt,ff,tt,ff,tt,ff,tt,ff,tt,ff,ff,tt,ff,tt,ff,tt,ff,tt,ff,ff,ff,ff,ff,ff,ff,ff,ff,ff,ff,ff,ff,ff,ff,ff,ff,ff,ff,ff,ff,ff] rfl rfl (any_of HT_.out (by kernel_rfl)) (fun _ _ _ h => h) (Or.inl ⟨by rfl,?_⟩) ?_ ?_);rotate_left
   ·intro w';(go_simp);(with_reducible rfl)
   rotate_left
   ·simp only [Act.put,sA,sZ,sS,i64_w,i32_w];(rfl)
   (refine pure_ (i:=19) (N:=some 24) (v:=?_) (a':=?_) #[tt,ff,tt,ff,tt,ff,tt,ff,tt,ff,ff,tt,ff,tt,ff,tt,ff,tt,ff,tt,ff,ff,ff,ff,ff,ff,ff,ff,ff,ff,ff,ff,ff,ff,ff,ff,ff,ff,ff,ff] rfl rfl (any_of HT_.out (by kernel_rfl)) (fun _ _ _ h => h) (Or.inl ⟨by rfl,?_⟩) ?_ ?_);rotate_left
   ·intro w';(go_simp);(with_reducible rfl)
   rotate_left
   ·simp only [Act.put,sA,sZ,sS,i64_w,i32_w];(rfl)
   (refine take_ (i:=1) (N:=some 6) (v:=?_) (a':=?_) #[tt,tt,tt,ff,tt,ff,tt,ff,tt,ff,ff,tt,ff,tt,ff,tt,ff,tt,ff,tt,ff,ff,ff,ff,ff,ff,ff,ff,ff,ff,ff,ff,ff,ff,ff,ff,ff,ff,ff,ff] rfl rfl (take_ofW HT_.out HW_.out (by kernel_rfl)) (fun _ _ _ h => h) (Or.inl ⟨by rfl,?_⟩) hHeld ?_ ?_);rotate_left
   ·(rintro w' ⟨s0,s1,s2,s3,s4,s5,s6,s7,s8,s9,s10,s11,s12,s13⟩);(go_simp);(with_reducible rfl)
   rotate_left
   ·simp only [Act.put,sA,sZ,sS,i64_w,i32_w];(rfl)
   (refine take_ (i:=3) (N:=some 8) (v:=?_) (a':=?_) #[tt,tt,tt,tt,tt,ff,tt,ff,tt,ff,ff,tt,ff,tt,ff,tt,ff,tt,ff,tt,ff,ff,ff,ff,ff,ff,ff,ff,ff,ff,ff,ff,ff,ff,ff,ff,ff,ff,ff,ff] rfl rfl (take_ofW HT_.out HW_.out (by kernel_rfl)) (fun _ _ _ h => h) (Or.inl ⟨by rfl,?_⟩) hHeld ?_ ?_);rotate_left
   ·(rintro w' ⟨s0,s1,s2,s3,s4,s5,s6,s7,s8,s9,s10,s11,s12,s13⟩);(go_simp);(with_reducible rfl)
   rotate_left
   ·simp only [Act.put,sA,sZ,sS,i64_w,i32_w];(rfl)
   (refine take_ (i:=5) (N:=some 10) (v:=?_) (a':=?_) #[tt,tt,tt,tt,tt,tt,tt,ff,tt,ff,ff,tt,ff,tt,ff,tt,ff,tt,ff,tt,ff,ff,ff,ff,ff,ff,ff,ff,ff,ff,ff,ff,ff,ff,ff,ff,ff,ff,ff,ff] rfl rfl (take_ofW HT_.out HW_.out (by kernel_rfl)) (fun _ _ _ h => h) (Or.inl ⟨by rfl,?_⟩) hHeld ?_ ?_);rotate_left
   ·(rintro w' ⟨s0,s1,s2,s3,s4,s5,s6,s7,s8,s9,s10,s11,s12,s13⟩);(go_simp);(with_reducible rfl)
   rotate_left
   ·simp only [Act.put,sA,sZ,sS,i64_w,i32_w];(rfl)
   (refine take_ (i:=7) (N:=some 12) (v:=?_) (a':=?_) #[tt,tt,tt,tt,tt,tt,tt,tt,tt,ff,ff,tt,ff,tt,ff,tt,ff,tt,ff,tt,ff,ff,ff,ff,ff,ff,ff,ff,ff,ff,ff,ff,ff,ff,ff,ff,ff,ff,ff,ff] rfl rfl (take_ofW HT_.out HW_.out (by kernel_rfl)) (fun _ _ _ h => h) (Or.inl ⟨by rfl,?_⟩) hHeld ?_ ?_);rotate_left
   ·(rintro w' ⟨s0,s1,s2,s3,s4,s5,s6,s7,s8,s9,s10,s11,s12,s13⟩);(go_simp);(with_reducible rfl)
   rotate_left
   ·simp only [Act.put,sA,sZ,sS,i64_w,i32_w];(rfl)
   (refine take_ (i:=9) (N:=some 14) (v:=?_) (a':=?_) #[tt,tt,tt,tt,tt,tt,tt,tt,tt,tt,ff,tt,ff,tt,ff,tt,ff,tt,ff,tt,ff,ff,ff,ff,ff,ff,ff,ff,ff,ff,ff,ff,ff,ff,ff,ff,ff,ff,ff,ff] rfl rfl (take_ofW HT_.out HW_.out (by kernel_rfl)) (fun _ _ _ h => h) (Or.inl ⟨by rfl,?_⟩) hHeld ?_ ?_);rotate_left
   ·(rintro w' ⟨s0,s1,s2,s3,s4,s5,s6,s7,s8,s9,s10,s11,s12,s13⟩);(go_simp);(with_reducible rfl)
   rotate_left
   ·simp only [Act.put,sA,sZ,sS,i64_w,i32_w];(rfl)
   (refine pure_ (i:=10) (N:=some 15) (v:=?_) (a':=?_) #[tt,tt,tt,tt,tt,tt,tt,tt,tt,tt,tt,tt,ff,tt,ff,tt,ff,tt,ff,tt,ff,ff,ff,ff,ff,ff,ff,ff,ff,ff,ff,ff,ff,ff,ff,ff,ff,ff,ff,ff] rfl rfl (any_of HT_.out (by kernel_rfl)) (fun _ _ _ h => h) (Or.inl ⟨by rfl,?_⟩) ?_ ?_);rotate_left
   ·intro w';(go_simp);(with_reducible rfl)
   rotate_left
   ·simp only [Act.put,sA,sZ,sS,i64_w,i32_w];(rfl)
   (refine take_ (i:=12) (N:=some 17) (v:=?_) (a':=?_) #[tt,tt,tt,tt,tt,tt,tt,tt,tt,tt,tt,tt,tt,tt,ff,tt,ff,tt,ff,tt,ff,ff,ff,ff,ff,ff,ff,ff,ff,ff,ff,ff,ff,ff,ff,ff,ff,ff,ff,ff] rfl rfl (take_ofW HT_.out HW_.out (by kernel_rfl)) (fun _ _ _ h => h) (Or.inl ⟨by rfl,?_⟩) hHeld ?_ ?_);rotate_left
   ·(rintro w' ⟨s0,s1,s2,s3,s4,s5,s6,s7,s8,s9,s10,s11,s12,s13⟩);(go_simp);(with_reducible rfl)
   rotate_left
   ·simp only [Act.put,sA,sZ,sS,i64_w,i32_w];(rfl)
   (refine take_ (i:=14) (N:=some 19) (v:=?_) (a':=?_) #[tt,tt,tt,tt,tt,tt,tt,tt,tt,tt,tt,tt,tt,tt,tt,tt,ff,tt,ff,tt,ff,ff,ff,ff,ff,ff,ff,ff,ff,ff,ff,ff,ff,ff,ff,ff,ff,ff,ff,ff] rfl rfl (take_ofW HT_.out HW_.out (by kernel_rfl)) (fun _ _ _ h => h) (Or.inl ⟨by rfl,?_⟩) hHeld ?_ ?_);rotate_left
   ·(rintro w' ⟨s0,s1,s2,s3,s4,s5,s6,s7,s8,s9,s10,s11,s12,s13⟩);(go_simp);(with_reducible rfl)
   rotate_left
   ·simp only [Act.put,sA,sZ,sS,i64_w,i32_w];(rfl)
   (refine take_ (i:=16) (N:=some 21) (v:=?_) (a':=?_) #[tt,tt,tt,tt,tt,tt,tt,tt,tt,tt,tt,tt,tt,tt,tt,tt,tt,tt,ff,tt,ff,ff,ff,ff,ff,ff,ff,ff,ff,ff,ff,ff,ff,ff,ff,ff,ff,ff,ff,ff] rfl rfl (take_ofW HT_.out HW_.out (by kernel_rfl)) (fun _ _ _ h => h) (Or.inl ⟨by rfl,?_⟩) hHeld ?_ ?_);rotate_left
   ·(rintro w' ⟨s0,s1,s2,s3,s4,s5,s6,s7,s8,s9,s10,s11,s12,s13⟩);(go_simp);(with_reducible rfl)
   rotate_left
   ·simp only [Act.put,sA,sZ,sS,i64_w,i32_w];(rfl)
   (refine take_ (i:=18) (N:=some 23) (v:=?_) (a':=?_) #[tt,tt,tt,tt,tt,tt,tt,tt,tt,tt,tt,tt,tt,tt,tt,tt,tt,tt,tt,tt,ff,ff,ff,ff,ff,ff,ff,ff,ff,ff,ff,ff,ff,ff,ff,ff,ff,ff,ff,ff] rfl rfl (take_ofW HT_.out HW_.out (by kernel_rfl)) (fun _ _ _ h => h) (Or.inl ⟨by rfl,?_⟩) hHeld ?_ ?_);rotate_left
   ·(rintro w' ⟨s0,s1,s2,s3,s4,s5,s6,s7,s8,s9,s10,s11,s12,s13⟩);(go_simp);(with_reducible rfl)
   rotate_left
   ·simp only [Act.put,sA,sZ,sS,i64_w,i32_w];(rfl)
   (refine take_ (i:=20) (N:=some 25) (v:=?_) (a':=?_) #[tt,tt,tt,tt,tt,tt,tt,tt,tt,tt,tt,tt,tt,tt,tt,tt,tt,tt,tt,tt,tt,ff,ff,ff,ff,ff,ff,ff,ff,ff,ff,ff,ff,ff,ff,ff,ff,ff,ff,ff] rfl rfl (take_ofW HT_.out HW_.out (by kernel_rfl)) (fun _ _ _ h => h) (Or.inl ⟨by rfl,?_⟩) hHeld ?_ ?_);rotate_left
   ·(rintro w' ⟨s0,s1,s2,s3,s4,s5,s6,s7,s8,s9,s10,s11,s12,s13⟩);(go_simp);(with_reducible rfl)
   rotate_left
   ·simp only [Act.put,sA,sZ,sS,i64_w,i32_w];(rfl)
   (refine pure_ (i:=21) (N:=some 26) (v:=?_) (a':=?_) #[tt,tt,tt,tt,tt,tt,tt,tt,tt,tt,tt,tt,tt,tt,tt,tt,tt,tt,tt,tt,tt,tt,ff,ff,ff,ff,ff,ff,ff,ff,ff,ff,ff,ff,ff,ff,ff,ff,ff,ff] rfl rfl (any_of HT_.out (by kernel_rfl)) (fun _ _ _ h => h) (Or.inl ⟨by rfl,?_⟩) ?_ ?_);rotate_left
   ·intro w';(go_simp);(with_reducible rfl)
   rotate_left
   ·simp only [Act.put,sA,sZ,sS,i64_w,i32_w];(rfl)
   (refine pure_ (i:=22) (N:=some 27) (v:=?_) (a':=?_) #[tt,tt,tt,tt,tt,tt,tt,tt,tt,tt,tt,tt,tt,tt,tt,tt,tt,tt,tt,tt,tt,tt,tt,ff,ff,ff,ff,ff,ff,ff,ff,ff,ff,ff,ff,ff,ff,ff,ff,ff] rfl rfl (any_of HT_.out (by kernel_rfl)) (fun _ _ _ h => h) (Or.inl ⟨by rfl,?_⟩) ?_ ?_);rotate_left
   ·intro w';(go_simp);(with_reducible rfl)
   rotate_left
   ·simp only [Act.put,sA,sZ,sS,i64_w,i32_w];(rfl)
   (refine pure_ (i:=23) (N:=some 28) (v:=?_) (a':=?_) #[tt,tt,tt,tt,tt,tt,tt,tt,tt,tt,tt,tt,tt,tt,tt,tt,tt,tt,tt,tt,tt,tt,tt,tt,ff,ff,ff,ff,ff,ff,ff,ff,ff,ff,ff,ff,ff,ff,ff,ff] rfl rfl (any_of HT_.out (by kernel_rfl)) (fun _ _ _ h => h) (Or.inl ⟨by rfl,?_⟩) ?_ ?_);rotate_left
   ·intro w';(go_simp);(with_reducible rfl)
   rotate_left
   ·simp only [Act.put,sA,sZ,sS,i64_w,i32_w];(rfl)
   (refine pure_ (i:=24) (N:=some 29) (v:=?_) (a':=?_) #[tt,tt,tt,tt,tt,tt,tt,tt,tt,tt,tt,tt,tt,tt,tt,tt,tt,tt,tt,tt,tt,tt,tt,tt,tt,ff,ff,ff,ff,ff,ff,ff,ff,ff,ff,ff,ff,ff,ff,ff] rfl rfl (any_of HT_.out (by kernel_rfl)) (fun _ _ _ h => h) (Or.inl ⟨by rfl,?_⟩) ?_ ?_);rotate_left
   ·intro w';(go_simp);(with_reducible rfl)
   rotate_left
   ·simp only [Act.put,sA,sZ,sS,i64_w,i32_w];(rfl)
   (refine pure_ (i:=26) (N:=some 31) (v:=?_) (a':=?_) #[tt,tt,tt,tt,tt,tt,tt,tt,tt,tt,tt,tt,tt,tt,tt,tt,tt,tt,tt,tt,tt,tt,tt,tt,tt,ff,tt,ff,ff,ff,ff,ff,ff,ff,ff,ff,ff,ff,ff,ff] rfl rfl (any_of HT_.out (by kernel_rfl)) (fun _ _ _ h => h) (Or.inl ⟨by rfl,?_⟩) ?_ ?_);rotate_left
   ·intro w';(go_simp);(with_reducible rfl)
   rotate_left
   ·simp only [Act.put,sA,sZ,sS,i64_w,i32_w];(rfl)
   (refine take_ (i:=25) (N:=some 30) (v:=?_) (a':=?_) #[tt,tt,tt,tt,tt,tt,tt,tt,tt,tt,tt,tt,tt,tt,tt,tt,tt,tt,tt,tt,tt,tt,tt,tt,tt,tt,tt,ff,ff,ff,ff,ff,ff,ff,ff,ff,ff,ff,ff,ff] rfl rfl (take_ofW HT_.out HW_.out (by kernel_rfl)) (fun _ _ _ h => h) (Or.inl ⟨by rfl,?_⟩) hHeld ?_ ?_);rotate_left
   ·(rintro w' ⟨s0,s1,s2,s3,s4,s5,s6,s7,s8,s9,s10,s11,s12,s13⟩);(go_simp);(with_reducible rfl)
   rotate_left
   ·simp only [Act.put,sA,sZ,sS,i64_w,i32_w];(rfl)
   (refine take_ (i:=27) (N:=some 32) (v:=?_) (a':=?_) #[tt,tt,tt,tt,tt,tt,tt,tt,tt,tt,tt,tt,tt,tt,tt,tt,tt,tt,tt,tt,tt,tt,tt,tt,tt,tt,tt,tt,ff,ff,ff,ff,ff,ff,ff,ff,ff,ff,ff,ff] rfl rfl (take_ofW HT_.out HW_.out (by kernel_rfl)) (fun _ _ _ h => h) (Or.inl ⟨by rfl,?_⟩) hHeld ?_ ?_);rotate_left
   ·(rintro w' ⟨s0,s1,s2,s3,s4,s5,s6,s7,s8,s9,s10,s11,s12,s13⟩);(go_simp);(with_reducible rfl)
   rotate_left
   ·simp only [Act.put,sA,sZ,sS,i64_w,i32_w];(rfl)
   (refine one_ (i:=28) (N:=some 33) #[tt,tt,tt,tt,tt,tt,tt,tt,tt,tt,tt,tt,tt,tt,tt,tt,tt,tt,tt,tt,tt,tt,tt,tt,tt,tt,tt,tt,tt,ff,ff,ff,ff,ff,ff,ff,ff,ff,ff,ff] rfl rfl (one_of HT_.out (by kernel_rfl)) (by decide) (fun K hK => ?_));(refine goes_ Try.func36 (by kernel_rfl) rfl #[.slice A0_5 l0_5.length c0_5,.slice A1_5 l1_5.length c1_5] (by rfl) rfl rfl (by (try simp only [List.map_toArray,List.map_cons,List.map_nil]);first | done | rfl | (simp only [List.length_drop,List.length_take];rfl)) ?_);(with_reducible refine (slices_Equal_int_int.calls k _ _ l0_5 _ _ l1_5 false _ ?side1 ?side2 ?side3 ?side4 A4.out).mono ?_);(case side1 => exact cu (Kd.C_below HR0_5.out HB.out));(case side2 => exact HC0_5.out);(case side3 => exact cu (Kd.C_below HR1_5.out HB.out));(case side4 => exact HC1_5.out);(rintro e w' ⟨rfl,⟨nd,rfl⟩⟩);(refine ⟨_,rfl,?_⟩);(refine hK.out _ _ ⟨bc BK105.out 0 rfl,bc BK105.out 1 rfl,bc BK105.out 2 rfl,bc BK105.out 3 rfl,bc BK105.out 4 rfl,bc BK105.out 5 rfl,bc BK105.out 6 rfl,bc BK106.out 0 rfl,bc BK106.out 1 rfl,bc BK106.out 2 rfl,bc BK106.out 3 rfl,bc BK106.out 4 rfl,bc BK106.out 5 rfl,bc BK106.out 6 rfl⟩ (fun hHeld => ?_));clear hK K;(refine norm_ (a':=?_) ?_ ?_);rotate_left
   ·(show Act.put _ (some 33) _ = _);simp only [Act.put,sA,sZ,sS,i64_w,i32_w];(rfl)
   (refine pure_ (i:=29) (N:=some 34) (v:=?_) (a':=?_) #[tt,tt,tt,tt,tt,tt,tt,tt,tt,tt,tt,tt,tt,tt,tt,tt,tt,tt,tt,tt,tt,tt,tt,tt,tt,tt,tt,tt,tt,tt,ff,ff,ff,ff,ff,ff,ff,ff,ff,ff] rfl rfl (any_of HT_.out (by kernel_rfl)) (fun _ _ _ h => h) (Or.inl ⟨by rfl,?_⟩) ?_ ?_);rotate_left
   ·intro w';(go_simp);(with_reducible rfl)
   rotate_left
   ·simp only [Act.put,sA,sZ,sS,i64_w,i32_w];(rfl)
   (refine pure_ (i:=30) (N:=some 35) (v:=?_) (a':=?_) #[tt,tt,tt,tt,tt,tt,tt,tt,tt,tt,tt,tt,tt,tt,tt,tt,tt,tt,tt,tt,tt,tt,tt,tt,tt,tt,tt,tt,tt,tt,tt,ff,ff,ff,ff,ff,ff,ff,ff,ff] rfl rfl (any_of HT_.out (by kernel_rfl)) (fun _ _ _ h => h) (Or.inl ⟨by rfl,?_⟩) ?_ ?_);rotate_left
   ·intro w';(go_simp);(with_reducible rfl)
   rotate_left
   ·simp only [Act.put,sA,sZ,sS,i64_w,i32_w];(rfl)
   (refine pure_ (i:=31) (N:=some 36) (v:=undef) (a':=?_) #[tt,tt,tt,tt,tt,tt,tt,tt,tt,tt,tt,tt,tt,tt,tt,tt,tt,tt,tt,tt,tt,tt,tt,tt,tt,tt,tt,tt,tt,tt,tt,tt,ff,ff,ff,ff,ff,ff,ff,ff] rfl rfl (any_of HT_.out (by kernel_rfl)) (fun _ _ _ h => h) (Or.inr ⟨by rfl,rfl⟩) ?_ ?_);rotate_left
   ·simp only [Act.put,sA,sZ,sS,i64_w,i32_w];(rfl)
   (refine pure_ (i:=32) (N:=some 37) (v:=undef) (a':=?_) #[tt,tt,tt,tt,tt,tt,tt,tt,tt,tt,tt,tt,tt,tt,tt,tt,tt,tt,tt,tt,tt,tt,tt,tt,tt,tt,tt,tt,tt,tt,tt,tt,tt,ff,ff,ff,ff,ff,ff,ff] rfl rfl (any_of HT_.out (by kernel_rfl)) (fun _ _ _ h => h) (Or.inr ⟨by rfl,rfl⟩) ?_ ?_);rotate_left
   ·simp only [Act.put,sA,sZ,sS,i64_w,i32_w];(rfl)
   (refine pure_ (i:=33) (N:=some 38) (v:=undef) (a':=?_) #[tt,tt,tt,tt,tt,tt,tt,tt,tt,tt,tt,tt,tt,tt,tt,tt,tt,tt,tt,tt,tt,tt,tt,tt,tt,tt,tt,tt,tt,tt,tt,tt,tt,tt,ff,ff,ff,ff,ff,ff] rfl rfl (any_of HT_.out (by kernel_rfl)) (fun _ _ _ h => h) (Or.inr ⟨by rfl,rfl⟩) ?_ ?_);rotate_left
   ·simp only [Act.put,sA,sZ,sS,i64_w,i32_w];(rfl)
   (refine pure_ (i:=34) (N:=some 39) (v:=undef) (a':=?_) #[tt,tt,tt,tt,tt,tt,tt,tt,tt,tt,tt,tt,tt,tt,tt,tt,tt,tt,tt,tt,tt,tt,tt,tt,tt,tt,tt,tt,tt,tt,tt,tt,tt,tt,tt,ff,ff,ff,ff,ff] rfl rfl (any_of HT_.out (by kernel_rfl)) (fun _ _ _ h => h) (Or.inr ⟨by rfl,rfl⟩) ?_ ?_);rotate_left
   ·simp only [Act.put,sA,sZ,sS,i64_w,i32_w];(rfl)
   (refine pure_ (i:=35) (N:=some 40) (v:=undef) (a':=?_) #[tt,tt,tt,tt,tt,tt,tt,tt,tt,tt,tt,tt,tt,tt,tt,tt,tt,tt,tt,tt,tt,tt,tt,tt,tt,tt,tt,tt,tt,tt,tt,tt,tt,tt,tt,tt,ff,ff,ff,ff] rfl rfl (any_of HT_.out (by kernel_rfl)) (fun _ _ _ h => h) (Or.inr ⟨by rfl,rfl⟩) ?_ ?_);rotate_left
   ·simp only [Act.put,sA,sZ,sS,i64_w,i32_w];(rfl)
   (refine pure_ (i:=36) (N:=some 41) (v:=undef) (a':=?_) #[tt,tt,tt,tt,tt,tt,tt,tt,tt,tt,tt,tt,tt,tt,tt,tt,tt,tt,tt,tt,tt,tt,tt,tt,tt,tt,tt,tt,tt,tt,tt,tt,tt,tt,tt,tt,tt,ff,ff,ff] rfl rfl (any_of HT_.out (by kernel_rfl)) (fun _ _ _ h => h) (Or.inr ⟨by rfl,rfl⟩) ?_ ?_);rotate_left
   ·simp only [Act.put,sA,sZ,sS,i64_w,i32_w];(rfl)
   (refine pure_ (i:=37) (N:=some 42) (v:=undef) (a':=?_) #[tt,tt,tt,tt,tt,tt,tt,tt,tt,tt,tt,tt,tt,tt,tt,tt,tt,tt,tt,tt,tt,tt,tt,tt,tt,tt,tt,tt,tt,tt,tt,tt,tt,tt,tt,tt,tt,tt,ff,ff] rfl rfl (any_of HT_.out (by kernel_rfl)) (fun _ _ _ h => h) (Or.inr ⟨by rfl,rfl⟩) ?_ ?_);rotate_left
   ·simp only [Act.put,sA,sZ,sS,i64_w,i32_w];(rfl)
   (refine pure_ (i:=38) (N:=some 43) (v:=?_) (a':=?_) #[tt,tt,tt,tt,tt,tt,tt,tt,tt,tt,tt,tt,tt,tt,tt,tt,tt,tt,tt,tt,tt,tt,tt,tt,tt,tt,tt,tt,tt,tt,tt,tt,tt,tt,tt,tt,tt,tt,tt,ff] rfl rfl (any_of HT_.out (by kernel_rfl)) (fun _ _ _ h => h) (Or.inl ⟨by rfl,?_⟩) ?_ ?_);rotate_left
   ·intro w';(go_simp);(with_reducible rfl)
   rotate_left
   ·simp only [Act.put,sA,sZ,sS,i64_w,i32_w];(rfl)
   (refine pure_ (i:=39) (N:=some 4) (v:=?_) (a':=?_) #[tt,tt,tt,tt,tt,tt,tt,tt,tt,tt,tt,tt,tt,tt,tt,tt,tt,tt,tt,tt,tt,tt,tt,tt,tt,tt,tt,tt,tt,tt,tt,tt,tt,tt,tt,tt,tt,tt,tt,tt] rfl rfl (any_of HT_.out (by kernel_rfl)) (fun _ _ _ h => h) (Or.inl ⟨by rfl,?_⟩) ?_ ?_);rotate_left
   ·intro w';(go_simp);(with_reducible rfl)
   rotate_left
   ·simp only [Act.put,sA,sZ,sS,i64_w,i32_w];(rfl)
   (refine done_ (done_of HT_.out (by kernel_rfl)) ?_);(try go_wp2);(go_ret);(exact ⟨by first | rfl | (simp [errW_none,errW_some] <;> rfl) | (simp [*,errW_none,errW_some] <;> rfl),lo HB.out⟩)
 ·rw [if_neg c3] at H;(have c3b0 : (a0_0 == a1_0 && (a0_1 == a1_1 && (a0_2 == a1_2 && (a0_3 == a1_3 && (a0_4 == a1_4))))) = false:=by simpa using c3);(try (have c3b1 : decide (a0_0 = a1_0 && (a0_1 == a1_1 && (a0_2 == a1_2 && (a0_3 == a1_3 && (a0_4 == a1_4))))) = false:=by simpa using c3));(try (have c3b2 : (a0_0 == a1_0 && (a0_1 == a1_1 && (a0_2 == a1_2 && (a0_3 == a1_3 && (a0_4 == a1_4))))) = false:=by simpa using c3));(try (have c3b3 : ¬ (a0_0 = a1_0 && (a0_1 == a1_1 && (a0_2 == a1_2 && (a0_3 == a1_3 && (a0_4 == a1_4))))):=by simpa using c3));clear c3;obtain rfl:=Option.some.inj H;(go_enter Try.func38,Try.ntmps38);(try go_wp2_with (first | ((with_reducible refine gate_dst (N:=2) rfl ?_);refine box_event ?hg (N:=2) ?hd (cs:=#[.int .i64 a0_0,.int .i64 a0_1,.int .i64 a0_2,.int .i64 a0_3,.int .i64 a0_4,.slice A0_5 l0_5.length c0_5,.float .f64 a0_6]) (t:=42) ?hr ?_;(case hd => rfl);(case hg => rfl);(case hr => first | (go_simp;done) | (go_simp;rfl));intro gb105 hg w14 hbox hb;have BK105:=am (hbox);(have GW105:=am ((by rw [hg];exact (below_size (lo HB.out)) : w.heap.size ≤ gb105)));have GE105:GEc _ _:=⟨((by rw [hg];exact (below_size (lo HB.out)) : w.heap.size ≤ gb105))⟩;replace HB:=am (below_step (lo HB.out) hb);clear hb hbox hg) | ((with_reducible refine gate_dst (N:=3) rfl ?_);refine box_event ?hg (N:=3) ?hd (cs:=#[.int .i64 a1_0,.int .i64 a1_1,.int .i64 a1_2,.int .i64 a1_3,.int .i64 a1_4,.slice A1_5 l1_5.length c1_5,.float .f64 a1_6]) (t:=42) ?hr ?_;(case hd => rfl);(case hg => rfl);(case hr => first | (go_simp;done) | (go_simp;rfl));intro gb106 hg w15 hbox hb;have BK106:=am (hbox);(have GW106:=am ((by rw [hg];exact (below_size (lo HB.out)) : w.heap.size ≤ gb106)));have GE106:GEc _ _:=⟨((by rw [hg];exact (below_size (lo HB.out)) : w.heap.size ≤ gb106))⟩;replace HB:=am (below_step (lo HB.out) hb);(have NB105_106:=am ((by rw [hg];exact Nat.ne_of_lt (blk_lt (g:=gb105) (o:=.cells #[.int .i64 a0_0,.int .i64 a0_1,.int .i64 a0_2,.int .i64 a0_3,.int .i64 a0_4,.slice A0_5 l0_5.length c0_5,.float .f64 a0_6] 42 (0,0)) (bu BK105.out)) : gb105 ≠ gb106)));(have NB106_105:=am ((by rw [hg];exact Nat.ne_of_gt (blk_lt (g:=gb105) (o:=.cells #[.int .i64 a0_0,.int .i64 a0_1,.int .i64 a0_2,.int .i64 a0_3,.int .i64 a0_4,.slice A0_5 l0_5.length c0_5,.float .f64 a0_6] 42 (0,0)) (bu BK105.out)) : gb106 ≠ gb105)));replace BK105:=am (blk_below (bu BK105.out) hb);clear hb hbox hg)));replace BK105:=am (blk_drew BK105.out);replace BK106:=am (blk_drew BK106.out);replace HB:=am (below_drew1 HB.out);(refine start_ (n:=40) (S:=fun w' => w'.cell? ⟨gb105,0,none⟩ = some (.int .i64 a0_0) ∧ w'.cell? ⟨gb105,1,none⟩ = some (.int .i64 a0_1) ∧ w'.cell? ⟨gb105,2,none⟩ = some (.int .i64 a0_2) ∧ w'.cell? ⟨gb105,3,none⟩ = some (.int .i64 a0_3) ∧ w'.cell? ⟨gb105,4,none⟩ = some (.int .i64 a0_4) ∧ w'.cell? ⟨gb105,5,none⟩ = some (.slice A0_5 l0_5.length c0_5) ∧ w'.cell? ⟨gb105,6,none⟩ = some (.float .f64 a0_6) ∧ w'.cell? ⟨gb106,0,none⟩ = some (.int .i64 a1_0) ∧ w'.cell? ⟨gb106,1,none⟩ = some (.int .i64 a1_1) ∧ w'.cell? ⟨gb106,2,none⟩ = some (.int .i64 a1_2) ∧ w'.cell? ⟨gb106,3,none⟩ = some (.int .i64 a1_3) ∧ w'.cell? ⟨gb106,4,none⟩ = some (.int .i64 a1_4) ∧ w'.cell? ⟨gb106,5,none⟩ = some (.slice A1_5 l1_5.length c1_5) ∧ w'.cell? ⟨gb106,6,none⟩ = some (.float .f64 a1_6)) (ds:=[]) #[ff,ff,ff,ff,ff,ff,ff,ff,ff,ff,ff,ff,ff,ff,ff,ff,ff,ff,ff,ff,ff,ff,ff,ff,ff,ff,ff,ff,ff,ff,ff,ff,ff,ff,ff,ff,ff,ff,ff,ff] (by kernel_rfl) rfl rfl ⟨bc BK105.out 0 rfl,bc BK105.out 1 rfl,bc BK105.out 2 rfl,bc BK105.out 3 rfl,bc BK105.out 4 rfl,bc BK105.out 5 rfl,bc BK105.out 6 rfl,bc BK106.out 0 rfl,bc BK106.out 1 rfl,bc BK106.out 2 rfl,bc BK106.out 3 rfl,bc BK106.out 4 rfl,bc BK106.out 5 rfl,bc BK106.out 6 rfl⟩ (fun hHeld => ?_);refine with_tabW program_Same_2.tab1 program_Same_2.bits1 (fun HT_ HW_ => ?_));(generalize w15.drew = w16 at BK105 BK106 HB hHeld ⊢);(refine pure_ (i:=0) (N:=some 5) (v:=?_) (a':=?_) #[tt,ff,ff,ff,ff,ff,ff,ff,ff,ff,ff,ff,ff,ff,ff,ff,ff,ff,ff,ff,ff,ff,ff,ff,ff,ff,ff,ff,ff,ff,ff,ff,ff,ff,ff,ff,ff,ff,ff,ff] rfl rfl (any_of HT_.out (by kernel_rfl)) (fun _ _ _ h => h) (Or.inl ⟨by rfl,?_⟩) ?_ ?_);rotate_left
  ·intro w';(go_simp);(with_reducible rfl)
  rotate_left
  ·simp only [Act.put,sA,sZ,sS,i64_w,i32_w];(rfl)
  (refine pure_ (i:=2) (N:=some 7) (v:=?_) (a':=?_) #[tt,ff,tt,ff,ff,ff,ff,ff,ff,ff,ff,ff,ff,ff,ff,ff,ff,ff,ff,ff,ff,ff,ff,ff,ff,ff,ff,ff,ff,ff,ff,ff,ff,ff,ff,ff,ff,ff,ff,ff] rfl rfl (any_of HT_.out (by kernel_rfl)) (fun _ _ _ h => h) (Or.inl ⟨by rfl,?_⟩) ?_ ?_);rotate_left
  ·intro w';(go_simp);(with_reducible rfl)
  rotate_left
  ·simp only [Act.put,sA,sZ,sS,i64_w,i32_w];(rfl)
  (refine pure_ (i:=4) (N:=some 9) (v:=?_) (a':=?_) #[tt,ff,tt,ff,tt,ff,ff,ff,ff,ff,ff,ff,ff,ff,ff,ff,ff,ff,ff,ff,ff,ff,ff,ff,ff,ff,ff,ff,ff,ff,ff,ff,ff,ff,ff,ff,ff,ff,ff,ff] rfl rfl (any_of HT_.out (by kernel_rfl)) (fun _ _ _ h => h) (Or.inl ⟨by rfl,?_⟩) ?_ ?_);rotate_left
  ·intro w';(go_simp);(with_reducible rfl)
  rotate_left
  ·simp only [Act.put,sA,sZ,sS,i64_w,i32_w];(rfl)
  (refine pure_ (i:=6) (N:=some 11) (v:=?_) (a':=?_) #[tt,ff,tt,ff,tt,ff,tt,ff,ff,ff,ff,ff,ff,ff,ff,ff,ff,ff,ff,ff,ff,ff,ff,ff,ff,ff,ff,ff,ff,ff,ff,ff,ff,ff,ff,ff,ff,ff,ff,ff] rfl rfl (any_of HT_.out (by kernel_rfl)) (fun _ _ _ h => h) (Or.inl ⟨by rfl,?_⟩) ?_ ?_);rotate_left
  ·intro w';(go_simp);(with_reducible rfl)
  rotate_left
  ·simp only [Act.put,sA,sZ,sS,i64_w,i32_w];(rfl)
  (refine pure_ (i:=8) (N:=some 13) (v:=?_) (a':=?_) #[tt,ff,tt,ff,tt,ff,tt,ff,tt,ff,ff,ff,ff,ff,ff,ff,ff,ff,ff,ff,ff,ff,ff,ff,ff,ff,ff,ff,ff,ff,ff,ff,ff,ff,ff,ff,ff,ff,ff,ff] rfl rfl (any_of HT_.out (by kernel_rfl)) (fun _ _ _ h => h) (Or.inl ⟨by rfl,?_⟩) ?_ ?_);rotate_left
  ·intro w';(go_simp);(with_reducible rfl)
  rotate_left
  ·simp only [Act.put,sA,sZ,sS,i64_w,i32_w];(rfl)
  (refine pure_ (i:=11) (N:=some 16) (v:=?_) (a':=?_) #[tt,ff,tt,ff,tt,ff,tt,ff,tt,ff,ff,tt,ff,ff,ff,ff,ff,ff,ff,ff,ff,ff,ff,ff,ff,ff,ff,ff,ff,ff,ff,ff,ff,ff,ff,ff,ff,ff,ff,ff] rfl rfl (any_of HT_.out (by kernel_rfl)) (fun _ _ _ h => h) (Or.inl ⟨by rfl,?_⟩) ?_ ?_);rotate_left
  ·intro w';(go_simp);(with_reducible rfl)
  rotate_left
  ·simp only [Act.put,sA,sZ,sS,i64_w,i32_w];(rfl)
  (refine pure_ (i:=13) (N:=some 18) (v:=?_) (a':=?_) #[tt,ff,tt,ff,tt,ff,tt,ff,tt,ff,ff,tt,ff,tt,ff,ff,ff,ff,ff,ff,ff,ff,ff,ff,ff,ff,ff,ff,ff,ff,ff,ff,ff,ff,ff,ff,ff,ff,ff,ff] rfl rfl (any_of HT_.out (by kernel_rfl)) (fun _ _ _ h => h) (Or.inl ⟨by rfl,?_⟩) ?_ ?_);rotate_left
  ·intro w';(go_simp);(with_reducible rfl)
  rotate_left
  ·simp only [Act.put,sA,sZ,sS,i64_w,i32_w];(rfl)
  (refine pure_ (i:=15) (N:=some 20) (v:=?_) (a':=?_) #[tt,ff,tt,ff,tt,ff,tt,ff,tt,ff,ff,tt,ff,tt,ff,tt,ff,ff,ff,ff,ff,ff,ff,ff,ff,ff,ff,ff,ff,ff,ff,ff,ff,ff,ff,ff,ff,ff,ff,ff] rfl rfl (any_of HT_.out (by kernel_rfl)) (fun _ _ _ h => h) (Or.inl ⟨by rfl,?_⟩) ?_ ?_);rotate_left
  ·intro w';(go_simp);(with_reducible rfl)
  rotate_left
  ·simp only [Act.put,sA,sZ,sS,i64_w,i32_w];(rfl)
  (refine pure_ (i:=17) (N:=some 22) (v:=?_) (a':=?_) #[tt,ff,tt,ff,tt,ff,tt,ff,tt,ff,ff,tt,ff,tt,ff,tt,ff,tt,ff,ff,ff,ff,ff,ff,ff,ff,ff,ff,ff,ff,ff,ff,ff,ff,ff,ff,ff,ff,ff,ff] rfl rfl (any_of HT_.out (by kernel_rfl)) (fun _ _ _ h => h) (Or.inl ⟨by rfl,?_⟩) ?_ ?_);rotate_left
  ·intro w';(go_simp);(with_reducible rfl)
  rotate_left
  ·simp only [Act.put,sA,sZ,sS,i64_w,i32_w];(rfl)
  (refine pure_ (i:=19) (N:=some 24) (v:=?_) (a':=?_) #[tt,ff,tt,ff,tt,ff,tt,ff,tt,ff,ff,tt,ff,tt,ff,tt,ff,tt,ff,tt,ff,ff,ff,ff,ff,ff,ff,ff,ff,ff,ff,ff,ff,ff,ff,ff,ff,ff,ff,ff] rfl rfl (any_of HT_.out (by kernel_rfl)) (fun _ _ _ h => h) (Or.inl ⟨by rfl,?_⟩) ?_ ?_);rotate_left
  ·intro w';(go_simp);(with_reducible rfl)
  rotate_left
  ·simp only [Act.put,sA,sZ,sS,i64_w,i32_w];(rfl)
  (refine take_ (i:=1) (N:=some 6) (v:=?_) (a':=?_) #[tt,tt,tt,ff,tt,ff,tt,ff,tt,ff,ff,tt,ff,tt,ff,tt,ff,tt,ff,tt,ff,ff,ff,ff,ff,ff,ff,ff,ff,ff,ff,ff,ff,ff,ff,ff,ff,ff,ff,ff] rfl rfl (take_ofW HT_.out HW_.out (by kernel_rfl)) (fun _ _ _ h => h) (Or.inl ⟨by rfl,?_⟩) hHeld ?_ ?_);rotate_left
  ·(rintro w' ⟨s0,s1,s2,s3,s4,s5,s6,s7,s8,s9,s10,s11,s12,s13⟩);(go_simp);(with_reducible rfl)
  rotate_left
  ·simp only [Act.put,sA,sZ,sS,i64_w,i32_w];(rfl)
  (refine take_ (i:=3) (N:=some 8) (v:=?_) (a':=?_) #[tt,tt,tt,tt,tt,ff,tt,ff,tt,ff,ff,tt,ff,tt,ff,tt,ff,tt,ff,tt,ff,ff,ff,ff,ff,ff,ff,ff,ff,ff,ff,ff,ff,ff,ff,ff,ff,ff,ff,ff] rfl rfl (take_ofW HT_.out HW_.out (by kernel_rfl)) (fun _ _ _ h => h) (Or.inl ⟨by rfl,?_⟩) hHeld ?_ ?_);rotate_left
  ·(rintro w' ⟨s0,s1,s2,s3,s4,s5,s6,s7,s8,s9,s10,s11,s12,s13⟩);(go_simp);(with_reducible rfl)
  rotate_left
  ·simp only [Act.put,sA,sZ,sS,i64_w,i32_w];(rfl)
  (refine take_ (i:=5) (N:=some 10) (v:=?_) (a':=?_) #[tt,tt,tt,tt,tt,tt,tt,ff,tt,ff,ff,tt,ff,tt,ff,tt,ff,tt,ff,tt,ff,ff,ff,ff,ff,ff,ff,ff,ff,ff,ff,ff,ff,ff,ff,ff,ff,ff,ff,ff] rfl rfl (take_ofW HT_.out HW_.out (by kernel_rfl)) (fun _ _ _ h => h) (Or.inl ⟨by rfl,?_⟩) hHeld ?_ ?_);rotate_left
  ·(rintro w' ⟨s0,s1,s2,s3,s4,s5,s6,s7,s8,s9,s10,s11,s12,s13⟩);(go_simp);(with_reducible rfl)
  rotate_left
  ·simp only [Act.put,sA,sZ,sS,i64_w,i32_w];(rfl)
  (refine take_ (i:=7) (N:=some 12) (v:=?_) (a':=?_) #[tt,tt,tt,tt,tt,tt,tt,tt,tt,ff,ff,tt,ff,tt,ff,tt,ff,tt,ff,tt,ff,ff,ff,ff,ff,ff,ff,ff,ff,ff,ff,ff,ff,ff,ff,ff,ff,ff,ff,ff] rfl rfl (take_ofW HT_.out HW_.out (by kernel_rfl)) (fun _ _ _ h => h) (Or.inl ⟨by rfl,?_⟩) hHeld ?_ ?_);rotate_left
  ·(rintro w' ⟨s0,s1,s2,s3,s4,s5,s6,s7,s8,s9,s10,s11,s12,s13⟩);(go_simp);(with_reducible rfl)
  rotate_left
  ·simp only [Act.put,sA,sZ,sS,i64_w,i32_w];(rfl)
  (refine take_ (i:=9) (N:=some 14) (v:=?_) (a':=?_) #[tt,tt,tt,tt,tt,tt,tt,tt,tt,tt,ff,tt,ff,tt,ff,tt,ff,tt,ff,tt,ff,ff,ff,ff,ff,ff,ff,ff,ff,ff,ff,ff,ff,ff,ff,ff,ff,ff,ff,ff] rfl rfl (take_ofW HT_.out HW_.out (by kernel_rfl)) (fun _ _ _ h => h) (Or.inl ⟨by rfl,?_⟩) hHeld ?_ ?_);rotate_left
  ·(rintro w' ⟨s0,s1,s2,s3,s4,s5,s6,s7,s8,s9,s10,s11,s12,s13⟩);(go_simp);(with_reducible rfl)
  rotate_left
  ·simp only [Act.put,sA,sZ,sS,i64_w,i32_w];(rfl)
  (refine pure_ (i:=10) (N:=some 15) (v:=?_) (a':=?_) #[tt,tt,tt,tt,tt,tt,tt,tt,tt,tt,tt,tt,ff,tt,ff,tt,ff,tt,ff,tt,ff,ff,ff,ff,ff,ff,ff,ff,ff,ff,ff,ff,ff,ff,ff,ff,ff,ff,ff,ff] rfl rfl (any_of HT_.out (by kernel_rfl)) (fun _ _ _ h => h) (Or.inl ⟨by rfl,?_⟩) ?_ ?_);rotate_left
  ·intro w';(go_simp);(with_reducible rfl)
  rotate_left
  ·simp only [Act.put,sA,sZ,sS,i64_w,i32_w];(rfl)
  (refine take_ (i:=12) (N:=some 17) (v:=?_) (a':=?_) #[tt,tt,tt,tt,tt,tt,tt,tt,tt,tt,tt,tt,tt,tt,ff,tt,ff,tt,ff,tt,ff,ff,ff,ff,ff,ff,ff,ff,ff,ff,ff,ff,ff,ff,ff,ff,ff,ff,ff,ff] rfl rfl (take_ofW HT_.out HW_.out (by kernel_rfl)) (fun _ _ _ h => h) (Or.inl ⟨by rfl,?_⟩) hHeld ?_ ?_);rotate_left
  ·(rintro w' ⟨s0,s1,s2,s3,s4,s5,s6,s7,s8,s9,s10,s11,s12,s13⟩);(go_simp);(with_reducible rfl)
  rotate_left
  ·simp only [Act.put,sA,sZ,sS,i64_w,i32_w];(rfl)
  (refine take_ (i:=14) (N:=some 19) (v:=?_) (a':=?_) #[tt,tt,tt,tt,tt,tt,tt,tt,tt,tt,tt,tt,tt,tt,tt,tt,ff,tt,ff,tt,ff,ff,ff,ff,ff,ff,ff,ff,ff,ff,ff,ff,ff,ff,ff,ff,ff,ff,ff,ff] rfl rfl (take_ofW HT_.out HW_.out (by kernel_rfl)) (fun _ _ _ h => h) (Or.inl ⟨by rfl,?_⟩) hHeld ?_ ?_);rotate_left
  ·(rintro w' ⟨s0,s1,s2,s3,s4,s5,s6,s7,s8,s9,s10,s11,s12,s13⟩);(go_simp);(with_reducible rfl)
  rotate_left
  ·simp only [Act.put,sA,sZ,sS,i64_w,i32_w];(rfl)
  (refine take_ (i:=16) (N:=some 21) (v:=?_) (a':=?_) #[tt,tt,tt,tt,tt,tt,tt,tt,tt,tt,tt,tt,tt,tt,tt,tt,tt,tt,ff,tt,ff,ff,ff,ff,ff,ff,ff,ff,ff,ff,ff,ff,ff,ff,ff,ff,ff,ff,ff,ff] rfl rfl (take_ofW HT_.out HW_.out (by kernel_rfl)) (fun _ _ _ h => h) (Or.inl ⟨by rfl,?_⟩) hHeld ?_ ?_);rotate_left
  ·(rintro w' ⟨s0,s1,s2,s3,s4,s5,s6,s7,s8,s9,s10,s11,s12,s13⟩);(go_simp);(with_reducible rfl)
  rotate_left
  ·simp only [Act.put,sA,sZ,sS,i64_w,i32_w];(rfl)
  (refine take_ (i:=18) (N:=some 23) (v:=?_) (a':=?_) #[tt,tt,tt,tt,tt,tt,tt,tt,tt,tt,tt,tt,tt,tt,tt,tt,tt,tt,tt,tt,ff,ff,ff,ff,ff,ff,ff,ff,ff,ff,ff,ff,ff,ff,ff,ff,ff,ff,ff,ff] rfl rfl (take_ofW HT_.out HW_.out (by kernel_rfl)) (fun _ _ _ h => h) (Or.inl ⟨by rfl,?_⟩) hHeld ?_ ?_);rotate_left
  ·(rintro w' ⟨s0,s1,s2,s3,s4,s5,s6,s7,s8,s9,s10,s11,s12,s13⟩);(go_simp);(with_reducible rfl)
  rotate_left
  ·simp only [Act.put,sA,sZ,sS,i64_w,i32_w];(rfl)
  (refine take_ (i:=20) (N:=some 25) (v:=?_) (a':=?_) #[tt,tt,tt,tt,tt,tt,tt,tt,tt,tt,tt,tt,tt,tt,tt,tt,tt,tt,tt,tt,tt,ff,ff,ff,ff,ff,ff,ff,ff,ff,ff,ff,ff,ff,ff,ff,ff,ff,ff,ff] rfl rfl (take_ofW HT_.out HW_.out (by kernel_rfl)) (fun _ _ _ h => h) (Or.inl ⟨by rfl,?_⟩) hHeld ?_ ?_);rotate_left
  ·(rintro w' ⟨s0,s1,s2,s3,s4,s5,s6,s7,s8,s9,s10,s11,s12,s13⟩);(go_simp);(with_reducible rfl)
  rotate_left
  ·simp only [Act.put,sA,sZ,sS,i64_w,i32_w];(rfl)
  (refine pure_ (i:=21) (N:=some 26) (v:=?_) (a':=?_) #[tt,tt,tt,tt,tt,tt,tt,tt,tt,tt,tt,tt,tt,tt,tt,tt,tt,tt,tt,tt,tt,tt,ff,ff,ff,ff,ff,ff,ff,ff,ff,ff,ff,ff,ff,ff,ff,ff,ff,ff] rfl rfl (any_of HT_.out (by kernel_rfl)) (fun _ _ _ h => h) (Or.inl ⟨by rfl,?_⟩) ?_ ?_);rotate_left
  ·intro w';(go_simp);(with_reducible rfl)
  rotate_left
  ·simp only [Act.put,sA,sZ,sS,i64_w,i32_w];(rfl)
  (refine pure_ (i:=22) (N:=some 27) (v:=?_) (a':=?_) #[tt,tt,tt,tt,tt,tt,tt,tt,tt,tt,tt,tt,tt,tt,tt,tt,tt,tt,tt,tt,tt,tt,tt,ff,ff,ff,ff,ff,ff,ff,ff,ff,ff,ff,ff,ff,ff,ff,ff,ff] rfl rfl (any_of HT_.out (by kernel_rfl)) (fun _ _ _ h => h) (Or.inl ⟨by rfl,?_⟩) ?_ ?_);rotate_left
  ·intro w';(go_simp);(with_reducible rfl)
  rotate_left
  ·simp only [Act.put,sA,sZ,sS,i64_w,i32_w];(rfl)
  (refine pure_ (i:=23) (N:=some 28) (v:=?_) (a':=?_) #[tt,tt,tt,tt,tt,tt,tt,tt,tt,tt,tt,tt,tt,tt,tt,tt,tt,tt,tt,tt,tt,tt,tt,tt,ff,ff,ff,ff,ff,ff,ff,ff,ff,ff,ff,ff,ff,ff,ff,ff] rfl rfl (any_of HT_.out (by kernel_rfl)) (fun _ _ _ h => h) (Or.inl ⟨by rfl,?_⟩) ?_ ?_);rotate_left
  ·intro w';(go_simp);(with_reducible rfl)
  rotate_left
  ·simp only [Act.put,sA,sZ,sS,i64_w,i32_w];(rfl)
  (refine pure_ (i:=24) (N:=some 29) (v:=undef) (a':=?_) #[tt,tt,tt,tt,tt,tt,tt,tt,tt,tt,tt,tt,tt,tt,tt,tt,tt,tt,tt,tt,tt,tt,tt,tt,tt,ff,ff,ff,ff,ff,ff,ff,ff,ff,ff,ff,ff,ff,ff,ff] rfl rfl (any_of HT_.out (by kernel_rfl)) (fun _ _ _ h => h) (Or.inr ⟨by rfl,rfl⟩) ?_ ?_);rotate_left
  ·simp only [Act.put,sA,sZ,sS,i64_w,i32_w];(rfl)
  (refine pure_ (i:=25) (N:=some 30) (v:=undef) (a':=?_) #[tt,tt,tt,tt,tt,tt,tt,tt,tt,tt,tt,tt,tt,tt,tt,tt,tt,tt,tt,tt,tt,tt,tt,tt,tt,tt,ff,ff,ff,ff,ff,ff,ff,ff,ff,ff,ff,ff,ff,ff] rfl rfl (any_of HT_.out (by kernel_rfl)) (fun _ _ _ h => h) (Or.inr ⟨by rfl,rfl⟩) ?_ ?_);rotate_left
  ·simp only [Act.put,sA,sZ,sS,i64_w,i32_w];(rfl)
  (refine pure_ (i:=26) (N:=some 31) (v:=undef) (a':=?_) #[tt,tt,tt,tt,tt,tt,tt,tt,tt,tt,tt,tt,tt,tt,tt,tt,tt,tt,tt,tt,tt,tt,tt,tt,tt,tt,tt,ff,ff,ff,ff,ff,ff,ff,ff,ff,ff,ff,ff,ff] rfl rfl (any_of HT_.out (by kernel_rfl)) (fun _ _ _ h => h) (Or.inr ⟨by rfl,rfl⟩) ?_ ?_);rotate_left
  ·simp only [Act.put,sA,sZ,sS,i64_w,i32_w];(rfl)
  (refine pure_ (i:=27) (N:=some 32) (v:=undef) (a':=?_) #[tt,tt,tt,tt,tt,tt,tt,tt,tt,tt,tt,tt,tt,tt,tt,tt,tt,tt,tt,tt,tt,tt,tt,tt,tt,tt,tt,tt,ff,ff,ff,ff,ff,ff,ff,ff,ff,ff,ff,ff] rfl rfl (any_of HT_.out (by kernel_rfl)) (fun _ _ _ h => h) (Or.inr ⟨by rfl,rfl⟩) ?_ ?_);rotate_left
  ·simp only [Act.put,sA,sZ,sS,i64_w,i32_w];(rfl)
  (refine pure_ (i:=28) (N:=some 33) (v:=undef) (a':=?_) #[tt,tt,tt,tt,tt,tt,tt,tt,tt,tt,tt,tt,tt,tt,tt,tt,tt,tt,tt,tt,tt,tt,tt,tt,tt,tt,tt,tt,tt,ff,ff,ff,ff,ff,ff,ff,ff,ff,ff,ff] rfl rfl (any_of HT_.out (by kernel_rfl)) (fun _ _ _ h => h) (Or.inr ⟨by rfl,rfl⟩) ?_ ?_);rotate_left
  ·simp only [Act.put,sA,sZ,sS,i64_w,i32_w];(rfl)
  (refine pure_ (i:=29) (N:=some 34) (v:=?_) (a':=?_) #[tt,tt,tt,tt,tt,tt,tt,tt,tt,tt,tt,tt,tt,tt,tt,tt,tt,tt,tt,tt,tt,tt,tt,tt,tt,tt,tt,tt,tt,tt,ff,ff,ff,ff,ff,ff,ff,ff,ff,ff] rfl rfl (any_of HT_.out (by kernel_rfl)) (fun _ _ _ h => h) (Or.inl ⟨by rfl,?_⟩) ?_ ?_);rotate_left
  ·intro w';(go_simp);(with_reducible rfl)
  rotate_left
  ·simp only [Act.put,sA,sZ,sS,i64_w,i32_w];(rfl)
  (refine pure_ (i:=30) (N:=some 35) (v:=?_) (a':=?_) #[tt,tt,tt,tt,tt,tt,tt,tt,tt,tt,tt,tt,tt,tt,tt,tt,tt,tt,tt,tt,tt,tt,tt,tt,tt,tt,tt,tt,tt,tt,tt,ff,ff,ff,ff,ff,ff,ff,ff,ff] rfl rfl (any_of HT_.out (by kernel_rfl)) (fun _ _ _ h => h) (Or.inl ⟨by rfl,?_⟩) ?_ ?_);rotate_left
  ·intro w';(go_simp);(with_reducible rfl)
  rotate_left
  ·simp only [Act.put,sA,sZ,sS,i64_w,i32_w];(rfl)
  (refine pure_ (i:=31) (N:=some 36) (v:=undef) (a':=?_) #[tt,tt,tt,tt,tt,tt,tt,tt,tt,tt,tt,tt,tt,tt,tt,tt,tt,tt,tt,tt,tt,tt,tt,tt,tt,tt,tt,tt,tt,tt,tt,tt,ff,ff,ff,ff,ff,ff,ff,ff] rfl rfl (any_of HT_.out (by kernel_rfl)) (fun _ _ _ h => h) (Or.inr ⟨by rfl,rfl⟩) ?_ ?_);rotate_left
  ·simp only [Act.put,sA,sZ,sS,i64_w,i32_w];(rfl)
  (refine pure_ (i:=32) (N:=some 37) (v:=undef) (a':=?_) #[tt,tt,tt,tt,tt,tt,tt,tt,tt,tt,tt,tt,tt,tt,tt,tt,tt,tt,tt,tt,tt,tt,tt,tt,tt,tt,tt,tt,tt,tt,tt,tt,tt,ff,ff,ff,ff,ff,ff,ff] rfl rfl (any_of HT_.out (by kernel_rfl)) (fun _ _ _ h => h) (Or.inr ⟨by rfl,rfl⟩) ?_ ?_);rotate_left
  ·simp only [Act.put,sA,sZ,sS,i64_w,i32_w];(rfl)
  (refine pure_ (i:=33) (N:=some 38) (v:=undef) (a':=?_) #[tt,tt,tt,tt,tt,tt,tt,tt,tt,tt,tt,tt,tt,tt,tt,tt,tt,tt,tt,tt,tt,tt,tt,tt,tt,tt,tt,tt,tt,tt,tt,tt,tt,tt,ff,ff,ff,ff,ff,ff] rfl rfl (any_of HT_.out (by kernel_rfl)) (fun _ _ _ h => h) (Or.inr ⟨by rfl,rfl⟩) ?_ ?_);rotate_left
  ·simp only [Act.put,sA,sZ,sS,i64_w,i32_w];(rfl)
  (refine pure_ (i:=34) (N:=some 39) (v:=undef) (a':=?_) #[tt,tt,tt,tt,tt,tt,tt,tt,tt,tt,tt,tt,tt,tt,tt,tt,tt,tt,tt,tt,tt,tt,tt,tt,tt,tt,tt,tt,tt,tt,tt,tt,tt,tt,tt,ff,ff,ff,ff,ff] rfl rfl (any_of HT_.out (by kernel_rfl)) (fun _ _ _ h => h) (Or.inr ⟨by rfl,rfl⟩) ?_ ?_);rotate_left
  ·simp only [Act.put,sA,sZ,sS,i64_w,i32_w];(rfl)
  (refine pure_ (i:=35) (N:=some 40) (v:=undef) (a':=?_) #[tt,tt,tt,tt,tt,tt,tt,tt,tt,tt,tt,tt,tt,tt,tt,tt,tt,tt,tt,tt,tt,tt,tt,tt,tt,tt,tt,tt,tt,tt,tt,tt,tt,tt,tt,tt,ff,ff,ff,ff] rfl rfl (any_of HT_.out (by kernel_rfl)) (fun _ _ _ h => h) (Or.inr ⟨by rfl,rfl⟩) ?_ ?_);rotate_left
  ·simp only [Act.put,sA,sZ,sS,i64_w,i32_w];(rfl)
  (refine pure_ (i:=36) (N:=some 41) (v:=undef) (a':=?_) #[tt,tt,tt,tt,tt,tt,tt,tt,tt,tt,tt,tt,tt,tt,tt,tt,tt,tt,tt,tt,tt,tt,tt,tt,tt,tt,tt,tt,tt,tt,tt,tt,tt,tt,tt,tt,tt,ff,ff,ff] rfl rfl (any_of HT_.out (by kernel_rfl)) (fun _ _ _ h => h) (Or.inr ⟨by rfl,rfl⟩) ?_ ?_);rotate_left
  ·simp only [Act.put,sA,sZ,sS,i64_w,i32_w];(rfl)
  (refine pure_ (i:=37) (N:=some 42) (v:=undef) (a':=?_) #[tt,tt,tt,tt,tt,tt,tt,tt,tt,tt,tt,tt,tt,tt,tt,tt,tt,tt,tt,tt,tt,tt,tt,tt,tt,tt,tt,tt,tt,tt,tt,tt,tt,tt,tt,tt,tt,tt,ff,ff] rfl rfl (any_of HT_.out (by kernel_rfl)) (fun _ _ _ h => h) (Or.inr ⟨by rfl,rfl⟩) ?_ ?_);rotate_left
  ·simp only [Act.put,sA,sZ,sS,i64_w,i32_w];(rfl)
  (refine pure_ (i:=38) (N:=some 43) (v:=?_) (a':=?_) #[tt,tt,tt,tt,tt,tt,tt,tt,tt,tt,tt,tt,tt,tt,tt,tt,tt,tt,tt,tt,tt,tt,tt,tt,tt,tt,tt,tt,tt,tt,tt,tt,tt,tt,tt,tt,tt,tt,tt,ff] rfl rfl (any_of HT_.out (by kernel_rfl)) (fun _ _ _ h => h) (Or.inl ⟨by rfl,?_⟩) ?_ ?_);rotate_left
  ·intro w';(go_simp);(with_reducible rfl)
  rotate_left
  ·simp only [Act.put,sA,sZ,sS,i64_w,i32_w];(rfl)
  (refine pure_ (i:=39) (N:=some 4) (v:=?_) (a':=?_) #[tt,tt,tt,tt,tt,tt,tt,tt,tt,tt,tt,tt,tt,tt,tt,tt,tt,tt,tt,tt,tt,tt,tt,tt,tt,tt,tt,tt,tt,tt,tt,tt,tt,tt,tt,tt,tt,tt,tt,tt] rfl rfl (any_of HT_.out (by kernel_rfl)) (fun _ _ _ h => h) (Or.inl ⟨by rfl,?_⟩) ?_ ?_);rotate_left
  ·intro w';(go_simp);(with_reducible rfl)
  rotate_left
  ·simp only [Act.put,sA,sZ,sS,i64_w,i32_w];(rfl)
  (refine done_ (done_of HT_.out (by kernel_rfl)) ?_);(try go_wp2);(go_ret);(exact ⟨by first | rfl | (simp [errW_none,errW_some] <;> rfl) | (simp [*,errW_none,errW_some] <;> rfl),lo HB.out⟩)

end Go.Proofs.Ytgfjjhfkgfnpaaa.PB

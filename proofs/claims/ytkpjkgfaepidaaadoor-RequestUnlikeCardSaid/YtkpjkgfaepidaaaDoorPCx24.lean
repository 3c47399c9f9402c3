-- Written by this session's own program wip/bin/dprint.py, over the kit's print.py, with own texts for some functions: no print of print.sh's
import Derived.Test.YtkpjkgfaepidaaaDoorPCx0
import Derived.Test.YtkpjkgfaepidaaaDoorPCx7
import Derived.Test.YtkpjkgfaepidaaaDoorPCx15
import Derived.Test.YtkpjkgfaepidaaaDoorUps
namespace Go.Proofs.YtkpjkgfaepidaaaDoor.PC
open Go.RowKit Go.Proofs.YtkpjkgfaepidaaaDoorW.PrintWords Go.Proofs.YtkpjkgfaepidaaaDoorW.PrintLast Go.Proofs.YtkpjkgfaepidaaaDoorW.PrintMore
attribute [local go_sem] max2_int min2_int max_two min_two max_three min_three max_four min_four   -- for this text's walks alone
set_option linter.unusedVariables false
set_option linter.unusedSimpArgs false


/-! ### request_Request_Check: function 22 (own text) -/
section
open Go.Proofs.YtkpjkgfaepidaaaDoor.Glob
def request_Request_Check.f (a0_0 : Int) (l0_1 : List Int) (a0_2 : ByteArray) : Option (Int):=(request_is.f a0_0).bind fun t246 => (if t246 = true then (if 0 ≤ a0_0 then (if a0_0 < 17 then (if (l0_1.length : Int) = (gcount a0_0) then ((request_numbers.f l0_1).bind fun t247 => (if t247 = true then (if (a0_2.size : Int) > 65536 then (some 1) else (if a0_0 = 1 then (some 0) else (if a0_2.toList = ([] : List UInt8) then (some 0) else (some 1)))) else (some 1))) else (some 1)) else (none)) else (none)) else (some 13))
def request_Request_Check.T3 : Bool × List (List Nat × List Nat):=(true,[([],[]),([0],[0]),([1],[1]),([],[]),([3],[3]),([4],[4]),([5],[5]),([2,6],[2,6]),([7],[7]),([8],[8]),([9,8],[8,9]),([10,8,8],[8,10]),([11,8],[8,11]),([8,12],[8,12]),([13,11],[13]),([14],[14]),([15,14],[14,15]),([16,14],[14,16]),([17,14],[14,17]),([14,18],[14,18]),([19,14],[19]),([20],[20]),([21,20],[20,21]),([22,20],[20,22]),([23,20,20],[20,23]),([24],[24]),([25,24],[24,25]),([26,24],[24,26]),([24,27,20],[20,24,27]),([20,28],[20,28]),([29,24],[29])])
def request_Request_Check.B3 : List Nat:=[0,1,3,0,8,24,56,127,255,511,1023,2047,4095,8191,16383,32767,65535,131071,262143,524287,1048575,2097151,4194303,8388607,16777215,33554431,67108863,134217727,268435455,536870911,1073741823]
theorem request_Request_Check.tab3 : rtab .any (opsOf Tryd.f22 3) = request_Request_Check.T3:=by kernel_rfl
theorem request_Request_Check.bits3 : waitsOk request_Request_Check.T3.2 request_Request_Check.B3 = true:=by kernel_rfl
set_option maxHeartbeats 40000000 in
set_option maxRecDepth 100000 in
theorem request_Request_Check.calls (a0_0 : Int) (A0_1 : Option Addr) (c0_1 : Nat) (l0_1 : List Int) (a0_2 : ByteArray) (r : Int) (w : World) (hG : GG w) (hr0_1 : Kd.C (Kd.int .i64) w A0_1 l0_1.length l0_1) (hc0_1 : l0_1.length ≤ c0_1) (h : request_Request_Check.f a0_0 l0_1 a0_2 = some r) :
  Calls Tryd.prog 22 #[.agg #[.int .i64 a0_0,.slice A0_1 l0_1.length c0_1,.string a0_2]] w fun e w' => e = .returned (.int .i64 r) ∧ Below w.heap.size w w':=by
 have hu46:=Tryd.underlying46;have HR0_1:=am hr0_1;have HC0_1:=am hc0_1;clear hr0_1 hc0_1;have HB:=am (Below.refl w.heap.size w);have HG:=am hG;clear hG;(have H : ((request_is.f a0_0).bind fun t246 => (if t246 = true then (if 0 ≤ a0_0 then (if a0_0 < 17 then (if (l0_1.length : Int) = (gcount a0_0) then ((request_numbers.f l0_1).bind fun t247 => (if t247 = true then (if (a0_2.size : Int) > 65536 then (some 1) else (if a0_0 = 1 then (some 0) else (if a0_2.toList = ([] : List UInt8) then (some 0) else (some 1)))) else (some 1))) else (some 1)) else (none)) else (none)) else (some 13))) = some r:=h);clear h;replace H:=Option.bind_eq_some_iff.mp H;obtain ⟨t246,A20,H⟩:=H;(replace H : (if t246 = true then (if 0 ≤ a0_0 then (if a0_0 < 17 then (if (l0_1.length : Int) = (gcount a0_0) then ((request_numbers.f l0_1).bind fun t247 => (if t247 = true then (if (a0_2.size : Int) > 65536 then (some 1) else (if a0_0 = 1 then (some 0) else (if a0_2.toList = ([] : List UInt8) then (some 0) else (some 1)))) else (some 1))) else (some 1)) else (none)) else (none)) else (some 13)) = some r:=H);have A2:=am A20;clear A20;(by_cases c3 : t246 = true)
 ·subst c3;(have H1 : (if 0 ≤ a0_0 then (if a0_0 < 17 then (if (l0_1.length : Int) = (gcount a0_0) then ((request_numbers.f l0_1).bind fun t247 => (if t247 = true then (if (a0_2.size : Int) > 65536 then (some 1) else (if a0_0 = 1 then (some 0) else (if a0_2.toList = ([] : List UInt8) then (some 0) else (some 1)))) else (some 1))) else (some 1)) else (none)) else (none)) = some r:=by rw [if_pos rfl] at H;exact H);clear H;have H:=H1;clear H1;(by_cases c4 : 0 ≤ a0_0)
  ·rw [if_pos c4] at H;have c4b0 : decide (0 ≤ a0_0) = true:=decide_eq_true c4;clear c4;(by_cases c5 : a0_0 < 17)
   ·rw [if_pos c5] at H;have c5b0 : decide (a0_0 < 17) = true:=decide_eq_true c5;clear c5;(by_cases c7 : (l0_1.length : Int) = (gcount a0_0))
    ·rw [if_pos c7] at H;have c7b0 : ((l0_1.length : Int) == (gcount a0_0)) = true:=beq_iff_eq.mpr c7;have c7b1 : ((l0_1.length : Int) != (gcount a0_0)) = false:=bne_eq_false_iff_eq.mpr c7;clear c7;replace H:=Option.bind_eq_some_iff.mp H;obtain ⟨t247,A80,H⟩:=H;replace H : (if t247 = true then (if (a0_2.size : Int) > 65536 then (some 1) else (if a0_0 = 1 then (some 0) else (if a0_2.toList = ([] : List UInt8) then (some 0) else (some 1)))) else (some 1)) = some r:=H;have A8:=am A80;clear A80;(by_cases c9 : t247 = true)
     ·subst c9;(have H1 : (if (a0_2.size : Int) > 65536 then (some 1) else (if a0_0 = 1 then (some 0) else (if a0_2.toList = ([] : List UInt8) then (some 0) else (some 1)))) = some r:=by rw [if_pos rfl] at H;exact H);clear H;have H:=H1;clear H1;(by_cases c10 : (a0_2.size : Int) > 65536)
      ·rw [if_pos c10] at H;have c10b0 : decide (65536 < (a0_2.size : Int)) = true:=decide_eq_true c10;(have c10b1 : decide (65536 < a0_2.size) = true:=decide_eq_true (by omega));clear c10;obtain rfl:=Option.some.inj H;(go_enter Tryd.func22,Tryd.ntmps22);(try go_wp2_with (first | ((with_reducible refine gate_dst (N:=1) rfl ?_);(try (refine gate_guard (by rfl) ?_;dsimp only));refine box_event ?hg (N:=1) ?hd (cs:=#[.int .i64 a0_0,.slice A0_1 l0_1.length c0_1,.string a0_2]) (t:=46) ?hr ?_;(case hd => rfl);(case hg => rfl);(case hr => first | (go_simp;done) | (go_simp;rfl));intro gb245 hg w11 hbox hb;have BK245:=am (hbox);(have GW245:=am ((by rw [hg];exact (below_size (lo HB.out)) : w.heap.size ≤ gb245)));have GE245:GEc _ _:=⟨((by rw [hg];exact (below_size (lo HB.out)) : w.heap.size ≤ gb245))⟩;replace HB:=am (below_step (lo HB.out) hb);clear hb hbox hg;have hcz12_0 : w11.cell? ⟨gb245,0,none⟩ = some (.int .i64 a0_0):=bc BK245.out 0 rfl;have hcz12_1 : w11.cell? ⟨gb245,1,none⟩ = some (.slice A0_1 l0_1.length c0_1):=bc BK245.out 1 rfl;have hcz12_2 : w11.cell? ⟨gb245,2,none⟩ = some (.string a0_2):=bc BK245.out 2 rfl;have hfz12_0:=blk_frozen BK245.out 0;have hfz12_1:=blk_frozen BK245.out 1;have hfz12_2:=blk_frozen BK245.out 2) | ((with_reducible refine gate_callee (f:=42) rfl ?_);refine goesL_ (some 6) rfl rfl Tryd.func42 (by kernel_rfl) rfl #[.int .i64 a0_0] rfl (by (try simp only [List.map_toArray,List.map_cons,List.map_nil]);first | done | rfl | (simp only [List.length_drop,List.length_take];rfl)) ?_;(with_reducible refine (request_is.calls a0_0 true _ A2.out).mono ?_);rintro e w' ⟨rfl,⟨nd,rfl⟩⟩;refine ⟨_,rfl,?_⟩)));(try (rw [drewN_self w11];generalize hq_ : World.drewN w11 _ = w11;have n0_ : Aside0 (w11.heap[gb245]? = some (.cells #[.int .i64 a0_0,.slice A0_1 l0_1.length c0_1,.string a0_2] 46 (0,0))):=⟨by rw [← hq_];exact bu BK245.out⟩;have n1_ : Aside0 (Below w.heap.size w w11):=⟨by rw [← hq_];exact lo HB.out⟩;clear BK245 HB hq_;have BK245:=n0_;have HB:=n1_;clear n0_ n1_));replace BK245:=am (blk_drew BK245.out);replace HB:=am (below_drew1 HB.out);(have p6 : 0 ≤ (a0_0 : Int):=of_decide_eq_true (by first | (with_reducible assumption) | assumption));(have q6 : a0_0 < (17 : Int):=of_decide_eq_true (by first | (with_reducible assumption) | assumption));(have hx6:=GG.at (GG.below HG.out (by repeat (first | (with_reducible first | exact HB.out | apply below_alloc | apply pw_below_drewN | apply below_drew1) | exact HB.out))) a0_0 p6 q6);replace p6:=eq_true p6;replace q6:=eq_true q6;(refine start_ (n:=31) (S:=fun w' => w'.cell? ⟨gb245,0,none⟩ = some (.int .i64 a0_0) ∧ w'.cell? ⟨gb245,1,none⟩ = some (.slice A0_1 l0_1.length c0_1) ∧ w'.cell? ⟨gb245,2,none⟩ = some (.string a0_2) ∧ w'.cell? ⟨0,a0_0.toNat,none⟩ = some (.int .i64 (gcount a0_0))) (ds:=[]) #[ff,ff,ff,ff,ff,ff,ff,ff,ff,ff,ff,ff,ff,ff,ff,ff,ff,ff,ff,ff,ff,ff,ff,ff,ff,ff,ff,ff,ff,ff,ff] (by kernel_rfl) rfl rfl ⟨bc BK245.out 0 rfl,bc BK245.out 1 rfl,bc BK245.out 2 rfl,hx6⟩ (fun hHeld => ?_);refine with_tabW request_Request_Check.tab3 request_Request_Check.bits3 (fun HT_ HW_ => ?_));(generalize w11.drew = w13 at BK245 HB hHeld ⊢);(refine pure_ (i:=0) (N:=some 9) (v:=?_) (a':=?_) #[tt,ff,ff,ff,ff,ff,ff,ff,ff,ff,ff,ff,ff,ff,ff,ff,ff,ff,ff,ff,ff,ff,ff,ff,ff,ff,ff,ff,ff,ff,ff] rfl rfl (any_of HT_.out (by kernel_rfl)) (fun _ _ _ h => h) (Or.inl ⟨by rfl,?_⟩) ?_ ?_);rotate_left
       ·intro w';(go_simp);(with_reducible rfl)
       rotate_left
       ·simp only [Act.put,sA,sZ,sS,i64_w,i32_w];(rfl)
       (refine pure_ (i:=3) (N:=some 12) (v:=?_) (a':=?_) #[tt,ff,ff,tt,ff,ff,ff,ff,ff,ff,ff,ff,ff,ff,ff,ff,ff,ff,ff,ff,ff,ff,ff,ff,ff,ff,ff,ff,ff,ff,ff] rfl rfl (any_of HT_.out (by kernel_rfl)) (fun _ _ _ h => h) (Or.inl ⟨by rfl,?_⟩) ?_ ?_);rotate_left
       ·intro w';(go_simp);(with_reducible rfl)
       rotate_left
       ·simp only [Act.put,sA,sZ,sS,i64_w,i32_w];(rfl)
       (refine take_ (i:=1) (N:=some 10) (v:=?_) (a':=?_) #[tt,tt,ff,tt,ff,ff,ff,ff,ff,ff,ff,ff,ff,ff,ff,ff,ff,ff,ff,ff,ff,ff,ff,ff,ff,ff,ff,ff,ff,ff,ff] rfl rfl (take_ofW HT_.out HW_.out (by kernel_rfl)) (fun _ _ _ h => h) (Or.inl ⟨by rfl,?_⟩) hHeld ?_ ?_);rotate_left
       ·(rintro w' ⟨s0,s1,s2,s3⟩);(go_simp);(with_reducible rfl)
       rotate_left
       ·simp only [Act.put,sA,sZ,sS,i64_w,i32_w];(rfl)
       (refine pure_ (i:=2) (N:=some 11) (v:=?_) (a':=?_) #[tt,tt,tt,tt,ff,ff,ff,ff,ff,ff,ff,ff,ff,ff,ff,ff,ff,ff,ff,ff,ff,ff,ff,ff,ff,ff,ff,ff,ff,ff,ff] rfl rfl (any_of HT_.out (by kernel_rfl)) (fun _ _ _ h => h) (Or.inl ⟨by rfl,?_⟩) ?_ ?_);rotate_left
       ·intro w';(go_simp);(with_reducible rfl)
       rotate_left
       ·simp only [Act.put,sA,sZ,sS,i64_w,i32_w];(rfl)
       (refine take_ (i:=4) (N:=some 13) (v:=?_) (a':=?_) #[tt,tt,tt,tt,tt,ff,ff,ff,ff,ff,ff,ff,ff,ff,ff,ff,ff,ff,ff,ff,ff,ff,ff,ff,ff,ff,ff,ff,ff,ff,ff] rfl rfl (take_ofW HT_.out HW_.out (by kernel_rfl)) (fun _ _ _ h => h) (Or.inl ⟨by rfl,?_⟩) hHeld ?_ ?_);rotate_left
       ·(rintro w' ⟨s0,s1,s2,s3⟩);(go_simp);(with_reducible rfl)
       rotate_left
       ·simp only [Act.put,sA,sZ,sS,i64_w,i32_w];(rfl)
       (refine take_ (i:=5) (N:=some 14) (v:=?_) (a':=?_) #[tt,tt,tt,tt,tt,tt,ff,ff,ff,ff,ff,ff,ff,ff,ff,ff,ff,ff,ff,ff,ff,ff,ff,ff,ff,ff,ff,ff,ff,ff,ff] rfl rfl (take_ofW HT_.out HW_.out (by kernel_rfl)) (fun _ _ _ h => h) (Or.inl ⟨by rfl,?_⟩) hHeld ?_ ?_);rotate_left
       ·(rintro w' ⟨s0,s1,s2,s3⟩);(go_simp);(with_reducible rfl)
       rotate_left
       ·simp only [Act.put,sA,sZ,sS,i64_w,i32_w];(rfl)
       (refine take_ (i:=6) (N:=some 15) (v:=?_) (a':=?_) #[tt,tt,tt,tt,tt,tt,tt,ff,ff,ff,ff,ff,ff,ff,ff,ff,ff,ff,ff,ff,ff,ff,ff,ff,ff,ff,ff,ff,ff,ff,ff] rfl rfl (take_ofW HT_.out HW_.out (by kernel_rfl)) (fun _ _ _ h => h) (Or.inl ⟨by rfl,?_⟩) hHeld ?_ ?_);rotate_left
       ·(rintro w' ⟨s0,s1,s2,s3⟩);(go_simp);(with_reducible rfl)
       rotate_left
       ·simp only [Act.put,sA,sZ,sS,i64_w,i32_w];(rfl)
       (refine pure_ (i:=7) (N:=some 16) (v:=?_) (a':=?_) #[tt,tt,tt,tt,tt,tt,tt,tt,ff,ff,ff,ff,ff,ff,ff,ff,ff,ff,ff,ff,ff,ff,ff,ff,ff,ff,ff,ff,ff,ff,ff] rfl rfl (any_of HT_.out (by kernel_rfl)) (fun _ _ _ h => h) (Or.inl ⟨by rfl,?_⟩) ?_ ?_);rotate_left
       ·intro w';(go_simp);(with_reducible rfl)
       rotate_left
       ·simp only [Act.put,sA,sZ,sS,i64_w,i32_w];(rfl)
       (refine pure_ (i:=8) (N:=some 17) (v:=?_) (a':=?_) #[tt,tt,tt,tt,tt,tt,tt,tt,tt,ff,ff,ff,ff,ff,ff,ff,ff,ff,ff,ff,ff,ff,ff,ff,ff,ff,ff,ff,ff,ff,ff] rfl rfl (any_of HT_.out (by kernel_rfl)) (fun _ _ _ h => h) (Or.inl ⟨by rfl,?_⟩) ?_ ?_);rotate_left
       ·intro w';(go_simp);(with_reducible rfl)
       rotate_left
       ·simp only [Act.put,sA,sZ,sS,i64_w,i32_w];(rfl)
       (refine pure_ (i:=9) (N:=some 18) (v:=?_) (a':=?_) #[tt,tt,tt,tt,tt,tt,tt,tt,tt,tt,ff,ff,ff,ff,ff,ff,ff,ff,ff,ff,ff,ff,ff,ff,ff,ff,ff,ff,ff,ff,ff] rfl rfl (any_of HT_.out (by kernel_rfl)) (fun _ _ _ h => h) (Or.inl ⟨by rfl,?_⟩) ?_ ?_);rotate_left
       ·intro w';(go_simp);(with_reducible rfl)
       rotate_left
       ·simp only [Act.put,sA,sZ,sS,i64_w,i32_w];(rfl)
       (refine take_ (i:=10) (N:=some 19) (v:=?_) (a':=?_) #[tt,tt,tt,tt,tt,tt,tt,tt,tt,tt,tt,ff,ff,ff,ff,ff,ff,ff,ff,ff,ff,ff,ff,ff,ff,ff,ff,ff,ff,ff,ff] rfl rfl (take_ofW HT_.out HW_.out (by kernel_rfl)) (fun _ _ _ h => h) (Or.inl ⟨by rfl,?_⟩) hHeld ?_ ?_);rotate_left
       ·(rintro w' ⟨s0,s1,s2,s3⟩);(go_simp);(with_reducible rfl)
       rotate_left
       ·simp only [Act.put,sA,sZ,sS,i64_w,i32_w];(rfl)
       (refine one_ (i:=11) (N:=some 20) #[tt,tt,tt,tt,tt,tt,tt,tt,tt,tt,tt,tt,ff,ff,ff,ff,ff,ff,ff,ff,ff,ff,ff,ff,ff,ff,ff,ff,ff,ff,ff] rfl rfl (one_of HT_.out (by kernel_rfl)) (by decide) (fun K hK => ?_));(refine goes_ Tryd.func39 (by kernel_rfl) rfl #[.slice A0_1 l0_1.length c0_1] (by rfl) rfl rfl (by (try simp only [List.map_toArray,List.map_cons,List.map_nil]);first | done | rfl | (simp only [List.length_drop,List.length_take];rfl)) ?_);(with_reducible refine (request_numbers.calls _ _ l0_1 true _ ?side1 ?side2 A8.out).mono ?_);(case side1 => exact cu (Kd.C_below HR0_1.out HB.out));(case side2 => exact HC0_1.out);(rintro e w' ⟨rfl,⟨nd,rfl⟩⟩);(refine ⟨_,rfl,?_⟩);(refine hK.out _ _ ⟨bc BK245.out 0 rfl,bc BK245.out 1 rfl,bc BK245.out 2 rfl,GG.at (GG.below HG.out (by repeat (first | (with_reducible first | exact HB.out | apply below_alloc | apply pw_below_drewN | apply below_drew1) | exact HB.out))) a0_0 (of_eq_true p6) (of_eq_true q6)⟩ (fun hHeld => ?_));clear hK K;(refine norm_ (a':=?_) ?_ ?_);rotate_left
       ·(show Act.put _ (some 20) _ = _);simp only [Act.put,sA,sZ,sS,i64_w,i32_w];(rfl)
       (refine pure_ (i:=12) (N:=some 21) (v:=?_) (a':=?_) #[tt,tt,tt,tt,tt,tt,tt,tt,tt,tt,tt,tt,tt,ff,ff,ff,ff,ff,ff,ff,ff,ff,ff,ff,ff,ff,ff,ff,ff,ff,ff] rfl rfl (any_of HT_.out (by kernel_rfl)) (fun _ _ _ h => h) (Or.inl ⟨by rfl,?_⟩) ?_ ?_);rotate_left
       ·intro w';(go_simp);(with_reducible rfl)
       rotate_left
       ·simp only [Act.put,sA,sZ,sS,i64_w,i32_w];(rfl)
       (refine pure_ (i:=13) (N:=some 22) (v:=?_) (a':=?_) #[tt,tt,tt,tt,tt,tt,tt,tt,tt,tt,tt,tt,tt,tt,ff,ff,ff,ff,ff,ff,ff,ff,ff,ff,ff,ff,ff,ff,ff,ff,ff] rfl rfl (any_of HT_.out (by kernel_rfl)) (fun _ _ _ h => h) (Or.inl ⟨by rfl,?_⟩) ?_ ?_);rotate_left
       ·intro w';(go_simp);(with_reducible rfl)
       rotate_left
       ·simp only [Act.put,sA,sZ,sS,i64_w,i32_w];(rfl)
       (refine pure_ (i:=14) (N:=some 23) (v:=?_) (a':=?_) #[tt,tt,tt,tt,tt,tt,tt,tt,tt,tt,tt,tt,tt,tt,tt,ff,ff,ff,ff,ff,ff,ff,ff,ff,ff,ff,ff,ff,ff,ff,ff] rfl rfl (any_of HT_.out (by kernel_rfl)) (fun _ _ _ h => h) (Or.inl ⟨by rfl,?_⟩) ?_ ?_);rotate_left
       ·intro w';(go_simp);(with_reducible rfl)
       rotate_left
       ·simp only [Act.put,sA,sZ,sS,i64_w,i32_w];(rfl)
       (refine pure_ (i:=15) (N:=some 24) (v:=?_) (a':=?_) #[tt,tt,tt,tt,tt,tt,tt,tt,tt,tt,tt,tt,tt,tt,tt,tt,ff,ff,ff,ff,ff,ff,ff,ff,ff,ff,ff,ff,ff,ff,ff] rfl rfl (any_of HT_.out (by kernel_rfl)) (fun _ _ _ h => h) (Or.inl ⟨by rfl,?_⟩) ?_ ?_);rotate_left
       ·intro w';(go_simp);(with_reducible rfl)
       rotate_left
       ·simp only [Act.put,sA,sZ,sS,i64_w,i32_w];(rfl)
       (refine take_ (i:=16) (N:=some 25) (v:=?_) (a':=?_) #[tt,tt,tt,tt,tt,tt,tt,tt,tt,tt,tt,tt,tt,tt,tt,tt,tt,ff,ff,ff,ff,ff,ff,ff,ff,ff,ff,ff,ff,ff,ff] rfl rfl (take_ofW HT_.out HW_.out (by kernel_rfl)) (fun _ _ _ h => h) (Or.inl ⟨by rfl,?_⟩) hHeld ?_ ?_);rotate_left
       ·(rintro w' ⟨s0,s1,s2,s3⟩);(go_simp);(with_reducible rfl)
       rotate_left
       ·simp only [Act.put,sA,sZ,sS,i64_w,i32_w];(rfl)
       (refine pure_ (i:=17) (N:=some 26) (v:=?_) (a':=?_) #[tt,tt,tt,tt,tt,tt,tt,tt,tt,tt,tt,tt,tt,tt,tt,tt,tt,tt,ff,ff,ff,ff,ff,ff,ff,ff,ff,ff,ff,ff,ff] rfl rfl (any_of HT_.out (by kernel_rfl)) (fun _ _ _ h => h) (Or.inl ⟨by rfl,?_⟩) ?_ ?_);rotate_left
       ·intro w';(go_simp);(with_reducible rfl)
       rotate_left
       ·simp only [Act.put,sA,sZ,sS,i64_w,i32_w];(rfl)
       (refine pure_ (i:=18) (N:=some 27) (v:=?_) (a':=?_) #[tt,tt,tt,tt,tt,tt,tt,tt,tt,tt,tt,tt,tt,tt,tt,tt,tt,tt,tt,ff,ff,ff,ff,ff,ff,ff,ff,ff,ff,ff,ff] rfl rfl (any_of HT_.out (by kernel_rfl)) (fun _ _ _ h => h) (Or.inl ⟨by rfl,?_⟩) ?_ ?_);rotate_left
       ·intro w';(go_simp);(with_reducible rfl)
       rotate_left
       ·simp only [Act.put,sA,sZ,sS,i64_w,i32_w];(rfl)
       (refine pure_ (i:=19) (N:=some 28) (v:=?_) (a':=?_) #[tt,tt,tt,tt,tt,tt,tt,tt,tt,tt,tt,tt,tt,tt,tt,tt,tt,tt,tt,tt,ff,ff,ff,ff,ff,ff,ff,ff,ff,ff,ff] rfl rfl (any_of HT_.out (by kernel_rfl)) (fun _ _ _ h => h) (Or.inl ⟨by rfl,?_⟩) ?_ ?_);rotate_left
       ·intro w';(go_simp);(with_reducible rfl)
       rotate_left
       ·simp only [Act.put,sA,sZ,sS,i64_w,i32_w];(rfl)
       (refine pure_ (i:=20) (N:=some 29) (v:=?_) (a':=?_) #[tt,tt,tt,tt,tt,tt,tt,tt,tt,tt,tt,tt,tt,tt,tt,tt,tt,tt,tt,tt,tt,ff,ff,ff,ff,ff,ff,ff,ff,ff,ff] rfl rfl (any_of HT_.out (by kernel_rfl)) (fun _ _ _ h => h) (Or.inl ⟨by rfl,?_⟩) ?_ ?_);rotate_left
       ·intro w';(go_simp);(with_reducible rfl)
       rotate_left
       ·simp only [Act.put,sA,sZ,sS,i64_w,i32_w];(rfl)
       (refine pure_ (i:=21) (N:=some 30) (v:=undef) (a':=?_) #[tt,tt,tt,tt,tt,tt,tt,tt,tt,tt,tt,tt,tt,tt,tt,tt,tt,tt,tt,tt,tt,tt,ff,ff,ff,ff,ff,ff,ff,ff,ff] rfl rfl (any_of HT_.out (by kernel_rfl)) (fun _ _ _ h => h) (Or.inr ⟨by rfl,rfl⟩) ?_ ?_);rotate_left
       ·simp only [Act.put,sA,sZ,sS,i64_w,i32_w];(rfl)
       (refine pure_ (i:=22) (N:=some 31) (v:=undef) (a':=?_) #[tt,tt,tt,tt,tt,tt,tt,tt,tt,tt,tt,tt,tt,tt,tt,tt,tt,tt,tt,tt,tt,tt,tt,ff,ff,ff,ff,ff,ff,ff,ff] rfl rfl (any_of HT_.out (by kernel_rfl)) (fun _ _ _ h => h) (Or.inr ⟨by rfl,rfl⟩) ?_ ?_);rotate_left
       ·simp only [Act.put,sA,sZ,sS,i64_w,i32_w];(rfl)
       (refine pure_ (i:=23) (N:=some 32) (v:=undef) (a':=?_) #[tt,tt,tt,tt,tt,tt,tt,tt,tt,tt,tt,tt,tt,tt,tt,tt,tt,tt,tt,tt,tt,tt,tt,tt,ff,ff,ff,ff,ff,ff,ff] rfl rfl (any_of HT_.out (by kernel_rfl)) (fun _ _ _ h => h) (Or.inr ⟨by rfl,rfl⟩) ?_ ?_);rotate_left
       ·simp only [Act.put,sA,sZ,sS,i64_w,i32_w];(rfl)
       (refine pure_ (i:=24) (N:=some 33) (v:=undef) (a':=?_) #[tt,tt,tt,tt,tt,tt,tt,tt,tt,tt,tt,tt,tt,tt,tt,tt,tt,tt,tt,tt,tt,tt,tt,tt,tt,ff,ff,ff,ff,ff,ff] rfl rfl (any_of HT_.out (by kernel_rfl)) (fun _ _ _ h => h) (Or.inr ⟨by rfl,rfl⟩) ?_ ?_);rotate_left
       ·simp only [Act.put,sA,sZ,sS,i64_w,i32_w];(rfl)
       (refine pure_ (i:=25) (N:=some 34) (v:=undef) (a':=?_) #[tt,tt,tt,tt,tt,tt,tt,tt,tt,tt,tt,tt,tt,tt,tt,tt,tt,tt,tt,tt,tt,tt,tt,tt,tt,tt,ff,ff,ff,ff,ff] rfl rfl (any_of HT_.out (by kernel_rfl)) (fun _ _ _ h => h) (Or.inr ⟨by rfl,rfl⟩) ?_ ?_);rotate_left
       ·simp only [Act.put,sA,sZ,sS,i64_w,i32_w];(rfl)
       (refine pure_ (i:=26) (N:=some 35) (v:=undef) (a':=?_) #[tt,tt,tt,tt,tt,tt,tt,tt,tt,tt,tt,tt,tt,tt,tt,tt,tt,tt,tt,tt,tt,tt,tt,tt,tt,tt,tt,ff,ff,ff,ff] rfl rfl (any_of HT_.out (by kernel_rfl)) (fun _ _ _ h => h) (Or.inr ⟨by rfl,rfl⟩) ?_ ?_);rotate_left
       ·simp only [Act.put,sA,sZ,sS,i64_w,i32_w];(rfl)
       (refine pure_ (i:=27) (N:=some 36) (v:=undef) (a':=?_) #[tt,tt,tt,tt,tt,tt,tt,tt,tt,tt,tt,tt,tt,tt,tt,tt,tt,tt,tt,tt,tt,tt,tt,tt,tt,tt,tt,tt,ff,ff,ff] rfl rfl (any_of HT_.out (by kernel_rfl)) (fun _ _ _ h => h) (Or.inr ⟨by rfl,rfl⟩) ?_ ?_);rotate_left
       ·simp only [Act.put,sA,sZ,sS,i64_w,i32_w];(rfl)
       (refine pure_ (i:=28) (N:=some 37) (v:=undef) (a':=?_) #[tt,tt,tt,tt,tt,tt,tt,tt,tt,tt,tt,tt,tt,tt,tt,tt,tt,tt,tt,tt,tt,tt,tt,tt,tt,tt,tt,tt,tt,ff,ff] rfl rfl (any_of HT_.out (by kernel_rfl)) (fun _ _ _ h => h) (Or.inr ⟨by rfl,rfl⟩) ?_ ?_);rotate_left
       ·simp only [Act.put,sA,sZ,sS,i64_w,i32_w];(rfl)
       (refine pure_ (i:=29) (N:=some 38) (v:=?_) (a':=?_) #[tt,tt,tt,tt,tt,tt,tt,tt,tt,tt,tt,tt,tt,tt,tt,tt,tt,tt,tt,tt,tt,tt,tt,tt,tt,tt,tt,tt,tt,tt,ff] rfl rfl (any_of HT_.out (by kernel_rfl)) (fun _ _ _ h => h) (Or.inl ⟨by rfl,?_⟩) ?_ ?_);rotate_left
       ·intro w';(go_simp);(with_reducible rfl)
       rotate_left
       ·simp only [Act.put,sA,sZ,sS,i64_w,i32_w];(rfl)
       (refine pure_ (i:=30) (N:=some 8) (v:=?_) (a':=?_) #[tt,tt,tt,tt,tt,tt,tt,tt,tt,tt,tt,tt,tt,tt,tt,tt,tt,tt,tt,tt,tt,tt,tt,tt,tt,tt,tt,tt,tt,tt,tt] rfl rfl (any_of HT_.out (by kernel_rfl)) (fun _ _ _ h => h) (Or.inl ⟨by rfl,?_⟩) ?_ ?_);rotate_left
       ·intro w';(go_simp);(with_reducible rfl)
       rotate_left
       ·simp only [Act.put,sA,sZ,sS,i64_w,i32_w];(rfl)
       (refine done_ (done_of HT_.out (by kernel_rfl)) ?_);(try go_wp2);(go_ret);(exact ⟨by first | rfl | (simp [errW_none,errW_some] <;> rfl) | (simp [*,errW_none,errW_some] <;> rfl),lo HB.out⟩)
      ·rw [if_neg c10] at H;have c10b0 : decide (65536 < (a0_2.size : Int)) = false:=decide_eq_false c10;(have c10b1 : decide (65536 < a0_2.size) = false:=decide_eq_false (by omega));clear c10;(by_cases c14 : a0_0 = 1)
       ·rw [if_pos c14] at H;have c14b0 : (a0_0 == 1) = true:=beq_iff_eq.mpr c14;have c14b1 : (a0_0 != 1) = false:=bne_eq_false_iff_eq.mpr c14;clear c14;obtain rfl:=Option.some.inj H;(go_enter Tryd.func22,Tryd.ntmps22);(try go_wp2_with (first | ((with_reducible refine gate_dst (N:=1) rfl ?_);(try (refine gate_guard (by rfl) ?_;dsimp only));refine box_event ?hg (N:=1) ?hd (cs:=#[.int .i64 a0_0,.slice A0_1 l0_1.length c0_1,.string a0_2]) (t:=46) ?hr ?_;(case hd => rfl);(case hg => rfl);(case hr => first | (go_simp;done) | (go_simp;rfl));intro gb245 hg w15 hbox hb;have BK245:=am (hbox);(have GW245:=am ((by rw [hg];exact (below_size (lo HB.out)) : w.heap.size ≤ gb245)));have GE245:GEc _ _:=⟨((by rw [hg];exact (below_size (lo HB.out)) : w.heap.size ≤ gb245))⟩;replace HB:=am (below_step (lo HB.out) hb);clear hb hbox hg;have hcz16_0 : w15.cell? ⟨gb245,0,none⟩ = some (.int .i64 a0_0):=bc BK245.out 0 rfl;have hcz16_1 : w15.cell? ⟨gb245,1,none⟩ = some (.slice A0_1 l0_1.length c0_1):=bc BK245.out 1 rfl;have hcz16_2 : w15.cell? ⟨gb245,2,none⟩ = some (.string a0_2):=bc BK245.out 2 rfl;have hfz16_0:=blk_frozen BK245.out 0;have hfz16_1:=blk_frozen BK245.out 1;have hfz16_2:=blk_frozen BK245.out 2) | ((with_reducible refine gate_callee (f:=42) rfl ?_);refine goesL_ (some 6) rfl rfl Tryd.func42 (by kernel_rfl) rfl #[.int .i64 a0_0] rfl (by (try simp only [List.map_toArray,List.map_cons,List.map_nil]);first | done | rfl | (simp only [List.length_drop,List.length_take];rfl)) ?_;(with_reducible refine (request_is.calls a0_0 true _ A2.out).mono ?_);rintro e w' ⟨rfl,⟨nd,rfl⟩⟩;refine ⟨_,rfl,?_⟩)));(try (rw [drewN_self w15];generalize hq_ : World.drewN w15 _ = w15;have n0_ : Aside0 (w15.heap[gb245]? = some (.cells #[.int .i64 a0_0,.slice A0_1 l0_1.length c0_1,.string a0_2] 46 (0,0))):=⟨by rw [← hq_];exact bu BK245.out⟩;have n1_ : Aside0 (Below w.heap.size w w15):=⟨by rw [← hq_];exact lo HB.out⟩;clear BK245 HB hq_;have BK245:=n0_;have HB:=n1_;clear n0_ n1_));replace BK245:=am (blk_drew BK245.out);replace HB:=am (below_drew1 HB.out);(have p6 : 0 ≤ (a0_0 : Int):=of_decide_eq_true (by first | (with_reducible assumption) | assumption));(have q6 : a0_0 < (17 : Int):=of_decide_eq_true (by first | (with_reducible assumption) | assumption));(have hx6:=GG.at (GG.below HG.out (by repeat (first | (with_reducible first | exact HB.out | apply below_alloc | apply pw_below_drewN | apply below_drew1) | exact HB.out))) a0_0 p6 q6);replace p6:=eq_true p6;replace q6:=eq_true q6;(refine start_ (n:=31) (S:=fun w' => w'.cell? ⟨gb245,0,none⟩ = some (.int .i64 a0_0) ∧ w'.cell? ⟨gb245,1,none⟩ = some (.slice A0_1 l0_1.length c0_1) ∧ w'.cell? ⟨gb245,2,none⟩ = some (.string a0_2) ∧ w'.cell? ⟨0,a0_0.toNat,none⟩ = some (.int .i64 (gcount a0_0))) (ds:=[]) #[ff,ff,ff,ff,ff,ff,ff,ff,ff,ff,ff,ff,ff,ff,ff,ff,ff,ff,ff,ff,ff,ff,ff,ff,ff,ff,ff,ff,ff,ff,ff] (by kernel_rfl) rfl rfl ⟨bc BK245.out 0 rfl,bc BK245.out 1 rfl,bc BK245.out 2 rfl,hx6⟩ (fun hHeld => ?_);refine with_tabW request_Request_Check.tab3 request_Request_Check.bits3 (fun HT_ HW_ => ?_));(generalize w15.drew = w17 at BK245 HB hHeld ⊢);(refine pure_ (i:=0) (N:=some 9) (v:=?_) (a':=?_) #[tt,ff,ff,ff,ff,ff,ff,ff,ff,ff,ff,ff,ff,ff,ff,ff,ff,ff,ff,ff,ff,ff,ff,ff,ff,ff,ff,ff,ff,ff,ff] rfl rfl (any_of HT_.out (by kernel_rfl)) (fun _ _ _ h => h) (Or.inl ⟨by rfl,?_⟩) ?_ ?_);rotate_left
        ·intro w';(go_simp);(with_reducible rfl)
        rotate_left
        ·simp only [Act.put,sA,sZ,sS,i64_w,i32_w];(rfl)
        (refine pure_ (i:=3) (N:=some 12) (v:=?_) (a':=?_) #[tt,ff,ff,tt,ff,ff,ff,ff,ff,ff,ff,ff,ff,ff,ff,ff,ff,ff,ff,ff,ff,ff,ff,ff,ff,ff,ff,ff,ff,ff,ff] rfl rfl (any_of HT_.out (by kernel_rfl)) (fun _ _ _ h => h) (Or.inl ⟨by rfl,?_⟩) ?_ ?_);rotate_left
        ·intro w';(go_simp);(with_reducible rfl)
        rotate_left
        ·simp only [Act.put,sA,sZ,sS,i64_w,i32_w];(rfl)
        (refine take_ (i:=1) (N:=some 10) (v:=?_) (a':=?_) #[tt,tt,ff,tt,ff,ff,ff,ff,ff,ff,ff,ff,ff,ff,ff,ff,ff,ff,ff,ff,ff,ff,ff,ff,ff,ff,ff,ff,ff,ff,ff] rfl rfl (take_ofW HT_.out HW_.out (by kernel_rfl)) (fun _ _ _ h => h) (Or.inl ⟨by rfl,?_⟩) hHeld ?_ ?_);rotate_left
        ·(rintro w' ⟨s0,s1,s2,s3⟩);(go_simp);(with_reducible rfl)
        rotate_left
        ·simp only [Act.put,sA,sZ,sS,i64_w,i32_w];(rfl)
        (refine pure_ (i:=2) (N:=some 11) (v:=?_) (a':=?_) #[tt,tt,tt,tt,ff,ff,ff,ff,ff,ff,ff,ff,ff,ff,ff,ff,ff,ff,ff,ff,ff,ff,ff,ff,ff,ff,ff,ff,ff,ff,ff] rfl rfl (any_of HT_.out (by kernel_rfl)) (fun _ _ _ h => h) (Or.inl ⟨by rfl,?_⟩) ?_ ?_);rotate_left
        ·intro w';(go_simp);(with_reducible rfl)
        rotate_left
        ·simp only [Act.put,sA,sZ,sS,i64_w,i32_w];(rfl)
        (refine take_ (i:=4) (N:=some 13) (v:=?_) (a':=?_) #[tt,tt,tt,tt,tt,ff,ff,ff,ff,ff,ff,ff,ff,ff,ff,ff,ff,ff,ff,ff,ff,ff,ff,ff,ff,ff,ff,ff,ff,ff,ff] rfl rfl (take_ofW HT_.out HW_.out (by kernel_rfl)) (fun _ _ _ h => h) (Or.inl ⟨by rfl,?_⟩) hHeld ?_ ?_);rotate_left
        ·(rintro w' ⟨s0,s1,s2,s3⟩);(go_simp);(with_reducible rfl)
        rotate_left
        ·simp only [Act.put,sA,sZ,sS,i64_w,i32_w];(rfl)
        (refine take_ (i:=5) (N:=some 14) (v:=?_) (a':=?_) #[tt,tt,tt,tt,tt,tt,ff,ff,ff,ff,ff,ff,ff,ff,ff,ff,ff,ff,ff,ff,ff,ff,ff,ff,ff,ff,ff,ff,ff,ff,ff] rfl rfl (take_ofW HT_.out HW_.out (by kernel_rfl)) (fun _ _ _ h => h) (Or.inl ⟨by rfl,?_⟩) hHeld ?_ ?_);rotate_left
        ·(rintro w' ⟨s0,s1,s2,s3⟩);(go_simp);(with_reducible rfl)
        rotate_left
        ·simp only [Act.put,sA,sZ,sS,i64_w,i32_w];(rfl)
        (refine take_ (i:=6) (N:=some 15) (v:=?_) (a':=?_) #[tt,tt,tt,tt,tt,tt,tt,ff,ff,ff,ff,ff,ff,ff,ff,ff,ff,ff,ff,ff,ff,ff,ff,ff,ff,ff,ff,ff,ff,ff,ff] rfl rfl (take_ofW HT_.out HW_.out (by kernel_rfl)) (fun _ _ _ h => h) (Or.inl ⟨by rfl,?_⟩) hHeld ?_ ?_);rotate_left
        ·(rintro w' ⟨s0,s1,s2,s3⟩);(go_simp);(with_reducible rfl)
        rotate_left
        ·simp only [Act.put,sA,sZ,sS,i64_w,i32_w];(rfl)
        (refine pure_ (i:=7) (N:=some 16) (v:=?_) (a':=?_) #[tt,tt,tt,tt,tt,tt,tt,tt,ff,ff,ff,ff,ff,ff,ff,ff,ff,ff,ff,ff,ff,ff,ff,ff,ff,ff,ff,ff,ff,ff,ff] rfl rfl (any_of HT_.out (by kernel_rfl)) (fun _ _ _ h => h) (Or.inl ⟨by rfl,?_⟩) ?_ ?_);rotate_left
        ·intro w';(go_simp);(with_reducible rfl)
        rotate_left
        ·simp only [Act.put,sA,sZ,sS,i64_w,i32_w];(rfl)
        (refine pure_ (i:=8) (N:=some 17) (v:=?_) (a':=?_) #[tt,tt,tt,tt,tt,tt,tt,tt,tt,ff,ff,ff,ff,ff,ff,ff,ff,ff,ff,ff,ff,ff,ff,ff,ff,ff,ff,ff,ff,ff,ff] rfl rfl (any_of HT_.out (by kernel_rfl)) (fun _ _ _ h => h) (Or.inl ⟨by rfl,?_⟩) ?_ ?_);rotate_left
        ·intro w';(go_simp);(with_reducible rfl)
        rotate_left
        ·simp only [Act.put,sA,sZ,sS,i64_w,i32_w];(rfl)
        (refine pure_ (i:=9) (N:=some 18) (v:=?_) (a':=?_) #[tt,tt,tt,tt,tt,tt,tt,tt,tt,tt,ff,ff,ff,ff,ff,ff,ff,ff,ff,ff,ff,ff,ff,ff,ff,ff,ff,ff,ff,ff,ff] rfl rfl (any_of HT_.out (by kernel_rfl)) (fun _ _ _ h => h) (Or.inl ⟨by rfl,?_⟩) ?_ ?_);rotate_left
        ·intro w';(go_simp);(with_reducible rfl)
        rotate_left
        ·simp only [Act.put,sA,sZ,sS,i64_w,i32_w];(rfl)
        (refine take_ (i:=10) (N:=some 19) (v:=?_) (a':=?_) #[tt,tt,tt,tt,tt,tt,tt,tt,tt,tt,tt,ff,ff,ff,ff,ff,ff,ff,ff,ff,ff,ff,ff,ff,ff,ff,ff,ff,ff,ff,ff] rfl rfl (take_ofW HT_.out HW_.out (by kernel_rfl)) (fun _ _ _ h => h) (Or.inl ⟨by rfl,?_⟩) hHeld ?_ ?_);rotate_left
        ·(rintro w' ⟨s0,s1,s2,s3⟩);(go_simp);(with_reducible rfl)
        rotate_left
        ·simp only [Act.put,sA,sZ,sS,i64_w,i32_w];(rfl)
        (refine one_ (i:=11) (N:=some 20) #[tt,tt,tt,tt,tt,tt,tt,tt,tt,tt,tt,tt,ff,ff,ff,ff,ff,ff,ff,ff,ff,ff,ff,ff,ff,ff,ff,ff,ff,ff,ff] rfl rfl (one_of HT_.out (by kernel_rfl)) (by decide) (fun K hK => ?_));(refine goes_ Tryd.func39 (by kernel_rfl) rfl #[.slice A0_1 l0_1.length c0_1] (by rfl) rfl rfl (by (try simp only [List.map_toArray,List.map_cons,List.map_nil]);first | done | rfl | (simp only [List.length_drop,List.length_take];rfl)) ?_);(with_reducible refine (request_numbers.calls _ _ l0_1 true _ ?side1 ?side2 A8.out).mono ?_);(case side1 => exact cu (Kd.C_below HR0_1.out HB.out));(case side2 => exact HC0_1.out);(rintro e w' ⟨rfl,⟨nd,rfl⟩⟩);(refine ⟨_,rfl,?_⟩);(refine hK.out _ _ ⟨bc BK245.out 0 rfl,bc BK245.out 1 rfl,bc BK245.out 2 rfl,GG.at (GG.below HG.out (by repeat (first | (with_reducible first | exact HB.out | apply below_alloc | apply pw_below_drewN | apply below_drew1) | exact HB.out))) a0_0 (of_eq_true p6) (of_eq_true q6)⟩ (fun hHeld => ?_));clear hK K;(refine norm_ (a':=?_) ?_ ?_);rotate_left
        ·(show Act.put _ (some 20) _ = _);simp only [Act.put,sA,sZ,sS,i64_w,i32_w];(rfl)
        (refine pure_ (i:=12) (N:=some 21) (v:=?_) (a':=?_) #[tt,tt,tt,tt,tt,tt,tt,tt,tt,tt,tt,tt,tt,ff,ff,ff,ff,ff,ff,ff,ff,ff,ff,ff,ff,ff,ff,ff,ff,ff,ff] rfl rfl (any_of HT_.out (by kernel_rfl)) (fun _ _ _ h => h) (Or.inl ⟨by rfl,?_⟩) ?_ ?_);rotate_left
        ·intro w';(go_simp);(with_reducible rfl)
        rotate_left
        ·simp only [Act.put,sA,sZ,sS,i64_w,i32_w];(rfl)
        (refine pure_ (i:=13) (N:=some 22) (v:=?_) (a':=?_) #[tt,tt,tt,tt,tt,tt,tt,tt,tt,tt,tt,tt,tt,tt,ff,ff,ff,ff,ff,ff,ff,ff,ff,ff,ff,ff,ff,ff,ff,ff,ff] rfl rfl (any_of HT_.out (by kernel_rfl)) (fun _ _ _ h => h) (Or.inl ⟨by rfl,?_⟩) ?_ ?_);rotate_left
        ·intro w';(go_simp);(with_reducible rfl)
        rotate_left
        ·simp only [Act.put,sA,sZ,sS,i64_w,i32_w];(rfl)
        (refine pure_ (i:=14) (N:=some 23) (v:=?_) (a':=?_) #[tt,tt,tt,tt,tt,tt,tt,tt,tt,tt,tt,tt,tt,tt,tt,ff,ff,ff,ff,ff,ff,ff,ff,ff,ff,ff,ff,ff,ff,ff,ff] rfl rfl (any_of HT_.out (by kernel_rfl)) (fun _ _ _ h => h) (Or.inl ⟨by rfl,?_⟩) ?_ ?_);rotate_left
        ·intro w';(go_simp);(with_reducible rfl)
        rotate_left
        ·simp only [Act.put,sA,sZ,sS,i64_w,i32_w];(rfl)
        (refine pure_ (i:=15) (N:=some 24) (v:=?_) (a':=?_) #[tt,tt,tt,tt,tt,tt,tt,tt,tt,tt,tt,tt,tt,tt,tt,tt,ff,ff,ff,ff,ff,ff,ff,ff,ff,ff,ff,ff,ff,ff,ff] rfl rfl (any_of HT_.out (by kernel_rfl)) (fun _ _ _ h => h) (Or.inl ⟨by rfl,?_⟩) ?_ ?_);rotate_left
        ·intro w';(go_simp);(with_reducible rfl)
        rotate_left
        ·simp only [Act.put,sA,sZ,sS,i64_w,i32_w];(rfl)
        (refine take_ (i:=16) (N:=some 25) (v:=?_) (a':=?_) #[tt,tt,tt,tt,tt,tt,tt,tt,tt,tt,tt,tt,tt,tt,tt,tt,tt,ff,ff,ff,ff,ff,ff,ff,ff,ff,ff,ff,ff,ff,ff] rfl rfl (take_ofW HT_.out HW_.out (by kernel_rfl)) (fun _ _ _ h => h) (Or.inl ⟨by rfl,?_⟩) hHeld ?_ ?_);rotate_left
        ·(rintro w' ⟨s0,s1,s2,s3⟩);(go_simp);(with_reducible rfl)
        rotate_left
        ·simp only [Act.put,sA,sZ,sS,i64_w,i32_w];(rfl)
        (refine pure_ (i:=17) (N:=some 26) (v:=?_) (a':=?_) #[tt,tt,tt,tt,tt,tt,tt,tt,tt,tt,tt,tt,tt,tt,tt,tt,tt,tt,ff,ff,ff,ff,ff,ff,ff,ff,ff,ff,ff,ff,ff] rfl rfl (any_of HT_.out (by kernel_rfl)) (fun _ _ _ h => h) (Or.inl ⟨by rfl,?_⟩) ?_ ?_);rotate_left
        ·intro w';(go_simp);(with_reducible rfl)
        rotate_left
        ·simp only [Act.put,sA,sZ,sS,i64_w,i32_w];(rfl)
        (refine pure_ (i:=18) (N:=some 27) (v:=?_) (a':=?_) #[tt,tt,tt,tt,tt,tt,tt,tt,tt,tt,tt,tt,tt,tt,tt,tt,tt,tt,tt,ff,ff,ff,ff,ff,ff,ff,ff,ff,ff,ff,ff] rfl rfl (any_of HT_.out (by kernel_rfl)) (fun _ _ _ h => h) (Or.inl ⟨by rfl,?_⟩) ?_ ?_);rotate_left
        ·intro w';(go_simp);(with_reducible rfl)
        rotate_left
        ·simp only [Act.put,sA,sZ,sS,i64_w,i32_w];(rfl)
        (refine pure_ (i:=19) (N:=some 28) (v:=?_) (a':=?_) #[tt,tt,tt,tt,tt,tt,tt,tt,tt,tt,tt,tt,tt,tt,tt,tt,tt,tt,tt,tt,ff,ff,ff,ff,ff,ff,ff,ff,ff,ff,ff] rfl rfl (any_of HT_.out (by kernel_rfl)) (fun _ _ _ h => h) (Or.inl ⟨by rfl,?_⟩) ?_ ?_);rotate_left
        ·intro w';(go_simp);(with_reducible rfl)
        rotate_left
        ·simp only [Act.put,sA,sZ,sS,i64_w,i32_w];(rfl)
        (refine pure_ (i:=20) (N:=some 29) (v:=?_) (a':=?_) #[tt,tt,tt,tt,tt,tt,tt,tt,tt,tt,tt,tt,tt,tt,tt,tt,tt,tt,tt,tt,tt,ff,ff,ff,ff,ff,ff,ff,ff,ff,ff] rfl rfl (any_of HT_.out (by kernel_rfl)) (fun _ _ _ h => h) (Or.inl ⟨by rfl,?_⟩) ?_ ?_);rotate_left
        ·intro w';(go_simp);(with_reducible rfl)
        rotate_left
        ·simp only [Act.put,sA,sZ,sS,i64_w,i32_w];(rfl)
        (refine pure_ (i:=21) (N:=some 30) (v:=?_) (a':=?_) #[tt,tt,tt,tt,tt,tt,tt,tt,tt,tt,tt,tt,tt,tt,tt,tt,tt,tt,tt,tt,tt,tt,ff,ff,ff,ff,ff,ff,ff,ff,ff] rfl rfl (any_of HT_.out (by kernel_rfl)) (fun _ _ _ h => h) (Or.inl ⟨by rfl,?_⟩) ?_ ?_);rotate_left
        ·intro w';(go_simp);(with_reducible rfl)
        rotate_left
        ·simp only [Act.put,sA,sZ,sS,i64_w,i32_w];(rfl)
        (refine take_ (i:=22) (N:=some 31) (v:=?_) (a':=?_) #[tt,tt,tt,tt,tt,tt,tt,tt,tt,tt,tt,tt,tt,tt,tt,tt,tt,tt,tt,tt,tt,tt,tt,ff,ff,ff,ff,ff,ff,ff,ff] rfl rfl (take_ofW HT_.out HW_.out (by kernel_rfl)) (fun _ _ _ h => h) (Or.inl ⟨by rfl,?_⟩) hHeld ?_ ?_);rotate_left
        ·(rintro w' ⟨s0,s1,s2,s3⟩);(go_simp);(with_reducible rfl)
        rotate_left
        ·simp only [Act.put,sA,sZ,sS,i64_w,i32_w];(rfl)
        (refine pure_ (i:=23) (N:=some 32) (v:=?_) (a':=?_) #[tt,tt,tt,tt,tt,tt,tt,tt,tt,tt,tt,tt,tt,tt,tt,tt,tt,tt,tt,tt,tt,tt,tt,tt,ff,ff,ff,ff,ff,ff,ff] rfl rfl (any_of HT_.out (by kernel_rfl)) (fun _ _ _ h => h) (Or.inl ⟨by rfl,?_⟩) ?_ ?_);rotate_left
        ·intro w';(go_simp);(with_reducible rfl)
        rotate_left
        ·simp only [Act.put,sA,sZ,sS,i64_w,i32_w];(rfl)
        (refine pure_ (i:=24) (N:=some 33) (v:=?_) (a':=?_) #[tt,tt,tt,tt,tt,tt,tt,tt,tt,tt,tt,tt,tt,tt,tt,tt,tt,tt,tt,tt,tt,tt,tt,tt,tt,ff,ff,ff,ff,ff,ff] rfl rfl (any_of HT_.out (by kernel_rfl)) (fun _ _ _ h => h) (Or.inl ⟨by rfl,?_⟩) ?_ ?_);rotate_left
        ·intro w';(go_simp);(with_reducible rfl)
        rotate_left
        ·simp only [Act.put,sA,sZ,sS,i64_w,i32_w];(rfl)
        (refine pure_ (i:=25) (N:=some 34) (v:=undef) (a':=?_) #[tt,tt,tt,tt,tt,tt,tt,tt,tt,tt,tt,tt,tt,tt,tt,tt,tt,tt,tt,tt,tt,tt,tt,tt,tt,tt,ff,ff,ff,ff,ff] rfl rfl (any_of HT_.out (by kernel_rfl)) (fun _ _ _ h => h) (Or.inr ⟨by rfl,rfl⟩) ?_ ?_);rotate_left
        ·simp only [Act.put,sA,sZ,sS,i64_w,i32_w];(rfl)
        (refine pure_ (i:=26) (N:=some 35) (v:=undef) (a':=?_) #[tt,tt,tt,tt,tt,tt,tt,tt,tt,tt,tt,tt,tt,tt,tt,tt,tt,tt,tt,tt,tt,tt,tt,tt,tt,tt,tt,ff,ff,ff,ff] rfl rfl (any_of HT_.out (by kernel_rfl)) (fun _ _ _ h => h) (Or.inr ⟨by rfl,rfl⟩) ?_ ?_);rotate_left
        ·simp only [Act.put,sA,sZ,sS,i64_w,i32_w];(rfl)
        (refine pure_ (i:=27) (N:=some 36) (v:=undef) (a':=?_) #[tt,tt,tt,tt,tt,tt,tt,tt,tt,tt,tt,tt,tt,tt,tt,tt,tt,tt,tt,tt,tt,tt,tt,tt,tt,tt,tt,tt,ff,ff,ff] rfl rfl (any_of HT_.out (by kernel_rfl)) (fun _ _ _ h => h) (Or.inr ⟨by rfl,rfl⟩) ?_ ?_);rotate_left
        ·simp only [Act.put,sA,sZ,sS,i64_w,i32_w];(rfl)
        (refine pure_ (i:=28) (N:=some 37) (v:=?_) (a':=?_) #[tt,tt,tt,tt,tt,tt,tt,tt,tt,tt,tt,tt,tt,tt,tt,tt,tt,tt,tt,tt,tt,tt,tt,tt,tt,tt,tt,tt,tt,ff,ff] rfl rfl (any_of HT_.out (by kernel_rfl)) (fun _ _ _ h => h) (Or.inl ⟨by rfl,?_⟩) ?_ ?_);rotate_left
        ·intro w';(go_simp);(with_reducible rfl)
        rotate_left
        ·simp only [Act.put,sA,sZ,sS,i64_w,i32_w];(rfl)
        (refine pure_ (i:=29) (N:=some 38) (v:=?_) (a':=?_) #[tt,tt,tt,tt,tt,tt,tt,tt,tt,tt,tt,tt,tt,tt,tt,tt,tt,tt,tt,tt,tt,tt,tt,tt,tt,tt,tt,tt,tt,tt,ff] rfl rfl (any_of HT_.out (by kernel_rfl)) (fun _ _ _ h => h) (Or.inl ⟨by rfl,?_⟩) ?_ ?_);rotate_left
        ·intro w';(go_simp);(with_reducible rfl)
        rotate_left
        ·simp only [Act.put,sA,sZ,sS,i64_w,i32_w];(rfl)
        (refine pure_ (i:=30) (N:=some 8) (v:=?_) (a':=?_) #[tt,tt,tt,tt,tt,tt,tt,tt,tt,tt,tt,tt,tt,tt,tt,tt,tt,tt,tt,tt,tt,tt,tt,tt,tt,tt,tt,tt,tt,tt,tt] rfl rfl (any_of HT_.out (by kernel_rfl)) (fun _ _ _ h => h) (Or.inl ⟨by rfl,?_⟩) ?_ ?_);rotate_left
        ·intro w';(go_simp);(with_reducible rfl)
        rotate_left
        ·simp only [Act.put,sA,sZ,sS,i64_w,i32_w];(rfl)
        (refine done_ (done_of HT_.out (by kernel_rfl)) ?_);(try go_wp2);(go_ret);(exact ⟨by first | rfl | (simp [errW_none,errW_some] <;> rfl) | (simp [*,errW_none,errW_some] <;> rfl),lo HB.out⟩)
       ·rw [if_neg c14] at H;have c14b0 : (a0_0 == 1) = false:=beq_eq_false_iff_ne.mpr c14;have c14b1 : (a0_0 != 1) = true:=bne_iff_ne.mpr c14;(by_cases c18 : a0_2.toList = ([] : List UInt8))
        ·rw [if_pos c18] at H;have c18b0 : (a0_2.toList == ([] : List UInt8)) = true:=beq_iff_eq.mpr c18;have c18b1 : (a0_2.toList != ([] : List UInt8)) = false:=bne_eq_false_iff_eq.mpr c18;clear c18;obtain rfl:=Option.some.inj H;(go_enter Tryd.func22,Tryd.ntmps22);(try go_wp2_with (first | ((with_reducible refine gate_dst (N:=1) rfl ?_);(try (refine gate_guard (by rfl) ?_;dsimp only));refine box_event ?hg (N:=1) ?hd (cs:=#[.int .i64 a0_0,.slice A0_1 l0_1.length c0_1,.string a0_2]) (t:=46) ?hr ?_;(case hd => rfl);(case hg => rfl);(case hr => first | (go_simp;done) | (go_simp;rfl));intro gb245 hg w19 hbox hb;have BK245:=am (hbox);(have GW245:=am ((by rw [hg];exact (below_size (lo HB.out)) : w.heap.size ≤ gb245)));have GE245:GEc _ _:=⟨((by rw [hg];exact (below_size (lo HB.out)) : w.heap.size ≤ gb245))⟩;replace HB:=am (below_step (lo HB.out) hb);clear hb hbox hg;have hcz20_0 : w19.cell? ⟨gb245,0,none⟩ = some (.int .i64 a0_0):=bc BK245.out 0 rfl;have hcz20_1 : w19.cell? ⟨gb245,1,none⟩ = some (.slice A0_1 l0_1.length c0_1):=bc BK245.out 1 rfl;have hcz20_2 : w19.cell? ⟨gb245,2,none⟩ = some (.string a0_2):=bc BK245.out 2 rfl;have hfz20_0:=blk_frozen BK245.out 0;have hfz20_1:=blk_frozen BK245.out 1;have hfz20_2:=blk_frozen BK245.out 2) | ((with_reducible refine gate_callee (f:=42) rfl ?_);refine goesL_ (some 6) rfl rfl Tryd.func42 (by kernel_rfl) rfl #[.int .i64 a0_0] rfl (by (try simp only [List.map_toArray,List.map_cons,List.map_nil]);first | done | rfl | (simp only [List.length_drop,List.length_take];rfl)) ?_;(with_reducible refine (request_is.calls a0_0 true _ A2.out).mono ?_);rintro e w' ⟨rfl,⟨nd,rfl⟩⟩;refine ⟨_,rfl,?_⟩)));(try (rw [drewN_self w19];generalize hq_ : World.drewN w19 _ = w19;have n0_ : Aside0 (w19.heap[gb245]? = some (.cells #[.int .i64 a0_0,.slice A0_1 l0_1.length c0_1,.string a0_2] 46 (0,0))):=⟨by rw [← hq_];exact bu BK245.out⟩;have n1_ : Aside0 (Below w.heap.size w w19):=⟨by rw [← hq_];exact lo HB.out⟩;clear BK245 HB hq_;have BK245:=n0_;have HB:=n1_;clear n0_ n1_));replace BK245:=am (blk_drew BK245.out);replace HB:=am (below_drew1 HB.out);(have p6 : 0 ≤ (a0_0 : Int):=of_decide_eq_true (by first | (with_reducible assumption) | assumption));(have q6 : a0_0 < (17 : Int):=of_decide_eq_true (by first | (with_reducible assumption) | assumption));(have hx6:=GG.at (GG.below HG.out (by repeat (first | (with_reducible first | exact HB.out | apply below_alloc | apply pw_below_drewN | apply below_drew1) | exact HB.out))) a0_0 p6 q6);replace p6:=eq_true p6;replace q6:=eq_true q6;(refine start_ (n:=31) (S:=fun w' => w'.cell? ⟨gb245,0,none⟩ = some (.int .i64 a0_0) ∧ w'.cell? ⟨gb245,1,none⟩ = some (.slice A0_1 l0_1.length c0_1) ∧ w'.cell? ⟨gb245,2,none⟩ = some (.string a0_2) ∧ w'.cell? ⟨0,a0_0.toNat,none⟩ = some (.int .i64 (gcount a0_0))) (ds:=[]) #[ff,ff,ff,ff,ff,ff,ff,ff,ff,ff,ff,ff,ff,ff,ff,ff,ff,ff,ff,ff,ff,ff,ff,ff,ff,ff,ff,ff,ff,ff,ff] (by kernel_rfl) rfl rfl ⟨bc BK245.out 0 rfl,bc BK245.out 1 rfl,bc BK245.out 2 rfl,hx6⟩ (fun hHeld => ?_);refine with_tabW request_Request_Check.tab3 request_Request_Check.bits3 (fun HT_ HW_ => ?_));(generalize w19.drew = w21 at BK245 HB hHeld ⊢);(refine pure_ (i:=0) (N:=some 9) (v:=?_) (a':=?_) #[tt,ff,ff,ff,ff,ff,ff,ff,ff,ff,ff,ff,ff,ff,ff,ff,ff,ff,ff,ff,ff,ff,ff,ff,ff,ff,ff,ff,ff,ff,ff] rfl rfl (any_of HT_.out (by kernel_rfl)) (fun _ _ _ h => h) (Or.inl ⟨by rfl,?_⟩) ?_ ?_);rotate_left
         ·intro w';(go_simp);(with_reducible rfl)
         rotate_left
         ·simp only [Act.put,sA,sZ,sS,i64_w,i32_w];(rfl)
         (refine pure_ (i:=3) (N:=some 12) (v:=?_) (a':=?_) #[tt,ff,ff,tt,ff,ff,ff,ff,ff,ff,ff,ff,ff,ff,ff,ff,ff,ff,ff,ff,ff,ff,ff,ff,ff,ff,ff,ff,ff,ff,ff] rfl rfl (any_of HT_.out (by kernel_rfl)) (fun _ _ _ h => h) (Or.inl ⟨by rfl,?_⟩) ?_ ?_);rotate_left
         ·intro w';(go_simp);(with_reducible rfl)
         rotate_left
         ·simp only [Act.put,sA,sZ,sS,i64_w,i32_w];(rfl)
         (refine take_ (i:=1) (N:=some 10) (v:=?_) (a':=?_) #[tt,tt,ff,tt,ff,ff,ff,ff,ff,ff,ff,ff,ff,ff,ff,ff,ff,ff,ff,ff,ff,ff,ff,ff,ff,ff,ff,ff,ff,ff,ff] rfl rfl (take_ofW HT_.out HW_.out (by kernel_rfl)) (fun _ _ _ h => h) (Or.inl ⟨by rfl,?_⟩) hHeld ?_ ?_);rotate_left
         ·(rintro w' ⟨s0,s1,s2,s3⟩);(go_simp);(with_reducible rfl)
         rotate_left
         ·simp only [Act.put,sA,sZ,sS,i64_w,i32_w];(rfl)
         (refine pure_ (i:=2) (N:=some 11) (v:=?_) (a':=?_) #[tt,tt,tt,tt,ff,ff,ff,ff,ff,ff,ff,ff,ff,ff,ff,ff,ff,ff,ff,ff,ff,ff,ff,ff,ff,ff,ff,ff,ff,ff,ff] rfl rfl (any_of HT_.out (by kernel_rfl)) (fun _ _ _ h => h) (Or.inl ⟨by rfl,?_⟩) ?_ ?_);rotate_left
         ·intro w';(go_simp);(with_reducible rfl)
         rotate_left
         ·simp only [Act.put,sA,sZ,sS,i64_w,i32_w];(rfl)
         (refine take_ (i:=4) (N:=some 13) (v:=?_) (a':=?_) #[tt,tt,tt,tt,tt,ff,ff,ff,ff,ff,ff,ff,ff,ff,ff,ff,ff,ff,ff,ff,ff,ff,ff,ff,ff,ff,ff,ff,ff,ff,ff] rfl rfl (take_ofW HT_.out HW_.out (by kernel_rfl)) (fun _ _ _ h => h) (Or.inl ⟨by rfl,?_⟩) hHeld ?_ ?_);rotate_left
         ·(rintro w' ⟨s0,s1,s2,s3⟩);(go_simp);(with_reducible rfl)
         rotate_left
         ·simp only [Act.put,sA,sZ,sS,i64_w,i32_w];(rfl)
         (refine take_ (i:=5) (N:=some 14) (v:=?_) (a':=?_) #[tt,tt,tt,tt,tt,tt,ff,ff,ff,ff,ff,ff,ff,ff,ff,ff,ff,ff,ff,ff,ff,ff,ff,ff,ff,ff,ff,ff,ff,ff,ff] rfl rfl (take_ofW HT_.out HW_.out (by kernel_rfl)) (fun _ _ _ h => h) (Or.inl ⟨by rfl,?_⟩) hHeld ?_ ?_);rotate_left
         ·(rintro w' ⟨s0,s1,s2,s3⟩);(go_simp);(with_reducible rfl)
         rotate_left
         ·simp only [Act.put,sA,sZ,sS,i64_w,i32_w];(rfl)
         (refine take_ (i:=6) (N:=some 15) (v:=?_) (a':=?_) #[tt,tt,tt,tt,tt,tt,tt,ff,ff,ff,ff,ff,ff,ff,ff,ff,ff,ff,ff,ff,ff,ff,ff,ff,ff,ff,ff,ff,ff,ff,ff] rfl rfl (take_ofW HT_.out HW_.out (by kernel_rfl)) (fun _ _ _ h => h) (Or.inl ⟨by rfl,?_⟩) hHeld ?_ ?_);rotate_left
         ·(rintro w' ⟨s0,s1,s2,s3⟩);(go_simp);(with_reducible rfl)
         rotate_left
         ·simp only [Act.put,sA,sZ,sS,i64_w,i32_w];(rfl)
         (refine pure_ (i:=7) (N:=some 16) (v:=?_) (a':=?_) #[tt,tt,tt,tt,tt,tt,tt,tt,ff,ff,ff,ff,ff,ff,ff,ff,ff,ff,ff,ff,ff,ff,ff,ff,ff,ff,ff,ff,ff,ff,ff] rfl rfl (any_of HT_.out (by kernel_rfl)) (fun _ _ _ h => h) (Or.inl ⟨by rfl,?_⟩) ?_ ?_);rotate_left
         ·intro w';(go_simp);(with_reducible rfl)
         rotate_left
         ·simp only [Act.put,sA,sZ,sS,i64_w,i32_w];(rfl)
         (refine pure_ (i:=8) (N:=some 17) (v:=?_) (a':=?_) #[tt,tt,tt,tt,tt,tt,tt,tt,tt,ff,ff,ff,ff,ff,ff,ff,ff,ff,ff,ff,ff,ff,ff,ff,ff,ff,ff,ff,ff,ff,ff] rfl rfl (any_of HT_.out (by kernel_rfl)) (fun _ _ _ h => h) (Or.inl ⟨by rfl,?_⟩) ?_ ?_);rotate_left
         ·intro w';(go_simp);(with_reducible rfl)
         rotate_left
         ·simp only [Act.put,sA,sZ,sS,i64_w,i32_w];(rfl)
         (refine pure_ (i:=9) (N:=some 18) (v:=?_) (a':=?_) #[tt,tt,tt,tt,tt,tt,tt,tt,tt,tt,ff,ff,ff,ff,ff,ff,ff,ff,ff,ff,ff,ff,ff,ff,ff,ff,ff,ff,ff,ff,ff] rfl rfl (any_of HT_.out (by kernel_rfl)) (fun _ _ _ h => h) (Or.inl ⟨by rfl,?_⟩) ?_ ?_);rotate_left
         ·intro w';(go_simp);(with_reducible rfl)
         rotate_left
         ·simp only [Act.put,sA,sZ,sS,i64_w,i32_w];(rfl)
         (refine take_ (i:=10) (N:=some 19) (v:=?_) (a':=?_) #[tt,tt,tt,tt,tt,tt,tt,tt,tt,tt,tt,ff,ff,ff,ff,ff,ff,ff,ff,ff,ff,ff,ff,ff,ff,ff,ff,ff,ff,ff,ff] rfl rfl (take_ofW HT_.out HW_.out (by kernel_rfl)) (fun _ _ _ h => h) (Or.inl ⟨by rfl,?_⟩) hHeld ?_ ?_);rotate_left
         ·(rintro w' ⟨s0,s1,s2,s3⟩);(go_simp);(with_reducible rfl)
         rotate_left
         ·simp only [Act.put,sA,sZ,sS,i64_w,i32_w];(rfl)
         (refine one_ (i:=11) (N:=some 20) #[tt,tt,tt,tt,tt,tt,tt,tt,tt,tt,tt,tt,ff,ff,ff,ff,ff,ff,ff,ff,ff,ff,ff,ff,ff,ff,ff,ff,ff,ff,ff] rfl rfl (one_of HT_.out (by kernel_rfl)) (by decide) (fun K hK => ?_));(refine goes_ Tryd.func39 (by kernel_rfl) rfl #[.slice A0_1 l0_1.length c0_1] (by rfl) rfl rfl (by (try simp only [List.map_toArray,List.map_cons,List.map_nil]);first | done | rfl | (simp only [List.length_drop,List.length_take];rfl)) ?_);(with_reducible refine (request_numbers.calls _ _ l0_1 true _ ?side1 ?side2 A8.out).mono ?_);(case side1 => exact cu (Kd.C_below HR0_1.out HB.out));(case side2 => exact HC0_1.out);(rintro e w' ⟨rfl,⟨nd,rfl⟩⟩);(refine ⟨_,rfl,?_⟩);(refine hK.out _ _ ⟨bc BK245.out 0 rfl,bc BK245.out 1 rfl,bc BK245.out 2 rfl,GG.at (GG.below HG.out (by repeat (first | (with_reducible first | exact HB.out | apply below_alloc | apply pw_below_drewN | apply below_drew1) | exact HB.out))) a0_0 (of_eq_true p6) (of_eq_true q6)⟩ (fun hHeld => ?_));clear hK K;(refine norm_ (a':=?_) ?_ ?_);rotate_left
         ·(show Act.put _ (some 20) _ = _);simp only [Act.put,sA,sZ,sS,i64_w,i32_w];(rfl)
         (refine pure_ (i:=12) (N:=some 21) (v:=?_) (a':=?_) #[tt,tt,tt,tt,tt,tt,tt,tt,tt,tt,tt,tt,tt,ff,ff,ff,ff,ff,ff,ff,ff,ff,ff,ff,ff,ff,ff,ff,ff,ff,ff] rfl rfl (any_of HT_.out (by kernel_rfl)) (fun _ _ _ h => h) (Or.inl ⟨by rfl,?_⟩) ?_ ?_);rotate_left
         ·intro w';(go_simp);(with_reducible rfl)
         rotate_left
         ·simp only [Act.put,sA,sZ,sS,i64_w,i32_w];(rfl)
         (refine pure_ (i:=13) (N:=some 22) (v:=?_) (a':=?_) #[tt,tt,tt,tt,tt,tt,tt,tt,tt,tt,tt,tt,tt,tt,ff,ff,ff,ff,ff,ff,ff,ff,ff,ff,ff,ff,ff,ff,ff,ff,ff] rfl rfl (any_of HT_.out (by kernel_rfl)) (fun _ _ _ h => h) (Or.inl ⟨by rfl,?_⟩) ?_ ?_);rotate_left
         ·intro w';(go_simp);(with_reducible rfl)
         rotate_left
         ·simp only [Act.put,sA,sZ,sS,i64_w,i32_w];(rfl)
         (refine pure_ (i:=14) (N:=some 23) (v:=?_) (a':=?_) #[tt,tt,tt,tt,tt,tt,tt,tt,tt,tt,tt,tt,tt,tt,tt,ff,ff,ff,ff,ff,ff,ff,ff,ff,ff,ff,ff,ff,ff,ff,ff] rfl rfl (any_of HT_.out (by kernel_rfl)) (fun _ _ _ h => h) (Or.inl ⟨by rfl,?_⟩) ?_ ?_);rotate_left
         ·intro w';(go_simp);(with_reducible rfl)
         rotate_left
         ·simp only [Act.put,sA,sZ,sS,i64_w,i32_w];(rfl)
         (refine pure_ (i:=15) (N:=some 24) (v:=?_) (a':=?_) #[tt,tt,tt,tt,tt,tt,tt,tt,tt,tt,tt,tt,tt,tt,tt,tt,ff,ff,ff,ff,ff,ff,ff,ff,ff,ff,ff,ff,ff,ff,ff] rfl rfl (any_of HT_.out (by kernel_rfl)) (fun _ _ _ h => h) (Or.inl ⟨by rfl,?_⟩) ?_ ?_);rotate_left
         ·intro w';(go_simp);(with_reducible rfl)
         rotate_left
         ·simp only [Act.put,sA,sZ,sS,i64_w,i32_w];(rfl)
         (refine take_ (i:=16) (N:=some 25) (v:=?_) (a':=?_) #[tt,tt,tt,tt,tt,tt,tt,tt,tt,tt,tt,tt,tt,tt,tt,tt,tt,ff,ff,ff,ff,ff,ff,ff,ff,ff,ff,ff,ff,ff,ff] rfl rfl (take_ofW HT_.out HW_.out (by kernel_rfl)) (fun _ _ _ h => h) (Or.inl ⟨by rfl,?_⟩) hHeld ?_ ?_);rotate_left
         ·(rintro w' ⟨s0,s1,s2,s3⟩);(go_simp);(with_reducible rfl)
         rotate_left
         ·simp only [Act.put,sA,sZ,sS,i64_w,i32_w];(rfl)
         (refine pure_ (i:=17) (N:=some 26) (v:=?_) (a':=?_) #[tt,tt,tt,tt,tt,tt,tt,tt,tt,tt,tt,tt,tt,tt,tt,tt,tt,tt,ff,ff,ff,ff,ff,ff,ff,ff,ff,ff,ff,ff,ff] rfl rfl (any_of HT_.out (by kernel_rfl)) (fun _ _ _ h => h) (Or.inl ⟨by rfl,?_⟩) ?_ ?_);rotate_left
         ·intro w';(go_simp);(with_reducible rfl)
         rotate_left
         ·simp only [Act.put,sA,sZ,sS,i64_w,i32_w];(rfl)
         (refine pure_ (i:=18) (N:=some 27) (v:=?_) (a':=?_) #[tt,tt,tt,tt,tt,tt,tt,tt,tt,tt,tt,tt,tt,tt,tt,tt,tt,tt,tt,ff,ff,ff,ff,ff,ff,ff,ff,ff,ff,ff,ff] rfl rfl (any_of HT_.out (by kernel_rfl)) (fun _ _ _ h => h) (Or.inl ⟨by rfl,?_⟩) ?_ ?_);rotate_left
         ·intro w';(go_simp);(with_reducible rfl)
         rotate_left
         ·simp only [Act.put,sA,sZ,sS,i64_w,i32_w];(rfl)
         (refine pure_ (i:=19) (N:=some 28) (v:=?_) (a':=?_) #[tt,tt,tt,tt,tt,tt,tt,tt,tt,tt,tt,tt,tt,tt,tt,tt,tt,tt,tt,tt,ff,ff,ff,ff,ff,ff,ff,ff,ff,ff,ff] rfl rfl (any_of HT_.out (by kernel_rfl)) (fun _ _ _ h => h) (Or.inl ⟨by rfl,?_⟩) ?_ ?_);rotate_left
         ·intro w';(go_simp);(with_reducible rfl)
         rotate_left
         ·simp only [Act.put,sA,sZ,sS,i64_w,i32_w];(rfl)
         (refine pure_ (i:=20) (N:=some 29) (v:=?_) (a':=?_) #[tt,tt,tt,tt,tt,tt,tt,tt,tt,tt,tt,tt,tt,tt,tt,tt,tt,tt,tt,tt,tt,ff,ff,ff,ff,ff,ff,ff,ff,ff,ff] rfl rfl (any_of HT_.out (by kernel_rfl)) (fun _ _ _ h => h) (Or.inl ⟨by rfl,?_⟩) ?_ ?_);rotate_left
         ·intro w';(go_simp);(with_reducible rfl)
         rotate_left
         ·simp only [Act.put,sA,sZ,sS,i64_w,i32_w];(rfl)
         (refine pure_ (i:=21) (N:=some 30) (v:=?_) (a':=?_) #[tt,tt,tt,tt,tt,tt,tt,tt,tt,tt,tt,tt,tt,tt,tt,tt,tt,tt,tt,tt,tt,tt,ff,ff,ff,ff,ff,ff,ff,ff,ff] rfl rfl (any_of HT_.out (by kernel_rfl)) (fun _ _ _ h => h) (Or.inl ⟨by rfl,?_⟩) ?_ ?_);rotate_left
         ·intro w';(go_simp);(with_reducible rfl)
         rotate_left
         ·simp only [Act.put,sA,sZ,sS,i64_w,i32_w];(rfl)
         (refine take_ (i:=22) (N:=some 31) (v:=?_) (a':=?_) #[tt,tt,tt,tt,tt,tt,tt,tt,tt,tt,tt,tt,tt,tt,tt,tt,tt,tt,tt,tt,tt,tt,tt,ff,ff,ff,ff,ff,ff,ff,ff] rfl rfl (take_ofW HT_.out HW_.out (by kernel_rfl)) (fun _ _ _ h => h) (Or.inl ⟨by rfl,?_⟩) hHeld ?_ ?_);rotate_left
         ·(rintro w' ⟨s0,s1,s2,s3⟩);(go_simp);(with_reducible rfl)
         rotate_left
         ·simp only [Act.put,sA,sZ,sS,i64_w,i32_w];(rfl)
         (refine pure_ (i:=23) (N:=some 32) (v:=?_) (a':=?_) #[tt,tt,tt,tt,tt,tt,tt,tt,tt,tt,tt,tt,tt,tt,tt,tt,tt,tt,tt,tt,tt,tt,tt,tt,ff,ff,ff,ff,ff,ff,ff] rfl rfl (any_of HT_.out (by kernel_rfl)) (fun _ _ _ h => h) (Or.inl ⟨by rfl,?_⟩) ?_ ?_);rotate_left
         ·intro w';(go_simp);(with_reducible rfl)
         rotate_left
         ·simp only [Act.put,sA,sZ,sS,i64_w,i32_w];(rfl)
         (refine pure_ (i:=24) (N:=some 33) (v:=?_) (a':=?_) #[tt,tt,tt,tt,tt,tt,tt,tt,tt,tt,tt,tt,tt,tt,tt,tt,tt,tt,tt,tt,tt,tt,tt,tt,tt,ff,ff,ff,ff,ff,ff] rfl rfl (any_of HT_.out (by kernel_rfl)) (fun _ _ _ h => h) (Or.inl ⟨by rfl,?_⟩) ?_ ?_);rotate_left
         ·intro w';(go_simp);(with_reducible rfl)
         rotate_left
         ·simp only [Act.put,sA,sZ,sS,i64_w,i32_w];(rfl)
         (refine pure_ (i:=25) (N:=some 34) (v:=?_) (a':=?_) #[tt,tt,tt,tt,tt,tt,tt,tt,tt,tt,tt,tt,tt,tt,tt,tt,tt,tt,tt,tt,tt,tt,tt,tt,tt,tt,ff,ff,ff,ff,ff] rfl rfl (any_of HT_.out (by kernel_rfl)) (fun _ _ _ h => h) (Or.inl ⟨by rfl,?_⟩) ?_ ?_);rotate_left
         ·intro w';(go_simp);(with_reducible rfl)
         rotate_left
         ·simp only [Act.put,sA,sZ,sS,i64_w,i32_w];(rfl)
         (refine take_ (i:=26) (N:=some 35) (v:=?_) (a':=?_) #[tt,tt,tt,tt,tt,tt,tt,tt,tt,tt,tt,tt,tt,tt,tt,tt,tt,tt,tt,tt,tt,tt,tt,tt,tt,tt,tt,ff,ff,ff,ff] rfl rfl (take_ofW HT_.out HW_.out (by kernel_rfl)) (fun _ _ _ h => h) (Or.inl ⟨by rfl,?_⟩) hHeld ?_ ?_);rotate_left
         ·(rintro w' ⟨s0,s1,s2,s3⟩);(go_simp);(with_reducible rfl)
         rotate_left
         ·simp only [Act.put,sA,sZ,sS,i64_w,i32_w];(rfl)
         (refine pure_ (i:=27) (N:=some 36) (v:=?_) (a':=?_) #[tt,tt,tt,tt,tt,tt,tt,tt,tt,tt,tt,tt,tt,tt,tt,tt,tt,tt,tt,tt,tt,tt,tt,tt,tt,tt,tt,tt,ff,ff,ff] rfl rfl (any_of HT_.out (by kernel_rfl)) (fun _ _ _ h => h) (Or.inl ⟨by rfl,?_⟩) ?_ ?_);rotate_left
         ·intro w';(go_simp);(with_reducible rfl)
         rotate_left
         ·simp only [Act.put,sA,sZ,sS,i64_w,i32_w];(rfl)
         (refine pure_ (i:=28) (N:=some 37) (v:=?_) (a':=?_) #[tt,tt,tt,tt,tt,tt,tt,tt,tt,tt,tt,tt,tt,tt,tt,tt,tt,tt,tt,tt,tt,tt,tt,tt,tt,tt,tt,tt,tt,ff,ff] rfl rfl (any_of HT_.out (by kernel_rfl)) (fun _ _ _ h => h) (Or.inl ⟨by rfl,?_⟩) ?_ ?_);rotate_left
         ·intro w';(go_simp);(with_reducible rfl)
         rotate_left
         ·simp only [Act.put,sA,sZ,sS,i64_w,i32_w];(rfl)
         (refine pure_ (i:=29) (N:=some 38) (v:=?_) (a':=?_) #[tt,tt,tt,tt,tt,tt,tt,tt,tt,tt,tt,tt,tt,tt,tt,tt,tt,tt,tt,tt,tt,tt,tt,tt,tt,tt,tt,tt,tt,tt,ff] rfl rfl (any_of HT_.out (by kernel_rfl)) (fun _ _ _ h => h) (Or.inl ⟨by rfl,?_⟩) ?_ ?_);rotate_left
         ·intro w';(go_simp);(with_reducible rfl)
         rotate_left
         ·simp only [Act.put,sA,sZ,sS,i64_w,i32_w];(rfl)
         (refine pure_ (i:=30) (N:=some 8) (v:=?_) (a':=?_) #[tt,tt,tt,tt,tt,tt,tt,tt,tt,tt,tt,tt,tt,tt,tt,tt,tt,tt,tt,tt,tt,tt,tt,tt,tt,tt,tt,tt,tt,tt,tt] rfl rfl (any_of HT_.out (by kernel_rfl)) (fun _ _ _ h => h) (Or.inl ⟨by rfl,?_⟩) ?_ ?_);rotate_left
         ·intro w';(go_simp);(with_reducible rfl)
         rotate_left
         ·simp only [Act.put,sA,sZ,sS,i64_w,i32_w];(rfl)
         (refine done_ (done_of HT_.out (by kernel_rfl)) ?_);(try go_wp2);(go_ret);(exact ⟨by first | rfl | (simp [errW_none,errW_some] <;> rfl) | (simp [*,errW_none,errW_some] <;> rfl),lo HB.out⟩)
        ·rw [if_neg c18] at H;have c18b0 : (a0_2.toList == ([] : List UInt8)) = false:=beq_eq_false_iff_ne.mpr c18;have c18b1 : (a0_2.toList != ([] : List UInt8)) = true:=bne_iff_ne.mpr c18;obtain rfl:=Option.some.inj H;(go_enter Tryd.func22,Tryd.ntmps22);(try go_wp2_with (first | ((with_reducible refine gate_dst (N:=1) rfl ?_);(try (refine gate_guard (by rfl) ?_;dsimp only));refine box_event ?hg (N:=1) ?hd (cs:=#[.int .i64 a0_0,.slice A0_1 l0_1.length c0_1,.string a0_2]) (t:=46) ?hr ?_;(case hd => rfl);(case hg => rfl);(case hr => first | (go_simp;done) | (go_simp;rfl));intro gb245 hg w22 hbox hb;have BK245:=am (hbox);(have GW245:=am ((by rw [hg];exact (below_size (lo HB.out)) : w.heap.size ≤ gb245)));have GE245:GEc _ _:=⟨((by rw [hg];exact (below_size (lo HB.out)) : w.heap.size ≤ gb245))⟩;replace HB:=am (below_step (lo HB.out) hb);clear hb hbox hg;have hcz23_0 : w22.cell? ⟨gb245,0,none⟩ = some (.int .i64 a0_0):=bc BK245.out 0 rfl;have hcz23_1 : w22.cell? ⟨gb245,1,none⟩ = some (.slice A0_1 l0_1.length c0_1):=bc BK245.out 1 rfl;have hcz23_2 : w22.cell? ⟨gb245,2,none⟩ = some (.string a0_2):=bc BK245.out 2 rfl;have hfz23_0:=blk_frozen BK245.out 0;have hfz23_1:=blk_frozen BK245.out 1;have hfz23_2:=blk_frozen BK245.out 2) | ((with_reducible refine gate_callee (f:=42) rfl ?_);refine goesL_ (some 6) rfl rfl Tryd.func42 (by kernel_rfl) rfl #[.int .i64 a0_0] rfl (by (try simp only [List.map_toArray,List.map_cons,List.map_nil]);first | done | rfl | (simp only [List.length_drop,List.length_take];rfl)) ?_;(with_reducible refine (request_is.calls a0_0 true _ A2.out).mono ?_);rintro e w' ⟨rfl,⟨nd,rfl⟩⟩;refine ⟨_,rfl,?_⟩)));(try (rw [drewN_self w22];generalize hq_ : World.drewN w22 _ = w22;have n0_ : Aside0 (w22.heap[gb245]? = some (.cells #[.int .i64 a0_0,.slice A0_1 l0_1.length c0_1,.string a0_2] 46 (0,0))):=⟨by rw [← hq_];exact bu BK245.out⟩;have n1_ : Aside0 (Below w.heap.size w w22):=⟨by rw [← hq_];exact lo HB.out⟩;clear BK245 HB hq_;have BK245:=n0_;have HB:=n1_;clear n0_ n1_));replace BK245:=am (blk_drew BK245.out);replace HB:=am (below_drew1 HB.out);(have p6 : 0 ≤ (a0_0 : Int):=of_decide_eq_true (by first | (with_reducible assumption) | assumption));(have q6 : a0_0 < (17 : Int):=of_decide_eq_true (by first | (with_reducible assumption) | assumption));(have hx6:=GG.at (GG.below HG.out (by repeat (first | (with_reducible first | exact HB.out | apply below_alloc | apply pw_below_drewN | apply below_drew1) | exact HB.out))) a0_0 p6 q6);replace p6:=eq_true p6;replace q6:=eq_true q6;(refine start_ (n:=31) (S:=fun w' => w'.cell? ⟨gb245,0,none⟩ = some (.int .i64 a0_0) ∧ w'.cell? ⟨gb245,1,none⟩ = some (.slice A0_1 l0_1.length c0_1) ∧ w'.cell? ⟨gb245,2,none⟩ = some (.string a0_2) ∧ w'.cell? ⟨0,a0_0.toNat,none⟩ = some (.int .i64 (gcount a0_0))) (ds:=[]) #[ff,ff,ff,ff,ff,ff,ff,ff,ff,ff,ff,ff,ff,ff,ff,ff,ff,ff,ff,ff,ff,ff,ff,ff,ff,ff,ff,ff,ff,ff,ff] (by kernel_rfl) rfl rfl ⟨bc BK245.out 0 rfl,bc BK245.out 1 rfl,bc BK245.out 2 rfl,hx6⟩ (fun hHeld => ?_);refine with_tabW request_Request_Check.tab3 request_Request_Check.bits3 (fun HT_ HW_ => ?_));(generalize w22.drew = w24 at BK245 HB hHeld ⊢);(refine pure_ (i:=0) (N:=some 9) (v:=?_) (a':=?_) #[tt,ff,ff,ff,ff,ff,ff,ff,ff,ff,ff,ff,ff,ff,ff,ff,ff,ff,ff,ff,ff,ff,ff,ff,ff,ff,ff,ff,ff,ff,ff] rfl rfl (any_of HT_.out (by kernel_rfl)) (fun _ _ _ h => h) (Or.inl ⟨by rfl,?_⟩) ?_ ?_);rotate_left
         ·intro w';(go_simp);(with_reducible rfl)
         rotate_left
         ·simp only [Act.put,sA,sZ,sS,i64_w,i32_w];(rfl)
         (refine pure_ (i:=3) (N:=some 12) (v:=?_) (a':=?_) #[tt,ff,ff,tt,ff,ff,ff,ff,ff,ff,ff,ff,ff,ff,ff,ff,ff,ff,ff,ff,ff,ff,ff,ff,ff,ff,ff,ff,ff,ff,ff] rfl rfl (any_of HT_.out (by kernel_rfl)) (fun _ _ _ h => h) (Or.inl ⟨by rfl,?_⟩) ?_ ?_);rotate_left
         ·intro w';(go_simp);(with_reducible rfl)
         rotate_left
         ·simp only [Act.put,sA,sZ,sS,i64_w,i32_w];(rfl)
         (refine take_ (i:=1) (N:=some 10) (v:=?_) (a':=?_) #[tt,tt,ff,tt,ff,ff,ff,ff,ff,ff,ff,ff,ff,ff,ff,ff,ff,ff,ff,ff,ff,ff,ff,ff,ff,ff,ff,ff,ff,ff,ff] rfl rfl (take_ofW HT_.out HW_.out (by kernel_rfl)) (fun _ _ _ h => h) (Or.inl ⟨by rfl,?_⟩) hHeld ?_ ?_);rotate_left
         ·(rintro w' ⟨s0,s1,s2,s3⟩);(go_simp);(with_reducible rfl)
         rotate_left
         ·simp only [Act.put,sA,sZ,sS,i64_w,i32_w];(rfl)
         (refine pure_ (i:=2) (N:=some 11) (v:=?_) (a':=?_) #[tt,tt,tt,tt,ff,ff,ff,ff,ff,ff,ff,ff,ff,ff,ff,ff,ff,ff,ff,ff,ff,ff,ff,ff,ff,ff,ff,ff,ff,ff,ff] rfl rfl (any_of HT_.out (by kernel_rfl)) (fun _ _ _ h => h) (Or.inl ⟨by rfl,?_⟩) ?_ ?_);rotate_left
         ·intro w';(go_simp);(with_reducible rfl)
         rotate_left
         ·simp only [Act.put,sA,sZ,sS,i64_w,i32_w];(rfl)
         (refine take_ (i:=4) (N:=some 13) (v:=?_) (a':=?_) #[tt,tt,tt,tt,tt,ff,ff,ff,ff,ff,ff,ff,ff,ff,ff,ff,ff,ff,ff,ff,ff,ff,ff,ff,ff,ff,ff,ff,ff,ff,ff] rfl rfl (take_ofW HT_.out HW_.out (by kernel_rfl)) (fun _ _ _ h => h) (Or.inl ⟨by rfl,?_⟩) hHeld ?_ ?_);rotate_left
         ·(rintro w' ⟨s0,s1,s2,s3⟩);(go_simp);(with_reducible rfl)
         rotate_left
         ·simp only [Act.put,sA,sZ,sS,i64_w,i32_w];(rfl)
         (refine take_ (i:=5) (N:=some 14) (v:=?_) (a':=?_) #[tt,tt,tt,tt,tt,tt,ff,ff,ff,ff,ff,ff,ff,ff,ff,ff,ff,ff,ff,ff,ff,ff,ff,ff,ff,ff,ff,ff,ff,ff,ff] rfl rfl (take_ofW HT_.out HW_.out (by kernel_rfl)) (fun _ _ _ h => h) (Or.inl ⟨by rfl,?_⟩) hHeld ?_ ?_);rotate_left
         ·(rintro w' ⟨s0,s1,s2,s3⟩);(go_simp);(with_reducible rfl)
         rotate_left
         ·simp only [Act.put,sA,sZ,sS,i64_w,i32_w];(rfl)
         (refine take_ (i:=6) (N:=some 15) (v:=?_) (a':=?_) #[tt,tt,tt,tt,tt,tt,tt,ff,ff,ff,ff,ff,ff,ff,ff,ff,ff,ff,ff,ff,ff,ff,ff,ff,ff,ff,ff,ff,ff,ff,ff] rfl rfl (take_ofW HT_.out HW_.out (by kernel_rfl)) (fun _ _ _ h => h) (Or.inl ⟨by rfl,?_⟩) hHeld ?_ ?_);rotate_left
         ·(rintro w' ⟨s0,s1,s2,s3⟩);(go_simp);(with_reducible rfl)
         rotate_left
         ·simp only [Act.put,sA,sZ,sS,i64_w,i32_w];(rfl)
         (refine pure_ (i:=7) (N:=some 16) (v:=?_) (a':=?_) #[tt,tt,tt,tt,tt,tt,tt,tt,ff,ff,ff,ff,ff,ff,ff,ff,ff,ff,ff,ff,ff,ff,ff,ff,ff,ff,ff,ff,ff,ff,ff] rfl rfl (any_of HT_.out (by kernel_rfl)) (fun _ _ _ h => h) (Or.inl ⟨by rfl,?_⟩) ?_ ?_);rotate_left
         ·intro w';(go_simp);(with_reducible rfl)
         rotate_left
         ·simp only [Act.put,sA,sZ,sS,i64_w,i32_w];(rfl)
         (refine pure_ (i:=8) (N:=some 17) (v:=?_) (a':=?_) #[tt,tt,tt,tt,tt,tt,tt,tt,tt,ff,ff,ff,ff,ff,ff,ff,ff,ff,ff,ff,ff,ff,ff,ff,ff,ff,ff,ff,ff,ff,ff] rfl rfl (any_of HT_.out (by kernel_rfl)) (fun _ _ _ h => h) (Or.inl ⟨by rfl,?_⟩) ?_ ?_);rotate_left
         ·intro w';(go_simp);(with_reducible rfl)
         rotate_left
         ·simp only [Act.put,sA,sZ,sS,i64_w,i32_w];(rfl)
         (refine pure_ (i:=9) (N:=some 18) (v:=?_) (a':=?_) #[tt,tt,tt,tt,tt,tt,tt,tt,tt,tt,ff,ff,ff,ff,ff,ff,ff,ff,ff,ff,ff,ff,ff,ff,ff,ff,ff,ff,ff,ff,ff] rfl rfl (any_of HT_.out (by kernel_rfl)) (fun _ _ _ h => h) (Or.inl ⟨by rfl,?_⟩) ?_ ?_);rotate_left
         ·intro w';(go_simp);(with_reducible rfl)
         rotate_left
         ·simp only [Act.put,sA,sZ,sS,i64_w,i32_w];(rfl)
         (refine take_ (i:=10) (N:=some 19) (v:=?_) (a':=?_) #[tt,tt,tt,tt,tt,tt,tt,tt,tt,tt,tt,ff,ff,ff,ff,ff,ff,ff,ff,ff,ff,ff,ff,ff,ff,ff,ff,ff,ff,ff,ff] rfl rfl (take_ofW HT_.out HW_.out (by kernel_rfl)) (fun _ _ _ h => h) (Or.inl ⟨by rfl,?_⟩) hHeld ?_ ?_);rotate_left
         ·(rintro w' ⟨s0,s1,s2,s3⟩);(go_simp);(with_reducible rfl)
         rotate_left
         ·simp only [Act.put,sA,sZ,sS,i64_w,i32_w];(rfl)
         (refine one_ (i:=11) (N:=some 20) #[tt,tt,tt,tt,tt,tt,tt,tt,tt,tt,tt,tt,ff,ff,ff,ff,ff,ff,ff,ff,ff,ff,ff,ff,ff,ff,ff,ff,ff,ff,ff] rfl rfl (one_of HT_.out (by kernel_rfl)) (by decide) (fun K hK => ?_));(refine goes_ Tryd.func39 (by kernel_rfl) rfl #[.slice A0_1 l0_1.length c0_1] (by rfl) rfl rfl (by (try simp only [List.map_toArray,List.map_cons,List.map_nil]);first | done | rfl | (simp only [List.length_drop,List.length_take];rfl)) ?_);(with_reducible refine (request_numbers.calls _ _ l0_1 true _ ?side1 ?side2 A8.out).mono ?_);(case side1 => exact cu (Kd.C_below HR0_1.out HB.out));(case side2 => exact HC0_1.out);(rintro e w' ⟨rfl,⟨nd,rfl⟩⟩);(refine ⟨_,rfl,?_⟩);(refine hK.out _ _ ⟨bc BK245.out 0 rfl,bc BK245.out 1 rfl,bc BK245.out 2 rfl,GG.at (GG.below HG.out (by repeat (first | (with_reducible first | exact HB.out | apply below_alloc | apply pw_below_drewN | apply below_drew1) | exact HB.out))) a0_0 (of_eq_true p6) (of_eq_true q6)⟩ (fun hHeld => ?_));clear hK K;(refine norm_ (a':=?_) ?_ ?_);rotate_left
         ·(show Act.put _ (some 20) _ = _);simp only [Act.put,sA,sZ,sS,i64_w,i32_w];(rfl)
         (refine pure_ (i:=12) (N:=some 21) (v:=?_) (a':=?_) #[tt,tt,tt,tt,tt,tt,tt,tt,tt,tt,tt,tt,tt,ff,ff,ff,ff,ff,ff,ff,ff,ff,ff,ff,ff,ff,ff,ff,ff,ff,ff] rfl rfl (any_of HT_.out (by kernel_rfl)) (fun _ _ _ h => h) (Or.inl ⟨by rfl,?_⟩) ?_ ?_);rotate_left
         ·intro w';(go_simp);(with_reducible rfl)
         rotate_left
         ·simp only [Act.put,sA,sZ,sS,i64_w,i32_w];(rfl)
         (refine pure_ (i:=13) (N:=some 22) (v:=?_) (a':=?_) #[tt,tt,tt,tt,tt,tt,tt,tt,tt,tt,tt,tt,tt,tt,ff,ff,ff,ff,ff,ff,ff,ff,ff,ff,ff,ff,ff,ff,ff,ff,ff] rfl rfl (any_of HT_.out (by kernel_rfl)) (fun _ _ _ h => h) (Or.inl ⟨by rfl,?_⟩) ?_ ?_);rotate_left
         ·intro w';(go_simp);(with_reducible rfl)
         rotate_left
         ·simp only [Act.put,sA,sZ,sS,i64_w,i32_w];(rfl)
         (refine pure_ (i:=14) (N:=some 23) (v:=?_) (a':=?_) #[tt,tt,tt,tt,tt,tt,tt,tt,tt,tt,tt,tt,tt,tt,tt,ff,ff,ff,ff,ff,ff,ff,ff,ff,ff,ff,ff,ff,ff,ff,ff] rfl rfl (any_of HT_.out (by kernel_rfl)) (fun _ _ _ h => h) (Or.inl ⟨by rfl,?_⟩) ?_ ?_);rotate_left
         ·intro w';(go_simp);(with_reducible rfl)
         rotate_left
         ·simp only [Act.put,sA,sZ,sS,i64_w,i32_w];(rfl)
         (refine pure_ (i:=15) (N:=some 24) (v:=?_) (a':=?_) #[tt,tt,tt,tt,tt,tt,tt,tt,tt,tt,tt,tt,tt,tt,tt,tt,ff,ff,ff,ff,ff,ff,ff,ff,ff,ff,ff,ff,ff,ff,ff] rfl rfl (any_of HT_.out (by kernel_rfl)) (fun _ _ _ h => h) (Or.inl ⟨by rfl,?_⟩) ?_ ?_);rotate_left
         ·intro w';(go_simp);(with_reducible rfl)
         rotate_left
         ·simp only [Act.put,sA,sZ,sS,i64_w,i32_w];(rfl)
         (refine take_ (i:=16) (N:=some 25) (v:=?_) (a':=?_) #[tt,tt,tt,tt,tt,tt,tt,tt,tt,tt,tt,tt,tt,tt,tt,tt,tt,ff,ff,ff,ff,ff,ff,ff,ff,ff,ff,ff,ff,ff,ff] rfl rfl (take_ofW HT_.out HW_.out (by kernel_rfl)) (fun _ _ _ h => h) (Or.inl ⟨by rfl,?_⟩) hHeld ?_ ?_);rotate_left
         ·(rintro w' ⟨s0,s1,s2,s3⟩);(go_simp);(with_reducible rfl)
         rotate_left
         ·simp only [Act.put,sA,sZ,sS,i64_w,i32_w];(rfl)
         (refine pure_ (i:=17) (N:=some 26) (v:=?_) (a':=?_) #[tt,tt,tt,tt,tt,tt,tt,tt,tt,tt,tt,tt,tt,tt,tt,tt,tt,tt,ff,ff,ff,ff,ff,ff,ff,ff,ff,ff,ff,ff,ff] rfl rfl (any_of HT_.out (by kernel_rfl)) (fun _ _ _ h => h) (Or.inl ⟨by rfl,?_⟩) ?_ ?_);rotate_left
         ·intro w';(go_simp);(with_reducible rfl)
         rotate_left
         ·simp only [Act.put,sA,sZ,sS,i64_w,i32_w];(rfl)
         (refine pure_ (i:=18) (N:=some 27) (v:=?_) (a':=?_) #[tt,tt,tt,tt,tt,tt,tt,tt,tt,tt,tt,tt,tt,tt,tt,tt,tt,tt,tt,ff,ff,ff,ff,ff,ff,ff,ff,ff,ff,ff,ff] rfl rfl (any_of HT_.out (by kernel_rfl)) (fun _ _ _ h => h) (Or.inl ⟨by rfl,?_⟩) ?_ ?_);rotate_left
         ·intro w';(go_simp);(with_reducible rfl)
         rotate_left
         ·simp only [Act.put,sA,sZ,sS,i64_w,i32_w];(rfl)
         (refine pure_ (i:=19) (N:=some 28) (v:=?_) (a':=?_) #[tt,tt,tt,tt,tt,tt,tt,tt,tt,tt,tt,tt,tt,tt,tt,tt,tt,tt,tt,tt,ff,ff,ff,ff,ff,ff,ff,ff,ff,ff,ff] rfl rfl (any_of HT_.out (by kernel_rfl)) (fun _ _ _ h => h) (Or.inl ⟨by rfl,?_⟩) ?_ ?_);rotate_left
         ·intro w';(go_simp);(with_reducible rfl)
         rotate_left
         ·simp only [Act.put,sA,sZ,sS,i64_w,i32_w];(rfl)
         (refine pure_ (i:=20) (N:=some 29) (v:=?_) (a':=?_) #[tt,tt,tt,tt,tt,tt,tt,tt,tt,tt,tt,tt,tt,tt,tt,tt,tt,tt,tt,tt,tt,ff,ff,ff,ff,ff,ff,ff,ff,ff,ff] rfl rfl (any_of HT_.out (by kernel_rfl)) (fun _ _ _ h => h) (Or.inl ⟨by rfl,?_⟩) ?_ ?_);rotate_left
         ·intro w';(go_simp);(with_reducible rfl)
         rotate_left
         ·simp only [Act.put,sA,sZ,sS,i64_w,i32_w];(rfl)
         (refine pure_ (i:=21) (N:=some 30) (v:=?_) (a':=?_) #[tt,tt,tt,tt,tt,tt,tt,tt,tt,tt,tt,tt,tt,tt,tt,tt,tt,tt,tt,tt,tt,tt,ff,ff,ff,ff,ff,ff,ff,ff,ff] rfl rfl (any_of HT_.out (by kernel_rfl)) (fun _ _ _ h => h) (Or.inl ⟨by rfl,?_⟩) ?_ ?_);rotate_left
         ·intro w';(go_simp);(with_reducible rfl)
         rotate_left
         ·simp only [Act.put,sA,sZ,sS,i64_w,i32_w];(rfl)
         (refine take_ (i:=22) (N:=some 31) (v:=?_) (a':=?_) #[tt,tt,tt,tt,tt,tt,tt,tt,tt,tt,tt,tt,tt,tt,tt,tt,tt,tt,tt,tt,tt,tt,tt,ff,ff,ff,ff,ff,ff,ff,ff] rfl rfl (take_ofW HT_.out HW_.out (by kernel_rfl)) (fun _ _ _ h => h) (Or.inl ⟨by rfl,?_⟩) hHeld ?_ ?_);rotate_left
         ·(rintro w' ⟨s0,s1,s2,s3⟩);(go_simp);(with_reducible rfl)
         rotate_left
         ·simp only [Act.put,sA,sZ,sS,i64_w,i32_w];(rfl)
         (refine pure_ (i:=23) (N:=some 32) (v:=?_) (a':=?_) #[tt,tt,tt,tt,tt,tt,tt,tt,tt,tt,tt,tt,tt,tt,tt,tt,tt,tt,tt,tt,tt,tt,tt,tt,ff,ff,ff,ff,ff,ff,ff] rfl rfl (any_of HT_.out (by kernel_rfl)) (fun _ _ _ h => h) (Or.inl ⟨by rfl,?_⟩) ?_ ?_);rotate_left
         ·intro w';(go_simp);(with_reducible rfl)
         rotate_left
         ·simp only [Act.put,sA,sZ,sS,i64_w,i32_w];(rfl)
         (refine pure_ (i:=24) (N:=some 33) (v:=?_) (a':=?_) #[tt,tt,tt,tt,tt,tt,tt,tt,tt,tt,tt,tt,tt,tt,tt,tt,tt,tt,tt,tt,tt,tt,tt,tt,tt,ff,ff,ff,ff,ff,ff] rfl rfl (any_of HT_.out (by kernel_rfl)) (fun _ _ _ h => h) (Or.inl ⟨by rfl,?_⟩) ?_ ?_);rotate_left
         ·intro w';(go_simp);(with_reducible rfl)
         rotate_left
         ·simp only [Act.put,sA,sZ,sS,i64_w,i32_w];(rfl)
         (refine pure_ (i:=25) (N:=some 34) (v:=?_) (a':=?_) #[tt,tt,tt,tt,tt,tt,tt,tt,tt,tt,tt,tt,tt,tt,tt,tt,tt,tt,tt,tt,tt,tt,tt,tt,tt,tt,ff,ff,ff,ff,ff] rfl rfl (any_of HT_.out (by kernel_rfl)) (fun _ _ _ h => h) (Or.inl ⟨by rfl,?_⟩) ?_ ?_);rotate_left
         ·intro w';(go_simp);(with_reducible rfl)
         rotate_left
         ·simp only [Act.put,sA,sZ,sS,i64_w,i32_w];(rfl)
         (refine take_ (i:=26) (N:=some 35) (v:=?_) (a':=?_) #[tt,tt,tt,tt,tt,tt,tt,tt,tt,tt,tt,tt,tt,tt,tt,tt,tt,tt,tt,tt,tt,tt,tt,tt,tt,tt,tt,ff,ff,ff,ff] rfl rfl (take_ofW HT_.out HW_.out (by kernel_rfl)) (fun _ _ _ h => h) (Or.inl ⟨by rfl,?_⟩) hHeld ?_ ?_);rotate_left
         ·(rintro w' ⟨s0,s1,s2,s3⟩);(go_simp);(with_reducible rfl)
         rotate_left
         ·simp only [Act.put,sA,sZ,sS,i64_w,i32_w];(rfl)
         (refine pure_ (i:=27) (N:=some 36) (v:=?_) (a':=?_) #[tt,tt,tt,tt,tt,tt,tt,tt,tt,tt,tt,tt,tt,tt,tt,tt,tt,tt,tt,tt,tt,tt,tt,tt,tt,tt,tt,tt,ff,ff,ff] rfl rfl (any_of HT_.out (by kernel_rfl)) (fun _ _ _ h => h) (Or.inl ⟨by rfl,?_⟩) ?_ ?_);rotate_left
         ·intro w';(go_simp);(with_reducible rfl)
         rotate_left
         ·simp only [Act.put,sA,sZ,sS,i64_w,i32_w];(rfl)
         (refine pure_ (i:=28) (N:=some 37) (v:=?_) (a':=?_) #[tt,tt,tt,tt,tt,tt,tt,tt,tt,tt,tt,tt,tt,tt,tt,tt,tt,tt,tt,tt,tt,tt,tt,tt,tt,tt,tt,tt,tt,ff,ff] rfl rfl (any_of HT_.out (by kernel_rfl)) (fun _ _ _ h => h) (Or.inl ⟨by rfl,?_⟩) ?_ ?_);rotate_left
         ·intro w';(go_simp);(with_reducible rfl)
         rotate_left
         ·simp only [Act.put,sA,sZ,sS,i64_w,i32_w];(rfl)
         (refine pure_ (i:=29) (N:=some 38) (v:=?_) (a':=?_) #[tt,tt,tt,tt,tt,tt,tt,tt,tt,tt,tt,tt,tt,tt,tt,tt,tt,tt,tt,tt,tt,tt,tt,tt,tt,tt,tt,tt,tt,tt,ff] rfl rfl (any_of HT_.out (by kernel_rfl)) (fun _ _ _ h => h) (Or.inl ⟨by rfl,?_⟩) ?_ ?_);rotate_left
         ·intro w';(go_simp);(with_reducible rfl)
         rotate_left
         ·simp only [Act.put,sA,sZ,sS,i64_w,i32_w];(rfl)
         (refine pure_ (i:=30) (N:=some 8) (v:=?_) (a':=?_) #[tt,tt,tt,tt,tt,tt,tt,tt,tt,tt,tt,tt,tt,tt,tt,tt,tt,tt,tt,tt,tt,tt,tt,tt,tt,tt,tt,tt,tt,tt,tt] rfl rfl (any_of HT_.out (by kernel_rfl)) (fun _ _ _ h => h) (Or.inl ⟨by rfl,?_⟩) ?_ ?_);rotate_left
         ·intro w';(go_simp);(with_reducible rfl)
         rotate_left
         ·simp only [Act.put,sA,sZ,sS,i64_w,i32_w];(rfl)
         (refine done_ (done_of HT_.out (by kernel_rfl)) ?_);(try go_wp2);(go_ret);(exact ⟨by first | rfl | (simp [errW_none,errW_some] <;> rfl) | (simp [*,errW_none,errW_some] <;> rfl),lo HB.out⟩)
     ·replace c9:=Bool.eq_false_iff.mpr c9;subst c9;(have H1 : (some 1) = some r:=by rw [if_neg (show ¬ (false = true) by decide)] at H;exact H);clear H;have H:=H1;clear H1;obtain rfl:=Option.some.inj H;(go_enter Tryd.func22,Tryd.ntmps22);(try go_wp2_with (first | ((with_reducible refine gate_dst (N:=1) rfl ?_);(try (refine gate_guard (by rfl) ?_;dsimp only));refine box_event ?hg (N:=1) ?hd (cs:=#[.int .i64 a0_0,.slice A0_1 l0_1.length c0_1,.string a0_2]) (t:=46) ?hr ?_;(case hd => rfl);(case hg => rfl);(case hr => first | (go_simp;done) | (go_simp;rfl));intro gb245 hg w25 hbox hb;have BK245:=am (hbox);(have GW245:=am ((by rw [hg];exact (below_size (lo HB.out)) : w.heap.size ≤ gb245)));have GE245:GEc _ _:=⟨((by rw [hg];exact (below_size (lo HB.out)) : w.heap.size ≤ gb245))⟩;replace HB:=am (below_step (lo HB.out) hb);clear hb hbox hg;have hcz26_0 : w25.cell? ⟨gb245,0,none⟩ = some (.int .i64 a0_0):=bc BK245.out 0 rfl;have hcz26_1 : w25.cell? ⟨gb245,1,none⟩ = some (.slice A0_1 l0_1.length c0_1):=bc BK245.out 1 rfl;have hcz26_2 : w25.cell? ⟨gb245,2,none⟩ = some (.string a0_2):=bc BK245.out 2 rfl;have hfz26_0:=blk_frozen BK245.out 0;have hfz26_1:=blk_frozen BK245.out 1;have hfz26_2:=blk_frozen BK245.out 2) | ((with_reducible refine gate_callee (f:=42) rfl ?_);refine goesL_ (some 6) rfl rfl Tryd.func42 (by kernel_rfl) rfl #[.int .i64 a0_0] rfl (by (try simp only [List.map_toArray,List.map_cons,List.map_nil]);first | done | rfl | (simp only [List.length_drop,List.length_take];rfl)) ?_;(with_reducible refine (request_is.calls a0_0 true _ A2.out).mono ?_);rintro e w' ⟨rfl,⟨nd,rfl⟩⟩;refine ⟨_,rfl,?_⟩)));(try (rw [drewN_self w25];generalize hq_ : World.drewN w25 _ = w25;have n0_ : Aside0 (w25.heap[gb245]? = some (.cells #[.int .i64 a0_0,.slice A0_1 l0_1.length c0_1,.string a0_2] 46 (0,0))):=⟨by rw [← hq_];exact bu BK245.out⟩;have n1_ : Aside0 (Below w.heap.size w w25):=⟨by rw [← hq_];exact lo HB.out⟩;clear BK245 HB hq_;have BK245:=n0_;have HB:=n1_;clear n0_ n1_));replace BK245:=am (blk_drew BK245.out);replace HB:=am (below_drew1 HB.out);(have p6 : 0 ≤ (a0_0 : Int):=of_decide_eq_true (by first | (with_reducible assumption) | assumption));(have q6 : a0_0 < (17 : Int):=of_decide_eq_true (by first | (with_reducible assumption) | assumption));(have hx6:=GG.at (GG.below HG.out (by repeat (first | (with_reducible first | exact HB.out | apply below_alloc | apply pw_below_drewN | apply below_drew1) | exact HB.out))) a0_0 p6 q6);replace p6:=eq_true p6;replace q6:=eq_true q6;(refine start_ (n:=31) (S:=fun w' => w'.cell? ⟨gb245,0,none⟩ = some (.int .i64 a0_0) ∧ w'.cell? ⟨gb245,1,none⟩ = some (.slice A0_1 l0_1.length c0_1) ∧ w'.cell? ⟨gb245,2,none⟩ = some (.string a0_2) ∧ w'.cell? ⟨0,a0_0.toNat,none⟩ = some (.int .i64 (gcount a0_0))) (ds:=[]) #[ff,ff,ff,ff,ff,ff,ff,ff,ff,ff,ff,ff,ff,ff,ff,ff,ff,ff,ff,ff,ff,ff,ff,ff,ff,ff,ff,ff,ff,ff,ff] (by kernel_rfl) rfl rfl ⟨bc BK245.out 0 rfl,bc BK245.out 1 rfl,bc BK245.out 2 rfl,hx6⟩ (fun hHeld => ?_);refine with_tabW request_Request_Check.tab3 request_Request_Check.bits3 (fun HT_ HW_ => ?_));(generalize w25.drew = w27 at BK245 HB hHeld ⊢);(refine pure_ (i:=0) (N:=some 9) (v:=?_) (a':=?_) #[tt,ff,ff,ff,ff,ff,ff,ff,ff,ff,ff,ff,ff,ff,ff,ff,ff,ff,ff,ff,ff,ff,ff,ff,ff,ff,ff,ff,ff,ff,ff] rfl rfl (any_of HT_.out (by kernel_rfl)) (fun _ _ _ h => h) (Or.inl ⟨by rfl,?_⟩) ?_ ?_);rotate_left
      ·intro w';(go_simp);(with_reducible rfl)
      rotate_left
      ·simp only [Act.put,sA,sZ,sS,i64_w,i32_w];(rfl)
      (refine pure_ (i:=3) (N:=some 12) (v:=?_) (a':=?_) #[tt,ff,ff,tt,ff,ff,ff,ff,ff,ff,ff,ff,ff,ff,ff,ff,ff,ff,ff,ff,ff,ff,ff,ff,ff,ff,ff,ff,ff,ff,ff] rfl rfl (any_of HT_.out (by kernel_rfl)) (fun _ _ _ h => h) (Or.inl ⟨by rfl,?_⟩) ?_ ?_);rotate_left
      ·intro w';(go_simp);(with_reducible rfl)
      rotate_left
      ·simp only [Act.put,sA,sZ,sS,i64_w,i32_w];(rfl)
      (refine take_ (i:=1) (N:=some 10) (v:=?_) (a':=?_) #[tt,tt,ff,tt,ff,ff,ff,ff,ff,ff,ff,ff,ff,ff,ff,ff,ff,ff,ff,ff,ff,ff,ff,ff,ff,ff,ff,ff,ff,ff,ff] rfl rfl (take_ofW HT_.out HW_.out (by kernel_rfl)) (fun _ _ _ h => h) (Or.inl ⟨by rfl,?_⟩) hHeld ?_ ?_);rotate_left
      ·(rintro w' ⟨s0,s1,s2,s3⟩);(go_simp);(with_reducible rfl)
      rotate_left
      ·simp only [Act.put,sA,sZ,sS,i64_w,i32_w];(rfl)
      (refine pure_ (i:=2) (N:=some 11) (v:=?_) (a':=?_) #[tt,tt,tt,tt,ff,ff,ff,ff,ff,ff,ff,ff,ff,ff,ff,ff,ff,ff,ff,ff,ff,ff,ff,ff,ff,ff,ff,ff,ff,ff,ff] rfl rfl (any_of HT_.out (by kernel_rfl)) (fun _ _ _ h => h) (Or.inl ⟨by rfl,?_⟩) ?_ ?_);rotate_left
      ·intro w';(go_simp);(with_reducible rfl)
      rotate_left
      ·simp only [Act.put,sA,sZ,sS,i64_w,i32_w];(rfl)
      (refine take_ (i:=4) (N:=some 13) (v:=?_) (a':=?_) #[tt,tt,tt,tt,tt,ff,ff,ff,ff,ff,ff,ff,ff,ff,ff,ff,ff,ff,ff,ff,ff,ff,ff,ff,ff,ff,ff,ff,ff,ff,ff] rfl rfl (take_ofW HT_.out HW_.out (by kernel_rfl)) (fun _ _ _ h => h) (Or.inl ⟨by rfl,?_⟩) hHeld ?_ ?_);rotate_left
      ·(rintro w' ⟨s0,s1,s2,s3⟩);(go_simp);(with_reducible rfl)
      rotate_left
      ·simp only [Act.put,sA,sZ,sS,i64_w,i32_w];(rfl)
      (refine take_ (i:=5) (N:=some 14) (v:=?_) (a':=?_) #[tt,tt,tt,tt,tt,tt,ff,ff,ff,ff,ff,ff,ff,ff,ff,ff,ff,ff,ff,ff,ff,ff,ff,ff,ff,ff,ff,ff,ff,ff,ff] rfl rfl (take_ofW HT_.out HW_.out (by kernel_rfl)) (fun _ _ _ h => h) (Or.inl ⟨by rfl,?_⟩) hHeld ?_ ?_);rotate_left
      ·(rintro w' ⟨s0,s1,s2,s3⟩);(go_simp);(with_reducible rfl)
      rotate_left
      ·simp only [Act.put,sA,sZ,sS,i64_w,i32_w];(rfl)
      (refine take_ (i:=6) (N:=some 15) (v:=?_) (a':=?_) #[tt,tt,tt,tt,tt,tt,tt,ff,ff,ff,ff,ff,ff,ff,ff,ff,ff,ff,ff,ff,ff,ff,ff,ff,ff,ff,ff,ff,ff,ff,ff] rfl rfl (take_ofW HT_.out HW_.out (by kernel_rfl)) (fun _ _ _ h => h) (Or.inl ⟨by rfl,?_⟩) hHeld ?_ ?_);rotate_left
      ·(rintro w' ⟨s0,s1,s2,s3⟩);(go_simp);(with_reducible rfl)
      rotate_left
      ·simp only [Act.put,sA,sZ,sS,i64_w,i32_w];(rfl)
      (refine pure_ (i:=7) (N:=some 16) (v:=?_) (a':=?_) #[tt,tt,tt,tt,tt,tt,tt,tt,ff,ff,ff,ff,ff,ff,ff,ff,ff,ff,ff,ff,ff,ff,ff,ff,ff,ff,ff,ff,ff,ff,ff] rfl rfl (any_of HT_.out (by kernel_rfl)) (fun _ _ _ h => h) (Or.inl ⟨by rfl,?_⟩) ?_ ?_);rotate_left
      ·intro w';(go_simp);(with_reducible rfl)
      rotate_left
      ·simp only [Act.put,sA,sZ,sS,i64_w,i32_w];(rfl)
      (refine pure_ (i:=8) (N:=some 17) (v:=?_) (a':=?_) #[tt,tt,tt,tt,tt,tt,tt,tt,tt,ff,ff,ff,ff,ff,ff,ff,ff,ff,ff,ff,ff,ff,ff,ff,ff,ff,ff,ff,ff,ff,ff] rfl rfl (any_of HT_.out (by kernel_rfl)) (fun _ _ _ h => h) (Or.inl ⟨by rfl,?_⟩) ?_ ?_);rotate_left
      ·intro w';(go_simp);(with_reducible rfl)
      rotate_left
      ·simp only [Act.put,sA,sZ,sS,i64_w,i32_w];(rfl)
      (refine pure_ (i:=9) (N:=some 18) (v:=?_) (a':=?_) #[tt,tt,tt,tt,tt,tt,tt,tt,tt,tt,ff,ff,ff,ff,ff,ff,ff,ff,ff,ff,ff,ff,ff,ff,ff,ff,ff,ff,ff,ff,ff] rfl rfl (any_of HT_.out (by kernel_rfl)) (fun _ _ _ h => h) (Or.inl ⟨by rfl,?_⟩) ?_ ?_);rotate_left
      ·intro w';(go_simp);(with_reducible rfl)
      rotate_left
      ·simp only [Act.put,sA,sZ,sS,i64_w,i32_w];(rfl)
      (refine take_ (i:=10) (N:=some 19) (v:=?_) (a':=?_) #[tt,tt,tt,tt,tt,tt,tt,tt,tt,tt,tt,ff,ff,ff,ff,ff,ff,ff,ff,ff,ff,ff,ff,ff,ff,ff,ff,ff,ff,ff,ff] rfl rfl (take_ofW HT_.out HW_.out (by kernel_rfl)) (fun _ _ _ h => h) (Or.inl ⟨by rfl,?_⟩) hHeld ?_ ?_);rotate_left
      ·(rintro w' ⟨s0,s1,s2,s3⟩);(go_simp);(with_reducible rfl)
      rotate_left
      ·simp only [Act.put,sA,sZ,sS,i64_w,i32_w];(rfl)
      (refine one_ (i:=11) (N:=some 20) #[tt,tt,tt,tt,tt,tt,tt,tt,tt,tt,tt,tt,ff,ff,ff,ff,ff,ff,ff,ff,ff,ff,ff,ff,ff,ff,ff,ff,ff,ff,ff] rfl rfl (one_of HT_.out (by kernel_rfl)) (by decide) (fun K hK => ?_));(refine goes_ Tryd.func39 (by kernel_rfl) rfl #[.slice A0_1 l0_1.length c0_1] (by rfl) rfl rfl (by (try simp only [List.map_toArray,List.map_cons,List.map_nil]);first | done | rfl | (simp only [List.length_drop,List.length_take];rfl)) ?_);(with_reducible refine (request_numbers.calls _ _ l0_1 false _ ?side1 ?side2 A8.out).mono ?_);(case side1 => exact cu (Kd.C_below HR0_1.out HB.out));(case side2 => exact HC0_1.out);(rintro e w' ⟨rfl,⟨nd,rfl⟩⟩);(refine ⟨_,rfl,?_⟩);(refine hK.out _ _ ⟨bc BK245.out 0 rfl,bc BK245.out 1 rfl,bc BK245.out 2 rfl,GG.at (GG.below HG.out (by repeat (first | (with_reducible first | exact HB.out | apply below_alloc | apply pw_below_drewN | apply below_drew1) | exact HB.out))) a0_0 (of_eq_true p6) (of_eq_true q6)⟩ (fun hHeld => ?_));clear hK K;(refine norm_ (a':=?_) ?_ ?_);rotate_left
      ·(show Act.put _ (some 20) _ = _);simp only [Act.put,sA,sZ,sS,i64_w,i32_w];(rfl)
      (refine pure_ (i:=12) (N:=some 21) (v:=?_) (a':=?_) #[tt,tt,tt,tt,tt,tt,tt,tt,tt,tt,tt,tt,tt,ff,ff,ff,ff,ff,ff,ff,ff,ff,ff,ff,ff,ff,ff,ff,ff,ff,ff] rfl rfl (any_of HT_.out (by kernel_rfl)) (fun _ _ _ h => h) (Or.inl ⟨by rfl,?_⟩) ?_ ?_);rotate_left
      ·intro w';(go_simp);(with_reducible rfl)
      rotate_left
      ·simp only [Act.put,sA,sZ,sS,i64_w,i32_w];(rfl)
      (refine pure_ (i:=13) (N:=some 22) (v:=?_) (a':=?_) #[tt,tt,tt,tt,tt,tt,tt,tt,tt,tt,tt,tt,tt,tt,ff,ff,ff,ff,ff,ff,ff,ff,ff,ff,ff,ff,ff,ff,ff,ff,ff] rfl rfl (any_of HT_.out (by kernel_rfl)) (fun _ _ _ h => h) (Or.inl ⟨by rfl,?_⟩) ?_ ?_);rotate_left
      ·intro w';(go_simp);(with_reducible rfl)
      rotate_left
      ·simp only [Act.put,sA,sZ,sS,i64_w,i32_w];(rfl)
      (refine pure_ (i:=14) (N:=some 23) (v:=?_) (a':=?_) #[tt,tt,tt,tt,tt,tt,tt,tt,tt,tt,tt,tt,tt,tt,tt,ff,ff,ff,ff,ff,ff,ff,ff,ff,ff,ff,ff,ff,ff,ff,ff] rfl rfl (any_of HT_.out (by kernel_rfl)) (fun _ _ _ h => h) (Or.inl ⟨by rfl,?_⟩) ?_ ?_);rotate_left
      ·intro w';(go_simp);(with_reducible rfl)
      rotate_left
      ·simp only [Act.put,sA,sZ,sS,i64_w,i32_w];(rfl)
      (refine pure_ (i:=15) (N:=some 24) (v:=undef) (a':=?_) #[tt,tt,tt,tt,tt,tt,tt,tt,tt,tt,tt,tt,tt,tt,tt,tt,ff,ff,ff,ff,ff,ff,ff,ff,ff,ff,ff,ff,ff,ff,ff] rfl rfl (any_of HT_.out (by kernel_rfl)) (fun _ _ _ h => h) (Or.inr ⟨by rfl,rfl⟩) ?_ ?_);rotate_left
      ·simp only [Act.put,sA,sZ,sS,i64_w,i32_w];(rfl)
      (refine pure_ (i:=16) (N:=some 25) (v:=undef) (a':=?_) #[tt,tt,tt,tt,tt,tt,tt,tt,tt,tt,tt,tt,tt,tt,tt,tt,tt,ff,ff,ff,ff,ff,ff,ff,ff,ff,ff,ff,ff,ff,ff] rfl rfl (any_of HT_.out (by kernel_rfl)) (fun _ _ _ h => h) (Or.inr ⟨by rfl,rfl⟩) ?_ ?_);rotate_left
      ·simp only [Act.put,sA,sZ,sS,i64_w,i32_w];(rfl)
      (refine pure_ (i:=17) (N:=some 26) (v:=undef) (a':=?_) #[tt,tt,tt,tt,tt,tt,tt,tt,tt,tt,tt,tt,tt,tt,tt,tt,tt,tt,ff,ff,ff,ff,ff,ff,ff,ff,ff,ff,ff,ff,ff] rfl rfl (any_of HT_.out (by kernel_rfl)) (fun _ _ _ h => h) (Or.inr ⟨by rfl,rfl⟩) ?_ ?_);rotate_left
      ·simp only [Act.put,sA,sZ,sS,i64_w,i32_w];(rfl)
      (refine pure_ (i:=18) (N:=some 27) (v:=undef) (a':=?_) #[tt,tt,tt,tt,tt,tt,tt,tt,tt,tt,tt,tt,tt,tt,tt,tt,tt,tt,tt,ff,ff,ff,ff,ff,ff,ff,ff,ff,ff,ff,ff] rfl rfl (any_of HT_.out (by kernel_rfl)) (fun _ _ _ h => h) (Or.inr ⟨by rfl,rfl⟩) ?_ ?_);rotate_left
      ·simp only [Act.put,sA,sZ,sS,i64_w,i32_w];(rfl)
      (refine pure_ (i:=19) (N:=some 28) (v:=?_) (a':=?_) #[tt,tt,tt,tt,tt,tt,tt,tt,tt,tt,tt,tt,tt,tt,tt,tt,tt,tt,tt,tt,ff,ff,ff,ff,ff,ff,ff,ff,ff,ff,ff] rfl rfl (any_of HT_.out (by kernel_rfl)) (fun _ _ _ h => h) (Or.inl ⟨by rfl,?_⟩) ?_ ?_);rotate_left
      ·intro w';(go_simp);(with_reducible rfl)
      rotate_left
      ·simp only [Act.put,sA,sZ,sS,i64_w,i32_w];(rfl)
      (refine pure_ (i:=20) (N:=some 29) (v:=?_) (a':=?_) #[tt,tt,tt,tt,tt,tt,tt,tt,tt,tt,tt,tt,tt,tt,tt,tt,tt,tt,tt,tt,tt,ff,ff,ff,ff,ff,ff,ff,ff,ff,ff] rfl rfl (any_of HT_.out (by kernel_rfl)) (fun _ _ _ h => h) (Or.inl ⟨by rfl,?_⟩) ?_ ?_);rotate_left
      ·intro w';(go_simp);(with_reducible rfl)
      rotate_left
      ·simp only [Act.put,sA,sZ,sS,i64_w,i32_w];(rfl)
      (refine pure_ (i:=21) (N:=some 30) (v:=undef) (a':=?_) #[tt,tt,tt,tt,tt,tt,tt,tt,tt,tt,tt,tt,tt,tt,tt,tt,tt,tt,tt,tt,tt,tt,ff,ff,ff,ff,ff,ff,ff,ff,ff] rfl rfl (any_of HT_.out (by kernel_rfl)) (fun _ _ _ h => h) (Or.inr ⟨by rfl,rfl⟩) ?_ ?_);rotate_left
      ·simp only [Act.put,sA,sZ,sS,i64_w,i32_w];(rfl)
      (refine pure_ (i:=22) (N:=some 31) (v:=undef) (a':=?_) #[tt,tt,tt,tt,tt,tt,tt,tt,tt,tt,tt,tt,tt,tt,tt,tt,tt,tt,tt,tt,tt,tt,tt,ff,ff,ff,ff,ff,ff,ff,ff] rfl rfl (any_of HT_.out (by kernel_rfl)) (fun _ _ _ h => h) (Or.inr ⟨by rfl,rfl⟩) ?_ ?_);rotate_left
      ·simp only [Act.put,sA,sZ,sS,i64_w,i32_w];(rfl)
      (refine pure_ (i:=23) (N:=some 32) (v:=undef) (a':=?_) #[tt,tt,tt,tt,tt,tt,tt,tt,tt,tt,tt,tt,tt,tt,tt,tt,tt,tt,tt,tt,tt,tt,tt,tt,ff,ff,ff,ff,ff,ff,ff] rfl rfl (any_of HT_.out (by kernel_rfl)) (fun _ _ _ h => h) (Or.inr ⟨by rfl,rfl⟩) ?_ ?_);rotate_left
      ·simp only [Act.put,sA,sZ,sS,i64_w,i32_w];(rfl)
      (refine pure_ (i:=24) (N:=some 33) (v:=undef) (a':=?_) #[tt,tt,tt,tt,tt,tt,tt,tt,tt,tt,tt,tt,tt,tt,tt,tt,tt,tt,tt,tt,tt,tt,tt,tt,tt,ff,ff,ff,ff,ff,ff] rfl rfl (any_of HT_.out (by kernel_rfl)) (fun _ _ _ h => h) (Or.inr ⟨by rfl,rfl⟩) ?_ ?_);rotate_left
      ·simp only [Act.put,sA,sZ,sS,i64_w,i32_w];(rfl)
      (refine pure_ (i:=25) (N:=some 34) (v:=undef) (a':=?_) #[tt,tt,tt,tt,tt,tt,tt,tt,tt,tt,tt,tt,tt,tt,tt,tt,tt,tt,tt,tt,tt,tt,tt,tt,tt,tt,ff,ff,ff,ff,ff] rfl rfl (any_of HT_.out (by kernel_rfl)) (fun _ _ _ h => h) (Or.inr ⟨by rfl,rfl⟩) ?_ ?_);rotate_left
      ·simp only [Act.put,sA,sZ,sS,i64_w,i32_w];(rfl)
      (refine pure_ (i:=26) (N:=some 35) (v:=undef) (a':=?_) #[tt,tt,tt,tt,tt,tt,tt,tt,tt,tt,tt,tt,tt,tt,tt,tt,tt,tt,tt,tt,tt,tt,tt,tt,tt,tt,tt,ff,ff,ff,ff] rfl rfl (any_of HT_.out (by kernel_rfl)) (fun _ _ _ h => h) (Or.inr ⟨by rfl,rfl⟩) ?_ ?_);rotate_left
      ·simp only [Act.put,sA,sZ,sS,i64_w,i32_w];(rfl)
      (refine pure_ (i:=27) (N:=some 36) (v:=undef) (a':=?_) #[tt,tt,tt,tt,tt,tt,tt,tt,tt,tt,tt,tt,tt,tt,tt,tt,tt,tt,tt,tt,tt,tt,tt,tt,tt,tt,tt,tt,ff,ff,ff] rfl rfl (any_of HT_.out (by kernel_rfl)) (fun _ _ _ h => h) (Or.inr ⟨by rfl,rfl⟩) ?_ ?_);rotate_left
      ·simp only [Act.put,sA,sZ,sS,i64_w,i32_w];(rfl)
      (refine pure_ (i:=28) (N:=some 37) (v:=undef) (a':=?_) #[tt,tt,tt,tt,tt,tt,tt,tt,tt,tt,tt,tt,tt,tt,tt,tt,tt,tt,tt,tt,tt,tt,tt,tt,tt,tt,tt,tt,tt,ff,ff] rfl rfl (any_of HT_.out (by kernel_rfl)) (fun _ _ _ h => h) (Or.inr ⟨by rfl,rfl⟩) ?_ ?_);rotate_left
      ·simp only [Act.put,sA,sZ,sS,i64_w,i32_w];(rfl)
      (refine pure_ (i:=29) (N:=some 38) (v:=?_) (a':=?_) #[tt,tt,tt,tt,tt,tt,tt,tt,tt,tt,tt,tt,tt,tt,tt,tt,tt,tt,tt,tt,tt,tt,tt,tt,tt,tt,tt,tt,tt,tt,ff] rfl rfl (any_of HT_.out (by kernel_rfl)) (fun _ _ _ h => h) (Or.inl ⟨by rfl,?_⟩) ?_ ?_);rotate_left
      ·intro w';(go_simp);(with_reducible rfl)
      rotate_left
      ·simp only [Act.put,sA,sZ,sS,i64_w,i32_w];(rfl)
      (refine pure_ (i:=30) (N:=some 8) (v:=?_) (a':=?_) #[tt,tt,tt,tt,tt,tt,tt,tt,tt,tt,tt,tt,tt,tt,tt,tt,tt,tt,tt,tt,tt,tt,tt,tt,tt,tt,tt,tt,tt,tt,tt] rfl rfl (any_of HT_.out (by kernel_rfl)) (fun _ _ _ h => h) (Or.inl ⟨by rfl,?_⟩) ?_ ?_);rotate_left
      ·intro w';(go_simp);(with_reducible rfl)
      rotate_left
      ·simp only [Act.put,sA,sZ,sS,i64_w,i32_w];(rfl)
      (refine done_ (done_of HT_.out (by kernel_rfl)) ?_);(try go_wp2);(go_ret);(exact ⟨by first | rfl | (simp [errW_none,errW_some] <;> rfl) | (simp [*,errW_none,errW_some] <;> rfl),lo HB.out⟩)
    ·rw [if_neg c7] at H;have c7b0 : ((l0_1.length : Int) == (gcount a0_0)) = false:=beq_eq_false_iff_ne.mpr c7;have c7b1 : ((l0_1.length : Int) != (gcount a0_0)) = true:=bne_iff_ne.mpr c7;obtain rfl:=Option.some.inj H;(go_enter Tryd.func22,Tryd.ntmps22);(try go_wp2_with (first | ((with_reducible refine gate_dst (N:=1) rfl ?_);(try (refine gate_guard (by rfl) ?_;dsimp only));refine box_event ?hg (N:=1) ?hd (cs:=#[.int .i64 a0_0,.slice A0_1 l0_1.length c0_1,.string a0_2]) (t:=46) ?hr ?_;(case hd => rfl);(case hg => rfl);(case hr => first | (go_simp;done) | (go_simp;rfl));intro gb245 hg w28 hbox hb;have BK245:=am (hbox);(have GW245:=am ((by rw [hg];exact (below_size (lo HB.out)) : w.heap.size ≤ gb245)));have GE245:GEc _ _:=⟨((by rw [hg];exact (below_size (lo HB.out)) : w.heap.size ≤ gb245))⟩;replace HB:=am (below_step (lo HB.out) hb);clear hb hbox hg;have hcz29_0 : w28.cell? ⟨gb245,0,none⟩ = some (.int .i64 a0_0):=bc BK245.out 0 rfl;have hcz29_1 : w28.cell? ⟨gb245,1,none⟩ = some (.slice A0_1 l0_1.length c0_1):=bc BK245.out 1 rfl;have hcz29_2 : w28.cell? ⟨gb245,2,none⟩ = some (.string a0_2):=bc BK245.out 2 rfl;have hfz29_0:=blk_frozen BK245.out 0;have hfz29_1:=blk_frozen BK245.out 1;have hfz29_2:=blk_frozen BK245.out 2) | ((with_reducible refine gate_callee (f:=42) rfl ?_);refine goesL_ (some 6) rfl rfl Tryd.func42 (by kernel_rfl) rfl #[.int .i64 a0_0] rfl (by (try simp only [List.map_toArray,List.map_cons,List.map_nil]);first | done | rfl | (simp only [List.length_drop,List.length_take];rfl)) ?_;(with_reducible refine (request_is.calls a0_0 true _ A2.out).mono ?_);rintro e w' ⟨rfl,⟨nd,rfl⟩⟩;refine ⟨_,rfl,?_⟩)));(try (rw [drewN_self w28];generalize hq_ : World.drewN w28 _ = w28;have n0_ : Aside0 (w28.heap[gb245]? = some (.cells #[.int .i64 a0_0,.slice A0_1 l0_1.length c0_1,.string a0_2] 46 (0,0))):=⟨by rw [← hq_];exact bu BK245.out⟩;have n1_ : Aside0 (Below w.heap.size w w28):=⟨by rw [← hq_];exact lo HB.out⟩;clear BK245 HB hq_;have BK245:=n0_;have HB:=n1_;clear n0_ n1_));replace BK245:=am (blk_drew BK245.out);replace HB:=am (below_drew1 HB.out);(have p6 : 0 ≤ (a0_0 : Int):=of_decide_eq_true (by first | (with_reducible assumption) | assumption));(have q6 : a0_0 < (17 : Int):=of_decide_eq_true (by first | (with_reducible assumption) | assumption));(have hx6:=GG.at (GG.below HG.out (by repeat (first | (with_reducible first | exact HB.out | apply below_alloc | apply pw_below_drewN | apply below_drew1) | exact HB.out))) a0_0 p6 q6);replace p6:=eq_true p6;replace q6:=eq_true q6;(refine start_ (n:=31) (S:=fun w' => w'.cell? ⟨gb245,0,none⟩ = some (.int .i64 a0_0) ∧ w'.cell? ⟨gb245,1,none⟩ = some (.slice A0_1 l0_1.length c0_1) ∧ w'.cell? ⟨gb245,2,none⟩ = some (.string a0_2) ∧ w'.cell? ⟨0,a0_0.toNat,none⟩ = some (.int .i64 (gcount a0_0))) (ds:=[]) #[ff,ff,ff,ff,ff,ff,ff,ff,ff,ff,ff,ff,ff,ff,ff,ff,ff,ff,ff,ff,ff,ff,ff,ff,ff,ff,ff,ff,ff,ff,ff] (by kernel_rfl) rfl rfl ⟨bc BK245.out 0 rfl,bc BK245.out 1 rfl,bc BK245.out 2 rfl,hx6⟩ (fun hHeld => ?_);refine with_tabW request_Request_Check.tab3 request_Request_Check.bits3 (fun HT_ HW_ => ?_));(generalize w28.drew = w30 at BK245 HB hHeld ⊢);(refine pure_ (i:=0) (N:=some 9) (v:=?_) (a':=?_) #[tt,ff,ff,ff,ff,ff,ff,ff,ff,ff,ff,ff,ff,ff,ff,ff,ff,ff,ff,ff,ff,ff,ff,ff,ff,ff,ff,ff,ff,ff,ff] rfl rfl (any_of HT_.out (by kernel_rfl)) (fun _ _ _ h => h) (Or.inl ⟨by rfl,?_⟩) ?_ ?_);rotate_left
     ·intro w';(go_simp);(with_reducible rfl)
     rotate_left
     ·simp only [Act.put,sA,sZ,sS,i64_w,i32_w];(rfl)
     (refine pure_ (i:=3) (N:=some 12) (v:=?_) (a':=?_) #[tt,ff,ff,tt,ff,ff,ff,ff,ff,ff,ff,ff,ff,ff,ff,ff,ff,ff,ff,ff,ff,ff,ff,ff,ff,ff,ff,ff,ff,ff,ff] rfl rfl (any_of HT_.out (by kernel_rfl)) (fun _ _ _ h => h) (Or.inl ⟨by rfl,?_⟩) ?_ ?_);rotate_left
     ·intro w';(go_simp);(with_reducible rfl)
     rotate_left
     ·simp only [Act.put,sA,sZ,sS,i64_w,i32_w];(rfl)
     (refine take_ (i:=1) (N:=some 10) (v:=?_) (a':=?_) #[tt,tt,ff,tt,ff,ff,ff,ff,ff,ff,ff,ff,ff,ff,ff,ff,ff,ff,ff,ff,ff,ff,ff,ff,ff,ff,ff,ff,ff,ff,ff] rfl rfl (take_ofW HT_.out HW_.out (by kernel_rfl)) (fun _ _ _ h => h) (Or.inl ⟨by rfl,?_⟩) hHeld ?_ ?_);rotate_left
     ·(rintro w' ⟨s0,s1,s2,s3⟩);(go_simp);(with_reducible rfl)
     rotate_left
     ·simp only [Act.put,sA,sZ,sS,i64_w,i32_w];(rfl)
     (refine pure_ (i:=2) (N:=some 11) (v:=?_) (a':=?_) #[tt,tt,tt,tt,ff,ff,ff,ff,ff,ff,ff,ff,ff,ff,ff,ff,ff,ff,ff,ff,ff,ff,ff,ff,ff,ff,ff,ff,ff,ff,ff] rfl rfl (any_of HT_.out (by kernel_rfl)) (fun _ _ _ h => h) (Or.inl ⟨by rfl,?_⟩) ?_ ?_);rotate_left
     ·intro w';(go_simp);(with_reducible rfl)
     rotate_left
     ·simp only [Act.put,sA,sZ,sS,i64_w,i32_w];(rfl)
     (refine take_ (i:=4) (N:=some 13) (v:=?_) (a':=?_) #[tt,tt,tt,tt,tt,ff,ff,ff,ff,ff,ff,ff,ff,ff,ff,ff,ff,ff,ff,ff,ff,ff,ff,ff,ff,ff,ff,ff,ff,ff,ff] rfl rfl (take_ofW HT_.out HW_.out (by kernel_rfl)) (fun _ _ _ h => h) (Or.inl ⟨by rfl,?_⟩) hHeld ?_ ?_);rotate_left
     ·(rintro w' ⟨s0,s1,s2,s3⟩);(go_simp);(with_reducible rfl)
     rotate_left
     ·simp only [Act.put,sA,sZ,sS,i64_w,i32_w];(rfl)
     (refine take_ (i:=5) (N:=some 14) (v:=?_) (a':=?_) #[tt,tt,tt,tt,tt,tt,ff,ff,ff,ff,ff,ff,ff,ff,ff,ff,ff,ff,ff,ff,ff,ff,ff,ff,ff,ff,ff,ff,ff,ff,ff] rfl rfl (take_ofW HT_.out HW_.out (by kernel_rfl)) (fun _ _ _ h => h) (Or.inl ⟨by rfl,?_⟩) hHeld ?_ ?_);rotate_left
     ·(rintro w' ⟨s0,s1,s2,s3⟩);(go_simp);(with_reducible rfl)
     rotate_left
     ·simp only [Act.put,sA,sZ,sS,i64_w,i32_w];(rfl)
     (refine take_ (i:=6) (N:=some 15) (v:=?_) (a':=?_) #[tt,tt,tt,tt,tt,tt,tt,ff,ff,ff,ff,ff,ff,ff,ff,ff,ff,ff,ff,ff,ff,ff,ff,ff,ff,ff,ff,ff,ff,ff,ff] rfl rfl (take_ofW HT_.out HW_.out (by kernel_rfl)) (fun _ _ _ h => h) (Or.inl ⟨by rfl,?_⟩) hHeld ?_ ?_);rotate_left
     ·(rintro w' ⟨s0,s1,s2,s3⟩);(go_simp);(with_reducible rfl)
     rotate_left
     ·simp only [Act.put,sA,sZ,sS,i64_w,i32_w];(rfl)
     (refine pure_ (i:=7) (N:=some 16) (v:=?_) (a':=?_) #[tt,tt,tt,tt,tt,tt,tt,tt,ff,ff,ff,ff,ff,ff,ff,ff,ff,ff,ff,ff,ff,ff,ff,ff,ff,ff,ff,ff,ff,ff,ff] rfl rfl (any_of HT_.out (by kernel_rfl)) (fun _ _ _ h => h) (Or.inl ⟨by rfl,?_⟩) ?_ ?_);rotate_left
     ·intro w';(go_simp);(with_reducible rfl)
     rotate_left
     ·simp only [Act.put,sA,sZ,sS,i64_w,i32_w];(rfl)
     (refine pure_ (i:=8) (N:=some 17) (v:=?_) (a':=?_) #[tt,tt,tt,tt,tt,tt,tt,tt,tt,ff,ff,ff,ff,ff,ff,ff,ff,ff,ff,ff,ff,ff,ff,ff,ff,ff,ff,ff,ff,ff,ff] rfl rfl (any_of HT_.out (by kernel_rfl)) (fun _ _ _ h => h) (Or.inl ⟨by rfl,?_⟩) ?_ ?_);rotate_left
     ·intro w';(go_simp);(with_reducible rfl)
     rotate_left
     ·simp only [Act.put,sA,sZ,sS,i64_w,i32_w];(rfl)
     (refine pure_ (i:=9) (N:=some 18) (v:=undef) (a':=?_) #[tt,tt,tt,tt,tt,tt,tt,tt,tt,tt,ff,ff,ff,ff,ff,ff,ff,ff,ff,ff,ff,ff,ff,ff,ff,ff,ff,ff,ff,ff,ff] rfl rfl (any_of HT_.out (by kernel_rfl)) (fun _ _ _ h => h) (Or.inr ⟨by rfl,rfl⟩) ?_ ?_);rotate_left
     ·simp only [Act.put,sA,sZ,sS,i64_w,i32_w];(rfl)
     (refine pure_ (i:=10) (N:=some 19) (v:=undef) (a':=?_) #[tt,tt,tt,tt,tt,tt,tt,tt,tt,tt,tt,ff,ff,ff,ff,ff,ff,ff,ff,ff,ff,ff,ff,ff,ff,ff,ff,ff,ff,ff,ff] rfl rfl (any_of HT_.out (by kernel_rfl)) (fun _ _ _ h => h) (Or.inr ⟨by rfl,rfl⟩) ?_ ?_);rotate_left
     ·simp only [Act.put,sA,sZ,sS,i64_w,i32_w];(rfl)
     (refine pure_ (i:=11) (N:=some 20) (v:=undef) (a':=?_) #[tt,tt,tt,tt,tt,tt,tt,tt,tt,tt,tt,tt,ff,ff,ff,ff,ff,ff,ff,ff,ff,ff,ff,ff,ff,ff,ff,ff,ff,ff,ff] rfl rfl (any_of HT_.out (by kernel_rfl)) (fun _ _ _ h => h) (Or.inr ⟨by rfl,rfl⟩) ?_ ?_);rotate_left
     ·simp only [Act.put,sA,sZ,sS,i64_w,i32_w];(rfl)
     (refine pure_ (i:=12) (N:=some 21) (v:=undef) (a':=?_) #[tt,tt,tt,tt,tt,tt,tt,tt,tt,tt,tt,tt,tt,ff,ff,ff,ff,ff,ff,ff,ff,ff,ff,ff,ff,ff,ff,ff,ff,ff,ff] rfl rfl (any_of HT_.out (by kernel_rfl)) (fun _ _ _ h => h) (Or.inr ⟨by rfl,rfl⟩) ?_ ?_);rotate_left
     ·simp only [Act.put,sA,sZ,sS,i64_w,i32_w];(rfl)
     (refine pure_ (i:=13) (N:=some 22) (v:=?_) (a':=?_) #[tt,tt,tt,tt,tt,tt,tt,tt,tt,tt,tt,tt,tt,tt,ff,ff,ff,ff,ff,ff,ff,ff,ff,ff,ff,ff,ff,ff,ff,ff,ff] rfl rfl (any_of HT_.out (by kernel_rfl)) (fun _ _ _ h => h) (Or.inl ⟨by rfl,?_⟩) ?_ ?_);rotate_left
     ·intro w';(go_simp);(with_reducible rfl)
     rotate_left
     ·simp only [Act.put,sA,sZ,sS,i64_w,i32_w];(rfl)
     (refine pure_ (i:=14) (N:=some 23) (v:=?_) (a':=?_) #[tt,tt,tt,tt,tt,tt,tt,tt,tt,tt,tt,tt,tt,tt,tt,ff,ff,ff,ff,ff,ff,ff,ff,ff,ff,ff,ff,ff,ff,ff,ff] rfl rfl (any_of HT_.out (by kernel_rfl)) (fun _ _ _ h => h) (Or.inl ⟨by rfl,?_⟩) ?_ ?_);rotate_left
     ·intro w';(go_simp);(with_reducible rfl)
     rotate_left
     ·simp only [Act.put,sA,sZ,sS,i64_w,i32_w];(rfl)
     (refine pure_ (i:=15) (N:=some 24) (v:=undef) (a':=?_) #[tt,tt,tt,tt,tt,tt,tt,tt,tt,tt,tt,tt,tt,tt,tt,tt,ff,ff,ff,ff,ff,ff,ff,ff,ff,ff,ff,ff,ff,ff,ff] rfl rfl (any_of HT_.out (by kernel_rfl)) (fun _ _ _ h => h) (Or.inr ⟨by rfl,rfl⟩) ?_ ?_);rotate_left
     ·simp only [Act.put,sA,sZ,sS,i64_w,i32_w];(rfl)
     (refine pure_ (i:=16) (N:=some 25) (v:=undef) (a':=?_) #[tt,tt,tt,tt,tt,tt,tt,tt,tt,tt,tt,tt,tt,tt,tt,tt,tt,ff,ff,ff,ff,ff,ff,ff,ff,ff,ff,ff,ff,ff,ff] rfl rfl (any_of HT_.out (by kernel_rfl)) (fun _ _ _ h => h) (Or.inr ⟨by rfl,rfl⟩) ?_ ?_);rotate_left
     ·simp only [Act.put,sA,sZ,sS,i64_w,i32_w];(rfl)
     (refine pure_ (i:=17) (N:=some 26) (v:=undef) (a':=?_) #[tt,tt,tt,tt,tt,tt,tt,tt,tt,tt,tt,tt,tt,tt,tt,tt,tt,tt,ff,ff,ff,ff,ff,ff,ff,ff,ff,ff,ff,ff,ff] rfl rfl (any_of HT_.out (by kernel_rfl)) (fun _ _ _ h => h) (Or.inr ⟨by rfl,rfl⟩) ?_ ?_);rotate_left
     ·simp only [Act.put,sA,sZ,sS,i64_w,i32_w];(rfl)
     (refine pure_ (i:=18) (N:=some 27) (v:=undef) (a':=?_) #[tt,tt,tt,tt,tt,tt,tt,tt,tt,tt,tt,tt,tt,tt,tt,tt,tt,tt,tt,ff,ff,ff,ff,ff,ff,ff,ff,ff,ff,ff,ff] rfl rfl (any_of HT_.out (by kernel_rfl)) (fun _ _ _ h => h) (Or.inr ⟨by rfl,rfl⟩) ?_ ?_);rotate_left
     ·simp only [Act.put,sA,sZ,sS,i64_w,i32_w];(rfl)
     (refine pure_ (i:=19) (N:=some 28) (v:=?_) (a':=?_) #[tt,tt,tt,tt,tt,tt,tt,tt,tt,tt,tt,tt,tt,tt,tt,tt,tt,tt,tt,tt,ff,ff,ff,ff,ff,ff,ff,ff,ff,ff,ff] rfl rfl (any_of HT_.out (by kernel_rfl)) (fun _ _ _ h => h) (Or.inl ⟨by rfl,?_⟩) ?_ ?_);rotate_left
     ·intro w';(go_simp);(with_reducible rfl)
     rotate_left
     ·simp only [Act.put,sA,sZ,sS,i64_w,i32_w];(rfl)
     (refine pure_ (i:=20) (N:=some 29) (v:=?_) (a':=?_) #[tt,tt,tt,tt,tt,tt,tt,tt,tt,tt,tt,tt,tt,tt,tt,tt,tt,tt,tt,tt,tt,ff,ff,ff,ff,ff,ff,ff,ff,ff,ff] rfl rfl (any_of HT_.out (by kernel_rfl)) (fun _ _ _ h => h) (Or.inl ⟨by rfl,?_⟩) ?_ ?_);rotate_left
     ·intro w';(go_simp);(with_reducible rfl)
     rotate_left
     ·simp only [Act.put,sA,sZ,sS,i64_w,i32_w];(rfl)
     (refine pure_ (i:=21) (N:=some 30) (v:=undef) (a':=?_) #[tt,tt,tt,tt,tt,tt,tt,tt,tt,tt,tt,tt,tt,tt,tt,tt,tt,tt,tt,tt,tt,tt,ff,ff,ff,ff,ff,ff,ff,ff,ff] rfl rfl (any_of HT_.out (by kernel_rfl)) (fun _ _ _ h => h) (Or.inr ⟨by rfl,rfl⟩) ?_ ?_);rotate_left
     ·simp only [Act.put,sA,sZ,sS,i64_w,i32_w];(rfl)
     (refine pure_ (i:=22) (N:=some 31) (v:=undef) (a':=?_) #[tt,tt,tt,tt,tt,tt,tt,tt,tt,tt,tt,tt,tt,tt,tt,tt,tt,tt,tt,tt,tt,tt,tt,ff,ff,ff,ff,ff,ff,ff,ff] rfl rfl (any_of HT_.out (by kernel_rfl)) (fun _ _ _ h => h) (Or.inr ⟨by rfl,rfl⟩) ?_ ?_);rotate_left
     ·simp only [Act.put,sA,sZ,sS,i64_w,i32_w];(rfl)
     (refine pure_ (i:=23) (N:=some 32) (v:=undef) (a':=?_) #[tt,tt,tt,tt,tt,tt,tt,tt,tt,tt,tt,tt,tt,tt,tt,tt,tt,tt,tt,tt,tt,tt,tt,tt,ff,ff,ff,ff,ff,ff,ff] rfl rfl (any_of HT_.out (by kernel_rfl)) (fun _ _ _ h => h) (Or.inr ⟨by rfl,rfl⟩) ?_ ?_);rotate_left
     ·simp only [Act.put,sA,sZ,sS,i64_w,i32_w];(rfl)
     (refine pure_ (i:=24) (N:=some 33) (v:=undef) (a':=?_) #[tt,tt,tt,tt,tt,tt,tt,tt,tt,tt,tt,tt,tt,tt,tt,tt,tt,tt,tt,tt,tt,tt,tt,tt,tt,ff,ff,ff,ff,ff,ff] rfl rfl (any_of HT_.out (by kernel_rfl)) (fun _ _ _ h => h) (Or.inr ⟨by rfl,rfl⟩) ?_ ?_);rotate_left
     ·simp only [Act.put,sA,sZ,sS,i64_w,i32_w];(rfl)
     (refine pure_ (i:=25) (N:=some 34) (v:=undef) (a':=?_) #[tt,tt,tt,tt,tt,tt,tt,tt,tt,tt,tt,tt,tt,tt,tt,tt,tt,tt,tt,tt,tt,tt,tt,tt,tt,tt,ff,ff,ff,ff,ff] rfl rfl (any_of HT_.out (by kernel_rfl)) (fun _ _ _ h => h) (Or.inr ⟨by rfl,rfl⟩) ?_ ?_);rotate_left
     ·simp only [Act.put,sA,sZ,sS,i64_w,i32_w];(rfl)
     (refine pure_ (i:=26) (N:=some 35) (v:=undef) (a':=?_) #[tt,tt,tt,tt,tt,tt,tt,tt,tt,tt,tt,tt,tt,tt,tt,tt,tt,tt,tt,tt,tt,tt,tt,tt,tt,tt,tt,ff,ff,ff,ff] rfl rfl (any_of HT_.out (by kernel_rfl)) (fun _ _ _ h => h) (Or.inr ⟨by rfl,rfl⟩) ?_ ?_);rotate_left
     ·simp only [Act.put,sA,sZ,sS,i64_w,i32_w];(rfl)
     (refine pure_ (i:=27) (N:=some 36) (v:=undef) (a':=?_) #[tt,tt,tt,tt,tt,tt,tt,tt,tt,tt,tt,tt,tt,tt,tt,tt,tt,tt,tt,tt,tt,tt,tt,tt,tt,tt,tt,tt,ff,ff,ff] rfl rfl (any_of HT_.out (by kernel_rfl)) (fun _ _ _ h => h) (Or.inr ⟨by rfl,rfl⟩) ?_ ?_);rotate_left
     ·simp only [Act.put,sA,sZ,sS,i64_w,i32_w];(rfl)
     (refine pure_ (i:=28) (N:=some 37) (v:=undef) (a':=?_) #[tt,tt,tt,tt,tt,tt,tt,tt,tt,tt,tt,tt,tt,tt,tt,tt,tt,tt,tt,tt,tt,tt,tt,tt,tt,tt,tt,tt,tt,ff,ff] rfl rfl (any_of HT_.out (by kernel_rfl)) (fun _ _ _ h => h) (Or.inr ⟨by rfl,rfl⟩) ?_ ?_);rotate_left
     ·simp only [Act.put,sA,sZ,sS,i64_w,i32_w];(rfl)
     (refine pure_ (i:=29) (N:=some 38) (v:=?_) (a':=?_) #[tt,tt,tt,tt,tt,tt,tt,tt,tt,tt,tt,tt,tt,tt,tt,tt,tt,tt,tt,tt,tt,tt,tt,tt,tt,tt,tt,tt,tt,tt,ff] rfl rfl (any_of HT_.out (by kernel_rfl)) (fun _ _ _ h => h) (Or.inl ⟨by rfl,?_⟩) ?_ ?_);rotate_left
     ·intro w';(go_simp);(with_reducible rfl)
     rotate_left
     ·simp only [Act.put,sA,sZ,sS,i64_w,i32_w];(rfl)
     (refine pure_ (i:=30) (N:=some 8) (v:=?_) (a':=?_) #[tt,tt,tt,tt,tt,tt,tt,tt,tt,tt,tt,tt,tt,tt,tt,tt,tt,tt,tt,tt,tt,tt,tt,tt,tt,tt,tt,tt,tt,tt,tt] rfl rfl (any_of HT_.out (by kernel_rfl)) (fun _ _ _ h => h) (Or.inl ⟨by rfl,?_⟩) ?_ ?_);rotate_left
     ·intro w';(go_simp);(with_reducible rfl)
     rotate_left
     ·simp only [Act.put,sA,sZ,sS,i64_w,i32_w];(rfl)
     (refine done_ (done_of HT_.out (by kernel_rfl)) ?_);(try go_wp2);(go_ret);(exact ⟨by first | rfl | (simp [errW_none,errW_some] <;> rfl) | (simp [*,errW_none,errW_some] <;> rfl),lo HB.out⟩)
   ·rw [if_neg c5] at H;(exact absurd H (by simp))
  ·rw [if_neg c4] at H;(exact absurd H (by simp))
 ·replace c3:=Bool.eq_false_iff.mpr c3;subst c3;(have H1 : (some 13) = some r:=by rw [if_neg (show ¬ (false = true) by decide)] at H;exact H);clear H;have H:=H1;clear H1;obtain rfl:=Option.some.inj H;(go_enter Tryd.func22,Tryd.ntmps22);(go_wp2_with (first | ((with_reducible refine gate_dst (N:=1) rfl ?_);(try (refine gate_guard (by rfl) ?_;dsimp only));refine box_event ?hg (N:=1) ?hd (cs:=#[.int .i64 a0_0,.slice A0_1 l0_1.length c0_1,.string a0_2]) (t:=46) ?hr ?_;(case hd => rfl);(case hg => rfl);(case hr => first | (go_simp;done) | (go_simp;rfl));intro gb245 hg w31 hbox hb;have BK245:=am (hbox);(have GW245:=am ((by rw [hg];exact (below_size (lo HB.out)) : w.heap.size ≤ gb245)));have GE245:GEc _ _:=⟨((by rw [hg];exact (below_size (lo HB.out)) : w.heap.size ≤ gb245))⟩;replace HB:=am (below_step (lo HB.out) hb);clear hb hbox hg;have hcz32_0 : w31.cell? ⟨gb245,0,none⟩ = some (.int .i64 a0_0):=bc BK245.out 0 rfl;have hcz32_1 : w31.cell? ⟨gb245,1,none⟩ = some (.slice A0_1 l0_1.length c0_1):=bc BK245.out 1 rfl;have hcz32_2 : w31.cell? ⟨gb245,2,none⟩ = some (.string a0_2):=bc BK245.out 2 rfl;have hfz32_0:=blk_frozen BK245.out 0;have hfz32_1:=blk_frozen BK245.out 1;have hfz32_2:=blk_frozen BK245.out 2) | ((with_reducible refine gate_callee (f:=42) rfl ?_);refine goesL_ (some 6) rfl rfl Tryd.func42 (by kernel_rfl) rfl #[.int .i64 a0_0] rfl (by (try simp only [List.map_toArray,List.map_cons,List.map_nil]);first | done | rfl | (simp only [List.length_drop,List.length_take];rfl)) ?_;(with_reducible refine (request_is.calls a0_0 false _ A2.out).mono ?_);rintro e w' ⟨rfl,⟨nd,rfl⟩⟩;refine ⟨_,rfl,?_⟩)));(go_ret);(exact ⟨by first | rfl | (simp [errW_none,errW_some] <;> rfl) | (simp [*,errW_none,errW_some] <;> rfl),lo HB.out⟩)

end

end Go.Proofs.YtkpjkgfaepidaaaDoor.PC

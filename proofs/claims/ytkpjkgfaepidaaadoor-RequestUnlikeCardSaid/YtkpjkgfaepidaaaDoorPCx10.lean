-- Written by this session's own program wip/bin/dprint.py, over the kit's print.py, with own texts for some functions: no print of print.sh's
import Derived.Test.YtkpjkgfaepidaaaDoorPCx0
import Derived.Test.YtkpjkgfaepidaaaDoorPCx2
import Derived.Test.YtkpjkgfaepidaaaDoorPCx3
import Derived.Test.YtkpjkgfaepidaaaDoorPCx6
import Derived.Test.YtkpjkgfaepidaaaDoorPCx8
import Derived.Test.YtkpjkgfaepidaaaDoorPCx9
import Derived.Test.YtkpjkgfaepidaaaDoorUps
namespace Go.Proofs.YtkpjkgfaepidaaaDoor.PC
open Go.RowKit Go.Proofs.YtkpjkgfaepidaaaDoorW.PrintWords Go.Proofs.YtkpjkgfaepidaaaDoorW.PrintLast Go.Proofs.YtkpjkgfaepidaaaDoorW.PrintMore
attribute [local go_sem] max2_int min2_int max_two min_two max_three min_three max_four min_four   -- for this text's walks alone
set_option linter.unusedVariables false
set_option linter.unusedSimpArgs false


/-! ### dowserlaw28_awake: function 7 (own text) -/
section
open Go.Proofs.YtkpjkgfaepidaaaDoor.Glob
def dowserlaw28_awake.f (k : Nat) : Option Bool :=
 (request_Request_Encode.f k 5 [1,2] ⟨#[]⟩).bind fun t1 => (request_Decode.f k t1).bind fun x => (request_Response_Encode.f k 0 [[7]] ⟨#[]⟩).bind fun t2 => (request_Parse.f k t2).bind fun y =>
 (request_Same.f y.1 y.2.1 y.2.2.1 0 [[7]] ⟨#[]⟩).bind fun s => if t1.toList = [5,1,2] ∧ t2.toList = [0,1,1,7,0] ∧ x.2.2.2 = 0 ∧ y.2.2.2 = 0 ∧ x.1 = 5 ∧ s = true then some true else none
theorem dowserlaw28_awake.mono : ∀ k,LeO (dowserlaw28_awake.f k) (dowserlaw28_awake.f (k + 1)):=by
 intro k;unfold dowserlaw28_awake.f;(exact LeO.bind (request_Request_Encode.mono _ _ _ _) (fun _ => LeO.bind (request_Decode.mono _ _) (fun _ => LeO.bind (request_Response_Encode.mono _ _ _ _) (fun _ => LeO.bind (request_Parse.mono _ _) (fun _ => LeO.refl _)))))
theorem awake_ints1 {w : World} {g t : Nat} {a : Int} (hb : w.heap[g]? = some (.cells #[.int .i64 a] t (0,0))) : Kd.C (Kd.int .i64) w (some ⟨g,0,none⟩) 1 [a]:=by
 refine ⟨rfl,by simp,fun _ => ⟨_,rfl,fun j p hj => ?_⟩⟩
 match j with
 | 0 =>
  (obtain rfl : a = p:=by simpa using hj);(refine ⟨[.int .i64 a],rfl,rfl,fun i u hu => ?_⟩)
  match i with
  | 0 =>
   have:=blk_cell hb 0
   simpa [Addr.add] using this.trans hu
  | i + 1 => simp at hu
 | j + 1 => simp at hj
theorem awake_ints2 {w : World} {g t : Nat} {a b : Int} (hb : w.heap[g]? = some (.cells #[.int .i64 a,.int .i64 b] t (0,0))) : Kd.C (Kd.int .i64) w (some ⟨g,0,none⟩) 2 [a,b]:=by
 (refine ⟨rfl,by simp,fun _ => ⟨_,rfl,fun j p hj => ?_⟩⟩);have c0 : w.cell? ⟨g,0,none⟩ = some (.int .i64 a):=blk_cell hb 0;have c1 : w.cell? ⟨g,1,none⟩ = some (.int .i64 b):=blk_cell hb 1
 match j with
 | 0 =>
  (obtain rfl : a = p:=by simpa using hj);(refine ⟨[.int .i64 a],rfl,rfl,fun i u hu => ?_⟩)
  match i with
  | 0 =>
   (obtain rfl : Value.int .i64 a = u:=by simpa using hu);exact c0
  | i + 1 => simp at hu
 | 1 =>
  (obtain rfl : b = p:=by simpa using hj);(refine ⟨[.int .i64 b],rfl,rfl,fun i u hu => ?_⟩)
  match i with
  | 0 =>
   (obtain rfl : Value.int .i64 b = u:=by simpa using hu);exact c1
  | i + 1 => simp at hu
 | j + 2 => simp at hj
theorem awake_row {w : World} {g t : Nat} {A0 : Option Addr} {c0 : Nat} {l : List Int} (hb : w.heap[g]? = some (.cells #[.slice A0 l.length c0] t (0,0))) (hC : Kd.C (Kd.int .i64) w A0 l.length l) (hc : l.length ≤ c0) : Kd.C (Kd.slice 3 (Kd.int .i64)) w (some ⟨g,0,none⟩) 1 [l]:=by
 refine ⟨rfl,by simp,fun _ => ⟨_,rfl,fun j p hj => ?_⟩⟩
 match j with
 | 0 =>
  (obtain rfl : l = p:=by simpa using hj);(refine ⟨[.slice A0 l.length c0],rfl,⟨A0,c0,rfl,hc,hC⟩,fun i u hu => ?_⟩)
  match i with
  | 0 =>
   have:=blk_cell hb 0
   simpa [Addr.add] using this.trans hu
  | i + 1 => simp at hu
 | j + 1 => simp at hj
theorem awake_blk {w : World} {o : Array Value} {t n : Nat} (h : w.heap.size = n) : (w.alloc (.cells o t)).heap[n]? = some (.cells o t (0,0)):=by
 subst h;exact blk_new _ _
set_option maxHeartbeats 4000000 in
set_option maxRecDepth 100000 in
theorem dowserlaw28_awake.calls (k : Nat) (r : Bool) (w : World) (hG : GG w) (h : dowserlaw28_awake.f k = some r) :
  Calls Tryd.prog 7 #[] w fun e w' => e = .returned (.bool r) ∧ Below w.heap.size w w':=by
 unfold dowserlaw28_awake.f at h;obtain ⟨t1,h1,h⟩:=Option.bind_eq_some_iff.mp h;obtain ⟨⟨x1,x2,x3,x4⟩,h2,h⟩:=Option.bind_eq_some_iff.mp h;obtain ⟨t2,h3,h⟩:=Option.bind_eq_some_iff.mp h;obtain ⟨⟨y1,y2,y3,y4⟩,h4,h⟩:=Option.bind_eq_some_iff.mp h;obtain ⟨s,h5,h⟩:=Option.bind_eq_some_iff.mp h;(by_cases c : t1.toList = [5,1,2] ∧ t2.toList = [0,1,1,7,0] ∧ x4 = 0 ∧ y4 = 0 ∧ x1 = 5 ∧ s = true)
 ·replace h:=(if_pos c).symm.trans h;obtain rfl:=Option.some.inj h;obtain ⟨c1,c2,rfl,rfl,rfl,rfl⟩:=c;have H1:=am h1;have H2:=am h2;have H3:=am h3;have H4:=am h4;have H5:=am h5;have c1b : (t1.toList == [5,1,2]) = true:=beq_iff_eq.mpr c1;have c2b : (t2.toList == [0,1,1,7,0]) = true:=beq_iff_eq.mpr c2;have HG:=am hG;clear h h1 h2 h3 h4 h5 c1 c2 hG;(go_enter Tryd.func7,Tryd.ntmps7);(go_wp2_with fail);obtain ⟨W,hW⟩ : ∃ W,W = (((((w.alloc (.cells #[.int .i64 1,.int .i64 2] 3)).alloc (.cells #[.int .i64 5,.slice (some ⟨w.heap.size,0,none⟩) 2 2,.string ⟨#[]⟩] 46)).alloc (.cells #[.int .i64 7] 3)).alloc (.cells #[.slice (some ⟨w.heap.size + 1 + 1,0,none⟩) 1 1] 44)).alloc (.cells #[.int .i64 0,.slice (some ⟨w.heap.size + 1 + 1 + 1,0,none⟩) 1 1,.string ⟨#[]⟩] 31)):=⟨_,rfl⟩;(have hs : W.heap.size = w.heap.size + 5:=by rw [hW];simp);(have hbW : Below w.heap.size w W:=by rw [hW];exact below_alloc (below_alloc (below_alloc (below_alloc (below_alloc (Below.refl _ _) _) _) _) _) _);(have b0 : W.heap[w.heap.size]? = some (.cells #[.int .i64 1,.int .i64 2] 3 (0,0)):=by rw [hW];exact blk_alloc (blk_alloc (blk_alloc (blk_alloc (awake_blk (by simp)) _) _) _) _);(have b1 : W.heap[w.heap.size + 1]? = some (.cells #[.int .i64 5,.slice (some ⟨w.heap.size,0,none⟩) 2 2,.string ⟨#[]⟩] 46 (0,0)):=by rw [hW];exact blk_alloc (blk_alloc (blk_alloc (awake_blk (by simp)) _) _) _);(have b2 : W.heap[w.heap.size + 1 + 1]? = some (.cells #[.int .i64 7] 3 (0,0)):=by rw [hW];exact blk_alloc (blk_alloc (awake_blk (by simp)) _) _);(have b3 : W.heap[w.heap.size + 1 + 1 + 1]? = some (.cells #[.slice (some ⟨w.heap.size + 1 + 1,0,none⟩) 1 1] 44 (0,0)):=by rw [hW];exact blk_alloc (awake_blk (by simp)) _);(have b4 : W.heap[w.heap.size + 1 + 1 + 1 + 1]? = some (.cells #[.int .i64 0,.slice (some ⟨w.heap.size + 1 + 1 + 1,0,none⟩) 1 1,.string ⟨#[]⟩] 31 (0,0)):=by rw [hW];exact awake_blk (by simp));have hr : Kd.C (Kd.int .i64) W (some ⟨w.heap.size,0,none⟩) 2 [1,2]:=awake_ints2 b0;have ha : Kd.C (Kd.slice 3 (Kd.int .i64)) W (some ⟨w.heap.size + 1 + 1 + 1,0,none⟩) 1 [[7]]:=awake_row (l:=[7]) b3 (awake_ints1 b2) (Nat.le_refl _);(have E1 : Aside0 (∀ X,Below W.heap.size W X → Calls Tryd.prog 23 #[.agg #[.int .i64 5,.slice (some ⟨w.heap.size,0,none⟩) 2 2,.string ⟨#[]⟩]] X fun e w' => e = .returned (.string t1) ∧ Below X.heap.size X w'):=⟨fun X hX => request_Request_Encode.calls k 5 _ 2 [1,2] ⟨#[]⟩ t1 X (Kd.C_below hr hX) (Nat.le_refl _) H1.out⟩);(have E2 : Aside0 (∀ X,Below W.heap.size W X → Calls Tryd.prog 12 #[.agg #[.int .i64 0,.slice (some ⟨w.heap.size + 1 + 1 + 1,0,none⟩) 1 1,.string ⟨#[]⟩]] X fun e w' => e = .returned (.string t2) ∧ Below X.heap.size X w'):=⟨fun X hX => request_Response_Encode.calls k 0 _ 1 [[7]] ⟨#[]⟩ t2 X (Kd.C_below ha hX) (Nat.le_refl _) H3.out⟩);(have CA : Aside0 (∀ X,Below W.heap.size W X → Kd.C (Kd.slice 3 (Kd.int .i64)) X (some ⟨w.heap.size + 1 + 1 + 1,0,none⟩) 1 [[7]]):=⟨fun X hX => Kd.C_below ha hX⟩);(have X1 : Aside0 (∀ X,Below W.heap.size W X → X.heap[w.heap.size + 1]? = some (.cells #[.int .i64 5,.slice (some ⟨w.heap.size,0,none⟩) 2 2,.string ⟨#[]⟩] 46 (0,0))):=⟨fun X hX => by rw [hX.block _ (by rw [hs];omega)];exact b1⟩);(have X4 : Aside0 (∀ X,Below W.heap.size W X → X.heap[w.heap.size + 1 + 1 + 1 + 1]? = some (.cells #[.int .i64 0,.slice (some ⟨w.heap.size + 1 + 1 + 1,0,none⟩) 1 1,.string ⟨#[]⟩] 31 (0,0))):=⟨fun X hX => by rw [hX.block _ (by rw [hs];omega)];exact b4⟩);(have SZ : Aside0 (∀ X,Below W.heap.size W X → w.heap.size + 1 + 1 + 1 + 1 < X.heap.size):=⟨fun X hX => by have:=hX.size;rw [hs] at this;omega⟩);have HW:=am hbW;rw [← hW];clear hW hs hbW b0 b1 b2 b3 b4 hr ha;(refine (E1.out W (Below.refl _ _)).mono ?_);(rintro e w1 ⟨rfl,hb1⟩);have B1:=am hb1;clear hb1;(go_wp2_with fail);(refine (request_Decode.calls k t1 5 x2 x3 0 _ (GG.below HG.out (HW.out.trans (B1.out.mono HW.out.size))) H2.out).mono ?_);(rintro e w2 ⟨v1,rfl,ho1,hb2⟩);obtain ⟨A1,d1,e1,hd1,r1⟩:=Kd.R_reads ho1;subst e1;have B2:=am (B1.out.trans (hb2.mono B1.out.size));have u1:=X4.out w2 B2.out;have u2:=SZ.out w2 B2.out;have q0 : w2.cell? ⟨w.heap.size + 1 + 1 + 1 + 1,0,none⟩ = some (.int .i64 0):=blk_cell u1 0;have q1 : w2.cell? ⟨w.heap.size + 1 + 1 + 1 + 1,1,none⟩ = some (.slice (some ⟨w.heap.size + 1 + 1 + 1,0,none⟩) 1 1):=blk_cell u1 1;have q2 : w2.cell? ⟨w.heap.size + 1 + 1 + 1 + 1,2,none⟩ = some (.string ⟨#[]⟩):=blk_cell u1 2;clear ho1 hb2 hd1 r1;(go_wp2_with fail);obtain ⟨V,hV⟩ : ∃ V,V = w2.alloc (.cells #[.int .i64 5,.slice A1 x2.length d1,.string x3] 46):=⟨_,rfl⟩;(have BV : Aside0 (Below W.heap.size W V):=⟨by rw [hV];exact below_alloc B2.out _⟩)
  have XV : Aside0 (∀ X,Below V.heap.size V X → X.heap[w2.heap.size]? = some (.cells #[.int .i64 5,.slice A1 x2.length d1,.string x3] 46 (0,0)) ∧ w2.heap.size < X.heap.size):=⟨fun X hX => by
   (have hz : w2.heap.size < V.heap.size:=by rw [hV];simp);(refine ⟨?_,Nat.lt_of_lt_of_le hz hX.size⟩)
   rw [hX.block _ hz,hV];exact blk_new _ _⟩
  rw [← hV];(generalize hgx : w2.heap.size = gx at XV ⊢);clear hV q0 q1 q2 u1 u2 hgx;(refine (E2.out V BV.out).mono ?_);(rintro e w3 ⟨rfl,hb3⟩);have B3:=am (BV.out.trans (hb3.mono BV.out.size));have D3:=am hb3;clear hb3;(go_wp2_with fail);(refine (request_Parse.calls k t2 y1 y2 y3 0 _ H4.out).mono ?_);(rintro e w4 ⟨v2,rfl,ho2,hb4⟩);obtain ⟨A2,d2,e2,hd2,r2⟩:=Kd.S_reads ho2;subst e2;have B4:=am (B3.out.trans (hb4.mono B3.out.size));have D4:=am (D3.out.trans (hb4.mono D3.out.size));have u1:=X1.out w4 B4.out;have u2:=SZ.out w4 B4.out;(have u3 : w.heap.size + 1 < w4.heap.size:=by omega);have q0 : w4.cell? ⟨w.heap.size + 1,0,none⟩ = some (.int .i64 5):=blk_cell u1 0;have q1 : w4.cell? ⟨w.heap.size + 1,1,none⟩ = some (.slice (some ⟨w.heap.size,0,none⟩) 2 2):=blk_cell u1 1;have q2 : w4.cell? ⟨w.heap.size + 1,2,none⟩ = some (.string ⟨#[]⟩):=blk_cell u1 2;have CY:=am r2;have LY:=am hd2;clear ho2 hb4 hd2 r2;(go_wp2_with fail);obtain ⟨Y,hY⟩ : ∃ Y,Y = w4.alloc (.cells #[.int .i64 y1,.slice A2 y2.length d2,.string y3] 31):=⟨_,rfl⟩;(have BY : Aside0 (Below W.heap.size W Y):=⟨by rw [hY];exact below_alloc B4.out _⟩);(have DY : Aside0 (Below V.heap.size V Y):=⟨by rw [hY];exact below_alloc D4.out _⟩);(have CY2 : Aside0 (∀ X,Below Y.heap.size Y X → Kd.C (Kd.slice 3 (Kd.int .i64)) X A2 y2.length y2):=⟨fun X hX => Kd.C_below (by rw [hY];exact Kd.C_alloc CY.out _) hX⟩)
  have XY : Aside0 (∀ X,Below Y.heap.size Y X → X.heap[w4.heap.size]? = some (.cells #[.int .i64 y1,.slice A2 y2.length d2,.string y3] 31 (0,0)) ∧ w4.heap.size < X.heap.size):=⟨fun X hX => by
   (have hz : w4.heap.size < Y.heap.size:=by rw [hY];simp);(refine ⟨?_,Nat.lt_of_lt_of_le hz hX.size⟩)
   rw [hX.block _ hz,hY];exact blk_new _ _⟩
  rw [← hY];(generalize hgy : w4.heap.size = gy at XY ⊢);clear hY q0 q1 q2 u1 u2 u3 hgy CY;(refine (E1.out Y BY.out).mono ?_);(rintro e w5 ⟨rfl,hb5⟩);have B5:=am (BY.out.trans (hb5.mono BY.out.size));have D5:=am (DY.out.trans (hb5.mono DY.out.size));have F5:=am hb5;have u1:=X4.out w5 B5.out;have q0 : w5.cell? ⟨w.heap.size + 1 + 1 + 1 + 1,0,none⟩ = some (.int .i64 0):=blk_cell u1 0;have q1 : w5.cell? ⟨w.heap.size + 1 + 1 + 1 + 1,1,none⟩ = some (.slice (some ⟨w.heap.size + 1 + 1 + 1,0,none⟩) 1 1):=blk_cell u1 1;have q2 : w5.cell? ⟨w.heap.size + 1 + 1 + 1 + 1,2,none⟩ = some (.string ⟨#[]⟩):=blk_cell u1 2;clear hb5;(go_wp2_with fail);clear q0 q1 q2 u1;(refine (E2.out w5 B5.out).mono ?_);(rintro e w6 ⟨rfl,hb6⟩);have B6:=am (B5.out.trans (hb6.mono B5.out.size));have D6:=am (D5.out.trans (hb6.mono D5.out.size));have F6:=am (F5.out.trans (hb6.mono F5.out.size));have u1:=X4.out w6 B6.out;have q0 : w6.cell? ⟨w.heap.size + 1 + 1 + 1 + 1,0,none⟩ = some (.int .i64 0):=blk_cell u1 0;have q1 : w6.cell? ⟨w.heap.size + 1 + 1 + 1 + 1,1,none⟩ = some (.slice (some ⟨w.heap.size + 1 + 1 + 1,0,none⟩) 1 1):=blk_cell u1 1;have q2 : w6.cell? ⟨w.heap.size + 1 + 1 + 1 + 1,2,none⟩ = some (.string ⟨#[]⟩):=blk_cell u1 2;have u2:=(XV.out w6 D6.out).1;have q3 : w6.cell? ⟨gx,0,none⟩ = some (.int .i64 5):=blk_cell u2 0;have u3:=(XY.out w6 F6.out).1;have q4 : w6.cell? ⟨gy,0,none⟩ = some (.int .i64 y1):=blk_cell u3 0;have q5 : w6.cell? ⟨gy,1,none⟩ = some (.slice A2 y2.length d2):=blk_cell u3 1;have q6 : w6.cell? ⟨gy,2,none⟩ = some (.string y3):=blk_cell u3 2;clear hb6;(go_wp2_with fail);clear q0 q1 q2 q3 q4 q5 q6 u1 u2 u3;(refine (request_Same.calls y1 A2 d2 y2 y3 0 _ 1 [[7]] ⟨#[]⟩ true w6 (CY2.out _ F6.out) LY.out (CA.out _ B6.out) (Nat.le_refl _) H5.out).mono ?_);(rintro e w7 ⟨rfl,hb7⟩);have B7:=am (HW.out.trans ((B6.out.trans (hb7.mono B6.out.size)).mono HW.out.size));clear hb7;(go_wp2);(go_ret);exact ⟨rfl,B7.out⟩
 ·cases (if_neg c).symm.trans h
end


/-! ### dowserlaw04_Few: function 24 (own text) -/
set_option maxRecDepth 100000 in
theorem dowserlaw04_Few.cut (A0 : Option Addr) (c0 : Nat) (l0 y : List Int) (w : World) (hy : y = l0.take 40) (hc : l0.length ≤ c0) :
  Calls Tryd.prog 24 #[.slice A0 l0.length c0] w fun e w' => e = .returned (.slice A0 y.length c0) ∧ Drawn0 w w':=by
 (have hl : y.length = min 40 l0.length:=by rw [hy,List.length_take]);(by_cases h : 40 < l0.length)
 ·(have h4 : (40 : Int) ≤ (l0.length : Int):=by omega);(obtain ⟨i0,hi0,_,hsz,_⟩:=info_parts (show (Tryd.prog.info? 3).map (fun i => (i.zero,i.size,i.bytes)) = some (some (.int .i64 0),1,8) by kernel_rfl));(obtain ⟨hcut,_,_⟩:=print_take_of (P:=Tryd.prog) (Value.int .i64) 0 44 3 .i64 Tryd.underlying44 hi0 hsz A0 c0 l0 40 (by omega) h4 hc);(have h5 : (l0.take (40 : Int).toNat).length = y.length:=by rw [hy];rfl);rw [h5] at hcut;clear hi0 hsz hl h5 hy;have h2 : decide (40 < l0.length) = true:=decide_eq_true h;(have h3 : decide ((40 : Int) < (l0.length : Int)) = true:=decide_eq_true (by omega));(go_enter Tryd.func24,Tryd.ntmps24);(go_wp2);(go_ret);exact ⟨rfl,Drawn0.refl _⟩
 ·(have h1 : y.length = l0.length:=by omega);rw [h1];clear hl hy h1;have h2 : decide (40 < l0.length) = false:=decide_eq_false h;(have h3 : decide ((40 : Int) < (l0.length : Int)) = false:=decide_eq_false (by omega));(go_enter Tryd.func24,Tryd.ntmps24);(go_wp2);(go_ret);exact ⟨rfl,Drawn0.refl _⟩


/-! ### dowserlaw28_few: function 8 (own text) -/
section
/-- At most ten lists, of at most forty numbers. -/
def fewL (l : List (List Int)) : List (List Int):=(l.take 10).map fun x => x.take 40
theorem fewL_len (l : List (List Int)) : (fewL l).length = min 10 l.length:=by unfold fewL;rw [List.length_map,List.length_take]
theorem fewL_succ (l : List (List Int)) (i : Nat) (hi : i < l.length) (h10 : i < 10) : fewL (l.take (i + 1)) = fewL (l.take i) ++ [(rd_L2 l (i : Int)).take 40]:=by
 (have : rd_L2 l (i : Int) = l[i]:=by unfold rd_L2;rw [Int.toNat_natCast,List.getD_eq_getElem?_getD,List.getElem?_eq_getElem hi];rfl);unfold fewL;(rw [this,List.take_take,List.take_take,Nat.min_eq_right (by omega),Nat.min_eq_right (by omega),List.take_succ_eq_append_getElem hi,List.map_append]);(rfl)
theorem fewL_full (l : List (List Int)) (i : Nat) (h : i = l.length ∨ i = 10) : fewL (l.take i) = fewL l:=by
 rcases h with rfl | rfl
 ·rw [List.take_length]
 ·unfold fewL;rw [List.take_take,Nat.min_self]
theorem infoL : (Tryd.prog.info? 44).map (fun i => (i.zero,i.size,i.bytes)) = some (some (.slice none 0 0),1,24):=by kernel_rfl
/-- Which blocks the few lists lead to: elder ones, and those of the call's own. -/
def OKF (w0 w : World) : Nat → Prop:=fun k => k < w0.heap.size ∨ w.heap.size ≤ k
set_option maxHeartbeats 4000000 in
set_option maxRecDepth 100000 in
theorem dowserlaw28_few.got (A0 : Option Addr) (c0 : Nat) (l0 : List (List Int)) (w0 w : World) (hb0 : Below w0.heap.size w0 w) (hr0 : Kd.C (Kd.slice 3 (Kd.int .i64)) w0 A0 l0.length l0) (hc0 : l0.length ≤ c0) :
  Calls Tryd.prog 8 #[.slice A0 l0.length c0] w fun e w' => ∃ v : Value,e = .returned v ∧ Kd.N (Kd.slice 3 (Kd.int .i64)) 44 w' w.heap.size (OKF w0 w) v (fewL l0) ∧ Below w.heap.size w w':=by
 have HR0:=am hr0;have HC0:=am hc0;have HB0:=am hb0;have hm:=Kd.C_max hr0;have HM:=am hm;clear hr0 hc0 hb0 hm;(go_enter Tryd.func8,Tryd.ntmps8);(go_wp2);(go_loopg [3,4] 10 (fun kq v3 v4 w' => ∃ (i : Nat),v4 = .int .i64 (i : Int) ∧ i ≤ l0.length ∧ i ≤ 10 ∧ kq = 10 - i ∧ Aside0 (Kd.N (Kd.slice 3 (Kd.int .i64)) 44 w' w.heap.size (OKF w0 w) v3 (fewL (l0.take i))) ∧ Aside0 (Below w.heap.size w w')));(case atStart => exact ⟨0,rfl,by omega,by omega,by omega,⟨Kd.N_nil _ _ _ _ _⟩,⟨Below.refl _ _⟩⟩)
 case round =>
  obtain ⟨i,rfl,hi,h10,hk,HN,HB⟩:=hrel;(have himax : (i : Int) < 9223372036854775807:=by omega);(by_cases hlt : i < l0.length)
  ·have hltb : decide (i < l0.length) = true:=decide_eq_true hlt;(have hltz : (i : Int) < (l0.length : Int):=by omega);have hltzb : decide ((i : Int) < (l0.length : Int)) = true:=decide_eq_true hltz;(have h0z : (0 : Int) ≤ (i : Int):=by omega);(by_cases hten : i < 10)
   ·(have htenb : decide ((i : Int) < 10) = true:=decide_eq_true (by omega));have htenn : decide (i < 10) = true:=decide_eq_true hten;obtain ⟨ad,A1,c1,e1,hx,hl1,hC1⟩:=at_L2 HR0.out (i : Int) h0z hltz;subst e1;rw [Int.toNat_natCast] at hx;obtain ⟨F,hF⟩ : ∃ F,F = fewL (l0.take i):=⟨_,rfl⟩;rw [← hF] at HN;obtain ⟨Av,cv,ev⟩:=Kd.N_slice HN.out;subst ev;obtain ⟨z,hz⟩ : ∃ z,z = rd_L2 l0 (i : Int):=⟨_,rfl⟩;rw [← hz] at hx hl1 hC1;obtain ⟨y,hy⟩ : ∃ y,y = z.take 40:=⟨_,rfl⟩;have HSU:=am (fewL_succ l0 i hlt hten);rw [← hz,← hy,← hF] at HSU;(have HFL : F.length ≤ 10:=by rw [hF,fewL_len,List.length_take];omega);(have hl2 : y.length ≤ c1:=by rw [hy,List.length_take];omega)
    have FE : Aside0 (Kd.F (Kd.int .i64) w0 (fun k => k < w0.heap.size) A1 y.length y):=⟨by
     have:=Kd.F_take (m:=min 40 z.length) (Kd.C_F (Kd.heap_int .i64) hC1) (Nat.min_le_right _ _)
     rw [show z.take (min 40 z.length) = y from by rw [hy,List.take_eq_take_iff];simp] at this
     exact this⟩
    (have CUT:=am (fun W => dowserlaw04_Few.cut A1 c1 z y W hy hl1));have LE:=am hl2;have hBW : Below w0.heap.size w0 wr:=HB0.out.trans (HB.out.mono HB0.out.size);obtain ⟨ad',A1',c1',e1',hx',_,_⟩:=at_L2 (Kd.C_below HR0.out hBW) (i : Int) h0z hltz;(injection e1' with e1');subst e1';rw [Int.toNat_natCast,← hz] at hx';have hsame:=(Kd.C_below HR0.out hBW)
    have hxx : wr.cell? (ad.add i) = some (.slice A1 z.length c1):=by
     have hlt0 : (ad.add i).block < w0.heap.size:=by
      unfold World.cell? at hx;(by_cases h : (ad.add i).block < w0.heap.size)
      ·exact h
      ·rw [Array.getElem?_eq_none (by omega)] at hx;cases hx
     unfold World.cell? at hx ⊢;(rw [hBW.block _ hlt0];exact hx)
    clear hx hx' hsame
    have FW : Aside0 (∀ W,Below w.heap.size w W → Kd.FK (Kd.slice 3 (Kd.int .i64)) W (fun k => k < w0.heap.size) y [.slice A1 y.length c1]):=⟨fun W hW W' hW' =>
     ⟨A1,c1,rfl,LE.out,(Kd.F_below FE.out (HB0.out.trans (hW.mono HB0.out.size))) W' hW'⟩⟩
    have FO : Aside0 (∀ k,k < w0.heap.size → OKF w0 w k ∧ some k ≠ (Value.slice Av F.length cv).ownBlock):=⟨fun k hk => ⟨.inl hk,fun e => by
     have:=Kd.N_base HN.out k e.symm
     have:=HB0.out.size
     omega⟩⟩
    have AS:=am (And.intro hi (And.intro hlt (And.intro hten (And.intro hk HFL))));clear hC1 hl1 hl2 hz hy hF hi hlt hten hk HFL h10 hBW;(go_wp2_with (first | (go_at_call 24;(with_reducible refine (CUT.out _).mono ?_);rintro e w' ⟨rfl,⟨nd,rfl⟩⟩) | ((with_reducible refine gate_builtin (b:=.append) (xs:=#[.tmp 15,.tmp 21]) rfl ?_);at_builtin;refine Kd.N_append (Kd.slice 3 (Kd.int .i64)) (w0:=w) w.heap.size rfl (.tmp 15) (.tmp 21) 22 44 (.slice none 0 0) 24 rfl Tryd.underlying22 infoL rfl (by decide) (by omega) (.slice Av F.length cv) F y [.slice A1 y.length c1] (OKF w0 w) (fun k => k < w0.heap.size) rfl rfl ?aP FO.out ?aF ?aO ?aB ?aS ?aL ?_;(case aP => exact FW.out _ (by repeat (first | exact HB.out | apply pw_below_drewN)));(case aF => exact fun k hk => .inr (Nat.le_trans (by first | exact HB.out.size | exact (pw_below_drewN HB.out _).size) hk));(case aO => first | exact HN.out | exact Kd.N_drewN HN.out _);(case aB => repeat (first | exact HB.out | apply pw_below_drewN));(case aS => first | exact HB.out.size | exact (pw_below_drewN HB.out _).size);(case aL => (have:=AS.out;omega));intro v9 w9 hN9 hb9 _ _;have N9:=am hN9;have B9:=am hb9;clear hN9 hb9 HN HB)));(go_roundg (10 - (i + 1)));(case measure => have:=AS.out;omega);(case rel => exact ⟨i + 1,by go_num,by have:=AS.out;omega,by have:=AS.out;omega,rfl,⟨by rw [HSU.out];exact N9.out⟩,B9⟩)
   ·(have htenb : decide ((i : Int) < 10) = false:=decide_eq_false (by omega));have htenn : decide (i < 10) = false:=decide_eq_false hten;(have FU:=am (fewL_full l0 i (.inr (by omega))));clear hi h10 hten hk hlt;(go_wp2);(go_ret);(exact ⟨_,rfl,by rw [← FU.out];exact HN.out,HB.out⟩)
  ·have hltb : decide (i < l0.length) = false:=decide_eq_false hlt;(have hltz : ¬ (i : Int) < (l0.length : Int):=by omega);have hltzb : decide ((i : Int) < (l0.length : Int)) = false:=decide_eq_false hltz;(have FU:=am (fewL_full l0 i (.inl (by omega))));clear hi h10 hk hlt;(go_wp2);(go_ret);(exact ⟨_,rfl,by rw [← FU.out];exact HN.out,HB.out⟩)
end

/-! ### dowserlaw01_Cut: function 9 -/
def dowserlaw01_Cut.f (a0 : ByteArray) (a1 : Int) : Option (ByteArray):=if (a0.size : Int) > a1 then (if 0 ≤ a1 then (if a1 ≤ (a0.size : Int) then (some (a0.extract 0 (a1 : Int).toNat)) else (none)) else (none)) else (some a0)
set_option maxHeartbeats 40000000 in
set_option maxRecDepth 100000 in
theorem dowserlaw01_Cut.calls (a0 : ByteArray) (a1 : Int) (r : ByteArray) (w : World) (h : dowserlaw01_Cut.f a0 a1 = some r) :
  Calls Tryd.prog 9 #[.string a0,.int .i64 a1] w fun e w' => e = .returned (.string r) ∧ Drawn0 w w':=by
 have H : (if (a0.size : Int) > a1 then (if 0 ≤ a1 then (if a1 ≤ (a0.size : Int) then (some (a0.extract 0 (a1 : Int).toNat)) else (none)) else (none)) else (some a0)) = some r:=h;clear h;(by_cases c3 : (a0.size : Int) > a1)
 ·rw [if_pos c3] at H;have c3b0 : decide (a1 < (a0.size : Int)) = true:=decide_eq_true c3;clear c3;(by_cases c4 : 0 ≤ a1)
  ·rw [if_pos c4] at H;have c4b0:=eq_true c4;have c4b1 : decide (0 ≤ a1) = true:=decide_eq_true c4;clear c4;(by_cases c5 : a1 ≤ (a0.size : Int))
   ·rw [if_pos c5] at H;have c5b0:=eq_true c5;have c5b1 : decide (a1 ≤ (a0.size : Int)) = true:=decide_eq_true c5;clear c5;obtain rfl:=Option.some.inj H;(go_enter Tryd.func9,Tryd.ntmps9);(go_wp2);(go_ret);(exact ⟨by first | rfl | (simp;done) | (simp [*];done) | (simp;rw [Bool.eq_iff_iff];simp;done),by repeat (first | exact Drawn0.refl _ | apply Drawn0.step)⟩)
   ·rw [if_neg c5] at H;(exact absurd H (by simp))
  ·rw [if_neg c4] at H;(exact absurd H (by simp))
 ·rw [if_neg c3] at H;have c3b0 : decide (a1 < (a0.size : Int)) = false:=decide_eq_false c3;clear c3;obtain rfl:=Option.some.inj H;(go_enter Tryd.func9,Tryd.ntmps9);(go_wp2);(go_ret);(exact ⟨by first | rfl | (simp;done) | (simp [*];done) | (simp;rw [Bool.eq_iff_iff];simp;done),by repeat (first | exact Drawn0.refl _ | apply Drawn0.step)⟩)

end Go.Proofs.YtkpjkgfaepidaaaDoor.PC

-- Written by this session's own program wip/bin/dprint.py, over the kit's print.py, with own texts for some functions: no print of print.sh's
import Derived.Test.YtfkgidiedpkbdaaPDx0
import Derived.Test.YtfkgidiedpkbdaaPDx2
import Derived.Test.YtfkgidiedpkbdaaPDx3
namespace Go.Proofs.Ytfkgidiedpkbdaa.PD
open Go.RowKit Go.Proofs.YtfkgidiedpkbdaaW.PrintWords Go.Proofs.YtfkgidiedpkbdaaW.PrintLast Go.Proofs.YtfkgidiedpkbdaaW.PrintMore
attribute [local go_sem] max2_int min2_int max_two min_two max_three min_three max_four min_four   -- for this text's walks alone
set_option linter.unusedVariables false
set_option linter.unusedSimpArgs false


/-! ### dowserlaw02_CrcTells: function 4 (own text) -/
section
attribute [local go_sem] max2_int min2_int max_two min_two max_three min_three max_four min_four   -- for this text's walks alone

/-- A block of bytes that []byte(s) laid: marked behind its last cell. -/
def BB (W : World) (g : Nat) (l : List UInt8) : Prop := ∃ (C : Array Value) (m : Nat), W.heap[g]? = some (.cells C 5 (m, m + 1)) ∧ C.size ≤ m ∧ l.length ≤ C.size ∧ ∀ j, j < l.length → C[j]? = some (.int .u8 ((l.getD j 0).toNat : Int))
theorem BB.cell {W : World} {g : Nat} {l : List UInt8} (h : BB W g l) (j : Nat) (hj : j < l.length) : W.cell? ⟨g, j, none⟩ = some (.int .u8 ((l.getD j 0).toNat : Int)) := by
  obtain ⟨C, m, h1, h2, h3, h4⟩ := h
  simp only [World.cell?, h1]
  exact h4 j hj
theorem BB.cold {W : World} {g : Nat} {l : List UInt8} (h : BB W g l) (j : Nat) (hj : j < l.length) : W.frozen? ⟨g, j, none⟩ = false := by
  obtain ⟨C, m, h1, h2, h3, h4⟩ := h
  simp only [World.frozen?, h1]
  have : ¬ m ≤ j := by omega
  simp [this]
theorem BB.step {W W' : World} {g : Nat} {l : List UInt8} (h : BB W g l) (e : W'.heap[g]? = W.heap[g]?) : BB W' g l := by
  unfold BB at h ⊢; rw [e]; exact h
theorem BB.far {W : World} {g : Nat} {l : List UInt8} (h : BB W g l) {p : Addr} (hp : g ≠ p.block) (u : Value) : BB (W.setCell p u) g l := h.step (Below.heap_setCell W p u g hp)
theorem BB.lt {W : World} {g : Nat} {l : List UInt8} (h : BB W g l) : g < W.heap.size := by
  obtain ⟨C, m, h1, _⟩ := h
  exact (Array.getElem?_eq_some_iff.1 h1).1
theorem BB.below {B : Nat} {W W' : World} {g : Nat} {l : List UInt8} (h : BB W g l) (hb : Below B W W') (hg : g < B) : BB W' g l := h.step (hb.block g hg)
theorem BB.set {W : World} {g : Nat} {l : List UInt8} (h : BB W g l) (j : Nat) (hj : j < l.length) (b : UInt8) : BB (W.setCell ⟨g, j, none⟩ (.int .u8 (b.toNat : Int))) g (l.set j b) := by
  obtain ⟨C, m, h1, h2, h3, h4⟩ := h
  refine ⟨C.setIfInBounds j (.int .u8 (b.toNat : Int)), m, by simp [World.setCell, Array.getElem?_modify, h1], by simpa using h2, by simpa using h3, ?_⟩
  intro i hi
  rw [List.length_set] at hi
  rw [Array.getElem?_setIfInBounds]
  by_cases e : j = i
  · subst e
    rw [if_pos rfl, if_pos (by omega)]
    simp [List.getD, List.getElem?_set, hi]
  · rw [if_neg e, h4 i hi]
    simp [List.getD, List.getElem?_set, e]
theorem BB.new (w : World) (s : ByteArray) (cap : Nat) : BB (w.drew.alloc (.cells (bytesRow s cap) 5 ((bytesRow s cap).size, (bytesRow s cap).size + 1))) w.heap.size s.data.toList := by
  refine ⟨bytesRow s cap, (bytesRow s cap).size, by show (w.heap.push _)[w.heap.size]? = _; simp, Nat.le_refl _, by simp [bytesRow], ?_⟩
  intro j hj
  have hj' : j < s.data.size := by simpa using hj
  rw [bytesRow_at s cap j hj']
  have e : s.data.toList.getD j 0 = s.data[j] := by simp [List.getD, Array.getElem?_eq_getElem hj']
  rw [e]
theorem bits_xor8 (a b : UInt8) : Go.bits .xor .u8 (a.toNat : Int) (b.toNat : Int) = ((a ^^^ b).toNat : Int) := by
  have h : ∀ c : UInt8, BitVec.ofInt 8 ((c.toNat : Nat) : Int) = c.toBitVec := fun c => by
    rw [BitVec.ofInt_natCast]; apply BitVec.eq_of_toNat_eq; simp
  show IntKind.u8.wrap (((BitVec.ofInt 8 (a.toNat : Int)) ^^^ (BitVec.ofInt 8 (b.toNat : Int))).toNat : Int) = _
  rw [h, h, IntKind.wrap_u8]
  have := (a.toBitVec ^^^ b.toBitVec).isLt
  have e : (a ^^^ b).toNat = (a.toBitVec ^^^ b.toBitVec).toNat := rfl
  rw [e]
  omega
/-- The bytes of q laid over those of s from k on: the first i. -/
def mix (s : List UInt8) (k : Nat) (q : List UInt8) : Nat → List UInt8
  | 0 => s
  | i + 1 => (mix s k q i).set (k + i) ((mix s k q i).getD (k + i) 0 ^^^ q.getD i 0)
theorem mix_len (s : List UInt8) (k : Nat) (q : List UInt8) : ∀ i, (mix s k q i).length = s.length
  | 0 => rfl
  | i + 1 => by rw [mix, List.length_set, mix_len]
def place (a1 : Int) (n : Nat) : Nat := (Int.tmod (Int.tmod a1 n + n) n).toNat
theorem place_is (a1 : Int) (n : Nat) (hn : 0 < n) (hm : n ≤ 1000) : Int.tmod (wrap64 (Int.tmod a1 n + n)) n = (place a1 n : Int) ∧ place a1 n < n := by
  have h1 : Int.tmod a1 n < n := Int.tmod_lt_of_pos _ (by omega)
  have h2 : -(n : Int) < Int.tmod a1 n := by
    have := Int.tmod_lt_of_pos (-a1) (show (0 : Int) < n by omega)
    rw [Int.neg_tmod] at this; omega
  have hw : wrap64 (Int.tmod a1 n + n) = Int.tmod a1 n + n := by unfold wrap64; omega
  rw [hw]
  have h3 : 0 ≤ Int.tmod (Int.tmod a1 n + n) n := Int.tmod_nonneg _ (by omega)
  have h4 : Int.tmod (Int.tmod a1 n + n) n < n := Int.tmod_lt_of_pos _ (by omega)
  unfold place
  omega
attribute [local go_sem] max2_int min2_int max_two min_two max_three min_three max_four min_four   -- for this text's walks alone
set_option maxHeartbeats 8000000 in
set_option maxRecDepth 100000 in
theorem tells_long (k : Nat) (a0 : ByteArray) (a1 a2 : Int) (w : World) (t q : ByteArray) (x y : Int)
    (H0 : dowserlaw02_awake.f k = some true) (H1 : dowserlaw01_Cut.f a0 200 = some t) (H2 : crc_Four.f a2 = some q) (ht : t.size ≤ 200) (hq : q.size = 4) (h4 : 4 ≤ t.size)
    (H3 : crc_Of.f k [⟨(mix t.data.toList (place a1 (t.size - 3)) q.data.toList 4).toArray⟩] = some x) (H4 : crc_Of.f k [t] = some y) (H5 : ((x == y) == (a2 == 0)) = true) :
    Calls Try.prog 4 #[.string a0, .int .i64 a1, .int .u32 a2] w fun e w' => e = .returned (.bool true) ∧ Below w.heap.size w w' := by
  obtain ⟨n, hn⟩ : ∃ n, n = t.size - 3 := ⟨_, rfl⟩
  rw [← hn] at H3
  have hnz : (t.size : Int) - 3 = (n : Int) := by omega
  obtain ⟨kk, hkk, hpl⟩ : ∃ kk, kk = place a1 n ∧ kk < n := ⟨_, rfl, (place_is a1 n (by omega) (by omega)).2⟩
  have hkt := (place_is a1 n (by omega) (by omega)).1
  rw [← hkk] at hkt H3
  clear hkk
  have hnw : wrap64 (n : Int) = (n : Int) := by unfold wrap64; omega
  have hn0 : ((n : Int) == 0) = false := by simp; omega
  have hn0' : ¬ (n : Int) = 0 := by omega
  have c1 : decide ((t.size : Int) < 4) = false := decide_eq_false (by omega)
  have A0 := Aside0.mk H0
  have A1 := Aside0.mk H1
  have A2 := Aside0.mk H2
  have A3 := Aside0.mk H3
  have A4 := Aside0.mk H4
  have A5 := Aside0.mk H5
  have HN := Aside0.mk hn
  have HT := Aside0.mk ht
  have HQ := Aside0.mk hq
  have HF := Aside0.mk h4
  have HP := Aside0.mk hpl
  clear H0 H1 H2 H3 H4 H5 hn ht hq h4 hpl
  go_enter Try.func4, Try.ntmps4
  go_wp2_with (first | (go_at_call 13; (with_reducible refine (dowserlaw02_awake.calls k true _ A0.out).mono ?_); rintro e w1 ⟨rfl, hb⟩; have HB := Aside0.mk hb; clear hb) | (go_at_call 14; (with_reducible refine (dowserlaw01_Cut.calls a0 200 t _ A1.out).mono ?_); rintro e w2 ⟨rfl, ⟨nd, rfl⟩⟩))
  rw [run_bytes_of_string (P := Try.prog) (w1.drewN nd) 9 30 5 t (by kernel_rfl) (by kernel_rfl) (by kernel_rfl)]
  obtain ⟨cb, hcb⟩ : ∃ cb, cb = grownCap (w1.drewN nd) t.size 0 5 := ⟨_, rfl⟩
  rw [← hcb]
  have hB := BB.new (w1.drewN nd) t cb
  have hbl : Below w.heap.size w ((w1.drewN nd).drew.alloc (.cells (bytesRow t cb) 5 ((bytesRow t cb).size, (bytesRow t cb).size + 1))) := below_alloc (below_drew1 (pw_below_drewN HB.out _)) _
  obtain ⟨gb, hgb⟩ : ∃ gb, gb = (w1.drewN nd).heap.size := ⟨_, rfl⟩
  obtain ⟨W1, hW1⟩ : ∃ W1, W1 = ((w1.drewN nd).drew.alloc (.cells (bytesRow t cb) 5 ((bytesRow t cb).size, (bytesRow t cb).size + 1))) := ⟨_, rfl⟩
  have hg0 : w.heap.size ≤ gb := by rw [hgb]; exact HB.out.size
  rw [← hW1, ← hgb] at hB
  rw [← hW1] at hbl
  rw [← hW1, ← hgb]
  clear hW1 hgb hcb HB
  have HBB := Aside0.mk hB
  have HB := Aside0.mk hbl
  have HG := Aside0.mk hg0
  clear hB hbl hg0
  simp only [Result.andThen]
  rw [Oper.upon_value]
  go_wp2_with (first | (go_at_call 18; (with_reducible refine (crc_Four.calls a2 q _ A2.out).mono ?_); rintro e w3 ⟨rfl, hb⟩; have HB3 := Aside0.mk hb; clear hb))
  rw [run_bytes_of_string (P := Try.prog) w3 9 30 5 q (by kernel_rfl) (by kernel_rfl) (by kernel_rfl)]
  obtain ⟨cq, hcq⟩ : ∃ cq, cq = grownCap w3 q.size 0 5 := ⟨_, rfl⟩
  rw [← hcq]
  have hQ := BB.new w3 q cq
  have hbw : Below W1.heap.size W1 (w3.drew.alloc (.cells (bytesRow q cq) 5 ((bytesRow q cq).size, (bytesRow q cq).size + 1))) := below_alloc (below_drew1 HB3.out) _
  have hbl : Below w.heap.size w (w3.drew.alloc (.cells (bytesRow q cq) 5 ((bytesRow q cq).size, (bytesRow q cq).size + 1))) := below_then HB.out HB.out.size hbw
  have hB : BB (w3.drew.alloc (.cells (bytesRow q cq) 5 ((bytesRow q cq).size, (bytesRow q cq).size + 1))) gb t.data.toList := HBB.out.below hbw HBB.out.lt
  obtain ⟨gq, hgq⟩ : ∃ gq, gq = w3.heap.size := ⟨_, rfl⟩
  have hne : gb ≠ gq := by have := HBB.out.lt; have := HB3.out.size; omega
  have hgq0 : w.heap.size ≤ gq := by have := HB.out.size; have := HB3.out.size; omega
  obtain ⟨W2, hW2⟩ : ∃ W2, W2 = (w3.drew.alloc (.cells (bytesRow q cq) 5 ((bytesRow q cq).size, (bytesRow q cq).size + 1))) := ⟨_, rfl⟩
  rw [← hW2, ← hgq] at hQ
  rw [← hW2] at hbl hB
  rw [← hW2, ← hgq, HQ.out]
  clear hW2 hgq hcq hbw HBB HB HB3
  have HBB := Aside0.mk hB
  have HB := Aside0.mk hbl
  have HQQ := Aside0.mk hQ
  have HNE := Aside0.mk hne
  have HGQ := Aside0.mk hgq0
  clear hB hbl hQ hne hgq0
  simp only [Result.andThen]
  rw [Oper.upon_value]
  have htl : Aside0 (t.data.toList.length = t.size) := ⟨by simp⟩
  have hql : Aside0 (q.data.toList.length = 4) := ⟨by have := HQ.out; simpa using this⟩
  obtain ⟨L, hL⟩ : ∃ L, L = t.data.toList := ⟨_, rfl⟩
  obtain ⟨Q, hQ⟩ : ∃ Q, Q = q.data.toList := ⟨_, rfl⟩
  rw [← hL] at HBB htl A3
  rw [← hQ] at HQQ hql A3
  clear hL hQ
  obtain ⟨bs, hbs⟩ : ∃ bs : ByteArray, bs = ⟨(mix L kk Q 4).toArray⟩ := ⟨_, rfl⟩
  rw [← hbs] at A3
  obtain ⟨Y1, hY1⟩ : ∃ Y1 : List ByteArray, Y1 = [bs] := ⟨_, rfl⟩
  obtain ⟨Y2, hY2⟩ : ∃ Y2 : List ByteArray, Y2 = [t] := ⟨_, rfl⟩
  rw [← hY1] at A3
  rw [← hY2] at A4
  have NB := Aside0.mk hbs
  have N1 := Aside0.mk hY1
  have N2 := Aside0.mk hY2
  clear hbs hY1 hY2
  go_wp2
  go_loopg [37] 4 (fun kq v37 w' => ∃ i : Nat, v37 = .int .i64 (i : Int) ∧ i ≤ 4 ∧ kq = 4 - i ∧ Aside0 (BB w' gb (mix L kk Q i)) ∧ Aside0 (BB w' gq Q) ∧ Aside0 (Below w.heap.size w w'))
  case atStart => exact ⟨0, rfl, by omega, by omega, ⟨HBB.out⟩, ⟨HQQ.out⟩, ⟨HB.out⟩⟩
  case round =>
    clear HBB HQQ HB
    obtain ⟨i, rfl, hi, hk, HBB, HQQ, HB⟩ := hrel
    rename_i w'
    by_cases hlt : i < 4
    · have hltz : (i : Int) < 4 := by omega
      have hltS : (kk : Int) + (i : Int) < (t.size : Int) := by have := HP.out; have := HN.out; omega
      have h0S : 0 ≤ (kk : Int) + (i : Int) := by omega
      have hki : wrap64 ((kk : Int) + (i : Int)) = (kk : Int) + (i : Int) := by have := HT.out; unfold wrap64; omega
      have hlen := mix_len L kk Q i
      have hix : kk + i < (mix L kk Q i).length := by rw [hlen, htl.out]; omega
      have hiq : i < Q.length := by rw [hql.out]; omega
      have hx := HQQ.out.cell i hiq
      have hb1 := HBB.out.cell (kk + i) hix
      have hb2 := HBB.out.cold (kk + i) hix
      have hmix : mix L kk Q (i + 1) = (mix L kk Q i).set (kk + i) ((mix L kk Q i).getD (kk + i) 0 ^^^ Q.getD i 0) := rfl
      have hset := HBB.out.set (kk + i) hix ((mix L kk Q i).getD (kk + i) 0 ^^^ Q.getD i 0)
      rw [← hmix] at hset
      clear hmix
      generalize (mix L kk Q i).getD (kk + i) 0 = b1 at hb1 hset
      generalize Q.getD i 0 = b2 at hx hset
      have HSET := Aside0.mk hset
      clear hlen hix hiq hset
      have hxor := bits_xor8 b1 b2
      go_wp2_with fail
      go_roundg (4 - (i + 1))
      case measure => omega
      case rel => exact ⟨i + 1, by go_num, by omega, rfl, HSET, ⟨HQQ.out.far HNE.out.symm _⟩, ⟨HB.out.setCell (by have := HG.out; exact this) _⟩⟩
    · have hltz : ¬ (i : Int) < 4 := by omega
      obtain rfl : i = 4 := by omega
      go_wp2
      have hcv : (convert 30 9 (.slice (some ⟨gb, 0, none⟩) t.size cb)).run Try.prog wr = .ok (.string bs) wr := by
        have hlen : (mix L kk Q 4).length = t.size := by rw [mix_len, htl.out]
        have h := run_convert_bytes_back (P := Try.prog) wr 30 9 5 ⟨gb, 0, none⟩ cb (mix L kk Q 4) (by kernel_rfl) (by kernel_rfl) (by kernel_rfl) (fun j hj => by
          have h1 := HBB.out.cell j hj
          have h2 : (⟨gb, 0, none⟩ : Addr).add j = ⟨gb, j, none⟩ := by unfold Addr.add; split <;> simp_all
          rw [h2, h1]; simp [List.getD, hj])
        rw [hlen] at h
        rw [NB.out]; exact h
      rw [hcv]
      simp only [Result.andThen]
      rw [Oper.upon_value]
      clear hcv
      clear HBB HQQ HG HNE HGQ htl hql hltz hlt
      go_wp2_with (first | ((with_reducible refine gate_dst (N := 54) rfl ?_); refine Kd.R_lit Kd.string _ 9 ?hg (N := 54) ?hd (xs := [bs]) (inner := [.string bs]) (ok := fun _ => True) (okp := fun _ => True) ?hr ?hp (fun _ hk => hk) trivial (Below.refl _ _) (Nat.le_refl _) (by simp) ?_; (case hd => rfl); (case hg => rfl); (case hr => first | (go_simp; done) | (go_simp; rfl)); (case hp => exact (Reps.one (show Kd.M Kd.string _ _ _ bs [.string bs] from rfl) (Reps.none _ _))); intro v1 w5 ho5 hb5 hg_ hnew_; clear hg_ hnew_; (first | rw [← N1.out] at ho5 | (simp only [Int.reduceToNat] at ho5; rw [← N1.out] at ho5)); have HB5 := Aside0.mk (below_step HB.out hb5); have HO5 := Aside0.mk ho5; clear hb5 ho5; obtain ⟨Ao5, co5, eo5⟩ := Kd.R_slice HO5.out; subst eo5) | (go_at_call 15; (with_reducible refine (crc_Of.calls k _ _ Y1 x _ ?side1 ?side2 A3.out).mono ?_); (case side1 => exact (Kd.R_reads' HO5.out).2.2); (case side2 => exact (Kd.R_reads' HO5.out).2.1); rintro e w' ⟨rfl, ⟨nd5, rfl⟩⟩) | ((with_reducible refine gate_dst (N := 57) rfl ?_); refine Kd.R_lit Kd.string _ 9 ?hg (N := 57) ?hd (xs := [t]) (inner := [.string t]) (ok := fun _ => True) (okp := fun _ => True) ?hr ?hp (fun _ hk => hk) trivial (Below.refl _ _) (Nat.le_refl _) (by simp) ?_; (case hd => rfl); (case hg => rfl); (case hr => first | (go_simp; done) | (go_simp; rfl)); (case hp => exact (Reps.one (show Kd.M Kd.string _ _ _ t [.string t] from rfl) (Reps.none _ _))); intro v6 w6 ho6 hb6 hg_ hnew_; clear hg_ hnew_; (first | rw [← N2.out] at ho6 | (simp only [Int.reduceToNat] at ho6; rw [← N2.out] at ho6)); have HB6 := Aside0.mk (below_step (pw_below_drewN HB5.out _) hb6); have HO6 := Aside0.mk ho6; clear hb6 ho6; obtain ⟨Ao6, co6, eo6⟩ := Kd.R_slice HO6.out; subst eo6) | (go_at_call 15; (with_reducible refine (crc_Of.calls k _ _ Y2 y _ ?side1 ?side2 A4.out).mono ?_); (case side1 => exact (Kd.R_reads' HO6.out).2.2); (case side2 => exact (Kd.R_reads' HO6.out).2.1); rintro e w' ⟨rfl, ⟨nd6, rfl⟩⟩))
      go_ret
      exact ⟨by rw [A5.out]; rfl, pw_below_drewN HB6.out _⟩
attribute [local go_sem] max2_int min2_int max_two min_two max_three min_three max_four min_four   -- for this text's walks alone
set_option maxHeartbeats 8000000 in
set_option maxRecDepth 100000 in
theorem tells_short (k : Nat) (a0 : ByteArray) (a1 a2 : Int) (w : World) (t s q : ByteArray) (x y : Int)
    (H0 : dowserlaw02_awake.f k = some true) (H1 : dowserlaw01_Cut.f a0 200 = some t) (H2 : crc_Four.f a2 = some q) (ht : s.size ≤ 200) (hq : q.size = 4) (hlt4 : t.size < 4) (hcat : t ++ ⟨#[119, 120, 121, 122]⟩ = s) (h4 : 4 ≤ s.size)
    (H3 : crc_Of.f k [⟨(mix s.data.toList (place a1 (s.size - 3)) q.data.toList 4).toArray⟩] = some x) (H4 : crc_Of.f k [s] = some y) (H5 : ((x == y) == (a2 == 0)) = true) :
    Calls Try.prog 4 #[.string a0, .int .i64 a1, .int .u32 a2] w fun e w' => e = .returned (.bool true) ∧ Below w.heap.size w w' := by
  obtain ⟨n, hn⟩ : ∃ n, n = s.size - 3 := ⟨_, rfl⟩
  rw [← hn] at H3
  have hnz : (s.size : Int) - 3 = (n : Int) := by omega
  obtain ⟨kk, hkk, hpl⟩ : ∃ kk, kk = place a1 n ∧ kk < n := ⟨_, rfl, (place_is a1 n (by omega) (by omega)).2⟩
  have hkt := (place_is a1 n (by omega) (by omega)).1
  rw [← hkk] at hkt H3
  clear hkk
  have hnw : wrap64 (n : Int) = (n : Int) := by unfold wrap64; omega
  have hn0 : ((n : Int) == 0) = false := by simp; omega
  have hn0' : ¬ (n : Int) = 0 := by omega
  have c1 : decide ((t.size : Int) < 4) = true := decide_eq_true (by omega)
  have c2 : t.size + 4 ≤ 9223372036854775807 := by omega
  clear hlt4
  have A0 := Aside0.mk H0
  have A1 := Aside0.mk H1
  have A2 := Aside0.mk H2
  have A3 := Aside0.mk H3
  have A4 := Aside0.mk H4
  have A5 := Aside0.mk H5
  have HN := Aside0.mk hn
  have HT := Aside0.mk ht
  have HQ := Aside0.mk hq
  have HF := Aside0.mk h4
  have HP := Aside0.mk hpl
  clear H0 H1 H2 H3 H4 H5 hn ht hq h4 hpl
  go_enter Try.func4, Try.ntmps4
  go_wp2_with (first | (go_at_call 13; (with_reducible refine (dowserlaw02_awake.calls k true _ A0.out).mono ?_); rintro e w1 ⟨rfl, hb⟩; have HB := Aside0.mk hb; clear hb) | (go_at_call 14; (with_reducible refine (dowserlaw01_Cut.calls a0 200 t _ A1.out).mono ?_); rintro e w2 ⟨rfl, ⟨nd, rfl⟩⟩))
  rw [run_bytes_of_string (P := Try.prog) (w1.drewN nd) 9 30 5 s (by kernel_rfl) (by kernel_rfl) (by kernel_rfl)]
  obtain ⟨cb, hcb⟩ : ∃ cb, cb = grownCap (w1.drewN nd) s.size 0 5 := ⟨_, rfl⟩
  rw [← hcb]
  have hB := BB.new (w1.drewN nd) s cb
  have hbl : Below w.heap.size w ((w1.drewN nd).drew.alloc (.cells (bytesRow s cb) 5 ((bytesRow s cb).size, (bytesRow s cb).size + 1))) := below_alloc (below_drew1 (pw_below_drewN HB.out _)) _
  obtain ⟨gb, hgb⟩ : ∃ gb, gb = (w1.drewN nd).heap.size := ⟨_, rfl⟩
  obtain ⟨W1, hW1⟩ : ∃ W1, W1 = ((w1.drewN nd).drew.alloc (.cells (bytesRow s cb) 5 ((bytesRow s cb).size, (bytesRow s cb).size + 1))) := ⟨_, rfl⟩
  have hg0 : w.heap.size ≤ gb := by rw [hgb]; exact HB.out.size
  rw [← hW1, ← hgb] at hB
  rw [← hW1] at hbl
  rw [← hW1, ← hgb]
  clear hW1 hgb hcb HB
  have HBB := Aside0.mk hB
  have HB := Aside0.mk hbl
  have HG := Aside0.mk hg0
  clear hB hbl hg0
  simp only [Result.andThen]
  rw [Oper.upon_value]
  go_wp2_with (first | (go_at_call 18; (with_reducible refine (crc_Four.calls a2 q _ A2.out).mono ?_); rintro e w3 ⟨rfl, hb⟩; have HB3 := Aside0.mk hb; clear hb))
  rw [run_bytes_of_string (P := Try.prog) w3 9 30 5 q (by kernel_rfl) (by kernel_rfl) (by kernel_rfl)]
  obtain ⟨cq, hcq⟩ : ∃ cq, cq = grownCap w3 q.size 0 5 := ⟨_, rfl⟩
  rw [← hcq]
  have hQ := BB.new w3 q cq
  have hbw : Below W1.heap.size W1 (w3.drew.alloc (.cells (bytesRow q cq) 5 ((bytesRow q cq).size, (bytesRow q cq).size + 1))) := below_alloc (below_drew1 HB3.out) _
  have hbl : Below w.heap.size w (w3.drew.alloc (.cells (bytesRow q cq) 5 ((bytesRow q cq).size, (bytesRow q cq).size + 1))) := below_then HB.out HB.out.size hbw
  have hB : BB (w3.drew.alloc (.cells (bytesRow q cq) 5 ((bytesRow q cq).size, (bytesRow q cq).size + 1))) gb s.data.toList := HBB.out.below hbw HBB.out.lt
  obtain ⟨gq, hgq⟩ : ∃ gq, gq = w3.heap.size := ⟨_, rfl⟩
  have hne : gb ≠ gq := by have := HBB.out.lt; have := HB3.out.size; omega
  have hgq0 : w.heap.size ≤ gq := by have := HB.out.size; have := HB3.out.size; omega
  obtain ⟨W2, hW2⟩ : ∃ W2, W2 = (w3.drew.alloc (.cells (bytesRow q cq) 5 ((bytesRow q cq).size, (bytesRow q cq).size + 1))) := ⟨_, rfl⟩
  rw [← hW2, ← hgq] at hQ
  rw [← hW2] at hbl hB
  rw [← hW2, ← hgq, HQ.out]
  clear hW2 hgq hcq hbw HBB HB HB3
  have HBB := Aside0.mk hB
  have HB := Aside0.mk hbl
  have HQQ := Aside0.mk hQ
  have HNE := Aside0.mk hne
  have HGQ := Aside0.mk hgq0
  clear hB hbl hQ hne hgq0
  simp only [Result.andThen]
  rw [Oper.upon_value]
  have htl : Aside0 (s.data.toList.length = s.size) := ⟨by simp⟩
  have hql : Aside0 (q.data.toList.length = 4) := ⟨by have := HQ.out; simpa using this⟩
  obtain ⟨L, hL⟩ : ∃ L, L = s.data.toList := ⟨_, rfl⟩
  obtain ⟨Q, hQ⟩ : ∃ Q, Q = q.data.toList := ⟨_, rfl⟩
  rw [← hL] at HBB htl A3
  rw [← hQ] at HQQ hql A3
  clear hL hQ
  obtain ⟨bs, hbs⟩ : ∃ bs : ByteArray, bs = ⟨(mix L kk Q 4).toArray⟩ := ⟨_, rfl⟩
  rw [← hbs] at A3
  obtain ⟨Y1, hY1⟩ : ∃ Y1 : List ByteArray, Y1 = [bs] := ⟨_, rfl⟩
  obtain ⟨Y2, hY2⟩ : ∃ Y2 : List ByteArray, Y2 = [s] := ⟨_, rfl⟩
  rw [← hY1] at A3
  rw [← hY2] at A4
  have NB := Aside0.mk hbs
  have N1 := Aside0.mk hY1
  have N2 := Aside0.mk hY2
  clear hbs hY1 hY2
  go_wp2
  go_loopg [37] 4 (fun kq v37 w' => ∃ i : Nat, v37 = .int .i64 (i : Int) ∧ i ≤ 4 ∧ kq = 4 - i ∧ Aside0 (BB w' gb (mix L kk Q i)) ∧ Aside0 (BB w' gq Q) ∧ Aside0 (Below w.heap.size w w'))
  case atStart => exact ⟨0, rfl, by omega, by omega, ⟨HBB.out⟩, ⟨HQQ.out⟩, ⟨HB.out⟩⟩
  case round =>
    clear HBB HQQ HB
    obtain ⟨i, rfl, hi, hk, HBB, HQQ, HB⟩ := hrel
    rename_i w'
    by_cases hlt : i < 4
    · have hltz : (i : Int) < 4 := by omega
      have hltS : (kk : Int) + (i : Int) < (s.size : Int) := by have := HP.out; have := HN.out; omega
      have h0S : 0 ≤ (kk : Int) + (i : Int) := by omega
      have hki : wrap64 ((kk : Int) + (i : Int)) = (kk : Int) + (i : Int) := by have := HT.out; unfold wrap64; omega
      have hlen := mix_len L kk Q i
      have hix : kk + i < (mix L kk Q i).length := by rw [hlen, htl.out]; omega
      have hiq : i < Q.length := by rw [hql.out]; omega
      have hx := HQQ.out.cell i hiq
      have hb1 := HBB.out.cell (kk + i) hix
      have hb2 := HBB.out.cold (kk + i) hix
      have hmix : mix L kk Q (i + 1) = (mix L kk Q i).set (kk + i) ((mix L kk Q i).getD (kk + i) 0 ^^^ Q.getD i 0) := rfl
      have hset := HBB.out.set (kk + i) hix ((mix L kk Q i).getD (kk + i) 0 ^^^ Q.getD i 0)
      rw [← hmix] at hset
      clear hmix
      generalize (mix L kk Q i).getD (kk + i) 0 = b1 at hb1 hset
      generalize Q.getD i 0 = b2 at hx hset
      have HSET := Aside0.mk hset
      clear hlen hix hiq hset
      have hxor := bits_xor8 b1 b2
      go_wp2_with fail
      go_roundg (4 - (i + 1))
      case measure => omega
      case rel => exact ⟨i + 1, by go_num, by omega, rfl, HSET, ⟨HQQ.out.far HNE.out.symm _⟩, ⟨HB.out.setCell (by have := HG.out; exact this) _⟩⟩
    · have hltz : ¬ (i : Int) < 4 := by omega
      obtain rfl : i = 4 := by omega
      go_wp2
      have hcv : (convert 30 9 (.slice (some ⟨gb, 0, none⟩) s.size cb)).run Try.prog wr = .ok (.string bs) wr := by
        have hlen : (mix L kk Q 4).length = s.size := by rw [mix_len, htl.out]
        have h := run_convert_bytes_back (P := Try.prog) wr 30 9 5 ⟨gb, 0, none⟩ cb (mix L kk Q 4) (by kernel_rfl) (by kernel_rfl) (by kernel_rfl) (fun j hj => by
          have h1 := HBB.out.cell j hj
          have h2 : (⟨gb, 0, none⟩ : Addr).add j = ⟨gb, j, none⟩ := by unfold Addr.add; split <;> simp_all
          rw [h2, h1]; simp [List.getD, hj])
        rw [hlen] at h
        rw [NB.out]; exact h
      rw [hcv]
      simp only [Result.andThen]
      rw [Oper.upon_value]
      clear hcv
      clear HBB HQQ HG HNE HGQ htl hql hltz hlt
      go_wp2_with (first | ((with_reducible refine gate_dst (N := 54) rfl ?_); refine Kd.R_lit Kd.string _ 9 ?hg (N := 54) ?hd (xs := [bs]) (inner := [.string bs]) (ok := fun _ => True) (okp := fun _ => True) ?hr ?hp (fun _ hk => hk) trivial (Below.refl _ _) (Nat.le_refl _) (by simp) ?_; (case hd => rfl); (case hg => rfl); (case hr => first | (go_simp; done) | (go_simp; rfl)); (case hp => exact (Reps.one (show Kd.M Kd.string _ _ _ bs [.string bs] from rfl) (Reps.none _ _))); intro v1 w5 ho5 hb5 hg_ hnew_; clear hg_ hnew_; (first | rw [← N1.out] at ho5 | (simp only [Int.reduceToNat] at ho5; rw [← N1.out] at ho5)); have HB5 := Aside0.mk (below_step HB.out hb5); have HO5 := Aside0.mk ho5; clear hb5 ho5; obtain ⟨Ao5, co5, eo5⟩ := Kd.R_slice HO5.out; subst eo5) | (go_at_call 15; (with_reducible refine (crc_Of.calls k _ _ Y1 x _ ?side1 ?side2 A3.out).mono ?_); (case side1 => exact (Kd.R_reads' HO5.out).2.2); (case side2 => exact (Kd.R_reads' HO5.out).2.1); rintro e w' ⟨rfl, ⟨nd5, rfl⟩⟩) | ((with_reducible refine gate_dst (N := 57) rfl ?_); refine Kd.R_lit Kd.string _ 9 ?hg (N := 57) ?hd (xs := [s]) (inner := [.string s]) (ok := fun _ => True) (okp := fun _ => True) ?hr ?hp (fun _ hk => hk) trivial (Below.refl _ _) (Nat.le_refl _) (by simp) ?_; (case hd => rfl); (case hg => rfl); (case hr => first | (go_simp; done) | (go_simp; rfl)); (case hp => exact (Reps.one (show Kd.M Kd.string _ _ _ s [.string s] from rfl) (Reps.none _ _))); intro v6 w6 ho6 hb6 hg_ hnew_; clear hg_ hnew_; (first | rw [← N2.out] at ho6 | (simp only [Int.reduceToNat] at ho6; rw [← N2.out] at ho6)); have HB6 := Aside0.mk (below_step (pw_below_drewN HB5.out _) hb6); have HO6 := Aside0.mk ho6; clear hb6 ho6; obtain ⟨Ao6, co6, eo6⟩ := Kd.R_slice HO6.out; subst eo6) | (go_at_call 15; (with_reducible refine (crc_Of.calls k _ _ Y2 y _ ?side1 ?side2 A4.out).mono ?_); (case side1 => exact (Kd.R_reads' HO6.out).2.2); (case side2 => exact (Kd.R_reads' HO6.out).2.1); rintro e w' ⟨rfl, ⟨nd6, rfl⟩⟩))
      go_ret
      exact ⟨by rw [A5.out]; rfl, pw_below_drewN HB6.out _⟩
attribute [local go_sem] max2_int min2_int max_two min_two max_three min_three max_four min_four   -- for this text's walks alone
def long (t : ByteArray) : ByteArray := if t.size < 4 then t ++ ⟨#[119, 120, 121, 122]⟩ else t
theorem long_le (t : ByteArray) (h : t.size ≤ 200) : (long t).size ≤ 200 ∧ 4 ≤ (long t).size := by
  unfold long
  split
  · rw [ByteArray.size_append]
    have : (⟨#[119, 120, 121, 122]⟩ : ByteArray).size = 4 := rfl
    omega
  · omega
def dowserlaw02_CrcTells.f (k : Nat) (a0 : ByteArray) (a1 a2 : Int) : Option Bool :=
  (dowserlaw02_awake.f k).bind fun u0 => if u0 = true then
    (dowserlaw01_Cut.f a0 200).bind fun t => (crc_Four.f a2).bind fun q => if t.size ≤ 200 ∧ q.size = 4 then
      (crc_Of.f k [⟨(mix (long t).data.toList (place a1 ((long t).size - 3)) q.data.toList 4).toArray⟩]).bind fun x => (crc_Of.f k [long t]).bind fun y =>
        if ((x == y) == (a2 == 0)) = true then some true else none
    else none
  else none
theorem dowserlaw02_CrcTells.mono : ∀ a0 a1 a2 k, LeO (dowserlaw02_CrcTells.f k a0 a1 a2) (dowserlaw02_CrcTells.f (k + 1) a0 a1 a2) := by
  intro a0 a1 a2 k
  unfold dowserlaw02_CrcTells.f
  exact LeO.bind (dowserlaw02_awake.mono _) (fun _ => LeO.ite (LeO.bind (LeO.refl _) (fun _ => LeO.bind (LeO.refl _) (fun _ => LeO.ite (LeO.bind (crc_Of.mono _ _) (fun _ => LeO.bind (crc_Of.mono _ _) (fun _ => LeO.refl _))) (LeO.refl _)))) (LeO.refl _))
theorem dowserlaw02_CrcTells.calls (k : Nat) (a0 : ByteArray) (a1 a2 : Int) (r : Bool) (w : World) (h : dowserlaw02_CrcTells.f k a0 a1 a2 = some r) :
    Calls Try.prog 4 #[.string a0, .int .i64 a1, .int .u32 a2] w fun e w' => e = .returned (.bool r) ∧ Below w.heap.size w w' := by
  unfold dowserlaw02_CrcTells.f at h
  obtain ⟨u0, H0, h⟩ := Option.bind_eq_some_iff.mp h
  by_cases c0 : u0 = true
  case neg => rw [if_neg c0] at h; cases h
  rw [if_pos c0] at h
  subst c0
  obtain ⟨t, H1, h⟩ := Option.bind_eq_some_iff.mp h
  obtain ⟨q, H2, h⟩ := Option.bind_eq_some_iff.mp h
  by_cases c1 : t.size ≤ 200 ∧ q.size = 4
  case neg => rw [if_neg c1] at h; cases h
  rw [if_pos c1] at h
  obtain ⟨x, H3, h⟩ := Option.bind_eq_some_iff.mp h
  obtain ⟨y, H4, h⟩ := Option.bind_eq_some_iff.mp h
  by_cases c2 : ((x == y) == (a2 == 0)) = true
  case neg => rw [if_neg c2] at h; cases h
  rw [if_pos c2] at h
  cases h
  have hl := long_le t c1.1
  by_cases c3 : t.size < 4
  · exact tells_short k a0 a1 a2 w t (long t) q x y H0 H1 H2 hl.1 c1.2 c3 (by unfold long; rw [if_pos c3]) hl.2 H3 H4 c2
  · have e : long t = t := by unfold long; rw [if_neg c3]
    rw [e] at H3 H4 hl
    exact tells_long k a0 a1 a2 w t q x y H0 H1 H2 hl.1 c1.2 hl.2 H3 H4 c2
end

/-- THE ONE PURE STATEMENT of dowserlaw02_CrcTells: yours. -/
def dowserlaw02_CrcTells.Pure : Prop := ∀ (a0 : ByteArray) (a1 : Int) (a2 : Int), a0.size ≤ 140737488351232 → (Lit.int .i64 a1).wf = true → (Lit.int .u32 a2).wf = true → ∃ k, dowserlaw02_CrcTells.f k a0 a1 a2 = some true
theorem dowserlaw02_CrcTells.walk (P : dowserlaw02_CrcTells.Pure) (a0 : ByteArray) (a1 : Int) (a2 : Int) (w : World) (w0 : a0.size ≤ 140737488351232) (w1 : (Lit.int .i64 a1).wf = true) (w2 : (Lit.int .u32 a2).wf = true) :
    Calls Try.prog 4 #[.string a0, .int .i64 a1, .int .u32 a2] w fun e w' => e = .returned (.bool true) ∧ Below w.heap.size w w' := by
  obtain ⟨k, h⟩ := P a0 a1 a2 w0 w1 w2
  refine (dowserlaw02_CrcTells.calls k a0 a1 a2 true w h).mono ?_
  rintro e w' ⟨rfl, hd⟩
  exact ⟨rfl, hd⟩

end Go.Proofs.Ytfkgidiedpkbdaa.PD

-- Written by this session's own program wip/bin/dprint.py, over the kit's print.py, with own texts for some functions: no print of print.sh's
import Derived.Test.YtgfjjhfkgfnpaaaPBx0
import Derived.Test.YtgfjjhfkgfnpaaaPBx12
import Derived.Test.YtgfjjhfkgfnpaaaPBx15
import Derived.Test.YtgfjjhfkgfnpaaaUps
namespace Go.Proofs.Ytgfjjhfkgfnpaaa.PB
open Go.RowKit Go.Proofs.YtgfjjhfkgfnpaaaW.PrintWords Go.Proofs.YtgfjjhfkgfnpaaaW.PrintLast Go.Proofs.YtgfjjhfkgfnpaaaW.PrintMore
attribute [local go_sem] max2_int min2_int max_two min_two max_three min_three max_four min_four   -- for this text's walks alone
set_option linter.unusedVariables false
set_option linter.unusedSimpArgs false


/-! ### program_Program_Clone: function 13 (own text) -/
section
theorem rows_clone.info_ {P : Program} {t : TypeId} {z : Value} {n b : Nat} (h : (P.info? t).map (fun i => (i.zero,i.size,i.bytes)) = some (some z,n,b)) : ∃ i,P.info? t = some i ∧ i.zero = some z ∧ i.size = n ∧ i.bytes = b:=by
 cases hi : P.info? t with
 | none => rw [hi] at h;cases h
 | some i =>
  rw [hi] at h
  have:=Option.some.inj h
  (injection this with a b);(injection b with b c);exact ⟨i,rfl,a,b,c⟩
theorem rows_clone.one_ {α : Type} {D : Kd α} {w : World} {sz : Nat} {l : List α} {cells : List Value} (h : Reps (D.K w) sz l cells) (h0 : 0 < sz) : ∀ u ∈ cells,u.oneCell' = true:=by
 intro u hu;obtain ⟨j,hj,rfl⟩:=List.mem_iff_getElem.1 hu;have hl:=h.1;(have hd : j / sz < l.length:=by rw [Nat.div_lt_iff_lt_mul h0];omega);(refine D.K_one (h.2 (j / sz) _ (List.getElem?_eq_getElem hd)) _ ?_);(refine List.mem_iff_getElem?.2 ⟨j % sz,?_⟩);(have e : j / sz * sz + j % sz = j:=by rw [Nat.mul_comm];exact Nat.div_add_mod j sz);rw [List.getElem?_take,if_pos (Nat.mod_lt _ h0),List.getElem?_drop,e,List.getElem?_eq_getElem hj]
set_option maxHeartbeats 4000000 in
set_option maxRecDepth 100000 in
theorem rows_clone.some45_ (ad : Addr) (n c : Nat) (cells : List Value) (w : World) (hl : cells.length = n * 2) (hc : ∀ j u,cells[j]? = some u → w.cell? (ad.add j) = some u) (h1 : ∀ u ∈ cells,u.oneCell' = true) (hn : n * 32 ≤ 140737488355328) :
  Calls Try.prog 32 #[.slice (some ad) n c] w fun e w' => ∃ v',e = .returned v' ∧ w'.ownsRow w.heap.size 45 2 v' n cells ∧ Below w.heap.size w w':=by
 obtain ⟨i0,hi,hz0,hz1,hz2⟩:=rows_clone.info_ info45;have hu:=Try.underlying30;(have q : ∀ (w : World) (a : Option Addr) (n c n' c' : Nat),(binOp .eql 30 (.slice a n c) (.slice none n' c')).run Try.prog w = .ok (.bool a.isNone) w:=fun w a n c n' c' => Lib.run_eql_slice_nil w _ _ a n c n' c' hu);have u : ∀ w,Sem.run Try.prog (underlying 30) w = .ok (TypeDesc.slice 45) w:=run_underlying hu;have HL:=am hl;have HC:=am hc;have H1:=am h1;have HN:=am hn;clear hl hc h1 hn;(go_enter Try.func32,Try.ntmps32);(go_wp2_with (at_builtin;refine wpList_append_own _ rfl _ _ 30 rfl w.heap.size 45 i0 (.agg #[(.slice none 0 0),(.int .i64 0)]) 2 32 hu hi hz0 hz1 hz2 rfl (by decide) _ _ _ rfl (World.ownsRow_made w #[] 0 (Nat.le_refl _) (Nat.zero_le _) rfl) ad n c cells rfl ?qc1 ?qc2 ?qc3 ?qc4 ?qc5 ?qc6 ?_));(case qc1 => exact HL.out);(case qc2 => intro j u hj;exact Lib.cell?_alloc_some _ (HC.out j u hj));(case qc3 => exact H1.out);(case qc4 => have:=HN.out;unfold maxLen;omega);(case qc5 => have:=HN.out;omega);(case qc6 => simp);intro v' w1 hown hgrow hnil;(go_wp2);(go_ret);(refine ⟨v',rfl,by simpa using hown,?_⟩);(exact ((Below.refl _ w).alloc (Nat.le_refl _) _).grown hgrow (by simp) (by intro k hk;simp [Value.ownBlock] at hk;omega))
set_option maxHeartbeats 4000000 in
set_option maxRecDepth 100000 in
theorem rows_clone.none45_ (n c : Nat) (w : World) : Calls Try.prog 32 #[.slice none n c] w fun e w' => e = .returned (.slice none 0 0) ∧ w' = w:=by
 have hu:=Try.underlying30;(have q : ∀ (w : World) (a : Option Addr) (n c n' c' : Nat),(binOp .eql 30 (.slice a n c) (.slice none n' c')).run Try.prog w = .ok (.bool a.isNone) w:=fun w a n c n' c' => Lib.run_eql_slice_nil w _ _ a n c n' c' hu);(go_enter Try.func32,Try.ntmps32);(go_wp2);(go_ret);exact ⟨rfl,rfl⟩
/-- A row is cloned: its cells, one by one; what they lead to is shared. -/
theorem rows_clone.c45_ {α : Type} (D : Kd α) (hs : D.sz = 2) (A : Option Addr) (c : Nat) (l : List α) (w0 w : World) (hr : Kd.C D w0 A l.length l) (hB : Below w0.heap.size w0 w) (hn : l.length * 32 ≤ 140737488355328) :
  Calls Try.prog 32 #[.slice A l.length c] w fun e w' => ∃ v' cells,e = .returned v' ∧ w'.ownsRow w.heap.size 45 2 v' l.length cells ∧ Reps (D.K w0) 2 l cells ∧ Below w.heap.size w w':=by
 cases A with
 | none =>
  have h0 : l = []:=by
   rcases Nat.eq_zero_or_pos l.length with h0 | h0
   ·exact List.eq_nil_of_length_eq_zero h0
   ·obtain ⟨ad,e,_⟩:=hr.2.2 h0;cases e
  subst h0;(refine (rows_clone.none45_ _ c w).mono ?_);(rintro e w' ⟨rfl,rfl⟩);exact ⟨_,[],rfl,own_nil _ _ _ _,Reps.none _ _,Below.refl _ _⟩
 | some ad =>
  (have hr2 : ReadsRow (D.K w0) 2 w0 (some ad) l.length l:=by have:=hr;unfold Kd.C at this;rwa [hs] at this);obtain ⟨cells,hre,hc⟩:=ReadsRow.inner_ hr2;(refine (rows_clone.some45_ ad l.length c cells w hre.1 (fun j u hj => pw_cell_below hB (hc j u hj)) ?_ hn).mono ?_)
  ·exact rows_clone.one_ hre (by omega)
  ·(rintro e w' ⟨v',rfl,ho,hb⟩);exact ⟨v',cells,rfl,ho,hre,hb⟩
set_option maxHeartbeats 4000000 in
set_option maxRecDepth 100000 in
theorem rows_clone.some42_ (ad : Addr) (n c : Nat) (cells : List Value) (w : World) (hl : cells.length = n * 7) (hc : ∀ j u,cells[j]? = some u → w.cell? (ad.add j) = some u) (h1 : ∀ u ∈ cells,u.oneCell' = true) (hn : n * 72 ≤ 140737488355328) :
  Calls Try.prog 33 #[.slice (some ad) n c] w fun e w' => ∃ v',e = .returned v' ∧ w'.ownsRow w.heap.size 42 7 v' n cells ∧ Below w.heap.size w w':=by
 obtain ⟨i0,hi,hz0,hz1,hz2⟩:=rows_clone.info_ info42;have hu:=Try.underlying31;(have q : ∀ (w : World) (a : Option Addr) (n c n' c' : Nat),(binOp .eql 31 (.slice a n c) (.slice none n' c')).run Try.prog w = .ok (.bool a.isNone) w:=fun w a n c n' c' => Lib.run_eql_slice_nil w _ _ a n c n' c' hu);have u : ∀ w,Sem.run Try.prog (underlying 31) w = .ok (TypeDesc.slice 42) w:=run_underlying hu;have HL:=am hl;have HC:=am hc;have H1:=am h1;have HN:=am hn;clear hl hc h1 hn;(go_enter Try.func33,Try.ntmps33);(go_wp2_with (at_builtin;refine wpList_append_own _ rfl _ _ 31 rfl w.heap.size 42 i0 (.agg #[(.int .i64 0),(.int .i64 0),(.int .i64 0),(.int .i64 0),(.int .i64 0),(.slice none 0 0),(.float .f64 0)]) 7 72 hu hi hz0 hz1 hz2 rfl (by decide) _ _ _ rfl (World.ownsRow_made w #[] 0 (Nat.le_refl _) (Nat.zero_le _) rfl) ad n c cells rfl ?qc1 ?qc2 ?qc3 ?qc4 ?qc5 ?qc6 ?_));(case qc1 => exact HL.out);(case qc2 => intro j u hj;exact Lib.cell?_alloc_some _ (HC.out j u hj));(case qc3 => exact H1.out);(case qc4 => have:=HN.out;unfold maxLen;omega);(case qc5 => have:=HN.out;omega);(case qc6 => simp);intro v' w1 hown hgrow hnil;(go_wp2);(go_ret);(refine ⟨v',rfl,by simpa using hown,?_⟩);(exact ((Below.refl _ w).alloc (Nat.le_refl _) _).grown hgrow (by simp) (by intro k hk;simp [Value.ownBlock] at hk;omega))
set_option maxHeartbeats 4000000 in
set_option maxRecDepth 100000 in
theorem rows_clone.none42_ (n c : Nat) (w : World) : Calls Try.prog 33 #[.slice none n c] w fun e w' => e = .returned (.slice none 0 0) ∧ w' = w:=by
 have hu:=Try.underlying31;(have q : ∀ (w : World) (a : Option Addr) (n c n' c' : Nat),(binOp .eql 31 (.slice a n c) (.slice none n' c')).run Try.prog w = .ok (.bool a.isNone) w:=fun w a n c n' c' => Lib.run_eql_slice_nil w _ _ a n c n' c' hu);(go_enter Try.func33,Try.ntmps33);(go_wp2);(go_ret);exact ⟨rfl,rfl⟩
/-- A row is cloned: its cells, one by one; what they lead to is shared. -/
theorem rows_clone.c42_ {α : Type} (D : Kd α) (hs : D.sz = 7) (A : Option Addr) (c : Nat) (l : List α) (w0 w : World) (hr : Kd.C D w0 A l.length l) (hB : Below w0.heap.size w0 w) (hn : l.length * 72 ≤ 140737488355328) :
  Calls Try.prog 33 #[.slice A l.length c] w fun e w' => ∃ v' cells,e = .returned v' ∧ w'.ownsRow w.heap.size 42 7 v' l.length cells ∧ Reps (D.K w0) 7 l cells ∧ Below w.heap.size w w':=by
 cases A with
 | none =>
  have h0 : l = []:=by
   rcases Nat.eq_zero_or_pos l.length with h0 | h0
   ·exact List.eq_nil_of_length_eq_zero h0
   ·obtain ⟨ad,e,_⟩:=hr.2.2 h0;cases e
  subst h0;(refine (rows_clone.none42_ _ c w).mono ?_);(rintro e w' ⟨rfl,rfl⟩);exact ⟨_,[],rfl,own_nil _ _ _ _,Reps.none _ _,Below.refl _ _⟩
 | some ad =>
  (have hr2 : ReadsRow (D.K w0) 7 w0 (some ad) l.length l:=by have:=hr;unfold Kd.C at this;rwa [hs] at this);obtain ⟨cells,hre,hc⟩:=ReadsRow.inner_ hr2;(refine (rows_clone.some42_ ad l.length c cells w hre.1 (fun j u hj => pw_cell_below hB (hc j u hj)) ?_ hn).mono ?_)
  ·exact rows_clone.one_ hre (by omega)
  ·(rintro e w' ⟨v',rfl,ho,hb⟩);exact ⟨v',cells,rfl,ho,hre,hb⟩
/-- A struct with one slice of numbers in it. -/
structure RowK (α : Type) where
 d : Kd α
 fld : α → List Int
 enc : α → Value → List Value
 p : Nat
 hp : ∀ x s,(enc x s)[p]? = some s
 hlen : ∀ x s,(enc x s).length = d.sz
 hset : ∀ x s s',(enc x s).set p s' = enc x s'
 hK : ∀ {w x cs},d.K w x cs → ∃ A c,cs = enc x (.slice A (fld x).length c) ∧ (fld x).length ≤ c ∧ (Kd.int .i64).C w A (fld x).length (fld x)
 hM : ∀ {w base ok x v},(Kd.int .i64).R 3 w base ok v (fld x) → d.M w base ok x (enc x v)
theorem RowK.hlt {α : Type} (D : RowK α) (x : α) : D.p < D.d.sz:=by
 have:=(List.getElem?_eq_some_iff.1 (D.hp x (.slice none 0 0))).1
 rwa [D.hlen] at this
/-- The cloned row behind i rounds: the first i elements' rows are the clone's own. -/
def ClV {α : Type} (D : RowK α) (e : Nat) (w0 W : World) (v : Value) (lo i : Nat) (l : List α) (f : Nat → Nat) : Prop :=
 (v = .slice none 0 0 ∧ l = []) ∨ ∃ g cap cur,v = .slice (some ⟨g,0,none⟩) l.length cap ∧ w0.heap.size ≤ g ∧ W.heap[g]? = some (.cells cur e (0,0)) ∧ l.length ≤ cap ∧ cap ≤ maxLen ∧ cur.size = cap * D.d.sz ∧
  ∀ j x,l[j]? = some x → ∃ A c,(cur.toList.drop (j * D.d.sz)).take D.d.sz = D.enc x (.slice A (D.fld x).length c) ∧ (D.fld x).length ≤ c ∧ (i ≤ j → (Kd.int .i64).C w0 A (D.fld x).length (D.fld x)) ∧ (j < i → (Kd.int .i64).R 3 W w0.heap.size (fun k => k ≠ g ∧ f k = j ∧ lo ≤ k) (.slice A (D.fld x).length c) (D.fld x))
section
variable {α : Type} {D : RowK α} {e : Nat} {w0 W W1 : World} {v : Value} {lo i : Nat} {l : List α} {f : Nat → Nat}
theorem ClV.start {cells : List Value} (ho : W.ownsRow w0.heap.size e D.d.sz v l.length cells) (hr : Reps (D.d.K w0) D.d.sz l cells) (f : Nat → Nat) : ClV D e w0 W v lo 0 l f:=by
 rcases ho.2 with ⟨h1,h2⟩ | ⟨g,cap,cur,h1,h2,h3,h4,h5,h6,h7⟩
 ·exact .inl ⟨h1,List.eq_nil_of_length_eq_zero h2⟩
 ·(refine .inr ⟨g,cap,cur,h1,h2,h3,h4,h5,h6,fun j x hx => ?_⟩);have hj : j < l.length:=(List.getElem?_eq_some_iff.1 hx).1;obtain ⟨A,c,e1,e2,e3⟩:=D.hK (hr.2 j x hx);(refine ⟨A,c,?_,e2,fun _ => e3,fun h => absurd h (by omega)⟩);rw [← e1,← h7,List.drop_take,List.take_take];(have : j * D.d.sz + D.d.sz ≤ l.length * D.d.sz:=by rw [← Nat.succ_mul];exact Nat.mul_le_mul_right _ hj);(rw [Nat.min_eq_left (by omega)])
theorem ClV.below (h : ClV D e w0 W v lo i l f) (hb : Below W.heap.size W W1) : ClV D e w0 W1 v lo i l f:=by
 rcases h with h | ⟨g,cap,cur,h1,h2,h3,h4,h5,h6,h7⟩
 ·exact .inl h
 ·(refine .inr ⟨g,cap,cur,h1,h2,(hb.block g (blk_lt h3)).trans h3,h4,h5,h6,fun j x hx => ?_⟩);obtain ⟨A,c,e1,e2,e3,e4⟩:=h7 j x hx;(exact ⟨A,c,e1,e2,e3,fun hj => Kd.R_below (e4 hj) hb⟩)
/-- A store into another block. -/
theorem ClV.far {b t q : Nat} {cs : Array Value} {z : Value} (h : ClV D e w0 W v lo i l f) (hb : W.heap[b]? = some (.cells cs t (0,0))) (he : e ≠ t) (h3 : 3 ≠ t) : ClV D e w0 (W.setCell ⟨b,q,none⟩ z) v lo i l f:=by
 rcases h with h | ⟨g,cap,cur,h1,h2,h3',h4,h5,h6,h7⟩
 ·exact .inl h
 ·have hn : g ≠ b:=by
   (rintro rfl);rw [h3'] at hb;(injection hb with hb);(injection hb with _ hb);exact he hb
  (refine .inr ⟨g,cap,cur,h1,h2,by rw [Below.heap_setCell W ⟨b,q,none⟩ z g hn];exact h3',h4,h5,h6,fun j x hx => ?_⟩);obtain ⟨A,c,e1,e2,e3,e4⟩:=h7 j x hx;(exact ⟨A,c,e1,e2,e3,fun hj => Kd.R_set (e4 hj) hb (by intro q hq;simp [Kd.int,Kd.scalar] at hq;rw [hq];exact h3) _ _⟩)
theorem ClV.slice (h : ClV D e w0 W v lo i l f) : ∃ A c,v = .slice A l.length c ∧ l.length ≤ c:=by
 rcases h with ⟨rfl,rfl⟩ | ⟨g,cap,cur,h1,h2,h3,h4,h5,h6,h7⟩
 ·exact ⟨none,0,rfl,Nat.le_refl _⟩
 ·exact ⟨_,_,h1,h4⟩
theorem ClV.at (h : ClV D e w0 W v lo i l f) {x : α} (hx : l[i]? = some x) : ∃ g cap A c,v = .slice (some ⟨g,0,none⟩) l.length cap ∧ w0.heap.size ≤ g ∧ (∃ cs,W.heap[g]? = some (.cells cs e (0,0))) ∧ W.cell? ⟨g,i * D.d.sz + D.p,none⟩ = some (.slice A (D.fld x).length c) ∧ W.frozen? ⟨g,i * D.d.sz + D.p,none⟩ = false ∧ (D.fld x).length ≤ c ∧ (Kd.int .i64).C w0 A (D.fld x).length (D.fld x):=by
 rcases h with ⟨rfl,rfl⟩ | ⟨g,cap,cur,h1,h2,h3,h4,h5,h6,h7⟩
 ·simp at hx
 ·obtain ⟨A,c,e1,e2,e3,e4⟩:=h7 i x hx;(refine ⟨g,cap,A,c,h1,h2,⟨_,h3⟩,?_,by simp [World.frozen?,h3],e2,e3 (Nat.le_refl _)⟩);have hq:=D.hp x (.slice A (D.fld x).length c);rw [← e1,List.getElem?_take,if_pos (D.hlt x),List.getElem?_drop] at hq;simp only [World.cell?,h3];rw [← Array.getElem?_toList];(simpa using hq)
theorem ClV.put (h : ClV D e w0 W v lo i l f) {x : α} (hx : l[i]? = some x) {g cap : Nat} (hv : v = .slice (some ⟨g,0,none⟩) l.length cap) (hB : Below W.heap.size W W1) {u : Value} (hu : (Kd.int .i64).R 3 W1 W.heap.size (fun _ => True) u (D.fld x)) (hlo : lo ≤ W.heap.size) (hw : w0.heap.size ≤ W.heap.size) (he : 3 ≠ e) :
  ClV D e w0 (W1.setCell ⟨g,i * D.d.sz + D.p,none⟩ u) v lo (i + 1) l (fun k => if W.heap.size ≤ k then i else f k):=by
 rcases h with ⟨rfl,rfl⟩ | ⟨g',cap',cur,h1,h2,h3,h4,h5,h6,h7⟩
 ·simp at hx
 ·(have hg : g' = g ∧ cap' = cap:=by rw [h1] at hv;injection hv with a b c;injection a with a;injection a with a;exact ⟨a,c⟩);obtain ⟨rfl,rfl⟩:=hg;have hgl:=blk_lt h3;have h3' : W1.heap[g']? = some (.cells cur e (0,0)):=(hB.block g' hgl).trans h3;have hi : i < l.length:=(List.getElem?_eq_some_iff.1 hx).1;have hpl:=D.hlt x;(have hil : i * D.d.sz + D.d.sz ≤ l.length * D.d.sz:=by rw [← Nat.succ_mul];exact Nat.mul_le_mul_right _ hi);have hcl : l.length * D.d.sz ≤ cap' * D.d.sz:=Nat.mul_le_mul_right _ h4;(have hne : ∀ q,q ∈ 3 :: (Kd.int .i64).E → q ≠ e:=by intro q hq;simp [Kd.int,Kd.scalar] at hq;rw [hq];exact he);(refine .inr ⟨g',cap',cur.setIfInBounds (i * D.d.sz + D.p) u,h1,h2,by simp only [World.setCell,Array.getElem?_modify,h3'];simp,h4,h5,by rw [Array.size_setIfInBounds];exact h6,fun j y hy => ?_⟩);obtain ⟨A,c,e1,e2,e3,e4⟩:=h7 j y hy;have hj : j < l.length:=(List.getElem?_eq_some_iff.1 hy).1;(by_cases hji : j = i)
  ·subst hji;obtain rfl : x = y:=Option.some.inj (hx.symm.trans hy);obtain ⟨A',c',rfl,hlc,_⟩:=Kd.R_reads hu;(refine ⟨A',c',?_,hlc,fun h => absurd h (by omega),fun _ => ?_⟩)
   ·rw [← D.hset x (.slice A (D.fld x).length c) _,← e1,Array.toList_setIfInBounds];(apply List.ext_getElem?);intro m;rw [List.getElem?_take,List.getElem?_set,List.getElem?_take,List.getElem?_drop,List.getElem?_drop,List.getElem?_set,List.length_take,List.length_drop,Array.length_toList];(by_cases hm : m < D.d.sz)
    ·rw [if_pos hm,if_pos hm];(by_cases hmp : D.p = m)
     ·subst hmp;(rw [if_pos rfl,if_pos rfl,if_pos (by omega),if_pos (by omega)])
     ·rw [if_neg (by omega),if_neg hmp]
    ·rw [if_neg hm,if_neg (by omega),if_neg hm]
   ·(refine Kd.R_mono (Kd.R_set (Kd.R_lower (Kd.R_bound hu) hw) h3' hne _ _) (fun k hk => ?_));have hk1 : W.heap.size ≤ k:=hk.2.1;(refine ⟨by omega,if_pos hk1,by omega⟩)
  ·refine ⟨A,c,?_,e2,fun h => e3 (by omega),fun h => ?_⟩
   ·rw [← e1,Array.toList_setIfInBounds];(apply List.ext_getElem?);intro m;rw [List.getElem?_take,List.getElem?_take,List.getElem?_drop,List.getElem?_drop,List.getElem?_set];(by_cases hm : m < D.d.sz)
    ·rw [if_pos hm,if_pos hm,if_neg];intro hq;(rcases Nat.lt_or_gt_of_ne hji with hlt | hlt)
     ·(have : j * D.d.sz + D.d.sz ≤ i * D.d.sz:=by rw [← Nat.succ_mul];exact Nat.mul_le_mul_right _ hlt);(omega)
     ·(have : i * D.d.sz + D.d.sz ≤ j * D.d.sz:=by rw [← Nat.succ_mul];exact Nat.mul_le_mul_right _ hlt);(omega)
    ·rw [if_neg hm,if_neg hm]
   ·(refine Kd.R_set (Kd.R_mono (Kd.R_below (Kd.R_bound (e4 (by omega))) hB) (fun k hk => ?_)) h3' hne _ _);have hk1 : k < W.heap.size:=hk.2.2.1;(exact ⟨hk.1.1,(if_neg (by omega)).trans hk.1.2.1,hk.1.2.2⟩)
theorem ClV.done (h : ClV D e w0 W v lo l.length l f) {ok : Nat → Prop} (h1 : ∀ k,lo ≤ k → ok k) (h2 : ∀ k,v.ownBlock = some k → ok k) : Kd.S D.d e W w0.heap.size ok v l:=by
 rcases h with ⟨rfl,rfl⟩ | ⟨g,cap,cur,hv,hb,hh,hc,hm,hs,hrow⟩
 ·exact Kd.S_nil _ _ _ _ _
 ·(have hcs : cur.toList.length = cap * D.d.sz:=by rw [Array.length_toList];exact hs);(refine ⟨f,h2,cur.toList.take (l.length * D.d.sz),?_,?_,fun j p hp => ?_⟩)
  ·(refine ⟨?_,.inr ⟨g,cap,cur,by rw [List.length_zipIdx];exact hv,hb,hh,by rw [List.length_zipIdx];exact hc,hm,hs,by rw [List.length_zipIdx];rfl⟩⟩);rw [List.length_take,hcs,List.length_zipIdx];exact Nat.min_eq_left (Nat.mul_le_mul_right _ hc)
  ·rw [List.length_take,hcs,List.length_zipIdx];exact Nat.min_eq_left (Nat.mul_le_mul_right _ hc)
  ·obtain ⟨x,j'⟩:=p
   have hpj : l[j]? = some x ∧ j' = j:=by
    rw [List.getElem?_zipIdx] at hp
    cases hl : l[j]? with
    | none => rw [hl] at hp;cases hp
    | some y => rw [hl] at hp;simp at hp;exact ⟨by rw [hp.1],by omega⟩
   obtain ⟨hx,rfl⟩:=hpj;obtain ⟨A,c,e1,e2,e3,e4⟩:=hrow j' x hx;have hj : j' < l.length:=(List.getElem?_eq_some_iff.1 hx).1;(have : j' * D.d.sz + D.d.sz ≤ l.length * D.d.sz:=by rw [← Nat.succ_mul];exact Nat.mul_le_mul_right _ hj);(show D.d.M W w0.heap.size _ x _)
   have e5 : ((cur.toList.take (l.length * D.d.sz)).drop (j' * D.d.sz)).take D.d.sz = D.enc x (.slice A (D.fld x).length c):=by
    rw [List.drop_take,List.take_take,Nat.min_eq_left (by omega)];exact e1
   have hsz : (Kd.tag f D.d).sz = D.d.sz:=rfl;rw [hsz,e5];(refine D.hM (Kd.R_mono (e4 hj) (fun k hk => ⟨⟨h1 k hk.2.2,fun he => ?_⟩,hk.2.1⟩)));rw [hv] at he;(simp [Value.ownBlock] at he);exact hk.1 he
end
def rk45 : RowK S45 where
 d:=k45
 fld:=S45.f0
 enc:=fun x s => [s,.int .i64 x.f1]
 p:=0
 hp:=fun _ _ => rfl
 hlen:=fun _ _ => rfl
 hset:=fun _ _ _ => rfl
 hK:=fun h => k45_open h
 hM:=fun h => ⟨[_],[_],rfl,⟨_,rfl,h⟩,rfl⟩
def rk42 : RowK S42 where
 d:=k42
 fld:=S42.f5
 enc:=fun x s => [.int .i64 x.f0,.int .i64 x.f1,.int .i64 x.f2,.int .i64 x.f3,.int .i64 x.f4,s,.float .f64 x.f6]
 p:=5
 hp:=fun _ _ => rfl
 hlen:=fun _ _ => rfl
 hset:=fun _ _ _ => rfl
 hK:=fun h => k42_open h
 hM:=fun h => ⟨[_],_,rfl,rfl,[_],_,rfl,rfl,[_],_,rfl,rfl,[_],_,rfl,rfl,[_],_,rfl,rfl,[_],[_],rfl,⟨_,rfl,h⟩,rfl⟩
def bp_ (a0 a1 a2 : Int) (v3 v4 v5 : Value) : Obj:=.cells #[.int .i64 a0,.int .i64 a1,.int .i64 a2,v3,v4,v5] 33 (0,0)
theorem bp_at_ {a0 a1 a2 : Int} {v3 v4 v5 : Value} {g : Nat} {W : World} (h : W.heap[g]? = some (bp_ a0 a1 a2 v3 v4 v5)) : (W.cell? ⟨g,3,none⟩ = some v3 ∧ W.cell? ⟨g,4,none⟩ = some v4 ∧ W.cell? ⟨g,5,none⟩ = some v5) ∧ W.frozen? ⟨g,3,none⟩ = false ∧ W.frozen? ⟨g,4,none⟩ = false ∧ W.frozen? ⟨g,5,none⟩ = false:=by
 unfold bp_ at h;(refine ⟨⟨funcs_same.cell_ h rfl,funcs_same.cell_ h rfl,funcs_same.cell_ h rfl⟩,?_,?_,?_⟩ <;> simp [World.frozen?,h])
theorem bp_set3_ {a0 a1 a2 : Int} {v3 v4 v5 u : Value} {g : Nat} {W : World} (h : W.heap[g]? = some (bp_ a0 a1 a2 v3 v4 v5)) : (W.setCell ⟨g,3,none⟩ u).heap[g]? = some (bp_ a0 a1 a2 u v4 v5):=by simp only [World.setCell,Array.getElem?_modify,h];simp [bp_]
theorem bp_set4_ {a0 a1 a2 : Int} {v3 v4 v5 u : Value} {g : Nat} {W : World} (h : W.heap[g]? = some (bp_ a0 a1 a2 v3 v4 v5)) : (W.setCell ⟨g,4,none⟩ u).heap[g]? = some (bp_ a0 a1 a2 v3 u v5):=by simp only [World.setCell,Array.getElem?_modify,h];simp [bp_]
theorem bp_set5_ {a0 a1 a2 : Int} {v3 v4 v5 u : Value} {g : Nat} {W : World} (h : W.heap[g]? = some (bp_ a0 a1 a2 v3 v4 v5)) : (W.setCell ⟨g,5,none⟩ u).heap[g]? = some (bp_ a0 a1 a2 v3 v4 u):=by simp only [World.setCell,Array.getElem?_modify,h];simp [bp_]
theorem bp_far_ {b g j : Nat} {u : Value} {o : Option Obj} {W : World} (h : W.heap[b]? = o) (hn : b ≠ g) : (W.setCell ⟨g,j,none⟩ u).heap[b]? = o:=by rw [Below.heap_setCell W ⟨g,j,none⟩ u b hn];exact h
theorem ne33_ : ∀ q,q ∈ 3 :: (Kd.int .i64).E → q ≠ 33:=by intro q hq;simp [Kd.int,Kd.scalar] at hq;omega
/-- What stands behind the three clones. -/
def Cl1_ (w : World) (gp gq : Nat) (a0 a1 a2 : Int) (l3 : List S45) (l4 : List Int) (l5 : List S42) (W : World) : Prop :=
 ∃ v3 v4 v5,W.heap[gp]? = some (bp_ a0 a1 a2 v3 v4 v5) ∧ W.heap[gq]? = some (bp_ 0 0 0 (.slice none 0 0) (.slice none 0 0) (.slice none 0 0)) ∧ (Kd.int .i64).R 3 W w.heap.size (fun _ => True) v4 l4 ∧ (∀ lo,ClV rk45 45 w W v3 lo 0 l3 (fun _ => 0)) ∧ (∀ lo,ClV rk42 42 w W v5 lo 0 l5 (fun _ => 0)) ∧ Below w.heap.size w W
theorem Cl1_.stored {w W : World} {gp gq : Nat} {a0 a1 a2 : Int} {l3 : List S45} {l4 : List Int} {l5 : List S42} {u3 u4 u5 v3 v4 v5 : Value} (hp : W.heap[gp]? = some (bp_ a0 a1 a2 u3 u4 u5)) (hq : W.heap[gq]? = some (bp_ 0 0 0 (.slice none 0 0) (.slice none 0 0) (.slice none 0 0))) (hpq : gp ≠ gq) (hg : w.heap.size ≤ gp) (h4 : (Kd.int .i64).R 3 W w.heap.size (fun _ => True) v4 l4) (h3 : ∀ lo,ClV rk45 45 w W v3 lo 0 l3 (fun _ => 0)) (h5 : ∀ lo,ClV rk42 42 w W v5 lo 0 l5 (fun _ => 0)) (hB : Below w.heap.size w W) :
  Cl1_ w gp gq a0 a1 a2 l3 l4 l5 (((W.setCell ⟨gp,4,none⟩ v4).setCell ⟨gp,3,none⟩ v3).setCell ⟨gp,5,none⟩ v5):=by
 have p1:=bp_set4_ (u:=v4) hp;have p2:=bp_set3_ (u:=v3) p1;have p3:=bp_set5_ (u:=v5) p2;unfold bp_ at hp p1 p2;(refine ⟨v3,v4,v5,p3,bp_far_ (bp_far_ (bp_far_ hq hpq.symm) hpq.symm) hpq.symm,Kd.R_set (Kd.R_set (Kd.R_set h4 hp ne33_ _ _) p1 ne33_ _ _) p2 ne33_ _ _,fun lo => (((h3 lo).far hp (by decide) (by decide)).far p1 (by decide) (by decide)).far p2 (by decide) (by decide),fun lo => (((h5 lo).far hp (by decide) (by decide)).far p1 (by decide) (by decide)).far p2 (by decide) (by decide),((hB.setCell (p:=⟨gp,4,none⟩) hg _).setCell (p:=⟨gp,3,none⟩) hg _).setCell (p:=⟨gp,5,none⟩) hg _⟩)
/-- In the first loop, behind i rounds. -/
def Cl2_ (w : World) (gp gq : Nat) (a0 a1 a2 : Int) (l3 : List S45) (l4 : List Int) (l5 : List S42) (v3 v4 v5 : Value) (lo i : Nat) (W : World) : Prop :=
 ∃ f,W.heap[gp]? = some (bp_ a0 a1 a2 v3 v4 v5) ∧ W.heap[gq]? = some (bp_ 0 0 0 (.slice none 0 0) (.slice none 0 0) (.slice none 0 0)) ∧ (Kd.int .i64).R 3 W w.heap.size (fun _ => True) v4 l4 ∧ ClV rk45 45 w W v3 lo i l3 f ∧ ClV rk42 42 w W v5 lo 0 l5 (fun _ => 0) ∧ Below w.heap.size w W ∧ lo ≤ W.heap.size
/-- In the second loop, behind i rounds. -/
def Cl3_ (w : World) (gp gq : Nat) (a0 a1 a2 : Int) (l3 : List S45) (l4 : List Int) (l5 : List S42) (v3 v4 v5 : Value) (lo i : Nat) (W : World) : Prop :=
 ∃ f,W.heap[gp]? = some (bp_ a0 a1 a2 v3 v4 v5) ∧ W.heap[gq]? = some (bp_ 0 0 0 (.slice none 0 0) (.slice none 0 0) (.slice none 0 0)) ∧ (Kd.int .i64).R 3 W w.heap.size (fun _ => True) v4 l4 ∧ Kd.S k45 45 W w.heap.size (fun k => lo ≤ k ∨ v3.ownBlock = some k) v3 l3 ∧ ClV rk42 42 w W v5 lo i l5 f ∧ Below w.heap.size w W ∧ lo ≤ W.heap.size
theorem nebp_ {W : World} {g t gp : Nat} {cs : Array Value} {a0 a1 a2 : Int} {v3 v4 v5 : Value} (h : W.heap[g]? = some (.cells cs t (0,0))) (hp : W.heap[gp]? = some (bp_ a0 a1 a2 v3 v4 v5)) (ht : t ≠ 33) : gp ≠ g:=by
 (rintro rfl);rw [h] at hp;unfold bp_ at hp;(injection hp with hp);(injection hp with _ hp);exact ht hp
theorem neq_ {t : Nat} (ht : 3 ≠ t) : ∀ q,q ∈ 3 :: (Kd.int .i64).E → q ≠ t:=by intro q hq;simp [Kd.int,Kd.scalar] at hq;omega
theorem Cl2_.below {w W W1 : World} {gp gq : Nat} {a0 a1 a2 : Int} {l3 : List S45} {l4 : List Int} {l5 : List S42} {v3 v4 v5 : Value} {lo i : Nat} (h : Cl2_ w gp gq a0 a1 a2 l3 l4 l5 v3 v4 v5 lo i W) (hb : Below W.heap.size W W1) : Cl2_ w gp gq a0 a1 a2 l3 l4 l5 v3 v4 v5 lo i W1:=by
 obtain ⟨f,h1,h2,h3,h4,h5,h6,h7⟩:=h;exact ⟨f,(hb.block _ (blk_lt h1)).trans h1,(hb.block _ (blk_lt h2)).trans h2,Kd.R_below h3 hb,h4.below hb,h5.below hb,below_step h6 hb,Nat.le_trans h7 hb.size⟩
theorem Cl2_.put {w W W1 : World} {gp gq : Nat} {a0 a1 a2 : Int} {l3 : List S45} {l4 : List Int} {l5 : List S42} {v3 v4 v5 : Value} {lo i : Nat} (h : Cl2_ w gp gq a0 a1 a2 l3 l4 l5 v3 v4 v5 lo i W) {x : S45} (hx : l3[i]? = some x) {g cap : Nat} (hv : v3 = .slice (some ⟨g,0,none⟩) l3.length cap) (hg : w.heap.size ≤ g) (hB : Below W.heap.size W W1) {u : Value} (hu : (Kd.int .i64).R 3 W1 W.heap.size (fun _ => True) u x.f0) :
  Cl2_ w gp gq a0 a1 a2 l3 l4 l5 v3 v4 v5 lo (i + 1) (W1.setCell ⟨g,i * 2,none⟩ u):=by
 obtain ⟨f,h1,h2,h3,h4,h5,h6,h7⟩:=h;(have hp:=h4.put hx hv hB hu h7 h6.size (by decide));obtain ⟨g',cap',A,c,hv',_,⟨cs,hcs⟩,_⟩:=h4.at hx;(obtain rfl : g' = g:=by rw [hv'] at hv;injection hv with a;injection a with a;injection a);have hcs1:=(hB.block _ (blk_lt hcs)).trans hcs;have k1:=(hB.block _ (blk_lt h1)).trans h1;have k2:=(hB.block _ (blk_lt h2)).trans h2;(exact ⟨_,bp_far_ k1 (nebp_ hcs1 k1 (by decide)),bp_far_ k2 (nebp_ hcs1 k2 (by decide)),Kd.R_set (Kd.R_below h3 hB) hcs1 (neq_ (by decide)) _ _,hp,(h5.below hB).far hcs1 (by decide) (by decide),(below_step h6 hB).setCell (p:=⟨g',i * 2,none⟩) hg _,Nat.le_trans h7 (Nat.le_trans hB.size (Nat.le_of_eq (by simp [World.setCell])))⟩)
theorem Cl2_.turn {w W : World} {gp gq : Nat} {a0 a1 a2 : Int} {l3 : List S45} {l4 : List Int} {l5 : List S42} {v3 v4 v5 : Value} {lo : Nat} (h : Cl2_ w gp gq a0 a1 a2 l3 l4 l5 v3 v4 v5 lo l3.length W) : Cl3_ w gp gq a0 a1 a2 l3 l4 l5 v3 v4 v5 lo 0 W:=by
 obtain ⟨f,h1,h2,h3,h4,h5,h6,h7⟩:=h;(exact ⟨_,h1,h2,h3,h4.done (fun k hk => .inl hk) (fun k hk => .inr hk),h5,h6,h7⟩)
theorem Cl3_.below {w W W1 : World} {gp gq : Nat} {a0 a1 a2 : Int} {l3 : List S45} {l4 : List Int} {l5 : List S42} {v3 v4 v5 : Value} {lo i : Nat} (h : Cl3_ w gp gq a0 a1 a2 l3 l4 l5 v3 v4 v5 lo i W) (hb : Below W.heap.size W W1) : Cl3_ w gp gq a0 a1 a2 l3 l4 l5 v3 v4 v5 lo i W1:=by
 obtain ⟨f,h1,h2,h3,h4,h5,h6,h7⟩:=h;exact ⟨f,(hb.block _ (blk_lt h1)).trans h1,(hb.block _ (blk_lt h2)).trans h2,Kd.R_below h3 hb,Kd.S_below h4 hb,h5.below hb,below_step h6 hb,Nat.le_trans h7 hb.size⟩
theorem Cl3_.put {w W W1 : World} {gp gq : Nat} {a0 a1 a2 : Int} {l3 : List S45} {l4 : List Int} {l5 : List S42} {v3 v4 v5 : Value} {lo i : Nat} (h : Cl3_ w gp gq a0 a1 a2 l3 l4 l5 v3 v4 v5 lo i W) {x : S42} (hx : l5[i]? = some x) {g cap : Nat} (hv : v5 = .slice (some ⟨g,0,none⟩) l5.length cap) (hg : w.heap.size ≤ g) (hB : Below W.heap.size W W1) {u : Value} (hu : (Kd.int .i64).R 3 W1 W.heap.size (fun _ => True) u x.f5) :
  Cl3_ w gp gq a0 a1 a2 l3 l4 l5 v3 v4 v5 lo (i + 1) (W1.setCell ⟨g,i * 7 + 5,none⟩ u):=by
 obtain ⟨f,h1,h2,h3,h4,h5,h6,h7⟩:=h;(have hp:=h5.put hx hv hB hu h7 h6.size (by decide));obtain ⟨g',cap',A,c,hv',_,⟨cs,hcs⟩,_⟩:=h5.at hx;(obtain rfl : g' = g:=by rw [hv'] at hv;injection hv with a;injection a with a;injection a);have hcs1:=(hB.block _ (blk_lt hcs)).trans hcs;have k1:=(hB.block _ (blk_lt h1)).trans h1;have k2:=(hB.block _ (blk_lt h2)).trans h2;(exact ⟨_,bp_far_ k1 (nebp_ hcs1 k1 (by decide)),bp_far_ k2 (nebp_ hcs1 k2 (by decide)),Kd.R_set (Kd.R_below h3 hB) hcs1 (neq_ (by decide)) _ _,Kd.S_set (Kd.S_below h4 hB) hcs1 (by intro q hq;have : q = 45 ∨ q = 3:=(by simpa [k45,Kd.iso,Kd.pair,Kd.slice,Kd.int,Kd.scalar] using hq);omega) _ _,hp,(below_step h6 hB).setCell (p:=⟨g',i * 7 + 5,none⟩) hg _,Nat.le_trans h7 (Nat.le_trans hB.size (Nat.le_of_eq (by simp [World.setCell])))⟩)
theorem Cl2_.look {w W : World} {gp gq : Nat} {a0 a1 a2 : Int} {l3 : List S45} {l4 : List Int} {l5 : List S42} {v3 v4 v5 : Value} {lo i : Nat} (h : Cl2_ w gp gq a0 a1 a2 l3 l4 l5 v3 v4 v5 lo i W) (hi : i < l3.length) :
  ∃ x g cap A c,l3[i]? = some x ∧ v3 = .slice (some ⟨g,0,none⟩) l3.length cap ∧ w.heap.size ≤ g ∧ (∃ cs,W.heap[g]? = some (.cells cs 45 (0,0))) ∧ W.cell? ⟨g,i * 2,none⟩ = some (.slice A x.f0.length c) ∧ W.frozen? ⟨g,i * 2,none⟩ = false ∧ x.f0.length ≤ c ∧ (Kd.int .i64).C w A x.f0.length x.f0 ∧ W.heap[gp]? = some (bp_ a0 a1 a2 v3 v4 v5) ∧ Below w.heap.size w W:=by
 obtain ⟨f,h1,h2,h3,h4,h5,h6,h7⟩:=h;obtain ⟨g,cap,A,c,e1,e2,e3,e4,e5,e6,e7⟩:=h4.at (List.getElem?_eq_getElem hi);exact ⟨_,g,cap,A,c,List.getElem?_eq_getElem hi,e1,e2,e3,e4,e5,e6,e7,h1,h6⟩
theorem Cl3_.look {w W : World} {gp gq : Nat} {a0 a1 a2 : Int} {l3 : List S45} {l4 : List Int} {l5 : List S42} {v3 v4 v5 : Value} {lo i : Nat} (h : Cl3_ w gp gq a0 a1 a2 l3 l4 l5 v3 v4 v5 lo i W) (hi : i < l5.length) :
  ∃ x g cap A c,l5[i]? = some x ∧ v5 = .slice (some ⟨g,0,none⟩) l5.length cap ∧ w.heap.size ≤ g ∧ (∃ cs,W.heap[g]? = some (.cells cs 42 (0,0))) ∧ W.cell? ⟨g,i * 7 + 5,none⟩ = some (.slice A x.f5.length c) ∧ W.frozen? ⟨g,i * 7 + 5,none⟩ = false ∧ x.f5.length ≤ c ∧ (Kd.int .i64).C w A x.f5.length x.f5 ∧ W.heap[gp]? = some (bp_ a0 a1 a2 v3 v4 v5) ∧ Below w.heap.size w W:=by
 obtain ⟨f,h1,h2,h3,h4,h5,h6,h7⟩:=h;obtain ⟨g,cap,A,c,e1,e2,e3,e4,e5,e6,e7⟩:=h5.at (List.getElem?_eq_getElem hi);exact ⟨_,g,cap,A,c,List.getElem?_eq_getElem hi,e1,e2,e3,e4,e5,e6,e7,h1,h6⟩
theorem frz_ {W : World} {g t j : Nat} {cs : Array Value} (h : W.heap[g]? = some (.cells cs t (0,0))) : W.frozen? ⟨g,j,none⟩ = false:=by simp [World.frozen?,h]
theorem clone31_ (w : World) (A : Option Addr) (n c : Nat) (xs : List Int) (hn : n = xs.length) (hC : (Kd.int .i64).C w A xs.length xs) (hc : xs.length ≤ c) (hm : xs.length ≤ 17592186044416) : ∀ W : World,Below w.heap.size w W → Calls Try.prog 31 #[.slice A n c] W fun e w' => ∃ A n c,e = .returned (.slice A n c) ∧ (Kd.int .i64).R 3 w' W.heap.size (fun _ => True) (.slice A n c) xs ∧ Below W.heap.size W w':=by
 intro W hW;rw [hn];(refine (slices_Clone_int_int.calls A c xs xs W (Kd.C_below hC hW) hc (if_pos hm)).mono ?_);(rintro e w4 ⟨v4,rfl,ho4,hb4⟩);obtain ⟨A,c,rfl⟩:=Kd.R_slice ho4;exact ⟨A,_,c,rfl,ho4,hb4⟩
/-- At the end. -/
def Cl4_ (w : World) (gq : Nat) (l3 : List S45) (l4 : List Int) (l5 : List S42) (v3 v4 v5 : Value) (W : World) : Prop :=
 (∃ cs,W.heap[gq]? = some (.cells cs 33 (0,0))) ∧ Kd.S k45 45 W w.heap.size (fun k => some k ≠ v4.ownBlock) v3 l3 ∧ (Kd.int .i64).R 3 W w.heap.size (fun _ => True) v4 l4 ∧ Kd.S k42 42 W w.heap.size (fun k => some k ≠ v4.ownBlock) v5 l5 ∧ Below w.heap.size w W
theorem Cl4_.set {w W : World} {gq j : Nat} {l3 : List S45} {l4 : List Int} {l5 : List S42} {v3 v4 v5 u : Value} (h : Cl4_ w gq l3 l4 l5 v3 v4 v5 W) (hg : w.heap.size ≤ gq) : Cl4_ w gq l3 l4 l5 v3 v4 v5 (W.setCell ⟨gq,j,none⟩ u):=by
 obtain ⟨⟨cs,h0⟩,h1,h2,h3,h4⟩:=h;(refine ⟨⟨cs.setIfInBounds j u,by simp only [World.setCell,Array.getElem?_modify,h0];simp⟩,Kd.S_set h1 h0 (by intro q hq;have : q = 45 ∨ q = 3:=(by simpa [k45,Kd.iso,Kd.pair,Kd.slice,Kd.int,Kd.scalar] using hq);omega) _ _,Kd.R_set h2 h0 ne33_ _ _,Kd.S_set h3 h0 (by intro q hq;have : q = 42 ∨ q = 3:=(by simpa [k42,Kd.iso,Kd.pair,Kd.slice,Kd.int,Kd.scalar,kFloat] using hq);omega) _ _,h4.setCell (p:=⟨gq,j,none⟩) hg _⟩)
theorem Cl3_.fin {w W : World} {gp gq : Nat} {a0 a1 a2 : Int} {l3 : List S45} {l4 : List Int} {l5 : List S42} {v3 v4 v5 : Value} {lo i : Nat} (h : Cl3_ w gp gq a0 a1 a2 l3 l4 l5 v3 v4 v5 lo i W) (hi : i = l5.length) (h4 : ∀ k,v4.ownBlock = some k → k < lo) : Cl4_ w gq l3 l4 l5 v3 v4 v5 W:=by
 subst hi;obtain ⟨f,k1,k2,k3,k4,k5,k6,k7⟩:=h
 have ne : ∀ {t : Nat} {k : Nat} {cs : Array Value},W.heap[k]? = some (.cells cs t (0,0)) → t ≠ 3 → some k ≠ v4.ownBlock:=by
  intro t k cs hc ht he;obtain ⟨cs',hc'⟩:=Kd.R_typed k3 k he.symm;rw [hc] at hc';(injection hc' with hc');(injection hc' with _ hc');exact ht hc'
 refine ⟨⟨_,k2⟩,Kd.S_mono (Kd.S_bound k4) (fun k hk he => ?_),k3,k5.done (fun k hk he => by have:=h4 k he.symm;omega) (fun k hk => ?_),k6⟩
 ·rcases hk.1 with hk1 | hk1
  ·have:=h4 k he.symm;omega
  ·obtain ⟨cs,hcs⟩:=Kd.S_typed k4 k hk1;(exact ne hcs (by decide) he)
 ·rcases k5 with ⟨rfl,_⟩ | ⟨g,cap,cur,rfl,hb,hh,_⟩
  ·simp [Value.ownBlock] at hk
  ·(simp [Value.ownBlock] at hk);subst hk;(exact ne hh (by decide))
theorem bp_all_ {a0 a1 a2 : Int} {v3 v4 v5 : Value} {g : Nat} {W : World} (h : W.heap[g]? = some (bp_ a0 a1 a2 v3 v4 v5)) : (W.cell? ⟨g,0,none⟩ = some (.int .i64 a0) ∧ W.cell? ⟨g,1,none⟩ = some (.int .i64 a1) ∧ W.cell? ⟨g,2,none⟩ = some (.int .i64 a2) ∧ W.cell? ⟨g,3,none⟩ = some v3 ∧ W.cell? ⟨g,4,none⟩ = some v4 ∧ W.cell? ⟨g,5,none⟩ = some v5) ∧ (W.frozen? ⟨g,0,none⟩ = false ∧ W.frozen? ⟨g,1,none⟩ = false ∧ W.frozen? ⟨g,2,none⟩ = false ∧ W.frozen? ⟨g,3,none⟩ = false ∧ W.frozen? ⟨g,4,none⟩ = false ∧ W.frozen? ⟨g,5,none⟩ = false):=by
 unfold bp_ at h;(refine ⟨⟨funcs_same.cell_ h rfl,funcs_same.cell_ h rfl,funcs_same.cell_ h rfl,funcs_same.cell_ h rfl,funcs_same.cell_ h rfl,funcs_same.cell_ h rfl⟩,?_,?_,?_,?_,?_,?_⟩ <;> simp [World.frozen?,h])
def program_Program_Clone.f (a0 a1 a2 : Int) (l3 : List S45) (l4 : List Int) (l5 : List S42) : Option (Int × Int × Int × List S45 × List Int × List S42) :=
 if l3.length * 32 ≤ 140737488355328 ∧ l4.length ≤ 17592186044416 ∧ l5.length * 72 ≤ 140737488355328 ∧ (l3.all fun x => decide (x.f0.length ≤ 17592186044416)) = true ∧ (l5.all fun x => decide (x.f5.length ≤ 17592186044416)) = true then some (a0,a1,a2,l3,l4,l5) else none
set_option maxHeartbeats 8000000 in
set_option maxRecDepth 100000 in
theorem program_Program_Clone.calls (a0_0 a0_1 a0_2 : Int) (A0_3 : Option Addr) (c0_3 : Nat) (l0_3 : List S45) (A0_4 : Option Addr) (c0_4 : Nat) (l0_4 : List Int) (A0_5 : Option Addr) (c0_5 : Nat) (l0_5 : List S42) (r1 r2 r3 : Int) (r4 : List S45) (r5 : List Int) (r6 : List S42) (w : World) (hr0_3 : Kd.C k45 w A0_3 l0_3.length l0_3) (hc0_3 : l0_3.length ≤ c0_3) (hr0_4 : Kd.C (Kd.int .i64) w A0_4 l0_4.length l0_4) (hc0_4 : l0_4.length ≤ c0_4) (hr0_5 : Kd.C k42 w A0_5 l0_5.length l0_5) (hc0_5 : l0_5.length ≤ c0_5) (h : program_Program_Clone.f a0_0 a0_1 a0_2 l0_3 l0_4 l0_5 = some (r1,r2,r3,r4,r5,r6)) :
  Calls Try.prog 13 #[.agg #[.int .i64 a0_0,.int .i64 a0_1,.int .i64 a0_2,.slice A0_3 l0_3.length c0_3,.slice A0_4 l0_4.length c0_4,.slice A0_5 l0_5.length c0_5]] w fun e w' => ∃ v3_ v4_ v5_ : Value,e = .returned (.agg #[.int .i64 r1,.int .i64 r2,.int .i64 r3,v3_,v4_,v5_]) ∧ Kd.S k45 45 w' w.heap.size (fun k_ => some k_ ≠ (v4_ : Value).ownBlock) v3_ r4 ∧ Kd.R (Kd.int .i64) 3 w' w.heap.size (fun _ => True) v4_ r5 ∧ Kd.S k42 42 w' w.heap.size (fun k_ => some k_ ≠ (v4_ : Value).ownBlock) v5_ r6 ∧ Below w.heap.size w w':=by
 unfold program_Program_Clone.f at h;(split at h);(case isFalse => cases h);(rename_i hbd);have h:=Option.some.inj h;(injection h with e1 h);(injection h with e2 h);(injection h with e3 h);(injection h with e4 h);(injection h with e5 e6);subst e1 e2 e3 e4 e5 e6;have HBD:=am hbd;have HR3:=am hr0_3;have HR4:=am hr0_4;have HR5:=am hr0_5;have HC4:=am hc0_4;have hu33:=Try.underlying33;obtain ⟨n3,hn3⟩ : ∃ n,n = l0_3.length:=⟨_,rfl⟩;obtain ⟨n4,hn4⟩ : ∃ n,n = l0_4.length:=⟨_,rfl⟩;obtain ⟨n5,hn5⟩ : ∃ n,n = l0_5.length:=⟨_,rfl⟩;rw [← hn3,← hn4,← hn5];have N3:=am hn3;have N4:=am hn4;have N5:=am hn5;clear hbd hr0_3 hr0_4 hr0_5 hc0_3 hc0_4 hc0_5 hn3 hn4 hn5
 have K31:=am (show ∀ W : World,Below w.heap.size w W → Calls Try.prog 31 #[.slice A0_4 n4 c0_4] W fun e w' => ∃ A n c,e = .returned (.slice A n c) ∧ (Kd.int .i64).R 3 w' w.heap.size (fun _ => True) (.slice A n c) l0_4 ∧ Below W.heap.size W w' from by
  intro W hW;rw [N4.out];(refine (slices_Clone_int_int.calls A0_4 c0_4 l0_4 l0_4 W (Kd.C_below HR4.out hW) HC4.out (if_pos HBD.out.2.1)).mono ?_);(rintro e w4 ⟨v4,rfl,ho4,hb4⟩);obtain ⟨A,c,rfl⟩:=Kd.R_slice ho4
  exact ⟨A,_,c,rfl,Kd.R_lower ho4 hW.size,hb4⟩)
 have K32:=am (show ∀ W : World,Below w.heap.size w W → Calls Try.prog 32 #[.slice A0_3 n3 c0_3] W fun e w' => ∃ A n c,e = .returned (.slice A n c) ∧ (∀ lo,ClV rk45 45 w w' (.slice A n c) lo 0 l0_3 (fun _ => 0)) ∧ Below W.heap.size W w' from by
  intro W hW;rw [N3.out];(refine (rows_clone.c45_ k45 rfl A0_3 c0_3 l0_3 w W HR3.out hW HBD.out.1).mono ?_);(rintro e w4 ⟨v4,cs,rfl,ho4,hre,hb4⟩);(have hc : ∀ lo,ClV rk45 45 w w4 v4 lo 0 l0_3 (fun _ => 0):=fun lo => ClV.start (own_weaken ho4 hW.size) hre _);obtain ⟨A,c,rfl,_⟩:=(hc 0).slice
  exact ⟨A,_,c,rfl,hc,hb4⟩)
 have K33:=am (show ∀ W : World,Below w.heap.size w W → Calls Try.prog 33 #[.slice A0_5 n5 c0_5] W fun e w' => ∃ A n c,e = .returned (.slice A n c) ∧ (∀ lo,ClV rk42 42 w w' (.slice A n c) lo 0 l0_5 (fun _ => 0)) ∧ Below W.heap.size W w' from by
  intro W hW;rw [N5.out];(refine (rows_clone.c42_ k42 rfl A0_5 c0_5 l0_5 w W HR5.out hW HBD.out.2.2.1).mono ?_);(rintro e w4 ⟨v4,cs,rfl,ho4,hre,hb4⟩);(have hc : ∀ lo,ClV rk42 42 w w4 v4 lo 0 l0_5 (fun _ => 0):=fun lo => ClV.start (own_weaken ho4 hW.size) hre _);obtain ⟨A,c,rfl,_⟩:=(hc 0).slice
  exact ⟨A,_,c,rfl,hc,hb4⟩)
 (go_enter Try.func13,Try.ntmps13);(go_upto_region 1 with fail);obtain ⟨wB,hwB⟩ : ∃ wB,wB = (w.alloc (.cells #[.int .i64 a0_0,.int .i64 a0_1,.int .i64 a0_2,.slice A0_3 n3 c0_3,.slice A0_4 n4 c0_4,.slice A0_5 n5 c0_5] 33)).alloc (.cells #[.int .i64 0,.int .i64 0,.int .i64 0,.slice none 0 0,.slice none 0 0,.slice none 0 0] 33):=⟨_,rfl⟩;obtain ⟨gp,hgp⟩ : ∃ g,g = w.heap.size:=⟨_,rfl⟩;obtain ⟨gq,hgq⟩ : ∃ g,g = w.heap.size + 1:=⟨_,rfl⟩;rw [← hwB,← hgq,← hgp];(have HB:=am (show Below w.heap.size w wB by rw [hwB];exact below_alloc (below_alloc (Below.refl _ _) _) _));(have hp0 : wB.heap[gp]? = some (bp_ a0_0 a0_1 a0_2 (.slice A0_3 n3 c0_3) (.slice A0_4 n4 c0_4) (.slice A0_5 n5 c0_5)):=by rw [hwB,hgp];exact blk_alloc (blk_new _ _) _);(have hq0 : wB.heap[gq]? = some (bp_ 0 0 0 (.slice none 0 0) (.slice none 0 0) (.slice none 0 0)):=by rw [hwB,hgq];exact funcs_same.new_ rfl (by rw [World.size_alloc]));have BKP:=am hp0;have BKQ:=am hq0;(have GP:=am (show w.heap.size ≤ gp by omega));(have GPQ:=am (show gp ≠ gq by omega));(have GQ:=am (show w.heap.size ≤ gq by omega));obtain ⟨⟨q3,q4,q5⟩,z3,z4,z5⟩:=bp_at_ hp0;clear hp0 hq0 hwB hgp hgq;(go_cut [] (fun wc => Cl1_ w gp gq a0_0 a0_1 a0_2 l0_3 l0_4 l0_5 wc))
 case first =>
  rename_i J_ K_ hJ_ hK_
  go_region_with (first
   | (go_at_call 31;refine (K31.out _ (by repeat (first | exact HB.out | apply below_alloc | apply pw_below_drewN | apply below_drew))).mono ?_;rintro e w4 ⟨A4,m4,d4,rfl,hR,hb⟩;have F4:=am hR;have B4:=am (below_step (by repeat (first | exact HB.out | apply below_alloc | apply pw_below_drewN | apply below_drew)) hb);have P4:=am ((hb.block gp (blk_lt BKP.out)).trans BKP.out);have Q4:=am ((hb.block gq (blk_lt BKQ.out)).trans BKQ.out);clear q3 q4 q5 z3 z4 z5;obtain ⟨⟨q3,q4,q5⟩,z3,z4,z5⟩:=bp_at_ P4.out;clear hb hR)
   | (go_at_call 32;refine (K32.out _ (by repeat (first | exact B4.out | apply below_alloc | apply pw_below_drewN | apply below_drew))).mono ?_;rintro e w5 ⟨A3,m3,d3,rfl,hR,hb⟩;have F3:=am hR;have B5:=am (below_step (by repeat (first | exact B4.out | apply below_alloc | apply pw_below_drewN | apply below_drew)) hb);have P5:=am ((hb.block gp (blk_lt P4.out)).trans P4.out);have Q5:=am ((hb.block gq (blk_lt Q4.out)).trans Q4.out);clear q3 q4 q5 z3 z4 z5;have F4:=am (Kd.R_below F4.out hb);obtain ⟨⟨q3,q4,q5⟩,z3,z4,z5⟩:=bp_at_ P5.out;clear hb hR)
   | (go_at_call 33;refine (K33.out _ (by repeat (first | exact B5.out | apply below_alloc | apply pw_below_drewN | apply below_drew))).mono ?_;rintro e w6 ⟨A5,m5,d5,rfl,hR,hb⟩;have F5:=am hR;have B6:=am (below_step (by repeat (first | exact B5.out | apply below_alloc | apply pw_below_drewN | apply below_drew)) hb);have P6:=am ((hb.block gp (blk_lt P5.out)).trans P5.out);have Q6:=am ((hb.block gq (blk_lt Q5.out)).trans Q5.out);clear q3 q4 q5 z3 z4 z5;have F4:=am (Kd.R_below F4.out hb);have F3:=am (fun lo => (F3.out lo).below hb);obtain ⟨⟨q3,q4,q5⟩,z3,z4,z5⟩:=bp_at_ P6.out;clear hb hR))
  all_goals (refine hK_ _ _ (Met.intro (hJ_ _ _ ?_));(repeat apply Exists.intro);refine ⟨?rel,rfl⟩;(case rel => exact Cl1_.stored P6.out Q6.out GPQ.out GP.out F4.out F3.out F5.out B6.out))
 obtain ⟨v3,v4,v5,hp,hq,h4,h3,h5,hB⟩:=hcut;clear BKP BKQ q3 q4 q5 z3 z4 z5 HB K31 K32 K33;(obtain ⟨A3,m3,d3,hv3,hm3⟩ : ∃ A n c,v3 = .slice A n c ∧ n = l0_3.length:=by obtain ⟨A,c,e,_⟩:=(h3 0).slice;exact ⟨A,_,c,e,rfl⟩);(obtain ⟨A5,m5,d5,hv5,hm5⟩ : ∃ A n c,v5 = .slice A n c ∧ n = l0_5.length:=by obtain ⟨A,c,e,_⟩:=(h5 0).slice;exact ⟨A,_,c,e,rfl⟩);subst hv3 hv5;have HI:=am (show Cl2_ w gp gq a0_0 a0_1 a0_2 l0_3 l0_4 l0_5 (.slice A3 m3 d3) v4 (.slice A5 m5 d5) wc.heap.size 0 wc from ⟨_,hp,hq,h4,h3 _,h5 _,hB,Nat.le_refl _⟩);(have H4:=am (show ∀ k,v4.ownBlock = some k → k < wc.heap.size from fun k hk => own_lt (Kd.own_of_R h4) k hk));obtain ⟨lo,hlo⟩ : ∃ lo,lo = wc.heap.size:=⟨_,rfl⟩;rw [← hlo] at HI H4;have M3:=am hm3;have M5:=am hm5;have hx3:=Kd.C_max HR3.out;have hx5:=Kd.C_max HR5.out;(have hm3b : m3 ≤ 9223372036854775807:=by omega);(have hm5b : m5 ≤ 9223372036854775807:=by omega);have X3:=am hm3b;have X5:=am hm5b;obtain ⟨⟨q3,q4,q5⟩,z3,z4,z5⟩:=bp_at_ hp;clear hp hq h4 h3 h5 hB hlo hm3 hm5 hx3 hx5 hm3b hm5b q4 q5 z3 z4 z5;(go_wp2_with fail);(go_loopg [20] m3 (fun kq v20 w' => ∃ i : Nat,v20 = .int .i64 (i : Int) ∧ i ≤ m3 ∧ kq = m3 - i ∧ Aside0 (Cl2_ w gp gq a0_0 a0_1 a0_2 l0_3 l0_4 l0_5 (.slice A3 m3 d3) v4 (.slice A5 m5 d5) lo i w')));(case atStart => exact ⟨0,rfl,by omega,by omega,HI⟩)
 case round =>
  obtain ⟨i,rfl,hi,hk,hI⟩:=hrel;(by_cases hlt : i < m3)
  ·have hltb : decide (i < m3) = true:=decide_eq_true hlt;(have hltz : (i : Int) < (m3 : Int):=by omega);(have h0z : (0 : Int) ≤ (i : Int):=by omega);(have himax : (i : Int) < 9223372036854775807:=by have:=X3.out;omega);(obtain ⟨x,g,cap,A,c,hx,hv,hg,⟨cs,hcs⟩,hcell,hfr,hlc,hC,hbp,hBW⟩:=hI.out.look (by rw [← M3.out];exact hlt));have HV:=am hv;(injection hv with ev1 ev2 ev3);subst ev1
   have hxl : x.f0.length ≤ 17592186044416:=by
    have:=List.all_eq_true.1 HBD.out.2.2.2.1 x (List.mem_of_getElem? hx)
    simpa using this
   obtain ⟨nn,hnn⟩ : ∃ n,n = x.f0.length:=⟨_,rfl⟩;have K:=am (clone31_ w A nn c x.f0 hnn hC hlc hxl);rw [← hnn] at hcell;have HX:=am hx;have HG:=am hg;have HCS:=am hcs;have HBP:=am hbp;have HBW:=am hBW;have HCL:=am hcell;obtain ⟨⟨q3,q4,q5⟩,z3,z4,z5⟩:=bp_at_ hbp;clear q4 q5 z3 z4 z5 hx hg hcs hbp hBW hC hlc hxl hnn ev2 ev3;(go_upto_region 5 with fail);(go_region_with (go_at_call 31;refine (K.out _ (by repeat (first | exact HBW.out | apply below_alloc | apply pw_below_drewN | apply below_drew))).mono ?_;rintro e w1 ⟨A1,n1,c1,rfl,hR,hb⟩;have HR:=am hR;have B1:=am (show Below wr.heap.size wr w1 from below_step (by repeat (first | exact Below.refl _ _ | apply pw_below_drewN | apply below_drew)) hb);obtain ⟨⟨q3,q4,q5⟩,z3,z4,z5⟩:=bp_at_ ((hb.block gp (blk_lt HBP.out)).trans HBP.out);have hfr:=frz_ (j:=i * 2) ((hb.block g (blk_lt HCS.out)).trans HCS.out);have hcell:=pw_cell_below hb HCL.out;clear q4 q5 z3 z4 z5 hR hb));(all_goals go_wp2_with fail);(all_goals go_roundg (m3 - (i + 1)))
   all_goals first
    | (case measure => omega)
    | (case rel => exact ⟨i + 1,by go_num,by omega,rfl,⟨hI.out.put HX.out HV.out HG.out B1.out HR.out⟩⟩)
  ·have hltb : decide (i < m3) = false:=decide_eq_false hlt;(have hltz : ¬ (i : Int) < (m3 : Int):=by omega);(obtain rfl : i = m3:=by omega);(have hJ : Cl3_ w gp gq a0_0 a0_1 a0_2 l0_3 l0_4 l0_5 (.slice A3 i d3) v4 (.slice A5 m5 d5) lo 0 wr:=Cl2_.turn (by rw [← M3.out];exact hI.out));have HJ:=am hJ;obtain ⟨f,hp,hrest⟩:=hJ;obtain ⟨⟨q3,q4,q5⟩,z3,z4,z5⟩:=bp_at_ hp;clear hp hrest q3 q4 z3 z4 z5 hI;(go_wp2_with fail);(go_loopg [39] m5 (fun kq v39 w' => ∃ t : Nat,v39 = .int .i64 (t : Int) ∧ t ≤ m5 ∧ kq = m5 - t ∧ Aside0 (Cl3_ w gp gq a0_0 a0_1 a0_2 l0_3 l0_4 l0_5 (.slice A3 i d3) v4 (.slice A5 m5 d5) lo t w')));(case atStart => exact ⟨0,rfl,by omega,by omega,HJ⟩)
   case round =>
    obtain ⟨t,rfl,hi,hk,hI⟩:=hrel;(by_cases hlt : t < m5)
    ·have hltb : decide (t < m5) = true:=decide_eq_true hlt;(have hltz : (t : Int) < (m5 : Int):=by omega);(have h0z : (0 : Int) ≤ (t : Int):=by omega);(have himax : (t : Int) < 9223372036854775807:=by have:=X5.out;omega);(obtain ⟨x,g,cap,A,c,hx,hv,hg,⟨cs,hcs⟩,hcell,hfr,hlc,hC,hbp,hBW⟩:=hI.out.look (by rw [← M5.out];exact hlt));have HV:=am hv;(injection hv with ev1 ev2 ev3);subst ev1
     have hxl : x.f5.length ≤ 17592186044416:=by
      have:=List.all_eq_true.1 HBD.out.2.2.2.2 x (List.mem_of_getElem? hx)
      simpa using this
     obtain ⟨nn,hnn⟩ : ∃ n,n = x.f5.length:=⟨_,rfl⟩;have K:=am (clone31_ w A nn c x.f5 hnn hC hlc hxl);rw [← hnn] at hcell;have HX:=am hx;have HG:=am hg;have HCS:=am hcs;have HBP:=am hbp;have HBW:=am hBW;have HCL:=am hcell;obtain ⟨⟨q3,q4,q5⟩,z3,z4,z5⟩:=bp_at_ hbp;clear q3 q4 z3 z4 z5 hx hg hcs hbp hBW hC hlc hxl hnn ev2 ev3;(go_upto_region 10 with fail);(go_region_with (go_at_call 31;refine (K.out _ (by repeat (first | exact HBW.out | apply below_alloc | apply pw_below_drewN | apply below_drew))).mono ?_;rintro e w1 ⟨A1,n1,c1,rfl,hR,hb⟩;have HR:=am hR;have B1:=am (show Below wr.heap.size wr w1 from below_step (by repeat (first | exact Below.refl _ _ | apply pw_below_drewN | apply below_drew)) hb);obtain ⟨⟨q3,q4,q5⟩,z3,z4,z5⟩:=bp_at_ ((hb.block gp (blk_lt HBP.out)).trans HBP.out);have hfr:=frz_ (j:=t * 7 + 5) ((hb.block g (blk_lt HCS.out)).trans HCS.out);have hcell:=pw_cell_below hb HCL.out;clear q3 q4 z3 z4 z5 hR hb));(all_goals go_wp2_with fail);(all_goals go_roundg (m5 - (t + 1)))
     all_goals first
      | (case measure => omega)
      | (case rel => exact ⟨t + 1,by go_num,by omega,rfl,⟨hI.out.put HX.out HV.out HG.out B1.out HR.out⟩⟩)
    ·have hltb : decide (t < m5) = false:=decide_eq_false hlt;(have hltz : ¬ (t : Int) < (m5 : Int):=by omega);(obtain rfl : t = m5:=by omega);have HF:=am (Cl3_.fin hI.out M5.out H4.out);obtain ⟨f,hp,hq,hrest⟩:=hI.out;(obtain ⟨A4,m4,d4,hv4⟩ : ∃ A n c,v4 = .slice A n c:=by obtain ⟨A,c,e⟩:=Kd.R_slice hrest.1;exact ⟨A,_,c,e⟩);subst hv4;have hpq:=GPQ.out;have hqp:=hpq.symm;obtain ⟨⟨q0,q1,q2,q3,q4,q5⟩,z0,z1,z2,z3,z4,z5⟩:=bp_all_ hp;obtain ⟨⟨s0,s1,s2,s3,s4,s5⟩,f0,f1,f2,f3,f4,f5⟩:=bp_all_ hq;have BQ:=am (show wr.heap[gq]? = some (.cells #[.int .i64 0,.int .i64 0,.int .i64 0,.slice none 0 0,.slice none 0 0,.slice none 0 0] 33 (0,0)) from hq);clear hp hq hrest z0 z1 z2 z3 z4 z5 hI HJ;(go_wp2_with fail);(refine bodyPost_ret (results_cell_row rfl _ _ gq 33 #[.int .i64 a0_0,.int .i64 a0_1,.int .i64 a0_2,.slice A3 i d3,.slice A4 m4 d4,.slice A5 t d5] (0,0) _ rfl (by refine blk_put (cs:=#[.int .i64 a0_0,.int .i64 a0_1,.int .i64 a0_2,.slice A3 i d3,.slice A4 m4 d4,.slice none 0 0]) ?_ 5 _ rfl;refine blk_put (cs:=#[.int .i64 a0_0,.int .i64 a0_1,.int .i64 a0_2,.slice A3 i d3,.slice none 0 0,.slice none 0 0]) ?_ 4 _ rfl;refine blk_put (cs:=#[.int .i64 a0_0,.int .i64 a0_1,.int .i64 a0_2,.slice none 0 0,.slice none 0 0,.slice none 0 0]) ?_ 3 _ rfl;refine blk_put (cs:=#[.int .i64 a0_0,.int .i64 a0_1,.int .i64 0,.slice none 0 0,.slice none 0 0,.slice none 0 0]) ?_ 2 _ rfl;refine blk_put (cs:=#[.int .i64 a0_0,.int .i64 0,.int .i64 0,.slice none 0 0,.slice none 0 0,.slice none 0 0]) ?_ 1 _ rfl;refine blk_put (cs:=#[.int .i64 0,.int .i64 0,.int .i64 0,.slice none 0 0,.slice none 0 0,.slice none 0 0]) ?_ 0 _ rfl;exact BQ.out) Try.underlying33 rfl (by kernel_rfl)) rfl ?_);obtain ⟨_,k1,k2,k3,k4⟩:=(((((HF.out.set (j:=0) (u:=.int .i64 a0_0) GQ.out).set (j:=1) (u:=.int .i64 a0_1) GQ.out).set (j:=2) (u:=.int .i64 a0_2) GQ.out).set (j:=3) (u:=.slice A3 i d3) GQ.out).set (j:=4) (u:=.slice A4 m4 d4) GQ.out).set (j:=5) (u:=.slice A5 t d5) GQ.out;exact ⟨_,_,_,rfl,k1,k2,k3,k4⟩
end

end Go.Proofs.Ytgfjjhfkgfnpaaa.PB

-- own texts, joined: VarPlain.lean Tools.lean VarRun.lean VarTxt.lean VarRefNum.lean VarRefTxt.lean NodeCheck.lean NodeParse.lean NodePack.lean NodeRefEntry.lean Cut01.lean NodeFew.lean Less.lean NodeAwake.lean NodeRight.lean NodeSame.lean NodeSplit.lean PureNodeShares.lean
import Derived.Test.YtlboglbgdjakmaaPBx0
import Derived.Test.YtlboglbgdjakmaaPBx10
import Derived.Test.YtlboglbgdjakmaaPBx11
import Derived.Test.YtlboglbgdjakmaaPBx12
import Derived.Test.YtlboglbgdjakmaaPBx13
import Derived.Test.YtlboglbgdjakmaaPBx14
import Derived.Test.YtlboglbgdjakmaaPBx15
import Derived.Test.YtlboglbgdjakmaaPBx17
import Derived.Test.YtlboglbgdjakmaaPBx18
import Derived.Test.YtlboglbgdjakmaaPBx19
import Derived.Test.YtlboglbgdjakmaaPBx20
import Derived.Test.YtlboglbgdjakmaaPBx21
import Derived.Test.YtlboglbgdjakmaaPBx22
import Derived.Test.YtlboglbgdjakmaaPBx23
import Derived.Test.YtlboglbgdjakmaaPBx25
import Derived.Test.YtlboglbgdjakmaaPBx3
import Derived.Test.YtlboglbgdjakmaaPBx4
import Derived.Test.YtlboglbgdjakmaaPBx5
import Derived.Test.YtlboglbgdjakmaaPBx6
import Derived.Test.YtlboglbgdjakmaaPBx7
import Derived.Test.YtlboglbgdjakmaaPBx8
import Derived.Test.YtlboglbgdjakmaaPBx9
import Derived.Laws.BitsLemmas
import Derived.Laws.Strings
import Derived.Test.YtlboglbgdjakmaaWMore
/- Plain facts about the encoding of numbers as groups of seven bits, and about reading them. -/
namespace Go.Proofs.Ytlboglbgdjakmaa.VarPlain
open Go

/-! Texts as lists. -/
def mkS (l : List UInt8) : ByteArray:=⟨l.toArray⟩
def lst (s : ByteArray) : List UInt8:=s.data.toList
theorem lst_mk (l : List UInt8) : lst (mkS l) = l:=rfl
theorem mk_lst (s : ByteArray) : mkS (lst s) = s:=rfl
theorem size_lst (s : ByteArray) : s.size = (lst s).length:=by unfold lst;rw [Array.length_toList];rfl
theorem size_mk (l : List UInt8) : (mkS l).size = l.length:=by rw [size_lst,lst_mk]
theorem toList_lst (s : ByteArray) : s.toList = lst s:=ByteArray.toList_eq s
theorem lst_append (s t : ByteArray) : lst (s ++ t) = lst s ++ lst t:=by unfold lst;rw [ByteArray.data_append,Array.toList_append]
theorem append_mk (a b : List UInt8) : mkS a ++ mkS b = mkS (a ++ b):=by
  rw [← mk_lst (mkS a ++ mkS b),lst_append,lst_mk,lst_mk]
theorem append_lst (s t : ByteArray) : s ++ t = mkS (lst s ++ lst t):=by rw [← lst_append,mk_lst]
theorem lst_extract (s : ByteArray) (a b : Nat) : lst (s.extract a b) = ((lst s).take b).drop a:=by
  unfold lst
  rw [ByteArray.data_extract,Array.toList_extract,List.extract_eq_take_drop,List.drop_take]
theorem extract_to (s : ByteArray) (n : Nat) : s.extract 0 n = mkS ((lst s).take n):=by rw [← mk_lst (s.extract 0 n),lst_extract,List.drop_zero]
theorem extract_from (s : ByteArray) (n : Nat) : s.extract n s.size = mkS ((lst s).drop n):=by
  rw [← mk_lst (s.extract n s.size),lst_extract,List.take_of_length_le (by rw [size_lst];exact Nat.le_refl _)]
/-! A number's bytes. -/
def enc (x : Nat) : List UInt8:=if h : x < 128 then [UInt8.ofNat x] else UInt8.ofNat (x % 128 + 128) :: enc (x / 128)
termination_by x
decreasing_by omega
theorem enc_small {x : Nat} (h : x < 128) : enc x = [UInt8.ofNat x]:=by rw [enc,dif_pos h]
theorem enc_great {x : Nat} (h : 128 ≤ x) : enc x = UInt8.ofNat (x % 128 + 128) :: enc (x / 128):=by rw [enc,dif_neg (by omega)]
theorem enc_len_le (n : Nat) : ∀ x,x < 128 ^ (n + 1) → (enc x).length ≤ n + 1:=by
  induction n with
  | zero => intro x h;rw [enc_small (by omega)];exact Nat.le_refl _
  | succ n ih =>
    intro x h
    by_cases hx : x < 128
    · rw [enc_small hx];simp
    · rw [enc_great (by omega),List.length_cons]
      have : x / 128 < 128 ^ (n + 1):=by rw [Nat.pow_succ] at h;omega
      have:=ih _ this
      omega
theorem enc_len_u64 {x : Nat} (h : x < 18446744073709551616) : (enc x).length ≤ 10:=enc_len_le 9 x (by omega)
theorem enc_len_pos (x : Nat) : 0 < (enc x).length:=by
  by_cases hx : x < 128
  · rw [enc_small hx];simp
  · rw [enc_great (by omega)];simp
/-- The number at the head of bytes, how many it has, the error's number: from the i-th byte on. -/
def scanL (i x : Nat) : List UInt8 → Nat × Nat × Nat
  | [] => (0,0,2)
  | b :: l => if (i = 9 ∧ 1 < b.toNat) ∨ (0 < i ∧ b.toNat = 0) then (0,0,3) else
      if b.toNat < 128 then (x + b.toNat % 128 * 2 ^ (7 * i),i + 1,0) else scanL (i + 1) (x + b.toNat % 128 * 2 ^ (7 * i)) l

theorem scan_enc (rest : List UInt8) : ∀ (y i x : Nat),i ≤ 9 → y * 2 ^ (7 * i) < 18446744073709551616 → (0 < i → 0 < y) →
    scanL i x (enc y ++ rest) = (x + y * 2 ^ (7 * i),i + (enc y).length,0):=by
  intro y
  induction y using Nat.strongRecOn with
  | _ y ih =>
    intro i x hi hy h0
    by_cases hs : y < 128
    · rw [enc_small hs,List.singleton_append,scanL]
      have hb : (UInt8.ofNat y).toNat = y:=by rw [UInt8.toNat_ofNat'];omega
      rw [hb,if_neg,if_pos hs,Nat.mod_eq_of_lt hs]
      · rfl
      · rintro (⟨rfl,h⟩ | ⟨h,h'⟩)
        · omega
        · have:=h0 h;omega
    · rw [enc_great (by omega),List.cons_append,scanL]
      have hb : (UInt8.ofNat (y % 128 + 128)).toNat = y % 128 + 128:=by rw [UInt8.toNat_ofNat'];omega
      have hi9 : i < 9:=by
        rcases Nat.lt_or_ge i 9 with h | h
        · exact h
        · obtain rfl : i = 9:=by omega
          omega
      have e1 : (y % 128 + 128) % 128 = y % 128:=by omega
      have e2 : 2 ^ (7 * (i + 1)) = 128 * 2 ^ (7 * i):=by rw [Nat.mul_add,Nat.pow_add];omega
      have e3 : y / 128 * 2 ^ (7 * (i + 1)) = (y / 128 * 128) * 2 ^ (7 * i):=by rw [e2,Nat.mul_assoc]
      have e4 : (y / 128 * 128) * 2 ^ (7 * i) ≤ y * 2 ^ (7 * i):=Nat.mul_le_mul_right _ (by omega)
      rw [hb,if_neg (by omega),if_neg (by omega),e1,ih (y / 128) (by omega) (i + 1) _ (by omega) (by omega) (by omega),List.length_cons]
      have e5 : y * 2 ^ (7 * i) = y % 128 * 2 ^ (7 * i) + (y / 128 * 128) * 2 ^ (7 * i):=by rw [← Nat.add_mul];congr 1;omega
      rw [e3,e5,Nat.add_assoc]
      congr 2
      omega
theorem scan_num (y : Nat) (rest : List UInt8) (h : y < 18446744073709551616) : scanL 0 0 (enc y ++ rest) = (y,(enc y).length,0):=by
  rw [scan_enc rest y 0 0 (by omega) (by omega) (by omega)]
  simp
/-- What scanL finds: how many bytes, how great a number. -/
theorem scanL_le : ∀ (l : List UInt8) (i x : Nat),i ≤ 9 → x < 2 ^ (7 * i) → (scanL i x l).1 < 18446744073709551616 ∧ (scanL i x l).2.1 ≤ i + l.length ∧ (scanL i x l).2.2 ≤ 3:=by
  intro l
  induction l with
  | nil => intro i x hi hx;unfold scanL;simp
  | cons b l ih =>
    intro i x hi hx
    have hb:=b.toNat_lt
    unfold scanL
    by_cases c : (i = 9 ∧ 1 < b.toNat) ∨ (0 < i ∧ b.toNat = 0)
    · rw [if_pos c];simp
    · rw [if_neg c]
      have e2 : 2 ^ (7 * (i + 1)) = 128 * 2 ^ (7 * i):=by rw [Nat.mul_add,Nat.pow_add];omega
      have hm : b.toNat % 128 * 2 ^ (7 * i) ≤ 127 * 2 ^ (7 * i):=Nat.mul_le_mul_right _ (by omega)
      by_cases d : b.toNat < 128
      · rw [if_pos d]
        refine ⟨?_,by simp only [List.length_cons];omega,Nat.zero_le _⟩
        show x + b.toNat % 128 * 2 ^ (7 * i) < _
        rcases Nat.lt_or_ge i 9 with h9 | h9
        · have : 2 ^ (7 * i) ≤ 2 ^ 56:=Nat.pow_le_pow_right (by omega) (by omega)
          omega
        · obtain rfl : i = 9:=by omega
          have : b.toNat ≤ 1:=by omega
          have : b.toNat % 128 ≤ 1:=by omega
          have : b.toNat % 128 * 2 ^ (7 * 9) ≤ 1 * 2 ^ (7 * 9):=Nat.mul_le_mul_right _ this
          omega
      · rw [if_neg d]
        have h9 : i < 9:=by omega
        have:=ih (i + 1) (x + b.toNat % 128 * 2 ^ (7 * i)) (by omega) (by omega)
        simp only [List.length_cons]
        omega
/-- What is read is what would be written: the bytes at the head are the number's. -/
theorem scanL_enc : ∀ (l : List UInt8) (i x : Nat),i ≤ 9 → x < 2 ^ (7 * i) → (scanL i x l).2.2 = 0 →
    ∃ y rest,l = enc y ++ rest ∧ (scanL i x l).1 = x + y * 2 ^ (7 * i) ∧ (scanL i x l).2.1 = i + (enc y).length ∧ (0 < i → 0 < y):=by
  intro l
  induction l with
  | nil => intro i x hi hx h;unfold scanL at h;simp at h
  | cons b l ih =>
    intro i x hi hx h
    have hb:=b.toNat_lt
    unfold scanL at h ⊢
    by_cases c : (i = 9 ∧ 1 < b.toNat) ∨ (0 < i ∧ b.toNat = 0)
    · rw [if_pos c] at h;simp at h
    · rw [if_neg c] at h ⊢
      by_cases d : b.toNat < 128
      · rw [if_pos d] at h ⊢
        refine ⟨b.toNat,l,?_,?_,?_,?_⟩
        · rw [enc_small d,UInt8.ofNat_toNat];rfl
        · show _ = _;rw [Nat.mod_eq_of_lt d]
        · rw [enc_small d];rfl
        · intro;omega
      · rw [if_neg d] at h ⊢
        have h9 : i < 9:=by omega
        have e2 : 2 ^ (7 * (i + 1)) = 128 * 2 ^ (7 * i):=by rw [Nat.mul_add,Nat.pow_add];omega
        have hm : b.toNat % 128 * 2 ^ (7 * i) ≤ 127 * 2 ^ (7 * i):=Nat.mul_le_mul_right _ (by omega)
        obtain ⟨y,rest,h1,h2,h3,h4⟩:=ih (i + 1) _ (by omega) (by omega) h
        have y0:=h4 (by omega)
        refine ⟨b.toNat % 128 + y * 128,rest,?_,?_,?_,?_⟩
        · rw [enc_great (by omega),h1]
          have a1 : (b.toNat % 128 + y * 128) % 128 + 128 = b.toNat:=by omega
          have a2 : (b.toNat % 128 + y * 128) / 128 = y:=by omega
          rw [a1,a2,UInt8.ofNat_toNat];rfl
        · rw [h2,e2,Nat.add_mul,Nat.mul_assoc,Nat.add_assoc]
        · rw [h3,enc_great (x:=b.toNat % 128 + y * 128) (by omega),List.length_cons]
          have a2 : (b.toNat % 128 + y * 128) / 128 = y:=by omega
          rw [a2];omega
        · intro;omega
theorem scanL_head (l : List UInt8) (h : (scanL 0 0 l).2.2 = 0) : ∃ rest,l = enc (scanL 0 0 l).1 ++ rest ∧ (scanL 0 0 l).2.1 = (enc (scanL 0 0 l).1).length:=by
  obtain ⟨y,rest,h1,h2,h3,_⟩:=scanL_enc l 0 0 (by omega) (by omega) h
  have : (scanL 0 0 l).1 = y:=by rw [h2];simp
  rw [this]
  exact ⟨rest,h1,by rw [h3];omega⟩

/-! Reading: what is left, and the first error. -/
def rNum (l : List UInt8) (e : Int) (most : Nat) : Nat × List UInt8 × Int :=
  if e = 0 then
    if (scanL 0 0 l).2.2 = 0 then (if most < (scanL 0 0 l).1 then (0,[],4) else ((scanL 0 0 l).1,l.drop (scanL 0 0 l).2.1,0))
    else (0,[],((scanL 0 0 l).2.2 : Int))
  else (0,l,e)
def rFail (l : List UInt8) (e c : Int) : List UInt8 × Int:=if e = 0 then (if c = 0 then (l,e) else ([],c)) else (l,e)
def rRaw (l : List UInt8) (e n : Int) : List UInt8 × List UInt8 × Int :=
  if (l.length : Int) < n then ([],rFail l e 2) else if e = 0 then (l.take n.toNat,l.drop n.toNat,0) else ([],l,e)
def rText (l : List UInt8) (e most : Int) : List UInt8 × List UInt8 × Int :=
  rRaw (rNum l e most.toNat).2.1 (rNum l e most.toNat).2.2 ((rNum l e most.toNat).1 : Int)
def encT (l : List UInt8) : List UInt8:=enc l.length ++ l
theorem rNum_enc (y : Nat) (rest : List UInt8) (most : Nat) (hy : y < 18446744073709551616) (h : y ≤ most) : rNum (enc y ++ rest) 0 most = (y,rest,0):=by
  unfold rNum
  rw [if_pos rfl,scan_num y rest hy]
  simp only [if_true]
  rw [if_neg (by omega),List.drop_left]
theorem rNum_lt (l : List UInt8) (e : Int) (most : Nat) : (rNum l e most).1 < 18446744073709551616 ∧ (rNum l e most).1 ≤ most ∧ (rNum l e most).2.1.length ≤ l.length:=by
  unfold rNum
  have:=scanL_le l 0 0 (by omega) (by omega)
  split
  · split
    · split
      · simp
      · simp only [List.length_drop];omega
    · simp
  · simp
theorem rText_enc (t rest : List UInt8) (most : Int) (ht : t.length < 18446744073709551616) (h : (t.length : Int) ≤ most) : rText (encT t ++ rest) 0 most = (t,rest,0):=by
  unfold rText encT
  rw [List.append_assoc,rNum_enc _ _ _ ht (by omega)]
  simp only
  unfold rRaw
  rw [if_neg (by rw [List.length_append];omega),if_pos rfl,Int.toNat_natCast,List.take_left,List.drop_left]
/-! As whole numbers. -/
theorem u64_in {n : Int} (h0 : 0 ≤ n) (h1 : n < 18446744073709551616) : IntKind.u64.wrap n = n:=by
  simp only [IntKind.wrap,IntKind.bits,IntKind.signed,Bool.false_and,Bool.false_eq_true,if_false];omega
theorem or128 (b : Nat) (h : b < 256) : bits .or .u8 (b : Int) 128 = ((b % 128 + 128 : Nat) : Int):=by
  have hh:=(bits_nat .u8 8 (by decide) wraps_u8 b 128 h (by decide)).2
  rw [show ((128 : Nat) : Int) = 128 from rfl] at hh
  rw [hh]
  congr 1
  have : ∀ b,b < 256 → b ||| 128 = b % 128 + 128:=by decide +kernel
  exact this b h
theorem and127 (b : Nat) (h : b < 256) : bits .and .u8 (b : Int) 127 = ((b % 128 : Nat) : Int):=by
  have hh:=(bits_nat .u8 8 (by decide) wraps_u8 b 127 h (by decide)).1
  rw [show ((127 : Nat) : Int) = 127 from rfl] at hh
  rw [hh]
  congr 1
  have : ∀ b,b < 256 → b &&& 127 = b % 128:=by decide +kernel
  exact this b h
theorem or64 (x y i : Nat) (hx : x < 2 ^ i) (h : x + y * 2 ^ i < 18446744073709551616) : bits .or .u64 (x : Int) ((y * 2 ^ i : Nat) : Int) = ((x + y * 2 ^ i : Nat) : Int):=by
  have w64 : ∀ n : Int,0 ≤ n → n < 2 ^ 64 → IntKind.u64.wrap n = n:=fun n h0 h1 => u64_in h0 (by omega)
  rw [(bits_nat .u64 64 (by decide) w64 x (y * 2 ^ i) (by omega) (by omega)).2]
  congr 1
  rw [Nat.or_comm,Nat.mul_comm,← Nat.two_pow_add_eq_or_of_lt hx y]
  omega
end Go.Proofs.Ytlboglbgdjakmaa.VarPlain

-- small words for plain laws: truth as a Bool, places of lists, wraps of small numbers
namespace Go.Proofs.Ytlboglbgdjakmaa.Tools
open Go Go.RowKit Go.Proofs.YtlboglbgdjakmaaW.PrintWords Go.Proofs.YtlboglbgdjakmaaW.PrintLast Go.Proofs.YtlboglbgdjakmaaW.PrintMore
open Classical in
noncomputable def pb (p : Prop) : Bool:=decide p
open Classical in
theorem pb_true {p : Prop} (h : p) : pb p = true:=by unfold pb;exact decide_eq_true h
open Classical in
open Classical in
theorem pb_iff {p : Prop} : pb p = true ↔ p:=by unfold pb;exact decide_eq_true_iff
theorem pb_congr {p q : Prop} (h : p ↔ q) : pb p = pb q:=by rw [Bool.eq_iff_iff,pb_iff,pb_iff];exact h
theorem eq_pb {b : Bool} {p : Prop} (h : b = true ↔ p) : b = pb p:=by rw [Bool.eq_iff_iff,pb_iff];exact h
/-- The j-th text. -/
def tx (l : List ByteArray) (j : Nat) : ByteArray:=rdOf ByteArray.empty l (j : Int)
theorem all_tx (l : List ByteArray) (p : ByteArray → Bool) : l.all p = pb (∀ j,j < l.length → p (tx l j) = true):=by
  refine eq_pb ?_
  rw [List.all_eq_true]
  have e : ∀ j (h : j < l.length),tx l j = l[j]:=fun j h => by
    unfold tx rdOf;rw [Int.toNat_natCast,List.getD_eq_getElem?_getD,List.getElem?_eq_getElem h];rfl
  exact ⟨fun h j hj => by rw [e j hj];exact h _ (List.getElem_mem hj),fun h x hx => by obtain ⟨j,hj,rfl⟩:=List.mem_iff_getElem.1 hx;rw [← e j hj];exact h j hj⟩
theorem all_rd (l : List Int) (p : Int → Bool) : l.all p = pb (∀ j,j < l.length → p (rd l (j : Int)) = true):=by
  refine eq_pb ?_
  rw [List.all_eq_true]
  have e : ∀ j (h : j < l.length),rd l (j : Int) = l[j]:=fun j h => by
    unfold rd;rw [Int.toNat_natCast,List.getD_eq_getElem?_getD,List.getElem?_eq_getElem h];rfl
  exact ⟨fun h j hj => by rw [e j hj];exact h _ (List.getElem_mem hj),fun h x hx => by obtain ⟨j,hj,rfl⟩:=List.mem_iff_getElem.1 hx;rw [← e j hj];exact h j hj⟩
theorem w_pred {i : Nat} (h : 1 ≤ i) (h2 : i < 2 ^ 62) : wrap64 ((i : Int) - 1) = ((i - 1 : Nat) : Int):=by unfold wrap64;omega
theorem w_succ {i : Nat} (h2 : i < 2 ^ 62) : wrap64 ((i : Int) + 1) = ((i + 1 : Nat) : Int):=by unfold wrap64;omega
end Go.Proofs.Ytlboglbgdjakmaa.Tools

/- What the program's reader and writer of numbers and texts come to, in plain words (VarPlain). -/
namespace Go.Proofs.Ytlboglbgdjakmaa.PB
open Go.RowKit Go.Proofs.YtlboglbgdjakmaaW.PrintWords Go.Proofs.YtlboglbgdjakmaaW.PrintLast Go.Proofs.YtlboglbgdjakmaaW.PrintMore Go.Proofs.Ytlboglbgdjakmaa.VarPlain

theorem bt_lst (s : ByteArray) (i : Nat) (h : i < s.size) : ∃ b : UInt8,bt s (i : Int) = (b.toNat : Int) ∧ (lst s).drop i = b :: (lst s).drop (i + 1):=by
  have h' : i < (lst s).length:=by rw [← size_lst];exact h
  refine ⟨(lst s)[i],?_,List.drop_eq_getElem_cons h'⟩
  unfold bt
  rw [Int.toNat_natCast,dif_pos h]
  rfl

theorem nums_mk (l : List UInt8) : strOfNums (l.map fun b => (b.toNat : Int)) = mkS l:=by
  unfold strOfNums mkS
  rw [List.map_map]
  have : (fun n : Int => UInt8.ofNat n.toNat) ∘ (fun b : UInt8 => (b.toNat : Int)) = id:=by
    funext b;simp
  rw [this,List.map_id]

theorem num_loop (d : Nat) : ∀ (k x : Nat) (acc : List Int),(enc x).length ≤ d → d < k → acc.length + d < 140737488355328 →
    varint_Num.l0 k (x : Int) acc = some (strOfNums (acc ++ (enc x).map fun b => (b.toNat : Int))):=by
  induction d with
  | zero => intro k x acc h;have:=enc_len_pos x;omega
  | succ d ih =>
    intro k x acc h hk ha
    obtain ⟨k,rfl⟩ : ∃ m,k = m + 1:=⟨k - 1,by omega⟩
    simp only [varint_Num.l0]
    by_cases hx : x < 128
    · rw [if_neg (by omega),if_pos (by omega),enc_small hx]
      have : (x : Int) % 256 = ((UInt8.ofNat x).toNat : Int):=by rw [UInt8.toNat_ofNat'];omega
      rw [this];rfl
    · rw [if_pos (by omega),if_pos (by omega)]
      rw [enc_great (by omega),List.length_cons] at h
      have e1 : (x : Int) % 256 = ((x % 256 : Nat) : Int):=by omega
      have e2 : (x : Int) / 128 = ((x / 128 : Nat) : Int):=by omega
      rw [e1,or128 _ (by omega),e2,ih k (x / 128) _ (by omega) (by omega) (by rw [List.length_append,List.length_singleton];omega),enc_great (x:=x) (by omega),List.map_cons,List.append_assoc]
      have e3 : ((UInt8.ofNat (x % 128 + 128)).toNat : Int) = ((x % 256 % 128 + 128 : Nat) : Int):=by rw [UInt8.toNat_ofNat'];omega
      rw [e3];rfl
theorem num_is (k x : Nat) (hx : x < 18446744073709551616) (hk : 10 < k) : varint_Num.f k (x : Int) = some (mkS (enc x)):=by
  unfold varint_Num.f
  have:=num_loop 10 k x [] (enc_len_u64 hx) hk (by simp)
  rw [this,List.nil_append,nums_mk]
theorem scan_j2 (k : Nat) (s : ByteArray) (x i n b : Int) (hi : 0 ≤ i) (h9 : i ≤ 9) (q : Bool) : varint_scan.j2 (k + 1) s x i b n i q = if q = true then some (0,0,3) else
    if b < 128 then some (Go.bits .or .u64 x (shl .u64 (IntKind.u64.wrap (Go.bits .and .u8 b 127)) (wrap64 (7 * i))),wrap64 (i + 1),0)
    else varint_scan.l0 k s (Go.bits .or .u64 x (shl .u64 (IntKind.u64.wrap (Go.bits .and .u8 b 127)) (wrap64 (7 * i)))) n (wrap64 (i + 1)):=by
  simp only [varint_scan.j2]
  have hw : wrap64 (7 * i) = 7 * i:=by unfold wrap64;omega
  have h : 0 ≤ wrap64 (7 * i):=by rw [hw];omega
  rw [if_pos h]
theorem scan_j1 (k : Nat) (s : ByteArray) (x n : Int) (i b : Nat) (q : Bool) : varint_scan.j1 (k + 2) s x (i : Int) (b : Int) n (i : Int) q = varint_scan.j2 (k + 1) s x (i : Int) (b : Int) n (i : Int) (q || (decide (0 < i) && (b == 0))):=by
  simp only [varint_scan.j1]
  cases q with
  | true => rw [if_pos rfl,Bool.true_or]
  | false =>
    rw [if_neg (by simp)]
    by_cases h0 : 0 < i
    · have h1 : (i : Int) > 0:=by omega
      rw [if_pos h1]
      congr 1
      rw [Bool.eq_iff_iff];simp [h0]
    · have h1 : ¬ (i : Int) > 0:=by omega
      rw [if_neg h1]
      congr 1
      simp [h0]
theorem scan_l0 (k : Nat) (s : ByteArray) (x : Int) (i b : Nat) (hlt : i < s.size) (hb : bt s (i : Int) = (b : Int)) :
    varint_scan.l0 (k + 3) s x (s.size : Int) (i : Int) = varint_scan.j1 (k + 2) s x (i : Int) (b : Int) (s.size : Int) (i : Int) (decide (i = 9) && decide (1 < b)):=by
  simp only [varint_scan.l0]
  have h1 : (i : Int) < (s.size : Int):=by omega
  have h2 : 0 ≤ (i : Int):=by omega
  rw [if_pos h1,if_pos h2,if_pos h1,hb]
  by_cases h : i = 9
  · have h3 : (i : Int) = 9:=by omega
    rw [if_pos h3]
    congr 1
    rw [Bool.eq_iff_iff,Bool.and_eq_true,decide_eq_true_iff,decide_eq_true_iff,decide_eq_true_iff]
    omega
  · have h3 : ¬ (i : Int) = 9:=by omega
    rw [if_neg h3]
    congr 1
    simp [h]
theorem scan_acc (x i b : Nat) (h9 : i ≤ 9) (hb : b < 256) (hx : x < 2 ^ (7 * i)) (hb9 : i = 9 → b ≤ 1) :
    Go.bits .or .u64 (x : Int) (shl .u64 (IntKind.u64.wrap (Go.bits .and .u8 (b : Int) 127)) (wrap64 (7 * (i : Int)))) = ((x + b % 128 * 2 ^ (7 * i) : Nat) : Int):=by
  have hm : b % 128 * 2 ^ (7 * i) ≤ 127 * 2 ^ (7 * i):=Nat.mul_le_mul_right _ (by omega)
  have hbound : x + b % 128 * 2 ^ (7 * i) < 18446744073709551616:=by
    rcases Nat.lt_or_ge i 9 with h | h
    · have : 2 ^ (7 * i) ≤ 2 ^ 56:=Nat.pow_le_pow_right (by omega) (by omega)
      omega
    · obtain rfl : i = 9:=by omega
      have h1:=hb9 rfl
      have : b % 128 * 2 ^ (7 * 9) ≤ 1 * 2 ^ (7 * 9):=Nat.mul_le_mul_right _ (by omega)
      omega
  have w7 : wrap64 (7 * (i : Int)) = ((7 * i : Nat) : Int):=by unfold wrap64;omega
  have hsh : shl .u64 ((b % 128 : Nat) : Int) ((7 * i : Nat) : Int) = ((b % 128 * 2 ^ (7 * i) : Nat) : Int):=by
    unfold shl
    have hbits : IntKind.u64.bits = 64:=rfl
    rw [Int.toNat_natCast,hbits,Nat.min_eq_left (by omega)]
    have : ((b % 128 : Nat) : Int) * 2 ^ (7 * i) = ((b % 128 * 2 ^ (7 * i) : Nat) : Int):=by rw [Int.natCast_mul,Int.natCast_pow];rfl
    rw [this]
    exact u64_in (Int.natCast_nonneg _) (by omega)
  have hu : IntKind.u64.wrap ((b % 128 : Nat) : Int) = ((b % 128 : Nat) : Int):=u64_in (Int.natCast_nonneg _) (by omega)
  rw [and127 _ hb,hu,w7,hsh,or64 _ _ _ hx hbound]
theorem scan_loop (s : ByteArray) (hs : s.size ≤ 140737488351232) (d : Nat) : ∀ (k i x : Nat),s.size - i = d → i ≤ s.size → i ≤ 9 → x < 2 ^ (7 * i) → 3 * d < k →
    varint_scan.l0 k s (x : Int) (s.size : Int) (i : Int) = some (((scanL i x ((lst s).drop i)).1 : Int),((scanL i x ((lst s).drop i)).2.1 : Int),((scanL i x ((lst s).drop i)).2.2 : Int)):=by
  induction d with
  | zero =>
    intro k i x hd hi _ _ hk
    obtain ⟨k,rfl⟩ : ∃ m,k = m + 1:=⟨k - 1,by omega⟩
    have h1 : ¬ (i : Int) < (s.size : Int):=by omega
    simp only [varint_scan.l0]
    rw [if_neg h1,List.drop_eq_nil_of_le (by rw [← size_lst];omega)];rfl
  | succ d ih =>
    intro k i x hd hi h9 hx hk
    obtain ⟨k,rfl⟩ : ∃ m,k = m + 3:=⟨k - 3,by omega⟩
    have hlt : i < s.size:=by omega
    obtain ⟨b,hb,hdrop⟩:=bt_lst s i hlt
    have hbl:=b.toNat_lt
    have hw : wrap64 ((i : Int) + 1) = ((i + 1 : Nat) : Int):=by unfold wrap64;omega
    have hi9 : (i : Int) ≤ 9:=by omega
    rw [scan_l0 k s x i b.toNat hlt hb,scan_j1,scan_j2 _ _ _ _ _ _ (Int.natCast_nonneg _) hi9,hdrop,scanL]
    by_cases c : (i = 9 ∧ 1 < b.toNat) ∨ (0 < i ∧ b.toNat = 0)
    · have c' : (decide (i = 9) && decide (1 < b.toNat) || (decide (0 < i) && (b.toNat == 0))) = true:=by
        rw [Bool.or_eq_true,Bool.and_eq_true,Bool.and_eq_true,decide_eq_true_iff,decide_eq_true_iff,decide_eq_true_iff,beq_iff_eq];exact c
      rw [if_pos c',if_pos c];rfl
    · have c' : ¬ (decide (i = 9) && decide (1 < b.toNat) || (decide (0 < i) && (b.toNat == 0))) = true:=by
        rw [Bool.or_eq_true,Bool.and_eq_true,Bool.and_eq_true,decide_eq_true_iff,decide_eq_true_iff,decide_eq_true_iff,beq_iff_eq];exact c
      rw [if_neg c',if_neg c,hw,scan_acc x i b.toNat h9 hbl hx (by omega)]
      by_cases d8 : b.toNat < 128
      · have d9 : (b.toNat : Int) < 128:=by omega
        rw [if_pos d9,if_pos d8];rfl
      · have d9 : ¬ (b.toNat : Int) < 128:=by omega
        rw [if_neg d9,if_neg d8]
        have e2 : 2 ^ (7 * (i + 1)) = 128 * 2 ^ (7 * i):=by rw [Nat.mul_add,Nat.pow_add];omega
        have hm : b.toNat % 128 * 2 ^ (7 * i) ≤ 127 * 2 ^ (7 * i):=Nat.mul_le_mul_right _ (by omega)
        exact ih k (i + 1) _ (by omega) (by omega) (by omega) (by omega) (by omega)
theorem scan_is (k : Nat) (s : ByteArray) (hs : s.size ≤ 140737488351232) (hk : 3 * s.size < k) :
    varint_scan.f k s = some (((scanL 0 0 (lst s)).1 : Int),((scanL 0 0 (lst s)).2.1 : Int),((scanL 0 0 (lst s)).2.2 : Int)):=by
  unfold varint_scan.f
  have:=scan_loop s hs s.size k 0 0 (by omega) (by omega) (by omega) (by simp) hk
  rw [List.drop_zero] at this
  exact this

theorem fail_is (s : ByteArray) (e c : Int) : varint_In_Fail.f s e c = some (mkS (rFail (lst s) e c).1,(rFail (lst s) e c).2):=by
  unfold varint_In_Fail.f rFail
  by_cases h : e = 0
  · rw [if_pos h,if_pos h]
    by_cases h2 : c = 0
    · rw [if_pos h2,if_pos h2];rfl
    · rw [if_neg h2,if_neg h2];rfl
  · rw [if_neg h,if_neg h];rfl
theorem innum_is (k : Nat) (s : ByteArray) (e : Int) (most : Nat) (hs : s.size ≤ 140737488351232) (hk : 3 * s.size < k) :
    varint_In_Num.f k s e (most : Int) = some (((rNum (lst s) e most).1 : Int),mkS (rNum (lst s) e most).2.1,(rNum (lst s) e most).2.2):=by
  unfold varint_In_Num.f rNum
  by_cases h : e = 0
  · subst h
    rw [if_pos rfl,scan_is k s hs hk]
    have hl:=scanL_le (lst s) 0 0 (by omega) (by omega)
    rw [← size_lst] at hl
    simp only [Option.bind_some,if_true]
    by_cases h1 : (scanL 0 0 (lst s)).2.2 = 0
    · rw [if_pos (by omega),if_pos h1]
      by_cases h2 : most < (scanL 0 0 (lst s)).1
      · rw [if_pos (by omega),if_pos h2,fail_is];rfl
      · rw [if_neg (by omega),if_neg h2,if_pos (by omega),if_pos (by omega),Int.toNat_natCast,extract_from]
    · rw [if_neg (by omega),if_neg h1,fail_is]
      unfold rFail
      rw [if_pos rfl,if_neg (by omega)]
      rfl
  · rw [if_neg h,if_neg h];rfl
theorem end_is (s : ByteArray) (e : Int) : varint_In_End.f s e = some (if lst s = [] then e else 3,s,e):=by
  unfold varint_In_End.f
  rw [toList_lst]
  split <;> rfl
theorem err_is (s : ByteArray) (e : Int) : varint_In_Err.f s e = some (e,s,e):=rfl
end Go.Proofs.Ytlboglbgdjakmaa.PB

/- What the program's reader and writer of numbers and texts come to, in plain words (VarPlain). -/
namespace Go.Proofs.Ytlboglbgdjakmaa.PB
open Go.RowKit Go.Proofs.YtlboglbgdjakmaaW.PrintWords Go.Proofs.YtlboglbgdjakmaaW.PrintLast Go.Proofs.YtlboglbgdjakmaaW.PrintMore Go.Proofs.Ytlboglbgdjakmaa.VarPlain

theorem text_is (k : Nat) (s : ByteArray) (hs : s.size ≤ 140737488351232) (hk : 10 < k) : varint_Text.f k s = some (mkS (encT (lst s))):=by
  unfold varint_Text.f
  rw [if_pos (by omega),num_is k s.size (by omega) hk]
  have:=enc_len_u64 (x:=s.size) (by omega)
  simp only [Option.bind_some]
  rw [if_pos (by rw [size_mk];omega),append_lst,lst_mk,size_lst]
  rfl

theorem raw_is (s : ByteArray) (e n : Int) (he : e = 0 ∨ lst s = []) (hn : 0 ≤ n) : varint_In_Raw.f s e n = some (mkS (rRaw (lst s) e n).1,mkS (rRaw (lst s) e n).2.1,(rRaw (lst s) e n).2.2):=by
  unfold varint_In_Raw.f rRaw
  have hm : mx n 0 = n:=by unfold mx;rw [if_neg (by omega)]
  rw [hm]
  by_cases h : (s.size : Int) < n
  · have h1 : ((lst s).length : Int) < n:=by rw [← size_lst];exact h
    rw [if_pos h,if_pos h1,fail_is]
    simp only [Option.bind_some]
    have h2 : ¬ (rFail (lst s) e 2).2 = 0:=by
      unfold rFail
      by_cases h0 : e = 0
      · rw [if_pos h0,if_neg (by decide)];decide
      · rw [if_neg h0];exact h0
    rw [if_neg h2];rfl
  · have h1 : ¬ ((lst s).length : Int) < n:=by rw [← size_lst];exact h
    rw [if_neg h,if_neg h1]
    by_cases h0 : e = 0
    · subst h0
      have h3 : n ≤ (s.size : Int):=by omega
      rw [if_pos rfl,if_pos rfl,if_pos hn,if_pos h3,extract_to,extract_from]
    · rw [if_neg h0,if_neg h0];rfl
theorem rNum_left (l : List UInt8) (e : Int) (most : Nat) (h : e = 0 ∨ l = []) : (rNum l e most).2.2 = 0 ∨ (rNum l e most).2.1 = []:=by
  unfold rNum
  repeat' split
  all_goals first | exact .inl rfl | exact .inr rfl | (rcases h with h | h;exact absurd h ‹_›;exact .inr h)
theorem text_most (most : Int) (hm : most ≤ 9223372036854775807) : IntKind.u64.wrap (mx most 0) = ((most.toNat : Nat) : Int):=by
  have h : mx most 0 = ((most.toNat : Nat) : Int):=by unfold mx;split <;> omega
  have h1 : ((most.toNat : Nat) : Int) < 18446744073709551616:=by omega
  rw [h]
  exact u64_in (Int.natCast_nonneg _) h1
theorem small_wrap {n : Nat} (h : n ≤ 9223372036854775807) : wrap64 (n : Int) = (n : Int):=by unfold wrap64;omega
theorem intext1 (k : Nat) (s : ByteArray) (e most : Int) (R : Nat × List UInt8 × Int) (hn : varint_In_Num.f k s e ((most.toNat : Nat) : Int) = some ((R.1 : Int),mkS R.2.1,R.2.2)) (hl : R.2.2 = 0 ∨ R.2.1 = []) (hm : IntKind.u64.wrap (mx most 0) = ((most.toNat : Nat) : Int)) (hw : wrap64 (R.1 : Int) = (R.1 : Int)) :
    varint_In_Text.f k s e most = some (mkS (rRaw R.2.1 R.2.2 (R.1 : Int)).1,mkS (rRaw R.2.1 R.2.2 (R.1 : Int)).2.1,(rRaw R.2.1 R.2.2 (R.1 : Int)).2.2):=by
  have hr:=raw_is (mkS R.2.1) R.2.2 (R.1 : Int) (by rw [lst_mk];exact hl) (Int.natCast_nonneg _)
  unfold varint_In_Text.f
  rw [hm,hn,Option.bind_some]
  rw [hw,hr,lst_mk,Option.bind_some]
theorem intext2 (s : ByteArray) (e most : Int) (hm : most ≤ 9223372036854775807) : (rNum (lst s) e most.toNat).1 ≤ 9223372036854775807:=by
  have h1:=(rNum_lt (lst s) e most.toNat).2.1
  have h2 : most.toNat ≤ 9223372036854775807:=by omega
  exact Nat.le_trans h1 h2
theorem intext_is (k : Nat) (s : ByteArray) (e most : Int) (he : e = 0 ∨ lst s = []) (hs : s.size ≤ 140737488351232) (hk : 3 * s.size < k) (hm : most ≤ 9223372036854775807) :
    varint_In_Text.f k s e most = some (mkS (rText (lst s) e most).1,mkS (rText (lst s) e most).2.1,(rText (lst s) e most).2.2) :=
  intext1 k s e most _ (innum_is k s e most.toNat hs hk) (rNum_left (lst s) e most.toNat he) (text_most most hm) (small_wrap (intext2 s e most hm))
end Go.Proofs.Ytlboglbgdjakmaa.PB

/- What the document's own text of layer 1 comes to: numbers and texts as bytes. -/
namespace Go.Proofs.Ytlboglbgdjakmaa.PB
open Go.RowKit Go.Proofs.YtlboglbgdjakmaaW.PrintWords Go.Proofs.YtlboglbgdjakmaaW.PrintLast Go.Proofs.YtlboglbgdjakmaaW.PrintMore Go.Proofs.Ytlboglbgdjakmaa.VarPlain
end Go.Proofs.Ytlboglbgdjakmaa.PB

/- What the document's own text of layer 1 comes to: numbers and texts as bytes. -/
namespace Go.Proofs.Ytlboglbgdjakmaa.PB
open Go.RowKit Go.Proofs.YtlboglbgdjakmaaW.PrintWords Go.Proofs.YtlboglbgdjakmaaW.PrintLast Go.Proofs.YtlboglbgdjakmaaW.PrintMore Go.Proofs.Ytlboglbgdjakmaa.VarPlain
end Go.Proofs.Ytlboglbgdjakmaa.PB

-- which nodes may be: the program's Check and the document's
namespace Go.Proofs.Ytlboglbgdjakmaa.PB
open Go.RowKit Go.Proofs.YtlboglbgdjakmaaW.PrintWords Go.Proofs.YtlboglbgdjakmaaW.PrintLast Go.Proofs.YtlboglbgdjakmaaW.PrintMore Go.Proofs.Ytlboglbgdjakmaa.VarPlain Go.Proofs.Ytlboglbgdjakmaa.Tools
def less (l : List ByteArray) (j : Nat) : Bool:=Op.bytesLess (tx l (j - 1)).toList (tx l j).toList
def Key (s : ByteArray) : Prop:=s.toList ≠ [] ∧ (s.size : Int) ≤ 16
def Val (s : ByteArray) : Prop:=(s.size : Int) ≤ 32
def Page (x : Int) : Prop:=0 ≤ x ∧ x ≤ 2147483647
def Rise (l : List ByteArray) (i : Nat) : Prop:=∀ j,i ≤ j → j < l.length → less l j = true
def Shape (kind : Int) (K V : List ByteArray) (P : List Int) : Prop :=
  kind = 1 ∧ V.length = K.length ∧ P.length = 0 ∨ kind = 2 ∧ P.length = K.length ∧ V.length = 0 ∧ 0 < K.length
def Good (kind : Int) (K V : List ByteArray) (P : List Int) : Prop :=
  Shape kind K V P ∧ (∀ j,j < K.length → Key (tx K j)) ∧ Rise K 1 ∧ (∀ j,j < V.length → Val (tx V j)) ∧ ∀ j,j < P.length → Page (rd P (j : Int))
theorem key_p (s : ByteArray) : node_all_key.p_ s = true ↔ Key s:=by
  unfold node_all_key.p_ Key
  rw [Bool.and_eq_true,decide_eq_true_iff]
  simp
theorem val_p (s : ByteArray) : node_all_value.p_ s = true ↔ Val s:=by unfold node_all_value.p_ Val;rw [decide_eq_true_iff]
theorem page_p (x : Int) : node_all_page.p_ x = true ↔ Page x:=by unfold node_all_page.p_ Page;rw [Bool.and_eq_true,decide_eq_true_iff,decide_eq_true_iff]
theorem Rise_at (l : List ByteArray) (i : Nat) (hi : i < l.length) : Rise l i ↔ less l i = true ∧ Rise l (i + 1):=by
  refine ⟨fun h => ⟨h i (Nat.le_refl _) hi,fun j hj hl => h j (by omega) hl⟩,fun h j hj hl => ?_⟩
  by_cases e : j = i
  · rw [e];exact h.1
  · exact h.2 j (by omega) hl
def fin (kind : Int) (x : Bool) (K V : List ByteArray) (P : List Int) : Option Int :=
  if kind = 1 then (if x = true then (if (V.length : Int) = (K.length : Int) then (if ((P.length : Int) = 0) then (some 0) else (some 1)) else (some 1)) else (some 1)) else (if kind = 2 then (if x = true then (if (P.length : Int) = (K.length : Int) then (if (V.length : Int) = 0 then (if ((K.length : Int) > 0) then (some 0) else (some 1)) else (some 1)) else (some 1)) else (some 1)) else (some 1))
open Classical in
theorem fin_is (kind : Int) (x : Bool) (K V : List ByteArray) (P : List Int) : fin kind x K V P = some (if x = true ∧ Shape kind K V P then 0 else 1):=by
  unfold fin Shape
  cases x <;> repeat' split
  all_goals first | rfl | (exfalso;omega) | (exfalso;simp_all;done) | (exfalso;simp_all;omega)
theorem own_loop (kind : Int) (K V : List ByteArray) (P : List Int) (hl : K.length < 2 ^ 62) (d : Nat) : ∀ (k i : Nat) (x : Bool),K.length - i = d → 1 ≤ i → d < k →
    node_Node_Check.l0 k x (i : Int) kind K V P = fin kind (x && pb (Rise K i)) K V P:=by
  induction d with
  | zero =>
    intro k i x hd hi hk
    obtain ⟨k,rfl⟩ : ∃ m,k = m + 1:=⟨k - 1,by omega⟩
    have h1 : ¬ (i : Int) < (K.length : Int):=by omega
    simp only [node_Node_Check.l0]
    rw [if_neg h1,pb_true (show Rise K i from fun j hj hl => by omega),Bool.and_true];rfl
  | succ d ih =>
    intro k i x hd hi hk
    obtain ⟨k,rfl⟩ : ∃ m,k = m + 1:=⟨k - 1,by omega⟩
    have h1 : (i : Int) < (K.length : Int):=by omega
    simp only [node_Node_Check.l0]
    have h2 : (0 : Int) ≤ ((i - 1 : Nat) : Int):=by omega
    have h3 : ((i - 1 : Nat) : Int) < (K.length : Int):=by omega
    have h4 : (0 : Int) ≤ (i : Int):=by omega
    rw [if_pos h1,w_pred hi (by omega),w_succ (by omega),if_pos h2,if_pos h3,if_pos h4]
    have hR:=pb_congr (Rise_at K i (by omega))
    cases x with
    | true =>
      rw [if_pos rfl,ih k (i + 1) _ (by omega) (by omega) (by omega)]
      congr 1
      rw [Bool.true_and,hR]
      show (less K i && pb (Rise K (i + 1))) = _
      refine eq_pb ?_
      rw [Bool.and_eq_true,pb_iff]
    | false =>
      rw [if_neg (by simp),ih k (i + 1) _ (by omega) (by omega) (by omega)]
      rfl
open Classical in
theorem check_is (k : Nat) (kind : Int) (K V : List ByteArray) (P : List Int) (hl : K.length < 2 ^ 62) (hk : K.length + 1 < k) :
    node_Node_Check.f k kind K V P = some (if Good kind K V P then 0 else 1):=by
  obtain ⟨k,rfl⟩ : ∃ m,k = m + 1:=⟨k - 1,by omega⟩
  have go : ∀ x,node_Node_Check.j0 (k + 1) x kind K V P = fin kind (x && pb (Rise K 1)) K V P:=fun x => by
    simp only [node_Node_Check.j0]
    exact own_loop kind K V P hl _ k 1 x rfl (Nat.le_refl _) (by omega)
  unfold node_Node_Check.f node_all_key.f node_all_value.f node_all_page.f
  simp only [Option.bind_some,go]
  rw [all_tx,all_tx,all_rd,fin_is,fin_is]
  simp only [key_p,val_p,page_p,Bool.false_and,Bool.false_eq_true,false_and,if_false,Bool.and_eq_true,pb_iff]
  by_cases h1 : ∀ j,j < K.length → Key (tx K j)
  · rw [if_pos h1]
    by_cases h2 : ∀ j,j < V.length → Val (tx V j)
    · rw [if_pos h2]
      congr 1
      have : ((((∀ j,j < P.length → Page (rd P (j : Int))) ∧ Rise K 1) ∧ Shape kind K V P) ↔ Good kind K V P):=⟨fun h => ⟨h.2,h1,h.1.2,h2,h.1.1⟩,fun h => ⟨⟨h.2.2.2.2,h.2.2.1⟩,h.1⟩⟩
      simp only [this]
    · rw [if_neg h2,if_neg (fun h => h2 h.2.2.2.1)]
  · rw [if_neg h1,if_neg (fun h => h1 h.2.1)]
end Go.Proofs.Ytlboglbgdjakmaa.PB

-- of any bytes the node: the program's Parse and the document's, over one plain reading
namespace Go.Proofs.Ytlboglbgdjakmaa.PB
open Go.RowKit Go.Proofs.YtlboglbgdjakmaaW.PrintWords Go.Proofs.YtlboglbgdjakmaaW.PrintLast Go.Proofs.YtlboglbgdjakmaaW.PrintMore Go.Proofs.Ytlboglbgdjakmaa.VarPlain Go.Proofs.Ytlboglbgdjakmaa.Tools
/-! Facts of the plain reading. -/
theorem rText_err (e most : Int) (he : e ≠ 0) : rText [] e most = ([],[],e):=by
  unfold rText rNum
  rw [if_neg he]
  unfold rRaw
  rw [if_neg (by simp),if_neg he]
theorem rNum_err (l : List UInt8) (e : Int) (most : Nat) (he : e ≠ 0) : rNum l e most = (0,l,e):=by unfold rNum;rw [if_neg he]
theorem rNum_bad (l : List UInt8) (most : Nat) (h : (rNum l 0 most).2.2 ≠ 0) : rNum l 0 most = (0,[],(rNum l 0 most).2.2):=by
  unfold rNum at h ⊢
  rw [if_pos rfl] at h ⊢
  split
  · split
    · rfl
    · rename_i h1 h2;rw [if_pos h1,if_neg h2] at h;exact absurd rfl h
  · rfl
theorem rNum_head (l : List UInt8) (most : Nat) (h : (rNum l 0 most).2.2 = 0) : l = enc (rNum l 0 most).1 ++ (rNum l 0 most).2.1 ∧ (rNum l 0 most).1 ≤ most:=by
  refine ⟨?_,(rNum_lt l 0 most).2.1⟩
  unfold rNum at h ⊢
  rw [if_pos rfl] at h ⊢
  by_cases h1 : (scanL 0 0 l).2.2 = 0
  · rw [if_pos h1] at h ⊢
    by_cases h2 : most < (scanL 0 0 l).1
    · rw [if_pos h2] at h;exact absurd h (by simp)
    · rw [if_neg h2]
      obtain ⟨rest,e1,e2⟩:=scanL_head l h1
      simp only
      have : l.drop (scanL 0 0 l).2.1 = rest:=by
        rw [e2]
        exact (congrArg (List.drop (enc (scanL 0 0 l).1).length) e1).trans List.drop_left
      rw [this];exact e1
  · rw [if_neg h1] at h;simp only at h;omega
theorem rText_bad (l : List UInt8) (most : Int) (h : (rText l 0 most).2.2 ≠ 0) : rText l 0 most = ([],[],(rText l 0 most).2.2):=by
  by_cases h1 : (rNum l 0 most.toNat).2.2 = 0
  · unfold rText at h ⊢
    rw [h1] at h ⊢
    unfold rRaw rFail at h ⊢
    have h20 : ¬ ((2 : Int) = 0):=by omega
    by_cases c : ((rNum l 0 most.toNat).2.1.length : Int) < ((rNum l 0 most.toNat).1 : Int)
    · simp only [if_pos c,if_neg h20,if_true]
    · simp only [if_neg c,if_true] at h;exact absurd rfl h
  · have:=rNum_bad l most.toNat h1
    unfold rText
    rw [this]
    unfold rRaw
    rw [if_neg (by simp),if_neg h1]
theorem rText_head (l : List UInt8) (most : Int) (h : (rText l 0 most).2.2 = 0) : l = encT (rText l 0 most).1 ++ (rText l 0 most).2.1 ∧ (rText l 0 most).1.length ≤ most.toNat:=by
  by_cases h1 : (rNum l 0 most.toNat).2.2 = 0
  · obtain ⟨e1,e2⟩:=rNum_head l most.toNat h1
    unfold rText at h ⊢
    rw [h1] at h ⊢
    unfold rRaw rFail at h ⊢
    by_cases c : ((rNum l 0 most.toNat).2.1.length : Int) < ((rNum l 0 most.toNat).1 : Int)
    · rw [if_pos c,if_pos rfl,if_neg (by omega)] at h;exact absurd h (by simp)
    · rw [if_neg c,if_pos rfl]
      simp only [Int.toNat_natCast]
      unfold encT
      have : (List.take (rNum l 0 most.toNat).1 (rNum l 0 most.toNat).2.1).length = (rNum l 0 most.toNat).1:=by rw [List.length_take];omega
      rw [this]
      refine ⟨?_,e2⟩
      rw [List.append_assoc,List.take_append_drop]
      exact e1
  · have:=rNum_bad l most.toNat h1
    unfold rText at h
    rw [this] at h
    unfold rRaw at h
    rw [if_neg (by simp),if_neg h1] at h
    exact absurd h h1
/-- One entry's reading: its key, value, page; what is left; the error. -/
def stepL (leaf : Bool) (l : List UInt8) : (ByteArray × ByteArray × Int) × List UInt8 × Int :=
  if leaf then ((mkS (rText l 0 16).1,mkS (rText (rText l 0 16).2.1 (rText l 0 16).2.2 32).1,0),(rText (rText l 0 16).2.1 (rText l 0 16).2.2 32).2)
  else ((mkS (rText l 0 16).1,mkS [],((rNum (rText l 0 16).2.1 (rText l 0 16).2.2 2147483647).1 : Int)),(rNum (rText l 0 16).2.1 (rText l 0 16).2.2 2147483647).2)
def entL (leaf : Bool) (x : ByteArray × ByteArray × Int) : List UInt8:=encT (lst x.1) ++ (if leaf then encT (lst x.2.1) else enc x.2.2.toNat)
def Small (x : ByteArray × ByteArray × Int) : Prop:=x.1.size ≤ 16 ∧ x.2.1.size ≤ 32 ∧ 0 ≤ x.2.2 ∧ x.2.2 ≤ 2147483647
theorem step_bad (leaf : Bool) (l : List UInt8) (h : (stepL leaf l).2.2 ≠ 0) : (stepL leaf l).2.1 = []:=by
  unfold stepL at h ⊢
  by_cases h1 : (rText l 0 16).2.2 = 0
  · cases leaf
    · simp only [Bool.false_eq_true,if_false,h1] at h ⊢
      rw [rNum_bad _ _ h]
    · simp only [if_true,h1] at h ⊢
      rw [rText_bad _ _ h]
  · have e:=rText_bad l 16 h1
    cases leaf
    · simp only [Bool.false_eq_true,if_false] at h ⊢
      rw [rNum_err _ _ _ h1,e]
    · simp only [if_true] at h ⊢
      rw [e,rText_err _ _ h1]
theorem step_good (leaf : Bool) (l : List UInt8) (h : (stepL leaf l).2.2 = 0) : l = entL leaf (stepL leaf l).1 ++ (stepL leaf l).2.1 ∧ (rText l 0 16).2.2 = 0 ∧ Small (stepL leaf l).1:=by
  have h1 : (rText l 0 16).2.2 = 0:=Classical.byContradiction fun h1 => by
    have e:=rText_bad l 16 h1
    unfold stepL at h
    cases leaf
    · simp only [Bool.false_eq_true,if_false] at h
      rw [rNum_err _ _ _ h1] at h
      exact h1 h
    · simp only [if_true] at h
      rw [e,rText_err _ _ h1] at h
      exact h1 h
  obtain ⟨e1,e2⟩:=rText_head l 16 h1
  refine ⟨?_,h1,?_⟩
  · unfold stepL at h ⊢
    unfold entL
    rw [h1] at h ⊢
    cases leaf
    · simp only [Bool.false_eq_true,if_false,lst_mk,Int.toNat_natCast] at h ⊢
      rw [List.append_assoc,← (rNum_head _ _ h).1];exact e1
    · simp only [if_true,lst_mk] at h ⊢
      rw [List.append_assoc,← (rText_head _ _ h).1];exact e1
  · unfold stepL at h ⊢
    rw [h1] at h ⊢
    unfold Small
    cases leaf
    · simp only [Bool.false_eq_true,if_false] at h ⊢
      have:=(rNum_head _ _ h).2
      rw [size_mk,size_mk]
      exact ⟨e2,by simp,Int.natCast_nonneg _,by omega⟩
    · simp only [if_true] at h ⊢
      have:=(rText_head _ _ h).2
      rw [size_mk,size_mk]
      exact ⟨e2,this,by omega,by omega⟩
theorem step_less (leaf : Bool) (l : List UInt8) (h : (stepL leaf l).2.2 = 0) : (stepL leaf l).2.1.length < l.length:=by
  have:=(step_good leaf l h).1
  have hl:=congrArg List.length this
  rw [List.length_append] at hl
  have : 0 < (entL leaf (stepL leaf l).1).length:=by
    unfold entL encT;rw [List.length_append,List.length_append];have:=enc_len_pos (lst (stepL leaf l).1.1).length;omega
  omega
abbrev Es:=List (ByteArray × ByteArray × Int)
def Ks (E : Es) : List ByteArray:=E.map (·.1)
def Vs (leaf : Bool) (E : Es) : List ByteArray:=if leaf then E.map (·.2.1) else []
def Ps (leaf : Bool) (E : Es) : List Int:=if leaf then [] else E.map (·.2.2)
/-- The entries, of so many, with what is left and the error. -/
def parseL (leaf : Bool) : Nat → Nat → List UInt8 → Es → Es × List UInt8 × Int
  | _,0,l,E => (E,l,0)
  | 0,_ + 1,l,E => (E,[],(stepL leaf l).2.2)
  | d + 1,c + 1,l,E => if (stepL leaf l).2.2 = 0 then parseL leaf d c (stepL leaf l).2.1 (E ++ [(stepL leaf l).1]) else (E,[],(stepL leaf l).2.2)
open Classical in
noncomputable def finish (kind : Int) (leaf : Bool) (R : Es × List UInt8 × Int) : Int × List ByteArray × List ByteArray × List Int × Int :=
  if R.2.2 ≠ 0 then (0,[],[],[],R.2.2) else if R.2.1 ≠ [] then (0,[],[],[],3) else if Good kind (Ks R.1) (Vs leaf R.1) (Ps leaf R.1) then (kind,Ks R.1,Vs leaf R.1,Ps leaf R.1,0) else (0,[],[],[],1)
theorem step_nil (leaf : Bool) : (stepL leaf []).2.2 ≠ 0:=fun h => by have:=step_less leaf [] h;simp at this
theorem ks_len (E : Es) : (Ks E).length = E.length:=by unfold Ks;rw [List.length_map]
theorem vs_len (leaf : Bool) (E : Es) : (Vs leaf E).length ≤ E.length:=by unfold Vs;cases leaf <;> simp
theorem ps_len (leaf : Bool) (E : Es) : (Ps leaf E).length ≤ E.length:=by unfold Ps;cases leaf <;> simp
/-! The program's Parse. -/
theorem own_end (k : Nat) (kind : Int) (leaf : Bool) (E : Es) (l : List UInt8) (c : Int) (e : Int) (h : c ≤ 0 ∨ e ≠ 0 ∧ l = []) (he : c ≤ 0 → e = 0 ∨ l = []) (hE : E.length ≤ 9000) (hk : 28000 < k) :
    node_Parse.l0 k kind c kind (Ks E) (Vs leaf E) (Ps leaf E) (mkS l) e = some (finish kind leaf (E,l,e)):=by
  obtain ⟨k,rfl⟩ : ∃ m,k = m + 2:=⟨k - 2,by omega⟩
  have hc:=check_is k kind (Ks E) (Vs leaf E) (Ps leaf E) (by rw [ks_len];omega) (by rw [ks_len];omega)
  have hj : node_Parse.j2 (k + 1) kind c false kind (Ks E) (Vs leaf E) (Ps leaf E) (mkS l) e = some (finish kind leaf (E,l,e)):=by
    simp only [node_Parse.j2]
    rw [if_neg (by simp),end_is,Option.bind_some,hc,lst_mk]
    simp only [Option.bind_some]
    unfold finish
    simp only
    have hle : e = 0 ∨ l = []:=by
      rcases h with h | h
      · exact he h
      · exact Or.inr h.2
    by_cases hl : l = []
    · subst hl
      rw [if_pos rfl]
      by_cases e0 : e = 0
      · subst e0
        have h10 : ¬ ((1 : Int) = 0):=by omega
        by_cases g : Good kind (Ks E) (Vs leaf E) (Ps leaf E)
        · simp only [if_pos g,if_true,ne_eq,not_true_eq_false,if_false]
        · simp only [if_neg g,if_true,ne_eq,not_true_eq_false,if_false,if_neg h10]
      · rw [if_neg e0,if_pos e0]
    · have e0 : e = 0:=hle.resolve_right hl
      rw [if_neg hl,if_neg (by omega),if_neg (by simp [e0]),if_pos hl]
  simp only [node_Parse.l0]
  by_cases hc : c > 0
  · rw [if_pos hc,err_is,Option.bind_some]
    have h2 : (e == 0) = false:=by
      rw [beq_eq_false_iff_ne];rcases h with h | h
      · omega
      · exact h.1
    rw [h2];exact hj
  · rw [if_neg hc];exact hj
theorem ks_add (E : Es) (x : ByteArray × ByteArray × Int) : Ks (E ++ [x]) = Ks E ++ [x.1]:=by unfold Ks;rw [List.map_append];rfl
theorem vs_add (E : Es) (x : ByteArray × ByteArray × Int) : Vs true (E ++ [x]) = Vs true E ++ [x.2.1]:=by unfold Vs;rw [if_pos rfl,if_pos rfl,List.map_append];rfl
theorem ps_add (E : Es) (x : ByteArray × ByteArray × Int) : Ps false (E ++ [x]) = Ps false E ++ [x.2.2]:=by unfold Ps;rw [if_neg (by simp),if_neg (by simp),List.map_append];rfl
theorem leaf_kind {kind : Int} {leaf : Bool} (h : leaf = true ↔ kind = 1) : (leaf = true ∧ kind = 1) ∨ (leaf = false ∧ kind ≠ 1):=by
  cases leaf
  · exact Or.inr ⟨rfl,fun e => by have:=h.2 e;simp at this⟩
  · exact Or.inl ⟨rfl,h.1 rfl⟩
theorem u64_pred {c : Nat} (h : c + 1 < 18446744073709551616) : IntKind.u64.wrap (((c + 1 : Nat) : Int) - 1) = (c : Int):=by
  rw [show ((c + 1 : Nat) : Int) - 1 = (c : Int) by omega];exact u64_in (by omega) (by omega)
theorem own_step (k : Nat) (kind : Int) (leaf : Bool) (hk1 : leaf = true ↔ kind = 1) (c : Nat) (hc : c + 1 < 18446744073709551616) (E : Es) (l : List UInt8) (hl : l.length ≤ 9000) (hE : E.length ≤ 9000) (hk : 28000 < k) :
    node_Parse.l0 (k + 2) kind ((c + 1 : Nat) : Int) kind (Ks E) (Vs leaf E) (Ps leaf E) (mkS l) 0 =
      node_Parse.l0 k kind (c : Int) kind (Ks (E ++ [(stepL leaf l).1])) (Vs leaf (E ++ [(stepL leaf l).1])) (Ps leaf (E ++ [(stepL leaf l).1])) (mkS (stepL leaf l).2.1) (stepL leaf l).2.2:=by
  have h0 : ((c + 1 : Nat) : Int) > 0:=by omega
  simp only [node_Parse.l0]
  rw [if_pos h0,err_is,Option.bind_some]
  simp only [node_Parse.j2]
  have e0 : ((0 : Int) == 0) = true:=rfl
  rw [e0,if_pos rfl,intext_is k (mkS l) 0 16 (Or.inl rfl) (by rw [size_mk];omega) (by rw [size_mk];omega) (by omega),Option.bind_some,lst_mk]
  have hlen : (rText l 0 16).2.1.length ≤ l.length:=by
    by_cases h : (rText l 0 16).2.2 = 0
    · have:=congrArg List.length (rText_head l 16 h).1;rw [List.length_append] at this;omega
    · rw [rText_bad l 16 h];simp
  have hr : (rText l 0 16).2.2 = 0 ∨ lst (mkS (rText l 0 16).2.1) = []:=by
    rw [lst_mk]
    by_cases h : (rText l 0 16).2.2 = 0
    · exact Or.inl h
    · rw [rText_bad l 16 h];exact Or.inr rfl
  have hv:=vs_len leaf E
  have hp:=ps_len leaf E
  rw [if_pos (by rw [ks_len];omega),Option.bind_some,u64_pred hc]
  rcases leaf_kind hk1 with ⟨rfl,rfl⟩ | ⟨rfl,hne⟩
  · rw [if_pos rfl,intext_is k _ _ 32 hr (by rw [size_mk];omega) (by rw [size_mk];omega) (by omega),Option.bind_some,if_pos (by omega),lst_mk,ks_add,vs_add]
    rfl
  · rw [if_neg hne,show (2147483647 : Int) = ((2147483647 : Nat) : Int) from rfl,innum_is k _ _ 2147483647 (by rw [size_mk];omega) (by rw [size_mk];omega),Option.bind_some,if_pos (by omega),lst_mk,ks_add,ps_add]
    have hw : ∀ n : Nat,n ≤ 2147483647 → wrap64 (n : Int) = (n : Int):=fun n h => by unfold wrap64;omega
    rw [hw _ (rNum_lt _ _ _).2.1]
    rfl
theorem own_loop2 (kind : Int) (leaf : Bool) (hk1 : leaf = true ↔ kind = 1) (d : Nat) : ∀ (k c : Nat) (l : List UInt8) (E : Es),c < 18446744073709551616 → l.length ≤ d → E.length + d < 9000 → 2 * d + 28005 < k →
    node_Parse.l0 k kind (c : Int) kind (Ks E) (Vs leaf E) (Ps leaf E) (mkS l) 0 = some (finish kind leaf (parseL leaf d c l E)):=by
  induction d with
  | zero =>
    intro k c l E hc hl hE hk
    obtain rfl : l = []:=List.length_eq_zero_iff.1 (by omega)
    cases c with
    | zero => exact own_end k kind leaf E [] _ 0 (Or.inl (by omega)) (fun _ => Or.inl rfl) (by omega) (by omega)
    | succ c =>
      obtain ⟨k,rfl⟩ : ∃ m,k = m + 2:=⟨k - 2,by omega⟩
      have hn:=step_nil leaf
      rw [own_step k kind leaf hk1 c hc E [] (by simp) (by omega) (by omega),step_bad leaf [] hn,own_end k kind leaf _ [] _ _ (Or.inr ⟨hn,rfl⟩) (fun _ => Or.inr rfl) (by rw [List.length_append];simp;omega) (by omega)]
      unfold finish parseL
      simp only [if_pos hn]
  | succ d ih =>
    intro k c l E hc hl hE hk
    cases c with
    | zero =>
      have : parseL leaf (d + 1) 0 l E = (E,l,0):=rfl
      rw [this]
      exact own_end k kind leaf E l _ 0 (Or.inl (by omega)) (fun _ => Or.inl rfl) (by omega) (by omega)
    | succ c =>
      obtain ⟨k,rfl⟩ : ∃ m,k = m + 2:=⟨k - 2,by omega⟩
      rw [own_step k kind leaf hk1 c hc E l (by omega) (by omega) (by omega),parseL]
      by_cases hn : (stepL leaf l).2.2 = 0
      · have hs:=step_less leaf l hn
        rw [if_pos hn,hn]
        exact ih k c _ _ (by omega) (by omega) (by rw [List.length_append,List.length_singleton];omega) (by omega)
      · rw [if_neg hn,step_bad leaf l hn,own_end k kind leaf _ [] _ _ (Or.inr ⟨hn,rfl⟩) (fun _ => Or.inr rfl) (by rw [List.length_append,List.length_singleton];omega) (by omega)]
        unfold finish
        simp only [if_pos hn]
/-- What Parse tells. -/
noncomputable def parsed (kind : Int) (l : List UInt8) : Int × List ByteArray × List ByteArray × List Int × Int :=
  if kind = 1 ∨ kind = 2 then (if (scanL 0 0 l).2.2 = 0 then finish kind (kind == 1) (parseL (kind == 1) 4000 (scanL 0 0 l).1 (l.drop (scanL 0 0 l).2.1) []) else (0,[],[],[],((scanL 0 0 l).2.2 : Int))) else (0,[],[],[],13)
theorem parse_is (k : Nat) (kind : Int) (l : List UInt8) (hl : l.length ≤ 3900) (hk : 60000 < k) : node_Parse.f k kind (mkS l) = some (parsed kind l):=by
  obtain ⟨k,rfl⟩ : ∃ m,k = m + 1:=⟨k - 1,by omega⟩
  have good : kind = 1 ∨ kind = 2 → node_Parse.j0 (k + 1) kind (mkS l) false kind = some (parsed kind l):=fun h => by
    have hN:=innum_is k (mkS l) 0 18446744073709551615 (by rw [size_mk];omega) (by rw [size_mk];omega)
    have hS:=scanL_le l 0 0 (by omega) (by omega)
    rw [lst_mk] at hN
    simp only [node_Parse.j0,varint_Of.f]
    rw [if_neg (by simp),Option.bind_some]
    simp only
    rw [show (18446744073709551615 : Int) = ((18446744073709551615 : Nat) : Int) from rfl,hN,Option.bind_some]
    simp only
    unfold parsed
    rw [if_pos h]
    have e1 : ([] : List ByteArray) = Ks []:=rfl
    have e2 : ([] : List ByteArray) = Vs (kind == 1) []:=by unfold Vs;cases (kind == 1) <;> rfl
    have e3 : ([] : List Int) = Ps (kind == 1) []:=by unfold Ps;cases (kind == 1) <;> rfl
    by_cases h1 : (scanL 0 0 l).2.2 = 0
    · have hr : rNum l 0 18446744073709551615 = ((scanL 0 0 l).1,l.drop (scanL 0 0 l).2.1,0):=by
        unfold rNum;rw [if_pos rfl,if_pos h1,if_neg (by omega)]
      rw [hr,if_pos h1]
      simp only
      have:=own_loop2 kind (kind == 1) (by rw [beq_iff_eq]) 4000 k (scanL 0 0 l).1 (l.drop (scanL 0 0 l).2.1) [] hS.1 (by rw [List.length_drop];omega) (by simp) (by omega)
      rw [← e1,← e2,← e3] at this
      exact this
    · have hr : rNum l 0 18446744073709551615 = (0,[],((scanL 0 0 l).2.2 : Int)):=by
        unfold rNum;rw [if_pos rfl,if_neg h1]
      rw [hr,if_neg h1]
      simp only
      have:=own_end k kind (kind == 1) [] [] 0 ((scanL 0 0 l).2.2 : Int) (Or.inl (by omega)) (fun _ => Or.inr rfl) (by simp) (by omega)
      rw [← e1,← e2,← e3] at this
      rw [show ((0 : Nat) : Int) = 0 from rfl,this]
      unfold finish
      simp only
      rw [if_pos (by omega)]
  unfold node_Parse.f
  by_cases h1 : kind = 1
  · rw [if_pos h1];exact good (Or.inl h1)
  · rw [if_neg h1]
    by_cases h2 : kind = 2
    · have : (kind != 2) = false:=by rw [h2];rfl
      rw [this];exact good (Or.inr h2)
    · have : (kind != 2) = true:=by rw [bne_iff_ne];exact h2
      rw [this]
      simp only [node_Parse.j0]
      unfold parsed
      rw [if_pos trivial,if_neg (by omega)]
end Go.Proofs.Ytlboglbgdjakmaa.PB

-- a node's bytes
namespace Go.Proofs.Ytlboglbgdjakmaa.PB
open Go.RowKit Go.Proofs.YtlboglbgdjakmaaW.PrintWords Go.Proofs.YtlboglbgdjakmaaW.PrintLast Go.Proofs.YtlboglbgdjakmaaW.PrintMore Go.Proofs.Ytlboglbgdjakmaa.VarPlain Go.Proofs.Ytlboglbgdjakmaa.Tools
theorem rdOf_map {α : Type} (f : α → ByteArray) (E : List α) (i : Nat) (h : i < E.length) : rdOf ByteArray.empty (E.map f) (i : Int) = f E[i]:=by
  unfold rdOf;rw [Int.toNat_natCast,List.getD_eq_getElem?_getD,List.getElem?_map,List.getElem?_eq_getElem h];rfl
theorem rd_map {α : Type} (f : α → Int) (E : List α) (i : Nat) (h : i < E.length) : rd (E.map f) (i : Int) = f E[i]:=by
  unfold rd;rw [Int.toNat_natCast,List.getD_eq_getElem?_getD,List.getElem?_map,List.getElem?_eq_getElem h];rfl
theorem encT_len (l : List UInt8) (h : l.length ≤ 1000) : (encT l).length ≤ 1010:=by
  unfold encT;rw [List.length_append];have:=enc_len_u64 (x:=l.length) (by omega);omega
theorem entL_len (leaf : Bool) (x : ByteArray × ByteArray × Int) (h : Small x) : (entL leaf x).length ≤ 2020 ∧ 0 < (entL leaf x).length:=by
  obtain ⟨h1,h2,h3,h4⟩:=h
  rw [size_lst] at h1 h2
  unfold entL
  have a:=encT_len (lst x.1) (by omega)
  have b:=encT_len (lst x.2.1) (by omega)
  have c:=enc_len_u64 (x:=x.2.2.toNat) (by omega)
  have p : 0 < (encT (lst x.1)).length:=by unfold encT;rw [List.length_append];have:=enc_len_pos (lst x.1).length;omega
  rw [List.length_append]
  cases leaf
  · simp only [Bool.false_eq_true,if_false];omega
  · simp only [if_true];omega
theorem entry_is (k : Nat) (kind : Int) (leaf : Bool) (hk1 : leaf = true ↔ kind = 1) (E : Es) (i : Nat) (hi : i < E.length) (hs : Small E[i]) (hk : 10 < k) :
    node_Node_entry.f k kind (Ks E) (Vs leaf E) (Ps leaf E) (i : Int) = some (mkS (entL leaf E[i])):=by
  have hl:=entL_len leaf E[i] hs
  obtain ⟨h1,h2,h3,h4⟩:=hs
  have h1':=h1;have h2':=h2
  rw [size_lst] at h1' h2'
  have e1 : rdOf ByteArray.empty (Ks E) (i : Int) = E[i].1:=rdOf_map _ E i hi
  have t1:=text_is k E[i].1 (by omega) hk
  have L1:=encT_len (lst E[i].1) (by omega)
  have L2:=encT_len (lst E[i].2.1) (by omega)
  have L3:=enc_len_u64 (x:=E[i].2.2.toNat) (by omega)
  have c1 : (i : Int) < ((Ks E).length : Int):=by rw [ks_len];omega
  unfold node_Node_entry.f
  rcases leaf_kind hk1 with ⟨rfl,rfl⟩ | ⟨rfl,hne⟩
  · have e2 : rdOf ByteArray.empty (Vs true E) (i : Int) = E[i].2.1:=rdOf_map _ E i hi
    have c2 : (i : Int) < ((Vs true E).length : Int):=by unfold Vs;rw [if_pos rfl,List.length_map];omega
    rw [if_pos rfl,if_pos (Int.natCast_nonneg _),if_pos c1,e1,t1,Option.bind_some,if_pos c2,e2,text_is k E[i].2.1 (by omega) hk,Option.bind_some]
    rw [if_pos (by rw [size_mk,size_mk];omega),append_mk]
    rfl
  · have e2 : rd (Ps false E) (i : Int) = E[i].2.2:=rd_map _ E i hi
    have c2 : (i : Int) < ((Ps false E).length : Int):=by unfold Ps;rw [if_neg (by simp),List.length_map];omega
    have hn : IntKind.u64.wrap E[i].2.2 = ((E[i].2.2.toNat : Nat) : Int):=by rw [u64_in h3 (by omega)];omega
    rw [if_neg hne,if_pos (Int.natCast_nonneg _),if_pos c1,e1,t1,Option.bind_some,if_pos c2,e2,hn,num_is k E[i].2.2.toNat (by omega) hk,Option.bind_some]
    rw [if_pos (by rw [size_mk,size_mk];omega),append_mk]
    rfl
theorem pack_loop (kind : Int) (leaf : Bool) (hk1 : leaf = true ↔ kind = 1) (E : Es) (hE : E.length ≤ 4000) (hs : ∀ x ∈ E,Small x) (d : Nat) : ∀ (k i : Nat) (acc : List UInt8),E.length - i = d → i ≤ E.length → acc.length ≤ 10 + 2020 * i → d + 20 < k →
    node_Node_Pack.l0 k kind (Ks E) (Vs leaf E) (Ps leaf E) i acc = some (mkS (acc ++ (E.drop i).flatMap (entL leaf))):=by
  induction d with
  | zero =>
    intro k i acc hd hi ha hk
    obtain ⟨k,rfl⟩ : ∃ m,k = m + 1:=⟨k - 1,by omega⟩
    simp only [node_Node_Pack.l0]
    rw [if_neg (by rw [ks_len];omega),List.drop_eq_nil_of_le (by omega),List.flatMap_nil,List.append_nil]
    rfl
  | succ d ih =>
    intro k i acc hd hi ha hk
    obtain ⟨k,rfl⟩ : ∃ m,k = m + 1:=⟨k - 1,by omega⟩
    have hlt : i < E.length:=by omega
    have hl:=entL_len leaf E[i] (hs _ (List.getElem_mem hlt))
    simp only [node_Node_Pack.l0]
    rw [if_pos (by rw [ks_len];omega),entry_is k kind leaf hk1 E i hlt (hs _ (List.getElem_mem hlt)) (by omega),Option.bind_some,if_pos (by rw [size_mk];omega)]
    have : (mkS (entL leaf E[i])).data.toList = entL leaf E[i]:=rfl
    rw [this,ih k (i + 1) _ (by omega) (by omega) (by rw [List.length_append];omega) (by omega),List.drop_eq_getElem_cons hlt,List.flatMap_cons,List.append_assoc]
theorem pack_is (k : Nat) (kind : Int) (leaf : Bool) (hk1 : leaf = true ↔ kind = 1) (E : Es) (hE : E.length ≤ 4000) (hs : ∀ x ∈ E,Small x) (hk : 4100 < k) :
    node_Node_Pack.f k kind (Ks E) (Vs leaf E) (Ps leaf E) = some (mkS (enc E.length ++ E.flatMap (entL leaf))):=by
  unfold node_Node_Pack.f
  have hl:=enc_len_u64 (x:=E.length) (by omega)
  rw [ks_len,if_pos (by omega),num_is k E.length (by omega) (by omega),Option.bind_some,if_pos (by rw [size_mk];omega)]
  have : (mkS (enc E.length)).data.toList = enc E.length:=rfl
  rw [this,pack_loop kind leaf hk1 E hE hs E.length k 0 _ (by omega) (by omega) (by omega) (by omega),List.drop_zero]
/-! And back. -/
/-! Bytes that were made are read. -/
def Canon (leaf : Bool) (x : ByteArray × ByteArray × Int) : Prop:=if leaf then x.2.2 = 0 else x.2.1 = mkS []
theorem step_made (leaf : Bool) (x : ByteArray × ByteArray × Int) (hs : Small x) (hc : Canon leaf x) (rest : List UInt8) : stepL leaf (entL leaf x ++ rest) = (x,rest,0):=by
  obtain ⟨h1,h2,h3,h4⟩:=hs
  rw [size_lst] at h1 h2
  unfold stepL entL
  obtain ⟨a,b,p⟩:=x
  simp only at h1 h2 h3 h4 hc ⊢
  unfold Canon at hc
  rw [List.append_assoc,rText_enc (lst a) _ 16 (by omega) (by omega)]
  cases leaf
  · simp only [Bool.false_eq_true,if_false] at hc ⊢
    rw [rNum_enc p.toNat rest 2147483647 (by omega) (by omega)]
    simp only [mk_lst]
    rw [hc,Int.toNat_of_nonneg h3]
  · simp only [if_true] at hc ⊢
    rw [rText_enc (lst b) _ 32 (by omega) (by omega)]
    simp only [mk_lst]
    rw [hc]
theorem parse_made (leaf : Bool) (E : Es) : ∀ (d : Nat) (acc : Es) (rest : List UInt8),(∀ x ∈ E,Small x ∧ Canon leaf x) → E.length ≤ d → parseL leaf d E.length (E.flatMap (entL leaf) ++ rest) acc = (acc ++ E,rest,0):=by
  induction E with
  | nil => intro d acc rest _ _;rw [List.length_nil,parseL];simp
  | cons x E ih =>
    intro d acc rest hs hd
    rw [List.length_cons] at hd
    obtain ⟨d,rfl⟩ : ∃ m,d = m + 1:=⟨d - 1,by omega⟩
    have hx:=hs x List.mem_cons_self
    rw [List.length_cons,parseL,List.flatMap_cons,List.append_assoc,step_made leaf x hx.1 hx.2,if_pos rfl,ih d _ _ (fun y hy => hs y (List.mem_cons_of_mem _ hy)) (by omega),List.append_assoc]
    rfl
theorem parsed_made (kind : Int) (leaf : Bool) (hk1 : leaf = true ↔ kind = 1) (E : Es) (hs : ∀ x ∈ E,Small x ∧ Canon leaf x) (hE : E.length ≤ 4000) (hg : Good kind (Ks E) (Vs leaf E) (Ps leaf E)) :
    parsed kind (enc E.length ++ E.flatMap (entL leaf)) = (kind,Ks E,Vs leaf E,Ps leaf E,0):=by
  have hk : kind = 1 ∨ kind = 2:=by
    have:=hg.1;unfold Shape at this;omega
  have hb : (kind == 1) = leaf:=by rw [Bool.eq_iff_iff,beq_iff_eq];exact hk1.symm
  unfold parsed
  rw [if_pos hk,scan_num E.length _ (by omega)]
  simp only [if_true]
  have:=parse_made leaf E 4000 [] [] hs hE
  rw [List.append_nil,List.nil_append] at this
  rw [List.drop_left,hb,this]
  unfold finish
  simp only [ne_eq,not_true_eq_false,if_false,if_pos hg]
end Go.Proofs.Ytlboglbgdjakmaa.PB

-- the document's bytes of an entry
namespace Go.Proofs.Ytlboglbgdjakmaa.PB
open Go.RowKit Go.Proofs.YtlboglbgdjakmaaW.PrintWords Go.Proofs.YtlboglbgdjakmaaW.PrintLast Go.Proofs.YtlboglbgdjakmaaW.PrintMore Go.Proofs.Ytlboglbgdjakmaa.VarPlain Go.Proofs.Ytlboglbgdjakmaa.Tools
end Go.Proofs.Ytlboglbgdjakmaa.PB

-- Cut of the first law package
namespace Go.Proofs.Ytlboglbgdjakmaa.PB
open Go.RowKit Go.Proofs.YtlboglbgdjakmaaW.PrintWords Go.Proofs.YtlboglbgdjakmaaW.PrintLast Go.Proofs.YtlboglbgdjakmaaW.PrintMore Go.Proofs.Ytlboglbgdjakmaa.VarPlain
theorem cut_is (s : ByteArray) (n : Nat) : dowserlaw01_Cut.f s (n : Int) = some (mkS ((lst s).take n)):=by
  unfold dowserlaw01_Cut.f
  by_cases h : (s.size : Int) > n
  · have h2 : (n : Int) ≤ (s.size : Int):=by omega
    rw [if_pos h,if_pos (Int.natCast_nonneg _),if_pos h2,Int.toNat_natCast,extract_to]
  · rw [if_neg h,List.take_of_length_le (by rw [← size_lst];omega)];rfl
theorem cut_len (s : ByteArray) (n : Nat) : (mkS ((lst s).take n)).size ≤ n:=by rw [size_mk,List.length_take];omega
end Go.Proofs.Ytlboglbgdjakmaa.PB

-- few entries of a node, and its own copy
namespace Go.Proofs.Ytlboglbgdjakmaa.PB
open Go.RowKit Go.Proofs.YtlboglbgdjakmaaW.PrintWords Go.Proofs.YtlboglbgdjakmaaW.PrintLast Go.Proofs.YtlboglbgdjakmaaW.PrintMore Go.Proofs.Ytlboglbgdjakmaa.VarPlain Go.Proofs.Ytlboglbgdjakmaa.Tools
/-- A text cut. -/
def cutT (n : Nat) (s : ByteArray) : ByteArray:=mkS ((lst s).take n)
theorem tx_get (l : List ByteArray) (i : Nat) (h : i < l.length) : rdOf ByteArray.empty l (i : Int) = l[i]:=by
  unfold rdOf;rw [Int.toNat_natCast,List.getD_eq_getElem?_getD,List.getElem?_eq_getElem h];rfl
theorem rd_get (l : List Int) (i : Nat) (h : i < l.length) : rd l (i : Int) = l[i]:=by
  unfold rd;rw [Int.toNat_natCast,List.getD_eq_getElem?_getD,List.getElem?_eq_getElem h];rfl
theorem few_l2 (a b : Int) (k1 k2 : List ByteArray) (P : List Int) (A B : List ByteArray) (d : Nat) : ∀ (k i : Nat) (acc : List Int),min P.length 30 - i = d → acc.length ≤ i → i ≤ 30 → d < k →
    dowserlaw09_few.l2 k (i : Int) a k1 k2 P b A B acc = some (b,A,B,acc ++ ((P.take 30).drop i)):=by
  induction d with
  | zero =>
    intro k i acc hd ha hi hk
    obtain ⟨k,rfl⟩ : ∃ m,k = m + 1:=⟨k - 1,by omega⟩
    have hn : (P.take 30).drop i = []:=List.drop_eq_nil_of_le (by rw [List.length_take];omega)
    rw [hn,List.append_nil]
    simp only [dowserlaw09_few.l2]
    by_cases h1 : (i : Int) < (P.length : Int)
    · rw [if_pos h1,if_neg (by omega)]
    · rw [if_neg h1]
  | succ d ih =>
    intro k i acc hd ha hi hk
    obtain ⟨k,rfl⟩ : ∃ m,k = m + 1:=⟨k - 1,by omega⟩
    have h1 : i < P.length:=by omega
    simp only [dowserlaw09_few.l2]
    rw [if_pos (by omega),if_pos (by omega),if_pos (by omega),if_pos (by omega),rd_get P i h1,w_succ (by omega),ih k (i + 1) _ (by omega) (by rw [List.length_append,List.length_singleton];omega) (by omega) (by omega)]
    have h2 : (P.take 30).drop i = P[i] :: (P.take 30).drop (i + 1):=by
      rw [List.drop_eq_getElem_cons (by rw [List.length_take];omega),List.getElem_take]
    rw [h2,List.append_assoc,List.singleton_append]
theorem few_l1 (a b : Int) (k1 : List ByteArray) (V : List ByteArray) (P : List Int) (A : List ByteArray) (d : Nat) : ∀ (k i : Nat) (acc : List ByteArray),min V.length 30 - i = d → acc.length ≤ i → i ≤ 30 → d + 40 < k →
    dowserlaw09_few.l1 k (i : Int) a k1 V P b A acc = some (b,A,acc ++ ((V.take 30).map (cutT 34)).drop i,P.take 30):=by
  induction d with
  | zero =>
    intro k i acc hd ha hi hk
    obtain ⟨k,rfl⟩ : ∃ m,k = m + 2:=⟨k - 2,by omega⟩
    have hn : ((V.take 30).map (cutT 34)).drop i = []:=List.drop_eq_nil_of_le (by rw [List.length_map,List.length_take];omega)
    have h3 : dowserlaw09_few.j3 (k + 1) a k1 V P b A acc = some (b,A,acc,P.take 30):=by
      simp only [dowserlaw09_few.j3]
      have:=few_l2 a b k1 V P A acc (min P.length 30 - 0) k 0 [] rfl (by simp) (by omega) (by omega)
      rw [List.drop_zero,List.nil_append] at this
      exact this
    rw [hn,List.append_nil]
    simp only [dowserlaw09_few.l1]
    by_cases h1 : (i : Int) < (V.length : Int)
    · rw [if_pos h1,if_neg (by omega),h3]
    · rw [if_neg h1,h3]
  | succ d ih =>
    intro k i acc hd ha hi hk
    obtain ⟨k,rfl⟩ : ∃ m,k = m + 1:=⟨k - 1,by omega⟩
    have h1 : i < V.length:=by omega
    simp only [dowserlaw09_few.l1]
    rw [if_pos (by omega),if_pos (by omega),if_pos (by omega),tx_get V i h1,show (34 : Int) = ((34 : Nat) : Int) from rfl,cut_is,Option.bind_some,if_pos (by omega),w_succ (by omega),
      ih k (i + 1) _ (by omega) (by rw [List.length_append,List.length_singleton];omega) (by omega) (by omega)]
    have h2 : ((V.take 30).map (cutT 34)).drop i = cutT 34 V[i] :: ((V.take 30).map (cutT 34)).drop (i + 1):=by
      rw [List.drop_eq_getElem_cons (by rw [List.length_map,List.length_take];omega),List.getElem_map,List.getElem_take]
    rw [h2,List.append_assoc,List.singleton_append];rfl
theorem few_l0 (a b : Int) (K V : List ByteArray) (P : List Int) (d : Nat) : ∀ (k i : Nat) (acc : List ByteArray),min K.length 30 - i = d → acc.length ≤ i → i ≤ 30 → d + 80 < k →
    dowserlaw09_few.l0 k (i : Int) a K V P b acc = some (b,acc ++ ((K.take 30).map (cutT 18)).drop i,(V.take 30).map (cutT 34),P.take 30):=by
  induction d with
  | zero =>
    intro k i acc hd ha hi hk
    obtain ⟨k,rfl⟩ : ∃ m,k = m + 2:=⟨k - 2,by omega⟩
    have hn : ((K.take 30).map (cutT 18)).drop i = []:=List.drop_eq_nil_of_le (by rw [List.length_map,List.length_take];omega)
    have h3 : dowserlaw09_few.j1 (k + 1) a K V P b acc = some (b,acc,(V.take 30).map (cutT 34),P.take 30):=by
      simp only [dowserlaw09_few.j1]
      have:=few_l1 a b K V P acc (min V.length 30 - 0) k 0 [] rfl (by simp) (by omega) (by omega)
      rw [List.drop_zero,List.nil_append] at this
      exact this
    rw [hn,List.append_nil]
    simp only [dowserlaw09_few.l0]
    by_cases h1 : (i : Int) < (K.length : Int)
    · rw [if_pos h1,if_neg (by omega),h3]
    · rw [if_neg h1,h3]
  | succ d ih =>
    intro k i acc hd ha hi hk
    obtain ⟨k,rfl⟩ : ∃ m,k = m + 1:=⟨k - 1,by omega⟩
    have h1 : i < K.length:=by omega
    simp only [dowserlaw09_few.l0]
    rw [if_pos (by omega),if_pos (by omega),if_pos (by omega),tx_get K i h1,show (18 : Int) = ((18 : Nat) : Int) from rfl,cut_is,Option.bind_some,if_pos (by omega),w_succ (by omega),
      ih k (i + 1) _ (by omega) (by rw [List.length_append,List.length_singleton];omega) (by omega) (by omega)]
    have h2 : ((K.take 30).map (cutT 18)).drop i = cutT 18 K[i] :: ((K.take 30).map (cutT 18)).drop (i + 1):=by
      rw [List.drop_eq_getElem_cons (by rw [List.length_map,List.length_take];omega),List.getElem_map,List.getElem_take]
    rw [h2,List.append_assoc,List.singleton_append];rfl
theorem few_is (k : Nat) (a : Int) (K V : List ByteArray) (P : List Int) (hk : 200 < k) :
    dowserlaw09_few.f k a K V P = some (a,(K.take 30).map (cutT 18),(V.take 30).map (cutT 34),P.take 30):=by
  unfold dowserlaw09_few.f
  have:=few_l0 a a K V P (min K.length 30 - 0) k 0 [] rfl (by simp) (by omega) (by omega)
  rw [List.drop_zero,List.nil_append] at this
  exact this
theorem own09_is (a : Int) (K V : List ByteArray) (P : List Int) (hK : K.length ≤ 1000) (hV : V.length ≤ 1000) (hP : P.length ≤ 1000) : dowserlaw09_own.f a K V P = some (a,K,V,P):=by
  unfold dowserlaw09_own.f
  rw [Option.bind_some,if_pos (by rw [List.length_nil];omega),Option.bind_some,if_pos (by rw [List.length_nil];omega),Option.bind_some,if_pos (by rw [List.length_nil];omega)]
  rfl
end Go.Proofs.Ytlboglbgdjakmaa.PB

-- texts' order: strict, and of any two unlike one is the less; a number's last bit
namespace Go.Proofs.Ytlboglbgdjakmaa.Less
open Go Go.RowKit
theorem u8_lt {a b : UInt8} : a < b ↔ a.toNat < b.toNat:=UInt8.lt_iff_toNat_lt
theorem bl_irrefl : ∀ a : List UInt8,Op.bytesLess a a = false
  | [] => rfl
  | x :: a => by
    have h : ¬ x < x:=by rw [u8_lt];omega
    simp only [Op.bytesLess,bl_irrefl a,Bool.and_false,Bool.or_false,decide_eq_false_iff_not];exact h
theorem bl_trans : ∀ a b c : List UInt8,Op.bytesLess a b = true → Op.bytesLess b c = true → Op.bytesLess a c = true
  | _,[],_,h,_ => by simp [Op.bytesLess] at h
  | _,_ :: _,[],_,h => by simp [Op.bytesLess] at h
  | [],_ :: _,_ :: _,_,_ => rfl
  | x :: a,y :: b,z :: c,h1,h2 => by
    simp only [Op.bytesLess,Bool.or_eq_true,decide_eq_true_iff,Bool.and_eq_true,beq_iff_eq] at h1 h2 ⊢
    rcases h1 with h1 | ⟨rfl,h1⟩
    · rcases h2 with h2 | ⟨rfl,h2⟩
      · rw [u8_lt] at *;omega
      · exact Or.inl h1
    · rcases h2 with h2 | ⟨rfl,h2⟩
      · exact Or.inl h2
      · exact Or.inr ⟨rfl,bl_trans a b c h1 h2⟩
theorem bl_tri : ∀ a b : List UInt8,Op.bytesLess a b = false → a ≠ b → Op.bytesLess b a = true
  | [],[],_,h => absurd rfl h
  | x :: a,[],_,_ => rfl
  | [],_ :: _,h,_ => by simp [Op.bytesLess] at h
  | x :: a,y :: b,h1,h2 => by
    simp only [Op.bytesLess,Bool.or_eq_false_iff,decide_eq_false_iff_not,Bool.and_eq_false_iff,beq_eq_false_iff_ne] at h1
    simp only [Op.bytesLess,Bool.or_eq_true,decide_eq_true_iff,Bool.and_eq_true,beq_iff_eq]
    by_cases e : x = y
    · subst e
      refine Or.inr ⟨rfl,bl_tri a b (h1.2.resolve_left (fun h => h rfl)) (fun h => h2 (by rw [h]))⟩
    · left
      have h3:=h1.1
      have h4 : x.toNat ≠ y.toNat:=fun h => e (UInt8.toNat_inj.1 h)
      rw [u8_lt] at *;omega
theorem bl_asymm {a b : List UInt8} (h : Op.bytesLess a b = true) : Op.bytesLess b a = false:=by
  cases e : Op.bytesLess b a with
  | false => rfl
  | true => have:=bl_trans a b a h e;rw [bl_irrefl] at this;cases this
theorem bl_le {a b : List UInt8} : (Op.bytesLess a b || a == b) = !Op.bytesLess b a:=by
  cases h : Op.bytesLess a b with
  | true => rw [bl_asymm h];rfl
  | false =>
    rw [Bool.false_or]
    by_cases e : a = b
    · subst e;rw [bl_irrefl];simp
    · rw [bl_tri a b h e];simp [e]
theorem and1 (a : Int) : Go.bits .and .i64 a 1 = 0 ∨ Go.bits .and .i64 a 1 = 1:=by
  have h : Go.bits .and .i64 a 1 = IntKind.i64.wrap (((BitVec.ofInt 64 a).toNat &&& 1 : Nat) : Int):=by
    unfold Go.bits
    simp only [BitVec.toNat_and]
    rfl
  rw [h,Nat.and_one_is_mod,IntKind.wrap_i64]
  omega
end Go.Proofs.Ytlboglbgdjakmaa.Less

-- the fixed fact of layer 9
namespace Go.Proofs.Ytlboglbgdjakmaa.PB
open Go.RowKit Go.Proofs.YtlboglbgdjakmaaW.PrintWords Go.Proofs.YtlboglbgdjakmaaW.PrintLast Go.Proofs.YtlboglbgdjakmaaW.PrintMore Go.Proofs.Ytlboglbgdjakmaa.VarPlain Go.Proofs.Ytlboglbgdjakmaa.Tools
theorem awake09_is (k : Nat) (hk : 60000 < k) : dowserlaw09_awake.f k = some true:=by
  have ha : (⟨#[97]⟩ : ByteArray) = mkS [97]:=rfl
  have hx : (⟨#[120]⟩ : ByteArray) = mkS [120]:=rfl
  have hk1 : true = true ↔ (1 : Int) = 1:=⟨fun _ => rfl,fun _ => rfl⟩
  have hs : Small (mkS [97],mkS [120],0) ∧ Canon true (mkS [97],mkS [120],0):=⟨⟨by rw [size_mk];simp,by rw [size_mk];simp,by simp,by simp⟩,rfl⟩
  have hs' : ∀ x ∈ ([(mkS [97],mkS [120],0)] : Es),Small x ∧ Canon true x:=fun x hx => by
    rcases List.mem_singleton.1 hx with rfl;exact hs
  have hg : Good 1 (Ks [(mkS [97],mkS [120],0)]) (Vs true [(mkS [97],mkS [120],0)]) (Ps true [(mkS [97],mkS [120],0)]):=by
    have tk : tx (Ks [(mkS [97],mkS [120],0)]) 0 = mkS [97]:=rfl
    have tv : tx (Vs true [(mkS [97],mkS [120],0)]) 0 = mkS [120]:=rfl
    refine ⟨Or.inl ⟨rfl,rfl,rfl⟩,fun j hj => ?_,fun j h1 hj => ?_,fun j hj => ?_,fun j hj => ?_⟩
    · rw [ks_len] at hj
      obtain rfl : j = 0:=by simp at hj;omega
      rw [tk]
      refine ⟨by rw [toList_lst,lst_mk];simp,by rw [size_mk];simp⟩
    · rw [ks_len] at hj;simp at hj;omega
    · have:=vs_len true [(mkS [97],mkS [120],0)]
      obtain rfl : j = 0:=by simp at this;omega
      rw [tv];unfold Val;rw [size_mk];simp
    · simp [Ps] at hj
  have hp:=pack_is k 1 true hk1 [(mkS [97],mkS [120],0)] (by simp) (fun x hx => (hs' x hx).1) (by omega)
  have hm:=parsed_made 1 true hk1 [(mkS [97],mkS [120],0)] hs' (by simp) hg
  have eb : enc ([(mkS [97],mkS [120],0)] : Es).length ++ ([(mkS [97],mkS [120],0)] : Es).flatMap (entL true) = [1,1,97,1,120]:=by
    simp only [List.length_singleton,List.flatMap_cons,List.flatMap_nil,List.append_nil,entL,encT,lst_mk,if_true]
    rw [enc_small (by omega)];rfl
  rw [eb] at hp hm
  have hq:=parse_is k 1 [1,1,97,1,120] (by simp) hk
  rw [hm] at hq
  unfold dowserlaw09_awake.f
  rw [ha,hx]
  have hp' : node_Node_Pack.f k 1 [mkS [97]] [mkS [120]] [] = some (mkS [1,1,97,1,120]):=hp
  rw [hp',Option.bind_some,hq,Option.bind_some,if_pos ⟨by rw [toList_lst,lst_mk],rfl,rfl⟩]
end Go.Proofs.Ytlboglbgdjakmaa.PB

-- the node that may be, made of any one
namespace Go.Proofs.Ytlboglbgdjakmaa.PB
open Go.RowKit Go.Proofs.YtlboglbgdjakmaaW.PrintWords Go.Proofs.YtlboglbgdjakmaaW.PrintLast Go.Proofs.YtlboglbgdjakmaaW.PrintMore Go.Proofs.Ytlboglbgdjakmaa.VarPlain Go.Proofs.Ytlboglbgdjakmaa.Tools Go.Proofs.Ytlboglbgdjakmaa.Less
/-- Entry i. -/
def entR (leaf : Bool) (V : List ByteArray) (P : List Int) (i : Nat) (k : ByteArray) : ByteArray × ByteArray × Int :=
  if leaf then (k,if i < V.length then cutT 32 (rdOf ByteArray.empty V (i : Int)) else mkS [],0) else (k,mkS [],if i < P.length then mx 0 (mn (rd P (i : Int)) 2147483647) else 0)
/-- The entries from place i on, behind the key 'last'. -/
def rightL (leaf : Bool) (K V : List ByteArray) (P : List Int) : Nat → Nat → ByteArray → Es
  | 0,_,_ => []
  | d + 1,i,last => if Op.bytesLess (lst last) (lst (cutT 16 (rdOf ByteArray.empty K (i : Int)))) = true then entR leaf V P i (cutT 16 (rdOf ByteArray.empty K (i : Int))) :: rightL leaf K V P d (i + 1) (cutT 16 (rdOf ByteArray.empty K (i : Int))) else rightL leaf K V P d (i + 1) last
def doneR (leaf : Bool) (κ : Int) (E : Es) : Int × List ByteArray × List ByteArray × List Int:=if E.length = 0 then (1,Ks E,Vs leaf E,Ps leaf E) else (κ,Ks E,Vs leaf E,Ps leaf E)
theorem vs_add' (E : Es) (x : ByteArray × ByteArray × Int) : Vs false (E ++ [x]) = Vs false E:=rfl
theorem ps_add' (E : Es) (x : ByteArray × ByteArray × Int) : Ps true (E ++ [x]) = Ps true E:=rfl
theorem right_loop (a κ : Int) (leaf : Bool) (hκ : leaf = true ↔ κ = 1) (K V : List ByteArray) (P : List Int) (hK : K.length ≤ 1000) (d : Nat) : ∀ (k i : Nat) (last : ByteArray) (E : Es),K.length - i = d → i ≤ K.length → E.length ≤ i → d < k →
    dowserlaw09_Right.l0 k last K (K.length : Int) (i : Int) a K V P κ (Ks E) (Vs leaf E) (Ps leaf E) = some (doneR leaf κ (E ++ rightL leaf K V P d i last)):=by
  induction d with
  | zero =>
    intro k i last E hd hi hE hk
    obtain ⟨k,rfl⟩ : ∃ m,k = m + 1:=⟨k - 1,by omega⟩
    simp only [dowserlaw09_Right.l0]
    rw [if_neg (by omega),rightL,List.append_nil,ks_len]
    unfold doneR
    by_cases h : E.length = 0
    · rw [if_pos (by omega),if_pos h]
    · rw [if_neg (by omega),if_neg h]
  | succ d ih =>
    intro k i last E hd hi hE hk
    obtain ⟨k,rfl⟩ : ∃ m,k = m + 1:=⟨k - 1,by omega⟩
    have hlt : (i : Int) < (K.length : Int):=by omega
    have hlV:=vs_len leaf E
    have hlP:=ps_len leaf E
    simp only [dowserlaw09_Right.l0]
    rw [if_pos hlt,if_pos (by omega),if_pos hlt,show (16 : Int) = ((16 : Nat) : Int) from rfl,cut_is,Option.bind_some,w_succ (by omega),rightL,toList_lst,toList_lst]
    have e1 : mkS ((lst (rdOf ByteArray.empty K (i : Int))).take 16) = cutT 16 (rdOf ByteArray.empty K (i : Int)):=rfl
    rw [e1]
    generalize cutT 16 (rdOf ByteArray.empty K (i : Int)) = c
    rw [bl_le]
    by_cases h : Op.bytesLess (lst last) (lst c) = true
    · rw [if_pos h,if_neg (by rw [h];simp),ks_len,if_pos (by omega),Option.bind_some]
      have ek : Ks E ++ [c] = Ks (E ++ [entR leaf V P i c]):=by rw [ks_add];unfold entR;cases leaf <;> rfl
      rw [ek]
      have ea : E ++ entR leaf V P i c :: rightL leaf K V P d (i + 1) c = (E ++ [entR leaf V P i c]) ++ rightL leaf K V P d (i + 1) c:=by rw [List.append_assoc];rfl
      rw [ea]
      have hE' : (E ++ [entR leaf V P i c]).length ≤ i + 1:=by rw [List.length_append,List.length_singleton];omega
      have go:=ih k (i + 1) c (E ++ [entR leaf V P i c]) (by omega) (by omega) hE' (by omega)
      cases leaf with
      | true =>
        have hk1 : κ = 1:=hκ.1 rfl
        rw [if_pos hk1]
        by_cases hv : (i : Int) < (V.length : Int)
        · rw [if_pos hv,show (32 : Int) = ((32 : Nat) : Int) from rfl,cut_is,Option.bind_some,if_pos (by omega)]
          rw [vs_add,ps_add'] at go
          have : (entR true V P i c).2.1 = mkS ((lst (rdOf ByteArray.empty V (i : Int))).take 32):=by
            unfold entR;rw [if_pos rfl,if_pos (by omega)];rfl
          rw [this] at go
          exact go
        · rw [if_neg hv,if_pos (by omega)]
          rw [vs_add,ps_add'] at go
          have : (entR true V P i c).2.1 = (⟨#[]⟩ : ByteArray):=by
            unfold entR;rw [if_pos rfl,if_neg (by omega)];rfl
          rw [this] at go
          exact go
      | false =>
        have hk1 : ¬ κ = 1:=fun h => by have:=hκ.2 h;cases this
        rw [if_neg hk1]
        by_cases hv : (i : Int) < (P.length : Int)
        · rw [if_pos hv,if_pos (by omega)]
          rw [vs_add',ps_add] at go
          have : (entR false V P i c).2.2 = mx 0 (mn (rd P (i : Int)) 2147483647):=by
            unfold entR;rw [if_neg (by simp),if_pos (by omega)]
          rw [this] at go
          exact go
        · rw [if_neg hv,if_pos (by omega)]
          rw [vs_add',ps_add] at go
          have : (entR false V P i c).2.2 = 0:=by
            unfold entR;rw [if_neg (by simp),if_neg (by omega)]
          rw [this] at go
          exact go
    · rw [if_neg h,if_pos (by simpa using h)]
      exact ih k (i + 1) last E (by omega) (by omega) (by omega) (by omega)
theorem cutT_size (n : Nat) (s : ByteArray) : (cutT n s).size ≤ n:=cut_len s n
theorem entR_small (leaf : Bool) (V : List ByteArray) (P : List Int) (i : Nat) (k : ByteArray) (hk : k.size ≤ 16) : Small (entR leaf V P i k) ∧ Canon leaf (entR leaf V P i k):=by
  unfold entR Small Canon
  cases leaf with
  | true =>
    simp only [if_true]
    refine ⟨⟨hk,?_,by omega,by omega⟩,trivial⟩
    split
    · exact cutT_size 32 _
    · rw [size_mk];simp
  | false =>
    simp only [Bool.false_eq_true,if_false]
    refine ⟨⟨hk,by rw [size_mk];simp,?_,?_⟩,trivial⟩ <;> (split <;> first | omega | (unfold mx mn;(repeat' split) <;> omega))
theorem entR_key (leaf : Bool) (V : List ByteArray) (P : List Int) (i : Nat) (k : ByteArray) : (entR leaf V P i k).1 = k:=by unfold entR;cases leaf <;> rfl
theorem bl_pos {a b : List UInt8} (h : Op.bytesLess a b = true) : b ≠ []:=fun e => by subst e;cases a <;> simp [Op.bytesLess] at h
theorem rightL_good (leaf : Bool) (K V : List ByteArray) (P : List Int) (d : Nat) : ∀ (i : Nat) (last : ByteArray),
    (∀ x ∈ rightL leaf K V P d i last,Small x ∧ Canon leaf x ∧ Op.bytesLess (lst last) (lst x.1) = true) ∧ (rightL leaf K V P d i last).Pairwise (fun x y => Op.bytesLess (lst x.1) (lst y.1) = true) ∧ (rightL leaf K V P d i last).length ≤ d:=by
  induction d with
  | zero => intro i last;simp [rightL]
  | succ d ih =>
    intro i last
    rw [rightL]
    split
    · rename_i h
      obtain ⟨h1,h2,h3⟩:=ih (i + 1) (cutT 16 (rdOf ByteArray.empty K (i : Int)))
      have hs:=entR_small leaf V P i (cutT 16 (rdOf ByteArray.empty K (i : Int))) (cutT_size 16 _)
      have hk:=entR_key leaf V P i (cutT 16 (rdOf ByteArray.empty K (i : Int)))
      refine ⟨fun x hx => ?_,?_,by rw [List.length_cons];omega⟩
      · rcases List.mem_cons.1 hx with rfl | hx
        · exact ⟨hs.1,hs.2,by rw [hk];exact h⟩
        · obtain ⟨g1,g2,g3⟩:=h1 x hx
          exact ⟨g1,g2,bl_trans _ _ _ h g3⟩
      · refine List.pairwise_cons.2 ⟨fun y hy => ?_,h2⟩
        rw [hk];exact (h1 y hy).2.2
    · obtain ⟨h1,h2,h3⟩:=ih (i + 1) last
      exact ⟨h1,h2,by omega⟩
/-- What Right makes. -/
theorem right_is (k : Nat) (a : Int) (K V : List ByteArray) (P : List Int) (hk : 300 < k) : ∃ kind leaf E,dowserlaw09_Right.f k a K V P = some (kind,Ks E,Vs leaf E,Ps leaf E) ∧ (leaf = true ↔ kind = 1) ∧ (∀ x ∈ E,Small x ∧ Canon leaf x) ∧ E.length ≤ 30 ∧ Good kind (Ks E) (Vs leaf E) (Ps leaf E) ∧ E.Pairwise (fun x y => Op.bytesLess (lst x.1) (lst y.1) = true):=by
  unfold dowserlaw09_Right.f
  rw [few_is k a K V P (by omega),Option.bind_some]
  simp only
  have h1 : ((K.take 30).map (cutT 18)).length ≤ 30:=by rw [List.length_map,List.length_take];omega
  generalize (K.take 30).map (cutT 18) = K' at h1
  generalize (V.take 30).map (cutT 34) = V'
  generalize P.take 30 = P'
  have hκ : wrap64 (1 + Go.bits .and .i64 a 1) = 1 ∨ wrap64 (1 + Go.bits .and .i64 a 1) = 2:=by
    rcases and1 a with h | h <;> rw [h] <;> unfold wrap64 <;> omega
  generalize wrap64 (1 + Go.bits .and .i64 a 1) = κ at hκ
  have go:=right_loop a κ (κ == 1) (by rw [beq_iff_eq]) K' V' P' (by omega) K'.length k 0 (⟨#[]⟩ : ByteArray) [] (by omega) (by omega) (by simp) (by omega)
  rw [List.nil_append] at go
  obtain ⟨g1,g2,g3⟩:=rightL_good (κ == 1) K' V' P' K'.length 0 (⟨#[]⟩ : ByteArray)
  generalize rightL (κ == 1) K' V' P' K'.length 0 (⟨#[]⟩ : ByteArray) = E at go g1 g2 g3
  have e2 : ([] : List ByteArray) = Vs (κ == 1) []:=by unfold Vs;cases (κ == 1) <;> rfl
  have e3 : ([] : List Int) = Ps (κ == 1) []:=by unfold Ps;cases (κ == 1) <;> rfl
  have e1 : ([] : List ByteArray) = Ks []:=rfl
  rw [← e1,← e2,← e3] at go
  rw [show ((0 : Nat) : Int) = 0 from rfl] at go
  rw [go]
  unfold doneR
  have rise : Rise (Ks E) 1:=fun j hj hl => by
    rw [ks_len] at hl
    unfold less
    have t1 : tx (Ks E) (j - 1) = E[j - 1].1:=by unfold tx;rw [tx_get _ _ (by rw [ks_len];omega)];unfold Ks;rw [List.getElem_map]
    have t2 : tx (Ks E) j = E[j].1:=by unfold tx;rw [tx_get _ _ (by rw [ks_len];omega)];unfold Ks;rw [List.getElem_map]
    rw [t1,t2,toList_lst,toList_lst]
    exact List.pairwise_iff_getElem.1 g2 (j - 1) j (by omega) hl (by omega)
  have keys : ∀ j,j < (Ks E).length → Key (tx (Ks E) j):=fun j hj => by
    rw [ks_len] at hj
    have t2 : tx (Ks E) j = E[j].1:=by unfold tx;rw [tx_get _ _ (by rw [ks_len];omega)];unfold Ks;rw [List.getElem_map]
    obtain ⟨s1,s2,s3⟩:=g1 _ (List.getElem_mem hj)
    rw [t2]
    exact ⟨by rw [toList_lst];exact bl_pos s3,by have:=s1.1;omega⟩
  by_cases h0 : E.length = 0
  · have hn : E = []:=List.length_eq_zero_iff.1 h0
    subst hn
    refine ⟨1,true,[],?_,by simp,by simp,by simp,?_,List.Pairwise.nil⟩
    · rw [if_pos List.length_nil,← e2,← e3];rfl
    · exact ⟨Or.inl ⟨rfl,rfl,rfl⟩,fun j hj => by simp [Ks] at hj,fun j _ hj => by simp [Ks] at hj,fun j hj => by simp [Vs] at hj,fun j hj => by simp [Ps] at hj⟩
  · rw [if_neg h0]
    refine ⟨κ,κ == 1,E,rfl,by rw [beq_iff_eq],fun x hx => ⟨(g1 x hx).1,(g1 x hx).2.1⟩,by omega,⟨?_,keys,rise,?_,?_⟩,g2⟩
    · unfold Shape
      rw [ks_len]
      rcases hκ with h | h
      · subst h
        exact Or.inl ⟨rfl,by simp [Vs],by simp [Ps]⟩
      · subst h
        exact Or.inr ⟨rfl,by simp [Ps],by simp [Vs],by omega⟩
    · intro j hj
      have hl:=vs_len (κ == 1) E
      have hb : (κ == 1) = true:=by
        cases hb : (κ == 1) with
        | true => rfl
        | false => rw [hb] at hj;simp [Vs] at hj
      rw [hb] at hj ⊢
      have hj2 : j < E.length:=by rw [hb] at hl;omega
      have t2 : tx (Vs true E) j = E[j].2.1:=by unfold tx;rw [tx_get _ _ hj];unfold Vs;simp only [if_true,List.getElem_map]
      rw [t2]
      have:=(g1 _ (List.getElem_mem hj2)).1.2.1
      unfold Val;omega
    · intro j hj
      have hl:=ps_len (κ == 1) E
      have hb : (κ == 1) = false:=by
        cases hb : (κ == 1) with
        | false => rfl
        | true => rw [hb] at hj;simp [Ps] at hj
      rw [hb] at hj ⊢
      have hj2 : j < E.length:=by rw [hb] at hl;omega
      have t2 : rd (Ps false E) (j : Int) = E[j].2.2:=by rw [rd_get _ _ hj];unfold Ps;simp only [Bool.false_eq_true,if_false,List.getElem_map]
      rw [t2]
      exact (g1 _ (List.getElem_mem hj2)).1.2.2
end Go.Proofs.Ytlboglbgdjakmaa.PB

-- a node is the same as itself
namespace Go.Proofs.Ytlboglbgdjakmaa.PB
open Go.RowKit Go.Proofs.YtlboglbgdjakmaaW.PrintWords Go.Proofs.YtlboglbgdjakmaaW.PrintLast Go.Proofs.YtlboglbgdjakmaaW.PrintMore Go.Proofs.Ytlboglbgdjakmaa.VarPlain Go.Proofs.Ytlboglbgdjakmaa.Tools
theorem same_l2 (a : Int) (K V : List ByteArray) (P : List Int) (hp : P.length < 2 ^ 62) (d : Nat) : ∀ (k i : Nat),P.length - i = d → d < k →
    dowserlaw09_same.l2 k (P.length : Int) (i : Int) a K V P a K V P = some true:=by
  induction d with
  | zero =>
    intro k i hd hk
    obtain ⟨k,rfl⟩ : ∃ m,k = m + 1:=⟨k - 1,by omega⟩
    simp only [dowserlaw09_same.l2]
    rw [if_neg (by omega)]
  | succ d ih =>
    intro k i hd hk
    obtain ⟨k,rfl⟩ : ∃ m,k = m + 1:=⟨k - 1,by omega⟩
    have h1 : (i : Int) < (P.length : Int):=by omega
    simp only [dowserlaw09_same.l2]
    rw [if_pos h1,if_pos (Int.natCast_nonneg _),if_pos h1,if_pos h1,if_pos trivial,w_succ (by omega)]
    exact ih k (i + 1) (by omega) (by omega)
theorem same_l1 (a : Int) (K V : List ByteArray) (P : List Int) (hp : P.length < 2 ^ 62) (hv : V.length < 2 ^ 62) (d : Nat) : ∀ (k i : Nat),V.length - i = d → d + P.length + 1 < k →
    dowserlaw09_same.l1 k (V.length : Int) (i : Int) a K V P a K V P = some true:=by
  induction d with
  | zero =>
    intro k i hd hk
    obtain ⟨k,rfl⟩ : ∃ m,k = m + 1:=⟨k - 1,by omega⟩
    simp only [dowserlaw09_same.l1]
    rw [if_neg (by omega)]
    exact same_l2 a K V P hp P.length k 0 (by omega) (by omega)
  | succ d ih =>
    intro k i hd hk
    obtain ⟨k,rfl⟩ : ∃ m,k = m + 1:=⟨k - 1,by omega⟩
    have h1 : (i : Int) < (V.length : Int):=by omega
    simp only [dowserlaw09_same.l1]
    rw [if_pos h1,if_pos (Int.natCast_nonneg _),if_pos h1,if_pos h1,if_pos trivial,w_succ (by omega)]
    exact ih k (i + 1) (by omega) (by omega)
theorem same_l0 (a : Int) (K V : List ByteArray) (P : List Int) (hp : P.length < 2 ^ 62) (hv : V.length < 2 ^ 62) (hl : K.length < 2 ^ 62) (d : Nat) : ∀ (k i : Nat),K.length - i = d → d + V.length + P.length + 2 < k →
    dowserlaw09_same.l0 k (K.length : Int) (i : Int) a K V P a K V P = some true:=by
  induction d with
  | zero =>
    intro k i hd hk
    obtain ⟨k,rfl⟩ : ∃ m,k = m + 1:=⟨k - 1,by omega⟩
    simp only [dowserlaw09_same.l0]
    rw [if_neg (by omega)]
    exact same_l1 a K V P hp hv V.length k 0 (by omega) (by omega)
  | succ d ih =>
    intro k i hd hk
    obtain ⟨k,rfl⟩ : ∃ m,k = m + 1:=⟨k - 1,by omega⟩
    have h1 : (i : Int) < (K.length : Int):=by omega
    simp only [dowserlaw09_same.l0]
    rw [if_pos h1,if_pos (Int.natCast_nonneg _),if_pos h1,if_pos h1,if_pos trivial,w_succ (by omega)]
    exact ih k (i + 1) (by omega) (by omega)
theorem same_is (k : Nat) (a : Int) (K V : List ByteArray) (P : List Int) (hl : K.length < 2 ^ 62) (hv : V.length < 2 ^ 62) (hp : P.length < 2 ^ 62) (hk : K.length + V.length + P.length + 5 < k) :
    dowserlaw09_same.f k a K V P a K V P = some true:=by
  obtain ⟨k,rfl⟩ : ∃ m,k = m + 1:=⟨k - 1,by omega⟩
  unfold dowserlaw09_same.f
  have e : ((P.length : Int) != (P.length : Int)) = false:=by simp
  rw [if_pos rfl,if_pos rfl,if_pos rfl,e]
  simp only [dowserlaw09_same.j0]
  rw [if_neg (by simp)]
  exact same_l0 a K V P hp hv hl K.length k 0 (by omega) (by omega)
end Go.Proofs.Ytlboglbgdjakmaa.PB

-- a node split and joined
namespace Go.Proofs.Ytlboglbgdjakmaa.PB
open Go.RowKit Go.Proofs.YtlboglbgdjakmaaW.PrintWords Go.Proofs.YtlboglbgdjakmaaW.PrintLast Go.Proofs.YtlboglbgdjakmaaW.PrintMore Go.Proofs.Ytlboglbgdjakmaa.VarPlain Go.Proofs.Ytlboglbgdjakmaa.Tools
/-- How many bytes the first i entries have. -/
def pre (leaf : Bool) (E : Es) (i : Nat) : Nat:=((E.take i).flatMap (entL leaf)).length
theorem pre_zero (leaf : Bool) (E : Es) : pre leaf E 0 = 0:=by unfold pre;simp
theorem pre_succ (leaf : Bool) (E : Es) (i : Nat) (h : i < E.length) : pre leaf E (i + 1) = pre leaf E i + (entL leaf E[i]).length:=by
  unfold pre
  rw [List.take_succ_eq_append_getElem h,List.flatMap_append,List.length_append]
  simp
theorem pre_le (leaf : Bool) (E : Es) (hs : ∀ x ∈ E,Small x) (i : Nat) (h : i ≤ E.length) : pre leaf E i ≤ 2020 * i:=by
  induction i with
  | zero => rw [pre_zero];omega
  | succ i ih =>
    have:=ih (by omega)
    have h2:=entL_len leaf E[i] (hs _ (List.getElem_mem (by omega)))
    rw [pre_succ leaf E i (by omega)];omega
attribute [local irreducible] pre entL
theorem w_add {x y : Nat} (h : x + y ≤ 100000000) : wrap64 ((x : Int) + (y : Int)) = ((x + y : Nat) : Int):=by unfold wrap64;omega
theorem w_two {x : Nat} (h : x ≤ 100000000) : wrap64 (2 * (x : Int)) = 2 * (x : Int):=by unfold wrap64;omega
/-- Where a node is cut. -/
def IsAt (leaf : Bool) (E : Es) (a : Nat) : Prop:=1 ≤ a ∧ a + 1 ≤ E.length ∧ (∀ i,1 ≤ i → i < a → 2 * pre leaf E i < pre leaf E E.length) ∧ (a + 1 < E.length → pre leaf E E.length ≤ 2 * pre leaf E a)
theorem pre_small (leaf : Bool) (E : Es) (hE : E.length ≤ 1000) (hs : ∀ x ∈ E,Small x) (i : Nat) (h : i ≤ E.length) : pre leaf E i ≤ 3000000:=by
  have:=pre_le leaf E hs i h
  omega
theorem isAt_ex (leaf : Bool) (E : Es) (d : Nat) : ∀ i,E.length - 1 - i = d → 1 ≤ i → i + 1 ≤ E.length → (∀ j,1 ≤ j → j < i → 2 * pre leaf E j < pre leaf E E.length) → ∃ a,IsAt leaf E a:=by
  induction d with
  | zero => intro i hd h1 h2 hj;exact ⟨i,h1,h2,hj,fun h => by omega⟩
  | succ d ih =>
    intro i hd h1 h2 hj
    by_cases h : 2 * pre leaf E i < pre leaf E E.length
    · refine ih (i + 1) (by omega) (by omega) (by omega) (fun j h3 h4 => ?_)
      by_cases e : j = i
      · rw [e];exact h
      · exact hj j h3 (by omega)
    · exact ⟨i,h1,h2,hj,fun _ => by omega⟩
theorem ks_cut (E : Es) (i j : Nat) : ((Ks E).take j).drop i = Ks ((E.take j).drop i):=by unfold Ks;rw [← List.map_take,← List.map_drop]
theorem vs_cut (E : Es) (i j : Nat) : ((Vs true E).take j).drop i = Vs true ((E.take j).drop i):=by unfold Vs;rw [if_pos rfl,if_pos rfl,← List.map_take,← List.map_drop]
theorem ps_cut (E : Es) (i j : Nat) : ((Ps false E).take j).drop i = Ps false ((E.take j).drop i):=by
  unfold Ps;rw [if_neg (by simp),if_neg (by simp),← List.map_take,← List.map_drop]
theorem cutN_is (kind : Int) (leaf : Bool) (hk1 : leaf = true ↔ kind = 1) (E : Es) (hE : E.length ≤ 1000) (i j : Nat) (hi : i ≤ j) (hj : j ≤ E.length) :
    node_Node_cut.f kind (Ks E) (Vs leaf E) (Ps leaf E) (i : Int) (j : Int) = some (kind,Ks ((E.take j).drop i),Vs leaf ((E.take j).drop i),Ps leaf ((E.take j).drop i)):=by
  have hl : ((E.take j).drop i).length ≤ 1000:=by rw [List.length_drop,List.length_take];omega
  unfold node_Node_cut.f slices_Clone_string_string.f slices_Clone_int_int.f
  rw [if_pos (by omega),if_pos (by omega),if_pos (by rw [ks_len];omega),Int.toNat_natCast,Int.toNat_natCast,ks_cut,if_pos (by rw [ks_len];omega),Option.bind_some]
  cases leaf with
  | true =>
    have hv : (Vs true E).length = E.length:=by simp [Vs]
    rw [if_pos (hk1.1 rfl),if_pos (by rw [hv];omega),vs_cut,if_pos (by have:=vs_len true ((E.take j).drop i);omega),Option.bind_some];rfl
  | false =>
    have hv : (Ps false E).length = E.length:=by simp [Ps]
    rw [if_neg (fun h => by have:=hk1.2 h;cases this),if_pos (by rw [hv];omega),ps_cut,if_pos (by have:=ps_len false ((E.take j).drop i);omega),Option.bind_some];rfl
theorem split_l1 (kind : Int) (leaf : Bool) (hk1 : leaf = true ↔ kind = 1) (E : Es) (hE : E.length ≤ 1000) (hs : ∀ x ∈ E,Small x) (a : Nat) (ha : IsAt leaf E a) (d : Nat) : ∀ (k i : Nat),a - i = d → 1 ≤ i → i ≤ a → d + 20 < k →
    node_Node_Split.l1 k (pre leaf E E.length : Nat) (i : Int) (pre leaf E i : Nat) kind (Ks E) (Vs leaf E) (Ps leaf E) =
      some (kind,Ks (E.take a),Vs leaf (E.take a),Ps leaf (E.take a),kind,Ks (E.drop a),Vs leaf (E.drop a),Ps leaf (E.drop a)):=by
  obtain ⟨a1,a2,a3,a4⟩:=ha
  have hw:=pre_small leaf E hE hs E.length (Nat.le_refl _)
  have c1 : node_Node_cut.f kind (Ks E) (Vs leaf E) (Ps leaf E) 0 (a : Int) = some (kind,Ks (E.take a),Vs leaf (E.take a),Ps leaf (E.take a)):=by
    have:=cutN_is kind leaf hk1 E hE 0 a (by omega) (by omega)
    rw [List.drop_zero] at this
    exact this
  have c2 : node_Node_cut.f kind (Ks E) (Vs leaf E) (Ps leaf E) (a : Int) ((Ks E).length : Int) = some (kind,Ks (E.drop a),Vs leaf (E.drop a),Ps leaf (E.drop a)):=by
    have:=cutN_is kind leaf hk1 E hE a E.length (by omega) (Nat.le_refl _)
    rw [List.take_length] at this
    rw [ks_len];exact this
  induction d with
  | zero =>
    intro k i hd h1 h2 hk
    obtain ⟨k,rfl⟩ : ∃ m,k = m + 1:=⟨k - 1,by omega⟩
    obtain rfl : i = a:=by omega
    have hp:=pre_small leaf E hE hs i (by omega)
    have hwr:=Aside0.mk (show wrap64 (2 * ((pre leaf E i : Nat) : Int)) = 2 * ((pre leaf E i : Nat) : Int) from w_two (by first | exact Nat.le_trans (pre_small leaf E hE hs _ (by omega)) (by decide)))
    simp only [node_Node_Split.l1]
    unfold node_Node_Len.f
    rw [if_neg (by omega),Option.bind_some,c1,c2]
    simp only [Option.bind_some]
    rw [ks_len,w_pred (i:=E.length) (by omega) (by omega),hwr.out]
    by_cases h : (i : Int) < ((E.length - 1 : Nat) : Int)
    · rw [if_pos h,if_neg (by have:=a4 (by omega);omega)]
    · rw [if_neg h]
  | succ d ih =>
    intro k i hd h1 h2 hk
    obtain ⟨k,rfl⟩ : ∃ m,k = m + 1:=⟨k - 1,by omega⟩
    have hlt : i < E.length:=by omega
    have hp:=pre_small leaf E hE hs i (by omega)
    have hz:=entL_len leaf E[i] (hs _ (List.getElem_mem hlt))
    have hwr:=Aside0.mk (show wrap64 (2 * ((pre leaf E i : Nat) : Int)) = 2 * ((pre leaf E i : Nat) : Int) from w_two (by first | exact Nat.le_trans (pre_small leaf E hE hs _ (by omega)) (by decide)))
    have hws:=Aside0.mk (show wrap64 (((pre leaf E i : Nat) : Int) + (((entL leaf E[i]).length : Nat) : Int)) = ((pre leaf E (i + 1) : Nat) : Int) from by rw [pre_succ leaf E i hlt];exact w_add (by omega))
    simp only [node_Node_Split.l1]
    unfold node_Node_Len.f
    rw [if_neg (by omega),Option.bind_some,ks_len,w_pred (i:=E.length) (by omega) (by omega),if_pos (by omega),hwr.out,if_pos (by have:=a3 i h1 (by omega);omega),
      entry_is k kind leaf hk1 E i hlt (hs _ (List.getElem_mem hlt)) (by omega),Option.bind_some,w_succ (by omega),size_mk,hws.out]
    exact ih k (i + 1) (by omega) (by omega) (by omega) (by omega)
theorem w01 : wrap64 ((0 : Int) + 1) = 1:=by unfold wrap64;omega
theorem w12 : wrap64 ((1 : Int) + 1) = 2:=by unfold wrap64;omega
theorem split_l0 (kind : Int) (leaf : Bool) (hk1 : leaf = true ↔ kind = 1) (E : Es) (hE : E.length ≤ 1000) (hs : ∀ x ∈ E,Small x) (a : Nat) (ha : IsAt leaf E a) (d : Nat) : ∀ (k i : Nat),E.length - i = d → i ≤ E.length → d + 2000 < k →
    node_Node_Split.l0 k (pre leaf E i : Nat) (E.length : Int) (i : Int) kind (Ks E) (Vs leaf E) (Ps leaf E) =
      some (kind,Ks (E.take a),Vs leaf (E.take a),Ps leaf (E.take a),kind,Ks (E.drop a),Vs leaf (E.drop a),Ps leaf (E.drop a)):=by
  have hw:=pre_small leaf E hE hs E.length (Nat.le_refl _)
  have a1:=ha.1
  have a2:=ha.2.1
  induction d with
  | zero =>
    intro k i hd hi hk
    obtain ⟨k,rfl⟩ : ∃ m,k = m + 2:=⟨k - 2,by omega⟩
    obtain rfl : i = E.length:=by omega
    have hz:=entL_len leaf E[0] (hs _ (List.getElem_mem (by omega)))
    have hgo:=split_l1 kind leaf hk1 E hE hs a ha (a - 1) k 1 rfl (by omega) a1 (by omega)
    have hws:=Aside0.mk (show wrap64 ((0 : Int) + (((entL leaf E[0]).length : Nat) : Int)) = ((pre leaf E 1 : Nat) : Int) from by rw [show pre leaf E 1 = pre leaf E (0 + 1) from rfl,pre_succ leaf E 0 (by omega),pre_zero];exact w_add (x:=0) (by omega))
    have he:=entry_is k kind leaf hk1 E 0 (by omega) (hs _ (List.getElem_mem (by omega))) (by omega)
    rw [show ((0 : Nat) : Int) = 0 from rfl] at he
    simp only [node_Node_Split.l0]
    rw [if_neg (by omega)]
    simp only [node_Node_Split.l1]
    rw [if_pos trivial,he,Option.bind_some,size_mk,hws.out,w01]
    exact hgo
  | succ d ih =>
    intro k i hd hi hk
    obtain ⟨k,rfl⟩ : ∃ m,k = m + 1:=⟨k - 1,by omega⟩
    have hlt : i < E.length:=by omega
    have hp:=pre_small leaf E hE hs i (by omega)
    have hz:=entL_len leaf E[i] (hs _ (List.getElem_mem hlt))
    have hws:=Aside0.mk (show wrap64 (((pre leaf E i : Nat) : Int) + (((entL leaf E[i]).length : Nat) : Int)) = ((pre leaf E (i + 1) : Nat) : Int) from by rw [pre_succ leaf E i hlt];exact w_add (by omega))
    simp only [node_Node_Split.l0]
    rw [if_pos (by omega),entry_is k kind leaf hk1 E i hlt (hs _ (List.getElem_mem hlt)) (by omega),Option.bind_some,w_succ (by omega),size_mk,hws.out]
    exact ih k (i + 1) (by omega) (by omega) (by omega)
theorem split_is (k : Nat) (kind : Int) (leaf : Bool) (hk1 : leaf = true ↔ kind = 1) (E : Es) (hE : E.length ≤ 1000) (hs : ∀ x ∈ E,Small x) (a : Nat) (ha : IsAt leaf E a) (hk : 3001 < k) :
    node_Node_Split.f k kind (Ks E) (Vs leaf E) (Ps leaf E) = some (kind,Ks (E.take a),Vs leaf (E.take a),Ps leaf (E.take a),kind,Ks (E.drop a),Vs leaf (E.drop a),Ps leaf (E.drop a)):=by
  have:=split_l0 kind leaf hk1 E hE hs a ha E.length k 0 (by omega) (by omega) (by omega)
  rw [pre_zero] at this
  unfold node_Node_Split.f
  rw [ks_len]
  exact this
/-! The document's place. -/
/-! Joined again. -/
theorem wsmall {x : Int} (h : 0 ≤ x) (h2 : x ≤ 1000000) : wrap64 x = x:=by unfold wrap64;omega
theorem concatT (k : Nat) (x y : List ByteArray) (hx : x.length ≤ 1000) (hy : y.length ≤ 1000) (hk : 10 < k) : slices_Concat_string_string.f k [x,y] = some (x ++ y):=by
  obtain ⟨k,rfl⟩ : ∃ m,k = m + 10:=⟨k - 10,by omega⟩
  have r0 : rd_L3 [x,y] 0 = x:=rfl
  have r1 : rd_L3 [x,y] 1 = y:=rfl
  have l2 : (([x,y].length : Nat) : Int) = 2:=rfl
  unfold slices_Concat_string_string.f
  simp only [slices_Concat_string_string.l0,l2]
  rw [w01,w12,r0,r1]
  rw [wsmall (x:=0 + (x.length : Int)) (by omega) (by omega),wsmall (x:=0 + (x.length : Int) + (y.length : Int)) (by omega) (by omega)]
  rw [if_pos (by omega),if_pos (by omega),if_pos (by omega),if_neg (by omega),if_pos (by omega),if_pos (by omega),if_pos (by omega),if_neg (by omega),if_neg (by omega)]
  unfold slices_Grow_string.f
  rw [if_pos (by omega),if_pos (by omega),Option.bind_some]
  simp only [slices_Concat_string_string.l1]
  rw [w01,w12,r0,r1,List.nil_append]
  rw [if_pos (by omega),if_pos (by omega),if_pos (by omega),if_pos (by rw [List.length_nil];omega),if_pos (by omega),if_pos (by omega),if_pos (by omega),if_pos (by omega),if_neg (by omega)]
theorem concatI (k : Nat) (x y : List Int) (hx : x.length ≤ 1000) (hy : y.length ≤ 1000) (hk : 10 < k) : slices_Concat_int_int.f k [x,y] = some (x ++ y):=by
  obtain ⟨k,rfl⟩ : ∃ m,k = m + 10:=⟨k - 10,by omega⟩
  have r0 : rd_L4 [x,y] 0 = x:=rfl
  have r1 : rd_L4 [x,y] 1 = y:=rfl
  have l2 : (([x,y].length : Nat) : Int) = 2:=rfl
  unfold slices_Concat_int_int.f
  simp only [slices_Concat_int_int.l0,l2]
  rw [w01,w12,r0,r1]
  rw [wsmall (x:=0 + (x.length : Int)) (by omega) (by omega),wsmall (x:=0 + (x.length : Int) + (y.length : Int)) (by omega) (by omega)]
  rw [if_pos (by omega),if_pos (by omega),if_pos (by omega),if_neg (by omega),if_pos (by omega),if_pos (by omega),if_pos (by omega),if_neg (by omega),if_neg (by omega)]
  unfold slices_Grow_int.f
  rw [if_pos (by omega),if_pos (by omega),Option.bind_some]
  simp only [slices_Concat_int_int.l1]
  rw [w01,w12,r0,r1,List.nil_append]
  rw [if_pos (by omega),if_pos (by omega),if_pos (by omega),if_pos (by rw [List.length_nil];omega),if_pos (by omega),if_pos (by omega),if_pos (by omega),if_pos (by omega),if_neg (by omega)]
theorem ks_join (E F : Es) : Ks E ++ Ks F = Ks (E ++ F):=by unfold Ks;rw [List.map_append]
theorem vs_join (leaf : Bool) (E F : Es) : Vs leaf E ++ Vs leaf F = Vs leaf (E ++ F):=by unfold Vs;cases leaf <;> simp
theorem ps_join (leaf : Bool) (E F : Es) : Ps leaf E ++ Ps leaf F = Ps leaf (E ++ F):=by unfold Ps;cases leaf <;> simp
theorem join_is (k : Nat) (a b : Int) (leaf : Bool) (E F : Es) (hE : E.length ≤ 1000) (hF : F.length ≤ 1000) (hk : 10 < k) :
    node_Join.f k a (Ks E) (Vs leaf E) (Ps leaf E) b (Ks F) (Vs leaf F) (Ps leaf F) = some (a,Ks (E ++ F),Vs leaf (E ++ F),Ps leaf (E ++ F)):=by
  have h1:=vs_len leaf E
  have h2:=ps_len leaf E
  have h3:=vs_len leaf F
  have h4:=ps_len leaf F
  unfold node_Join.f
  rw [concatT k _ _ (by rw [ks_len];omega) (by rw [ks_len];omega) hk,Option.bind_some,concatT k _ _ (by omega) (by omega) hk,Option.bind_some,concatI k _ _ (by omega) (by omega) hk,Option.bind_some,ks_join,vs_join,ps_join]
/-! What a part is. -/
attribute [local semireducible] entL
end Go.Proofs.Ytlboglbgdjakmaa.PB

/- NodeShares: what is split off and joined is told by values alone, and the node that was asked with is still the document's. No conditions. -/
namespace Go.Proofs.Ytlboglbgdjakmaa.Pure
open Go.RowKit Go.Proofs.Ytlboglbgdjakmaa.PB Go.Proofs.YtlboglbgdjakmaaW.PrintWords Go.Proofs.YtlboglbgdjakmaaW.PrintLast Go.Proofs.Ytlboglbgdjakmaa.VarPlain Go.Proofs.Ytlboglbgdjakmaa.Tools Go.Proofs.Ytlboglbgdjakmaa.Less
theorem NodeShares : dowserlaw09_NodeShares.Pure:=by
  intro a K V P _ _ _ _
  refine ⟨70000,?_⟩
  obtain ⟨kind,leaf,E,h1,hk1,hs,hE,hg,hp⟩:=right_is 70000 a K V P (by omega)
  have hs' : ∀ x ∈ E,Small x:=fun x hx => (hs x hx).1
  have hv:=vs_len leaf E
  have hq:=ps_len leaf E
  unfold dowserlaw09_NodeShares.f
  rw [awake09_is 70000 (by omega),Option.bind_some,h1,Option.bind_some,if_pos rfl]
  simp only
  rw [ks_len]
  by_cases h2 : (E.length : Int) < 2
  · rw [if_pos h2]
  rw [if_neg h2]
  obtain ⟨at_,ha⟩:=isAt_ex leaf E (E.length - 1 - 1) 1 rfl (by omega) (by omega) (fun j h3 h4 => by omega)
  have ha':=ha
  obtain ⟨a1,a2,-,-⟩:=ha'
  have ht : (E.take at_).length = at_:=by rw [List.length_take];omega
  have hd : (E.drop at_).length = E.length - at_:=by rw [List.length_drop]
  rw [own09_is kind (Ks E) (Vs leaf E) (Ps leaf E) (by rw [ks_len];omega) (by omega) (by omega),Option.bind_some]
  simp only
  rw [split_is 70000 kind leaf hk1 E (by omega) hs' at_ ha (by omega),Option.bind_some]
  simp only
  rw [join_is 70000 kind kind leaf _ _ (by omega) (by omega) (by omega),Option.bind_some,
    same_is 70000 kind (Ks E) (Vs leaf E) (Ps leaf E) (by rw [ks_len];omega) (by omega) (by omega) (by rw [ks_len];omega),Option.bind_some,if_pos rfl]
end Go.Proofs.Ytlboglbgdjakmaa.Pure


/- Of any bytes there is the request whose bytes they are, or what is wrong: the pure statement of RequestReads, for every text. -/
import Derived.Test.YtkpjkgfaepidaaaDoorPCx23
import Derived.Test.YtkpjkgfaepidaaaDoorPCx25
import Derived.Test.YtkpjkgfaepidaaaDoorReq28
namespace Go.Proofs.YtkpjkgfaepidaaaDoor.Pure
open Go.RowKit Go.Proofs.YtkpjkgfaepidaaaDoor.PC Go.Proofs.YtkpjkgfaepidaaaDoorW.PrintWords Go.Proofs.YtkpjkgfaepidaaaDoorW.PrintLast Go.Proofs.YtkpjkgfaepidaaaDoor.VarPlain Go.Proofs.YtkpjkgfaepidaaaDoor.Glob
theorem self_loop (l : List Int) (hl : l.length ≤ 1000) (d : Nat) : ∀ k i : Nat,l.length - i = d → i ≤ l.length → d < k → dowserref04_Same.l0 k l l (l.length : Int) (i : Int) = some true:=by
  induction d with
  | zero =>
    intro k i hd hi hk
    obtain ⟨k,rfl⟩ : ∃ m,k = m + 1:=⟨k - 1,by omega⟩
    rw [dowserref04_Same.l0,if_neg (by omega)]
  | succ d ih =>
    intro k i hd hi hk
    obtain ⟨k,rfl⟩ : ∃ m,k = m + 1:=⟨k - 1,by omega⟩
    rw [dowserref04_Same.l0,if_pos (by omega),if_pos (by omega),if_pos (by omega),if_pos (by omega),if_pos rfl,show wrap64 ((i : Int) + 1) = ((i + 1 : Nat) : Int) from by unfold wrap64;omega]
    exact ih k (i + 1) (by omega) (by omega) (by omega)
theorem self_same (k : Nat) (c : Int) (l : List Int) (t : ByteArray) (hl : l.length ≤ 1000) (hk : 1000 < k) : dowserlaw28_same.f k c l t c l t = some true:=by
  unfold dowserlaw28_same.f dowserref04_Same.f
  rw [if_pos rfl,if_pos rfl,if_pos rfl]
  have:=self_loop l hl l.length k 0 (by omega) (by omega) (by omega)
  rw [show ((0 : Nat) : Int) = 0 from rfl] at this
  rw [this];rfl
theorem rdN_many : ∀ (c : Nat) (l : List UInt8) (e : Int) (acc : List Nat),(rdN c l e acc).1.length = acc.length + c
  | 0,_,_,_ => rfl
  | c + 1,l,e,acc => by rw [rdN,rdN_many c,List.length_append,List.length_singleton];omega
theorem finR_many (x : Nat) (ns : List Nat) (t : List UInt8 × List UInt8 × Int) : (finR x ns t).2.1.length ≤ ns.length:=by
  unfold finR
  by_cases h1 : t.2.2 = 0
  · rw [if_pos h1]
    by_cases h2 : t.2.1 = []
    · rw [if_pos h2];exact Nat.le_refl _
    · rw [if_neg h2];exact Nat.zero_le _
  · rw [if_neg h1];exact Nat.zero_le _
theorem decT_many (x : Nat) (r : List Nat × List UInt8 × Int) : (decT x r).2.1.length ≤ r.1.length:=by
  unfold decT
  by_cases h1 : r.2.2 = 0
  · rw [if_pos h1];exact finR_many _ _ _
  · rw [if_neg h1];exact Nat.zero_le _
theorem decL_many (l : List UInt8) : (decL l).2.1.length ≤ 3:=by
  unfold decL
  by_cases h1 : (rNum l 0 255).2.2 = 0
  · rw [if_pos h1]
    by_cases h2 : 1 ≤ (rNum l 0 255).1 ∧ (rNum l 0 255).1 ≤ 16
    · rw [if_pos h2]
      have h:=rdN_many (gcount ((rNum l 0 255).1 : Int)).toNat (rNum l 0 255).2.1 0 []
      have hg:=gcount_range ((rNum l 0 255).1 : Int)
      have hd:=decT_many (rNum l 0 255).1 (rdN (gcount ((rNum l 0 255).1 : Int)).toNat (rNum l 0 255).2.1 0 [])
      rw [h,List.length_nil] at hd
      omega
    · rw [if_neg h2];exact Nat.zero_le _
  · rw [if_neg h1];exact Nat.zero_le _
theorem RequestReads : dowserlaw28_RequestReads.Pure:=by
  intro a0 _
  refine ⟨20000,?_⟩
  have hc:=cut_is a0 200
  have hl:=cut_len a0 200
  rw [size_mk] at hl
  rw [show ((200 : Nat) : Int) = 200 from rfl] at hc
  unfold dowserlaw28_RequestReads.f
  rw [awake28_is 20000 (by omega),Option.bind_some,if_pos rfl,hc,Option.bind_some]
  generalize (lst a0).take 200 = l at hl ⊢
  rw [dec_is 20000 l (by omega) (by omega),Option.bind_some,refdec_is 20000 l (by omega) (by omega),Option.bind_some,if_pos rfl]
  have hm:=decL_many l
  rw [self_same 20000 _ _ _ (by show (toI (decL l).2.1).length ≤ 1000;rw [toI_len];omega) (by omega),Option.bind_some,if_pos rfl]
  by_cases he : (tupR (decL l)).2.2.2 = 0
  case neg => rw [if_neg he]
  rw [if_pos he]
  have he2 : (decL l).2.2.2 = 0:=he
  have hi:=decL_inv l (decL l).1 (decL l).2.1 (decL l).2.2.1 (by rw [← he2])
  clear he he2
  generalize decL l = R at hi hm ⊢
  obtain ⟨x,ns,t,e⟩:=R
  simp only at hi hm
  obtain ⟨x1,x2,x3,x4,x5,x6,x7⟩:=hi
  have hk : request_Request_Check.f (x : Int) (toI ns) (mkS t) = some 0:=by
    unfold request_Request_Check.f request_is.f request_numbers.f
    rw [if_pos (by omega),Option.bind_some,decide_eq_true (by omega),if_pos rfl,if_pos (by omega),if_pos (by omega),if_pos (by rw [toI_len];exact x3),Option.bind_some,low_all ns x4,if_pos rfl,if_neg (by rw [size_mk];omega)]
    by_cases h1 : x = 1
    · rw [if_pos (by omega)]
    · have : t = []:=by rcases x6 with h | h;exact absurd h h1;exact h
      subst this
      rw [if_neg (by omega),toList_lst,lst_mk,if_pos rfl]
  show (request_Request_Check.f (x : Int) (toI ns) (mkS t)).bind _ = _
  rw [hk,Option.bind_some,if_pos rfl]
  show (request_Request_Encode.f 20000 (x : Int) (toI ns) (mkS t)).bind _ = _
  rw [reqenc_is 20000 x ns t (by omega) (by omega) x4 (by omega) (by omega),Option.bind_some,← x7]
  simp
end Go.Proofs.YtkpjkgfaepidaaaDoor.Pure

-- the fixed fact of layer 9
import Derived.Test.YtlboglbgdjakmaaPAx14
import Derived.Test.YtlboglbgdjakmaaNodePack
namespace Go.Proofs.Ytlboglbgdjakmaa.PA
open Go.RowKit Go.Proofs.YtlboglbgdjakmaaW.PrintWords Go.Proofs.YtlboglbgdjakmaaW.PrintLast Go.Proofs.YtlboglbgdjakmaaW.PrintMore Go.Proofs.Ytlboglbgdjakmaa.VarPlain Go.Proofs.Ytlboglbgdjakmaa.Tools
theorem awake09_is (k : Nat) (hk : 6000 < k) : dowserlaw09_awake.f k = some true := by
  have ha : (⟨#[97]⟩ : ByteArray) = mkS [97] := rfl
  have hx : (⟨#[120]⟩ : ByteArray) = mkS [120] := rfl
  have hk1 : true = true ↔ (1 : Int) = 1 := ⟨fun _ => rfl, fun _ => rfl⟩
  have hs : Small (mkS [97], mkS [120], 0) ∧ Canon true (mkS [97], mkS [120], 0) := ⟨⟨by rw [size_mk]; simp, by rw [size_mk]; simp, by simp, by simp⟩, rfl⟩
  have hs' : ∀ x ∈ ([(mkS [97], mkS [120], 0)] : Es), Small x ∧ Canon true x := fun x hx => by
    rcases List.mem_singleton.1 hx with rfl; exact hs
  have hg : Good 1 (Ks [(mkS [97], mkS [120], 0)]) (Vs true [(mkS [97], mkS [120], 0)]) (Ps true [(mkS [97], mkS [120], 0)]) := by
    have tk : tx (Ks [(mkS [97], mkS [120], 0)]) 0 = mkS [97] := rfl
    have tv : tx (Vs true [(mkS [97], mkS [120], 0)]) 0 = mkS [120] := rfl
    refine ⟨Or.inl ⟨rfl, rfl, rfl⟩, fun j hj => ?_, fun j h1 hj => ?_, fun j hj => ?_, fun j hj => ?_⟩
    · rw [ks_len] at hj
      obtain rfl : j = 0 := by simp at hj; omega
      rw [tk]
      refine ⟨by rw [toList_lst, lst_mk]; simp, by rw [size_mk]; simp⟩
    · rw [ks_len] at hj; simp at hj; omega
    · have := vs_len true [(mkS [97], mkS [120], 0)]
      obtain rfl : j = 0 := by simp at this; omega
      rw [tv]; unfold Val; rw [size_mk]; simp
    · simp [Ps] at hj
  have hp := pack_is k 1 true hk1 [(mkS [97], mkS [120], 0)] (by simp) (fun x hx => (hs' x hx).1) (by omega)
  have hm := parsed_made 1 true hk1 [(mkS [97], mkS [120], 0)] hs' (by simp) hg
  have eb : enc ([(mkS [97], mkS [120], 0)] : Es).length ++ ([(mkS [97], mkS [120], 0)] : Es).flatMap (entL true) = [1, 1, 97, 1, 120] := by
    simp only [List.length_singleton, List.flatMap_cons, List.flatMap_nil, List.append_nil, entL, encT, lst_mk, if_true]
    rw [enc_small (by omega)]; rfl
  rw [eb] at hp hm
  have hq := parse_is k 1 [1, 1, 97, 1, 120] (by simp) hk
  rw [hm] at hq
  unfold dowserlaw09_awake.f
  rw [ha, hx]
  have hp' : node_Node_Pack.f k 1 [mkS [97]] [mkS [120]] [] = some (mkS [1, 1, 97, 1, 120]) := hp
  rw [hp', Option.bind_some, hq, Option.bind_some, if_pos ⟨by rw [toList_lst, lst_mk], rfl, rfl⟩]
end Go.Proofs.Ytlboglbgdjakmaa.PA

/- Which responses may be is as the document says; their bytes are the document's, and come back: the pure statement of RequestAnswers, for every response. -/
import Derived.Test.YtkpjkgfaepidaaaDoorPCx15
import Derived.Test.YtkpjkgfaepidaaaDoorPCx18
import Derived.Test.YtkpjkgfaepidaaaDoorReq28
namespace Go.Proofs.YtkpjkgfaepidaaaDoor.Pure
open Go.RowKit Go.Proofs.YtkpjkgfaepidaaaDoor.PC Go.Proofs.YtkpjkgfaepidaaaDoorW.PrintWords Go.Proofs.YtkpjkgfaepidaaaDoorW.PrintLast Go.Proofs.YtkpjkgfaepidaaaDoor.VarPlain Go.Proofs.YtkpjkgfaepidaaaDoor.Glob
theorem RequestAnswers : dowserlaw28_RequestAnswers.Pure:=by
  intro c l t0 _ _ _
  refine ⟨3000000,?_⟩
  have hc:=cut_is t0 65538
  have hl:=cut_len t0 65538
  rw [size_mk] at hl
  rw [show ((65538 : Nat) : Int) = 65538 from rfl] at hc
  unfold dowserlaw28_RequestAnswers.f
  rw [awake28_is 3000000 (by omega),Option.bind_some,if_pos rfl,hc,Option.bind_some]
  generalize (lst t0).take 65538 = t at hl ⊢
  have hs:=few_short l
  have hn : (fewL l).length ≤ 10:=by rw [fewL_len];omega
  generalize fewL l = L at hs hn ⊢
  have hm : ∀ l ∈ L,l.length ≤ 2000:=fun l h => by have:=hs l h;omega
  unfold dowserlaw28_RequestAnswers.t
  rw [own28_is 3000000 c L (mkS t) (by omega) (fun l h => by have:=hs l h;omega) (by omega),Option.bind_some]
  simp only
  obtain ⟨g1,g2⟩:=check_gen c L t
  obtain ⟨f1,f2⟩:=fine_is 3000000 c L t hm (by omega) (by omega)
  by_cases hok : OKr c L t
  · rw [g1 hok,Option.bind_some,f1 hok,Option.bind_some,if_neg (by decide),if_neg (by decide),if_pos rfl]
    obtain ⟨n,M,rfl,rfl,k1,k2,k3,k4⟩:=hok.nat hm
    have k5 : ∀ m ∈ M,m.length ≤ 40:=fun m h => by have:=hs (toI m) (List.mem_map_of_mem h);rwa [toI_len] at this
    rw [respenc_is 3000000 n M t k1 k2 (by omega) (by omega),Option.bind_some,par_is 3000000 _ (resp_len n M t k1 k2 k5 k3) (by omega),Option.bind_some,parL_resp n M t k1 k2 k3 k4]
    have hf : request_Fail.f (n : Int) = some ((n : Int),[],⟨#[]⟩):=rfl
    rw [hf,Option.bind_some,told_is 3000000 n M t k1 k2 (by omega) (by omega),Option.bind_some,if_pos rfl,if_pos (show (tupP (n,M,t,0)).2.2.2 = 0 from rfl),same28_is,Option.bind_some,if_pos (decide_eq_true ⟨rfl,rfl,rfl⟩),same28_is,Option.bind_some,if_pos (decide_eq_true ⟨rfl,rfl,rfl⟩),if_pos rfl,if_pos (by simp)]
    have he : ((⟨#[]⟩ : ByteArray)).toList = ([] : List UInt8):=by rw [toList_lst];rfl
    rw [if_pos he]
    have hck:=check28_is n [] [] k1 ⟨by simp,fun m h => by simp at h⟩ (by simp) (.inr ⟨rfl,rfl⟩)
    have hck2 : request_Response_Check.f (n : Int) [] (⟨#[]⟩ : ByteArray) = some 0:=hck
    rw [hck2,Option.bind_some];rfl
  · rw [g2 hok,Option.bind_some,f2 hok,Option.bind_some,if_neg (by decide),if_neg (by decide),if_neg (by decide)]
end Go.Proofs.YtkpjkgfaepidaaaDoor.Pure

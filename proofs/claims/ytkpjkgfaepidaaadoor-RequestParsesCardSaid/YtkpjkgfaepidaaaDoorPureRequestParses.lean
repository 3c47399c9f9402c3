/- Of any bytes there is the response whose bytes they are, or what is wrong: the pure statement of RequestParses, for every text. -/
import Derived.Test.YtkpjkgfaepidaaaDoorPCx21
import Derived.Test.YtkpjkgfaepidaaaDoorReq28
namespace Go.Proofs.YtkpjkgfaepidaaaDoor.Pure
open Go.RowKit Go.Proofs.YtkpjkgfaepidaaaDoor.PC Go.Proofs.YtkpjkgfaepidaaaDoorW.PrintWords Go.Proofs.YtkpjkgfaepidaaaDoorW.PrintLast Go.Proofs.YtkpjkgfaepidaaaDoor.VarPlain Go.Proofs.YtkpjkgfaepidaaaDoor.Glob
theorem RequestParses : dowserlaw28_RequestParses.Pure:=by
  intro a0 _
  refine ⟨20000,?_⟩
  have hc:=cut_is a0 200
  have hl:=cut_len a0 200
  rw [size_mk] at hl
  rw [show ((200 : Nat) : Int) = 200 from rfl] at hc
  unfold dowserlaw28_RequestParses.f
  rw [awake28_is 20000 (by omega),Option.bind_some,if_pos rfl,hc,Option.bind_some]
  generalize (lst a0).take 200 = l at hl ⊢
  rw [par_is 20000 l (by omega) (by omega),Option.bind_some,refpar_is 20000 l (by omega) (by omega),Option.bind_some,if_pos rfl]
  have hq:=parL_few l (by omega)
  rw [own28_is 20000 _ _ _ hq.1 hq.2 (by omega),Option.bind_some,same28_is,Option.bind_some,if_pos (decide_eq_true ⟨rfl,rfl,rfl⟩)]
  by_cases he : (tupP (parL l)).2.2.2 = 0
  case neg => rw [if_neg he]
  rw [if_pos he]
  have he2 : (parL l).2.2.2 = 0:=he
  have hi:=parL_inv l (by omega) (parL l).1 (parL l).2.1 (parL l).2.2.1 (by rw [← he2])
  clear he he2 hq
  generalize parL l = R at hi ⊢
  obtain ⟨c,L,t,e⟩:=R
  simp only at hi
  obtain ⟨x1,x2,x3,x4,x5⟩:=hi
  show (request_Response_Check.f (c : Int) (toLL L) (mkS t)).bind _ = _
  rw [check28_is c L t x1 x2 x3 x4,Option.bind_some,if_pos rfl]
  show (request_Response_Encode.f 20000 (c : Int) (toLL L) (mkS t)).bind _ = _
  rw [respenc_is 20000 c L t x1 x2 (by omega) (by omega),Option.bind_some,← x5]
  simp
end Go.Proofs.YtkpjkgfaepidaaaDoor.Pure

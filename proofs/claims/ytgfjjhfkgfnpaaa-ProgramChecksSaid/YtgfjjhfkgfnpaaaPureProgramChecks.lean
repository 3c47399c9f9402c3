/- Which programs may be is as the document says, of every program. Conditions: those of the statement's arguments. -/
import Derived.Test.YtgfjjhfkgfnpaaaPBx18
import Derived.Test.YtgfjjhfkgfnpaaaPBx25
import Derived.Test.YtgfjjhfkgfnpaaaProgLoop
import Derived.Test.YtgfjjhfkgfnpaaaProgCheck
namespace Go.Proofs.Ytgfjjhfkgfnpaaa.Pure
open Go Go.RowKit Go.Proofs.Ytgfjjhfkgfnpaaa.PB Go.Proofs.YtgfjjhfkgfnpaaaW.PrintWords Go.Proofs.Ytgfjjhfkgfnpaaa.ProgCheck
set_option maxRecDepth 100000 in
theorem awake15 : dowserlaw15_awake.f 30 = some true:=by kernel_rfl
theorem float_wf {b : Nat} (h : (Lit.float .f64 b).wf = true) : b < 18446744073709551616:=by
  have:=of_decide_eq_true h
  omega
theorem ProgramChecks : dowserlaw15_ProgramChecks.Pure:=by
  intro a0 a1 a2 F E O _ _ _ hF hE hO
  have lF : (fewF F).length ≤ 40:=by rw [fewF_len];omega
  have lO : (fewO O).length ≤ 310:=by rw [fewO_len];omega
  have lE : (E.take 40).length ≤ 40:=by rw [List.length_take];omega
  have mF : ∀ f ∈ fewF F,f.f0.length < 41:=by
    intro f hf
    obtain ⟨x,_,rfl⟩:=List.mem_map.1 hf
    simp only [List.length_take];omega
  have mO : ∀ o ∈ fewO O,o.f5.length < 41 ∧ o.f6 < 18446744073709551616:=by
    intro o ho
    obtain ⟨x,hx,rfl⟩:=List.mem_map.1 ho
    refine ⟨by simp only [List.length_take];omega,?_⟩
    exact float_wf (hO.2 x (List.mem_of_mem_take hx)).2.2.2.2.2.2
  have h1:=check_f a0 a1 a2 (fewF F) (E.take 40) (fewO O) 0 (by omega) (by omega) (by omega)
  have h2:=rcheck_f a0 a1 a2 (fewF F) (E.take 40) (fewO O) 0 (by omega) (by omega) (by omega) mF mO
  have h3:=made_f a0 a1 a2 (fewF F) (E.take 40) (fewO O) 0 (by omega) (by omega) (by omega) mF (fun o ho => (mO o ho).1)
  refine ⟨2000,?_⟩
  unfold dowserlaw15_ProgramChecks.f
  rw [up (g:=fun k => dowserlaw15_awake.f k) (fun k => dowserlaw15_awake.mono k) awake15 (by omega : 30 ≤ 2000),Option.bind_some,if_pos rfl,
    up (g:=fun k => dowserlaw15_Own.f k a0 a1 a2 (fewF F) (E.take 40) (fewO O)) (fun k => dowserlaw15_Own.mono _ _ _ _ _ _ k) h3 (by omega : _ ≤ 2000),Option.bind_some]
  simp only
  rw [up (g:=fun k => program_Program_Check.f k a0 a1 a2 ((fewF F).map oF) (E.take 40) ((fewO O).map oO)) (fun k => program_Program_Check.mono _ _ _ _ _ _ k) h1 (by omega : _ ≤ 2000),Option.bind_some,
    up (g:=fun k => dowserref15_Check.f k a0 a1 a2 (fewF F) (E.take 40) (fewO O)) (fun k => dowserref15_Check.mono _ _ _ _ _ _ k) h2 (by omega : _ ≤ 2000),Option.bind_some]
  simp
end Go.Proofs.Ytgfjjhfkgfnpaaa.Pure

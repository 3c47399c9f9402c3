/- Unlike responses have unlike bytes: the pure statement of RequestUnlike, for every two responses. -/
import Derived.Test.YtkpjkgfaepidaaaDoorPCx14
import Derived.Test.YtkpjkgfaepidaaaDoorReq28
namespace Go.Proofs.YtkpjkgfaepidaaaDoor.Pure
open Go.RowKit Go.Proofs.YtkpjkgfaepidaaaDoor.PC Go.Proofs.YtkpjkgfaepidaaaDoorW.PrintWords Go.Proofs.YtkpjkgfaepidaaaDoorW.PrintLast Go.Proofs.YtkpjkgfaepidaaaDoor.VarPlain Go.Proofs.YtkpjkgfaepidaaaDoor.Glob
theorem toLL_inj {M N : List (List Nat)} (h : toLL M = toLL N) : M = N:=by
  unfold toLL toI at h
  refine (List.map_inj_right (fun a b e => ?_)).1 h
  exact (List.map_inj_right (fun x y e => by omega)).1 e
theorem RequestUnlike : dowserlaw28_RequestUnlike.Pure:=by
  intro a l t0 b m u0 _ _ _ _ _ _
  refine ⟨3000000,?_⟩
  have hc:=cut_is t0 20
  have hl:=cut_len t0 20
  have hc2:=cut_is u0 20
  have hl2:=cut_len u0 20
  rw [size_mk] at hl hl2
  rw [show ((20 : Nat) : Int) = 20 from rfl] at hc hc2
  unfold dowserlaw28_RequestUnlike.f
  rw [awake28_is 3000000 (by omega),Option.bind_some,if_pos rfl,hc,Option.bind_some,hc2,Option.bind_some]
  generalize (lst t0).take 20 = t at hl ⊢
  generalize (lst u0).take 20 = u at hl2 ⊢
  have hs:=few_short l
  have hn : (fewL l).length ≤ 10:=by rw [fewL_len];omega
  generalize fewL l = L at hs hn ⊢
  have hs2:=few_short m
  have hn2 : (fewL m).length ≤ 10:=by rw [fewL_len];omega
  generalize fewL m = M at hs2 hn2 ⊢
  have hm : ∀ l ∈ L,l.length ≤ 2000:=fun l h => by have:=hs l h;omega
  have hm2 : ∀ l ∈ M,l.length ≤ 2000:=fun l h => by have:=hs2 l h;omega
  unfold dowserlaw28_RequestUnlike.t
  obtain ⟨f1,f2⟩:=fine_is 3000000 a L t hm (by omega) (by omega)
  obtain ⟨e1,e2⟩:=fine_is 3000000 b M u hm2 (by omega) (by omega)
  have hno : ∀ x y z v w q,dowserlaw28_RequestUnlike.j0 (2999999 + 1) true x y z v w q = some true:=fun x y z v w q => by rw [dowserlaw28_RequestUnlike.j0,if_pos rfl]
  by_cases hok : OKr a L t
  case neg => rw [f2 hok,Option.bind_some,if_neg (by decide)];exact hno _ _ _ _ _ _
  rw [f1 hok,Option.bind_some,if_pos rfl]
  by_cases hok2 : OKr b M u
  case neg => rw [e2 hok2,Option.bind_some];exact hno _ _ _ _ _ _
  rw [e1 hok2,Option.bind_some]
  obtain ⟨n,N,rfl,rfl,k1,k2,k3,k4⟩:=hok.nat hm
  obtain ⟨p,P,rfl,rfl,i1,i2,i3,i4⟩:=hok2.nat hm2
  show dowserlaw28_RequestUnlike.j0 (2999999 + 1) (!true) (n : Int) (toLL N) (mkS t) (p : Int) (toLL P) (mkS u) = some true
  rw [dowserlaw28_RequestUnlike.j0,if_neg (by decide),own28_is 2999999 _ _ _ (by omega) (fun l h => by have:=hs l h;omega) (by omega),Option.bind_some,own28_is 2999999 _ _ _ (by omega) (fun l h => by have:=hs2 l h;omega) (by omega),Option.bind_some]
  simp only
  rw [respenc_is 2999999 n N t k1 k2 (by omega) (by omega),Option.bind_some,respenc_is 2999999 p P u i1 i2 (by omega) (by omega),Option.bind_some,same28_is,Option.bind_some,same28_is,Option.bind_some,toList_lst,toList_lst,lst_mk,lst_mk]
  by_cases he : (n : Int) = (p : Int) ∧ mkS t = mkS u ∧ toLL N = toLL P
  · obtain ⟨q1,q2,q3⟩:=he
    obtain rfl : n = p:=by omega
    obtain rfl:=toLL_inj q3
    obtain rfl:=(eq_mk t u).1 q2
    simp
  · have hne : (respB n N t == respB p P u) = false:=by
      rw [beq_eq_false_iff_ne]
      intro hb
      have h1:=parL_resp n N t k1 k2 k3 k4
      rw [hb,parL_resp p P u i1 i2 i3 i4] at h1
      simp only [Prod.mk.injEq] at h1
      obtain ⟨r1,r2,r3,_⟩:=h1
      exact he ⟨by omega,by rw [r3],by rw [r2]⟩
    have he2 : ¬ ((p : Int) = (n : Int) ∧ mkS u = mkS t ∧ toLL P = toLL N):=fun h => he ⟨h.1.symm,h.2.1.symm,h.2.2.symm⟩
    rw [hne,decide_eq_false he,decide_eq_false he2];rfl
end Go.Proofs.YtkpjkgfaepidaaaDoor.Pure

-- Written by this session's own program wip/bin/dprint.py, over the kit's print.py, with own texts for some functions: no print of print.sh's
import Derived.Test.YtlboglbgdjakmaaRows
import Derived.Test.YtlboglbgdjakmaaPBx25
import Derived.Test.YtlboglbgdjakmaaOpens
import Derived.Test.YtlboglbgdjakmaaPureNodeShares
import Derived.WalkKit
import Derived.ProofKit
import Derived.OpenShut
import Derived.ShutString
import Derived.ChangeOld
import Derived.Below
import Derived.SizedLaws
import Derived.Carry
namespace Go.Proofs.Ytlboglbgdjakmaa.nodeShares
open Go.ChangeShapes Go.WideShapes Go.ChangeAt Go.RowKit Go.Proofs.Ytlboglbgdjakmaa.Opens Go.Proofs.Ytlboglbgdjakmaa.PB Go.Proofs.YtlboglbgdjakmaaW.PrintWords
open Go.ChangeMaps (open_string shut_string)
set_option linter.unusedVariables false
theorem own : ownKnob Try.prog.godebug = none := by kernel_rfl
theorem laidOut : laidOutB Try.prog = true := by kernel_rfl
set_option maxRecDepth 100000 in
set_option maxHeartbeats 2000000 in
theorem lifted (os : Os) (started : os.Started) (H : Type) (enc : TypeId × Value → H) :
    ReturnsInHanded {} Try.checked os 6 .any (Rows.nodeSharesSpec.pre6 enc Try.prog Try.f6 Rows.nodeSharesRow.domain false) (Rows.nodeSharesSpec.post enc Try.prog Try.f6 false true false false) := by
  refine returnsInHanded_of_change_sized (C := Try.checked) own started (by kernel_rfl) Try.func6
    (ChangeSpec.witness6 (enc := enc) (C := Try.checked) false ⟨#[], #[.agg #[.int .i64 0, .slice none 0 0, .slice none 0 0, .slice none 0 0]], []⟩ 8 (by kernel_rfl) (by kernel_rfl) (by kernel_rfl) (by kernel_rfl)) ?_
  intro W base args ds gs before hval0 hW hcnd hsz0 _
  have hsz : (DataW.weightsEach Try.prog (Try.f6.params.toList ++ Rows.nodeSharesSpec.plain.varTypes Try.prog) (ds ++ gs)).all (· ≤ reachBytes) = true := hsz0
  have hval : ∀ (j : Nat) t v, Try.f6.params[j]? = some t → args[j]? = some v → Value.okWide Try.prog W .any base t v := hval0
  have hW' := hW
  obtain ⟨p, q, hA0, hV, rfl, hfz, hnd⟩ := hW
  have hA : DataW.TrodAll enc Try.prog W 0 (fun _ => true) true Try.f6.params.toList args.toList ds p := hA0
  rw [Try.params6] at hA hval hsz
  obtain ⟨v0, vs0, d0, ds0, p0, q0, hargs, rfl, rfl, h0, r0⟩ := trodAll_cons hA
  obtain ⟨rfl, rfl, rfl⟩ := trodAll_nil r0
  obtain rfl : args = #[v0] := by cases args; simp_all
  obtain ⟨rfl, rfl⟩ := trodVars_none hV
  have k0 := h0
  have lt0 : ∀ x ∈ p0, x.block < W.heap.size := by obtain ⟨m, hm⟩ := k0; exact DataW.trod_lt m _ _ _ hm
  obtain ⟨cs0, rfl, _⟩ := okWide_struct Try.underlying25 (hval 0 25 v0 rfl rfl)
  obtain ⟨fuel0, hf0⟩ := h0
  have op0 : Opens Try.prog 25 (Kd.pair (Kd.int .i64) (Kd.pair (Kd.slice 9 Kd.string) (Kd.pair (Kd.slice 9 Kd.string) (Kd.slice 3 (Kd.int .i64))))) _ := (opens_struct (P := Try.prog) (t := 25) Try.underlying25 (by kernel_rfl) (opensF_cons (opens_int (k := .i64) (P := Try.prog) (t := 3) (by kernel_rfl)) (by kernel_rfl) (by kernel_rfl) (opensF_cons (opens_slice (q := 9) (e := 9) (P := Try.prog) (t := 22) (by kernel_rfl) (by kernel_rfl) (opens_string (P := Try.prog) (t := 9) (by kernel_rfl))) (by kernel_rfl) (by kernel_rfl) (opensF_cons (opens_slice (q := 9) (e := 9) (P := Try.prog) (t := 22) (by kernel_rfl) (by kernel_rfl) (opens_string (P := Try.prog) (t := 9) (by kernel_rfl))) (by kernel_rfl) (by kernel_rfl) (opensF_last (opens_slice (q := 3) (e := 3) (P := Try.prog) (t := 23) (by kernel_rfl) (by kernel_rfl) (opens_int (k := .i64) (P := Try.prog) (t := 3) (by kernel_rfl))) (by kernel_rfl) (by kernel_rfl))))))
  obtain ⟨⟨a0_0, l0_1, l0_2, l0_3⟩, K0, ⟨o0_0, o0_1, o0_2, o0_3⟩⟩ := op0.out hf0
  obtain ⟨_, _, e0, rfl, ⟨_, _, rfl, ⟨A0_1, c0_1, rfl, hc0_1, hr0_1⟩, ⟨_, _, rfl, ⟨A0_2, c0_2, rfl, hc0_2, hr0_2⟩, ⟨A0_3, c0_3, rfl, hc0_3, hr0_3⟩⟩⟩⟩ := K0
  obtain rfl : cs0 = #[.int .i64 a0_0, .slice A0_1 l0_1.length c0_1, .slice A0_2 l0_2.length c0_2, .slice A0_3 l0_3.length c0_3] := by cases cs0; simpa [Value.cells] using e0
  clear hA0 hval0 hsz0 hsz
  obtain ⟨kk, hh⟩ := Pure.NodeShares a0_0 l0_1 l0_2 l0_3 o0_0 o0_1 o0_2 o0_3
  refine (PB.dowserlaw09_NodeShares.calls kk a0_0 _ _ l0_1 _ _ l0_2 _ _ l0_3 true W hr0_1 hc0_1 hr0_2 hc0_2 hr0_3 hc0_3 hh).mono fun e W' ⟨he, bel0⟩ => ?_
  have bel : Below W.heap.size W W' := bel0
  subst he
  exact ⟨_, rfl, _, _, _, [], _, [], hW', trodAll_mk1 (shut_bool Try.underlying4 _), (trodAll_cons_mk (Below.trod laidOut (by kernel_rfl) (of_decide_eq_true (by kernel_rfl)) k0 bel lt0) trodAll_mk0), rfl, bel.frame _, fun h => by cases h⟩
theorem over : Rows.nodeSharesRow.holds Try.pinned (OpenSpec.ofChange Rows.nodeSharesSpec) :=
  OpenClaim.holds_of_wide 6 Try.f6 rfl rfl rfl rfl rfl rfl rfl ⟨rfl, rfl, rfl, rfl, rfl⟩ rfl rfl rfl rfl rfl (by kernel_rfl) Try.func6 (by kernel_rfl)
    (of_decide_eq_true (by kernel_rfl)) (by unfold Func.isWrapper; first | (rw [if_pos (by decide +kernel)]; kernel_rfl) | (rw [if_neg (by decide +kernel)]; exact ⟨rfl, rfl⟩))
    (fun os started H enc _ => lifted os started H enc)
theorem proved : Rows.NodeSharesSaid := over
#print axioms proved
end Go.Proofs.Ytlboglbgdjakmaa.nodeShares
namespace Go.Proofs.Ytlboglbgdjakmaa
/-- The row, under a short name, for the claim. -/
theorem nodeShares_holds : Rows.NodeSharesSaid := nodeShares.proved
end Go.Proofs.Ytlboglbgdjakmaa

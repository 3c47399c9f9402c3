-- Written by this session's own program wip/bin/dprint.py, over the kit's print.py, with own texts for some functions: no print of print.sh's
import Derived.Test.YtgfjjhfkgfnpaaaRows
import Derived.Test.YtgfjjhfkgfnpaaaThings
import Derived.Test.YtgfjjhfkgfnpaaaOpens
import Derived.Test.YtgfjjhfkgfnpaaaPureProgramThings
import Derived.WalkKit
import Derived.ProofKit
import Derived.OpenShut
import Derived.ShutString
import Derived.ChangeOld
import Derived.Below
import Derived.SizedLaws
import Derived.Carry
namespace Go.Proofs.Ytgfjjhfkgfnpaaa.programThings
open Go.ChangeShapes Go.WideShapes Go.ChangeAt Go.RowKit Go.Proofs.Ytgfjjhfkgfnpaaa.Opens Go.Proofs.Ytgfjjhfkgfnpaaa.PB Go.Proofs.YtgfjjhfkgfnpaaaW.PrintWords
open Go.ChangeMaps (open_string shut_string)
set_option linter.unusedVariables false
theorem own : ownKnob Try.prog.godebug = none := by kernel_rfl
theorem laidOut : laidOutB Try.prog = true := by kernel_rfl
set_option maxRecDepth 100000 in
set_option maxHeartbeats 2000000 in
theorem lifted (os : Os) (started : os.Started) (H : Type) (enc : TypeId × Value → H) :
    ReturnsInHanded {} Try.checked os 6 .any (Rows.programThingsSpec.pre6 enc Try.prog Try.f6 Rows.programThingsRow.domain false) (Rows.programThingsSpec.post enc Try.prog Try.f6 false true false false) := by
  refine returnsInHanded_of_change_sized (C := Try.checked) own started (by kernel_rfl) Try.func6
    (ChangeSpec.witness6 (enc := enc) (C := Try.checked) false ⟨#[], #[.agg #[.int .i64 0, .int .i64 0, .int .i64 0, .slice none 0 0, .slice none 0 0, .slice none 0 0], .int .i64 0], []⟩ 8 (by kernel_rfl) (by kernel_rfl) (by kernel_rfl) (by kernel_rfl)) ?_
  intro W base args ds gs before hval0 hW hcnd hsz0 _
  have hsz : (DataW.weightsEach Try.prog (Try.f6.params.toList ++ Rows.programThingsSpec.plain.varTypes Try.prog) (ds ++ gs)).all (· ≤ reachBytes) = true := hsz0
  have hval : ∀ (j : Nat) t v, Try.f6.params[j]? = some t → args[j]? = some v → Value.okWide Try.prog W .any base t v := hval0
  have hW' := hW
  obtain ⟨p, q, hA0, hV, rfl, hfz, hnd⟩ := hW
  have hA : DataW.TrodAll enc Try.prog W 0 (fun _ => true) true Try.f6.params.toList args.toList ds p := hA0
  rw [Try.params6] at hA hval hsz
  obtain ⟨v0, vs0, d0, ds0, p0, q0, hargs, rfl, rfl, h0, r0⟩ := trodAll_cons hA
  obtain ⟨v1, vs1, d1, ds1, p1, q1, rfl, rfl, rfl, h1, r1⟩ := trodAll_cons r0
  obtain ⟨rfl, rfl, rfl⟩ := trodAll_nil r1
  obtain rfl : args = #[v0, v1] := by cases args; simp_all
  obtain ⟨rfl, rfl⟩ := trodVars_none hV
  have k0 := h0
  have lt0 : ∀ x ∈ p0, x.block < W.heap.size := by obtain ⟨m, hm⟩ := k0; exact DataW.trod_lt m _ _ _ hm
  obtain ⟨cs0, rfl, _⟩ := okWide_struct Try.underlying26 (hval 0 26 v0 rfl rfl)
  obtain ⟨fuel0, hf0⟩ := h0
  have op0 : Opens Try.prog 26 (Kd.pair (Kd.int .i64) (Kd.pair (Kd.int .i64) (Kd.pair (Kd.int .i64) (Kd.pair (Kd.slice 52 k52) (Kd.pair (Kd.slice 3 (Kd.int .i64)) (Kd.slice 53 k53)))))) _ := (opens_struct (P := Try.prog) (t := 26) Try.underlying26 (by kernel_rfl) (opensF_cons (opens_int (k := .i64) (P := Try.prog) (t := 3) (by kernel_rfl)) (by kernel_rfl) (by kernel_rfl) (opensF_cons (opens_int (k := .i64) (P := Try.prog) (t := 3) (by kernel_rfl)) (by kernel_rfl) (by kernel_rfl) (opensF_cons (opens_int (k := .i64) (P := Try.prog) (t := 3) (by kernel_rfl)) (by kernel_rfl) (by kernel_rfl) (opensF_cons (opens_slice (q := 52) (e := 52) (P := Try.prog) (t := 22) (by kernel_rfl) (by kernel_rfl) (opens_iso (fun x : S52 => (x.f0, x.f1)) (fun p => ⟨p.1, p.2⟩) (fun _ => rfl) (opens_struct (P := Try.prog) (t := 52) Try.underlying52 (by kernel_rfl) (opensF_cons (opens_slice (q := 3) (e := 3) (P := Try.prog) (t := 23) (by kernel_rfl) (by kernel_rfl) (opens_int (k := .i64) (P := Try.prog) (t := 3) (by kernel_rfl))) (by kernel_rfl) (by kernel_rfl) (opensF_last (opens_int (k := .i64) (P := Try.prog) (t := 3) (by kernel_rfl)) (by kernel_rfl) (by kernel_rfl)))))) (by kernel_rfl) (by kernel_rfl) (opensF_cons (opens_slice (q := 3) (e := 3) (P := Try.prog) (t := 23) (by kernel_rfl) (by kernel_rfl) (opens_int (k := .i64) (P := Try.prog) (t := 3) (by kernel_rfl))) (by kernel_rfl) (by kernel_rfl) (opensF_last (opens_slice (q := 53) (e := 53) (P := Try.prog) (t := 24) (by kernel_rfl) (by kernel_rfl) (opens_iso (fun x : S53 => (x.f0, x.f1, x.f2, x.f3, x.f4, x.f5, x.f6)) (fun p => ⟨p.1, p.2.1, p.2.2.1, p.2.2.2.1, p.2.2.2.2.1, p.2.2.2.2.2.1, p.2.2.2.2.2.2⟩) (fun _ => rfl) (opens_struct (P := Try.prog) (t := 53) Try.underlying53 (by kernel_rfl) (opensF_cons (opens_int (k := .i64) (P := Try.prog) (t := 3) (by kernel_rfl)) (by kernel_rfl) (by kernel_rfl) (opensF_cons (opens_int (k := .i64) (P := Try.prog) (t := 3) (by kernel_rfl)) (by kernel_rfl) (by kernel_rfl) (opensF_cons (opens_int (k := .i64) (P := Try.prog) (t := 3) (by kernel_rfl)) (by kernel_rfl) (by kernel_rfl) (opensF_cons (opens_int (k := .i64) (P := Try.prog) (t := 3) (by kernel_rfl)) (by kernel_rfl) (by kernel_rfl) (opensF_cons (opens_int (k := .i64) (P := Try.prog) (t := 3) (by kernel_rfl)) (by kernel_rfl) (by kernel_rfl) (opensF_cons (opens_slice (q := 3) (e := 3) (P := Try.prog) (t := 23) (by kernel_rfl) (by kernel_rfl) (opens_int (k := .i64) (P := Try.prog) (t := 3) (by kernel_rfl))) (by kernel_rfl) (by kernel_rfl) (opensF_last (opens_float (k := .f64) (P := Try.prog) (t := 40) (by kernel_rfl)) (by kernel_rfl) (by kernel_rfl))))))))))) (by kernel_rfl) (by kernel_rfl))))))))
  obtain ⟨⟨a0_0, a0_1, a0_2, l0_3, l0_4, l0_5⟩, K0, ⟨o0_0, o0_1, o0_2, o0_3, o0_4, o0_5⟩⟩ := op0.out hf0
  obtain ⟨_, _, e0, rfl, ⟨_, _, rfl, rfl, ⟨_, _, rfl, rfl, ⟨_, _, rfl, ⟨A0_3, c0_3, rfl, hc0_3, hr0_3⟩, ⟨_, _, rfl, ⟨A0_4, c0_4, rfl, hc0_4, hr0_4⟩, ⟨A0_5, c0_5, rfl, hc0_5, hr0_5⟩⟩⟩⟩⟩⟩ := K0
  obtain rfl : cs0 = #[.int .i64 a0_0, .int .i64 a0_1, .int .i64 a0_2, .slice A0_3 l0_3.length c0_3, .slice A0_4 l0_4.length c0_4, .slice A0_5 l0_5.length c0_5] := by cases cs0; simpa [Value.cells] using e0
  obtain ⟨a1, rfl, rfl, rfl, o1⟩ := open_int Try.underlying3 (hval 1 3 v1 rfl rfl) h1
  clear hA0 hval0 hsz0 hsz
  obtain ⟨kk, hh⟩ := Pure.ProgramThings a0_0 a0_1 a0_2 l0_3 l0_4 l0_5 a1 o0_0 o0_1 o0_2 o0_3 o0_4 o0_5 o1
  refine (PB.dowserlaw15_ProgramThings.calls kk a0_0 a0_1 a0_2 _ _ l0_3 _ _ l0_4 _ _ l0_5 a1 true W hr0_3 hc0_3 hr0_4 hc0_4 hr0_5 hc0_5 hh).mono fun e W' ⟨he, bel0⟩ => ?_
  have bel : Below W.heap.size W W' := bel0
  subst he
  exact ⟨_, rfl, _, _, _, [], _, [], hW', trodAll_mk1 (shut_bool Try.underlying4 _), (trodAll_cons_mk (Below.trod laidOut (by kernel_rfl) (of_decide_eq_true (by kernel_rfl)) k0 bel lt0) (trodAll_cons_mk (shut_int Try.underlying3 o1) trodAll_mk0)), rfl, bel.frame _, fun h => by cases h⟩
theorem over : Rows.programThingsRow.holds Try.pinned (OpenSpec.ofChange Rows.programThingsSpec) :=
  OpenClaim.holds_of_wide 6 Try.f6 rfl rfl rfl rfl rfl rfl rfl ⟨rfl, rfl, rfl, rfl, rfl⟩ rfl rfl rfl rfl rfl (by kernel_rfl) Try.func6 (by kernel_rfl)
    (of_decide_eq_true (by kernel_rfl)) (by unfold Func.isWrapper; first | (rw [if_pos (by decide +kernel)]; kernel_rfl) | (rw [if_neg (by decide +kernel)]; exact ⟨rfl, rfl⟩))
    (fun os started H enc _ => lifted os started H enc)
theorem proved : Rows.ProgramThingsSaid := over
#print axioms proved
end Go.Proofs.Ytgfjjhfkgfnpaaa.programThings
namespace Go.Proofs.Ytgfjjhfkgfnpaaa
/-- The row, under a short name, for the claim. -/
theorem programThings_holds : Rows.ProgramThingsSaid := programThings.proved
end Go.Proofs.Ytgfjjhfkgfnpaaa

-- Written by this session's own program wip/bin/dprint.py, over the kit's print.py, with own texts for some functions: no print of print.sh's
import Derived.Test.YtkpjkgfaepidaaaDoorRows
import Derived.Test.YtkpjkgfaepidaaaDoorPCx14
import Derived.Test.YtkpjkgfaepidaaaDoorOpens
import Derived.Test.YtkpjkgfaepidaaaDoorPureRequestUnlike
import Derived.Test.YtkpjkgfaepidaaaDoorLaid28
import Derived.Test.YtkpjkgfaepidaaaDoorTie
import Derived.Test.YtkpjkgfaepidaaaDoorCards
import Derived.WalkKit
import Derived.LaidMore
import Derived.Stop.Joined
import Derived.SevenTiedAt
import Derived.Handed
import Derived.ProofKit
import Derived.OpenShut
import Derived.ShutString
import Derived.ChangeOld
import Derived.Below
import Derived.SizedLaws
import Derived.Carry
namespace Go.Proofs.YtkpjkgfaepidaaaDoor.requestUnlike
open Go.ChangeShapes Go.WideShapes Go.ChangeAt Go.RowKit Go.Proofs.YtkpjkgfaepidaaaDoor.Opens Go.Proofs.YtkpjkgfaepidaaaDoor.PC Go.Proofs.YtkpjkgfaepidaaaDoorW.PrintWords
open Go.ChangeMaps (open_string shut_string)
set_option linter.unusedVariables false
theorem own : ownKnob Tryd.prog.godebug = none := by kernel_rfl
theorem laidOut : laidOutB Tryd.prog = true := by kernel_rfl
set_option maxRecDepth 100000 in
set_option maxHeartbeats 2000000 in
theorem lifted (os : Os) (started : os.Started) (H : Type) (enc : TypeId × Value → H) :
    ReturnsInHanded {} Tryd.checked os 3 .any (fun w args => (Rows.requestUnlikeSpec.pre enc Tryd.prog Tryd.f3 [] false w args ∧ laidMetH Tryd.prog Laid.laidL w) ∧ sizedMet enc Tryd.prog Tryd.f3 (OpenSpec.ofChange Rows.requestUnlikeSpec) false w args) (Rows.requestUnlikeSpec.post enc Tryd.prog Tryd.f3 false true false false) := by
  refine returnsInHanded_of_change_and (C := Tryd.checked) (X := fun w _ => laidMetH Tryd.prog Laid.laidL w) (fun _ _ _ hh h => h.of_heap hh) own started (by kernel_rfl) Tryd.func3
    (ChangeSpec.witness_shaped (enc := enc) (C := Tryd.checked) (os := os) (X := fun w _ => laidMetH Tryd.prog Laid.laidL w) false (World.doorLaid Tryd.prog 400 os) #[.agg #[.int .i64 0, .slice none 0 0, .string ByteArray.empty], .agg #[.int .i64 0, .slice none 0 0, .string ByteArray.empty]] 8 rfl (World.shaped_of_RefB (by kernel_rfl) (by kernel_rfl)) (by kernel_rfl) (by kernel_rfl) (by kernel_rfl) (Laid.door_met os _)) ?_
  intro W base args ds gs before hval0 hW hcnd hsz0 hL _
  have hsz : (DataW.weightsEach Tryd.prog (Tryd.f3.params.toList ++ Rows.requestUnlikeSpec.plain.varTypes Tryd.prog) (ds ++ gs)).all (· ≤ reachBytes) = true := hsz0
  have hval : ∀ (j : Nat) t v, Tryd.f3.params[j]? = some t → args[j]? = some v → Value.okWide Tryd.prog W .any base t v := hval0
  have hW' := hW
  obtain ⟨p, q, hA0, hV, rfl, hfz, hnd⟩ := hW
  have hA : DataW.TrodAll enc Tryd.prog W 0 (fun _ => true) true Tryd.f3.params.toList args.toList ds p := hA0
  rw [Tryd.params3] at hA hval hsz
  obtain ⟨v0, vs0, d0, ds0, p0, q0, hargs, rfl, rfl, h0, r0⟩ := trodAll_cons hA
  obtain ⟨v1, vs1, d1, ds1, p1, q1, rfl, rfl, rfl, h1, r1⟩ := trodAll_cons r0
  obtain ⟨rfl, rfl, rfl⟩ := trodAll_nil r1
  obtain rfl : args = #[v0, v1] := by cases args; simp_all
  obtain ⟨rfl, rfl⟩ := trodVars_none hV
  have k0 := h0
  have lt0 : ∀ x ∈ p0, x.block < W.heap.size := by obtain ⟨m, hm⟩ := k0; exact DataW.trod_lt m _ _ _ hm
  obtain ⟨cs0, rfl, _⟩ := okWide_struct Tryd.underlying24 (hval 0 24 v0 rfl rfl)
  obtain ⟨fuel0, hf0⟩ := h0
  have op0 : Opens Tryd.prog 24 (Kd.pair (Kd.int .i64) (Kd.pair (Kd.slice 44 (Kd.slice 3 (Kd.int .i64))) Kd.string)) _ := (opens_struct (P := Tryd.prog) (t := 24) Tryd.underlying24 (by kernel_rfl) (opensF_cons (opens_int (k := .i64) (P := Tryd.prog) (t := 3) (by kernel_rfl)) (by kernel_rfl) (by kernel_rfl) (opensF_cons (opens_slice (q := 44) (e := 44) (P := Tryd.prog) (t := 22) (by kernel_rfl) (by kernel_rfl) (opens_slice (q := 3) (e := 3) (P := Tryd.prog) (t := 44) (by kernel_rfl) (by kernel_rfl) (opens_int (k := .i64) (P := Tryd.prog) (t := 3) (by kernel_rfl)))) (by kernel_rfl) (by kernel_rfl) (opensF_last (opens_string (P := Tryd.prog) (t := 9) (by kernel_rfl)) (by kernel_rfl) (by kernel_rfl)))))
  obtain ⟨⟨a0_0, l0_1, a0_2⟩, K0, ⟨o0_0, o0_1, o0_2⟩⟩ := op0.out hf0
  obtain ⟨_, _, e0, rfl, ⟨_, _, rfl, ⟨A0_1, c0_1, rfl, hc0_1, hr0_1⟩, rfl⟩⟩ := K0
  obtain rfl : cs0 = #[.int .i64 a0_0, .slice A0_1 l0_1.length c0_1, .string a0_2] := by cases cs0; simpa [Value.cells] using e0
  have k1 := h1
  have lt1 : ∀ x ∈ p1, x.block < W.heap.size := by obtain ⟨m, hm⟩ := k1; exact DataW.trod_lt m _ _ _ hm
  obtain ⟨cs1, rfl, _⟩ := okWide_struct Tryd.underlying24 (hval 1 24 v1 rfl rfl)
  obtain ⟨fuel1, hf1⟩ := h1
  have op1 : Opens Tryd.prog 24 (Kd.pair (Kd.int .i64) (Kd.pair (Kd.slice 44 (Kd.slice 3 (Kd.int .i64))) Kd.string)) _ := (opens_struct (P := Tryd.prog) (t := 24) Tryd.underlying24 (by kernel_rfl) (opensF_cons (opens_int (k := .i64) (P := Tryd.prog) (t := 3) (by kernel_rfl)) (by kernel_rfl) (by kernel_rfl) (opensF_cons (opens_slice (q := 44) (e := 44) (P := Tryd.prog) (t := 22) (by kernel_rfl) (by kernel_rfl) (opens_slice (q := 3) (e := 3) (P := Tryd.prog) (t := 44) (by kernel_rfl) (by kernel_rfl) (opens_int (k := .i64) (P := Tryd.prog) (t := 3) (by kernel_rfl)))) (by kernel_rfl) (by kernel_rfl) (opensF_last (opens_string (P := Tryd.prog) (t := 9) (by kernel_rfl)) (by kernel_rfl) (by kernel_rfl)))))
  obtain ⟨⟨a1_0, l1_1, a1_2⟩, K1, ⟨o1_0, o1_1, o1_2⟩⟩ := op1.out hf1
  obtain ⟨_, _, e1, rfl, ⟨_, _, rfl, ⟨A1_1, c1_1, rfl, hc1_1, hr1_1⟩, rfl⟩⟩ := K1
  obtain rfl : cs1 = #[.int .i64 a1_0, .slice A1_1 l1_1.length c1_1, .string a1_2] := by cases cs1; simpa [Value.cells] using e1
  clear hA0 hval0 hsz0 hsz
  obtain ⟨kk, hh⟩ := Pure.RequestUnlike a0_0 l0_1 a0_2 a1_0 l1_1 a1_2 o0_0 o0_1 o0_2 o1_0 o1_1 o1_2
  refine (PC.dowserlaw28_RequestUnlike.calls kk a0_0 _ _ l0_1 a0_2 a1_0 _ _ l1_1 a1_2 true W (Laid.of_laid hL) hr0_1 hc0_1 hr1_1 hc1_1 hh).mono fun e W' ⟨he, bel0⟩ => ?_
  have bel : Below W.heap.size W W' := bel0
  subst he
  exact ⟨_, rfl, _, _, _, [], _, [], hW', trodAll_mk1 (shut_bool Tryd.underlying4 _), (trodAll_cons_mk (Below.trod laidOut (by kernel_rfl) (of_decide_eq_true (by kernel_rfl)) k0 bel lt0) (trodAll_cons_mk (Below.trod laidOut (by kernel_rfl) (of_decide_eq_true (by kernel_rfl)) k1 bel lt1) trodAll_mk0)), rfl, bel.frame _, fun h => by cases h⟩
theorem over : Rows.requestUnlikeRow.holds Tryd.pinned (OpenSpec.ofChange Rows.requestUnlikeSpec) :=
  OpenClaim.holds_of_wide 3 Tryd.f3 rfl rfl rfl rfl rfl rfl rfl ⟨rfl, rfl, rfl, rfl, rfl⟩ rfl rfl rfl rfl rfl (by kernel_rfl) Tryd.func3 (by kernel_rfl)
    (of_decide_eq_true (by kernel_rfl)) (by unfold Func.isWrapper; first | (rw [if_pos (by decide +kernel)]; kernel_rfl) | (rw [if_neg (by decide +kernel)]; exact ⟨rfl, rfl⟩))
    (fun os started H enc _ => lifted os started H enc)
theorem proved : Rows.RequestUnlikeCardSaid :=
  Claim7.holds_tied_plain_at .later [] [.data] true (true, "3ae3b78cd3494d5358bf9415d5257f0d91971bf29726b6161b68f70f5770d180") false
    over (fun _ h => by cases h) (by kernel_rfl) (fun _ h => by cases h) requestUnlike_row_tie rfl ⟨rfl, rfl⟩ (by kernel_rfl) rfl
    (fun f fn hf hfn => by
      obtain rfl : f = 3 := Option.some.inj ((show Tryd.prog.funcNamed "dowser/dowserlaw28.RequestUnlike" = some 3 by kernel_rfl).symm.trans hf) |>.symm
      obtain rfl : fn = Tryd.f3 := (Option.some.inj (Tryd.func3.symm.trans hfn)).symm
      exact ⟨by kernel_rfl, fun j t ht => by
        rw [Tryd.params3] at ht
        have hall : ((Tryd.f3.params).toList.all fun u => !Tryd.prog.wantsStandIn u) = true := by kernel_rfl
        rw [Tryd.params3] at hall
        have hm := Array.mem_of_getElem? ht
        exact (show Tryd.prog.wantsStandIn t = false by simpa using List.all_eq_true.1 hall t (by simpa using hm))⟩)
    (by kernel_rfl)
#print axioms proved
end Go.Proofs.YtkpjkgfaepidaaaDoor.requestUnlike
namespace Go.Proofs.YtkpjkgfaepidaaaDoor
/-- The row, under a short name, for the claim. -/
theorem requestUnlike_holds : Rows.RequestUnlikeCardSaid := requestUnlike.proved
end Go.Proofs.YtkpjkgfaepidaaaDoor

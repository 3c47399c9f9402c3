-- Written by this session's own program wip/bin/dprint.py, over the kit's print.py, with own texts for some functions: no print of print.sh's
import Derived.Test.YtiikmomjggcdfaaPAx0
import Derived.Test.YtiikmomjggcdfaaPAx4
import Derived.Test.YtiikmomjggcdfaaPAx6
import Derived.Test.YtiikmomjggcdfaaPAx11
namespace Go.Proofs.Ytiikmomjggcdfaa.PA
open Go.RowKit Go.Proofs.YtiikmomjggcdfaaW.PrintWords Go.Proofs.YtiikmomjggcdfaaW.PrintLast Go.Proofs.YtiikmomjggcdfaaW.PrintMore
attribute [local go_sem] max2_int min2_int max_two min_two max_three min_three max_four min_four   -- for this text's walks alone
set_option linter.unusedVariables false
set_option linter.unusedSimpArgs false


/-! ### dowserlaw03_HeatAdds: function 8 (own text) -/
section
theorem nanNot (v : Nat) (h : isNan v) : dowserref03_Not.f v = some true := by
  unfold dowserref03_Not.f isNan at *
  have hw : ∀ n : Int, IntKind.u64.wrap n = n % 18446744073709551616 := fun n => by simp [IntKind.wrap, IntKind.bits, IntKind.signed]
  have e : IntKind.u64.wrap ((v : Int) / 4503599627370496) = ((v / 4503599627370496 : Nat) : Int) := by rw [hw]; omega
  have e2 : Int.tmod ((v / 4503599627370496 : Nat) : Int) 2048 = ((v / 4503599627370496 % 2048 : Nat) : Int) := rfl
  rw [e, e2, if_pos (by omega)]
  exact congrArg some (decide_eq_true (by omega))
theorem refOut (x y v : Nat) (h : addOut x y v) : dowserref03_Bits.f v = dowserref03_Bits.f (addN x y) := by
  rcases h with h | ⟨h, hn⟩
  · unfold addN; rw [h]
  · have e1 : addN x y = 9221120237041090561 := by unfold addN; rw [h]
    rw [e1]
    unfold dowserref03_Bits.f
    rw [nanNot v hn, nanNot 9221120237041090561 (by unfold isNan; omega)]
    rfl
def dowserlaw03_HeatAdds.f (a0 a1 : Int) : Option Bool :=
  (dowserlaw03_awake.f).bind fun u0 => if u0 = true then
    (heat_Add.f a0.toNat a1.toNat).bind fun s => (heat_Add.f a1.toNat a0.toNat).bind fun t => (heat_Bits.f s).bind fun sb => (heat_Bits.f t).bind fun tb => if sb = tb then
      (dowserref03_Bits.f (addN a0.toNat a1.toNat)).bind fun rb => if (s : Int) = rb then
        (math_Copysign.f 0 13830554455654793216).bind fun m0 => (heat_Add.f a0.toNat m0).bind fun s2 => (heat_Bits.f s2).bind fun b2 => (dowserref03_Bits.f a0.toNat).bind fun b3 => if b2 = b3 then
          (math_NaN.f).bind fun nn => (heat_Add.f a0.toNat nn).bind fun s3 => (dowserref03_Not.f s3).bind fun n3 => if n3 = true then
            (math_IsInf.f a0.toNat 1).bind fun ii => if ii = true then (math_Inf.f (-1)).bind fun mi => (heat_Add.f a0.toNat mi).bind fun s4 => (dowserref03_Not.f s4).bind fun n4 => if n4 = true then some true else none
            else some true
          else none
        else none
      else none
    else none
  else none
set_option maxHeartbeats 8000000 in
set_option maxRecDepth 100000 in
theorem dowserlaw03_HeatAdds.calls (a0 a1 : Int) (r : Bool) (w : World) (h : dowserlaw03_HeatAdds.f a0 a1 = some r) :
    Calls Try.prog 8 #[.int .u64 a0, .int .u64 a1] w fun e w' => e = .returned (.bool r) ∧ Below w.heap.size w w' := by
  unfold dowserlaw03_HeatAdds.f at h
  obtain ⟨u0, H0, h⟩ := Option.bind_eq_some_iff.mp h
  cases u0 with
  | false => rw [if_neg (by decide)] at h; cases h
  | true =>
  rw [if_pos rfl] at h
  obtain ⟨s, H1, h⟩ := Option.bind_eq_some_iff.mp h
  obtain ⟨t, H2, h⟩ := Option.bind_eq_some_iff.mp h
  obtain ⟨sb, H3, h⟩ := Option.bind_eq_some_iff.mp h
  obtain ⟨tb, H4, h⟩ := Option.bind_eq_some_iff.mp h
  by_cases c1 : sb = tb
  case neg => rw [if_neg c1] at h; cases h
  rw [if_pos c1] at h
  subst c1
  obtain ⟨rb, H5, h⟩ := Option.bind_eq_some_iff.mp h
  by_cases c2 : (s : Int) = rb
  case neg => rw [if_neg c2] at h; cases h
  rw [if_pos c2] at h
  subst c2
  obtain ⟨m0, H6, h⟩ := Option.bind_eq_some_iff.mp h
  obtain ⟨s2, H7, h⟩ := Option.bind_eq_some_iff.mp h
  obtain ⟨b2, H8, h⟩ := Option.bind_eq_some_iff.mp h
  obtain ⟨b3, H9, h⟩ := Option.bind_eq_some_iff.mp h
  by_cases c3 : b2 = b3
  case neg => rw [if_neg c3] at h; cases h
  rw [if_pos c3] at h
  subst c3
  obtain ⟨nn, H10, h⟩ := Option.bind_eq_some_iff.mp h
  obtain ⟨s3, H11, h⟩ := Option.bind_eq_some_iff.mp h
  obtain ⟨n3, H12, h⟩ := Option.bind_eq_some_iff.mp h
  cases n3 with
  | false => rw [if_neg (by decide)] at h; cases h
  | true =>
  rw [if_pos rfl] at h
  obtain ⟨ii, H13, h⟩ := Option.bind_eq_some_iff.mp h
  have A0 := Aside0.mk H0
  have A1 := Aside0.mk H1
  have A2 := Aside0.mk H2
  have A3 := Aside0.mk H3
  have A4 := Aside0.mk H4
  have A5 := Aside0.mk H5
  have A6 := Aside0.mk H6
  have A7 := Aside0.mk H7
  have A8 := Aside0.mk H8
  have A9 := Aside0.mk H9
  have A10 := Aside0.mk H10
  have A11 := Aside0.mk H11
  have A12 := Aside0.mk H12
  have A13 := Aside0.mk H13
  have AH := Aside0.mk h
  clear H0 H1 H2 H3 H4 H5 H6 H7 H8 H9 H10 H11 H12 H13 h
  have hxt10 : ∀ (b_ : Int) (w_ : World), (callFunc 10 #[.int .u64 b_]).run Try.prog w_ = .ok (.value (.float .f64 b_.toNat)) w_ := fun b_ w_ => by rw [run_callFunc_extern (fn := Try.f10) (e := Extern.MathFloatBits.float64frombits) (by kernel_rfl) (by rfl) (by rfl) (by kernel_rfl) (by kernel_rfl)]; rfl
  have hxt20 : ∀ (b_ : Nat) (w_ : World), (callFunc 20 #[.float .f64 b_]).run Try.prog w_ = .ok (.value (.int .u64 (b_ : Int))) w_ := fun b_ w_ => by rw [run_callFunc_extern (fn := Try.f20) (e := Extern.MathFloatBits.float64bits) (by kernel_rfl) (by rfl) (by rfl) (by kernel_rfl) (by kernel_rfl)]; rfl
  go_enter Try.func8, Try.ntmps8
  go_wp2_with (first | (go_at_call 9; refine (dowserlaw03_awake.calls true _ A0.out).mono ?_; rintro e w1 ⟨rfl, hb⟩; have HB := Aside0.mk hb; clear hb) | (go_at_call 28; (with_reducible refine (heat_Add.calls a0.toNat a1.toNat s _ A1.out).mono ?_); rintro e w' ⟨rfl, ⟨nd1, rfl⟩⟩) | (go_at_call 28; (with_reducible refine (heat_Add.calls a1.toNat a0.toNat t _ A2.out).mono ?_); rintro e w' ⟨rfl, ⟨nd2, rfl⟩⟩) | (go_at_call 22; (with_reducible refine (heat_Bits.calls s sb _ A3.out).mono ?_); rintro e w' ⟨rfl, ⟨nd3, rfl⟩⟩) | (go_at_call 22; (with_reducible refine (heat_Bits.calls t sb _ A4.out).mono ?_); rintro e w' ⟨rfl, ⟨nd4, rfl⟩⟩))
  obtain ⟨v, nd, he, hv⟩ := addRun Try.prog 24 a0.toNat a1.toNat (w1.drewN (nd1 + nd2 + nd3 + nd4))
  rw [he]
  simp only [Result.andThen]
  rw [Oper.upon_value]
  have hc : dowserref03_Bits.f v = some (s : Int) := (refOut _ _ _ hv).trans A5.out
  have HC := Aside0.mk hc
  clear hc hv he
  cases ii with
  | false =>
    have hr : r = true := by have := AH.out; rw [if_neg (by decide)] at this; exact (Option.some.inj this).symm
    subst hr
    clear AH
    go_wp2_with (first | (go_at_call 13; (with_reducible refine (dowserref03_Bits.calls v (s : Int) _ HC.out).mono ?_); rintro e w' ⟨rfl, ⟨nd5, rfl⟩⟩) | (go_at_call 29; (with_reducible refine (math_Copysign.calls 0 13830554455654793216 m0 _ A6.out).mono ?_); rintro e w' ⟨rfl, ⟨nd6, rfl⟩⟩) | (go_at_call 28; (with_reducible refine (heat_Add.calls a0.toNat m0 s2 _ A7.out).mono ?_); rintro e w' ⟨rfl, ⟨nd7, rfl⟩⟩) | (go_at_call 22; (with_reducible refine (heat_Bits.calls s2 b2 _ A8.out).mono ?_); rintro e w' ⟨rfl, ⟨nd8, rfl⟩⟩) | (go_at_call 13; (with_reducible refine (dowserref03_Bits.calls a0.toNat b2 _ A9.out).mono ?_); rintro e w' ⟨rfl, ⟨nd9, rfl⟩⟩) | (go_at_call 30; (with_reducible refine (math_NaN.calls nn _ A10.out).mono ?_); rintro e w' ⟨rfl, ⟨nd10, rfl⟩⟩) | (go_at_call 28; (with_reducible refine (heat_Add.calls a0.toNat nn s3 _ A11.out).mono ?_); rintro e w' ⟨rfl, ⟨nd11, rfl⟩⟩) | (go_at_call 27; (with_reducible refine (dowserref03_Not.calls s3 true _ A12.out).mono ?_); rintro e w' ⟨rfl, ⟨nd12, rfl⟩⟩) | (go_at_call 31; (with_reducible refine (math_IsInf.calls a0.toNat 1 false _ A13.out).mono ?_); rintro e w' ⟨rfl, ⟨nd13, rfl⟩⟩))
    go_ret
    exact ⟨rfl, by repeat (first | exact HB.out | apply pw_below_drewN)⟩
  | true =>
    have h := AH.out
    rw [if_pos rfl] at h
    obtain ⟨mi, H14, h⟩ := Option.bind_eq_some_iff.mp h
    obtain ⟨s4, H15, h⟩ := Option.bind_eq_some_iff.mp h
    obtain ⟨n4, H16, h⟩ := Option.bind_eq_some_iff.mp h
    cases n4 with
    | false => rw [if_neg (by decide)] at h; cases h
    | true =>
    rw [if_pos rfl] at h
    obtain rfl := Option.some.inj h
    have A14 := Aside0.mk H14
    have A15 := Aside0.mk H15
    have A16 := Aside0.mk H16
    clear AH h H14 H15 H16
    go_wp2_with (first | (go_at_call 13; (with_reducible refine (dowserref03_Bits.calls v (s : Int) _ HC.out).mono ?_); rintro e w' ⟨rfl, ⟨nd5, rfl⟩⟩) | (go_at_call 29; (with_reducible refine (math_Copysign.calls 0 13830554455654793216 m0 _ A6.out).mono ?_); rintro e w' ⟨rfl, ⟨nd6, rfl⟩⟩) | (go_at_call 28; (with_reducible refine (heat_Add.calls a0.toNat m0 s2 _ A7.out).mono ?_); rintro e w' ⟨rfl, ⟨nd7, rfl⟩⟩) | (go_at_call 22; (with_reducible refine (heat_Bits.calls s2 b2 _ A8.out).mono ?_); rintro e w' ⟨rfl, ⟨nd8, rfl⟩⟩) | (go_at_call 13; (with_reducible refine (dowserref03_Bits.calls a0.toNat b2 _ A9.out).mono ?_); rintro e w' ⟨rfl, ⟨nd9, rfl⟩⟩) | (go_at_call 30; (with_reducible refine (math_NaN.calls nn _ A10.out).mono ?_); rintro e w' ⟨rfl, ⟨nd10, rfl⟩⟩) | (go_at_call 28; (with_reducible refine (heat_Add.calls a0.toNat nn s3 _ A11.out).mono ?_); rintro e w' ⟨rfl, ⟨nd11, rfl⟩⟩) | (go_at_call 27; (with_reducible refine (dowserref03_Not.calls s3 true _ A12.out).mono ?_); rintro e w' ⟨rfl, ⟨nd12, rfl⟩⟩) | (go_at_call 31; (with_reducible refine (math_IsInf.calls a0.toNat 1 true _ A13.out).mono ?_); rintro e w' ⟨rfl, ⟨nd13, rfl⟩⟩) | (go_at_call 18; (with_reducible refine (math_Inf.calls (-1) mi _ A14.out).mono ?_); rintro e w' ⟨rfl, ⟨nd14, rfl⟩⟩) | (go_at_call 28; (with_reducible refine (heat_Add.calls a0.toNat mi s4 _ A15.out).mono ?_); rintro e w' ⟨rfl, ⟨nd15, rfl⟩⟩) | (go_at_call 27; (with_reducible refine (dowserref03_Not.calls s4 true _ A16.out).mono ?_); rintro e w' ⟨rfl, ⟨nd16, rfl⟩⟩))
    go_ret
    exact ⟨rfl, by repeat (first | exact HB.out | apply pw_below_drewN)⟩
end

/-- THE ONE PURE STATEMENT of dowserlaw03_HeatAdds: yours. -/
def dowserlaw03_HeatAdds.Pure : Prop := ∀ (a0 : Int) (a1 : Int), (Lit.int .u64 a0).wf = true → (Lit.int .u64 a1).wf = true → dowserlaw03_HeatAdds.f a0 a1 = some true
theorem dowserlaw03_HeatAdds.walk (P : dowserlaw03_HeatAdds.Pure) (a0 : Int) (a1 : Int) (w : World) (w0 : (Lit.int .u64 a0).wf = true) (w1 : (Lit.int .u64 a1).wf = true) :
    Calls Try.prog 8 #[.int .u64 a0, .int .u64 a1] w fun e w' => e = .returned (.bool true) ∧ Below w.heap.size w w' := by
  have h := P a0 a1 w0 w1
  refine (dowserlaw03_HeatAdds.calls a0 a1 true w h).mono ?_
  rintro e w' ⟨rfl, hd⟩
  exact ⟨rfl, hd⟩

end Go.Proofs.Ytiikmomjggcdfaa.PA

-- Written by this session's own program wip/bin/dprint.py, over the kit's print.py, with own texts for some functions: no print of print.sh's
import Derived.Test.YtefiadhmcdfdoaaPCx0
namespace Go.Proofs.Ytefiadhmcdfdoaa.PC
open Go.RowKit Go.Proofs.YtefiadhmcdfdoaaW.PrintWords Go.Proofs.YtefiadhmcdfdoaaW.PrintLast Go.Proofs.YtefiadhmcdfdoaaW.PrintMore
attribute [local go_sem] max2_int min2_int max_two min_two max_three min_three max_four min_four   -- for this text's walks alone
set_option linter.unusedVariables false
set_option linter.unusedSimpArgs false

theorem eqA76 (d : Nat) (w : World) (x0 y0 : Int) (x1 y1 : Int) :
    (Op.equalIn (d + 2) 76 (.agg #[.int .i64 x0, .int .i64 x1]) (.agg #[.int .i64 y0, .int .i64 y1])).run Try.prog w = .ok (x0 == y0 && (x1 == y1)) w := by
  have h7 : (underlying 76).run Try.prog w = .ok (.array 2 3) w := run_underlying Try.underlying76 w
  have hz : (sizeOf 3).run Try.prog w = .ok 1 w := by go_simp
  have x0_ : (part 3 #[Value.int IntKind.i64 x0, Value.int IntKind.i64 x1] (0 * 1)).run Try.prog w = .ok (.int .i64 x0) w := by go_simp
  have x1_ : (part 3 #[Value.int IntKind.i64 x0, Value.int IntKind.i64 x1] 1).run Try.prog w = .ok (.int .i64 x1) w := by go_simp
  have y0_ : (part 3 #[Value.int IntKind.i64 y0, Value.int IntKind.i64 y1] (0 * 1)).run Try.prog w = .ok (.int .i64 y0) w := by go_simp
  have y1_ : (part 3 #[Value.int IntKind.i64 y0, Value.int IntKind.i64 y1] 1).run Try.prog w = .ok (.int .i64 y1) w := by go_simp
  have e : ∀ a b, (Op.equalIn (d + 1) 3 (.int .i64 a) (.int .i64 b)).run Try.prog w = .ok (a == b) w := fun a b => by go_simp
  rw [Op.equalIn]
  simp only [Sem.run_bind, h7, Result.andThen_ok, hz]
  rw [Std.Legacy.Range.forIn_eq_forIn_range']
  simp only [Std.Legacy.Range.size, List.range', List.forIn_cons, List.forIn_nil, Sem.run_bind, x0_, y0_, e, Result.andThen_ok]
  cases h0 : (x0 == y0) <;> cases h1 : (x1 == y1) <;> simp [Sem.run_bind, x1_, y1_, e, h1]
end Go.Proofs.Ytefiadhmcdfdoaa.PC

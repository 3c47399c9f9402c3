-- Written by this session's own program wip/bin/dprint.py, over the kit's print.py, with own texts for some functions: no print of print.sh's
import Derived.Test.YtgfjjhfkgfnpaaaPBx0
import Derived.Test.YtgfjjhfkgfnpaaaUps
namespace Go.Proofs.Ytgfjjhfkgfnpaaa.PB
open Go.RowKit Go.Proofs.YtgfjjhfkgfnpaaaW.PrintWords Go.Proofs.YtgfjjhfkgfnpaaaW.PrintLast Go.Proofs.YtgfjjhfkgfnpaaaW.PrintMore
attribute [local go_sem] max2_int min2_int max_two min_two max_three min_three max_four min_four   -- for this text's walks alone
set_option linter.unusedVariables false
set_option linter.unusedSimpArgs false

theorem eqA67 (d : Nat) (w : World) (x0 y0 : Int) (x1 y1 : Int) (x2 y2 : Int) (x3 y3 : Int) (x4 y4 : Int) :
  (Op.equalIn (d + 2) 67 (.agg #[.int .i64 x0,.int .i64 x1,.int .i64 x2,.int .i64 x3,.int .i64 x4]) (.agg #[.int .i64 y0,.int .i64 y1,.int .i64 y2,.int .i64 y3,.int .i64 y4])).run Try.prog w = .ok (x0 == y0 && (x1 == y1 && (x2 == y2 && (x3 == y3 && (x4 == y4))))) w:=by
 have h7 : (underlying 67).run Try.prog w = .ok (.array 5 3) w:=run_underlying Try.underlying67 w;(have hz : (sizeOf 3).run Try.prog w = .ok 1 w:=by go_simp);(have x0_ : (part 3 #[Value.int IntKind.i64 x0,Value.int IntKind.i64 x1,Value.int IntKind.i64 x2,Value.int IntKind.i64 x3,Value.int IntKind.i64 x4] (0 * 1)).run Try.prog w = .ok (.int .i64 x0) w:=by go_simp);(have x1_ : (part 3 #[Value.int IntKind.i64 x0,Value.int IntKind.i64 x1,Value.int IntKind.i64 x2,Value.int IntKind.i64 x3,Value.int IntKind.i64 x4] 1).run Try.prog w = .ok (.int .i64 x1) w:=by go_simp);(have x2_ : (part 3 #[Value.int IntKind.i64 x0,Value.int IntKind.i64 x1,Value.int IntKind.i64 x2,Value.int IntKind.i64 x3,Value.int IntKind.i64 x4] 2).run Try.prog w = .ok (.int .i64 x2) w:=by go_simp);(have x3_ : (part 3 #[Value.int IntKind.i64 x0,Value.int IntKind.i64 x1,Value.int IntKind.i64 x2,Value.int IntKind.i64 x3,Value.int IntKind.i64 x4] 3).run Try.prog w = .ok (.int .i64 x3) w:=by go_simp);(have x4_ : (part 3 #[Value.int IntKind.i64 x0,Value.int IntKind.i64 x1,Value.int IntKind.i64 x2,Value.int IntKind.i64 x3,Value.int IntKind.i64 x4] 4).run Try.prog w = .ok (.int .i64 x4) w:=by go_simp);(have y0_ : (part 3 #[Value.int IntKind.i64 y0,Value.int IntKind.i64 y1,Value.int IntKind.i64 y2,Value.int IntKind.i64 y3,Value.int IntKind.i64 y4] (0 * 1)).run Try.prog w = .ok (.int .i64 y0) w:=by go_simp);(have y1_ : (part 3 #[Value.int IntKind.i64 y0,Value.int IntKind.i64 y1,Value.int IntKind.i64 y2,Value.int IntKind.i64 y3,Value.int IntKind.i64 y4] 1).run Try.prog w = .ok (.int .i64 y1) w:=by go_simp);(have y2_ : (part 3 #[Value.int IntKind.i64 y0,Value.int IntKind.i64 y1,Value.int IntKind.i64 y2,Value.int IntKind.i64 y3,Value.int IntKind.i64 y4] 2).run Try.prog w = .ok (.int .i64 y2) w:=by go_simp);(have y3_ : (part 3 #[Value.int IntKind.i64 y0,Value.int IntKind.i64 y1,Value.int IntKind.i64 y2,Value.int IntKind.i64 y3,Value.int IntKind.i64 y4] 3).run Try.prog w = .ok (.int .i64 y3) w:=by go_simp);(have y4_ : (part 3 #[Value.int IntKind.i64 y0,Value.int IntKind.i64 y1,Value.int IntKind.i64 y2,Value.int IntKind.i64 y3,Value.int IntKind.i64 y4] 4).run Try.prog w = .ok (.int .i64 y4) w:=by go_simp);(have e : ∀ a b,(Op.equalIn (d + 1) 3 (.int .i64 a) (.int .i64 b)).run Try.prog w = .ok (a == b) w:=fun a b => by go_simp);rw [Op.equalIn];simp only [Sem.run_bind,h7,Result.andThen_ok,hz];rw [Std.Legacy.Range.forIn_eq_forIn_range'];simp only [Std.Legacy.Range.size,List.range',List.forIn_cons,List.forIn_nil,Sem.run_bind,x0_,y0_,e,Result.andThen_ok];cases h0 : (x0 == y0)
 ·simp [Sem.run_bind,x1_,y1_,x2_,y2_,x3_,y3_,x4_,y4_,e,h0]
 cases h1 : (x1 == y1)
 ·simp [Sem.run_bind,x1_,y1_,x2_,y2_,x3_,y3_,x4_,y4_,e,h0,h1]
 cases h2 : (x2 == y2)
 ·simp [Sem.run_bind,x1_,y1_,x2_,y2_,x3_,y3_,x4_,y4_,e,h0,h1,h2]
 cases h3 : (x3 == y3)
 ·simp [Sem.run_bind,x1_,y1_,x2_,y2_,x3_,y3_,x4_,y4_,e,h0,h1,h2,h3]
 cases h4 : (x4 == y4)
 ·simp [Sem.run_bind,x1_,y1_,x2_,y2_,x3_,y3_,x4_,y4_,e,h0,h1,h2,h3,h4]
 simp [Sem.run_bind,x1_,y1_,x2_,y2_,x3_,y3_,x4_,y4_,e,h0,h1,h2,h3,h4]
end Go.Proofs.Ytgfjjhfkgfnpaaa.PB

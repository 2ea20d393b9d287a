import Derived.Test.YtgkjdpdmmlalcaaVZF0
section
namespace Go.Proofs.Ytgkjdpdmmlalcaa.F
open Go.RowKit Go.Proofs.YtgkjdpdmmlalcaaW.PrintWords Go.Proofs.YtgkjdpdmmlalcaaW.PrintLast Go.Proofs.YtgkjdpdmmlalcaaW.PrintMore
attribute [local go_sem] max2_int min2_int max_two min_two max_three min_three max_four min_four
set_option linter.unusedVariables false
set_option linter.unusedSimpArgs false

theorem eqA41 (d : Nat) (w : World) (x0 y0 : Int) (x1 y1 : Int) :
    (Op.equalIn (d + 2) 41 (.agg #[.int .u32 x0, .int .i64 x1]) (.agg #[.int .u32 y0, .int .i64 y1])).run Try.prog w = .ok (x0 == y0 && (x1 == y1)) w := by
  refine eqA_of Try.underlying41 (by kernel_rfl) ?_
  refine eqf_cons (by rfl) (by go_simp; rfl) (by go_simp; rfl) (by go_simp) ?_
  exact eqf_last (by rfl) (by go_simp; rfl) (by go_simp; rfl) (by go_simp)
end Go.Proofs.Ytgkjdpdmmlalcaa.F
end

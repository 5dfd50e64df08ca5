import Derived.Test.YtinlhiakpmcagaaZFnMobilesx0
namespace Go.Proofs.Ytinlhiakpmcagaa.PFnMobiles
open Go.RowKit Go.Proofs.YtinlhiakpmcagaaW.PrintWords Go.Proofs.YtinlhiakpmcagaaW.PrintLast Go.Proofs.YtinlhiakpmcagaaW.PrintMore
attribute [local go_sem] max2_int min2_int max_two min_two max_three min_three max_four min_four
set_option linter.unusedVariables false
set_option linter.unusedSimpArgs false
theorem eqA78 (d:Nat) (w:World) (x0 y0:Int) (x1 y1:Int):
    (Op.equalIn (d + 2) 78 (.agg #[.int .i64 x0,.int .i64 x1]) (.agg #[.int .i64 y0,.int .i64 y1])).run Try.prog w= .ok (x0==y0 && (x1==y1)) w:=by
  refine bIK Try.underlying78 (by kernel_rfl) ?_;refine b1B (by rfl) (by go_simp;rfl) (by go_simp;rfl) (by go_simp) ?_;exact b1A (by rfl) (by go_simp;rfl) (by go_simp;rfl) (by go_simp)
end Go.Proofs.Ytinlhiakpmcagaa.PFnMobiles

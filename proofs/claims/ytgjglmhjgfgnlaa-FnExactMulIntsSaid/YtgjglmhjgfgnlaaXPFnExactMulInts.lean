-- WRITTEN BY xprint.py, a program of this session, over the translation of the seat. Lean checks it.
import Derived.Test.YtgjglmhjgfgnlaaXOpn
import Derived.Test.YtgjglmhjgfgnlaaXF5
namespace Go.Proofs.Ytgjglmhjgfgnlaa.X
open Go.RowKit Go.Proofs.YtgjglmhjgfgnlaaW.PrintWords Go.Proofs.YtgjglmhjgfgnlaaW.PrintLast Go.Proofs.YtgjglmhjgfgnlaaW.PrintMore
attribute [local go_sem] max2_int min2_int max_two min_two max_three min_three max_four min_four   -- for this text's walks alone
set_option linter.unusedVariables false
set_option linter.unusedSimpArgs false

/-- THE ONE PURE STATEMENT of laws_FnExactMulInts. -/
def laws_FnExactMulInts.Need : Prop := ∀ (a0 : Int) (a1 : Int), (Lit.int .i64 a0).wf = true → (Lit.int .i64 a1).wf = true → laws_FnExactMulInts.f a0 a1 = some true
end Go.Proofs.Ytgjglmhjgfgnlaa.X

/- What is asked of the numbers inside the law's arguments: each is of its kind. No condition. -/
import Derived.Test.YtindlpkkapelhaaPFnExactExampleSkyx4
namespace Go.Proofs.Ytindlpkkapelhaa.PureFnExactExampleSky
open Go.RowKit Go.Proofs.Ytindlpkkapelhaa.PFnExactExampleSky Go.Proofs.YtindlpkkapelhaaW.PrintWords Go.Proofs.YtindlpkkapelhaaW.PrintLast

/-- The pure statement. -/
def Stated : Prop := ∀ (a0 : Int), (Lit.int .i64 a0).wf = true → ∃ k, laws_FnExactExampleSky.f k a0 = some true
end Go.Proofs.Ytindlpkkapelhaa.PureFnExactExampleSky

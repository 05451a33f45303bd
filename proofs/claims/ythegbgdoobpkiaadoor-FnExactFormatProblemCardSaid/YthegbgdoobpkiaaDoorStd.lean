/- The tables, the residual functions and lemmas of this seat: parts of the proof of the law; conditions: those that each names. -/
import Derived.Test.YthegbgdoobpkiaaDoorRes
set_option linter.unusedVariables false
set_option linter.unusedSimpArgs false
set_option maxRecDepth 100000
namespace Go.Proofs.YthegbgdoobpkiaaDoor
open Go.Eng
theorem toProblem_ev (x : DProblem) : Ev (fun k => c_laws_toProblem k x) x := by
  refine EvQ.run (fun k => laws_toProblem_run k x) ?_
  simp only [laws_toProblem]
  exact EvQ.const _
end Go.Proofs.YthegbgdoobpkiaaDoor

/- The tables, the residual functions and lemmas of this seat: parts of the proof of the law; conditions: those that each names. -/
import Derived.Test.YthegbgdoobpkiaaEnv
namespace Go.Proofs.Ythegbgdoobpkiaa
open Go.Eng
theorem extOK : ExtOK Try.prog E1 := fun f s _ => extOf_ok exts (fun e he => by cases he) f s
end Go.Proofs.Ythegbgdoobpkiaa

/- The tables, the residual functions and lemmas of this seat: parts of the proof of the law; conditions: those that each names. -/
import Derived.Test.YthegbgdoobpkiaaDoorEng4
import Derived.KernelRfl
import Derived.Test.YthegbgdoobpkiaaDoorProg
set_option maxRecDepth 100000
namespace Go.Proofs.YthegbgdoobpkiaaDoor
open Go.Eng
abbrev DerrorAddressString : Type := (ByteArray × Int)
abbrev DProblem : Type := (Int × (Int × Int))
abbrev DboundsError : Type := (Int × (Int × (Bool × Int)))
abbrev TerrorAddressStringk : Ty := (.pair .str (.int .u64))
abbrev TProblemk : Ty := (.pair (.int .i64) (.pair (.int .i64) (.int .i64)))
abbrev TboundsErrork : Ty := (.pair (.int .i64) (.pair (.int .i64) (.pair .bool (.int .u8))))
abbrev s_laws_FnExactFormatProblem : Sig := ⟨[.val TProblemk], [.bool], none⟩
abbrev s_spec_FormatProblem : Sig := ⟨[.val TProblemk], [.str], none⟩
abbrev s_laws_toProblem : Sig := ⟨[.val TProblemk], [TProblemk], none⟩
abbrev s_impl_FormatProblem : Sig := ⟨[.val TProblemk], [.str], none⟩
abbrev s_spec_l01In : Sig := ⟨[.val (.int .i64), .val (.int .i64), .val (.int .i64)], [.bool], none⟩
abbrev s_spec_FormatInt : Sig := ⟨[.val (.int .i64)], [.str], none⟩
abbrev s_impl_FormatInt : Sig := ⟨[.val (.int .i64)], [.str], none⟩
abbrev s_strconv_Itoa : Sig := ⟨[.val (.int .i64)], [.str], none⟩
noncomputable def exts : List ExtE := [⟨10, s_strconv_Itoa, ext_strconv_Itoa⟩]
noncomputable def tab : Tab := {
  ty := [(3, (.int .i64)), (5, (.int .u8)), (8, TboundsErrork), (9, .str), (23, TProblemk), (25, TProblemk), (29, (.list false .str)), (31, (.list false (.int .u8)))],
  nf := [(8, 4), (23, 3), (25, 3)],
  el := [],
  fnT := [1],
  eqs := [8, 23, 25],
  sig := [(3, s_laws_FnExactFormatProblem), (4, s_spec_FormatProblem), (5, s_laws_toProblem), (6, s_impl_FormatProblem), (7, s_spec_l01In), (8, s_spec_FormatInt), (9, s_impl_FormatInt), (10, s_strconv_Itoa)],
  body := [(3, Tryd.f3), (4, Tryd.f4), (5, Tryd.f5), (6, Tryd.f6), (7, Tryd.f7), (8, Tryd.f8), (9, Tryd.f9)] }
noncomputable def E1 : Env := tab.env (extOf exts)
noncomputable def H1 : Nat → Hints := fun f => (Eng.look [(8, ⟨fun r => (Eng.look [(6, [(0, none), (3, none)])] r).getD [], fun r => Eng.look [] r⟩)] f).getD ⟨fun _ => [], fun _ => none⟩
noncomputable def c_laws_FnExactFormatProblem (k : Nat) (x : DProblem) : Option Bool := runF E1 H1 k 3 s_laws_FnExactFormatProblem x
noncomputable def c_spec_FormatProblem (k : Nat) (x : DProblem) : Option ByteArray := runF E1 H1 k 4 s_spec_FormatProblem x
noncomputable def c_laws_toProblem (k : Nat) (x : DProblem) : Option DProblem := runF E1 H1 k 5 s_laws_toProblem x
noncomputable def c_impl_FormatProblem (k : Nat) (x : DProblem) : Option ByteArray := runF E1 H1 k 6 s_impl_FormatProblem x
noncomputable def c_spec_l01In (k : Nat) (x : DProblem) : Option Bool := runF E1 H1 k 7 s_spec_l01In x
noncomputable def c_spec_FormatInt (k : Nat) (x : Int) : Option ByteArray := runF E1 H1 k 8 s_spec_FormatInt x
noncomputable def c_impl_FormatInt (k : Nat) (x : Int) : Option ByteArray := runF E1 H1 k 9 s_impl_FormatInt x
noncomputable def c_strconv_Itoa (k : Nat) (x : Int) : Option ByteArray := runF E1 H1 k 10 s_strconv_Itoa x
theorem c_strconv_Itoa_run (k : Nat) (x) : c_strconv_Itoa (k + 1) x = ext_strconv_Itoa x := by kernel_rfl
end Go.Proofs.YthegbgdoobpkiaaDoor

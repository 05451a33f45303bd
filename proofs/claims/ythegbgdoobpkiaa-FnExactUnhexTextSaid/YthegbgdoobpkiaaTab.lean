/- The tables, the residual functions and lemmas of this seat: parts of the proof of the law; conditions: those that each names. -/
import Derived.Test.YthegbgdoobpkiaaEng4
import Derived.KernelRfl
import Derived.Test.YthegbgdoobpkiaaProg
set_option maxRecDepth 100000
namespace Go.Proofs.Ythegbgdoobpkiaa
open Go.Eng
abbrev DerrorAddressString : Type := (ByteArray × Int)
abbrev DWrite : Type := (Int × ByteArray)
abbrev DAclEntry : Type := (Int × (Int × Int))
abbrev DStep : Type := (Bool × DWrite)
abbrev Dl01Cur : Type := ((List Int) × (Int × Int))
abbrev DboundsError : Type := (Int × (Int × (Bool × Int)))
abbrev DDisk : Type := ((List ByteArray) × (List DWrite))
abbrev DCall : Type := (Int × (Int × (ByteArray × (ByteArray × (Int × (Int × (Int × (ByteArray × ((List DAclEntry) × (List DAclEntry))))))))))
abbrev DEvent : Type := (Int × (DCall × (Int × ((List Bool) × Int))))
abbrev TerrorAddressStringk : Ty := (.pair .str (.int .u64))
abbrev TWritek : Ty := (.pair (.int .i64) .str)
abbrev TStepk : Ty := (.pair .bool TWritek)
abbrev TAclEntryk : Ty := (.pair (.int .i64) (.pair (.int .i64) (.int .i64)))
abbrev TDisko : Ty := (.pair (.list true .str) (.list true TWritek))
abbrev Tl01Curo : Ty := (.pair (.list true (.int .u8)) (.pair (.int .i64) (.int .i64)))
abbrev TboundsErrork : Ty := (.pair (.int .i64) (.pair (.int .i64) (.pair .bool (.int .u8))))
abbrev Tl01Curk : Ty := (.pair (.list false (.int .u8)) (.pair (.int .i64) (.int .i64)))
abbrev TDiskk : Ty := (.pair (.list false .str) (.list false TWritek))
abbrev TCallo : Ty := (.pair (.int .i64) (.pair (.int .i64) (.pair .str (.pair .str (.pair (.int .i64) (.pair (.int .i64) (.pair (.int .i64) (.pair .str (.pair (.list true TAclEntryk) (.list true TAclEntryk))))))))))
abbrev TCallk : Ty := (.pair (.int .i64) (.pair (.int .i64) (.pair .str (.pair .str (.pair (.int .i64) (.pair (.int .i64) (.pair (.int .i64) (.pair .str (.pair (.list false TAclEntryk) (.list false TAclEntryk))))))))))
abbrev TEvento : Ty := (.pair (.int .i64) (.pair TCallo (.pair (.int .i64) (.pair (.list true .bool) (.int .i64)))))
abbrev TEventk : Ty := (.pair (.int .i64) (.pair TCallk (.pair (.int .i64) (.pair (.list false .bool) (.int .i64)))))
abbrev s_laws_FnExactUnhexText : Sig := ⟨[.val .str], [.bool], none⟩
abbrev s_spec_UnhexText : Sig := ⟨[.val .str], [.str, .bool], none⟩
abbrev s_impl_UnhexText : Sig := ⟨[.val .str], [.str, .bool], none⟩
abbrev s_strings_IndexByte : Sig := ⟨[.val .str, .val (.int .u8)], [(.int .i64)], none⟩
noncomputable def exts : List ExtE := [⟨44, s_strings_IndexByte, ext_strings_IndexByte⟩]
noncomputable def tab : Tab := {
  ty := [(2, (.int .i64)), (3, (.int .i64)), (4, .bool), (5, (.int .u8)), (9, .str), (40, (.list false (.int .u8)))],
  nf := [],
  el := [(40, 5, 1)],
  fnT := [1],
  eqs := [],
  sig := [(3, s_laws_FnExactUnhexText), (8, s_spec_UnhexText), (9, s_impl_UnhexText), (44, s_strings_IndexByte)],
  body := [(3, Try.f3), (8, Try.f8), (9, Try.f9)] }
noncomputable def E1 : Env := tab.env (extOf exts)
noncomputable def H1 : Nat → Hints := fun f => (Eng.look [(8, ⟨fun r => (Eng.look [(5, [(0, none), (4, none), (5, none)]), (9, [(0, none), (4, none), (5, none), (6, none), (27, none), (28, none), (29, none)])] r).getD [], fun r => Eng.look [] r⟩),
  (9, ⟨fun r => (Eng.look [(5, [(0, none), (4, none), (5, none)])] r).getD [], fun r => Eng.look [] r⟩)] f).getD ⟨fun _ => [], fun _ => none⟩
noncomputable def c_laws_FnExactUnhexText (k : Nat) (x : ByteArray) : Option Bool := runF E1 H1 k 3 s_laws_FnExactUnhexText x
noncomputable def c_spec_UnhexText (k : Nat) (x : ByteArray) : Option (ByteArray × Bool) := runF E1 H1 k 8 s_spec_UnhexText x
noncomputable def c_impl_UnhexText (k : Nat) (x : ByteArray) : Option (ByteArray × Bool) := runF E1 H1 k 9 s_impl_UnhexText x
noncomputable def c_strings_IndexByte (k : Nat) (x : DerrorAddressString) : Option Int := runF E1 H1 k 44 s_strings_IndexByte x
theorem c_strings_IndexByte_run (k : Nat) (x) : c_strings_IndexByte (k + 1) x = ext_strings_IndexByte x := by kernel_rfl
end Go.Proofs.Ythegbgdoobpkiaa

/- The tables, the residual functions and lemmas of this seat: parts of the proof of the law; conditions: those that each names. -/
import Derived.Test.YthegbgdoobpkiaaEng4
import Derived.KernelRfl
import Derived.Test.YthegbgdoobpkiaaProg
set_option maxRecDepth 100000
namespace Go.Proofs.Ythegbgdoobpkiaa
open Go.Eng
abbrev DerrorAddressString : Type := (ByteArray × Int)
abbrev DWrite : Type := (Int × ByteArray)
abbrev DAclEntry : Type := (Int × (Int × Int))
abbrev DStep : Type := (Bool × DWrite)
abbrev Dl01Cur : Type := ((List Int) × (Int × Int))
abbrev DboundsError : Type := (Int × (Int × (Bool × Int)))
abbrev DDisk : Type := ((List ByteArray) × (List DWrite))
abbrev DCall : Type := (Int × (Int × (ByteArray × (ByteArray × (Int × (Int × (Int × (ByteArray × ((List DAclEntry) × (List DAclEntry))))))))))
abbrev DEvent : Type := (Int × (DCall × (Int × ((List Bool) × Int))))
abbrev TerrorAddressStringk : Ty := (.pair .str (.int .u64))
abbrev TWritek : Ty := (.pair (.int .i64) .str)
abbrev TStepk : Ty := (.pair .bool TWritek)
abbrev TAclEntryk : Ty := (.pair (.int .i64) (.pair (.int .i64) (.int .i64)))
abbrev TDisko : Ty := (.pair (.list true .str) (.list true TWritek))
abbrev Tl01Curo : Ty := (.pair (.list true (.int .u8)) (.pair (.int .i64) (.int .i64)))
abbrev TboundsErrork : Ty := (.pair (.int .i64) (.pair (.int .i64) (.pair .bool (.int .u8))))
abbrev Tl01Curk : Ty := (.pair (.list false (.int .u8)) (.pair (.int .i64) (.int .i64)))
abbrev TDiskk : Ty := (.pair (.list false .str) (.list false TWritek))
abbrev TCallo : Ty := (.pair (.int .i64) (.pair (.int .i64) (.pair .str (.pair .str (.pair (.int .i64) (.pair (.int .i64) (.pair (.int .i64) (.pair .str (.pair (.list true TAclEntryk) (.list true TAclEntryk))))))))))
abbrev TCallk : Ty := (.pair (.int .i64) (.pair (.int .i64) (.pair .str (.pair .str (.pair (.int .i64) (.pair (.int .i64) (.pair (.int .i64) (.pair .str (.pair (.list false TAclEntryk) (.list false TAclEntryk))))))))))
abbrev TEvento : Ty := (.pair (.int .i64) (.pair TCallo (.pair (.int .i64) (.pair (.list true .bool) (.int .i64)))))
abbrev TEventk : Ty := (.pair (.int .i64) (.pair TCallk (.pair (.int .i64) (.pair (.list false .bool) (.int .i64)))))
abbrev s_laws_FnNumbers : Sig := ⟨[.val (.list false (.int .u8))], [.bool], none⟩
abbrev s_impl_UnhexText : Sig := ⟨[.val .str], [.str, .bool], none⟩
abbrev s_spec_MakeNum : Sig := ⟨[.val (.list false (.int .u8)), .val (.int .i64)], [(.int .i64)], none⟩
abbrev s_spec_MakeBytes : Sig := ⟨[.val (.list false (.int .u8)), .val (.int .i64)], [.str], none⟩
abbrev s_impl_GetNumber : Sig := ⟨[.val .str, .val (.int .i64), .val (.int .i64)], [(.int .i64), .bool], none⟩
abbrev s_impl_PutNumber : Sig := ⟨[.val (.int .i64), .val (.int .i64)], [.str], none⟩
abbrev s_impl_HexOf : Sig := ⟨[.val .str], [.str], none⟩
abbrev s_impl_Join : Sig := ⟨[.val (.list false .str), .val .str], [.str], none⟩
abbrev s_impl_CutAll : Sig := ⟨[.val .str, .val (.int .i64)], [(.list true .str)], none⟩
abbrev s_impl_PadTo : Sig := ⟨[.val .str, .val (.int .i64)], [.str], none⟩
abbrev s_impl_IsZeroes : Sig := ⟨[.val .str], [.bool], none⟩
abbrev s_strings_IndexByte : Sig := ⟨[.val .str, .val (.int .u8)], [(.int .i64)], none⟩
abbrev s_spec_l01Byte : Sig := ⟨[], [(.int .i64)], some (true, Tl01Curk)⟩
abbrev s_spec_l02Bytes : Sig := ⟨[.val (.int .i64)], [.str], some (true, Tl01Curk)⟩
abbrev s_strings_Join : Sig := ⟨[.val (.list false .str), .val .str], [.str], none⟩
abbrev s_strings_Repeat : Sig := ⟨[.val .str, .val (.int .i64)], [.str], none⟩
abbrev s_spec_l01Below : Sig := ⟨[.val (.int .i64)], [(.int .i64)], some (true, Tl01Curk)⟩
abbrev s_spec_l01Pick : Sig := ⟨[.val (.list false (.int .i64))], [(.int .i64)], some (true, Tl01Curk)⟩
noncomputable def exts : List ExtE := [⟨44, s_strings_IndexByte, ext_strings_IndexByte⟩, ⟨54, s_strings_Join, ext_strings_Join⟩, ⟨55, s_strings_Repeat, ext_strings_Repeat⟩]
noncomputable def tab : Tab := {
  ty := [(2, (.int .i64)), (3, (.int .i64)), (5, (.int .u8)), (6, (.int .u8)), (9, .str), (25, (.list false .str)), (40, (.list false (.int .u8))), (86, (.ptr Tl01Curk)), (112, Tl01Curk), (115, (.list false (.int .i64)))],
  nf := [(112, 3)],
  el := [(25, 9, 16), (40, 5, 1)],
  fnT := [1],
  eqs := [],
  sig := [(6, s_laws_FnNumbers), (9, s_impl_UnhexText), (24, s_spec_MakeNum), (25, s_spec_MakeBytes), (26, s_impl_GetNumber), (27, s_impl_PutNumber), (28, s_impl_HexOf), (29, s_impl_Join), (30, s_impl_CutAll), (31, s_impl_PadTo), (32, s_impl_IsZeroes), (44, s_strings_IndexByte), (52, s_spec_l01Byte), (53, s_spec_l02Bytes), (54, s_strings_Join), (55, s_strings_Repeat), (81, s_spec_l01Below), (82, s_spec_l01Pick)],
  body := [(6, Try.f6), (9, Try.f9), (24, Try.f24), (25, Try.f25), (26, Try.f26), (27, Try.f27), (28, Try.f28), (29, Try.f29), (30, Try.f30), (31, Try.f31), (32, Try.f32), (51, Try.f51), (52, Try.f52), (53, Try.f53), (57, Try.f57), (81, Try.f81), (82, Try.f82)] }
noncomputable def E1 : Env := tab.env (extOf exts)
noncomputable def H1 : Nat → Hints := fun f => (Eng.look [(9, ⟨fun r => (Eng.look [(5, [(0, none), (4, none), (5, none)])] r).getD [], fun r => Eng.look [] r⟩),
  (26, ⟨fun r => (Eng.look [(5, [(0, none), (1, none), (8, none), (28, none), (29, none)])] r).getD [], fun r => Eng.look [] r⟩),
  (27, ⟨fun r => (Eng.look [(5, [(0, none), (5, none), (6, none)])] r).getD [], fun r => Eng.look [] r⟩),
  (28, ⟨fun r => (Eng.look [(3, [(0, none), (3, none), (7, none), (8, none)])] r).getD [], fun r => Eng.look [] r⟩),
  (30, ⟨fun r => (Eng.look [(4, [(0, none), (1, none), (5, none)])] r).getD [], fun r => Eng.look [] r⟩),
  (32, ⟨fun r => (Eng.look [(2, [(0, none), (5, none), (6, none)])] r).getD [], fun r => Eng.look [] r⟩),
  (51, ⟨fun r => (Eng.look [(3, [(1, none), (5, none), (6, none)])] r).getD [], fun r => Eng.look [] r⟩),
  (53, ⟨fun r => (Eng.look [(3, [(0, none), (5, none), (6, none)])] r).getD [], fun r => Eng.look [] r⟩),
  (57, ⟨fun r => (Eng.look [(3, [(0, none), (3, none), (4, none)])] r).getD [], fun r => Eng.look [] r⟩)] f).getD ⟨fun _ => [], fun _ => none⟩
noncomputable def c_laws_FnNumbers (k : Nat) (x : (List Int)) : Option Bool := runF E1 H1 k 6 s_laws_FnNumbers x
noncomputable def c_impl_UnhexText (k : Nat) (x : ByteArray) : Option (ByteArray × Bool) := runF E1 H1 k 9 s_impl_UnhexText x
noncomputable def c_spec_MakeNum (k : Nat) (x : ((List Int) × Int)) : Option Int := runF E1 H1 k 24 s_spec_MakeNum x
noncomputable def c_spec_MakeBytes (k : Nat) (x : ((List Int) × Int)) : Option ByteArray := runF E1 H1 k 25 s_spec_MakeBytes x
noncomputable def c_impl_GetNumber (k : Nat) (x : (ByteArray × (Int × Int))) : Option (Int × Bool) := runF E1 H1 k 26 s_impl_GetNumber x
noncomputable def c_impl_PutNumber (k : Nat) (x : (Int × Int)) : Option ByteArray := runF E1 H1 k 27 s_impl_PutNumber x
noncomputable def c_impl_HexOf (k : Nat) (x : ByteArray) : Option ByteArray := runF E1 H1 k 28 s_impl_HexOf x
noncomputable def c_impl_Join (k : Nat) (x : ((List ByteArray) × ByteArray)) : Option ByteArray := runF E1 H1 k 29 s_impl_Join x
noncomputable def c_impl_CutAll (k : Nat) (x : DerrorAddressString) : Option (List ByteArray) := runF E1 H1 k 30 s_impl_CutAll x
noncomputable def c_impl_PadTo (k : Nat) (x : DerrorAddressString) : Option ByteArray := runF E1 H1 k 31 s_impl_PadTo x
noncomputable def c_impl_IsZeroes (k : Nat) (x : ByteArray) : Option Bool := runF E1 H1 k 32 s_impl_IsZeroes x
noncomputable def c_strings_IndexByte (k : Nat) (x : DerrorAddressString) : Option Int := runF E1 H1 k 44 s_strings_IndexByte x
noncomputable def c_spec_l01Byte (k : Nat) (x : Dl01Cur) : Option (Int × Dl01Cur) := runF E1 H1 k 52 s_spec_l01Byte x
noncomputable def c_spec_l02Bytes (k : Nat) (x : (Dl01Cur × Int)) : Option (ByteArray × Dl01Cur) := runF E1 H1 k 53 s_spec_l02Bytes x
noncomputable def c_strings_Join (k : Nat) (x : ((List ByteArray) × ByteArray)) : Option ByteArray := runF E1 H1 k 54 s_strings_Join x
noncomputable def c_strings_Repeat (k : Nat) (x : DerrorAddressString) : Option ByteArray := runF E1 H1 k 55 s_strings_Repeat x
noncomputable def c_spec_l01Below (k : Nat) (x : (Dl01Cur × Int)) : Option (Int × Dl01Cur) := runF E1 H1 k 81 s_spec_l01Below x
noncomputable def c_spec_l01Pick (k : Nat) (x : (Dl01Cur × (List Int))) : Option (Int × Dl01Cur) := runF E1 H1 k 82 s_spec_l01Pick x
theorem c_strings_IndexByte_run (k : Nat) (x) : c_strings_IndexByte (k + 1) x = ext_strings_IndexByte x := by kernel_rfl
theorem c_strings_Join_run (k : Nat) (x) : c_strings_Join (k + 1) x = ext_strings_Join x := by kernel_rfl
theorem c_strings_Repeat_run (k : Nat) (x) : c_strings_Repeat (k + 1) x = ext_strings_Repeat x := by kernel_rfl
end Go.Proofs.Ythegbgdoobpkiaa

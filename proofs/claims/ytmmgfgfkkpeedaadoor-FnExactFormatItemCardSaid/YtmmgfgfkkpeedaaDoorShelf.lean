/-
  DERIVED: THE SHELF's CONTRACTS AT THIS DUMP, IN PLAIN WORDS (tools/lay-plain.mjs out of 'TrydShelf.lean', which tools/lay-shelf.mjs wrote): THE SAME DECLARATIONS UNDER THE SAME NAMES: 'import', 'namespace', 'open', 'def', 'theorem' AND NOTHING ELSE: no command of the shelf's: FOR A HAND-IN. Each laying: the table of numbers ('.._ren') and one theorem, a field a fact of the dump's own or the kernel's comparison; each contract: ONE APPLICATION.
-/
import Derived.Shelf.Strings.Builder1
import Derived.Shelf.Strings.Builder2
import Derived.Shelf.Strings.OnBuilder
import Derived.Shelf.Small.Utf8
import Derived.Shelf.Small.Strs
import Derived.Shelf.Small.Wraps
import Derived.Shelf.Strings.BuilderF
import Derived.Shelf.Strings.BuilderK
import Derived.Shelf.Strings.Builder2Cap
import Derived.Shelf.Strconv.Itoa0
import Derived.Shelf.Strconv.Itoa1
import Derived.Shelf.LaysM
import Derived.Shelf.Strconv.Itoa2
import Derived.Shelf.Strconv.Itoa3
import Derived.Shelf.Strings.Search1
import Derived.Shelf.Strings.Runes
import Derived.Shelf.Strings.IndexAny
import Derived.Shelf.Strings.AsciiSet
import Derived.Shelf.Strings.IndexAnyAll
import Derived.Shelf.Strings.BuilderCap
import Derived.Ground.Names2Prog
import Derived.Shelf.Slices.SearchI
import Derived.Test.YtmmgfgfkkpeedaaDoorProg
namespace Go.Proofs
open Go.Shelf
def Tryd.lays169_ren:Go.Shelf.Ren:=⟨fun|169=>54|n=>n,fun|70=>62|9=>9|0=>0|72=>64|37=>52|127=>78|3=>3|5=>5|n=>n,fun|n=>n⟩
theorem Tryd.lays169:Go.Proofs.Lays.n169 Tryd.prog Tryd.lays169_ren:={
 mixed:=by kernel_rfl
 f169:=Tryd.func54.trans (congrArg some (by kernel_rfl))
 t0:=Tryd.underlying0
 a0:=Tryd.isAgg0
 z0:=Tryd.sizeOf0
 v0:=Tryd.zeroValue0
 t3:=Tryd.underlying3
 a3:=Tryd.isAgg3
 z3:=Tryd.sizeOf3
 v3:=Tryd.zeroValue3
 t9:=Tryd.underlying9
 a9:=Tryd.isAgg9
 z9:=Tryd.sizeOf9
 v9:=Tryd.zeroValue9
 t37:=Tryd.underlying52
 a37:=Tryd.isAgg52
 z37:=Tryd.sizeOf52
 v37:=Tryd.zeroValue52
 t70:=Tryd.underlying62
 a70:=Tryd.isAgg62
 z70:=Tryd.sizeOf62
 v70:=Tryd.zeroValue62
 t72:=Tryd.underlying64
 a72:=Tryd.isAgg64
 z72:=Tryd.sizeOf64
 v72:=Tryd.zeroValue64
 t127:=Tryd.underlying78
 a127:=Tryd.isAgg78
 z127:=Tryd.sizeOf78
 v127:=Tryd.zeroValue78}
theorem Tryd.Builder_Extra_169:Builder.Extra Tryd.prog Tryd.lays169_ren:={
 sizeBuilder:=by kernel_rfl
 liesBuilder:=by kernel_rfl
 t5:=Tryd.underlying5
 a5:=Tryd.isAgg5
 z5:=Tryd.sizeOf5
 v5:=Tryd.zeroValue5
 infoByte:=by kernel_rfl
 cellsByte:=by kernel_rfl
 sizeByte:=by kernel_rfl
 neB5:=by decide}
open Go.RowKit in
theorem Tryd.Builder_String(B b:Nat)(l:List UInt8)(w:World)(h:Lib.IsBuilder 64 5 B b (Lib.byteCells l) w)(h0:l≠[]):
  Calls Tryd.prog 54 #[.pointer (some ⟨b,0,none⟩)] w fun e w'=>e= .returned (.string ⟨l.toArray⟩)∧Below B w w':=Any.Builder_String Tryd.lays169 Tryd.Builder_Extra_169 B b l w h h0
open Go.RowKit in
theorem Tryd.Builder_String_empty(B b:Nat)(w:World)(h:Lib.IsBuilder 64 5 B b [] w)(hBw:B≤w.heap.size):
  Calls Tryd.prog 54 #[.pointer (some ⟨b,0,none⟩)] w fun e w'=>e= .returned (.string ⟨#[]⟩)∧Below B w w':=Any.Builder_String_empty Tryd.lays169 Tryd.Builder_Extra_169 B b w h hBw
open Go.RowKit in
theorem Tryd.Builder_String_any(B b:Nat)(l:List UInt8)(w:World)(h:Lib.IsBuilder 64 5 B b (Lib.byteCells l) w)(hBw:B≤w.heap.size):
  Calls Tryd.prog 54 #[.pointer (some ⟨b,0,none⟩)] w fun e w'=>e= .returned (.string ⟨l.toArray⟩)∧Below B w w':=Any.Builder_String_any Tryd.lays169 Tryd.Builder_Extra_169 B b l w h hBw
def Tryd.lays241_ren:Go.Shelf.Ren:=⟨fun|241=>62|277=>71|n=>n,fun|70=>62|3=>3|0=>0|72=>64|37=>52|5=>5|n=>n,fun|n=>n⟩
theorem Tryd.lays241:Go.Proofs.Lays.n241 Tryd.prog Tryd.lays241_ren:={
 mixed:=by kernel_rfl
 f241:=Tryd.func62.trans (congrArg some (by kernel_rfl))
 f277:=Tryd.func71.trans (congrArg some (by kernel_rfl))
 t0:=Tryd.underlying0
 a0:=Tryd.isAgg0
 z0:=Tryd.sizeOf0
 v0:=Tryd.zeroValue0
 t3:=Tryd.underlying3
 a3:=Tryd.isAgg3
 z3:=Tryd.sizeOf3
 v3:=Tryd.zeroValue3
 t37:=Tryd.underlying52
 a37:=Tryd.isAgg52
 z37:=Tryd.sizeOf52
 v37:=Tryd.zeroValue52
 t70:=Tryd.underlying62
 a70:=Tryd.isAgg62
 z70:=Tryd.sizeOf62
 v70:=Tryd.zeroValue62
 t72:=Tryd.underlying64
 a72:=Tryd.isAgg64
 z72:=Tryd.sizeOf64
 v72:=Tryd.zeroValue64}
theorem Tryd.Builder_Extra_241:Builder.Extra Tryd.prog Tryd.lays241_ren:={
 sizeBuilder:=by kernel_rfl
 liesBuilder:=by kernel_rfl
 t5:=Tryd.underlying5
 a5:=Tryd.isAgg5
 z5:=Tryd.sizeOf5
 v5:=Tryd.zeroValue5
 infoByte:=by kernel_rfl
 cellsByte:=by kernel_rfl
 sizeByte:=by kernel_rfl
 neB5:=by decide}
open Go.RowKit in
theorem Tryd.Builder_grow_fresh(B b n:Nat)(w:World)(hB:B≤b)(hbk:w.heap[b]? =some (.cells #[.pointer (some ⟨b,0,none⟩),.slice none 0 0] 64 (0,0))) (hBw:B≤w.heap.size) (hn:n≤281474976710656):
  Calls Tryd.prog 62 #[.pointer (some ⟨b,0,none⟩),.int .i64 n] w fun e w'=>e= .returned (.tuple #[])∧(Lib.BuilderAt 64 5 B b (.pointer (some ⟨b,0,none⟩)) [] w'∧Below B w w'):=Any.Builder_grow_fresh Tryd.lays241 Tryd.Builder_Extra_241 B b n w hB hbk hBw hn
def Tryd.lays165_ren:Go.Shelf.Ren:=⟨fun|165=>52|240=>61|241=>62|276=>70|277=>71|n=>n,fun|70=>62|3=>3|0=>0|4=>4|9=>9|20=>20|72=>64|37=>52|164=>88|5=>5|n=>n,fun|n=>n⟩
theorem Tryd.lays165:Go.Proofs.Lays.n165 Tryd.prog Tryd.lays165_ren:={
 mixed:=by kernel_rfl
 f165:=Tryd.func52.trans (congrArg some (by kernel_rfl))
 f240:=Tryd.func61.trans (congrArg some (by kernel_rfl))
 f241:=Tryd.func62.trans (congrArg some (by kernel_rfl))
 f276:=Tryd.func70.trans (congrArg some (by kernel_rfl))
 f277:=Tryd.func71.trans (congrArg some (by kernel_rfl))
 t0:=Tryd.underlying0
 a0:=Tryd.isAgg0
 z0:=Tryd.sizeOf0
 v0:=Tryd.zeroValue0
 t3:=Tryd.underlying3
 a3:=Tryd.isAgg3
 z3:=Tryd.sizeOf3
 v3:=Tryd.zeroValue3
 t4:=Tryd.underlying4
 a4:=Tryd.isAgg4
 z4:=Tryd.sizeOf4
 v4:=Tryd.zeroValue4
 t9:=Tryd.underlying9
 a9:=Tryd.isAgg9
 z9:=Tryd.sizeOf9
 v9:=Tryd.zeroValue9
 t20:=Tryd.underlying20
 a20:=Tryd.isAgg20
 z20:=Tryd.sizeOf20
 v20:=Tryd.zeroValue20
 t37:=Tryd.underlying52
 a37:=Tryd.isAgg52
 z37:=Tryd.sizeOf52
 v37:=Tryd.zeroValue52
 t70:=Tryd.underlying62
 a70:=Tryd.isAgg62
 z70:=Tryd.sizeOf62
 v70:=Tryd.zeroValue62
 t72:=Tryd.underlying64
 a72:=Tryd.isAgg64
 z72:=Tryd.sizeOf64
 v72:=Tryd.zeroValue64
 t164:=Tryd.underlying88
 a164:=Tryd.isAgg88
 z164:=Tryd.sizeOf88
 v164:=Tryd.zeroValue88}
theorem Tryd.Builder_Extra_165:Builder.Extra Tryd.prog Tryd.lays165_ren:={
 sizeBuilder:=by kernel_rfl
 liesBuilder:=by kernel_rfl
 t5:=Tryd.underlying5
 a5:=Tryd.isAgg5
 z5:=Tryd.sizeOf5
 v5:=Tryd.zeroValue5
 infoByte:=by kernel_rfl
 cellsByte:=by kernel_rfl
 sizeByte:=by kernel_rfl
 neB5:=by decide}
open Go.RowKit in
theorem Tryd.Builder_Grow_fresh(B b n:Nat)(w:World)(hB:B≤b)(hbk:w.heap[b]? =some (.cells #[.pointer none,.slice none 0 0] 64 (0,0))) (hBw:B≤w.heap.size) (hn:n≤281474976710656):
  Calls Tryd.prog 52 #[.pointer (some ⟨b,0,none⟩),.int .i64 n] w fun e w'=>e= .returned (.tuple #[])∧(Lib.BuilderAt 64 5 B b (.pointer (some ⟨b,0,none⟩)) [] w'∧Below B w w'):=Any.Builder_Grow_fresh Tryd.lays165 Tryd.Builder_Extra_165 B b n w hB hbk hBw hn
def Tryd.lays156_ren:Go.Shelf.Ren:=⟨fun|156=>47|165=>52|166=>53|169=>54|240=>61|241=>62|276=>70|277=>71|n=>n,fun|31=>39|9=>9|3=>3|4=>4|0=>0|20=>20|72=>64|76=>68|70=>62|37=>52|75=>67|127=>78|164=>88|5=>5|80=>70|n=>n,fun|n=>n⟩
theorem Tryd.lays156:Go.Proofs.Lays.n156 Tryd.prog Tryd.lays156_ren:={
 mixed:=by kernel_rfl
 f156:=Tryd.func47.trans (congrArg some (by kernel_rfl))
 f165:=Tryd.func52.trans (congrArg some (by kernel_rfl))
 f166:=Tryd.func53.trans (congrArg some (by kernel_rfl))
 f169:=Tryd.func54.trans (congrArg some (by kernel_rfl))
 f240:=Tryd.func61.trans (congrArg some (by kernel_rfl))
 f241:=Tryd.func62.trans (congrArg some (by kernel_rfl))
 f276:=Tryd.func70.trans (congrArg some (by kernel_rfl))
 f277:=Tryd.func71.trans (congrArg some (by kernel_rfl))
 t0:=Tryd.underlying0
 a0:=Tryd.isAgg0
 z0:=Tryd.sizeOf0
 v0:=Tryd.zeroValue0
 t3:=Tryd.underlying3
 a3:=Tryd.isAgg3
 z3:=Tryd.sizeOf3
 v3:=Tryd.zeroValue3
 t4:=Tryd.underlying4
 a4:=Tryd.isAgg4
 z4:=Tryd.sizeOf4
 v4:=Tryd.zeroValue4
 t9:=Tryd.underlying9
 a9:=Tryd.isAgg9
 z9:=Tryd.sizeOf9
 v9:=Tryd.zeroValue9
 t20:=Tryd.underlying20
 a20:=Tryd.isAgg20
 z20:=Tryd.sizeOf20
 v20:=Tryd.zeroValue20
 t31:=Tryd.underlying39
 a31:=Tryd.isAgg39
 z31:=Tryd.sizeOf39
 v31:=Tryd.zeroValue39
 t37:=Tryd.underlying52
 a37:=Tryd.isAgg52
 z37:=Tryd.sizeOf52
 v37:=Tryd.zeroValue52
 t70:=Tryd.underlying62
 a70:=Tryd.isAgg62
 z70:=Tryd.sizeOf62
 v70:=Tryd.zeroValue62
 t72:=Tryd.underlying64
 a72:=Tryd.isAgg64
 z72:=Tryd.sizeOf64
 v72:=Tryd.zeroValue64
 t75:=Tryd.underlying67
 a75:=Tryd.isAgg67
 z75:=Tryd.sizeOf67
 v75:=Tryd.zeroValue67
 t76:=Tryd.underlying68
 a76:=Tryd.isAgg68
 z76:=Tryd.sizeOf68
 v76:=Tryd.zeroValue68
 t127:=Tryd.underlying78
 a127:=Tryd.isAgg78
 z127:=Tryd.sizeOf78
 v127:=Tryd.zeroValue78
 t164:=Tryd.underlying88
 a164:=Tryd.isAgg88
 z164:=Tryd.sizeOf88
 v164:=Tryd.zeroValue88}
theorem Tryd.Builder_Extra_156:Builder.Extra Tryd.prog Tryd.lays156_ren:={
 sizeBuilder:=by kernel_rfl
 liesBuilder:=by kernel_rfl
 t5:=Tryd.underlying5
 a5:=Tryd.isAgg5
 z5:=Tryd.sizeOf5
 v5:=Tryd.zeroValue5
 infoByte:=by kernel_rfl
 cellsByte:=by kernel_rfl
 sizeByte:=by kernel_rfl
 neB5:=by decide}
open Go.RowKit in
theorem Tryd.strings_Join_none(a:Option Addr)(c:Nat)(sep:ByteArray)(w:World):
  Calls Tryd.prog 47 #[.slice a 0 c,.string sep] w fun e w'=>e= .returned (.string ⟨#[]⟩)∧w'=w:=Any.strings_Join_none Tryd.lays156 Tryd.Builder_Extra_156 a c sep w
open Go.RowKit in
theorem Tryd.strings_Join(bk o c:Nat)(xs:List ByteArray)(sep:ByteArray)(w:World)(hcells:∀(j:Nat) x,xs[j]? =some x→w.cell? ⟨bk,o+j,none⟩=some (.string x))(hbk:bk<w.heap.size)(hN:xs.length≤140737488355328)(hcap:xs.length≤c)(hlen:(Lib.join (xs.map (·.data.toList)) sep.data.toList).length≤140737488355328):
  Calls Tryd.prog 47 #[.slice (some ⟨bk,o,none⟩) xs.length c,.string sep] w fun e w'=>e= .returned (.string ⟨(Lib.join (xs.map (·.data.toList)) sep.data.toList).toArray⟩)∧Below w.heap.size w w':=Any.strings_Join Tryd.lays156 Tryd.Builder_Extra_156 bk o c xs sep w hcells hbk hN hcap hlen
def Tryd.lays119_ren:Go.Shelf.Ren:=⟨fun|119=>63|n=>n,fun|21=>21|4=>4|n=>n,fun|n=>n⟩
theorem Tryd.lays119:Go.Proofs.Lays.n119 Tryd.prog Tryd.lays119_ren:={
 mixed:=by kernel_rfl
 f119:=Tryd.func63.trans (congrArg some (by kernel_rfl))
 t4:=Tryd.underlying4
 a4:=Tryd.isAgg4
 z4:=Tryd.sizeOf4
 v4:=Tryd.zeroValue4
 t21:=Tryd.underlying21
 a21:=Tryd.isAgg21
 z21:=Tryd.sizeOf21
 v21:=Tryd.zeroValue21}
theorem Tryd.utf8_ValidRune(r:Int)(w:World):
  Calls Tryd.prog 63 #[.int .i32 r] w fun e w'=>e= .returned (.bool (Lib.validRune r))∧w'=w:=Any.utf8_ValidRune Tryd.lays119 r w
def Tryd.lays137_ren:Go.Shelf.Ren:=⟨fun|137=>41|217=>48|266=>55|n=>n,fun|9=>9|5=>5|3=>3|n=>n,fun|n=>n⟩
theorem Tryd.lays137:Go.Proofs.Lays.n137 Tryd.prog Tryd.lays137_ren:={
 mixed:=by kernel_rfl
 f137:=Tryd.func41.trans (congrArg some (by kernel_rfl))
 f217:=Tryd.func48.trans (congrArg some (by kernel_rfl))
 f266:=Tryd.func55.trans (congrArg some (by kernel_rfl))
 t3:=Tryd.underlying3
 a3:=Tryd.isAgg3
 z3:=Tryd.sizeOf3
 v3:=Tryd.zeroValue3
 t5:=Tryd.underlying5
 a5:=Tryd.isAgg5
 z5:=Tryd.sizeOf5
 v5:=Tryd.zeroValue5
 t9:=Tryd.underlying9
 a9:=Tryd.isAgg9
 z9:=Tryd.sizeOf9
 v9:=Tryd.zeroValue9}
open Go.RowKit in
theorem Tryd.strings_IndexByte(s:ByteArray)(c:Int)(w:World):
  Calls Tryd.prog 41 #[.string s,.int .u8 c] w fun e w'=>e= .returned (.int .i64 (Lib.indexByte s.data.toList c.toNat.toUInt8))∧w'=w:=Any.strings_IndexByte Tryd.lays137 s c w
def Tryd.lays215_ren:Go.Shelf.Ren:=⟨fun|215=>50|n=>n,fun|3=>3|4=>4|n=>n,fun|n=>n⟩
theorem Tryd.lays215:Go.Proofs.Lays.n215 Tryd.prog Tryd.lays215_ren:={
 mixed:=by kernel_rfl
 f215:=Tryd.func50.trans (congrArg some (by kernel_rfl))
 t3:=Tryd.underlying3
 a3:=Tryd.isAgg3
 z3:=Tryd.sizeOf3
 v3:=Tryd.zeroValue3
 t4:=Tryd.underlying4
 a4:=Tryd.isAgg4
 z4:=Tryd.sizeOf4
 v4:=Tryd.zeroValue4}
open Go.RowKit in
theorem Tryd.cmp_isNaN_int(x:Int)(w:World):
  Calls Tryd.prog 50 #[.int .i64 x] w fun e w'=>e= .returned (.bool false)∧w'=w:=Any.cmp_isNaN_int Tryd.lays215 x w
def Tryd.lays122_ren:Go.Shelf.Ren:=⟨fun|122=>45|215=>50|n=>n,fun|3=>3|4=>4|n=>n,fun|n=>n⟩
theorem Tryd.lays122:Go.Proofs.Lays.n122 Tryd.prog Tryd.lays122_ren:={
 mixed:=by kernel_rfl
 f122:=Tryd.func45.trans (congrArg some (by kernel_rfl))
 f215:=Tryd.func50.trans (congrArg some (by kernel_rfl))
 t3:=Tryd.underlying3
 a3:=Tryd.isAgg3
 z3:=Tryd.sizeOf3
 v3:=Tryd.zeroValue3
 t4:=Tryd.underlying4
 a4:=Tryd.isAgg4
 z4:=Tryd.sizeOf4
 v4:=Tryd.zeroValue4}
open Go.RowKit in
theorem Tryd.cmp_Compare_int(x y:Int)(w:World):
  Calls Tryd.prog 45 #[.int .i64 x,.int .i64 y] w fun e w'=>e= .returned (.int .i64 (Lib.compareInt x y))∧w'=w:=Any.cmp_Compare_int Tryd.lays122 x y w
open Go.RowKit in
theorem Tryd.Builder_String_f(B b:Nat)(l:List UInt8)(w:World)(h:Lib.IsBuilderF 64 5 B b (Lib.byteCells l) w)(h0:l≠[]):
  Calls Tryd.prog 54 #[.pointer (some ⟨b,0,none⟩)] w fun e w'=>e= .returned (.string ⟨l.toArray⟩)∧(Lib.IsBuilderF 64 5 B b (Lib.byteCells l) w'∧Below B w w'):=Any.Builder_String_f Tryd.lays169 Tryd.Builder_Extra_169 B b l w h h0
open Go.RowKit in
theorem Tryd.Builder_String_empty_f(B b:Nat)(w:World)(h:Lib.IsBuilderF 64 5 B b [] w)(hBw:B≤w.heap.size):
  Calls Tryd.prog 54 #[.pointer (some ⟨b,0,none⟩)] w fun e w'=>e= .returned (.string ⟨#[]⟩)∧(Lib.IsBuilderF 64 5 B b [] w'∧Below B w w'):=Any.Builder_String_empty_f Tryd.lays169 Tryd.Builder_Extra_169 B b w h hBw
open Go.RowKit in
theorem Tryd.Builder_String_any_f(B b:Nat)(l:List UInt8)(w:World)(h:Lib.IsBuilderF 64 5 B b (Lib.byteCells l) w)(hBw:B≤w.heap.size):
  Calls Tryd.prog 54 #[.pointer (some ⟨b,0,none⟩)] w fun e w'=>e= .returned (.string ⟨l.toArray⟩)∧(Lib.IsBuilderF 64 5 B b (Lib.byteCells l) w'∧Below B w w'):=Any.Builder_String_any_f Tryd.lays169 Tryd.Builder_Extra_169 B b l w h hBw
open Go.RowKit in
theorem Tryd.Builder_String_k(B b:Nat)(l:List UInt8)(w:World)(h:Lib.IsBuilderF 64 5 B b (Lib.byteCells l) w)(h0:l≠[]):
  Calls Tryd.prog 54 #[.pointer (some ⟨b,0,none⟩)] w fun e w'=>e= .returned (.string ⟨l.toArray⟩)∧(Lib.IsBuilderF 64 5 B b (Lib.byteCells l) w'∧Below B w w'∧Lib.OthersKept 5 (some b) w w'):=Any.Builder_String_k Tryd.lays169 Tryd.Builder_Extra_169 B b l w h h0
open Go.RowKit in
theorem Tryd.Builder_String_empty_k(B b:Nat)(w:World)(h:Lib.IsBuilderF 64 5 B b [] w)(hBw:B≤w.heap.size):
  Calls Tryd.prog 54 #[.pointer (some ⟨b,0,none⟩)] w fun e w'=>e= .returned (.string ⟨#[]⟩)∧(Lib.IsBuilderF 64 5 B b [] w'∧Below B w w'∧Lib.OthersKept 5 (some b) w w'):=Any.Builder_String_empty_k Tryd.lays169 Tryd.Builder_Extra_169 B b w h hBw
open Go.RowKit in
theorem Tryd.Builder_String_any_k(B b:Nat)(l:List UInt8)(w:World)(h:Lib.IsBuilderF 64 5 B b (Lib.byteCells l) w)(hBw:B≤w.heap.size):
  Calls Tryd.prog 54 #[.pointer (some ⟨b,0,none⟩)] w fun e w'=>e= .returned (.string ⟨l.toArray⟩)∧(Lib.IsBuilderF 64 5 B b (Lib.byteCells l) w'∧Below B w w'∧Lib.OthersKept 5 (some b) w w'):=Any.Builder_String_any_k Tryd.lays169 Tryd.Builder_Extra_169 B b l w h hBw
open Go.RowKit in
theorem Tryd.Builder_grow_fresh_cap(B b n:Nat)(w:World)(hB:B≤b)(hbk:w.heap[b]? =some (.cells #[.pointer (some ⟨b,0,none⟩),.slice none 0 0] 64 (0,0))) (hBw:B≤w.heap.size) (hn:n≤281474976710656):
  Calls Tryd.prog 62 #[.pointer (some ⟨b,0,none⟩),.int .i64 n] w fun e w'=>e= .returned (.tuple #[])∧(Lib.BuilderAt 64 5 B b (.pointer (some ⟨b,0,none⟩)) [] w'∧Below B w w')∧∃p cap,w'.cell? ⟨b,1,none⟩=some (.slice p 0 cap)∧n≤cap:=Any.Builder_grow_fresh_cap Tryd.lays241 Tryd.Builder_Extra_241 B b n w hB hbk hBw hn
open Go.RowKit in
theorem Tryd.Builder_Grow_fresh_cap(B b n:Nat)(w:World)(hB:B≤b)(hbk:w.heap[b]? =some (.cells #[.pointer none,.slice none 0 0] 64 (0,0))) (hBw:B≤w.heap.size) (hn:n≤281474976710656):
  Calls Tryd.prog 52 #[.pointer (some ⟨b,0,none⟩),.int .i64 n] w fun e w'=>e= .returned (.tuple #[])∧(Lib.BuilderAt 64 5 B b (.pointer (some ⟨b,0,none⟩)) [] w'∧Below B w w')∧∃p cap,w'.cell? ⟨b,1,none⟩=some (.slice p 0 cap)∧n≤cap:=Any.Builder_Grow_fresh_cap Tryd.lays165 Tryd.Builder_Extra_165 B b n w hB hbk hBw hn
def Tryd.lays129_ren:Go.Shelf.Ren:=⟨fun|129=>73|n=>n,fun|53=>83|3=>3|4=>4|46=>59|5=>5|9=>9|n=>n,fun|n=>n⟩
theorem Tryd.lays129:Go.Proofs.Lays.n129 Tryd.prog Tryd.lays129_ren:={
 mixed:=by kernel_rfl
 f129:=Tryd.func73.trans (congrArg some (by kernel_rfl))
 t3:=Tryd.underlying3
 a3:=Tryd.isAgg3
 z3:=Tryd.sizeOf3
 v3:=Tryd.zeroValue3
 t4:=Tryd.underlying4
 a4:=Tryd.isAgg4
 z4:=Tryd.sizeOf4
 v4:=Tryd.zeroValue4
 t5:=Tryd.underlying5
 a5:=Tryd.isAgg5
 z5:=Tryd.sizeOf5
 v5:=Tryd.zeroValue5
 t9:=Tryd.underlying9
 a9:=Tryd.isAgg9
 z9:=Tryd.sizeOf9
 v9:=Tryd.zeroValue9
 t46:=Tryd.underlying59
 a46:=Tryd.isAgg59
 z46:=Tryd.sizeOf59
 v46:=Tryd.zeroValue59
 t53:=Tryd.underlying83
 a53:=Tryd.isAgg83
 z53:=Tryd.sizeOf83
 v53:=Tryd.zeroValue83}
theorem Tryd.bits_Len64(x:Int)(w:World)(h0:0≤x)(h1:x≤18446744073709551615):
  Calls Tryd.prog 73 #[.int .u64 x] w fun e w'=>e= .returned (.int .i64 (Lib.bitLen x.toNat))∧w'=w:=Any.bits_Len64 Tryd.lays129 x w h0 h1
def Tryd.lays317_ren:Go.Shelf.Ren:=⟨fun|317=>72|n=>n,fun|3=>3|46=>59|n=>n,fun|n=>n⟩
theorem Tryd.lays317:Go.Proofs.Lays.n317 Tryd.prog Tryd.lays317_ren:={
 mixed:=by kernel_rfl
 f317:=Tryd.func72.trans (congrArg some (by kernel_rfl))
 t3:=Tryd.underlying3
 a3:=Tryd.isAgg3
 z3:=Tryd.sizeOf3
 v3:=Tryd.zeroValue3
 t46:=Tryd.underlying59
 a46:=Tryd.isAgg59
 z46:=Tryd.sizeOf59
 v46:=Tryd.zeroValue59}
open Go.Lib in
theorem Tryd.internal_strconv_log10Pow2(x:Nat)(h:x≤64)(w:World):
  Calls Tryd.prog 72 #[.int .i64 x] w fun e w'=>e= .returned (.int .i64 (Lib.l10 x))∧w'=w:=Any.internal_strconv_log10Pow2 Tryd.lays317 x h w
def Tryd.lays318_ren:Go.Shelf.Ren:=⟨fun|318=>74|n=>n,fun|3=>3|4=>4|n=>n,fun|n=>n⟩
theorem Tryd.lays318:Go.Proofs.Lays.n318 Tryd.prog Tryd.lays318_ren:={
 mixed:=by kernel_rfl
 f318:=Tryd.func74.trans (congrArg some (by kernel_rfl))
 t3:=Tryd.underlying3
 a3:=Tryd.isAgg3
 z3:=Tryd.sizeOf3
 v3:=Tryd.zeroValue3
 t4:=Tryd.underlying4
 a4:=Tryd.isAgg4
 z4:=Tryd.sizeOf4
 v4:=Tryd.zeroValue4}
open Go.Lib in
theorem Tryd.internal_strconv_bool2_int(b:Bool)(w:World):
  Calls Tryd.prog 74 #[.bool b] w fun e w'=>e= .returned (.int .i64 (if b then 1 else 0))∧w'=w:=Any.internal_strconv_bool2_int Tryd.lays318 b w
def Tryd.lays283_ren:Go.Shelf.Ren:=⟨fun|283=>66|n=>n,fun|3=>3|9=>9|4=>4|n=>n,fun|n=>n⟩
theorem Tryd.lays283:Go.Proofs.Lays.n283 Tryd.prog Tryd.lays283_ren:={
 mixed:=by kernel_rfl
 f283:=Tryd.func66.trans (congrArg some (by kernel_rfl))
 t3:=Tryd.underlying3
 a3:=Tryd.isAgg3
 z3:=Tryd.sizeOf3
 v3:=Tryd.zeroValue3
 t4:=Tryd.underlying4
 a4:=Tryd.isAgg4
 z4:=Tryd.sizeOf4
 v4:=Tryd.zeroValue4
 t9:=Tryd.underlying9
 a9:=Tryd.isAgg9
 z9:=Tryd.sizeOf9
 v9:=Tryd.zeroValue9}
open Go.Lib in
theorem Tryd.internal_strconv_small(i:Nat)(h:i<100)(w:World):
  Calls Tryd.prog 66 #[.int .i64 i] w fun e w'=>e= .returned (.string ⟨(Lib.decDigits i).toArray⟩)∧w'=w:=Any.internal_strconv_small Tryd.lays283 i h w
def Tryd.laysM284_ren:Go.Shelf.Ren:=⟨fun|284=>67|129=>73|317=>72|318=>74|n=>n,fun|53=>83|3=>3|212=>92|0=>0|4=>4|46=>59|5=>5|9=>9|n=>n,fun|17=>1|n=>n⟩
theorem Tryd.laysM284:Go.Proofs.LaysM.n284 Tryd.prog Tryd.laysM284_ren:={
 mixed:=by kernel_rfl
 f129:=Tryd.func73.trans (congrArg some (by kernel_rfl))
 f284:=Tryd.func67.trans (congrArg some (by kernel_rfl))
 f317:=Tryd.func72.trans (congrArg some (by kernel_rfl))
 f318:=Tryd.func74.trans (congrArg some (by kernel_rfl))
 t0:=Tryd.underlying0
 a0:=Tryd.isAgg0
 z0:=Tryd.sizeOf0
 v0:=Tryd.zeroValue0
 t3:=Tryd.underlying3
 a3:=Tryd.isAgg3
 z3:=Tryd.sizeOf3
 v3:=Tryd.zeroValue3
 t4:=Tryd.underlying4
 a4:=Tryd.isAgg4
 z4:=Tryd.sizeOf4
 v4:=Tryd.zeroValue4
 t5:=Tryd.underlying5
 a5:=Tryd.isAgg5
 z5:=Tryd.sizeOf5
 v5:=Tryd.zeroValue5
 t9:=Tryd.underlying9
 a9:=Tryd.isAgg9
 z9:=Tryd.sizeOf9
 v9:=Tryd.zeroValue9
 t46:=Tryd.underlying59
 a46:=Tryd.isAgg59
 z46:=Tryd.sizeOf59
 v46:=Tryd.zeroValue59
 t53:=Tryd.underlying83
 a53:=Tryd.isAgg83
 z53:=Tryd.sizeOf83
 v53:=Tryd.zeroValue83
 t212:=Tryd.underlying92
 a212:=Tryd.isAgg92
 z212:=Tryd.sizeOf92
 v212:=Tryd.zeroValue92
 g17:=by kernel_rfl
 i0:=by kernel_rfl
 i3:=by kernel_rfl
 i4:=by kernel_rfl
 i5:=by kernel_rfl
 i9:=by kernel_rfl
 i46:=by kernel_rfl
 i53:=by kernel_rfl
 i212:=by kernel_rfl
 m17:=by kernel_rfl}
open Go.Lib in
theorem Tryd.internal_strconv_numDigits(u:Nat)(h1:1≤u)(h2:u<18446744073709551616)(w:World)(htab:Lib.TabIs Tryd.prog w "internal/strconv.uint64pow10" .u64 Lib.pow10Tab):
  Calls Tryd.prog 67 #[.int .u64 u] w fun e w'=>e= .returned (.int .i64 (Lib.nDigits u))∧w'=w:=Any.internal_strconv_numDigits Tryd.laysM284 u h1 h2 w htab
def Tryd.lays285_ren:Go.Shelf.Ren:=⟨fun|285=>68|n=>n,fun|37=>52|53=>83|3=>3|4=>4|51=>93|9=>9|5=>5|0=>0|n=>n,fun|n=>n⟩
theorem Tryd.lays285:Go.Proofs.Lays.n285 Tryd.prog Tryd.lays285_ren:={
 mixed:=by kernel_rfl
 f285:=Tryd.func68.trans (congrArg some (by kernel_rfl))
 t0:=Tryd.underlying0
 a0:=Tryd.isAgg0
 z0:=Tryd.sizeOf0
 v0:=Tryd.zeroValue0
 t3:=Tryd.underlying3
 a3:=Tryd.isAgg3
 z3:=Tryd.sizeOf3
 v3:=Tryd.zeroValue3
 t4:=Tryd.underlying4
 a4:=Tryd.isAgg4
 z4:=Tryd.sizeOf4
 v4:=Tryd.zeroValue4
 t5:=Tryd.underlying5
 a5:=Tryd.isAgg5
 z5:=Tryd.sizeOf5
 v5:=Tryd.zeroValue5
 t9:=Tryd.underlying9
 a9:=Tryd.isAgg9
 z9:=Tryd.sizeOf9
 v9:=Tryd.zeroValue9
 t37:=Tryd.underlying52
 a37:=Tryd.isAgg52
 z37:=Tryd.sizeOf52
 v37:=Tryd.zeroValue52
 t51:=Tryd.underlying93
 a51:=Tryd.isAgg93
 z51:=Tryd.sizeOf93
 v51:=Tryd.zeroValue93
 t53:=Tryd.underlying83
 a53:=Tryd.isAgg83
 z53:=Tryd.sizeOf83
 v53:=Tryd.zeroValue83}
open Go.RowKit Go.Sort Go.Lib in
theorem Tryd.internal_strconv_formatBase10(blk off cap:Nat)(u:Nat)(d:Array UInt8)(w:World)(hH:Holds (fun(b:UInt8)=>Value.int .u8 (b.toNat:Int)) w blk off d)(hu:u<10 ^ d.size)(hu64:u<18446744073709551616)(hsz:d.size<4611686018427387904):
  Calls Tryd.prog 68 #[.slice (some ⟨blk,off,none⟩) d.size cap,.int .u64 u] w fun e w'=>
   e= .returned (.tuple #[])∧∃(n v':Nat) (dk:Array UInt8),w'=(putRow (fun(b:UInt8)=>Value.int .u8 (b.toNat:Int)) w blk off dk).drewN n∧FmtInv d.size u 0 v' dk:=Any.internal_strconv_formatBase10 Tryd.lays285 blk off cap u d w hH hu hu64 hsz
def Tryd.laysM246_ren:Go.Shelf.Ren:=⟨fun|246=>60|283=>66|284=>67|285=>68|286=>69|129=>73|317=>72|318=>74|319=>75|320=>76|337=>77|338=>78|n=>n,fun|2=>2|3=>3|9=>9|4=>4|171=>82|0=>0|53=>83|37=>52|5=>5|173=>86|212=>92|51=>93|20=>20|213=>94|46=>59|232=>97|233=>98|n=>n,fun|17=>1|18=>2|19=>3|n=>n⟩
theorem Tryd.laysM246:Go.Proofs.LaysM.n246 Tryd.prog Tryd.laysM246_ren:={
 mixed:=by kernel_rfl
 f129:=Tryd.func73.trans (congrArg some (by kernel_rfl))
 f246:=Tryd.func60.trans (congrArg some (by kernel_rfl))
 f283:=Tryd.func66.trans (congrArg some (by kernel_rfl))
 f284:=Tryd.func67.trans (congrArg some (by kernel_rfl))
 f285:=Tryd.func68.trans (congrArg some (by kernel_rfl))
 f286:=Tryd.func69.trans (congrArg some (by kernel_rfl))
 f317:=Tryd.func72.trans (congrArg some (by kernel_rfl))
 f318:=Tryd.func74.trans (congrArg some (by kernel_rfl))
 f319:=Tryd.func75.trans (congrArg some (by kernel_rfl))
 f320:=Tryd.func76.trans (congrArg some (by kernel_rfl))
 f337:=Tryd.func77.trans (congrArg some (by kernel_rfl))
 f338:=Tryd.func78.trans (congrArg some (by kernel_rfl))
 t0:=Tryd.underlying0
 a0:=Tryd.isAgg0
 z0:=Tryd.sizeOf0
 v0:=Tryd.zeroValue0
 t2:=Tryd.underlying2
 a2:=Tryd.isAgg2
 z2:=Tryd.sizeOf2
 v2:=Tryd.zeroValue2
 t3:=Tryd.underlying3
 a3:=Tryd.isAgg3
 z3:=Tryd.sizeOf3
 v3:=Tryd.zeroValue3
 t4:=Tryd.underlying4
 a4:=Tryd.isAgg4
 z4:=Tryd.sizeOf4
 v4:=Tryd.zeroValue4
 t5:=Tryd.underlying5
 a5:=Tryd.isAgg5
 z5:=Tryd.sizeOf5
 v5:=Tryd.zeroValue5
 t9:=Tryd.underlying9
 a9:=Tryd.isAgg9
 z9:=Tryd.sizeOf9
 v9:=Tryd.zeroValue9
 t20:=Tryd.underlying20
 a20:=Tryd.isAgg20
 z20:=Tryd.sizeOf20
 v20:=Tryd.zeroValue20
 t37:=Tryd.underlying52
 a37:=Tryd.isAgg52
 z37:=Tryd.sizeOf52
 v37:=Tryd.zeroValue52
 t46:=Tryd.underlying59
 a46:=Tryd.isAgg59
 z46:=Tryd.sizeOf59
 v46:=Tryd.zeroValue59
 t51:=Tryd.underlying93
 a51:=Tryd.isAgg93
 z51:=Tryd.sizeOf93
 v51:=Tryd.zeroValue93
 t53:=Tryd.underlying83
 a53:=Tryd.isAgg83
 z53:=Tryd.sizeOf83
 v53:=Tryd.zeroValue83
 t171:=Tryd.underlying82
 a171:=Tryd.isAgg82
 z171:=Tryd.sizeOf82
 v171:=Tryd.zeroValue82
 t173:=Tryd.underlying86
 a173:=Tryd.isAgg86
 z173:=Tryd.sizeOf86
 v173:=Tryd.zeroValue86
 t212:=Tryd.underlying92
 a212:=Tryd.isAgg92
 z212:=Tryd.sizeOf92
 v212:=Tryd.zeroValue92
 t213:=Tryd.underlying94
 a213:=Tryd.isAgg94
 z213:=Tryd.sizeOf94
 t232:=Tryd.underlying97
 a232:=Tryd.isAgg97
 z232:=Tryd.sizeOf97
 v232:=Tryd.zeroValue97
 t233:=Tryd.underlying98
 a233:=Tryd.isAgg98
 z233:=Tryd.sizeOf98
 v233:=Tryd.zeroValue98
 g17:=by kernel_rfl
 g18:=by kernel_rfl
 g19:=by kernel_rfl
 i0:=by kernel_rfl
 i2:=by kernel_rfl
 i3:=by kernel_rfl
 i4:=by kernel_rfl
 i5:=by kernel_rfl
 i9:=by kernel_rfl
 i20:=by kernel_rfl
 i37:=by kernel_rfl
 i46:=by kernel_rfl
 i51:=by kernel_rfl
 i53:=by kernel_rfl
 i171:=by kernel_rfl
 i173:=by kernel_rfl
 i212:=by kernel_rfl
 i232:=by kernel_rfl
 i233:=by kernel_rfl
 m17:=by kernel_rfl
 m18:=by kernel_rfl
 m19:=by kernel_rfl}
open Go.RowKit Go.Sort Go.Lib in
theorem Tryd.internal_strconv_FormatInt_10(n:Int)(h0: -9223372036854775808≤n)(h1:n≤9223372036854775807)(w:World)(htab:Lib.TabIs Tryd.prog w "internal/strconv.uint64pow10" .u64 Lib.pow10Tab):
  Calls Tryd.prog 60 #[.int .i64 n,.int .i64 10] w fun e w'=>e= .returned (.string ⟨(Lib.itoa n).toArray⟩)∧∃k os,w'=grow (w.drewN k) os:=Any.internal_strconv_FormatInt_10 Tryd.laysM246 n h0 h1 w htab
def Tryd.lays246_ren:Go.Shelf.Ren:=⟨fun|246=>60|283=>66|284=>67|285=>68|286=>69|129=>73|317=>72|318=>74|319=>75|320=>76|337=>77|338=>78|n=>n,fun|2=>2|3=>3|9=>9|4=>4|171=>82|0=>0|53=>83|37=>52|5=>5|173=>86|212=>92|51=>93|20=>20|213=>94|46=>59|232=>97|233=>98|n=>n,fun|17=>1|18=>2|19=>3|n=>n⟩
theorem Tryd.lays246:Go.Proofs.Lays.n246 Tryd.prog Tryd.lays246_ren:={
 mixed:=by kernel_rfl
 f129:=Tryd.func73.trans (congrArg some (by kernel_rfl))
 f246:=Tryd.func60.trans (congrArg some (by kernel_rfl))
 f283:=Tryd.func66.trans (congrArg some (by kernel_rfl))
 f284:=Tryd.func67.trans (congrArg some (by kernel_rfl))
 f285:=Tryd.func68.trans (congrArg some (by kernel_rfl))
 f286:=Tryd.func69.trans (congrArg some (by kernel_rfl))
 f317:=Tryd.func72.trans (congrArg some (by kernel_rfl))
 f318:=Tryd.func74.trans (congrArg some (by kernel_rfl))
 f319:=Tryd.func75.trans (congrArg some (by kernel_rfl))
 f320:=Tryd.func76.trans (congrArg some (by kernel_rfl))
 f337:=Tryd.func77.trans (congrArg some (by kernel_rfl))
 f338:=Tryd.func78.trans (congrArg some (by kernel_rfl))
 t0:=Tryd.underlying0
 a0:=Tryd.isAgg0
 z0:=Tryd.sizeOf0
 v0:=Tryd.zeroValue0
 t2:=Tryd.underlying2
 a2:=Tryd.isAgg2
 z2:=Tryd.sizeOf2
 v2:=Tryd.zeroValue2
 t3:=Tryd.underlying3
 a3:=Tryd.isAgg3
 z3:=Tryd.sizeOf3
 v3:=Tryd.zeroValue3
 t4:=Tryd.underlying4
 a4:=Tryd.isAgg4
 z4:=Tryd.sizeOf4
 v4:=Tryd.zeroValue4
 t5:=Tryd.underlying5
 a5:=Tryd.isAgg5
 z5:=Tryd.sizeOf5
 v5:=Tryd.zeroValue5
 t9:=Tryd.underlying9
 a9:=Tryd.isAgg9
 z9:=Tryd.sizeOf9
 v9:=Tryd.zeroValue9
 t20:=Tryd.underlying20
 a20:=Tryd.isAgg20
 z20:=Tryd.sizeOf20
 v20:=Tryd.zeroValue20
 t37:=Tryd.underlying52
 a37:=Tryd.isAgg52
 z37:=Tryd.sizeOf52
 v37:=Tryd.zeroValue52
 t46:=Tryd.underlying59
 a46:=Tryd.isAgg59
 z46:=Tryd.sizeOf59
 v46:=Tryd.zeroValue59
 t51:=Tryd.underlying93
 a51:=Tryd.isAgg93
 z51:=Tryd.sizeOf93
 v51:=Tryd.zeroValue93
 t53:=Tryd.underlying83
 a53:=Tryd.isAgg83
 z53:=Tryd.sizeOf83
 v53:=Tryd.zeroValue83
 t171:=Tryd.underlying82
 a171:=Tryd.isAgg82
 z171:=Tryd.sizeOf82
 v171:=Tryd.zeroValue82
 t173:=Tryd.underlying86
 a173:=Tryd.isAgg86
 z173:=Tryd.sizeOf86
 v173:=Tryd.zeroValue86
 t212:=Tryd.underlying92
 a212:=Tryd.isAgg92
 z212:=Tryd.sizeOf92
 v212:=Tryd.zeroValue92
 t213:=Tryd.underlying94
 a213:=Tryd.isAgg94
 z213:=Tryd.sizeOf94
 t232:=Tryd.underlying97
 a232:=Tryd.isAgg97
 z232:=Tryd.sizeOf97
 v232:=Tryd.zeroValue97
 t233:=Tryd.underlying98
 a233:=Tryd.isAgg98
 z233:=Tryd.sizeOf98
 v233:=Tryd.zeroValue98
 g17:=by kernel_rfl
 g18:=by kernel_rfl
 g19:=by kernel_rfl}
open Go.RowKit Go.Sort Go.Lib in
theorem Tryd.internal_strconv_FormatInt_10_small(i:Nat)(hi:i<100)(w:World):
  Calls Tryd.prog 60 #[.int .i64 i,.int .i64 10] w fun e w'=>e= .returned (.string ⟨(Lib.decDigits i).toArray⟩)∧w'=w:=Any.internal_strconv_FormatInt_10_small Tryd.lays246 i hi w
def Tryd.laysM243_ren:Go.Shelf.Ren:=⟨fun|243=>51|246=>60|283=>66|284=>67|285=>68|286=>69|129=>73|317=>72|318=>74|319=>75|320=>76|337=>77|338=>78|n=>n,fun|3=>3|9=>9|2=>2|4=>4|171=>82|0=>0|53=>83|37=>52|5=>5|173=>86|212=>92|51=>93|20=>20|213=>94|46=>59|232=>97|233=>98|n=>n,fun|17=>1|18=>2|19=>3|n=>n⟩
theorem Tryd.laysM243:Go.Proofs.LaysM.n243 Tryd.prog Tryd.laysM243_ren:={
 mixed:=by kernel_rfl
 f129:=Tryd.func73.trans (congrArg some (by kernel_rfl))
 f243:=Tryd.func51.trans (congrArg some (by kernel_rfl))
 f246:=Tryd.func60.trans (congrArg some (by kernel_rfl))
 f283:=Tryd.func66.trans (congrArg some (by kernel_rfl))
 f284:=Tryd.func67.trans (congrArg some (by kernel_rfl))
 f285:=Tryd.func68.trans (congrArg some (by kernel_rfl))
 f286:=Tryd.func69.trans (congrArg some (by kernel_rfl))
 f317:=Tryd.func72.trans (congrArg some (by kernel_rfl))
 f318:=Tryd.func74.trans (congrArg some (by kernel_rfl))
 f319:=Tryd.func75.trans (congrArg some (by kernel_rfl))
 f320:=Tryd.func76.trans (congrArg some (by kernel_rfl))
 f337:=Tryd.func77.trans (congrArg some (by kernel_rfl))
 f338:=Tryd.func78.trans (congrArg some (by kernel_rfl))
 t0:=Tryd.underlying0
 a0:=Tryd.isAgg0
 z0:=Tryd.sizeOf0
 v0:=Tryd.zeroValue0
 t2:=Tryd.underlying2
 a2:=Tryd.isAgg2
 z2:=Tryd.sizeOf2
 v2:=Tryd.zeroValue2
 t3:=Tryd.underlying3
 a3:=Tryd.isAgg3
 z3:=Tryd.sizeOf3
 v3:=Tryd.zeroValue3
 t4:=Tryd.underlying4
 a4:=Tryd.isAgg4
 z4:=Tryd.sizeOf4
 v4:=Tryd.zeroValue4
 t5:=Tryd.underlying5
 a5:=Tryd.isAgg5
 z5:=Tryd.sizeOf5
 v5:=Tryd.zeroValue5
 t9:=Tryd.underlying9
 a9:=Tryd.isAgg9
 z9:=Tryd.sizeOf9
 v9:=Tryd.zeroValue9
 t20:=Tryd.underlying20
 a20:=Tryd.isAgg20
 z20:=Tryd.sizeOf20
 v20:=Tryd.zeroValue20
 t37:=Tryd.underlying52
 a37:=Tryd.isAgg52
 z37:=Tryd.sizeOf52
 v37:=Tryd.zeroValue52
 t46:=Tryd.underlying59
 a46:=Tryd.isAgg59
 z46:=Tryd.sizeOf59
 v46:=Tryd.zeroValue59
 t51:=Tryd.underlying93
 a51:=Tryd.isAgg93
 z51:=Tryd.sizeOf93
 v51:=Tryd.zeroValue93
 t53:=Tryd.underlying83
 a53:=Tryd.isAgg83
 z53:=Tryd.sizeOf83
 v53:=Tryd.zeroValue83
 t171:=Tryd.underlying82
 a171:=Tryd.isAgg82
 z171:=Tryd.sizeOf82
 v171:=Tryd.zeroValue82
 t173:=Tryd.underlying86
 a173:=Tryd.isAgg86
 z173:=Tryd.sizeOf86
 v173:=Tryd.zeroValue86
 t212:=Tryd.underlying92
 a212:=Tryd.isAgg92
 z212:=Tryd.sizeOf92
 v212:=Tryd.zeroValue92
 t213:=Tryd.underlying94
 a213:=Tryd.isAgg94
 z213:=Tryd.sizeOf94
 t232:=Tryd.underlying97
 a232:=Tryd.isAgg97
 z232:=Tryd.sizeOf97
 v232:=Tryd.zeroValue97
 t233:=Tryd.underlying98
 a233:=Tryd.isAgg98
 z233:=Tryd.sizeOf98
 v233:=Tryd.zeroValue98
 g17:=by kernel_rfl
 g18:=by kernel_rfl
 g19:=by kernel_rfl
 i0:=by kernel_rfl
 i2:=by kernel_rfl
 i3:=by kernel_rfl
 i4:=by kernel_rfl
 i5:=by kernel_rfl
 i9:=by kernel_rfl
 i20:=by kernel_rfl
 i37:=by kernel_rfl
 i46:=by kernel_rfl
 i51:=by kernel_rfl
 i53:=by kernel_rfl
 i171:=by kernel_rfl
 i173:=by kernel_rfl
 i212:=by kernel_rfl
 i232:=by kernel_rfl
 i233:=by kernel_rfl
 m17:=by kernel_rfl
 m18:=by kernel_rfl
 m19:=by kernel_rfl}
open Go.RowKit Go.Sort Go.Lib in
theorem Tryd.internal_strconv_Itoa(n:Int)(h0: -9223372036854775808≤n)(h1:n≤9223372036854775807)(w:World)(htab:Lib.TabIs Tryd.prog w "internal/strconv.uint64pow10" .u64 Lib.pow10Tab):
  Calls Tryd.prog 51 #[.int .i64 n] w fun e w'=>e= .returned (.string ⟨(Lib.itoa n).toArray⟩)∧∃k os,w'=grow (w.drewN k) os:=Any.internal_strconv_Itoa Tryd.laysM243 n h0 h1 w htab
def Tryd.lays243_ren:Go.Shelf.Ren:=⟨fun|243=>51|246=>60|283=>66|284=>67|285=>68|286=>69|129=>73|317=>72|318=>74|319=>75|320=>76|337=>77|338=>78|n=>n,fun|3=>3|9=>9|2=>2|4=>4|171=>82|0=>0|53=>83|37=>52|5=>5|173=>86|212=>92|51=>93|20=>20|213=>94|46=>59|232=>97|233=>98|n=>n,fun|17=>1|18=>2|19=>3|n=>n⟩
theorem Tryd.lays243:Go.Proofs.Lays.n243 Tryd.prog Tryd.lays243_ren:={
 mixed:=by kernel_rfl
 f129:=Tryd.func73.trans (congrArg some (by kernel_rfl))
 f243:=Tryd.func51.trans (congrArg some (by kernel_rfl))
 f246:=Tryd.func60.trans (congrArg some (by kernel_rfl))
 f283:=Tryd.func66.trans (congrArg some (by kernel_rfl))
 f284:=Tryd.func67.trans (congrArg some (by kernel_rfl))
 f285:=Tryd.func68.trans (congrArg some (by kernel_rfl))
 f286:=Tryd.func69.trans (congrArg some (by kernel_rfl))
 f317:=Tryd.func72.trans (congrArg some (by kernel_rfl))
 f318:=Tryd.func74.trans (congrArg some (by kernel_rfl))
 f319:=Tryd.func75.trans (congrArg some (by kernel_rfl))
 f320:=Tryd.func76.trans (congrArg some (by kernel_rfl))
 f337:=Tryd.func77.trans (congrArg some (by kernel_rfl))
 f338:=Tryd.func78.trans (congrArg some (by kernel_rfl))
 t0:=Tryd.underlying0
 a0:=Tryd.isAgg0
 z0:=Tryd.sizeOf0
 v0:=Tryd.zeroValue0
 t2:=Tryd.underlying2
 a2:=Tryd.isAgg2
 z2:=Tryd.sizeOf2
 v2:=Tryd.zeroValue2
 t3:=Tryd.underlying3
 a3:=Tryd.isAgg3
 z3:=Tryd.sizeOf3
 v3:=Tryd.zeroValue3
 t4:=Tryd.underlying4
 a4:=Tryd.isAgg4
 z4:=Tryd.sizeOf4
 v4:=Tryd.zeroValue4
 t5:=Tryd.underlying5
 a5:=Tryd.isAgg5
 z5:=Tryd.sizeOf5
 v5:=Tryd.zeroValue5
 t9:=Tryd.underlying9
 a9:=Tryd.isAgg9
 z9:=Tryd.sizeOf9
 v9:=Tryd.zeroValue9
 t20:=Tryd.underlying20
 a20:=Tryd.isAgg20
 z20:=Tryd.sizeOf20
 v20:=Tryd.zeroValue20
 t37:=Tryd.underlying52
 a37:=Tryd.isAgg52
 z37:=Tryd.sizeOf52
 v37:=Tryd.zeroValue52
 t46:=Tryd.underlying59
 a46:=Tryd.isAgg59
 z46:=Tryd.sizeOf59
 v46:=Tryd.zeroValue59
 t51:=Tryd.underlying93
 a51:=Tryd.isAgg93
 z51:=Tryd.sizeOf93
 v51:=Tryd.zeroValue93
 t53:=Tryd.underlying83
 a53:=Tryd.isAgg83
 z53:=Tryd.sizeOf83
 v53:=Tryd.zeroValue83
 t171:=Tryd.underlying82
 a171:=Tryd.isAgg82
 z171:=Tryd.sizeOf82
 v171:=Tryd.zeroValue82
 t173:=Tryd.underlying86
 a173:=Tryd.isAgg86
 z173:=Tryd.sizeOf86
 v173:=Tryd.zeroValue86
 t212:=Tryd.underlying92
 a212:=Tryd.isAgg92
 z212:=Tryd.sizeOf92
 v212:=Tryd.zeroValue92
 t213:=Tryd.underlying94
 a213:=Tryd.isAgg94
 z213:=Tryd.sizeOf94
 t232:=Tryd.underlying97
 a232:=Tryd.isAgg97
 z232:=Tryd.sizeOf97
 v232:=Tryd.zeroValue97
 t233:=Tryd.underlying98
 a233:=Tryd.isAgg98
 z233:=Tryd.sizeOf98
 v233:=Tryd.zeroValue98
 g17:=by kernel_rfl
 g18:=by kernel_rfl
 g19:=by kernel_rfl}
open Go.RowKit Go.Sort Go.Lib in
theorem Tryd.internal_strconv_Itoa_small(i:Nat)(hi:i<100)(w:World):
  Calls Tryd.prog 51 #[.int .i64 i] w fun e w'=>e= .returned (.string ⟨(Lib.decDigits i).toArray⟩)∧w'=w:=Any.internal_strconv_Itoa_small Tryd.lays243 i hi w
def Tryd.laysM171_ren:Go.Shelf.Ren:=⟨fun|171=>46|243=>51|246=>60|283=>66|284=>67|285=>68|286=>69|129=>73|317=>72|318=>74|319=>75|320=>76|337=>77|338=>78|n=>n,fun|3=>3|9=>9|2=>2|4=>4|171=>82|0=>0|53=>83|37=>52|5=>5|173=>86|212=>92|51=>93|20=>20|213=>94|46=>59|232=>97|233=>98|n=>n,fun|17=>1|18=>2|19=>3|n=>n⟩
theorem Tryd.laysM171:Go.Proofs.LaysM.n171 Tryd.prog Tryd.laysM171_ren:={
 mixed:=by kernel_rfl
 f129:=Tryd.func73.trans (congrArg some (by kernel_rfl))
 f171:=Tryd.func46.trans (congrArg some (by kernel_rfl))
 f243:=Tryd.func51.trans (congrArg some (by kernel_rfl))
 f246:=Tryd.func60.trans (congrArg some (by kernel_rfl))
 f283:=Tryd.func66.trans (congrArg some (by kernel_rfl))
 f284:=Tryd.func67.trans (congrArg some (by kernel_rfl))
 f285:=Tryd.func68.trans (congrArg some (by kernel_rfl))
 f286:=Tryd.func69.trans (congrArg some (by kernel_rfl))
 f317:=Tryd.func72.trans (congrArg some (by kernel_rfl))
 f318:=Tryd.func74.trans (congrArg some (by kernel_rfl))
 f319:=Tryd.func75.trans (congrArg some (by kernel_rfl))
 f320:=Tryd.func76.trans (congrArg some (by kernel_rfl))
 f337:=Tryd.func77.trans (congrArg some (by kernel_rfl))
 f338:=Tryd.func78.trans (congrArg some (by kernel_rfl))
 t0:=Tryd.underlying0
 a0:=Tryd.isAgg0
 z0:=Tryd.sizeOf0
 v0:=Tryd.zeroValue0
 t2:=Tryd.underlying2
 a2:=Tryd.isAgg2
 z2:=Tryd.sizeOf2
 v2:=Tryd.zeroValue2
 t3:=Tryd.underlying3
 a3:=Tryd.isAgg3
 z3:=Tryd.sizeOf3
 v3:=Tryd.zeroValue3
 t4:=Tryd.underlying4
 a4:=Tryd.isAgg4
 z4:=Tryd.sizeOf4
 v4:=Tryd.zeroValue4
 t5:=Tryd.underlying5
 a5:=Tryd.isAgg5
 z5:=Tryd.sizeOf5
 v5:=Tryd.zeroValue5
 t9:=Tryd.underlying9
 a9:=Tryd.isAgg9
 z9:=Tryd.sizeOf9
 v9:=Tryd.zeroValue9
 t20:=Tryd.underlying20
 a20:=Tryd.isAgg20
 z20:=Tryd.sizeOf20
 v20:=Tryd.zeroValue20
 t37:=Tryd.underlying52
 a37:=Tryd.isAgg52
 z37:=Tryd.sizeOf52
 v37:=Tryd.zeroValue52
 t46:=Tryd.underlying59
 a46:=Tryd.isAgg59
 z46:=Tryd.sizeOf59
 v46:=Tryd.zeroValue59
 t51:=Tryd.underlying93
 a51:=Tryd.isAgg93
 z51:=Tryd.sizeOf93
 v51:=Tryd.zeroValue93
 t53:=Tryd.underlying83
 a53:=Tryd.isAgg83
 z53:=Tryd.sizeOf83
 v53:=Tryd.zeroValue83
 t171:=Tryd.underlying82
 a171:=Tryd.isAgg82
 z171:=Tryd.sizeOf82
 v171:=Tryd.zeroValue82
 t173:=Tryd.underlying86
 a173:=Tryd.isAgg86
 z173:=Tryd.sizeOf86
 v173:=Tryd.zeroValue86
 t212:=Tryd.underlying92
 a212:=Tryd.isAgg92
 z212:=Tryd.sizeOf92
 v212:=Tryd.zeroValue92
 t213:=Tryd.underlying94
 a213:=Tryd.isAgg94
 z213:=Tryd.sizeOf94
 t232:=Tryd.underlying97
 a232:=Tryd.isAgg97
 z232:=Tryd.sizeOf97
 v232:=Tryd.zeroValue97
 t233:=Tryd.underlying98
 a233:=Tryd.isAgg98
 z233:=Tryd.sizeOf98
 v233:=Tryd.zeroValue98
 g17:=by kernel_rfl
 g18:=by kernel_rfl
 g19:=by kernel_rfl
 i0:=by kernel_rfl
 i2:=by kernel_rfl
 i3:=by kernel_rfl
 i4:=by kernel_rfl
 i5:=by kernel_rfl
 i9:=by kernel_rfl
 i20:=by kernel_rfl
 i37:=by kernel_rfl
 i46:=by kernel_rfl
 i51:=by kernel_rfl
 i53:=by kernel_rfl
 i171:=by kernel_rfl
 i173:=by kernel_rfl
 i212:=by kernel_rfl
 i232:=by kernel_rfl
 i233:=by kernel_rfl
 m17:=by kernel_rfl
 m18:=by kernel_rfl
 m19:=by kernel_rfl}
open Go.RowKit Go.Sort Go.Lib in
theorem Tryd.strconv_Itoa(n:Int)(h0: -9223372036854775808≤n)(h1:n≤9223372036854775807)(w:World)(htab:Lib.TabIs Tryd.prog w "internal/strconv.uint64pow10" .u64 Lib.pow10Tab):
  Calls Tryd.prog 46 #[.int .i64 n] w fun e w'=>e= .returned (.string ⟨(Lib.itoa n).toArray⟩)∧∃k os,w'=grow (w.drewN k) os:=Any.strconv_Itoa Tryd.laysM171 n h0 h1 w htab
def Tryd.lays171_ren:Go.Shelf.Ren:=⟨fun|171=>46|243=>51|246=>60|283=>66|284=>67|285=>68|286=>69|129=>73|317=>72|318=>74|319=>75|320=>76|337=>77|338=>78|n=>n,fun|3=>3|9=>9|2=>2|4=>4|171=>82|0=>0|53=>83|37=>52|5=>5|173=>86|212=>92|51=>93|20=>20|213=>94|46=>59|232=>97|233=>98|n=>n,fun|17=>1|18=>2|19=>3|n=>n⟩
theorem Tryd.lays171:Go.Proofs.Lays.n171 Tryd.prog Tryd.lays171_ren:={
 mixed:=by kernel_rfl
 f129:=Tryd.func73.trans (congrArg some (by kernel_rfl))
 f171:=Tryd.func46.trans (congrArg some (by kernel_rfl))
 f243:=Tryd.func51.trans (congrArg some (by kernel_rfl))
 f246:=Tryd.func60.trans (congrArg some (by kernel_rfl))
 f283:=Tryd.func66.trans (congrArg some (by kernel_rfl))
 f284:=Tryd.func67.trans (congrArg some (by kernel_rfl))
 f285:=Tryd.func68.trans (congrArg some (by kernel_rfl))
 f286:=Tryd.func69.trans (congrArg some (by kernel_rfl))
 f317:=Tryd.func72.trans (congrArg some (by kernel_rfl))
 f318:=Tryd.func74.trans (congrArg some (by kernel_rfl))
 f319:=Tryd.func75.trans (congrArg some (by kernel_rfl))
 f320:=Tryd.func76.trans (congrArg some (by kernel_rfl))
 f337:=Tryd.func77.trans (congrArg some (by kernel_rfl))
 f338:=Tryd.func78.trans (congrArg some (by kernel_rfl))
 t0:=Tryd.underlying0
 a0:=Tryd.isAgg0
 z0:=Tryd.sizeOf0
 v0:=Tryd.zeroValue0
 t2:=Tryd.underlying2
 a2:=Tryd.isAgg2
 z2:=Tryd.sizeOf2
 v2:=Tryd.zeroValue2
 t3:=Tryd.underlying3
 a3:=Tryd.isAgg3
 z3:=Tryd.sizeOf3
 v3:=Tryd.zeroValue3
 t4:=Tryd.underlying4
 a4:=Tryd.isAgg4
 z4:=Tryd.sizeOf4
 v4:=Tryd.zeroValue4
 t5:=Tryd.underlying5
 a5:=Tryd.isAgg5
 z5:=Tryd.sizeOf5
 v5:=Tryd.zeroValue5
 t9:=Tryd.underlying9
 a9:=Tryd.isAgg9
 z9:=Tryd.sizeOf9
 v9:=Tryd.zeroValue9
 t20:=Tryd.underlying20
 a20:=Tryd.isAgg20
 z20:=Tryd.sizeOf20
 v20:=Tryd.zeroValue20
 t37:=Tryd.underlying52
 a37:=Tryd.isAgg52
 z37:=Tryd.sizeOf52
 v37:=Tryd.zeroValue52
 t46:=Tryd.underlying59
 a46:=Tryd.isAgg59
 z46:=Tryd.sizeOf59
 v46:=Tryd.zeroValue59
 t51:=Tryd.underlying93
 a51:=Tryd.isAgg93
 z51:=Tryd.sizeOf93
 v51:=Tryd.zeroValue93
 t53:=Tryd.underlying83
 a53:=Tryd.isAgg83
 z53:=Tryd.sizeOf83
 v53:=Tryd.zeroValue83
 t171:=Tryd.underlying82
 a171:=Tryd.isAgg82
 z171:=Tryd.sizeOf82
 v171:=Tryd.zeroValue82
 t173:=Tryd.underlying86
 a173:=Tryd.isAgg86
 z173:=Tryd.sizeOf86
 v173:=Tryd.zeroValue86
 t212:=Tryd.underlying92
 a212:=Tryd.isAgg92
 z212:=Tryd.sizeOf92
 v212:=Tryd.zeroValue92
 t213:=Tryd.underlying94
 a213:=Tryd.isAgg94
 z213:=Tryd.sizeOf94
 t232:=Tryd.underlying97
 a232:=Tryd.isAgg97
 z232:=Tryd.sizeOf97
 v232:=Tryd.zeroValue97
 t233:=Tryd.underlying98
 a233:=Tryd.isAgg98
 z233:=Tryd.sizeOf98
 v233:=Tryd.zeroValue98
 g17:=by kernel_rfl
 g18:=by kernel_rfl
 g19:=by kernel_rfl}
open Go.RowKit Go.Sort Go.Lib in
theorem Tryd.strconv_Itoa_small(i:Nat)(hi:i<100)(w:World):
  Calls Tryd.prog 46 #[.int .i64 i] w fun e w'=>e= .returned (.string ⟨(Lib.decDigits i).toArray⟩)∧w'=w:=Any.strconv_Itoa_small Tryd.lays171 i hi w
def Tryd.lays217_ren:Go.Shelf.Ren:=⟨fun|217=>48|266=>55|n=>n,fun|9=>9|5=>5|3=>3|n=>n,fun|n=>n⟩
theorem Tryd.lays217:Go.Proofs.Lays.n217 Tryd.prog Tryd.lays217_ren:={
 mixed:=by kernel_rfl
 f217:=Tryd.func48.trans (congrArg some (by kernel_rfl))
 f266:=Tryd.func55.trans (congrArg some (by kernel_rfl))
 t3:=Tryd.underlying3
 a3:=Tryd.isAgg3
 z3:=Tryd.sizeOf3
 v3:=Tryd.zeroValue3
 t5:=Tryd.underlying5
 a5:=Tryd.isAgg5
 z5:=Tryd.sizeOf5
 v5:=Tryd.zeroValue5
 t9:=Tryd.underlying9
 a9:=Tryd.isAgg9
 z9:=Tryd.sizeOf9
 v9:=Tryd.zeroValue9}
open Go.RowKit Go.Lib in
theorem Tryd.stringslite_IndexByte(s:ByteArray)(c:Int)(w:World):
  Calls Tryd.prog 48 #[.string s,.int .u8 c] w fun e w'=>e= .returned (.int .i64 (Lib.indexByte s.data.toList c.toNat.toUInt8))∧w'=w:=Any.stringslite_IndexByte Tryd.lays217 s c w
def Tryd.lays224_ren:Go.Shelf.Ren:=⟨fun|224=>64|n=>n,fun|3=>3|n=>n,fun|n=>n⟩
theorem Tryd.lays224:Go.Proofs.Lays.n224 Tryd.prog Tryd.lays224_ren:={
 mixed:=by kernel_rfl
 f224:=Tryd.func64.trans (congrArg some (by kernel_rfl))
 t3:=Tryd.underlying3
 a3:=Tryd.isAgg3
 z3:=Tryd.sizeOf3
 v3:=Tryd.zeroValue3}
open Go.RowKit Go.Lib in
theorem Tryd.bytealg_Cutover(n:Int)(h0:0≤n)(h1:n<4611686018427387904)(w:World):
  Calls Tryd.prog 64 #[.int .i64 n] w fun e w'=>e= .returned (.int .i64 ((n+16) / 8))∧w'=w:=Any.bytealg_Cutover Tryd.lays224 n h0 h1 w
def Tryd.lays152_ren:Go.Shelf.Ren:=⟨fun|152=>56|137=>41|119=>63|224=>64|225=>65|217=>48|266=>55|n=>n,fun|9=>9|21=>21|3=>3|4=>4|5=>5|0=>0|46=>59|n=>n,fun|n=>n⟩
theorem Tryd.lays152:Go.Proofs.Lays.n152 Tryd.prog Tryd.lays152_ren:={
 mixed:=by kernel_rfl
 f119:=Tryd.func63.trans (congrArg some (by kernel_rfl))
 f137:=Tryd.func41.trans (congrArg some (by kernel_rfl))
 f152:=Tryd.func56.trans (congrArg some (by kernel_rfl))
 f217:=Tryd.func48.trans (congrArg some (by kernel_rfl))
 f224:=Tryd.func64.trans (congrArg some (by kernel_rfl))
 f225:=Tryd.func65.trans (congrArg some (by kernel_rfl))
 f266:=Tryd.func55.trans (congrArg some (by kernel_rfl))
 t0:=Tryd.underlying0
 a0:=Tryd.isAgg0
 z0:=Tryd.sizeOf0
 v0:=Tryd.zeroValue0
 t3:=Tryd.underlying3
 a3:=Tryd.isAgg3
 z3:=Tryd.sizeOf3
 v3:=Tryd.zeroValue3
 t4:=Tryd.underlying4
 a4:=Tryd.isAgg4
 z4:=Tryd.sizeOf4
 v4:=Tryd.zeroValue4
 t5:=Tryd.underlying5
 a5:=Tryd.isAgg5
 z5:=Tryd.sizeOf5
 v5:=Tryd.zeroValue5
 t9:=Tryd.underlying9
 a9:=Tryd.isAgg9
 z9:=Tryd.sizeOf9
 v9:=Tryd.zeroValue9
 t21:=Tryd.underlying21
 a21:=Tryd.isAgg21
 z21:=Tryd.sizeOf21
 v21:=Tryd.zeroValue21
 t46:=Tryd.underlying59
 a46:=Tryd.isAgg59
 z46:=Tryd.sizeOf59
 v46:=Tryd.zeroValue59}
open Go.RowKit Go.Lib in
theorem Tryd.strings_IndexRune_ascii(s:ByteArray)(r:Int)(w:World)(h0:0≤r)(h1:r<128):
  Calls Tryd.prog 56 #[.string s,.int .i32 r] w fun e w'=>e= .returned (.int .i64 (Lib.indexByte s.data.toList r.toNat.toUInt8))∧w'=w:=Any.strings_IndexRune_ascii Tryd.lays152 s r w h0 h1
def Tryd.lays226_ren:Go.Shelf.Ren:=⟨fun|226=>57|n=>n,fun|3=>3|4=>4|n=>n,fun|n=>n⟩
theorem Tryd.lays226:Go.Proofs.Lays.n226 Tryd.prog Tryd.lays226_ren:={
 mixed:=by kernel_rfl
 f226:=Tryd.func57.trans (congrArg some (by kernel_rfl))
 t3:=Tryd.underlying3
 a3:=Tryd.isAgg3
 z3:=Tryd.sizeOf3
 v3:=Tryd.zeroValue3
 t4:=Tryd.underlying4
 a4:=Tryd.isAgg4
 z4:=Tryd.sizeOf4
 v4:=Tryd.zeroValue4}
open Go.RowKit Go.Lib in
theorem Tryd.strings_shouldUseASCIISet(n:Int)(w:World):
  Calls Tryd.prog 57 #[.int .i64 n] w fun e w'=>e= .returned (.bool (decide (8<n)))∧w'=w:=Any.strings_shouldUseASCIISet Tryd.lays226 n w
def Tryd.lays153_ren:Go.Shelf.Ren:=⟨fun|153=>49|152=>56|226=>57|227=>58|228=>59|137=>41|119=>63|224=>64|225=>65|217=>48|266=>55|n=>n,fun|9=>9|3=>3|4=>4|5=>5|21=>21|117=>74|116=>73|0=>0|46=>59|124=>81|n=>n,fun|n=>n⟩
theorem Tryd.lays153:Go.Proofs.Lays.n153 Tryd.prog Tryd.lays153_ren:={
 mixed:=by kernel_rfl
 f119:=Tryd.func63.trans (congrArg some (by kernel_rfl))
 f137:=Tryd.func41.trans (congrArg some (by kernel_rfl))
 f152:=Tryd.func56.trans (congrArg some (by kernel_rfl))
 f153:=Tryd.func49.trans (congrArg some (by kernel_rfl))
 f217:=Tryd.func48.trans (congrArg some (by kernel_rfl))
 f224:=Tryd.func64.trans (congrArg some (by kernel_rfl))
 f225:=Tryd.func65.trans (congrArg some (by kernel_rfl))
 f226:=Tryd.func57.trans (congrArg some (by kernel_rfl))
 f227:=Tryd.func58.trans (congrArg some (by kernel_rfl))
 f228:=Tryd.func59.trans (congrArg some (by kernel_rfl))
 f266:=Tryd.func55.trans (congrArg some (by kernel_rfl))
 t0:=Tryd.underlying0
 a0:=Tryd.isAgg0
 z0:=Tryd.sizeOf0
 v0:=Tryd.zeroValue0
 t3:=Tryd.underlying3
 a3:=Tryd.isAgg3
 z3:=Tryd.sizeOf3
 v3:=Tryd.zeroValue3
 t4:=Tryd.underlying4
 a4:=Tryd.isAgg4
 z4:=Tryd.sizeOf4
 v4:=Tryd.zeroValue4
 t5:=Tryd.underlying5
 a5:=Tryd.isAgg5
 z5:=Tryd.sizeOf5
 v5:=Tryd.zeroValue5
 t9:=Tryd.underlying9
 a9:=Tryd.isAgg9
 z9:=Tryd.sizeOf9
 v9:=Tryd.zeroValue9
 t21:=Tryd.underlying21
 a21:=Tryd.isAgg21
 z21:=Tryd.sizeOf21
 v21:=Tryd.zeroValue21
 t46:=Tryd.underlying59
 a46:=Tryd.isAgg59
 z46:=Tryd.sizeOf59
 v46:=Tryd.zeroValue59
 t116:=Tryd.underlying73
 a116:=Tryd.isAgg73
 z116:=Tryd.sizeOf73
 t117:=Tryd.underlying74
 a117:=Tryd.isAgg74
 z117:=Tryd.sizeOf74
 v117:=Tryd.zeroValue74
 t124:=Tryd.underlying81
 a124:=Tryd.isAgg81
 z124:=Tryd.sizeOf81
 v124:=Tryd.zeroValue81}
open Go.RowKit Go.Lib in
theorem Tryd.strings_IndexAny_none(s chars:ByteArray)(w:World)(h0:chars.size=0):
  Calls Tryd.prog 49 #[.string s,.string chars] w fun e w'=>e= .returned (.int .i64 (Lib.indexAny s.data.toList chars.data.toList))∧w'=w:=Any.strings_IndexAny_none Tryd.lays153 s chars w h0
open Go.RowKit Go.Lib in
theorem Tryd.strings_IndexAny_one(s chars:ByteArray)(w:World)(h1:chars.size=1)(hascii:∀(j:Nat) b,chars.data.toList[j]? =some b→b.toNat<128):
  Calls Tryd.prog 49 #[.string s,.string chars] w fun e w'=>e= .returned (.int .i64 (Lib.indexAny s.data.toList chars.data.toList))∧w'=w:=Any.strings_IndexAny_one Tryd.lays153 s chars w h1 hascii
open Go.RowKit Go.Lib in
theorem Tryd.strings_IndexAny_short(s chars:ByteArray)(w:World)(h2:2≤chars.size)(h8:s.size≤8)(hascii:∀(j:Nat) b,s.data.toList[j]? =some b→b.toNat<128):
  Calls Tryd.prog 49 #[.string s,.string chars] w fun e w'=>e= .returned (.int .i64 (Lib.indexAny s.data.toList chars.data.toList))∧∃pos,w'=w.iter s pos:=Any.strings_IndexAny_short Tryd.lays153 s chars w h2 h8 hascii
def Tryd.lays227_ren:Go.Shelf.Ren:=⟨fun|227=>58|n=>n,fun|9=>9|116=>73|4=>4|0=>0|3=>3|5=>5|n=>n,fun|n=>n⟩
theorem Tryd.lays227:Go.Proofs.Lays.n227 Tryd.prog Tryd.lays227_ren:={
 mixed:=by kernel_rfl
 f227:=Tryd.func58.trans (congrArg some (by kernel_rfl))
 t0:=Tryd.underlying0
 a0:=Tryd.isAgg0
 z0:=Tryd.sizeOf0
 v0:=Tryd.zeroValue0
 t3:=Tryd.underlying3
 a3:=Tryd.isAgg3
 z3:=Tryd.sizeOf3
 v3:=Tryd.zeroValue3
 t4:=Tryd.underlying4
 a4:=Tryd.isAgg4
 z4:=Tryd.sizeOf4
 v4:=Tryd.zeroValue4
 t5:=Tryd.underlying5
 a5:=Tryd.isAgg5
 z5:=Tryd.sizeOf5
 v5:=Tryd.zeroValue5
 t9:=Tryd.underlying9
 a9:=Tryd.isAgg9
 z9:=Tryd.sizeOf9
 v9:=Tryd.zeroValue9
 t116:=Tryd.underlying73
 a116:=Tryd.isAgg73
 z116:=Tryd.sizeOf73}
open Go.RowKit Go.Lib in
theorem Tryd.strings_makeASCIISet(hv116:∀w,(zeroValue 73).run Tryd.prog w= .ok (.agg (Array.replicate 256 (.bool false))) w)(chars:ByteArray)(w:World)(hs:chars.size<4294967281)(hascii:∀(j:Nat) b,chars.data.toList[j]? =some b→b.toNat<128):
  Calls Tryd.prog 58 #[.string chars] w fun e w'=>e= .returned (.tuple #[.agg (Lib.setCells chars.data.toList),.bool true])∧w'=w.alloc (.cells (Lib.setCells chars.data.toList) 73):=Any.strings_makeASCIISet Tryd.lays227 hv116 (by kernel_rfl) chars w hs hascii
def Tryd.lays228_ren:Go.Shelf.Ren:=⟨fun|228=>59|n=>n,fun|124=>81|5=>5|4=>4|0=>0|116=>73|n=>n,fun|n=>n⟩
theorem Tryd.lays228:Go.Proofs.Lays.n228 Tryd.prog Tryd.lays228_ren:={
 mixed:=by kernel_rfl
 f228:=Tryd.func59.trans (congrArg some (by kernel_rfl))
 t0:=Tryd.underlying0
 a0:=Tryd.isAgg0
 z0:=Tryd.sizeOf0
 v0:=Tryd.zeroValue0
 t4:=Tryd.underlying4
 a4:=Tryd.isAgg4
 z4:=Tryd.sizeOf4
 v4:=Tryd.zeroValue4
 t5:=Tryd.underlying5
 a5:=Tryd.isAgg5
 z5:=Tryd.sizeOf5
 v5:=Tryd.zeroValue5
 t116:=Tryd.underlying73
 a116:=Tryd.isAgg73
 z116:=Tryd.sizeOf73
 t124:=Tryd.underlying81
 a124:=Tryd.isAgg81
 z124:=Tryd.sizeOf81
 v124:=Tryd.zeroValue81}
open Go.RowKit Go.Lib in
theorem Tryd.asciiSet_contains(b:Nat)(x:UInt8)(v:Bool)(w:World)(hc:w.cell? ⟨b,x.toNat,none⟩=some (.bool v)):
  Calls Tryd.prog 59 #[.pointer (some ⟨b,0,none⟩),.int .u8 x.toNat] w fun e w'=>e= .returned (.bool v)∧w'=w:=Any.asciiSet_contains Tryd.lays228 b x v w hc
open Go.RowKit Go.Lib in
theorem Tryd.strings_IndexAny_long(hv116:∀w,(zeroValue 73).run Tryd.prog w= .ok (.agg (Array.replicate 256 (.bool false))) w)(s chars:ByteArray)(w:World)(h2:2≤chars.size)(h8:8<s.size)(hs:s.size<4294967281)(hcs:chars.size<4294967281)(hascii:∀(j:Nat) b,chars.data.toList[j]? =some b→b.toNat<128):
  Calls Tryd.prog 49 #[.string s,.string chars] w fun e w'=>e= .returned (.int .i64 (Lib.indexAny s.data.toList chars.data.toList))∧w'=((w.alloc (.cells (Lib.setCells chars.data.toList) 73)).alloc (.cells (Lib.setCells chars.data.toList) 73)):=Any.strings_IndexAny_long Tryd.lays153 hv116 (by kernel_rfl) s chars w h2 h8 hs hcs hascii
open Go.RowKit Go.Lib in
theorem Tryd.strings_IndexAny(hv116:∀w,(zeroValue 73).run Tryd.prog w= .ok (.agg (Array.replicate 256 (.bool false))) w)(s chars:ByteArray)(w:World)(hs:s.size<4294967281)(hcs:chars.size<4294967281)(has:∀(j:Nat) b,s.data.toList[j]? =some b→b.toNat<128)(hac:∀(j:Nat) b,chars.data.toList[j]? =some b→b.toNat<128):
  Calls Tryd.prog 49 #[.string s,.string chars] w fun e w'=>e= .returned (.int .i64 (Lib.indexAny s.data.toList chars.data.toList))∧Below w.heap.size w w':=Any.strings_IndexAny Tryd.lays153 hv116 (by kernel_rfl) s chars w hs hcs has hac
def Tryd.lays150_ren:Go.Shelf.Ren:=⟨fun|150=>42|153=>49|152=>56|226=>57|227=>58|228=>59|137=>41|119=>63|224=>64|225=>65|217=>48|266=>55|n=>n,fun|9=>9|4=>4|3=>3|5=>5|21=>21|117=>74|116=>73|0=>0|46=>59|124=>81|n=>n,fun|n=>n⟩
theorem Tryd.lays150:Go.Proofs.Lays.n150 Tryd.prog Tryd.lays150_ren:={
 mixed:=by kernel_rfl
 f119:=Tryd.func63.trans (congrArg some (by kernel_rfl))
 f137:=Tryd.func41.trans (congrArg some (by kernel_rfl))
 f150:=Tryd.func42.trans (congrArg some (by kernel_rfl))
 f152:=Tryd.func56.trans (congrArg some (by kernel_rfl))
 f153:=Tryd.func49.trans (congrArg some (by kernel_rfl))
 f217:=Tryd.func48.trans (congrArg some (by kernel_rfl))
 f224:=Tryd.func64.trans (congrArg some (by kernel_rfl))
 f225:=Tryd.func65.trans (congrArg some (by kernel_rfl))
 f226:=Tryd.func57.trans (congrArg some (by kernel_rfl))
 f227:=Tryd.func58.trans (congrArg some (by kernel_rfl))
 f228:=Tryd.func59.trans (congrArg some (by kernel_rfl))
 f266:=Tryd.func55.trans (congrArg some (by kernel_rfl))
 t0:=Tryd.underlying0
 a0:=Tryd.isAgg0
 z0:=Tryd.sizeOf0
 v0:=Tryd.zeroValue0
 t3:=Tryd.underlying3
 a3:=Tryd.isAgg3
 z3:=Tryd.sizeOf3
 v3:=Tryd.zeroValue3
 t4:=Tryd.underlying4
 a4:=Tryd.isAgg4
 z4:=Tryd.sizeOf4
 v4:=Tryd.zeroValue4
 t5:=Tryd.underlying5
 a5:=Tryd.isAgg5
 z5:=Tryd.sizeOf5
 v5:=Tryd.zeroValue5
 t9:=Tryd.underlying9
 a9:=Tryd.isAgg9
 z9:=Tryd.sizeOf9
 v9:=Tryd.zeroValue9
 t21:=Tryd.underlying21
 a21:=Tryd.isAgg21
 z21:=Tryd.sizeOf21
 v21:=Tryd.zeroValue21
 t46:=Tryd.underlying59
 a46:=Tryd.isAgg59
 z46:=Tryd.sizeOf59
 v46:=Tryd.zeroValue59
 t116:=Tryd.underlying73
 a116:=Tryd.isAgg73
 z116:=Tryd.sizeOf73
 t117:=Tryd.underlying74
 a117:=Tryd.isAgg74
 z117:=Tryd.sizeOf74
 v117:=Tryd.zeroValue74
 t124:=Tryd.underlying81
 a124:=Tryd.isAgg81
 z124:=Tryd.sizeOf81
 v124:=Tryd.zeroValue81}
open Go.RowKit Go.Lib in
theorem Tryd.strings_ContainsAny(hv116:∀w,(zeroValue 73).run Tryd.prog w= .ok (.agg (Array.replicate 256 (.bool false))) w)(s chars:ByteArray)(w:World)(hs:s.size<4294967281)(hcs:chars.size<4294967281)(has:∀(j:Nat) b,s.data.toList[j]? =some b→b.toNat<128)(hac:∀(j:Nat) b,chars.data.toList[j]? =some b→b.toNat<128):
  Calls Tryd.prog 42 #[.string s,.string chars] w fun e w'=>e= .returned (.bool (Lib.containsAny s.data.toList chars.data.toList))∧Below w.heap.size w w':=Any.strings_ContainsAny Tryd.lays150 hv116 (by kernel_rfl) s chars w hs hcs has hac
open Go.RowKit Go.Lib in
theorem Tryd.strings_IndexAny_laid(s chars:ByteArray)(w:World)(hs:s.size<4294967281)(hcs:chars.size<4294967281)(has:∀(j:Nat) b,s.data.toList[j]? =some b→b.toNat<128)(hac:∀(j:Nat) b,chars.data.toList[j]? =some b→b.toNat<128):
  Calls Tryd.prog 49 #[.string s,.string chars] w fun e w'=>e= .returned (.int .i64 (Lib.indexAny s.data.toList chars.data.toList))∧Below w.heap.size w w':=Any.strings_IndexAny_laid Tryd.lays153 (by kernel_rfl) s chars w hs hcs has hac
open Go.RowKit Go.Lib in
theorem Tryd.strings_ContainsAny_laid(s chars:ByteArray)(w:World)(hs:s.size<4294967281)(hcs:chars.size<4294967281)(has:∀(j:Nat) b,s.data.toList[j]? =some b→b.toNat<128)(hac:∀(j:Nat) b,chars.data.toList[j]? =some b→b.toNat<128):
  Calls Tryd.prog 42 #[.string s,.string chars] w fun e w'=>e= .returned (.bool (Lib.containsAny s.data.toList chars.data.toList))∧Below w.heap.size w w':=Any.strings_ContainsAny_laid Tryd.lays150 (by kernel_rfl) s chars w hs hcs has hac
def Tryd.laysNm237_ren:Go.Shelf.Ren:=⟨fun|37=>50|n=>n,fun|3=>3|4=>4|n=>n,fun|n=>n⟩
theorem Tryd.laysNm237:Go.Proofs.Lays2.n37 Tryd.prog Tryd.laysNm237_ren:={
 mixed:=by kernel_rfl
 f37:=Tryd.func50.trans (congrArg some (by kernel_rfl))
 t3:=Tryd.underlying3
 a3:=Tryd.isAgg3
 z3:=Tryd.sizeOf3
 v3:=Tryd.zeroValue3
 t4:=Tryd.underlying4
 a4:=Tryd.isAgg4
 z4:=Tryd.sizeOf4
 v4:=Tryd.zeroValue4}
open Go.RowKit Go.Lib in
theorem Tryd.cmp_isNaN_int2(x:Int)(w:World):
  Calls Tryd.prog 50 #[.int .i64 x] w fun e w'=>e= .returned (.bool false)∧w'=w:=Any.cmp_isNaN_int2 Tryd.laysNm237 x w
end Go.Proofs

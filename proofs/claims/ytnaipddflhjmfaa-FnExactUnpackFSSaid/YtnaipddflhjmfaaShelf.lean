/-
  DERIVED: THE SHELF's CONTRACTS AT THIS DUMP, IN PLAIN WORDS (tools/lay-plain.mjs out of 'TryShelf.lean', which tools/lay-shelf.mjs wrote): THE SAME DECLARATIONS UNDER THE SAME NAMES: 'import', 'namespace', 'open', 'def', 'theorem' AND NOTHING ELSE: no command of the shelf's: FOR A HAND-IN. Each laying: the table of numbers ('.._ren') and one theorem, a field a fact of the dump's own or the kernel's comparison; each contract: ONE APPLICATION.
-/
import Derived.Shelf.Strings.Builder1
import Derived.Shelf.Strings.Builder2
import Derived.Shelf.Strings.OnBuilder
import Derived.Shelf.Small.Wraps
import Derived.Shelf.Strings.BuilderF
import Derived.Shelf.Strings.BuilderK
import Derived.Shelf.Strings.Builder2Cap
import Derived.Shelf.Strings.Prefix
import Derived.Shelf.Bits.Mul64
import Derived.Shelf.Strings.Repeat
import Derived.Shelf.Strings.BuilderCap
import Derived.Shelf.Slices.Turned
import Derived.Shelf.Slices.Equal
import Derived.Ground.Names2Prog
import Derived.Shelf.Slices.Clone
import Derived.Shelf.Slices.SearchI
import Derived.Shelf.Slices.Empties2
import Derived.Ground.SlgnProg
import Derived.Shelf.SlicesE.Clone
import Derived.Test.YtnaipddflhjmfaaProg
namespace Go.Proofs
open Go.Shelf
def Try.lays170_ren:Go.Shelf.Ren:=⟨fun|170=>140|n=>n,fun|70=>140|3=>3|0=>0|72=>142|37=>22|5=>5|n=>n,fun|n=>n⟩
theorem Try.lays170:Go.Proofs.Lays.n170 Try.prog Try.lays170_ren:={
 mixed:=by kernel_rfl
 f170:=Try.func140.trans (congrArg some (by kernel_rfl))
 t0:=Try.underlying0
 a0:=Try.isAgg0
 z0:=Try.sizeOf0
 v0:=Try.zeroValue0
 t3:=Try.underlying3
 a3:=Try.isAgg3
 z3:=Try.sizeOf3
 v3:=Try.zeroValue3
 t37:=Try.underlying22
 a37:=Try.isAgg22
 z37:=Try.sizeOf22
 v37:=Try.zeroValue22
 t70:=Try.underlying140
 a70:=Try.isAgg140
 z70:=Try.sizeOf140
 v70:=Try.zeroValue140
 t72:=Try.underlying142
 a72:=Try.isAgg142
 z72:=Try.sizeOf142
 v72:=Try.zeroValue142}
open Go.RowKit in
theorem Try.Builder_Len(B b:Nat)(bs:List Value)(w:World)(h:Lib.IsBuilder 142 5 B b bs w):
  Calls Try.prog 140 #[.pointer (some ⟨b,0,none⟩)] w fun e w'=>e= .returned (.int .i64 bs.length)∧w'=w:=Any.Builder_Len Try.lays170 B b bs w h
def Try.lays169_ren:Go.Shelf.Ren:=⟨fun|169=>131|n=>n,fun|70=>140|9=>9|0=>0|72=>142|37=>22|127=>155|3=>3|5=>5|n=>n,fun|n=>n⟩
theorem Try.lays169:Go.Proofs.Lays.n169 Try.prog Try.lays169_ren:={
 mixed:=by kernel_rfl
 f169:=Try.func131.trans (congrArg some (by kernel_rfl))
 t0:=Try.underlying0
 a0:=Try.isAgg0
 z0:=Try.sizeOf0
 v0:=Try.zeroValue0
 t3:=Try.underlying3
 a3:=Try.isAgg3
 z3:=Try.sizeOf3
 v3:=Try.zeroValue3
 t9:=Try.underlying9
 a9:=Try.isAgg9
 z9:=Try.sizeOf9
 v9:=Try.zeroValue9
 t37:=Try.underlying22
 a37:=Try.isAgg22
 z37:=Try.sizeOf22
 v37:=Try.zeroValue22
 t70:=Try.underlying140
 a70:=Try.isAgg140
 z70:=Try.sizeOf140
 v70:=Try.zeroValue140
 t72:=Try.underlying142
 a72:=Try.isAgg142
 z72:=Try.sizeOf142
 v72:=Try.zeroValue142
 t127:=Try.underlying155
 a127:=Try.isAgg155
 z127:=Try.sizeOf155
 v127:=Try.zeroValue155}
theorem Try.Builder_Extra_169:Builder.Extra Try.prog Try.lays169_ren:={
 sizeBuilder:=by kernel_rfl
 liesBuilder:=by kernel_rfl
 t5:=Try.underlying5
 a5:=Try.isAgg5
 z5:=Try.sizeOf5
 v5:=Try.zeroValue5
 infoByte:=by kernel_rfl
 cellsByte:=by kernel_rfl
 sizeByte:=by kernel_rfl
 neB5:=by decide}
open Go.RowKit in
theorem Try.Builder_String(B b:Nat)(l:List UInt8)(w:World)(h:Lib.IsBuilder 142 5 B b (Lib.byteCells l) w)(h0:l≠[]):
  Calls Try.prog 131 #[.pointer (some ⟨b,0,none⟩)] w fun e w'=>e= .returned (.string ⟨l.toArray⟩)∧Below B w w':=Any.Builder_String Try.lays169 Try.Builder_Extra_169 B b l w h h0
open Go.RowKit in
theorem Try.Builder_String_empty(B b:Nat)(w:World)(h:Lib.IsBuilder 142 5 B b [] w)(hBw:B≤w.heap.size):
  Calls Try.prog 131 #[.pointer (some ⟨b,0,none⟩)] w fun e w'=>e= .returned (.string ⟨#[]⟩)∧Below B w w':=Any.Builder_String_empty Try.lays169 Try.Builder_Extra_169 B b w h hBw
open Go.RowKit in
theorem Try.Builder_String_any(B b:Nat)(l:List UInt8)(w:World)(h:Lib.IsBuilder 142 5 B b (Lib.byteCells l) w)(hBw:B≤w.heap.size):
  Calls Try.prog 131 #[.pointer (some ⟨b,0,none⟩)] w fun e w'=>e= .returned (.string ⟨l.toArray⟩)∧Below B w w':=Any.Builder_String_any Try.lays169 Try.Builder_Extra_169 B b l w h hBw
def Try.lays241_ren:Go.Shelf.Ren:=⟨fun|241=>143|277=>146|n=>n,fun|70=>140|3=>3|0=>0|72=>142|37=>22|5=>5|n=>n,fun|n=>n⟩
theorem Try.lays241:Go.Proofs.Lays.n241 Try.prog Try.lays241_ren:={
 mixed:=by kernel_rfl
 f241:=Try.func143.trans (congrArg some (by kernel_rfl))
 f277:=Try.func146.trans (congrArg some (by kernel_rfl))
 t0:=Try.underlying0
 a0:=Try.isAgg0
 z0:=Try.sizeOf0
 v0:=Try.zeroValue0
 t3:=Try.underlying3
 a3:=Try.isAgg3
 z3:=Try.sizeOf3
 v3:=Try.zeroValue3
 t37:=Try.underlying22
 a37:=Try.isAgg22
 z37:=Try.sizeOf22
 v37:=Try.zeroValue22
 t70:=Try.underlying140
 a70:=Try.isAgg140
 z70:=Try.sizeOf140
 v70:=Try.zeroValue140
 t72:=Try.underlying142
 a72:=Try.isAgg142
 z72:=Try.sizeOf142
 v72:=Try.zeroValue142}
theorem Try.Builder_Extra_241:Builder.Extra Try.prog Try.lays241_ren:={
 sizeBuilder:=by kernel_rfl
 liesBuilder:=by kernel_rfl
 t5:=Try.underlying5
 a5:=Try.isAgg5
 z5:=Try.sizeOf5
 v5:=Try.zeroValue5
 infoByte:=by kernel_rfl
 cellsByte:=by kernel_rfl
 sizeByte:=by kernel_rfl
 neB5:=by decide}
open Go.RowKit in
theorem Try.Builder_grow_fresh(B b n:Nat)(w:World)(hB:B≤b)(hbk:w.heap[b]? =some (.cells #[.pointer (some ⟨b,0,none⟩),.slice none 0 0] 142 (0,0))) (hBw:B≤w.heap.size) (hn:n≤281474976710656):
  Calls Try.prog 143 #[.pointer (some ⟨b,0,none⟩),.int .i64 n] w fun e w'=>e= .returned (.tuple #[])∧(Lib.BuilderAt 142 5 B b (.pointer (some ⟨b,0,none⟩)) [] w'∧Below B w w'):=Any.Builder_grow_fresh Try.lays241 Try.Builder_Extra_241 B b n w hB hbk hBw hn
def Try.lays165_ren:Go.Shelf.Ren:=⟨fun|165=>129|240=>142|241=>143|276=>145|277=>146|n=>n,fun|70=>140|3=>3|0=>0|4=>4|9=>9|20=>20|72=>142|37=>22|164=>156|5=>5|n=>n,fun|n=>n⟩
theorem Try.lays165:Go.Proofs.Lays.n165 Try.prog Try.lays165_ren:={
 mixed:=by kernel_rfl
 f165:=Try.func129.trans (congrArg some (by kernel_rfl))
 f240:=Try.func142.trans (congrArg some (by kernel_rfl))
 f241:=Try.func143.trans (congrArg some (by kernel_rfl))
 f276:=Try.func145.trans (congrArg some (by kernel_rfl))
 f277:=Try.func146.trans (congrArg some (by kernel_rfl))
 t0:=Try.underlying0
 a0:=Try.isAgg0
 z0:=Try.sizeOf0
 v0:=Try.zeroValue0
 t3:=Try.underlying3
 a3:=Try.isAgg3
 z3:=Try.sizeOf3
 v3:=Try.zeroValue3
 t4:=Try.underlying4
 a4:=Try.isAgg4
 z4:=Try.sizeOf4
 v4:=Try.zeroValue4
 t9:=Try.underlying9
 a9:=Try.isAgg9
 z9:=Try.sizeOf9
 v9:=Try.zeroValue9
 t20:=Try.underlying20
 a20:=Try.isAgg20
 z20:=Try.sizeOf20
 v20:=Try.zeroValue20
 t37:=Try.underlying22
 a37:=Try.isAgg22
 z37:=Try.sizeOf22
 v37:=Try.zeroValue22
 t70:=Try.underlying140
 a70:=Try.isAgg140
 z70:=Try.sizeOf140
 v70:=Try.zeroValue140
 t72:=Try.underlying142
 a72:=Try.isAgg142
 z72:=Try.sizeOf142
 v72:=Try.zeroValue142
 t164:=Try.underlying156
 a164:=Try.isAgg156
 z164:=Try.sizeOf156
 v164:=Try.zeroValue156}
theorem Try.Builder_Extra_165:Builder.Extra Try.prog Try.lays165_ren:={
 sizeBuilder:=by kernel_rfl
 liesBuilder:=by kernel_rfl
 t5:=Try.underlying5
 a5:=Try.isAgg5
 z5:=Try.sizeOf5
 v5:=Try.zeroValue5
 infoByte:=by kernel_rfl
 cellsByte:=by kernel_rfl
 sizeByte:=by kernel_rfl
 neB5:=by decide}
open Go.RowKit in
theorem Try.Builder_Grow_fresh(B b n:Nat)(w:World)(hB:B≤b)(hbk:w.heap[b]? =some (.cells #[.pointer none,.slice none 0 0] 142 (0,0))) (hBw:B≤w.heap.size) (hn:n≤281474976710656):
  Calls Try.prog 129 #[.pointer (some ⟨b,0,none⟩),.int .i64 n] w fun e w'=>e= .returned (.tuple #[])∧(Lib.BuilderAt 142 5 B b (.pointer (some ⟨b,0,none⟩)) [] w'∧Below B w w'):=Any.Builder_Grow_fresh Try.lays165 Try.Builder_Extra_165 B b n w hB hbk hBw hn
def Try.lays156_ren:Go.Shelf.Ren:=⟨fun|156=>99|165=>129|166=>130|169=>131|240=>142|241=>143|276=>145|277=>146|n=>n,fun|31=>25|9=>9|3=>3|4=>4|0=>0|20=>20|72=>142|76=>146|70=>140|37=>22|75=>145|127=>155|164=>156|5=>5|80=>69|n=>n,fun|n=>n⟩
theorem Try.lays156:Go.Proofs.Lays.n156 Try.prog Try.lays156_ren:={
 mixed:=by kernel_rfl
 f156:=Try.func99.trans (congrArg some (by kernel_rfl))
 f165:=Try.func129.trans (congrArg some (by kernel_rfl))
 f166:=Try.func130.trans (congrArg some (by kernel_rfl))
 f169:=Try.func131.trans (congrArg some (by kernel_rfl))
 f240:=Try.func142.trans (congrArg some (by kernel_rfl))
 f241:=Try.func143.trans (congrArg some (by kernel_rfl))
 f276:=Try.func145.trans (congrArg some (by kernel_rfl))
 f277:=Try.func146.trans (congrArg some (by kernel_rfl))
 t0:=Try.underlying0
 a0:=Try.isAgg0
 z0:=Try.sizeOf0
 v0:=Try.zeroValue0
 t3:=Try.underlying3
 a3:=Try.isAgg3
 z3:=Try.sizeOf3
 v3:=Try.zeroValue3
 t4:=Try.underlying4
 a4:=Try.isAgg4
 z4:=Try.sizeOf4
 v4:=Try.zeroValue4
 t9:=Try.underlying9
 a9:=Try.isAgg9
 z9:=Try.sizeOf9
 v9:=Try.zeroValue9
 t20:=Try.underlying20
 a20:=Try.isAgg20
 z20:=Try.sizeOf20
 v20:=Try.zeroValue20
 t31:=Try.underlying25
 a31:=Try.isAgg25
 z31:=Try.sizeOf25
 v31:=Try.zeroValue25
 t37:=Try.underlying22
 a37:=Try.isAgg22
 z37:=Try.sizeOf22
 v37:=Try.zeroValue22
 t70:=Try.underlying140
 a70:=Try.isAgg140
 z70:=Try.sizeOf140
 v70:=Try.zeroValue140
 t72:=Try.underlying142
 a72:=Try.isAgg142
 z72:=Try.sizeOf142
 v72:=Try.zeroValue142
 t75:=Try.underlying145
 a75:=Try.isAgg145
 z75:=Try.sizeOf145
 v75:=Try.zeroValue145
 t76:=Try.underlying146
 a76:=Try.isAgg146
 z76:=Try.sizeOf146
 v76:=Try.zeroValue146
 t127:=Try.underlying155
 a127:=Try.isAgg155
 z127:=Try.sizeOf155
 v127:=Try.zeroValue155
 t164:=Try.underlying156
 a164:=Try.isAgg156
 z164:=Try.sizeOf156
 v164:=Try.zeroValue156}
theorem Try.Builder_Extra_156:Builder.Extra Try.prog Try.lays156_ren:={
 sizeBuilder:=by kernel_rfl
 liesBuilder:=by kernel_rfl
 t5:=Try.underlying5
 a5:=Try.isAgg5
 z5:=Try.sizeOf5
 v5:=Try.zeroValue5
 infoByte:=by kernel_rfl
 cellsByte:=by kernel_rfl
 sizeByte:=by kernel_rfl
 neB5:=by decide}
open Go.RowKit in
theorem Try.strings_Join_none(a:Option Addr)(c:Nat)(sep:ByteArray)(w:World):
  Calls Try.prog 99 #[.slice a 0 c,.string sep] w fun e w'=>e= .returned (.string ⟨#[]⟩)∧w'=w:=Any.strings_Join_none Try.lays156 Try.Builder_Extra_156 a c sep w
open Go.RowKit in
theorem Try.strings_Join(bk o c:Nat)(xs:List ByteArray)(sep:ByteArray)(w:World)(hcells:∀(j:Nat) x,xs[j]? =some x→w.cell? ⟨bk,o+j,none⟩=some (.string x))(hbk:bk<w.heap.size)(hN:xs.length≤140737488355328)(hcap:xs.length≤c)(hlen:(Lib.join (xs.map (·.data.toList)) sep.data.toList).length≤140737488355328):
  Calls Try.prog 99 #[.slice (some ⟨bk,o,none⟩) xs.length c,.string sep] w fun e w'=>e= .returned (.string ⟨(Lib.join (xs.map (·.data.toList)) sep.data.toList).toArray⟩)∧Below w.heap.size w w':=Any.strings_Join Try.lays156 Try.Builder_Extra_156 bk o c xs sep w hcells hbk hN hcap hlen
def Try.lays215_ren:Go.Shelf.Ren:=⟨fun|215=>134|n=>n,fun|3=>3|4=>4|n=>n,fun|n=>n⟩
theorem Try.lays215:Go.Proofs.Lays.n215 Try.prog Try.lays215_ren:={
 mixed:=by kernel_rfl
 f215:=Try.func134.trans (congrArg some (by kernel_rfl))
 t3:=Try.underlying3
 a3:=Try.isAgg3
 z3:=Try.sizeOf3
 v3:=Try.zeroValue3
 t4:=Try.underlying4
 a4:=Try.isAgg4
 z4:=Try.sizeOf4
 v4:=Try.zeroValue4}
open Go.RowKit in
theorem Try.cmp_isNaN_int(x:Int)(w:World):
  Calls Try.prog 134 #[.int .i64 x] w fun e w'=>e= .returned (.bool false)∧w'=w:=Any.cmp_isNaN_int Try.lays215 x w
def Try.lays122_ren:Go.Shelf.Ren:=⟨fun|122=>111|215=>134|n=>n,fun|3=>3|4=>4|n=>n,fun|n=>n⟩
theorem Try.lays122:Go.Proofs.Lays.n122 Try.prog Try.lays122_ren:={
 mixed:=by kernel_rfl
 f122:=Try.func111.trans (congrArg some (by kernel_rfl))
 f215:=Try.func134.trans (congrArg some (by kernel_rfl))
 t3:=Try.underlying3
 a3:=Try.isAgg3
 z3:=Try.sizeOf3
 v3:=Try.zeroValue3
 t4:=Try.underlying4
 a4:=Try.isAgg4
 z4:=Try.sizeOf4
 v4:=Try.zeroValue4}
open Go.RowKit in
theorem Try.cmp_Compare_int(x y:Int)(w:World):
  Calls Try.prog 111 #[.int .i64 x,.int .i64 y] w fun e w'=>e= .returned (.int .i64 (Lib.compareInt x y))∧w'=w:=Any.cmp_Compare_int Try.lays122 x y w
open Go.RowKit in
theorem Try.Builder_Len_f(B b:Nat)(bs:List Value)(w:World)(h:Lib.IsBuilderF 142 5 B b bs w):
  Calls Try.prog 140 #[.pointer (some ⟨b,0,none⟩)] w fun e w'=>e= .returned (.int .i64 bs.length)∧w'=w:=Any.Builder_Len_f Try.lays170 B b bs w h
open Go.RowKit in
theorem Try.Builder_String_f(B b:Nat)(l:List UInt8)(w:World)(h:Lib.IsBuilderF 142 5 B b (Lib.byteCells l) w)(h0:l≠[]):
  Calls Try.prog 131 #[.pointer (some ⟨b,0,none⟩)] w fun e w'=>e= .returned (.string ⟨l.toArray⟩)∧(Lib.IsBuilderF 142 5 B b (Lib.byteCells l) w'∧Below B w w'):=Any.Builder_String_f Try.lays169 Try.Builder_Extra_169 B b l w h h0
open Go.RowKit in
theorem Try.Builder_String_empty_f(B b:Nat)(w:World)(h:Lib.IsBuilderF 142 5 B b [] w)(hBw:B≤w.heap.size):
  Calls Try.prog 131 #[.pointer (some ⟨b,0,none⟩)] w fun e w'=>e= .returned (.string ⟨#[]⟩)∧(Lib.IsBuilderF 142 5 B b [] w'∧Below B w w'):=Any.Builder_String_empty_f Try.lays169 Try.Builder_Extra_169 B b w h hBw
open Go.RowKit in
theorem Try.Builder_String_any_f(B b:Nat)(l:List UInt8)(w:World)(h:Lib.IsBuilderF 142 5 B b (Lib.byteCells l) w)(hBw:B≤w.heap.size):
  Calls Try.prog 131 #[.pointer (some ⟨b,0,none⟩)] w fun e w'=>e= .returned (.string ⟨l.toArray⟩)∧(Lib.IsBuilderF 142 5 B b (Lib.byteCells l) w'∧Below B w w'):=Any.Builder_String_any_f Try.lays169 Try.Builder_Extra_169 B b l w h hBw
open Go.RowKit in
theorem Try.Builder_String_k(B b:Nat)(l:List UInt8)(w:World)(h:Lib.IsBuilderF 142 5 B b (Lib.byteCells l) w)(h0:l≠[]):
  Calls Try.prog 131 #[.pointer (some ⟨b,0,none⟩)] w fun e w'=>e= .returned (.string ⟨l.toArray⟩)∧(Lib.IsBuilderF 142 5 B b (Lib.byteCells l) w'∧Below B w w'∧Lib.OthersKept 5 (some b) w w'):=Any.Builder_String_k Try.lays169 Try.Builder_Extra_169 B b l w h h0
open Go.RowKit in
theorem Try.Builder_String_empty_k(B b:Nat)(w:World)(h:Lib.IsBuilderF 142 5 B b [] w)(hBw:B≤w.heap.size):
  Calls Try.prog 131 #[.pointer (some ⟨b,0,none⟩)] w fun e w'=>e= .returned (.string ⟨#[]⟩)∧(Lib.IsBuilderF 142 5 B b [] w'∧Below B w w'∧Lib.OthersKept 5 (some b) w w'):=Any.Builder_String_empty_k Try.lays169 Try.Builder_Extra_169 B b w h hBw
open Go.RowKit in
theorem Try.Builder_String_any_k(B b:Nat)(l:List UInt8)(w:World)(h:Lib.IsBuilderF 142 5 B b (Lib.byteCells l) w)(hBw:B≤w.heap.size):
  Calls Try.prog 131 #[.pointer (some ⟨b,0,none⟩)] w fun e w'=>e= .returned (.string ⟨l.toArray⟩)∧(Lib.IsBuilderF 142 5 B b (Lib.byteCells l) w'∧Below B w w'∧Lib.OthersKept 5 (some b) w w'):=Any.Builder_String_any_k Try.lays169 Try.Builder_Extra_169 B b l w h hBw
open Go.RowKit in
theorem Try.Builder_grow_fresh_cap(B b n:Nat)(w:World)(hB:B≤b)(hbk:w.heap[b]? =some (.cells #[.pointer (some ⟨b,0,none⟩),.slice none 0 0] 142 (0,0))) (hBw:B≤w.heap.size) (hn:n≤281474976710656):
  Calls Try.prog 143 #[.pointer (some ⟨b,0,none⟩),.int .i64 n] w fun e w'=>e= .returned (.tuple #[])∧(Lib.BuilderAt 142 5 B b (.pointer (some ⟨b,0,none⟩)) [] w'∧Below B w w')∧∃p cap,w'.cell? ⟨b,1,none⟩=some (.slice p 0 cap)∧n≤cap:=Any.Builder_grow_fresh_cap Try.lays241 Try.Builder_Extra_241 B b n w hB hbk hBw hn
open Go.RowKit in
theorem Try.Builder_Grow_fresh_cap(B b n:Nat)(w:World)(hB:B≤b)(hbk:w.heap[b]? =some (.cells #[.pointer none,.slice none 0 0] 142 (0,0))) (hBw:B≤w.heap.size) (hn:n≤281474976710656):
  Calls Try.prog 129 #[.pointer (some ⟨b,0,none⟩),.int .i64 n] w fun e w'=>e= .returned (.tuple #[])∧(Lib.BuilderAt 142 5 B b (.pointer (some ⟨b,0,none⟩)) [] w'∧Below B w w')∧∃p cap,w'.cell? ⟨b,1,none⟩=some (.slice p 0 cap)∧n≤cap:=Any.Builder_Grow_fresh_cap Try.lays165 Try.Builder_Extra_165 B b n w hB hbk hBw hn
def Try.lays206_ren:Go.Shelf.Ren:=⟨fun|206=>144|n=>n,fun|9=>9|4=>4|3=>3|n=>n,fun|n=>n⟩
theorem Try.lays206:Go.Proofs.Lays.n206 Try.prog Try.lays206_ren:={
 mixed:=by kernel_rfl
 f206:=Try.func144.trans (congrArg some (by kernel_rfl))
 t3:=Try.underlying3
 a3:=Try.isAgg3
 z3:=Try.sizeOf3
 v3:=Try.zeroValue3
 t4:=Try.underlying4
 a4:=Try.isAgg4
 z4:=Try.sizeOf4
 v4:=Try.zeroValue4
 t9:=Try.underlying9
 a9:=Try.isAgg9
 z9:=Try.sizeOf9
 v9:=Try.zeroValue9}
open Go.RowKit Go.Lib in
theorem Try.stringslite_HasPrefix(s p:ByteArray)(w:World):
  Calls Try.prog 144 #[.string s,.string p] w fun e w'=>e= .returned (.bool (Lib.hasPrefix s.data.toList p.data.toList))∧w'=w:=Any.stringslite_HasPrefix Try.lays206 s p w
def Try.lays99_ren:Go.Shelf.Ren:=⟨fun|99=>139|206=>144|n=>n,fun|9=>9|4=>4|3=>3|n=>n,fun|n=>n⟩
theorem Try.lays99:Go.Proofs.Lays.n99 Try.prog Try.lays99_ren:={
 mixed:=by kernel_rfl
 f99:=Try.func139.trans (congrArg some (by kernel_rfl))
 f206:=Try.func144.trans (congrArg some (by kernel_rfl))
 t3:=Try.underlying3
 a3:=Try.isAgg3
 z3:=Try.sizeOf3
 v3:=Try.zeroValue3
 t4:=Try.underlying4
 a4:=Try.isAgg4
 z4:=Try.sizeOf4
 v4:=Try.zeroValue4
 t9:=Try.underlying9
 a9:=Try.isAgg9
 z9:=Try.sizeOf9
 v9:=Try.zeroValue9}
open Go.RowKit Go.Lib in
theorem Try.strings_HasPrefix(s p:ByteArray)(w:World):
  Calls Try.prog 139 #[.string s,.string p] w fun e w'=>e= .returned (.bool (Lib.hasPrefix s.data.toList p.data.toList))∧w'=w:=Any.strings_HasPrefix Try.lays99 s p w
def Try.lays264_ren:Go.Shelf.Ren:=⟨fun|264=>126|n=>n,fun|53=>137|46=>112|n=>n,fun|n=>n⟩
theorem Try.lays264:Go.Proofs.Lays.n264 Try.prog Try.lays264_ren:={
 mixed:=by kernel_rfl
 f264:=Try.func126.trans (congrArg some (by kernel_rfl))
 t46:=Try.underlying112
 a46:=Try.isAgg112
 z46:=Try.sizeOf112
 v46:=Try.zeroValue112
 t53:=Try.underlying137
 a53:=Try.isAgg137
 z53:=Try.sizeOf137
 v53:=Try.zeroValue137}
open Go.RowKit Go.Lib in
theorem Try.bits_Mul64(x y:Nat)(hx:x<18446744073709551616)(hy:y<18446744073709551616)(w:World):
  Calls Try.prog 126 #[.int .u64 x,.int .u64 y] w fun e w'=>e= .returned (.tuple #[.int .u64 ((x*y / 18446744073709551616:Nat):Int),.int .u64 ((x*y % 18446744073709551616:Nat):Int)])∧w'=w:=Any.bits_Mul64 Try.lays264 x y hx hy w
def Try.lays212_ren:Go.Shelf.Ren:=⟨fun|212=>89|263=>125|264=>126|n=>n,fun|46=>112|51=>134|146=>135|53=>137|148=>138|n=>n,fun|n=>n⟩
theorem Try.lays212:Go.Proofs.Lays.n212 Try.prog Try.lays212_ren:={
 mixed:=by kernel_rfl
 f212:=Try.func89.trans (congrArg some (by kernel_rfl))
 f263:=Try.func125.trans (congrArg some (by kernel_rfl))
 f264:=Try.func126.trans (congrArg some (by kernel_rfl))
 t46:=Try.underlying112
 a46:=Try.isAgg112
 z46:=Try.sizeOf112
 v46:=Try.zeroValue112
 t51:=Try.underlying134
 a51:=Try.isAgg134
 z51:=Try.sizeOf134
 v51:=Try.zeroValue134
 t53:=Try.underlying137
 a53:=Try.isAgg137
 z53:=Try.sizeOf137
 v53:=Try.zeroValue137
 t146:=Try.underlying135
 a146:=Try.isAgg135
 z146:=Try.sizeOf135
 v146:=Try.zeroValue135
 t148:=Try.underlying138
 a148:=Try.isAgg138
 z148:=Try.sizeOf138
 v148:=Try.zeroValue138}
open Go.RowKit Go.Lib in
theorem Try.bits_Mul(x y:Nat)(hx:x<18446744073709551616)(hy:y<18446744073709551616)(w:World):
  Calls Try.prog 89 #[.int .u64 x,.int .u64 y] w fun e w'=>e= .returned (.tuple #[.int .u64 ((x*y / 18446744073709551616:Nat):Int),.int .u64 ((x*y % 18446744073709551616:Nat):Int)])∧w'=w:=Any.bits_Mul Try.lays212 x y hx hy w
def Try.lays105_ren:Go.Shelf.Ren:=⟨fun|105=>124|212=>89|99=>139|165=>129|166=>130|170=>140|169=>131|263=>125|264=>126|206=>144|240=>142|241=>143|276=>145|277=>146|n=>n,fun|9=>9|3=>3|4=>4|20=>20|0=>0|46=>112|109=>113|5=>5|72=>142|76=>146|51=>134|146=>135|53=>137|148=>138|70=>140|37=>22|75=>145|127=>155|164=>156|80=>69|n=>n,fun|n=>n⟩
theorem Try.lays105:Go.Proofs.Lays.n105 Try.prog Try.lays105_ren:={
 mixed:=by kernel_rfl
 f99:=Try.func139.trans (congrArg some (by kernel_rfl))
 f105:=Try.func124.trans (congrArg some (by kernel_rfl))
 f165:=Try.func129.trans (congrArg some (by kernel_rfl))
 f166:=Try.func130.trans (congrArg some (by kernel_rfl))
 f169:=Try.func131.trans (congrArg some (by kernel_rfl))
 f170:=Try.func140.trans (congrArg some (by kernel_rfl))
 f206:=Try.func144.trans (congrArg some (by kernel_rfl))
 f212:=Try.func89.trans (congrArg some (by kernel_rfl))
 f240:=Try.func142.trans (congrArg some (by kernel_rfl))
 f241:=Try.func143.trans (congrArg some (by kernel_rfl))
 f263:=Try.func125.trans (congrArg some (by kernel_rfl))
 f264:=Try.func126.trans (congrArg some (by kernel_rfl))
 f276:=Try.func145.trans (congrArg some (by kernel_rfl))
 f277:=Try.func146.trans (congrArg some (by kernel_rfl))
 t0:=Try.underlying0
 a0:=Try.isAgg0
 z0:=Try.sizeOf0
 v0:=Try.zeroValue0
 t3:=Try.underlying3
 a3:=Try.isAgg3
 z3:=Try.sizeOf3
 v3:=Try.zeroValue3
 t4:=Try.underlying4
 a4:=Try.isAgg4
 z4:=Try.sizeOf4
 v4:=Try.zeroValue4
 t5:=Try.underlying5
 a5:=Try.isAgg5
 z5:=Try.sizeOf5
 v5:=Try.zeroValue5
 t9:=Try.underlying9
 a9:=Try.isAgg9
 z9:=Try.sizeOf9
 v9:=Try.zeroValue9
 t20:=Try.underlying20
 a20:=Try.isAgg20
 z20:=Try.sizeOf20
 v20:=Try.zeroValue20
 t37:=Try.underlying22
 a37:=Try.isAgg22
 z37:=Try.sizeOf22
 v37:=Try.zeroValue22
 t46:=Try.underlying112
 a46:=Try.isAgg112
 z46:=Try.sizeOf112
 v46:=Try.zeroValue112
 t51:=Try.underlying134
 a51:=Try.isAgg134
 z51:=Try.sizeOf134
 v51:=Try.zeroValue134
 t53:=Try.underlying137
 a53:=Try.isAgg137
 z53:=Try.sizeOf137
 v53:=Try.zeroValue137
 t70:=Try.underlying140
 a70:=Try.isAgg140
 z70:=Try.sizeOf140
 v70:=Try.zeroValue140
 t72:=Try.underlying142
 a72:=Try.isAgg142
 z72:=Try.sizeOf142
 v72:=Try.zeroValue142
 t75:=Try.underlying145
 a75:=Try.isAgg145
 z75:=Try.sizeOf145
 v75:=Try.zeroValue145
 t76:=Try.underlying146
 a76:=Try.isAgg146
 z76:=Try.sizeOf146
 v76:=Try.zeroValue146
 t109:=Try.underlying113
 a109:=Try.isAgg113
 z109:=Try.sizeOf113
 v109:=Try.zeroValue113
 t127:=Try.underlying155
 a127:=Try.isAgg155
 z127:=Try.sizeOf155
 v127:=Try.zeroValue155
 t146:=Try.underlying135
 a146:=Try.isAgg135
 z146:=Try.sizeOf135
 v146:=Try.zeroValue135
 t148:=Try.underlying138
 a148:=Try.isAgg138
 z148:=Try.sizeOf138
 v148:=Try.zeroValue138
 t164:=Try.underlying156
 a164:=Try.isAgg156
 z164:=Try.sizeOf156
 v164:=Try.zeroValue156}
theorem Try.Builder_Extra_105:Builder.Extra Try.prog Try.lays105_ren:={
 sizeBuilder:=by kernel_rfl
 liesBuilder:=by kernel_rfl
 t5:=Try.underlying5
 a5:=Try.isAgg5
 z5:=Try.sizeOf5
 v5:=Try.zeroValue5
 infoByte:=by kernel_rfl
 cellsByte:=by kernel_rfl
 sizeByte:=by kernel_rfl
 neB5:=by decide}
open Go.RowKit Go.Lib in
theorem Try.strings_Repeat_main(s:ByteArray)(c:Nat)(w:World)(hc2:2≤c)(hc:c≤9223372036854775807)(hlen:s.size*c≤140737488355328)(h0:0<s.size):
  Calls Try.prog 124 #[.string s,.int .i64 c] w fun e w'=>e= .returned (.string ⟨(Lib.repeatL s.data.toList c).toArray⟩)∧Below w.heap.size w w':=Any.strings_Repeat_main Try.lays105 Try.Builder_Extra_105 s c w hc2 hc hlen h0
open Go.RowKit Go.Lib in
theorem Try.strings_Repeat_zero(s:ByteArray)(w:World):
  Calls Try.prog 124 #[.string s,.int .i64 0] w fun e w'=>e= .returned (.string ⟨#[]⟩)∧w'=w:=Any.strings_Repeat_zero Try.lays105 s w
open Go.RowKit Go.Lib in
theorem Try.strings_Repeat_one(s:ByteArray)(w:World):
  Calls Try.prog 124 #[.string s,.int .i64 1] w fun e w'=>e= .returned (.string s)∧w'=w:=Any.strings_Repeat_one Try.lays105 s w
open Go.RowKit Go.Lib in
theorem Try.strings_Repeat_empty(s:ByteArray)(c:Nat)(w:World)(hc2:2≤c)(hc:c≤9223372036854775807)(h0:s.size=0):
  Calls Try.prog 124 #[.string s,.int .i64 c] w fun e w'=>e= .returned (.string ⟨#[]⟩)∧w'=w:=Any.strings_Repeat_empty Try.lays105 s c w hc2 hc h0
open Go.RowKit Go.Lib in
theorem Try.strings_Repeat_negative(s:ByteArray)(c:Int)(w:World)(hc:c<0):
  Calls Try.prog 124 #[.string s,.int .i64 c] w fun e w'=>e= .panicked [{v:=repeatPanic Try.lays105_ren "strings: negative Repeat count",recovered:=false}]∧w'=w:=Any.strings_Repeat_negative Try.lays105 s c w hc
open Go.RowKit Go.Lib in
theorem Try.strings_Repeat_overflow(s:ByteArray)(c:Nat)(w:World)(hc:c≤9223372036854775807)(hs:s.size≤9223372036854775807)(hbig:9223372036854775807<s.size*c):
  Calls Try.prog 124 #[.string s,.int .i64 c] w fun e w'=>e= .panicked [{v:=repeatPanic Try.lays105_ren "strings: Repeat output length overflow",recovered:=false}]∧w'=w:=Any.strings_Repeat_overflow Try.lays105 s c w hc hs hbig
open Go.RowKit Go.Lib in
theorem Try.strings_Repeat(s:ByteArray)(c:Nat)(w:World)(hc:c≤9223372036854775807)(hlen:s.size*c≤140737488355328):
  Calls Try.prog 124 #[.string s,.int .i64 c] w fun e w'=>e= .returned (.string ⟨(Lib.repeatL s.data.toList c).toArray⟩)∧Below w.heap.size w w':=Any.strings_Repeat Try.lays105 Try.Builder_Extra_105 s c w hc hlen
def Try.lays108_ren:Go.Shelf.Ren:=⟨fun|108=>112|n=>n,fun|28=>31|3=>3|0=>0|4=>4|n=>n,fun|n=>n⟩
theorem Try.lays108:Go.Proofs.Lays.n108 Try.prog Try.lays108_ren:={
 mixed:=by kernel_rfl
 f108:=Try.func112.trans (congrArg some (by kernel_rfl))
 t0:=Try.underlying0
 a0:=Try.isAgg0
 z0:=Try.sizeOf0
 v0:=Try.zeroValue0
 t3:=Try.underlying3
 a3:=Try.isAgg3
 z3:=Try.sizeOf3
 v3:=Try.zeroValue3
 t4:=Try.underlying4
 a4:=Try.isAgg4
 z4:=Try.sizeOf4
 v4:=Try.zeroValue4
 t28:=Try.underlying31
 a28:=Try.isAgg31
 z28:=Try.sizeOf31
 v28:=Try.zeroValue31}
open Go.Lib in
theorem Try.slices_Index_int(b off n c:Nat)(zs:List Int)(x:Int)(w:World)(hz:n≤zs.length)(hbig:n≤9223372036854775807)(hc:∀j,j<zs.length→w.cell? ⟨b,off+j,none⟩=some (.int .i64 (zs.getD j 0))):
  Calls Try.prog 112 #[.slice (some ⟨b,off,none⟩) n c,.int .i64 x] w fun e w'=>e= .returned (.int .i64 (Lib.idxOf (zs.take n) x))∧w'=w:=Any.slices_Index_int Try.lays108 b off n c zs x w hz hbig hc
open Go.Lib in
theorem Try.slices_Index_int_empty(a:Option Addr)(c:Nat)(x:Int)(w:World):
  Calls Try.prog 112 #[.slice a 0 c,.int .i64 x] w fun e w'=>e= .returned (.int .i64 (Lib.idxOf [] x))∧w'=w:=Any.slices_Index_int_empty Try.lays108 a c x w
def Try.lays107_ren:Go.Shelf.Ren:=⟨fun|107=>76|108=>112|n=>n,fun|28=>31|3=>3|4=>4|0=>0|n=>n,fun|n=>n⟩
theorem Try.lays107:Go.Proofs.Lays.n107 Try.prog Try.lays107_ren:={
 mixed:=by kernel_rfl
 f107:=Try.func76.trans (congrArg some (by kernel_rfl))
 f108:=Try.func112.trans (congrArg some (by kernel_rfl))
 t0:=Try.underlying0
 a0:=Try.isAgg0
 z0:=Try.sizeOf0
 v0:=Try.zeroValue0
 t3:=Try.underlying3
 a3:=Try.isAgg3
 z3:=Try.sizeOf3
 v3:=Try.zeroValue3
 t4:=Try.underlying4
 a4:=Try.isAgg4
 z4:=Try.sizeOf4
 v4:=Try.zeroValue4
 t28:=Try.underlying31
 a28:=Try.isAgg31
 z28:=Try.sizeOf31
 v28:=Try.zeroValue31}
open Go.Lib in
theorem Try.slices_Contains_int(b off n c:Nat)(zs:List Int)(x:Int)(w:World)(hz:n≤zs.length)(hbig:n≤9223372036854775807)(hc:∀j,j<zs.length→w.cell? ⟨b,off+j,none⟩=some (.int .i64 (zs.getD j 0))):
  Calls Try.prog 76 #[.slice (some ⟨b,off,none⟩) n c,.int .i64 x] w fun e w'=>e= .returned (.bool ((zs.take n).contains x))∧w'=w:=Any.slices_Contains_int Try.lays107 b off n c zs x w hz hbig hc
open Go.Lib in
theorem Try.slices_Contains_int_empty(a:Option Addr)(c:Nat)(x:Int)(w:World):
  Calls Try.prog 76 #[.slice a 0 c,.int .i64 x] w fun e w'=>e= .returned (.bool false)∧w'=w:=Any.slices_Contains_int_empty Try.lays107 a c x w
def Try.lays111_ren:Go.Shelf.Ren:=⟨fun|111=>108|n=>n,fun|28=>31|3=>3|4=>4|0=>0|n=>n,fun|n=>n⟩
theorem Try.lays111:Go.Proofs.Lays.n111 Try.prog Try.lays111_ren:={
 mixed:=by kernel_rfl
 f111:=Try.func108.trans (congrArg some (by kernel_rfl))
 t0:=Try.underlying0
 a0:=Try.isAgg0
 z0:=Try.sizeOf0
 v0:=Try.zeroValue0
 t3:=Try.underlying3
 a3:=Try.isAgg3
 z3:=Try.sizeOf3
 v3:=Try.zeroValue3
 t4:=Try.underlying4
 a4:=Try.isAgg4
 z4:=Try.sizeOf4
 v4:=Try.zeroValue4
 t28:=Try.underlying31
 a28:=Try.isAgg31
 z28:=Try.sizeOf31
 v28:=Try.zeroValue31}
open Go.RowKit Go.Lib in
theorem Try.slices_Equal_int(b1 o1 n c b2 o2 m d:Nat)(xs ys:List Int)(w:World)(hx:n≤xs.length)(hy:m≤ys.length)(hbig:n≤9223372036854775807)(hbig2:m≤9223372036854775807)(hc1:∀j,j<xs.length→w.cell? ⟨b1,o1+j,none⟩=some (.int .i64 (xs.getD j 0)))(hc2:∀j,j<ys.length→w.cell? ⟨b2,o2+j,none⟩=some (.int .i64 (ys.getD j 0))):
  Calls Try.prog 108 #[.slice (some ⟨b1,o1,none⟩) n c,.slice (some ⟨b2,o2,none⟩) m d] w fun e w'=>e= .returned (.bool (xs.take n==ys.take m))∧∃q,w'=w.drewN q:=Any.slices_Equal_int Try.lays111 b1 o1 n c b2 o2 m d xs ys w hx hy hbig hbig2 hc1 hc2
open Go.RowKit Go.Lib in
theorem Try.slices_Equal_int_empty(a1 a2:Option Addr)(c m d:Nat)(w:World)(hbig2:m≤9223372036854775807):
  Calls Try.prog 108 #[.slice a1 0 c,.slice a2 m d] w fun e w'=>e= .returned (.bool (decide (m=0)))∧w'=w:=Any.slices_Equal_int_empty Try.lays111 a1 a2 c m d w hbig2
def Try.laysNm216_ren:Go.Shelf.Ren:=⟨fun|16=>60|n=>n,fun|24=>25|9=>9|4=>4|n=>n,fun|n=>n⟩
theorem Try.laysNm216:Go.Proofs.Lays2.n16 Try.prog Try.laysNm216_ren:={
 mixed:=by kernel_rfl
 f16:=Try.func60.trans (congrArg some (by kernel_rfl))
 t4:=Try.underlying4
 a4:=Try.isAgg4
 z4:=Try.sizeOf4
 v4:=Try.zeroValue4
 t9:=Try.underlying9
 a9:=Try.isAgg9
 z9:=Try.sizeOf9
 v9:=Try.zeroValue9
 t24:=Try.underlying25
 a24:=Try.isAgg25
 z24:=Try.sizeOf25
 v24:=Try.zeroValue25
 i9:=by kernel_rfl}
open Go.RowKit Go.Lib in
theorem Try.slices_Clone_string(b off n c:Nat)(zs:List ByteArray)(w:World)(hz:n≤zs.length)(hbig:n*16≤140737488355328)(hc:∀j,j<zs.length→w.cell? ⟨b,off+j,none⟩=some (.string (zs.getD j ByteArray.empty))):
  Calls Try.prog 60 #[.slice (some ⟨b,off,none⟩) n c] w fun e w'=>∃v',e= .returned v'∧w'.ownsRow w.heap.size 9 1 v' n ((zs.take n).map (Value.string))∧v'≠ .slice none 0 0∧Below w.heap.size w w':=Any.slices_Clone_string Try.laysNm216 b off n c zs w hz hbig hc
open Go.RowKit Go.Lib in
theorem Try.slices_Clone_string_nil(n c:Nat)(w:World):
  Calls Try.prog 60 #[.slice none n c] w fun e w'=>e= .returned (.slice none 0 0)∧w'=w:=Any.slices_Clone_string_nil Try.laysNm216 n c w
open Go.RowKit Go.Lib in
theorem Try.slices_Clone_string_zero(a:Addr)(c:Nat)(w:World):
  Calls Try.prog 60 #[.slice (some a) 0 c] w fun e w'=>∃v',e= .returned v'∧w'.ownsRow w.heap.size 9 1 v' 0 []∧v'≠ .slice none 0 0∧Below w.heap.size w w':=Any.slices_Clone_string_zero Try.laysNm216 a c w
def Try.laysNm237_ren:Go.Shelf.Ren:=⟨fun|37=>134|n=>n,fun|3=>3|4=>4|n=>n,fun|n=>n⟩
theorem Try.laysNm237:Go.Proofs.Lays2.n37 Try.prog Try.laysNm237_ren:={
 mixed:=by kernel_rfl
 f37:=Try.func134.trans (congrArg some (by kernel_rfl))
 t3:=Try.underlying3
 a3:=Try.isAgg3
 z3:=Try.sizeOf3
 v3:=Try.zeroValue3
 t4:=Try.underlying4
 a4:=Try.isAgg4
 z4:=Try.sizeOf4
 v4:=Try.zeroValue4}
open Go.RowKit Go.Lib in
theorem Try.cmp_isNaN_int2(x:Int)(w:World):
  Calls Try.prog 134 #[.int .i64 x] w fun e w'=>e= .returned (.bool false)∧w'=w:=Any.cmp_isNaN_int2 Try.laysNm237 x w
open Go.RowKit Go.Lib in
theorem Try.slices_Equal_int_lens(a1 a2:Option Addr)(n c m d:Nat)(w:World)(hnm:n≠m):
  Calls Try.prog 108 #[.slice a1 n c,.slice a2 m d] w fun e w'=>e= .returned (.bool false)∧w'=w:=Any.slices_Equal_int_lens Try.lays111 a1 a2 n c m d w hnm
def Try.laysSlE041_f60_ren:Go.Shelf.Ren:=⟨fun|41=>60|n=>n,fun|22=>25|23=>9|4=>4|n=>n,fun|n=>n⟩
theorem Try.laysSlE041_f60:Go.Proofs.SlLaysE0.n41 Try.prog Try.laysSlE041_f60_ren:={
 mixed:=by kernel_rfl
 f41:=⟨Try.f60.name,by decide,Try.func60.trans (congrArg some (by kernel_rfl))⟩
 t4:=Try.underlying4
 a4:=Try.isAgg4
 z4:=Try.sizeOf4
 v4:=Try.zeroValue4
 t22:=Try.underlying25
 a22:=Try.isAgg25
 z22:=Try.sizeOf25
 v22:=Try.zeroValue25}
open Go.RowKit Go.Lib in
theorem Try.slices_Clone(i0:TypeInfo)(z:Value)(size bytes:Nat)(hi:Try.prog.info? 9=some i0)(hz0:i0.zero=some z)(hz1:i0.size=size)(hz2:i0.bytes=bytes)(hzs:z.cells.size=size)(hsz:0<size)(z23:∀w,(Go.sizeOf 9).run Try.prog w= .ok size w)(b off n c:Nat)(news:List Value)(w:World)(hl:news.length=n*size)(hn:n≤maxLen)(hbig:n*bytes≤140737488355328)(hc:∀j u,news[j]? =some u→w.cell? ⟨b,off+j,none⟩=some u)(h1:∀u∈news,u.oneCell'=true):
  Calls Try.prog 60 #[.slice (some ⟨b,off,none⟩) n c] w fun e w'=>∃v',e= .returned v'∧w'.ownsRow w.heap.size 9 size v' n news∧v'≠ .slice none 0 0∧Below w.heap.size w w':=AnyE.slices_Clone Try.laysSlE041_f60 i0 z size bytes hi hz0 hz1 hz2 hzs hsz z23 b off n c news w hl hn hbig hc h1
open Go.RowKit Go.Lib in
theorem Try.slices_Clone_nil(n c:Nat)(w:World):
  Calls Try.prog 60 #[.slice none n c] w fun e w'=>e= .returned (.slice none 0 0)∧w'=w:=AnyE.slices_Clone_nil Try.laysSlE041_f60 n c w
end Go.Proofs

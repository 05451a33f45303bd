/- The tables, the residual functions and lemmas of this seat: parts of the proof of the law; conditions: those that each names. -/
import Derived.Test.YtmmgfgfkkpeedaaGreatSup
set_option linter.unusedVariables false
set_option linter.unusedSimpArgs false
set_option maxRecDepth 100000
namespace Go.Proofs.YtmmgfgfkkpeedaaGreat
open Go.Eng
theorem get_mid{α:Type}(pre:List α)(x:α)(post:List α):(pre++x::post)[pre.length]? =some x:=by simp
theorem set_mid{α:Type}(pre:List α)(x y:α)(post:List α):(pre++x::post).set pre.length y=pre++y::post:=by simp
theorem lt_mid{α:Type}(pre:List α)(x:α)(post:List α):((pre.length:Int)<((pre++x::post).length:Int))=True:=by
 simp only[List.length_append,List.length_cons,eq_iff_iff,iff_true];omega
abbrev inB(x:DInode):List Int:=x.2.2.2.2.2.2.2.1
abbrev inA(x:DInode):List PAcl:=x.2.2.2.2.2.2.2.2.1
abbrev inD(x:DInode):List PAcl:=x.2.2.2.2.2.2.2.2.2
theorem sum_inodes:∀l:List DInode,(l.map fun x=>7+(inB x).length+3*(inA x).length+3*(inD x).length).sum≤7*l.length+3*(l.map szM_Inode).sum
 |[]=>by simp
 |x::l=>by
  have:=sum_inodes l
  have h:szM_Inode x=(inB x).length+(inA x).length+(inD x).length:=rfl
  simp only[List.map_cons,List.sum_cons,List.length_cons,h]
  omega
theorem fs_small{x:DFS}(h:szM_FS x≤1048576):fsSmall x∧(∀s∈fD x,s.size<big)∧(fQ x).length≤1048576:=by
 have e2:szM_FS x=x.2.1.length+szM_InodeS x.2.2.1+szM_StringS x.2.2.2:=rfl
 have e3:szM_InodeS x.2.2.1=x.2.2.1.length+(x.2.2.1.map szM_Inode).sum:=rfl
 have e4:szM_StringS x.2.2.2=x.2.2.2.length+(x.2.2.2.map fun y=>y.size).sum:=rfl
 refine⟨fun n hn=> ?_,fun s hs=> ?_,by show x.2.1.length≤_;omega⟩
 ·have h1:=le_sum_map szM_Inode (show n∈x.2.2.1 from hn)
  have h2:szM_Inode n=(inB n).length+(inA n).length+(inD n).length:=rfl
  unfold inoSmall big
  refine⟨?_, ?_, ?_⟩
  ·show(inB n).length<_;omega
  ·show(inA n).length<_;omega
  ·show(inD n).length<_;omega
 ·have h1:=le_sum_map (fun y:ByteArray=>y.size) (show s∈x.2.2.2 from hs)
  unfold big
  omega
end Go.Proofs.YtmmgfgfkkpeedaaGreat

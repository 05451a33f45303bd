/- The tables, the residual functions and lemmas of this seat: parts of the proof of the law; conditions: those that each names. -/
import Derived.Test.YtmmgfgfkkpeedaaGreatSup
set_option linter.unusedVariables false
set_option linter.unusedSimpArgs false
set_option maxRecDepth 100000
namespace Go.Proofs.YtmmgfgfkkpeedaaGreat
open Go.Eng
abbrev PWrite:=Int×ByteArray
abbrev PDisk:=List ByteArray×List PWrite
theorem wsucc{i:Nat}(h:i<4611686018427387904):wrapK .i64 ((i:Int)+1)=((i+1:Nat):Int):=by rw[i64w (by omega) (by omega)];omega
structure diskP (d:PDisk):Prop where
 sz:∀(i:Nat) s,d.1[i]? =some s→s.size=32
 pd:∀(i:Nat) w,d.2[i]? =some w→0≤w.1∧w.1<(d.1.length:Int)∧w.2.size=32
 n1:d.1.length≤400
 n2:d.2.length≤400
def dskS(d:PDisk):Prop:=d.1.length≤2000000∧d.2.length≤2000000
def storT(f:Nat→Bool)(d:PDisk):Nat→List ByteArray
 |0=>d.1
 |i+1=>match d.2[i]? with
  |some w=>bif f i then(storT f d i).set w.1.toNat w.2 else storT f d i
  |none=>storT f d i
theorem storT_len(f:Nat→Bool)(d:PDisk):∀i,(storT f d i).length=d.1.length
 |0=>rfl
 |i+1=>by
  have h:=storT_len f d i
  simp only[storT]
  cases d.2[i]? with
  |none=>exact h
  |some w=>cases f i<;>simp[h]
theorem storT_sz{f:Nat→Bool}{d:PDisk}(h:diskP d):∀i (j:Nat) s,(storT f d i)[j]? =some s→s.size=32
 |0,j,s,hs=>h.sz j s hs
 |i+1,j,s,hs=>by
  simp only[storT]at hs
  cases hw:d.2[i]? with
  |none=>rw[hw]at hs;exact storT_sz h i j s hs
  |some w=>
   rw[hw]at hs
   simp only at hs
   cases hf:f i with
   |false=>rw[hf]at hs;exact storT_sz h i j s hs
   |true=>
    rw[hf]at hs
    simp only[cond_true,List.getElem?_set]at hs
    split at hs
    ·split at hs
     ·cases hs;exact(h.pd i w hw).2.2
     ·cases hs
    ·exact storT_sz h i j s hs
theorem disk_small{d:PDisk}(h:diskP d):dskS d:=by
 have n1:=h.n1
 have n2:=h.n2
 exact⟨by omega,by omega⟩
end Go.Proofs.YtmmgfgfkkpeedaaGreat

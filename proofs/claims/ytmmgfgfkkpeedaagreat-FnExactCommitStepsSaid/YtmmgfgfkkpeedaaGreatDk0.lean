/- The tables, the residual functions and lemmas of this seat: parts of the proof of the law; conditions: those that each names. -/
import Derived.Test.YtmmgfgfkkpeedaaGreatSup
set_option linter.unusedVariables false
set_option linter.unusedSimpArgs false
set_option maxRecDepth 100000
namespace Go.Proofs.YtmmgfgfkkpeedaaGreat
open Go.Eng
abbrev bt:=Int×ByteArray
abbrev cO:=List ByteArray×List bt
theorem iM{i:Nat}(h:i<4611686018427387904):aa .i64 ((i:Int)+1)=((i+1:Nat):Int):=by rw[aR (by omega) (by omega)];omega
structure mj (d:cO):Prop where
 sz:∀(i:Nat) s,d.1[i]? =some s→s.size=32
 pd:∀(i:Nat) w,d.2[i]? =some w→0≤w.1∧w.1<(d.1.length:Int)∧w.2.size=32
 n1:d.1.length≤400
 n2:d.2.length≤400
def It(d:cO):Prop:=d.1.length≤2000000∧d.2.length≤2000000
def mT(f:Nat→Bool)(d:cO):Nat→List ByteArray
 |0=>d.1
 |i+1=>match d.2[i]? with
  |some w=>bif f i then(mT f d i).set w.1.toNat w.2 else mT f d i
  |none=>mT f d i
theorem zV(f:Nat→Bool)(d:cO):∀i,(mT f d i).length=d.1.length
 |0=>rfl
 |i+1=>by
  have h:=zV f d i
  simp only[mT]
  cases d.2[i]? with
  |none=>exact h
  |some w=>cases f i<;>simp[h]
theorem JS{f:Nat→Bool}{d:cO}(h:mj d):∀i (j:Nat) s,(mT f d i)[j]? =some s→s.size=32
 |0,j,s,hs=>h.sz j s hs
 |i+1,j,s,hs=>by
  simp only[mT]at hs
  cases hw:d.2[i]? with
  |none=>rw[hw]at hs;exact JS h i j s hs
  |some w=>
   rw[hw]at hs
   simp only at hs
   cases hf:f i with
   |false=>rw[hf]at hs;exact JS h i j s hs
   |true=>
    rw[hf]at hs
    simp only[cond_true,List.getElem?_set]at hs
    split at hs
    ·split at hs
     ·cases hs;exact(h.pd i w hw).2.2
     ·cases hs
    ·exact JS h i j s hs
theorem We{d:cO}(h:mj d):It d:=by
 have n1:=h.n1
 have n2:=h.n2
 exact⟨by omega,by omega⟩
end Go.Proofs.YtmmgfgfkkpeedaaGreat

/- The tables, the residual functions and lemmas of this seat: parts of the proof of the law; conditions: those that each names. -/
import Derived.Test.YtmmgfgfkkpeedaaGreatUnq
import Derived.Test.YtmmgfgfkkpeedaaGreatSml
set_option linter.unusedVariables false
set_option linter.unusedSimpArgs false
set_option maxRecDepth 100000
namespace Go.Proofs.YtmmgfgfkkpeedaaGreat
open Go.Eng
theorem cmp_or(p l:List ByteArray)(f:PFS):∀m i,cmpV p l f m i=(f,true)∨cmpV p l f m i=(zFS,false)
 |0,i=> .inl rfl
 |m+1,i=>by
  unfold cmpV
  split
  ·exact .inr rfl
  ·exact cmp_or p l f m (i+1)
theorem unp_or(l:List ByteArray):(unpV l).1=fOf l∨(unpV l).1=zFS:=by
 unfold unpV
 split
 ·unfold endV
  split
  ·rcases cmp_or (packV (fOf l)) l (fOf l) (packV (fOf l)).length 0 with h|h
   ·rw[h];exact .inl rfl
   ·rw[h];exact .inr rfl
  ·exact .inr rfl
 ·exact .inr rfl
theorem sum_drop(l:List ByteArray):∀n,((l.drop n).map fun y=>y.size).sum≤(l.map fun y=>y.size).sum:=fun n=>by
 have h:(l.map fun y=>y.size).sum=((l.take n).map fun y=>y.size).sum+((l.drop n).map fun y=>y.size).sum:=by
  rw[←List.sum_append,←List.map_append,List.take_append_drop]
 omega
theorem sum_iL(l:List ByteArray):∀i,((iL l i).map szM_Inode).sum≤20*i
 |0=>Nat.le_refl _
 |i+1=>by
  have ih:=sum_iL l i
  have h:szM_Inode (decI (sI l i)).1≤20:=by
   unfold decI
   split
   ·have h1:=blkL_len (sI l i) 8
    have h2:=decA_len ((sI l i).extract 29 48)
    have h3:=decA_len ((sI l i).extract 48 67)
    rw[←ino_blk]at h1
    rw[←ino_acl1]at h2
    rw[←ino_acl2]at h3
    have e:szM_Inode (ino (sI l i))=(xBlk (ino (sI l i))).length+(xAcl (ino (sI l i))).length+(xDef (ino (sI l i))).length:=rfl
    rw[e];omega
   ·exact Nat.zero_le _
  rw[iL,List.map_append,List.sum_append]
  simp only[List.map_cons,List.map_nil,List.sum_cons,List.sum_nil]
  omega
theorem unp_size{l:List ByteArray}(h:szM_StringS l≤1048576):szM_FS (unpV l).1≤2000000:=by
 rcases unp_or l with e|e
 ·rw[e]
  have e2:szM_FS (fOf l)=(qL l 4).length+((iL l 20).length+((iL l 20).map szM_Inode).sum)+((l.drop 130).length+((l.drop 130).map fun y=>y.size).sum):=rfl
  have e4:szM_StringS l=l.length+(l.map fun y=>y.size).sum:=rfl
  have h1:=sum_iL l 20
  have h2:=sum_drop l 130
  rw[e2,qL_len,iL_len,List.length_drop]
  omega
 ·rw[e];decide
theorem atB_size{l:List ByteArray}(h:szM_StringS l≤1048576)(i:Nat):(atB l i).size≤1048576:=by
 have e4:szM_StringS l=l.length+(l.map fun y=>y.size).sum:=rfl
 by_cases hi:i<l.length
 ·have hm:atB l i∈l:=List.mem_of_getElem? (atB_get hi)
  have:=le_sum_map (fun y:ByteArray=>y.size) hm
  omega
 ·rw[atB,List.getElem?_eq_none (by omega)];exact Nat.zero_le _
theorem unpack_same{l:List ByteArray}(h:szM_StringS l≤1048576):Ev (fun k=>c_spec_UnpackFS k l) (unpV l)∧Ev (fun k=>c_impl_UnpackFS k l) (unpV l):=by
 have e4:szM_StringS l=l.length+(l.map fun y=>y.size).sum:=rfl
 exact⟨spec_UnpackFS_ev (atB_size h) (by omega),impl_UnpackFS_ev (atB_size h) (by omega)⟩
end Go.Proofs.YtmmgfgfkkpeedaaGreat

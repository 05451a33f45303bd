/- The tables, the residual functions and lemmas of this seat: parts of the proof of the law; conditions: those that each names. -/
import Derived.Test.YtkdcfeopelbojaaGreatDoorWsn
set_option linter.unusedVariables false
set_option linter.unusedSimpArgs false
set_option maxRecDepth 100000
namespace Go.Proofs.YtkdcfeopelbojaaGreatDoor
open Go.Eng
noncomputable def ti(l:List ByteArray)(sep:ByteArray):ByteArray:=⟨(qH l sep).toArray⟩
theorem rS(l:List ByteArray)(sep:ByteArray):(ti l sep).data.toList=qH l sep:=rfl
theorem LZ(l:List ByteArray)(x sep:ByteArray):qH (l++[x]) sep=if l=[]then x.data.toList else qH l sep++sep.data.toList++x.data.toList:=by
 cases l with
 |nil=>simp[qH,Lib.join_one]
 |cons y r=>
  rw[if_neg (List.cons_ne_nil _ _)]
  unfold qH
  rw[List.cons_append,List.map_cons,List.map_cons,Lib.join_cons,Lib.join_cons,List.map_append]
  simp[Lib.joinTail]
theorem K7(l:List ByteArray)(x sep:ByteArray):ti (l++[x]) sep=if l=[]then x else(ti l sep++sep)++x:=by
 refine Bd ?_
 rw[rS,LZ]
 split
 ·rfl
 ·simp[rS]
theorem GY(sep:ByteArray):ti [] sep=⟨#[]⟩:=by
 refine Bd ?_
 rw[rS,qH,List.map_nil,Lib.join_nil]
theorem Mz:∀(l:List ByteArray),(∀x∈l,x.size≤1000)→Lib.lens (l.map (·.data.toList))≤1000*l.length
 |[],_=>Nat.zero_le _
 |x::l,h=>by
  have hx:=h x (List.mem_cons_self ..)
  have:=Mz l fun y hy=>h y (List.mem_cons_of_mem _ hy)
  have e:Lib.lens ((x::l).map (·.data.toList))=x.data.toList.length+Lib.lens (l.map (·.data.toList)):=by simp[Lib.lens]
  rw[e,uG,List.length_cons];omega
theorem Hg{sep:ByteArray}(hs:sep.size≤1000):∀(l:List ByteArray),(∀x∈l,x.size≤1000)→(qH l sep).length≤2000*l.length
 |[],_=>by rw[qH,List.map_nil,Lib.join_nil];exact Nat.zero_le _
 |x::l,h=>by
  have:=Mz _ h
  have hm:sep.size*l.length≤1000*l.length:=Nat.mul_le_mul_right _ hs
  rw[qH,List.map_cons,Lib.join_length,uG,List.length_map]
  rw[List.map_cons,List.length_cons]at this
  rw[List.length_cons]
  omega
theorem sf{sep:ByteArray}(hs:sep.size≤1000){l:List ByteArray}(h:∀x∈l,x.size≤1000):(ti l sep).size≤2000*l.length:=by
 rw[←uG];exact Hg hs l h
theorem rX(l:List ByteArray)(sep:ByteArray)(hl:l.length≤1000)(hs:sep.size≤1000)(h:∀x∈l,x.size≤1000):Ev (fun k=>mA k (l,sep)) (ti l sep):=by
 refine ax.run (fun k=>GI k _ _) ?_
 simp only[G7]
 refine ax.bind (ax.run (fun k=>yN k _) ?_) (ax.const _)
 simp only[dS]
 have:=Hg hs l h
 rw[if_pos ⟨by omega,by omega⟩]
 exact ax.const _
theorem take_nil{α:Type}{l:List α}{i:Nat}(h:i<l.length):l.take i=[]↔i=0:=by
 rw[List.take_eq_nil_iff]
 exact⟨fun h'=>h'.elim id fun hh=>(by subst hh;cases h),.inl⟩
theorem sJ(l:List ByteArray)(sep:ByteArray)(hl:l.length≤1000)(hs:sep.size≤1000)(h:∀x∈l,x.size≤1000):Ev (fun k=>mg k (l,sep)) (ti l sep):=by
 refine ax.run (fun k=>GK k _ _) ?_
 simp only[HP]
 refine Ev.eq ?_
 refine ak.list (L:=fun k _=>nA k) l (fun(st:ByteArray) i=>(sep,st,l,(l.length:Int),(i:Int))) (fun st i=>st=ti (l.take i) sep) (fun st i x hx hi inv=> ?_) (fun st inv=> ?_) _ (by rw[List.take_zero,GY])
 ·have hxs:=h x (List.mem_of_getElem? hx)
  have hb:st.size≤2000*1000:=by
   rw[inv]
   refine Nat.le_trans (sf hs fun y hy=>h y (List.mem_of_mem_take hy)) ?_
   rw[List.length_take];omega
  have hn:ti (l.take (i+1)) sep=if i=0 then x else(st++sep)++x:=by
   rw[List.take_add_one,hx,Option.toList_some,K7,inv]
   simp only[take_nil hi]
  have c1:st.size+sep.size≤9223372036854775807:=by omega
  have c2:(st++sep).size+x.size≤9223372036854775807:=by rw[ByteArray.size_append];omega
  have c3:st.size+x.size≤9223372036854775807:=by omega
  simp only[nA,Int.ofNat_lt,hi,decide_true,cond_true,Int.natCast_nonneg,if_true,Int.toNat_natCast,hx,Option.bind_some,if_pos c1,if_pos c2,if_pos c3,wS i]
  refine ak.bif (fun h=>ak.const _ (GL.self _ rfl ?_)) (fun h=>ak.const _ (GL.self _ rfl ?_))
  ·have:i≠0:=by have:=of_decide_eq_true h;omega
   rw[hn,if_neg this]
  ·have hz:i=0:=by have:=of_decide_eq_false h;omega
   subst hz
   rw[hn,if_pos rfl,inv,List.take_zero,GY]
   exact Bd (by simp)
 ·rw[List.take_length]at inv
  simp only[nA,Int.lt_irrefl,decide_false,cond_false]
  exact ak.const _ (GE.ret (GR.ret inv))
end Go.Proofs.YtkdcfeopelbojaaGreatDoor

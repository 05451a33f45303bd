/- The tables, the residual functions and lemmas of this seat: parts of the proof of the law; conditions: those that each names. -/
import Derived.Test.YtkdcfeopelbojaaGreatDoorWsn
set_option linter.unusedVariables false
set_option linter.unusedSimpArgs false
set_option maxRecDepth 100000
namespace Go.Proofs.YtkdcfeopelbojaaGreatDoor
open Go.Eng
noncomputable def ug(l:List ByteArray)(sep:ByteArray):ByteArray:=⟨(rX l sep).toArray⟩
theorem sV(l:List ByteArray)(sep:ByteArray):(ug l sep).data.toList=rX l sep:=rfl
theorem L5(l:List ByteArray)(x sep:ByteArray):rX (l++[x]) sep=if l=[]then x.data.toList else rX l sep++sep.data.toList++x.data.toList:=by
 cases l with
 |nil=>simp[rX,Lib.join_one]
 |cons y r=>
  rw[if_neg (List.cons_ne_nil _ _)]
  unfold rX
  rw[List.cons_append,List.map_cons,List.map_cons,Lib.join_cons,Lib.join_cons,List.map_append]
  simp[Lib.joinTail]
theorem Mw(l:List ByteArray)(x sep:ByteArray):ug (l++[x]) sep=if l=[]then x else(ug l sep++sep)++x:=by
 refine AR ?_
 rw[sV,L5]
 split
 ·rfl
 ·simp[sV]
theorem Ia(sep:ByteArray):ug [] sep=⟨#[]⟩:=by
 refine AR ?_
 rw[sV,rX,List.map_nil,Lib.join_nil]
theorem NB:∀(l:List ByteArray),(∀x∈l,x.size≤1000)→Lib.lens (l.map (·.data.toList))≤1000*l.length
 |[],_=>Nat.zero_le _
 |x::l,h=>by
  have hx:=h x (List.mem_cons_self ..)
  have:=NB l fun y hy=>h y (List.mem_cons_of_mem _ hy)
  have e:Lib.lens ((x::l).map (·.data.toList))=x.data.toList.length+Lib.lens (l.map (·.data.toList)):=by simp[Lib.lens]
  rw[e,vS,List.length_cons];omega
theorem IQ{sep:ByteArray}(hs:sep.size≤1000):∀(l:List ByteArray),(∀x∈l,x.size≤1000)→(rX l sep).length≤2000*l.length
 |[],_=>by rw[rX,List.map_nil,Lib.join_nil];exact Nat.zero_le _
 |x::l,h=>by
  have:=NB _ h
  have hm:sep.size*l.length≤1000*l.length:=Nat.mul_le_mul_right _ hs
  rw[rX,List.map_cons,Lib.join_length,vS,List.length_map]
  rw[List.map_cons,List.length_cons]at this
  rw[List.length_cons]
  omega
theorem so{sep:ByteArray}(hs:sep.size≤1000){l:List ByteArray}(h:∀x∈l,x.size≤1000):(ug l sep).size≤2000*l.length:=by
 rw[←vS];exact IQ hs l h
theorem sf(l:List ByteArray)(sep:ByteArray)(hl:l.length≤1000)(hs:sep.size≤1000)(h:∀x∈l,x.size≤1000):Ev (fun k=>my k (l,sep)) (ug l sep):=by
 refine aw.run (fun k=>HM k _ _) ?_
 simp only[II]
 refine aw.bind (aw.run (fun k=>zj k _) ?_) (aw.const _)
 simp only[dT]
 have:=IQ hs l h
 rw[if_pos ⟨by omega,by omega⟩]
 exact aw.const _
theorem take_nil{α:Type}{l:List α}{i:Nat}(h:i<l.length):l.take i=[]↔i=0:=by
 rw[List.take_eq_nil_iff]
 exact⟨fun h'=>h'.elim id fun hh=>(by subst hh;cases h),.inl⟩
theorem sR(l:List ByteArray)(sep:ByteArray)(hl:l.length≤1000)(hs:sep.size≤1000)(h:∀x∈l,x.size≤1000):Ev (fun k=>mS k (l,sep)) (ug l sep):=by
 refine aw.run (fun k=>Ht k _ _) ?_
 simp only[H8]
 refine Ev.eq ?_
 refine ak.list (L:=fun k _=>nJ k) l (fun(st:ByteArray) i=>(sep,st,l,(l.length:Int),(i:Int))) (fun st i=>st=ug (l.take i) sep) (fun st i x hx hi inv=> ?_) (fun st inv=> ?_) _ (by rw[List.take_zero,Ia])
 ·have hxs:=h x (List.mem_of_getElem? hx)
  have hb:st.size≤2000*1000:=by
   rw[inv]
   refine Nat.le_trans (so hs fun y hy=>h y (List.mem_of_mem_take hy)) ?_
   rw[List.length_take];omega
  have hn:ug (l.take (i+1)) sep=if i=0 then x else(st++sep)++x:=by
   rw[List.take_add_one,hx,Option.toList_some,Mw,inv]
   simp only[take_nil hi]
  have c1:st.size+sep.size≤9223372036854775807:=by omega
  have c2:(st++sep).size+x.size≤9223372036854775807:=by rw[ByteArray.size_append];omega
  have c3:st.size+x.size≤9223372036854775807:=by omega
  simp only[nJ,Int.ofNat_lt,hi,decide_true,cond_true,Int.natCast_nonneg,if_true,Int.toNat_natCast,hx,Option.bind_some,if_pos c1,if_pos c2,if_pos c3,wS i]
  refine ak.bif (fun h=>ak.const _ (GL.self _ rfl ?_)) (fun h=>ak.const _ (GL.self _ rfl ?_))
  ·have:i≠0:=by have:=of_decide_eq_true h;omega
   rw[hn,if_neg this]
  ·have hz:i=0:=by have:=of_decide_eq_false h;omega
   subst hz
   rw[hn,if_pos rfl,inv,List.take_zero,Ia]
   exact AR (by simp)
 ·rw[List.take_length]at inv
  simp only[nJ,Int.lt_irrefl,decide_false,cond_false]
  exact ak.const _ (GE.ret (GR.ret inv))
end Go.Proofs.YtkdcfeopelbojaaGreatDoor

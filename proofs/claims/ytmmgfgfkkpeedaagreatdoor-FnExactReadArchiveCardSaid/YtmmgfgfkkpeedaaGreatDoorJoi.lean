/- The tables, the residual functions and lemmas of this seat: parts of the proof of the law; conditions: those that each names. -/
import Derived.Test.YtmmgfgfkkpeedaaGreatDoorAcl
set_option linter.unusedVariables false
set_option linter.unusedSimpArgs false
set_option maxRecDepth 100000
namespace Go.Proofs.YtmmgfgfkkpeedaaGreatDoor
open Go.Eng
theorem wS(i:Nat)(h:i<1000000000000:=by omega):wrapK .i64 ((i:Int)+1)=((i+1:Nat):Int):=by rw[i64w (by omega) (by omega)];omega
noncomputable def joinB(l:List ByteArray)(sep:ByteArray):ByteArray:=⟨(joinD l sep).toArray⟩
theorem joinB_list(l:List ByteArray)(sep:ByteArray):(joinB l sep).data.toList=joinD l sep:=rfl
theorem joinD_snoc(l:List ByteArray)(x sep:ByteArray):joinD (l++[x]) sep=if l=[]then x.data.toList else joinD l sep++sep.data.toList++x.data.toList:=by
 cases l with
 |nil=>simp[joinD,Lib.join_one]
 |cons y r=>
  rw[if_neg (List.cons_ne_nil _ _)]
  unfold joinD
  rw[List.cons_append,List.map_cons,List.map_cons,Lib.join_cons,Lib.join_cons,List.map_append]
  simp[Lib.joinTail]
theorem joinB_snoc(l:List ByteArray)(x sep:ByteArray):joinB (l++[x]) sep=if l=[]then x else(joinB l sep++sep)++x:=by
 refine bext ?_
 rw[joinB_list,joinD_snoc]
 split
 ·rfl
 ·simp[joinB_list]
theorem joinB_nil(sep:ByteArray):joinB [] sep=⟨#[]⟩:=by
 refine bext ?_
 rw[joinB_list,joinD,List.map_nil,Lib.join_nil]
theorem lens_le:∀(l:List ByteArray),(∀x∈l,x.size≤3000000)→Lib.lens (l.map (·.data.toList))≤3000000*l.length
 |[],_=>Nat.zero_le _
 |x::l,h=>by
  have hx:=h x (List.mem_cons_self ..)
  have:=lens_le l fun y hy=>h y (List.mem_cons_of_mem _ hy)
  have e:Lib.lens ((x::l).map (·.data.toList))=x.data.toList.length+Lib.lens (l.map (·.data.toList)):=by simp[Lib.lens]
  rw[e,blen,List.length_cons];omega
theorem joinD_len{sep:ByteArray}(hs:sep.size≤3000000):∀(l:List ByteArray),(∀x∈l,x.size≤3000000)→(joinD l sep).length≤6000000*l.length
 |[],_=>by rw[joinD,List.map_nil,Lib.join_nil];exact Nat.zero_le _
 |x::l,h=>by
  have:=lens_le _ h
  have hm:sep.size*l.length≤3000000*l.length:=Nat.mul_le_mul_right _ hs
  rw[joinD,List.map_cons,Lib.join_length,blen,List.length_map]
  rw[List.map_cons,List.length_cons]at this
  rw[List.length_cons]
  omega
theorem joinB_size{sep:ByteArray}(hs:sep.size≤3000000){l:List ByteArray}(h:∀x∈l,x.size≤3000000):(joinB l sep).size≤6000000*l.length:=by
 rw[←blen];exact joinD_len hs l h
theorem impl_Join_ev(l:List ByteArray)(sep:ByteArray)(hl:l.length≤1000)(hs:sep.size≤3000000)(h:∀x∈l,x.size≤3000000):Ev (fun k=>c_impl_Join k (l,sep)) (joinB l sep):=by
 refine EvQ.run (fun k=>impl_Join_run k _ _) ?_
 simp only[impl_Join]
 refine EvQ.bind (EvQ.run (fun k=>c_strings_Join_run k _) ?_) (EvQ.const _)
 simp only[ext_strings_Join]
 have:=joinD_len hs l h
 rw[if_pos ⟨by omega,by omega⟩]
 exact EvQ.const _
theorem take_nil{α:Type}{l:List α}{i:Nat}(h:i<l.length):l.take i=[]↔i=0:=by
 rw[List.take_eq_nil_iff]
 exact⟨fun h'=>h'.elim id fun hh=>(by subst hh;cases h),.inl⟩
theorem spec_Join_ev(l:List ByteArray)(sep:ByteArray)(hl:l.length≤1000)(hs:sep.size≤3000000)(h:∀x∈l,x.size≤3000000):Ev (fun k=>c_spec_Join k (l,sep)) (joinB l sep):=by
 refine EvQ.run (fun k=>spec_Join_run k _ _) ?_
 simp only[spec_Join]
 refine Ev.eq ?_
 refine EvX.list (L:=fun k _=>spec_Join_l1 k) l (fun(st:ByteArray) i=>(sep,st,l,(l.length:Int),(i:Int))) (fun st i=>st=joinB (l.take i) sep) (fun st i x hx hi inv=> ?_) (fun st inv=> ?_) _ (by rw[List.take_zero,joinB_nil])
 ·have hxs:=h x (List.mem_of_getElem? hx)
  have hb:st.size≤6000000*1000:=by
   rw[inv]
   refine Nat.le_trans (joinB_size hs fun y hy=>h y (List.mem_of_mem_take hy)) ?_
   rw[List.length_take];omega
  have hn:joinB (l.take (i+1)) sep=if i=0 then x else(st++sep)++x:=by
   rw[List.take_add_one,hx,Option.toList_some,joinB_snoc,inv]
   simp only[take_nil hi]
  have c1:st.size+sep.size≤9223372036854775807:=by omega
  have c2:(st++sep).size+x.size≤9223372036854775807:=by rw[ByteArray.size_append];omega
  have c3:st.size+x.size≤9223372036854775807:=by omega
  simp only[spec_Join_l1,Int.ofNat_lt,hi,decide_true,cond_true,Int.natCast_nonneg,if_true,Int.toNat_natCast,hx,Option.bind_some,if_pos c1,if_pos c2,if_pos c3,wS i]
  refine EvX.bif (fun h=>EvX.const _ (GL.self _ rfl ?_)) (fun h=>EvX.const _ (GL.self _ rfl ?_))
  ·have:i≠0:=by have:=of_decide_eq_true h;omega
   rw[hn,if_neg this]
  ·have hz:i=0:=by have:=of_decide_eq_false h;omega
   subst hz
   rw[hn,if_pos rfl,inv,List.take_zero,joinB_nil]
   exact bext (by simp)
 ·rw[List.take_length]at inv
  simp only[spec_Join_l1,Int.lt_irrefl,decide_false,cond_false]
  exact EvX.const _ (GE.ret (GR.ret inv))
end Go.Proofs.YtmmgfgfkkpeedaaGreatDoor

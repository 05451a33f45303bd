/- The tables, the residual functions and lemmas of this seat: parts of the proof of the law; conditions: those that each names. -/
import Derived.Test.YtmmgfgfkkpeedaaGreatDoorFit
import Derived.Test.YtmmgfgfkkpeedaaGreatDoorEng7
set_option linter.unusedVariables false
set_option linter.unusedSimpArgs false
set_option maxRecDepth 100000
namespace Go.Proofs.YtmmgfgfkkpeedaaGreatDoor
open Go.Eng
def cutL(c:UInt8):List UInt8→List (List UInt8)
 |[]=>[[]]
 |x::l=>if x=c then []::cutL c l else match cutL c l with
  |[]=>[[x]]
  |h::t=>(x::h)::t
theorem cut_hit(c:UInt8)(r:List UInt8):∀x:List UInt8,c∉x→cutL c (x++c::r)=x::cutL c r
 |[],_=>by simp[cutL]
 |a::x,h=>by
  have h1:¬a=c:=fun e=>h (by simp[e])
  have h2:=cut_hit c r x fun h'=>h (List.mem_cons_of_mem _ h')
  rw[List.cons_append,cutL,if_neg h1,h2]
theorem cut_miss(c:UInt8):∀x:List UInt8,c∉x→cutL c x=[x]
 |[],_=>rfl
 |a::x,h=>by
  have h1:¬a=c:=fun e=>h (by simp[e])
  have h2:=cut_miss c x fun h'=>h (List.mem_cons_of_mem _ h')
  rw[cutL,if_neg h1,h2]
theorem cut_join(c:UInt8):∀L:List (List UInt8),L≠[]→(∀x∈L,c∉x)→cutL c (Lib.join L [c])=L
 |[],h,_=>absurd rfl h
 |[x],_,h=>by rw[Lib.join_one];exact cut_miss c x (h x (List.mem_cons_self ..))
 |x::y::l,_,h=>by
  have ih:=cut_join c (y::l) (List.cons_ne_nil _ _) fun z hz=>h z (List.mem_cons_of_mem _ hz)
  rw[Lib.join_cons]at ih ⊢
  have e:x++Lib.joinTail [c] (y::l)=x++c::(y++Lib.joinTail [c] l):=by simp[Lib.joinTail]
  rw[e,cut_hit c _ x (h x (List.mem_cons_self ..)),ih]
theorem joinB_ext(l:List ByteArray)(x y sep:ByteArray):joinB (l++[x++y]) sep=joinB (l++[x]) sep++y:=by
 rw[joinB_snoc,joinB_snoc]
 split
 ·rfl
 ·refine bext ?_;simp
theorem ext_succ{s:ByteArray}{f i:Nat}{b:UInt8}(hf:f≤i)(hx:s[i]? =some b):s.extract f (i+1)=s.extract f i++⟨#[b]⟩:=by
 refine bext ?_
 rw[ByteArray.toList_data_append,Lib.extract_data,Lib.extract_data]
 rw[bget]at hx
 have e:i+1-f=(i-f)+1:=by omega
 have e2:(s.data.toList.drop f)[i-f]? =some b:=by rw[List.getElem?_drop,show f+(i-f)=i by omega,hx]
 simp only[e,List.take_add_one,e2]
 rfl
theorem ext_none(s:ByteArray)(i:Nat):s.extract i i=⟨#[]⟩:=by
 refine bext ?_
 rw[Lib.extract_data,Nat.sub_self];rfl
theorem spS_join(s:ByteArray)(c:UInt8):∀i,i≤s.size→joinB ((spS s c i).1++[s.extract (spS s c i).2 i]) ⟨#[c]⟩=s.extract 0 i∧∀x∈(spS s c i).1++[s.extract (spS s c i).2 i],c∉x.data.toList
 |0,_=>by
  refine⟨?_,fun x hx=> ?_⟩
  ·show joinB ([]++[s.extract 0 0]) _=_
   rw[joinB_snoc,if_pos rfl]
  ·have hx:x=s.extract 0 0:=by simpa[spS]using hx
   rw[hx,ext_none];simp
 |i+1,hi=>by
  obtain⟨h1,h2⟩:=spS_join s c i (by omega)
  have b1:=(spS_le s c i).1
  have hx:s[i]? =some s[i]:=getElem?_pos s i (by omega)
  have e0:s.extract 0 (i+1)=s.extract 0 i++⟨#[s[i]]⟩:=ext_succ (Nat.zero_le _) hx
  by_cases h:s[i]=c
  ·rw[spS_yes hx h]
   refine⟨?_,fun x hm=> ?_⟩
   ·simp only
    rw[joinB_snoc,if_neg (by simp),h1,ext_none,e0,h]
    refine bext ?_;simp
   ·simp only at hm
    rcases List.mem_append.1 hm with hm|hm
    ·exact h2 x hm
    ·rw[List.mem_singleton.1 hm,ext_none];simp
  ·rw[spS_no hx h]
   rw[ext_succ b1 hx]
   refine⟨by rw[joinB_ext,h1,e0],fun x hm=> ?_⟩
   rcases List.mem_append.1 hm with hm|hm
   ·exact h2 x (List.mem_append_left _ hm)
   ·rw[List.mem_singleton.1 hm,ByteArray.toList_data_append]
    intro hc
    rcases List.mem_append.1 hc with hc|hc
    ·exact h2 _ (List.mem_append_right _ (List.mem_cons_self ..)) hc
    ·have:c=s[i]:=by simpa using hc
     exact h this.symm
theorem ext_all(s:ByteArray):s.extract 0 s.size=s:=by
 refine bext ?_
 rw[Lib.extract_data,List.drop_zero,Nat.sub_zero,←blen,List.take_length]
theorem split_join(s:ByteArray)(c:UInt8):joinB (splitV s c) ⟨#[c]⟩=s:=by
 have:=(spS_join s c s.size (Nat.le_refl _)).1
 rw[ext_all]at this;exact this
theorem split_lacks(s:ByteArray)(c:UInt8):∀x∈splitV s c,c∉x.data.toList:=(spS_join s c s.size (Nat.le_refl _)).2
theorem split_ne(s:ByteArray)(c:UInt8):splitV s c≠[]:=by simp[splitV]
theorem map_data{L M:List ByteArray}(h:L.map (fun s=>s.data.toList)=M.map (fun s=>s.data.toList)):L=M:=by
 induction L generalizing M with
 |nil=>cases M with
  |nil=>rfl
  |cons _ _=>simp at h
 |cons x L ih=>cases M with
  |nil=>simp at h
  |cons y M=>
   simp only[List.map_cons,List.cons.injEq]at h
   rw[bext h.1,ih h.2]
theorem cut_of{L:List ByteArray}{c:UInt8}(h0:L≠[])(h:∀x∈L,c∉x.data.toList):cutL c (joinB L ⟨#[c]⟩).data.toList=L.map (fun s=>s.data.toList):=by
 rw[joinB_list]
 refine cut_join c _ (by simpa using h0) fun x hx=> ?_
 obtain⟨y,hy,rfl⟩:=List.mem_map.1 hx
 exact h y hy
theorem split_cut(s:ByteArray)(c:UInt8):(splitV s c).map (fun s=>s.data.toList)=cutL c s.data.toList:=by
 rw[←cut_of (split_ne s c) (split_lacks s c),split_join]
theorem join_split{L:List ByteArray}{c:UInt8}(h0:L≠[])(h:∀x∈L,c∉x.data.toList):splitV (joinB L ⟨#[c]⟩) c=L:=by
 refine map_data ?_
 rw[split_cut,cut_of h0 h]
theorem splitK_cut(c:UInt8):∀(k:Nat) (l:List UInt8),l.count c=k→Lib.splitK [c] 0 k l=cutL c l
 |0,l,h=>by rw[cut_miss c l (List.count_eq_zero.1 h)];rfl
 |k+1,l,h=>by
  have hge:=Lib.indexByte_ge l c
  by_cases hm:Lib.indexByte l c= -1
  ·exfalso
   have hn:=Lib.indexByte_none hm
   have:c∈l:=List.count_pos_iff.1 (by omega)
   obtain⟨i,hi⟩:=List.mem_iff_getElem?.1 this
   exact hn i hi
  ·obtain⟨o,ho⟩:∃o:Nat,Lib.indexByte l c=o:=⟨(Lib.indexByte l c).toNat,by omega⟩
   obtain⟨h1,h2⟩:=Lib.indexByte_some ho
   have hl:o<l.length:=(List.getElem?_eq_some_iff.1 h1).1
   have e:l=l.take o++c::l.drop (o+1):=by
    have:l.drop o=c::l.drop (o+1):=by
     rw[List.drop_eq_getElem_cons hl]
     rw[List.getElem?_eq_getElem hl]at h1
     injection h1 with h1;rw[h1]
    rw[←this,List.take_append_drop]
   have hlack:c∉l.take o:=fun hc=>by
    obtain⟨i,hi⟩:=List.mem_iff_getElem?.1 hc
    have hil:i<o:=by have:=(List.getElem?_eq_some_iff.1 hi).1;rw[List.length_take]at this;omega
    exact h2 i hil (by rw[List.getElem?_take_of_lt hil]at hi;exact hi)
   have hcnt:(l.drop (o+1)).count c=k:=by
    have hc2:=h
    rw[e,List.count_append,List.count_cons_self,List.count_eq_zero.2 hlack]at hc2
    omega
   unfold Lib.splitK
   rw[Lib.index_one,ho,if_neg (by simp)]
   simp only[Int.toNat_natCast,Nat.add_zero,List.length_singleton]
   rw[splitK_cut c k _ hcnt]
   conv=>rhs;rw[e]
   rw[cut_hit c _ _ hlack]
theorem splitB_cut(s:ByteArray)(c:UInt8):Lib.splitB ⟨#[c]⟩ 0 (Lib.countB s ⟨#[c]⟩) s=splitV s c:=by
 refine map_data ?_
 have:=Lib.splitB_data ⟨#[c]⟩ 0 (Lib.countB s ⟨#[c]⟩) s
 refine this.trans ?_
 rw[split_cut]
 refine splitK_cut c _ _ ?_
 exact(Lib.count_one c s.data.toList).symm
noncomputable def linesV(t:ByteArray):List ByteArray:=if(splitV t 10).getLast?=some ⟨#[]⟩then(splitV t 10).dropLast else splitV t 10
theorem splitLines_ev{f:Nat→Option (List ByteArray)}(t:ByteArray)(ht:t.size≤1048576)(hf:Ev f (splitV t 10)):
  Ev (fun k=>(f k).bind fun y1=>(if 0≤(wrapK .i64 ((y1.length:Int)-(1:Int)))then(if(wrapK .i64 ((y1.length:Int)-(1:Int)))<(y1.length:Int)then(y1[(wrapK .i64 ((y1.length:Int)-(1:Int))).toNat]?).bind fun y2=>
 (bif (eqS y2 (⟨#[]⟩:ByteArray))then(if 0≤(wrapK .i64 ((y1.length:Int)-(1:Int)))then(if(wrapK .i64 ((y1.length:Int)-(1:Int)))≤(y1.length:Int)then some (y1.take ((wrapK .i64 ((y1.length:Int)-(1:Int))).toNat-0))else none)else none)else some y1)else none)else none)) (linesV t):=by
 refine EvQ.bind hf ?_
 obtain⟨l1,l2⟩:=splitV_ok t 10
 have l0:0<(splitV t 10).length:=List.length_pos_iff.2 (split_ne t 10)
 have hw:wrapK .i64 (((splitV t 10).length:Int)-1)=(((splitV t 10).length-1:Nat):Int):=by rw[i64w (by omega) (by omega)];omega
 have hlt:(splitV t 10).length-1<(splitV t 10).length:=by omega
 have hx:(splitV t 10)[(splitV t 10).length-1]? =some (splitV t 10)[(splitV t 10).length-1]:=List.getElem?_eq_getElem hlt
 simp only[hw,Int.natCast_nonneg,if_true,Int.toNat_natCast,hx,Option.bind_some,Nat.sub_zero]
 rw[if_pos (by omega),if_pos (by omega)]
 have hg:(splitV t 10).getLast?=some (splitV t 10)[(splitV t 10).length-1]:=by rw[List.getLast?_eq_getElem?,hx]
 unfold linesV
 cases h:eqS (splitV t 10)[(splitV t 10).length-1] ⟨#[]⟩with
 |true=>
  rw[if_pos (by rw[hg,(eqS_iff _ _).1 h]),List.dropLast_eq_take]
  exact EvQ.const _
 |false=>
  rw[if_neg fun e=>by rw[hg]at e;injection e with e;rw[(eqS_iff _ _).2 e]at h;cases h]
  exact EvQ.const _
theorem spec_Lines_ev(t:ByteArray)(ht:t.size≤1048576):Ev (fun k=>c_spec_SplitLines k t) (linesV t):=by
 refine EvQ.run (fun k=>spec_SplitLines_run k t) ?_
 simp only[spec_SplitLines]
 exact splitLines_ev t ht (spec_Split_ev t 10 ht)
theorem impl_Lines_ev(t:ByteArray)(ht:t.size≤1048576):Ev (fun k=>c_impl_SplitLines k t) (linesV t):=by
 refine EvQ.run (fun k=>impl_SplitLines_run k t) ?_
 simp only[impl_SplitLines]
 refine splitLines_ev t ht (EvQ.run (fun k=>c_strings_Split_run k _) ?_)
 have e:ext_strings_Split (t,(⟨#[10]⟩:ByteArray))=some (splitV t 10):=by
  unfold ext_strings_Split
  rw[if_pos ⟨by show t.size<_;omega,rfl⟩]
  show some (Lib.splitB ⟨#[10]⟩ 0 (Lib.countB t ⟨#[10]⟩) t)=_
  rw[splitB_cut]
 rw[e];exact EvQ.const _
end Go.Proofs.YtmmgfgfkkpeedaaGreatDoor

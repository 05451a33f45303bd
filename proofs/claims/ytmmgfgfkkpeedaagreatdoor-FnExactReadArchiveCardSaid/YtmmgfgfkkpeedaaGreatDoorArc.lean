/- The tables, the residual functions and lemmas of this seat: parts of the proof of the law; conditions: those that each names. -/
import Derived.Test.YtmmgfgfkkpeedaaGreatDoorItm
set_option linter.unusedVariables false
set_option linter.unusedSimpArgs false
set_option maxRecDepth 100000
namespace Go.Proofs.YtmmgfgfkkpeedaaGreatDoor
open Go.Eng
def txtL(L:List ByteArray):List UInt8:=(L.map fun s=>s.data.toList++[10]).flatten
def endOK(t:ByteArray):Prop:=(splitV t 10).getLast?=some ⟨#[]⟩
theorem joinTail_txt(L:List ByteArray):Lib.joinTail [10] (L.map (·.data.toList))++[10]=10::txtL L:=by
 induction L with
 |nil=>rfl
 |cons x L ih=>
  have e:Lib.joinTail [10] ((x::L).map (·.data.toList))=10::(x.data.toList++Lib.joinTail [10] (L.map (·.data.toList))):=by simp[Lib.joinTail]
  rw[e,List.cons_append,List.append_assoc,ih]
  simp[txtL]
theorem join_txt{L:List ByteArray}(h:L≠[]):(joinB L ⟨#[10]⟩).data.toList++[10]=txtL L:=by
 cases L with
 |nil=>exact absurd rfl h
 |cons x L=>
  rw[joinB_list,joinD,List.map_cons,Lib.join_cons,List.append_assoc]
  show x.data.toList++(Lib.joinTail [10] (L.map (·.data.toList))++[10])=_
  rw[joinTail_txt]
  simp[txtL]
theorem split_last(t:ByteArray):∃Q z,splitV t 10=Q++[z]∧(10:UInt8)∉z.data.toList∧t=if Q=[]then z else(joinB Q ⟨#[10]⟩++⟨#[10]⟩)++z:=by
 refine⟨(spS t 10 t.size).1,t.extract (spS t 10 t.size).2 t.size,rfl,split_lacks t 10 _ (by simp[splitV]), ?_⟩
 rw[←joinB_snoc]
 exact(split_join t 10).symm
theorem lines_txt(t:ByteArray):(⟨(txtL (linesV t)).toArray⟩:ByteArray)=t↔endOK t:=by
 obtain⟨Q,z,hs,hz,ht⟩:=split_last t
 unfold linesV endOK
 rw[hs,List.getLast?_append,List.getLast?_singleton,Option.some_or]
 by_cases h:z=⟨#[]⟩
 ·subst h
  rw[if_pos rfl,List.dropLast_concat]
  refine⟨fun _=>rfl,fun _=> ?_⟩
  conv=>rhs;rw[ht]
  split
  ·rename_i hq;rw[hq];rfl
  ·rename_i hq
   refine bext ?_
   show txtL Q=_
   rw[←join_txt hq];simp
 ·rw[if_neg fun e=>h (by injection e)]
  refine⟨fun e=> ?_,fun e=>absurd (by injection e) h⟩
  exfalso
  have h1:txtL (Q++[z])=t.data.toList:=by rw[←e]
  rw[←join_txt (by simp),←hs,split_join]at h1
  have:=congrArg List.length h1
  simp at this
theorem suffix_ok(t:ByteArray):(t=⟨#[]⟩∨Lib.hasSuffix t.data.toList [10]=true)↔endOK t:=by
 obtain⟨Q,z,hs,hz,ht⟩:=split_last t
 unfold endOK
 rw[hs,List.getLast?_append,List.getLast?_singleton,Option.some_or]
 constructor
 ·intro h
  by_cases hzz:z=⟨#[]⟩
  ·rw[hzz]
  ·exfalso
   have zne:z.data.toList≠[]:=fun e=>hzz (bext e)
   have hl:t.data.toList.getLast?=z.data.toList.getLast?:=by
    have hz2:=List.getLast?_eq_some_getLast zne
    rw[ht]
    split
    ·rfl
    ·rw[ByteArray.toList_data_append,List.getLast?_append,hz2,Option.some_or]
   rcases h with h|h
   ·rw[h,List.getLast?_eq_some_getLast zne]at hl;cases hl
   ·have hsu:[10]<:+t.data.toList:=List.isSuffixOf_iff_suffix.1 h
    obtain⟨r,hr⟩:=hsu
    rw[←hr,List.getLast?_append,List.getLast?_singleton,Option.some_or]at hl
    exact hz (List.mem_of_getLast? hl.symm)
 ·intro h
  have h:z=⟨#[]⟩:=by injection h
  subst h
  by_cases hq:Q=[]
  ·left;rw[ht,if_pos hq]
  ·right
   unfold Lib.hasSuffix
   refine List.isSuffixOf_iff_suffix.2 ⟨(joinB Q ⟨#[10]⟩).data.toList, ?_⟩
   rw[ht,if_neg hq];simp
theorem lens_split(t:ByteArray):((splitV t 10).map fun s=>s.size).sum+((splitV t 10).length-1)=t.size:=by
 have h:(joinB (splitV t 10) ⟨#[10]⟩).data.toList.length=t.data.toList.length:=by rw[split_join]
 rw[blen t,joinB_list]at h
 have key:∀L:List ByteArray,L≠[]→(joinD L ⟨#[10]⟩).length=(L.map fun s=>s.size).sum+(L.length-1):=by
  intro L hL
  cases L with
  |nil=>exact absurd rfl hL
  |cons x L=>
   rw[joinD,List.map_cons,Lib.join_length,List.length_map]
   have e:∀M:List ByteArray,Lib.lens (M.map (·.data.toList))=(M.map fun s=>s.size).sum:=by
    intro M
    induction M with
    |nil=>rfl
    |cons y M ih=>
     have e2:Lib.lens ((y::M).map (·.data.toList))=y.data.toList.length+Lib.lens (M.map (·.data.toList)):=by simp[Lib.lens]
     rw[e2,ih,blen,List.map_cons,List.sum_cons]
   have e:=e (x::L)
   rw[List.map_cons]at e
   rw[e]
   show 1*L.length+_=_+(L.length+1-1)
   omega
 rw[key _ (split_ne t 10)]at h
 exact h
theorem lines_sum(t:ByteArray):((linesV t).map fun s=>s.size).sum≤t.size∧(linesV t).length≤t.size+1∧∀s∈linesV t,s.size≤t.size:=by
 have h:=lens_split t
 obtain⟨l1,l2⟩:=splitV_ok t 10
 unfold linesV
 split
 ·refine⟨?_,by rw[List.length_dropLast];omega,fun s hs=>l2 s (List.dropLast_subset _ hs)⟩
  have e:=List.dropLast_concat_getLast (split_ne t 10)
  have e2:((splitV t 10).map fun s=>s.size).sum=((splitV t 10).dropLast.map fun s=>s.size).sum+((splitV t 10).getLast (split_ne t 10)).size:=by
   conv=>lhs;rw[←e]
   simp
  omega
 ·exact⟨by omega,l1,l2⟩
def isR(t:ByteArray)(xs:List PItem):Prop:=xs.map some=(linesV t).map accV∧endOK t
open Classical in
noncomputable def raV(t:ByteArray):List PItem×Bool:=if h:∃xs,isR t xs then(h.choose,true)else([],false)
theorem ra_of{t:ByteArray}{xs:List PItem}(h:isR t xs):raV t=(xs,true):=by
 have hex:∃xs,isR t xs:=⟨xs,h⟩
 rw[raV,dif_pos hex]
 have:=hex.choose_spec
 have e:=this.1.trans h.1.symm
 rw[show hex.choose=xs from(List.map_inj_right fun a b h=>by injection h).1 e]
theorem ra_no{t:ByteArray}(h:∀xs,¬isR t xs):raV t=([],false):=by rw[raV,dif_neg fun⟨xs,hx⟩=>h xs hx]
theorem ra_bad{t:ByteArray}{l:ByteArray}(hl:l∈linesV t)(h:accV l=none):raV t=([],false):=ra_no fun xs hx=>by
 have:accV l∈(linesV t).map accV:=List.mem_map.2 ⟨l,hl,rfl⟩
 rw[←hx.1,h]at this
 obtain⟨y,_,hy⟩:=List.mem_map.1 this
 cases hy
theorem ra_sizes(t:ByteArray)(ht:t.size≤1048576):szM_ArchiveItemS (raV t).1≤20000000:=by
 obtain⟨h1,h2,_⟩:=lines_sum t
 by_cases hex:∃xs,isR t xs
 ·obtain⟨xs,hx⟩:=hex
  rw[ra_of hx]
  show szM_ArchiveItemS xs≤_
  have hlen:xs.length=(linesV t).length:=by have:=congrArg List.length hx.1;simpa using this
  have key:∀(xs:List PItem) (L:List ByteArray),xs.map some=L.map accV→(xs.map szM_ArchiveItem).sum≤2*(L.map fun s=>s.size).sum+6*L.length:=by
   intro xs
   induction xs with
   |nil=>intro L h;exact Nat.zero_le _
   |cons x xs ih=>
    intro L h
    cases L with
    |nil=>cases h
    |cons l L=>
     simp only[List.map_cons,List.cons.injEq]at h
     have:=ih L h.2
     obtain⟨a1,a2,a3⟩:=acc_sizes h.1.symm
     have e:szM_ArchiveItem x=x.2.1.size+x.2.2.2.1.length+x.2.2.2.2.size:=rfl
     simp only[List.map_cons,List.sum_cons,List.length_cons]
     omega
  have:=key xs _ hx.1
  show xs.length+(xs.map szM_ArchiveItem).sum≤_
  omega
 ·rw[ra_no fun xs hx=>hex ⟨xs,hx⟩];exact Nat.zero_le _
theorem snoc_map{L:List ByteArray}{st:List PItem}{i:Nat}{l:ByteArray}{x:PItem}(h:st.map some=(L.take i).map accV)(hl:L[i]? =some l)(hx:accV l=some x):(st++[x]).map some=(L.take (i+1)).map accV:=by
 rw[List.map_append,h,List.take_add_one,hl,List.map_append]
 simp[hx]
theorem impl_Arc_ev(t:ByteArray)(ht:t.size≤1048576):Ev (fun k=>c_impl_ReadArchive k t) (raV t):=by
 refine EvQ.run (fun k=>impl_ReadArchive_run k t) ?_
 refine Ev.eq ?_
 simp only[impl_ReadArchive]
 obtain⟨l0,l1,l2⟩:=lines_sum t
 have loop:endOK t→EvX (fun k (_:Unit)=>(c_impl_SplitLines k t).bind fun y3=>iter k (impl_ReadArchive_l1 k) (([]:List PItem),y3,(y3.length:Int),(0:Int))) (GR fun r=>r=raV t):=fun hend=>by
  refine EvX.bind (impl_Lines_ev t ht) ?_
  refine EvX.list (L:=fun k _=>impl_ReadArchive_l1 k) (linesV t) (fun(st:List PItem) i=>(st,linesV t,((linesV t).length:Int),(i:Int))) (fun st i=>st.map some=((linesV t).take i).map accV) (fun st i x hx hi inv=> ?_) (fun st inv=> ?_) [] rfl
  ·have hxm:=List.mem_of_getElem? hx
   have hst:st.length≤i:=by have:=congrArg List.length inv;simp only[List.length_map,List.length_take]at this;omega
   simp only[impl_ReadArchive_l1,Int.ofNat_lt,hi,decide_true,cond_true,Int.natCast_nonneg,if_true,Int.toNat_natCast,hx,Option.bind_some,wS i]
   obtain⟨y,b,e1,e2⟩:=impl_Read_ev x (by have:=l2 x hxm;omega)
   refine EvX.bind e1 ?_
   cases b with
   |false=>simp only[Bool.not_false,cond_true];exact EvX.const _ (GL.ret (GR.ret (ra_bad hxm e2).symm))
   |true=>
    simp only[Bool.not_true,cond_false]
    refine EvX.ifp (by show(st.length+1)*72≤capBytes;unfold capBytes;omega) (EvX.const _ (GL.self _ rfl ?_))
    exact snoc_map inv hx e2
  ·simp only[impl_ReadArchive_l1,Int.lt_irrefl,decide_false,cond_false]
   rw[List.take_length]at inv
   exact EvX.const _ (GE.ret (GR.ret (ra_of ⟨inv,hend⟩).symm))
 cases h:eqS t ⟨#[]⟩with
 |true=>
  simp only[Bool.not_true,cond_false,joinK]
  exact loop ((suffix_ok t).1 (.inl ((eqS_iff _ _).1 h)))
 |false=>
  simp only[Bool.not_false,cond_true]
  have hsuf:Ev (fun k=>c_strings_HasSuffix k (t,(⟨#[10]⟩:ByteArray))) (Lib.hasSuffix t.data.toList [10]):=by
   refine EvQ.run (fun k=>c_strings_HasSuffix_run k _) ?_
   have e:ext_strings_HasSuffix (t,(⟨#[10]⟩:ByteArray))=some (Lib.hasSuffix t.data.toList [10]):=if_pos (by show t.size≤_;omega)
   rw[e];exact EvQ.const _
  cases hb:Lib.hasSuffix t.data.toList [10]with
  |false=>
   rw[hb]at hsuf
   have hne:¬endOK t:=fun he=>by
    rcases(suffix_ok t).2 he with q|q
    ·rw[(eqS_iff _ _).2 q]at h;cases h
    ·rw[q]at hb;cases hb
   refine EvX.join (EvX.bind hsuf ?_)
   simp only[Bool.not_false,cond_true,Option.map_some]
   exact EvX.const _ (.inr ⟨_,fun _=>rfl,GR.ret (ra_no fun xs hx=>hne hx.2).symm⟩)
  |true=>
   rw[hb]at hsuf
   refine EvX.join (EvX.bind hsuf ?_)
   simp only[Bool.not_true,cond_false]
   exact EvX.const _ (.inl ⟨t,fun _=>rfl,loop ((suffix_ok t).1 (.inr hb))⟩)
theorem spec_Text_ev(L:List ByteArray)(hl:L.length≤1048577)(hs:∀s∈L,s.size≤1048576):Ev (fun k=>c_spec_l23Text k L) ⟨(txtL L).toArray⟩:=by
 refine EvQ.run (fun k=>spec_l23Text_run k L) ?_
 simp only[spec_l23Text]
 refine Ev.eq ?_
 refine EvX.list (L:=fun k _=>spec_l23Text_l1 k) L (fun(st:ByteArray) i=>(st,L,(L.length:Int),(i:Int))) (fun st i=>st.data.toList=txtL (L.take i)∧st.size≤i*1048577) (fun st i x hx hi inv=> ?_) (fun st inv=> ?_) ⟨#[]⟩ ⟨rfl,Nat.zero_le _⟩
 ·have hxs:=hs x (List.mem_of_getElem? hx)
  have hz:(⟨#[10]⟩:ByteArray).size=1:=rfl
  have hb:=inv.2
  simp only[spec_l23Text_l1,Int.ofNat_lt,hi,decide_true,cond_true,Int.natCast_nonneg,if_true,Int.toNat_natCast,hx,Option.bind_some,wS i]
  refine EvX.ifp (by omega) (EvX.ifp (by rw[app_size];omega) (EvX.const _ (GL.self _ rfl ⟨?_,by rw[app_size,app_size];omega⟩)))
  rw[List.take_add_one,hx,ByteArray.toList_data_append,ByteArray.toList_data_append,inv.1]
  simp[txtL]
 ·simp only[spec_l23Text_l1,Int.lt_irrefl,decide_false,cond_false]
  rw[List.take_length]at inv
  exact EvX.const _ (GE.ret (GR.ret (bext inv.1)))
theorem spec_Arc_ev(t:ByteArray)(ht:t.size≤1048576):Ev (fun k=>c_spec_ReadArchive k t) (raV t):=by
 refine EvQ.run (fun k=>spec_ReadArchive_run k t) ?_
 refine Ev.eq ?_
 simp only[spec_ReadArchive]
 obtain⟨l0,l1,l2⟩:=lines_sum t
 refine EvX.bind (spec_Lines_ev t ht) ?_
 refine EvX.list (L:=fun k _=>spec_ReadArchive_l1 k) (linesV t) (fun(st:List PItem) i=>(t,st,linesV t,(),((linesV t).length:Int),(i:Int))) (fun st i=>st.map some=((linesV t).take i).map accV) (fun st i x hx hi inv=> ?_) (fun st inv=> ?_) [] rfl
 ·have hxm:=List.mem_of_getElem? hx
  have hxs:=l2 x hxm
  have hst:st.length≤i:=by have:=congrArg List.length inv;simp only[List.length_map,List.length_take]at this;omega
  obtain⟨_,m⟩:=splitV_ok x 32
  have hsz:=itX_sizes x
  simp only[spec_ReadArchive_l1,Int.ofNat_lt,hi,decide_true,cond_true,Int.natCast_nonneg,if_true,Int.toNat_natCast,hx,Option.bind_some]
  refine EvX.bind (spec_Split_ev x 32 (by omega)) ?_
  -- behind the join
  have fin:∀y:PItem,y.2.1.size≤1048576→y.2.2.2.2.size≤1048576→y.2.2.2.1.length≤6→(itemP y→fmtV y=x→y=itX (splitV x 32))→4≤(splitV x 32).length→
    (accV x=none∨y=itX (splitV x 32))→
    EvX (fun k (p:Unit×(ByteArray×List PItem×List ByteArray×Unit×Int×Int→Option (List PItem×Bool)))=>(c_spec_FormatItem k y).bind fun v12=>
     (bif (eqS v12 (⟨#[]⟩:ByteArray))then some (([]:List PItem),false)else(c_spec_FormatItem k y).bind fun v13=>
     (bif (!(eqS v13 x))then some (([]:List PItem),false)else(if(st.length+([y]:List PItem).length)*72≤capBytes then p.2 (t,(st++([y]:List PItem)),linesV t,(),((linesV t).length:Int),(wrapK .i64 ((i:Int)+(1:Int))))else none))))
     (GL (fun(st:List PItem) i=>(t,st,linesV t,(),((linesV t).length:Int),(i:Int))) (fun st i=>st.map some=((linesV t).take i).map accV) i (GR fun r=>r=raV t)):=by
   intro y s1 s2 s3 hy hw hor
   have hF:=spec_Item_ev y s1 s2 (by unfold big;omega)
   refine EvX.bind hF (EvX.bif (fun h=>EvX.const _ (GL.ret (GR.ret (ra_bad hxm ?_).symm))) (fun h=>EvX.bind hF (EvX.bif (fun h2=>EvX.const _ (GL.ret (GR.ret (ra_bad hxm ?_).symm))) (fun h2=> ?_))))
   ·rcases hor with h'|h'
    ·exact h'
    ·refine acc_no fun _ e hI=> ?_
     rw[←h',(eqS_iff _ _).1 h]at e
     rw[←e]at hw
     exact absurd hw (by simp[show splitV ⟨#[]⟩ 32=[⟨#[]⟩]from rfl])
   ·rcases hor with h'|h'
    ·exact h'
    ·refine acc_no fun _ e hI=> ?_
     rw[←h']at e
     rw[e,eqS_refl]at h2;cases h2
   ·have e:fmtV y=x:=(eqS_iff _ _).1 (by simpa using h2)
    have hI:itemP y:=fmt_item fun h'=>by rw[h']at h;cases h
    have hyx:=hy hI e
    rw[wS i]
    refine EvX.ifp (by show(st.length+1)*72≤capBytes;unfold capBytes;omega) (EvX.const _ (GL.self _ rfl (snoc_map inv hx ?_)))
    rw[hyx]
    exact acc_yes (by rw[←hyx];exact hI) (by rw[←hyx];exact e)
  refine EvX.bif (fun h=>EvX.const _ (GL.ret (GR.ret (ra_bad hxm ?_).symm))) (fun h=> ?_)
  ·have h:=of_decide_eq_true h
   refine acc_no fun hok _ _=> ?_
   unfold okW at hok
   split at hok
   ·rename_i hw;rw[hw]at h;exact absurd h (by show ¬(4:Int)<4;decide)
   ·rename_i hw;rw[hw]at h;exact absurd h (by show ¬(5:Int)<4;decide)
   ·cases hok
  ·have h:=of_decide_eq_false h
   have hw4:4≤(splitV x 32).length:=by omega
   have hwd:∀y:PItem,itemP y→fmtV y=x→(splitV x 32).length=4∨(splitV x 32).length=5:=fun y hI e=>by rw[words_of hI e];exact words_len y
   have hitx4:∀a b c d,splitV x 32=[a,b,c,d]→itX (splitV x 32)=(eqS a ⟨#[100]⟩,b,(pmV c).1,(paV d).1,⟨#[]⟩):=fun a b c d hw=>by rw[hw];rfl
   have hitx5:∀a b c d e,splitV x 32=[a,b,c,d,e]→itX (splitV x 32)=(eqS a ⟨#[100]⟩,b,(pmV c).1,(paV d).1,(unV e).1):=fun a b c d e hw=>by rw[hw];rfl
   have hlong:5<(splitV x 32).length→accV x=none:=fun hl=>acc_no fun hok _ _=>by
    unfold okW at hok
    split at hok
    ·rename_i hw;rw[hw]at hl;exact absurd hl (by show ¬5<4;decide)
    ·rename_i hw;rw[hw]at hl;exact absurd hl (by show ¬5<5;decide)
    ·cases hok
   generalize hW:splitV x 32=W at m hsz fin hw4 hwd hitx4 hitx5 hlong
   obtain⟨a,b,c,d,R,rfl⟩:∃a b c d R,W=a::b::c::d::R:=by
    match W,hw4 with
    |a::b::c::d::R,_=>exact⟨a,b,c,d,R,rfl⟩
   have mb:=m b (by simp)
   have mc:=m c (by simp)
   have md:=m d (by simp)
   have p0:(0:Int)<(((a::b::c::d::R).length:Nat):Int):=by simp only[List.length_cons];omega
   have p1:(1:Int)<(((a::b::c::d::R).length:Nat):Int):=by simp only[List.length_cons];omega
   have p2:(2:Int)<(((a::b::c::d::R).length:Nat):Int):=by simp only[List.length_cons];omega
   have p3:(3:Int)<(((a::b::c::d::R).length:Nat):Int):=by simp only[List.length_cons];omega
   simp only[p0,p1,p2,p3,show(0:Int)≤2 by decide,show(0:Int)≤3 by decide,show(0:Int)≤1 by decide,show(0:Int)≤4 by decide,Int.le_refl,if_true,show(2:Int).toNat=2 from rfl,show(3:Int).toNat=3 from rfl,show(0:Int).toNat=0 from rfl,show(1:Int).toNat=1 from rfl,show(4:Int).toNat=4 from rfl,List.getElem?_cons_zero,List.getElem?_cons_succ,Option.bind_some]
   refine EvX.bind (spec_PMode_ev c (by omega)) (EvX.bind (spec_PAcl_ev d (by omega)) ?_)
   have l6:=pa_len d
   by_cases h5:R.length=1
   ·obtain⟨e,rfl⟩:=List.length_eq_one_iff.1 h5
    have me:=m e (by simp)
    have mu:=unV_size e
    have hX:=hitx5 a b c d e rfl
    have go:=fin (eqS a ⟨#[100]⟩,b,(pmV c).1,(paV d).1,(unV e).1) (by show b.size≤_;omega) (by show(unV e).1.size≤_;omega) l6 (fun _ _=>hX.symm) (by simp) (.inr hX.symm)
    simp only[show((([a,b,c,d,e].length:Nat):Int)==5)=true from rfl,cond_true,show(4:Int)<(([a,b,c,d,e].length:Nat):Int)from by show(4:Int)<5;decide,if_true,List.getElem?_cons_zero,List.getElem?_cons_succ,Option.bind_some]
    refine EvX.joinT (t,st,linesV t,x,(),(),((linesV t).length:Int),(i:Int),(eqS a ⟨#[100]⟩,b,(pmV c).1,(paV d).1,(unV e).1)) True ?_ fun _=>go
    cases he:eqS e ⟨#[45]⟩with
    |true=>
     simp only[Bool.not_true,cond_false]
     have:(unV e).1=ByteArray.empty:=by rw[unV,if_pos ((eqS_iff _ _).1 he)];rfl
     rw[this]
     exact EvX.const _ (GT.inl trivial)
    |false=>
     simp only[Bool.not_false,cond_true]
     exact EvX.bind (unV_ev e he (spec_UnhexText_ev e (by omega))) (EvX.const _ (GT.inl trivial))
   ·have n5:((((a::b::c::d::R).length:Nat):Int)==5)=false:=by
     rw[beq_eq_false_iff_ne];simp only[List.length_cons];omega
    simp only[n5,cond_false,joinK]
    refine fin (eqS a ⟨#[100]⟩,b,(pmV c).1,(paV d).1,ByteArray.empty) (by show b.size≤_;omega) (Nat.zero_le _) l6 (fun hI e=> ?_) (by simp) ?_
    ·have:=hwd _ hI e
     have hR:R=[]:=List.eq_nil_of_length_eq_zero (by simp only[List.length_cons]at this;omega)
     subst hR
     exact(hitx4 a b c d rfl).symm
    ·by_cases hR:R=[]
     ·subst hR
      exact .inr (hitx4 a b c d rfl).symm
     ·refine .inl (hlong ?_)
      have:R.length≠0:=fun e=>hR (List.eq_nil_of_length_eq_zero e)
      simp only[List.length_cons];omega
 ·simp only[spec_ReadArchive_l1,Int.lt_irrefl,decide_false,cond_false]
  rw[List.take_length]at inv
  refine EvX.bind (spec_Text_ev (linesV t) (by omega) fun s hs=>by have:=l2 s hs;omega) (EvX.bif (fun h=>EvX.const _ (GE.ret (GR.ret (ra_no fun xs hx=> ?_).symm))) (fun h=>EvX.const _ (GE.ret (GR.ret ?_))))
  ·rw[(lines_txt t).2 hx.2,eqS_refl]at h;cases h
  ·have h:=(eqS_iff _ _).1 (show eqS (⟨(txtL (linesV t)).toArray⟩:ByteArray) t=true by simpa using h)
   exact(ra_of ⟨inv,(lines_txt t).1 h⟩).symm
end Go.Proofs.YtmmgfgfkkpeedaaGreatDoor

/- The tables, the residual functions and lemmas of this seat: parts of the proof of the law; conditions: those that each names. -/
import Derived.Test.YtmmgfgfkkpeedaaGreatDoorPac
import Derived.Test.YtmmgfgfkkpeedaaGreatDoorPmo
import Derived.Test.YtmmgfgfkkpeedaaGreatDoorUnh
set_option linter.unusedVariables false
set_option linter.unusedSimpArgs false
set_option maxRecDepth 100000
namespace Go.Proofs.YtmmgfgfkkpeedaaGreatDoor
open Go.Eng
theorem un_size(s:ByteArray):∀(l:List Nat) (acc:List Int) (i:Nat),(foldE (unF s) (fun acc=>(ofBytes acc,true)) acc i l).1.size≤acc.length+l.length
 |[],acc,i=>by simp[foldE,ofBytes_size]
 |x::l,acc,i=>by
  simp only[foldE]
  cases h:unF s acc i x with
  |inl acc'=>
   simp only
   have h1:=un_size s l acc' (i+1)
   have h2:acc'.length=acc.length+1:=by
    unfold unF at h
    split at h
    ·injection h with h;rw[←h,List.length_append];rfl
    ·cases h
   rw[List.length_cons];omega
  |inr r=>
   simp only
   have h2:r=(⟨#[]⟩,false):=by
    unfold unF at h
    split at h
    ·cases h
    ·injection h with h;exact h.symm
   rw[h2];exact Nat.zero_le _
theorem unhex_size(s:ByteArray):(unhexI s).1.size≤s.size:=by
 unfold unhexI
 split
 ·have:=un_size s (List.range (s.size / 2)) [] 0
  rw[List.length_range]at this
  simp only[List.length_nil]at this
  omega
 ·exact Nat.zero_le _
theorem mem_joinB{c:UInt8}{s:ByteArray}:∀{L:List ByteArray},c∈(joinB L s).data.toList→(∃x∈L,c∈x.data.toList)∨c∈s.data.toList
 |[],h=>by rw[joinB_nil]at h;cases h
 |x::r,h=>by
  rw[joinB_list,joinD,List.map_cons,Lib.join_cons]at h
  rcases List.mem_append.1 h with h|h
  ·exact .inl ⟨x,List.mem_cons_self ..,h⟩
  ·rw[Lib.joinTail]at h
   obtain⟨q,hq,hc⟩:=List.mem_flatten.1 h
   obtain⟨y,hy,rfl⟩:=List.mem_map.1 hq
   obtain⟨z,hz,rfl⟩:=List.mem_map.1 hy
   rcases List.mem_append.1 hc with hc|hc
   ·exact .inr hc
   ·exact .inl ⟨z,List.mem_cons_of_mem _ hz,hc⟩
theorem path_lacks{s:ByteArray}(h:pathP s):(32:UInt8)∉s.data.toList:=by
 intro hc
 rw[←split_join s 47]at hc
 rcases mem_joinB hc with⟨x,hx,hc⟩|hc
 ·obtain⟨i,hi⟩:=List.mem_iff_getElem?.1 hc
  exact((h.1 x hx).2 i 32 (by rw[bget];exact hi)).1 rfl
 ·exact absurd hc (by decide)
theorem let32:∀i:Fin 11,letL i.val≠32:=by decide
theorem mode_lacks{m:Int}(h:0≤m∧m≤2047):(32:UInt8)∉(modeT m).data.toList:=by
 intro hc
 obtain⟨i,hi⟩:=List.mem_iff_getElem?.1 hc
 have ok:=ok_of_mode h rfl
 have hil:i<11:=by have:=(List.getElem?_eq_some_iff.1 hi).1;rw[blen,modeT_11 h]at this;exact this
 rcases ok.2 i 32 (by rw[bget];exact hi)with e|e
 ·exact absurd e (by decide)
 ·exact let32 ⟨i,hil⟩ e.symm
theorem pB32:∀(a:Fin 4) (i:Fin 4) (p:Fin 8),(32:UInt8)∉(pB a.val i.val p.val).data.toList:=by decide+kernel
theorem acl_lacks{l:List PAcl}(h:aclP l):(32:UInt8)∉(aclT l).data.toList:=by
 unfold aclT
 split
 ·decide
 ·intro hc
  rcases mem_joinB hc with⟨x,hx,hc⟩|hc
  ·obtain⟨e,he,rfl⟩:=List.mem_map.1 hx
   obtain⟨i,hi⟩:=List.mem_iff_getElem?.1 he
   obtain⟨a,j,p,_,h1,h2,h3,h4,h5⟩:=part_form (h.2.1 i e hi).1
   rw[h5]at hc
   exact pB32 ⟨a,by omega⟩ ⟨j,by omega⟩ ⟨p,by omega⟩ hc
  ·exact absurd hc (by decide)
theorem hexD32:∀n:Fin 16,UInt8.ofNat ((hexD n.val).toNat:Int).toNat≠32∧UInt8.ofNat ((hexD n.val).toNat:Int).toNat≠45:=by decide+kernel
theorem hexL_ne{s:ByteArray}(c:UInt8)(hc:∀n:Fin 16,UInt8.ofNat ((hexD n.val).toNat:Int).toNat≠c):c∉(ofBytes (hexL s)).data.toList:=by
 intro h
 rw[ofBytes_list]at h
 obtain⟨x,hx,e⟩:=List.mem_map.1 h
 rw[hexL]at hx
 obtain⟨b,_,hb⟩:=List.mem_flatMap.1 hx
 have hm:b.toNat<256:=UInt8.toNat_lt _
 simp only[hexP,List.mem_cons,List.not_mem_nil,or_false]at hb
 rcases hb with rfl|rfl
 ·exact hc ⟨b.toNat / 16,by omega⟩ e
 ·exact hc ⟨b.toNat % 16,by omega⟩ e
theorem hex_lacks(s:ByteArray):(32:UInt8)∉(hexT s).data.toList:=by
 unfold hexT
 split
 ·decide
 ·exact hexL_ne 32 fun n=>(hexD32 n).1
def unV(e:ByteArray):ByteArray×Bool:=if e=⟨#[45]⟩then(⟨#[]⟩,true)else unhexI e
theorem un_hex(s:ByteArray):(unV (hexT s)).2=true:=by
 unfold hexT
 split
 ·rfl
 ·rw[unV,if_neg,unhex_hex]
  intro e
  have:=hexL_ne (s:=s) 45 fun n=>(hexD32 n).2
  rw[e]at this
  exact this (by decide)
theorem unV_size(e:ByteArray):(unV e).1.size≤e.size:=by
 unfold unV
 split
 ·exact Nat.zero_le _
 ·exact unhex_size e
noncomputable def itX:List ByteArray→PItem
 |[a,b,c,d]=>(eqS a ⟨#[100]⟩,b,(pmV c).1,(paV d).1,⟨#[]⟩)
 |[a,b,c,d,e]=>(eqS a ⟨#[100]⟩,b,(pmV c).1,(paV d).1,(unV e).1)
 |_=>(false,⟨#[]⟩,0,[],⟨#[]⟩)
noncomputable def okW:List ByteArray→Bool
 |[_,_,c,d]=>(pmV c).2&&(paV d).2
 |[_,_,c,d,e]=>(pmV c).2&&(paV d).2&&(unV e).2
 |_=>false
noncomputable def wordsV(x:PItem):List ByteArray:=if x.1=true then [⟨#[100]⟩,x.2.1,modeT x.2.2.1,aclT x.2.2.2.1]else [⟨#[102]⟩,x.2.1,modeT x.2.2.1,aclT x.2.2.2.1,hexT x.2.2.2.2]
theorem words_of{x:PItem}{line:ByteArray}(h:itemP x)(e:fmtV x=line):splitV line 32=wordsV x:=by
 have h32:=path_lacks h.1
 have hm:=mode_lacks h.2.1
 have ha:=acl_lacks h.2.2.1
 have hh:=hex_lacks x.2.2.2.2
 have hj:line=joinB (wordsV x) ⟨#[32]⟩:=by
  rw[←e,fmtV,if_pos h,lineB,wordsV]
  split
  ·rw[join4];refine bext ?_;simp[restB,spaceB]
  ·rw[join5];refine bext ?_;simp[restB,spaceB]
 rw[hj]
 refine join_split (by unfold wordsV;split<;>simp) fun y hy=> ?_
 unfold wordsV at hy
 split at hy
 ·simp only[List.mem_cons,List.not_mem_nil,or_false]at hy
  rcases hy with rfl|rfl|rfl|rfl
  ·decide
  ·exact h32
  ·exact hm
  ·exact ha
 ·simp only[List.mem_cons,List.not_mem_nil,or_false]at hy
  rcases hy with rfl|rfl|rfl|rfl|rfl
  ·decide
  ·exact h32
  ·exact hm
  ·exact ha
  ·exact hh
theorem words_ok{x:PItem}(h:itemP x):okW (wordsV x)=true:=by
 have h1:=pm_mode h.2.1
 have h2:=pa_acl h.2.2.1
 have h3:=un_hex x.2.2.2.2
 unfold wordsV
 split
 ·simp[okW,h1,h2]
 ·simp[okW,h1,h2,h3]
theorem words_len(x:PItem):(wordsV x).length=4∨(wordsV x).length=5:=by unfold wordsV;split<;>simp
theorem not_item:¬itemP ((false,⟨#[]⟩,0,[],⟨#[]⟩):PItem):=by
 intro h
 have h1:=(h.1.1 ⟨#[]⟩ (by show _∈([⟨#[]⟩]:List ByteArray);simp)).1
 have:1≤(⟨#[]⟩:ByteArray).size:=h1.1.1
 cases this
open Classical in
noncomputable def accV(line:ByteArray):Option PItem:=if itemP (itX (splitV line 32))∧fmtV (itX (splitV line 32))=line then some (itX (splitV line 32))else none
theorem acc_yes{line:ByteArray}(h:itemP (itX (splitV line 32)))(e:fmtV (itX (splitV line 32))=line):accV line=some (itX (splitV line 32)):=if_pos ⟨h,e⟩
theorem acc_no{line:ByteArray}(h:okW (splitV line 32)=true→fmtV (itX (splitV line 32))=line→¬itemP (itX (splitV line 32))):accV line=none:=by
 refine if_neg fun hh=>h ?_ hh.2 hh.1
 have:=words_of hh.1 hh.2
 rw[this];exact words_ok hh.1
theorem fmt_item{x:PItem}(h:fmtV x≠⟨#[]⟩):itemP x:=by
 apply Classical.byContradiction
 intro hn
 exact h (if_neg hn)
theorem itX_sizes(line:ByteArray):(itX (splitV line 32)).2.1.size≤line.size∧(itX (splitV line 32)).2.2.2.1.length≤6∧(itX (splitV line 32)).2.2.2.2.size≤line.size:=by
 obtain⟨_,m⟩:=splitV_ok line 32
 generalize splitV line 32=w at m
 unfold itX
 split
 ·rename_i a b c d
  exact⟨m b (by simp),pa_len d,Nat.zero_le _⟩
 ·rename_i a b c d e
  exact⟨m b (by simp),pa_len d,Nat.le_trans (unV_size e) (m e (by simp))⟩
 ·exact⟨Nat.zero_le _,Nat.zero_le _,Nat.zero_le _⟩
theorem acc_sizes{line:ByteArray}{x:PItem}(h:accV line=some x):x.2.1.size≤line.size∧x.2.2.2.1.length≤6∧x.2.2.2.2.size≤line.size:=by
 unfold accV at h
 split at h
 ·injection h with h;rw[←h];exact itX_sizes line
 ·cases h
theorem unV_ev{f:Nat→Option (ByteArray×Bool)}(e:ByteArray)(h:eqS e ⟨#[45]⟩=false) (hf:Ev f (unhexI e)):Ev f (unV e):=by
 rw[unV,if_neg fun q=>by rw[(eqS_iff _ _).2 q]at h;cases h];exact hf
theorem four_list{α:Type}{l:List α}(h:l.length=4):∃a b c d,l=[a,b,c,d]:=by
 match l,h with
 |[a,b,c,d],_=>exact⟨a,b,c,d,rfl⟩
theorem five_list{α:Type}{l:List α}(h:l.length=5):∃a b c d e,l=[a,b,c,d,e]:=by
 match l,h with
 |[a,b,c,d,e],_=>exact⟨a,b,c,d,e,rfl⟩
theorem impl_Read_ev(line:ByteArray)(hl:line.size≤1048576):∃x b,Ev (fun k=>c_impl_readItem k line) (x,b)∧accV line=bif b then some x else none:=by
 suffices h:∃r:PItem×Bool,Ev (fun k=>impl_readItem k line) r∧accV line=bif r.2 then some r.1 else none by
  obtain⟨r,h1,h2⟩:=h
  exact⟨r.1,r.2,EvQ.run (fun k=>impl_readItem_run k line) h1,h2⟩
 refine Ev.of (Q:=fun r:PItem×Bool=>accV line=bif r.2 then some r.1 else none) ?_
 simp only[impl_readItem]
 refine EvX.bind (impl_Split_ev line 32 hl) ?_
 obtain⟨_,m⟩:=splitV_ok line 32
 have hsz:=itX_sizes line
 have fin:∀b:Bool,b=okW (splitV line 32)→b=true→EvX (fun k (_:Unit)=>(c_impl_FormatItem k (itX (splitV line 32))).bind fun y13=>some (itX (splitV line 32),eqS y13 line)) (GR fun r:PItem×Bool=>accV line=bif r.2 then some r.1 else none):=fun b hb hb2=>by
  refine EvX.bind (impl_Item_ev _ (by omega)) (EvX.const _ (GR.ret ?_))
  show accV line=bif eqS (fmtV (itX (splitV line 32))) line then some (itX (splitV line 32))else none
  cases he:eqS (fmtV (itX (splitV line 32))) line with
  |false=>exact acc_no fun _ e=>by rw[(eqS_iff _ _).2 e]at he;cases he
  |true=>
   have e:=(eqS_iff _ _).1 he
   refine acc_yes (fmt_item fun h0=> ?_) e
   rw[h0]at e
   rw[←e]at hb
   rw[hb]at hb2
   exact absurd hb2 (by simp[show splitV ⟨#[]⟩ 32=[⟨#[]⟩]from rfl,okW])
 have no:okW (splitV line 32)=false→accV line=none:=fun h=>acc_no fun h'=>by rw[h]at h';cases h'
 by_cases h4:(splitV line 32).length=4
 ·obtain⟨a,b,c,d,hw⟩:=four_list h4
  have hok:okW (splitV line 32)=((pmV c).2&&(paV d).2):=by rw[hw];rfl
  have hx:itX (splitV line 32)=(eqS a ⟨#[100]⟩,b,(pmV c).1,(paV d).1,⟨#[]⟩):=by rw[hw];rfl
  rw[hw]at m
  have mc:=m c (by simp)
  have md:=m d (by simp)
  rw[hx]at fin
  rw[hw]
  simp only[show((([a,b,c,d].length:Nat):Int) != 4)=false from rfl,cond_false,joinK,show(0:Int)≤2 by decide,show(0:Int)≤3 by decide,show(0:Int)≤1 by decide,Int.le_refl,if_true,show(2:Int)<(([a,b,c,d].length:Nat):Int)from by show(2:Int)<4;decide,show(3:Int)<(([a,b,c,d].length:Nat):Int)from by show(3:Int)<4;decide,show(0:Int)<(([a,b,c,d].length:Nat):Int)from by show(0:Int)<4;decide,show(1:Int)<(([a,b,c,d].length:Nat):Int)from by show(1:Int)<4;decide,show(2:Int).toNat=2 from rfl,show(3:Int).toNat=3 from rfl,show(0:Int).toNat=0 from rfl,show(1:Int).toNat=1 from rfl,List.getElem?_cons_zero,List.getElem?_cons_succ,Option.bind_some,show((([a,b,c,d].length:Nat):Int)==5)=false from rfl]
  refine EvX.bind (impl_PMode_ev c (by omega)) (EvX.bind (impl_PAcl_ev d (by omega)) ?_)
  cases h1:(pmV c).2 with
  |false=>simp only[cond_false];exact EvX.const _ (GR.ret (no (by rw[hok,h1];rfl)))
  |true=>
   cases h2:(paV d).2 with
   |false=>simp only[cond_false,cond_true];exact EvX.const _ (GR.ret (no (by rw[hok,h1,h2];rfl)))
   |true=>simp only[cond_true];exact fin true (by rw[hok,h1,h2];rfl) rfl
 by_cases h5:(splitV line 32).length=5
 ·obtain⟨a,b,c,d,e,hw⟩:=five_list h5
  have hok:okW (splitV line 32)=((pmV c).2&&(paV d).2&&(unV e).2):=by rw[hw];rfl
  have hx:itX (splitV line 32)=(eqS a ⟨#[100]⟩,b,(pmV c).1,(paV d).1,(unV e).1):=by rw[hw];rfl
  rw[hw]at m
  have mc:=m c (by simp)
  have md:=m d (by simp)
  have me:=m e (by simp)
  rw[hx]at fin
  rw[hw]
  simp only[show((([a,b,c,d,e].length:Nat):Int) != 4)=true from rfl,show((([a,b,c,d,e].length:Nat):Int) != 5)=false from rfl,cond_true,cond_false,joinK,show(0:Int)≤2 by decide,show(0:Int)≤3 by decide,show(0:Int)≤1 by decide,show(0:Int)≤4 by decide,Int.le_refl,if_true,show(2:Int)<(([a,b,c,d,e].length:Nat):Int)from by show(2:Int)<5;decide,show(3:Int)<(([a,b,c,d,e].length:Nat):Int)from by show(3:Int)<5;decide,show(0:Int)<(([a,b,c,d,e].length:Nat):Int)from by show(0:Int)<5;decide,show(1:Int)<(([a,b,c,d,e].length:Nat):Int)from by show(1:Int)<5;decide,show(4:Int)<(([a,b,c,d,e].length:Nat):Int)from by show(4:Int)<5;decide,show(2:Int).toNat=2 from rfl,show(3:Int).toNat=3 from rfl,show(0:Int).toNat=0 from rfl,show(1:Int).toNat=1 from rfl,show(4:Int).toNat=4 from rfl,List.getElem?_cons_zero,List.getElem?_cons_succ,Option.bind_some,show((([a,b,c,d,e].length:Nat):Int)==5)=true from rfl]
  refine EvX.bind (impl_PMode_ev c (by omega)) (EvX.bind (impl_PAcl_ev d (by omega)) ?_)
  have go:∀u:ByteArray×Bool,u=unV e→EvX (fun k (_:Unit)=>(bif (pmV c).2 then(bif (paV d).2 then(bif u.2 then(c_impl_FormatItem k (eqS a ⟨#[100]⟩,b,(pmV c).1,(paV d).1,u.1)).bind fun y13=>
    some ((eqS a ⟨#[100]⟩,b,(pmV c).1,(paV d).1,u.1),(eqS y13 line))else some ((eqS a ⟨#[100]⟩,b,(pmV c).1,(paV d).1,u.1),false))else some ((eqS a ⟨#[100]⟩,b,(pmV c).1,(paV d).1,u.1),false))else some ((eqS a ⟨#[100]⟩,b,(pmV c).1,(paV d).1,u.1),false))) (GR fun r:PItem×Bool=>accV line=bif r.2 then some r.1 else none):=by
   rintro u rfl
   cases h1:(pmV c).2 with
   |false=>simp only[cond_false];exact EvX.const _ (GR.ret (no (by rw[hok,h1];rfl)))
   |true=>
    cases h2:(paV d).2 with
    |false=>simp only[cond_false,cond_true];exact EvX.const _ (GR.ret (no (by rw[hok,h1,h2];rfl)))
    |true=>
     cases h3:(unV e).2 with
     |false=>simp only[cond_false,cond_true];exact EvX.const _ (GR.ret (no (by rw[hok,h1,h2,h3];rfl)))
     |true=>simp only[cond_true];exact fin true (by rw[hok,h1,h2,h3];rfl) rfl
  cases he:eqS e ⟨#[45]⟩with
  |true=>
   simp only[Bool.not_true,cond_false]
   exact go (⟨#[]⟩,true) (by rw[unV,if_pos ((eqS_iff _ _).1 he)])
  |false=>
   simp only[Bool.not_false,cond_true]
   refine EvX.joinT (line,(),(pmV c).2,(paV d).2,(),(unV e).2,(eqS a ⟨#[100]⟩,b,(pmV c).1,(paV d).1,(unV e).1),(false,ByteArray.empty,(0:Int),[],ByteArray.empty)) True ?_ fun _=>go _ rfl
   exact EvX.bind (unV_ev e he (impl_UnhexText_ev e (by omega))) (EvX.const _ (GT.inl trivial))
 ·rw[show((((splitV line 32).length:Nat):Int) != 4)=true from bne_iff_ne.2 (by omega),show((((splitV line 32).length:Nat):Int) != 5)=true from bne_iff_ne.2 (by omega)]
  simp only[cond_true,Option.map_some,joinK]
  refine EvX.const _ (GR.ret (Q:=fun r:PItem×Bool=>accV line=bif r.2 then some r.1 else none) (no ?_))
  unfold okW
  split
  ·rename_i hw;rw[hw]at h4;exact absurd rfl h4
  ·rename_i hw;rw[hw]at h5;exact absurd rfl h5
  ·rfl
end Go.Proofs.YtmmgfgfkkpeedaaGreatDoor

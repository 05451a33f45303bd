/- The tables, the residual functions and lemmas of this seat: parts of the proof of the law; conditions: those that each names. -/
import Derived.Test.YtmmgfgfkkpeedaaGreatDoorPin
set_option linter.unusedVariables false
set_option linter.unusedSimpArgs false
set_option maxRecDepth 100000
namespace Go.Proofs.YtmmgfgfkkpeedaaGreatDoor
open Go.Eng
def lt8(a:Nat):UInt8:=if a=1 then 117 else if a=2 then 103 else 109
def pB(a i p:Nat):ByteArray:=⟨#[lt8 a,UInt8.ofNat (48+i),58,UInt8.ofNat (48+p)]⟩
theorem part_form{e:PAcl}(h:entP e):∃a i p:Nat,e=((a:Int),(i:Int),(p:Int))∧1≤a∧a≤3∧i≤3∧p≤7∧partB e=pB a i p:=by
 obtain⟨e1,e2,e3⟩:=e
 have h0:0≤e3:=h.1
 have h1:e3≤7:=h.2.1
 have h2:(e1=1∨e1=2∨e1=3)∧0≤e2∧e2≤3:=by
  rcases h.2.2 with⟨q,r⟩|⟨q,r⟩
  ·have q:e1=1∨e1=2:=q
   have r:0≤e2∧e2≤3:=r
   exact⟨by omega,r⟩
  ·have q:e1=3:=q
   have r:e2=0:=r
   exact⟨by omega,by omega⟩
 obtain⟨h2,h3,h4⟩:=h2
 obtain⟨i,rfl⟩:=Int.eq_ofNat_of_zero_le h3
 obtain⟨p,rfl⟩:=Int.eq_ofNat_of_zero_le h0
 obtain⟨a,rfl⟩:∃a:Nat,e1=(a:Int):=⟨e1.toNat,by omega⟩
 refine⟨a,i,p,rfl,by omega,by omega,by omega,by omega, ?_⟩
 have ha:a=1∨a=2∨a=3:=by omega
 have hl:letB a=⟨#[lt8 a]⟩:=by rcases ha with rfl|rfl|rfl<;>decide
 have z1:=itoa_small (n:=i) (by omega)
 have z2:=itoa_small (n:=p) (by omega)
 show((letB (a:Int).toNat++itoaB (i:Int))++⟨#[58]⟩)++itoaB (p:Int)=_
 rw[Int.toNat_natCast,hl,z1,z2]
 rfl
theorem pB_all:∀(a:Fin 4) (i:Fin 4) (p:Fin 8),1≤a.val→(44:UInt8)∉(pB a.val i.val p.val).data.toList∧(58:UInt8)∉([lt8 a.val,UInt8.ofNat (48+i.val)]:List UInt8)∧(58:UInt8)∉([UInt8.ofNat (48+p.val)]:List UInt8)∧
  (1+Lib.indexByte [117,103,109] (lt8 a.val)=(a.val:Int))∧(UInt8.ofNat (48+i.val)).toNat=48+i.val∧(UInt8.ofNat (48+p.val)).toNat=48+p.val:=by decide+kernel
theorem part_at{e:PAcl}(h:entP e):(44:UInt8)∉(partB e).data.toList∧(partB e).size=4:=by
 obtain⟨a,i,p,rfl,h1,h2,h3,h4,h5⟩:=part_form h
 rw[h5]
 exact⟨(pB_all ⟨a,by omega⟩ ⟨i,by omega⟩ ⟨p,by omega⟩ h1).1,rfl⟩
theorem acl_split{l:List PAcl}(h:aclP l)(h0:l≠[]):splitV (aclT l) 44=l.map partB:=by
 rw[aclT,if_neg h0]
 refine join_split (by simpa using h0) fun x hx=> ?_
 obtain⟨e,he,rfl⟩:=List.mem_map.1 hx
 obtain⟨i,hi⟩:=List.mem_iff_getElem?.1 he
 exact(part_at (h.2.1 i e hi).1).1
def entI(x:ByteArray):PAcl:=(1+Lib.indexByte [117,103,109] (x[0]?.getD 0),((x[1]?.getD 0).toNat:Int)-48,((x[3]?.getD 0).toNat:Int)-48)
theorem entI_part{e:PAcl}(h:entP e):entI (partB e)=e:=by
 obtain⟨a,i,p,rfl,h1,h2,h3,h4,h5⟩:=part_form h
 rw[h5]
 obtain⟨_,_,_,q1,q2,q3⟩:=pB_all ⟨a,by omega⟩ ⟨i,by omega⟩ ⟨p,by omega⟩ h1
 show(1+Lib.indexByte [117,103,109] (lt8 a),((UInt8.ofNat (48+i)).toNat:Int)-48,((UInt8.ofNat (48+p)).toNat:Int)-48)=_
 simp only at q1 q2 q3
 rw[q1,q2,q3]
 refine Prod.ext rfl (Prod.ext ?_ ?_)
 ·show((48+i:Nat):Int)-48=(i:Int);omega
 ·show((48+p:Nat):Int)-48=(p:Int);omega
theorem acl_ents{l:List PAcl}(h:aclP l)(h0:l≠[])(g:ByteArray→PAcl)(hg:∀e,entP e→g (partB e)=e):(splitV (aclT l) 44).map g=l:=by
 rw[acl_split h h0,List.map_map]
 refine List.ext_getElem? fun i=> ?_
 rw[List.getElem?_map]
 cases hi:l[i]? with
 |none=>rfl
 |some e=>exact congrArg some (hg e (h.2.1 i e hi).1)
theorem acl_inj{l m:List PAcl}(h:aclP l)(h':aclP m)(h0:l≠[])(h0':m≠[])(e:aclT l=aclT m):l=m:=by
 rw[←acl_ents h h0 entI fun e he=>entI_part he,e,acl_ents h' h0' entI fun e he=>entI_part he]
def isA(t:ByteArray)(l:List PAcl):Prop:=l≠[]∧aclP l∧aclT l=t
open Classical in
noncomputable def paV(t:ByteArray):List PAcl×Bool:=if t=⟨#[45]⟩then([],true)else if h:∃l,isA t l then(h.choose,true)else([],false)
theorem isA_dash{l:List PAcl}{t:ByteArray}(h:isA t l):t≠⟨#[45]⟩∧t≠⟨#[]⟩:=by
 obtain⟨h0,h1,rfl⟩:=h
 have hs:=acl_split h1 h0
 have key:∀s:ByteArray,s.size<4→(44:UInt8)∉s.data.toList→aclT l≠s:=fun s hz hc e=>by
  have hs':splitV (aclT l) 44=[s]:=by
   rw[e]
   have:=join_split (L:=[s]) (c:=44) (List.cons_ne_nil _ _) fun x hx=>by rw[List.mem_singleton.1 hx];exact hc
   have e1:joinB [s] ⟨#[44]⟩=s:=by refine bext ?_;rw[joinB_list];simp[joinD,Lib.join_one]
   rw[e1]at this;exact this
  rw[hs]at hs'
  cases l with
  |nil=>exact h0 rfl
  |cons x r=>
   simp only[List.map_cons,List.cons.injEq]at hs'
   have:=(part_at (h1.2.1 0 x rfl).1).2
   rw[hs'.1]at this
   omega
 exact⟨key _ (by show 1<4;omega) (by decide),key _ (by show 0<4;omega) (by decide)⟩
theorem pa_of{t:ByteArray}{l:List PAcl}(h:isA t l):paV t=(l,true):=by
 have hex:∃l,isA t l:=⟨l,h⟩
 rw[paV,if_neg (isA_dash h).1,dif_pos hex]
 obtain⟨h0,h1,h2⟩:=hex.choose_spec
 rw[acl_inj h1 h.2.1 h0 h.1 (h2.trans h.2.2.symm)]
theorem pa_no{t:ByteArray}(h:t≠⟨#[45]⟩) (h':∀l,¬isA t l):paV t=([],false):=by
 rw[paV,if_neg h,dif_neg fun⟨l,hl⟩=>h' l hl]
theorem pa_dash:paV ⟨#[45]⟩=([],true):=by rw[paV,if_pos rfl]
theorem pa_acl{l:List PAcl}(h:aclP l):(paV (aclT l)).2=true:=by
 by_cases h0:l=[]
 ·subst h0;rw[aclT,if_pos rfl,pa_dash]
 ·rw[pa_of ⟨h0,h,rfl⟩]
theorem pa_len(t:ByteArray):(paV t).1.length≤6:=by
 unfold paV
 split
 ·exact Nat.zero_le _
 ·split
  ·rename_i h
   exact h.choose_spec.2.1.1
  ·exact Nat.zero_le _
open Classical in
noncomputable def fmtA(l:List PAcl):ByteArray:=if aclP l then aclT l else⟨#[]⟩
theorem impl_FAcl_ev(l:List PAcl):Ev (fun k=>c_impl_FormatAcl k l) (fmtA l):=by
 by_cases h:aclP l
 ·rw[fmtA,if_pos h];exact impl_Acl_ev h
 ·rw[fmtA,if_neg h]
  refine EvQ.run (fun k=>impl_FormatAcl_run k _) ?_
  simp only[impl_FormatAcl]
  obtain⟨b,e1,e2⟩:=impl_IsAcl_say l
  have hb:b=false:=by cases b with
   |false=>rfl
   |true=>exact absurd (e2.1 rfl) h
  subst hb
  refine EvQ.bind e1 ?_
  exact EvQ.const _
theorem spec_FAcl_ev(l:List PAcl)(hl:l.length<big):Ev (fun k=>c_spec_FormatAcl k l) (fmtA l):=by
 by_cases h:aclP l
 ·rw[fmtA,if_pos h];exact spec_Acl_ev h
 ·rw[fmtA,if_neg h]
  refine EvQ.run (fun k=>spec_FormatAcl_run k _) ?_
  simp only[spec_FormatAcl]
  obtain⟨b,e1,e2⟩:=spec_IsAcl_say l hl
  have hb:b=false:=by cases b with
   |false=>rfl
   |true=>exact absurd (e2.1 rfl) h
  subst hb
  refine EvQ.bind e1 ?_
  exact EvQ.const _
theorem dash_split:splitV ⟨#[45]⟩ 44=[⟨#[45]⟩]:=by
 have:=join_split (L:=[⟨#[45]⟩]) (c:=44) (List.cons_ne_nil _ _) fun x hx=>by rw[List.mem_singleton.1 hx];decide
 have e1:joinB [⟨#[45]⟩] ⟨#[44]⟩=⟨#[45]⟩:=by refine bext ?_;rw[joinB_list];simp[joinD,Lib.join_one]
 rw[e1]at this;exact this
theorem none_split:splitV ⟨#[]⟩ 44=[⟨#[]⟩]:=rfl
theorem mem_take_map{α β:Type}{l:List α}{g:α→β}{i:Nat}{x:α}(hx:l[i]? =some x):(l.take (i+1)).map g=(l.take i).map g++[g x]:=take_map g hx
theorem impl_PAcl_ev(t:ByteArray)(ht:t.size≤1048576):Ev (fun k=>c_impl_ParseAcl k t) (paV t):=by
 refine EvQ.run (fun k=>impl_ParseAcl_run k t) ?_
 simp only[impl_ParseAcl]
 cases h45:eqS t ⟨#[45]⟩with
 |true=>
  rw[(eqS_iff _ _).1 h45,pa_dash]
  exact EvQ.const _
 |false=>
 have hne:t≠⟨#[45]⟩:=fun e=>by rw[(eqS_iff _ _).2 e]at h45;cases h45
 simp only[cond_false]
 refine EvQ.bind (impl_Split_ev t 44 ht) ?_
 obtain⟨l1,l2⟩:=splitV_ok t 44
 have l0:0<(splitV t 44).length:=List.length_pos_iff.2 (split_ne t 44)
 have him:∀l,isA t l→(splitV t 44).map entI=l∧∀x∈splitV t 44,x.size=4:=fun l hl=>by
  obtain⟨h0,h1,rfl⟩:=hl
  refine⟨acl_ents h1 h0 entI fun e he=>entI_part he,fun x hx=> ?_⟩
  rw[acl_split h1 h0]at hx
  obtain⟨e,he,rfl⟩:=List.mem_map.1 hx
  obtain⟨i,hi⟩:=List.mem_iff_getElem?.1 he
  exact(part_at (h1.2.1 i e hi).1).2
 generalize hL:splitV t 44=L at l1 l2 l0 him
 refine Ev.eq ?_
 refine EvX.list (L:=fun k _=>impl_ParseAcl_l1 k) L (fun(st:List PAcl) i=>(t,st,L,(L.length:Int),(i:Int))) (fun st i=>st=(L.take i).map entI∧(0<i→t≠⟨#[]⟩)) (fun st i x hx hi inv=> ?_) (fun st inv=> ?_) [] ⟨rfl,fun h=>absurd h (Nat.lt_irrefl 0)⟩
 ·have hxm:=List.mem_of_getElem? hx
  have hxs:=l2 x hxm
  simp only[impl_ParseAcl_l1,Int.ofNat_lt,hi,decide_true,cond_true,Int.natCast_nonneg,if_true,Int.toNat_natCast,hx,Option.bind_some,wS i]
  refine EvX.bif (fun h=>EvX.const _ (GL.ret (GR.ret (pa_no hne fun l hl=> ?_).symm))) (fun h=> ?_)
  ·have:=(him l hl).2 x hxm
   rw[this]at h;simp at h
  have h4:x.size=4:=by
   have:¬((x.size:Int)≠4):=fun h'=>by rw[bne_iff_ne.2 h']at h;cases h
   omega
  have hno:t≠⟨#[]⟩:=fun e=>by
   rw[←hL,e,none_split]at hxm
   rw[List.mem_singleton.1 hxm]at h4
   cases h4
  have inv:=inv.1
  have x0:x[0]? =some (x[0]?.getD 0):=by rw[getElem?_pos x 0 (by omega)];rfl
  have x1:x[1]? =some (x[1]?.getD 0):=by rw[getElem?_pos x 1 (by omega)];rfl
  have x3:x[3]? =some (x[3]?.getD 0):=by rw[getElem?_pos x 3 (by omega)];rfl
  have hent:entI x=(1+Lib.indexByte [117,103,109] (x[0]?.getD 0),((x[1]?.getD 0).toNat:Int)-48,((x[3]?.getD 0).toNat:Int)-48):=rfl
  generalize x[0]?.getD 0=b0 at x0 hent
  generalize x[1]?.getD 0=b1 at x1 hent
  generalize x[3]?.getD 0=b3 at x3 hent
  have hix:Ev (fun k=>c_strings_IndexByte k ((⟨#[117,103,109]⟩:ByteArray),(b0.toNat:Int))) (Lib.indexByte [117,103,109] b0):=by
   refine EvQ.run (fun k=>c_strings_IndexByte_run k _) ?_
   have e:ext_strings_IndexByte ((⟨#[117,103,109]⟩:ByteArray),(b0.toNat:Int))=some (Lib.indexByte [117,103,109] b0):=by
    show some (Lib.indexByte [117,103,109] (((b0.toNat:Int)).toNat.toUInt8))=_
    rw[Int.toNat_natCast,show(b0.toNat).toUInt8=b0 from UInt8.ofNat_toNat]
   rw[e];exact EvQ.const _
  have hg1:=Lib.indexByte_ge [117,103,109] b0
  have hg2:Lib.indexByte [117,103,109] b0≤2:=by
   simp only[Lib.indexByte]
   repeat' split
   all_goals omega
  have n1:b1.toNat<256:=UInt8.toNat_lt _
  have n3:b3.toNat<256:=UInt8.toNat_lt _
  simp only[Int.le_refl,if_true,show(0:Int).toNat=0 from rfl,show(1:Int).toNat=1 from rfl,show(3:Int).toNat=3 from rfl,x0,x1,x3,Option.map_some,Option.bind_some,show(0:Int)≤1 by decide,show(0:Int)≤3 by decide]
  refine EvX.bind hix ?_
  have w1:wrapK .i64 (1+Lib.indexByte [117,103,109] b0)=1+Lib.indexByte [117,103,109] b0:=i64w (by omega) (by omega)
  have w2:wrapK .i64 (b1.toNat:Int)=(b1.toNat:Int):=i64w (by omega) (by omega)
  have w3:wrapK .i64 ((b1.toNat:Int)-48)=(b1.toNat:Int)-48:=i64w (by omega) (by omega)
  have w4:wrapK .i64 (b3.toNat:Int)=(b3.toNat:Int):=i64w (by omega) (by omega)
  have w5:wrapK .i64 ((b3.toNat:Int)-48)=(b3.toNat:Int)-48:=i64w (by omega) (by omega)
  simp only[w1,w2,w3,w4,w5]
  rw[←hent]
  have hst:st.length≤i:=by rw[inv,List.length_map,List.length_take];omega
  refine EvX.ifp (by show(st.length+1)*24≤capBytes;unfold capBytes;omega) (EvX.const _ (GL.self _ rfl ⟨?_,fun _=>hno⟩))
  rw[mem_take_map hx,←inv]
 ·obtain⟨inv,hno⟩:=inv
  simp only[impl_ParseAcl_l1,Int.lt_irrefl,decide_false,cond_false]
  rw[List.take_length]at inv
  refine EvX.bind (impl_FAcl_ev st) (EvX.bif (fun h=>EvX.const _ (GE.ret (GR.ret (pa_no hne fun l hl=> ?_).symm))) (fun h=>EvX.const _ (GE.ret (GR.ret ?_))))
  ·have e1:=(him l hl).1
   rw[←inv]at e1
   rw[e1,fmtA,if_pos hl.2.1,hl.2.2,eqS_refl]at h
   cases h
  ·have h:fmtA st=t:=(eqS_iff _ _).1 (by simpa using h)
   by_cases hA:aclP st
   ·rw[fmtA,if_pos hA]at h
    refine(pa_of ⟨fun e=> ?_,hA,h⟩).symm
    rw[e,aclT,if_pos rfl]at h
    exact hne h.symm
   ·exfalso
    rw[fmtA,if_neg hA]at h
    exact hno l0 h.symm
def tagS(m:Int):Int:=bif m==117 then 1 else bif m==103 then 2 else bif m==109 then 3 else 0
theorem tag_all:∀a:Fin 4,1≤a.val→tagS ((lt8 a.val).toNat:Int)=(a.val:Int):=by decide+kernel
noncomputable def entS(x:ByteArray):PAcl:=
 match splitV x 58 with
 |[a,b]=>(tagS ((a[0]?.getD 0).toNat:Int),(piV (a.extract 1 a.size)).1,(piV b).1)
 |_=>(0,0,0)
theorem part_split{e:PAcl}(h:entP e):∃a b:ByteArray,splitV (partB e) 58=[a,b]∧2≤a.size∧entS (partB e)=e:=by
 obtain⟨a,i,p,rfl,h1,h2,h3,h4,h5⟩:=part_form h
 obtain⟨_,q1,q2,_,_,_⟩:=pB_all ⟨a,by omega⟩ ⟨i,by omega⟩ ⟨p,by omega⟩ h1
 simp only at q1 q2
 have hs:splitV (partB ((a:Int),(i:Int),(p:Int))) 58=[⟨#[lt8 a,UInt8.ofNat (48+i)]⟩,⟨#[UInt8.ofNat (48+p)]⟩]:=by
  have:=join_split (L:=[⟨#[lt8 a,UInt8.ofNat (48+i)]⟩,⟨#[UInt8.ofNat (48+p)]⟩]) (c:=58) (List.cons_ne_nil _ _) fun x hx=>by
   rcases List.mem_cons.1 hx with rfl|hx
   ·exact q1
   ·rw[List.mem_singleton.1 hx];exact q2
  have e1:joinB [⟨#[lt8 a,UInt8.ofNat (48+i)]⟩,⟨#[UInt8.ofNat (48+p)]⟩] ⟨#[58]⟩=pB a i p:=by
   refine bext ?_;rw[joinB_list];simp[joinD,Lib.join_cons,Lib.joinTail,pB]
  rw[e1]at this
  rw[h5];exact this
 refine⟨_,_,hs,Nat.le_refl 2, ?_⟩
 unfold entS
 rw[hs]
 have t1:=tag_all ⟨a,by omega⟩ h1
 simp only at t1
 have p1:(⟨#[lt8 a,UInt8.ofNat (48+i)]⟩:ByteArray).extract 1 (⟨#[lt8 a,UInt8.ofNat (48+i)]⟩:ByteArray).size=⟨#[UInt8.ofNat (48+i)]⟩:=by
  refine bext ?_;rw[Lib.extract_data];rfl
 show(tagS ((lt8 a).toNat:Int),(piV ((⟨#[lt8 a,UInt8.ofNat (48+i)]⟩:ByteArray).extract 1 (⟨#[lt8 a,UInt8.ofNat (48+i)]⟩:ByteArray).size)).1,(piV ⟨#[UInt8.ofNat (48+p)]⟩).1)=_
 rw[p1,t1,piV_digit (by omega),piV_digit (by omega)]
theorem two_list{α:Type}{l:List α}(h:l.length=2):∃a b,l=[a,b]:=by
 match l,h with
 |[a,b],_=>exact⟨a,b,rfl⟩
theorem spec_PAcl_ev(t:ByteArray)(ht:t.size≤1048576):Ev (fun k=>c_spec_ParseAcl k t) (paV t):=by
 refine EvQ.run (fun k=>spec_ParseAcl_run k t) ?_
 simp only[spec_ParseAcl]
 refine EvQ.bind (spec_Split_ev t 44 ht) ?_
 obtain⟨l1,l2⟩:=splitV_ok t 44
 have l0:0<(splitV t 44).length:=List.length_pos_iff.2 (split_ne t 44)
 have him:∀l,isA t l→(splitV t 44).map entS=l∧∀x∈splitV t 44,∃a b:ByteArray,splitV x 58=[a,b]∧2≤a.size:=fun l hl=>by
  obtain⟨h0,h1,rfl⟩:=hl
  refine⟨acl_ents h1 h0 entS fun e he=>(part_split he).choose_spec.choose_spec.2.2,fun x hx=> ?_⟩
  rw[acl_split h1 h0]at hx
  obtain⟨e,he,rfl⟩:=List.mem_map.1 hx
  obtain⟨i,hi⟩:=List.mem_iff_getElem?.1 he
  obtain⟨a,b,r1,r2,_⟩:=part_split (h1.2.1 i e hi).1
  exact⟨a,b,r1,r2⟩
 have hdl:t=⟨#[45]⟩→(splitV t 44).length=1:=fun e=>by rw[e,dash_split];rfl
 generalize hL:splitV t 44=L at l1 l2 l0 him hdl
 refine Ev.eq ?_
 refine EvX.list (L:=fun k _=>spec_ParseAcl_l1 k) L (fun(st:List PAcl) i=>(t,st,L,(L.length:Int),(i:Int))) (fun st i=>st=(L.take i).map entS∧(0<i→t≠⟨#[45]⟩)) (fun st i x hx hi inv=> ?_) (fun st inv=> ?_) [] ⟨rfl,fun h=>absurd h (Nat.lt_irrefl 0)⟩
 ·have hxm:=List.mem_of_getElem? hx
  have hxs:=l2 x hxm
  have hst:st.length≤i:=by rw[inv.1,List.length_map,List.length_take];omega
  simp only[spec_ParseAcl_l1,Int.ofNat_lt,hi,decide_true,cond_true,Int.natCast_nonneg,if_true,Int.toNat_natCast,hx,Option.bind_some,wS i]
  refine EvX.bind (spec_Split_ev x 58 (by omega)) ?_
  refine EvX.bif (fun h45=> ?_) (fun h45=> ?_)
  ·have e:=(eqS_iff _ _).1 h45
   have hi0:i=0:=by have:=hdl e;omega
   have hs0:st=[]:=by rw[inv.1,hi0];rfl
   have hf:fmtA st=⟨#[45]⟩:=by
    have hA:aclP []:=⟨Nat.zero_le _,(fun i e h=>by cases h),(by simp[endP])⟩
    rw[hs0,fmtA,if_pos hA,aclT,if_pos rfl]
   refine EvX.bind (spec_FAcl_ev st (by unfold big;omega)) ?_
   rw[hf]
   refine EvX.bif (fun h=> ?_) (fun h=>EvX.bind (spec_FAcl_ev st (by unfold big;omega)) ?_)
   ·exact absurd h (by decide)
   ·rw[hf,e,eqS_refl,pa_dash]
    simp only[Bool.not_true,cond_false]
    refine EvX.const _ (GL.ret (GR.ret ?_))
    rw[hs0]
  ·have hne:t≠⟨#[45]⟩:=fun e=>by rw[(eqS_iff _ _).2 e]at h45;cases h45
   refine EvX.bif (fun h=>EvX.const _ (GL.ret (GR.ret (pa_no hne fun l hl=> ?_).symm))) (fun h=> ?_)
   ·obtain⟨a,b,r1,_⟩:=(him l hl).2 x hxm
    rw[r1]at h;cases h
   obtain⟨a,b,hab⟩:=two_list (l:=splitV x 58) (by
    have:¬(((splitV x 58).length:Int)≠2):=fun h'=>by rw[bne_iff_ne.2 h']at h;cases h
    omega)
   have m2:=(splitV_ok x 58).2
   have hent:entS x=(tagS ((a[0]?.getD 0).toNat:Int),(piV (a.extract 1 a.size)).1,(piV b).1):=by unfold entS;rw[hab]
   rw[hab]at m2 ⊢
   have ma:=m2 a (by simp)
   have mb:=m2 b (by simp)
   simp only[Int.le_refl,if_true,show(0:Int)<(([a,b].length:Nat):Int)by simp,show(0:Int).toNat=0 from rfl,List.getElem?_cons_zero,Option.bind_some]
   refine EvX.bif (fun h2=>EvX.const _ (GL.ret (GR.ret (pa_no hne fun l hl=> ?_).symm))) (fun h2=> ?_)
   ·obtain⟨a',b',r1,r2⟩:=(him l hl).2 x hxm
    rw[hab]at r1
    injection r1 with r1 _
    subst r1
    have:=of_decide_eq_true h2;omega
   have h2:=of_decide_eq_false h2
   have a0:a[0]? =some (a[0]?.getD 0):=by rw[getElem?_pos a 0 (by omega)];rfl
   generalize a[0]?.getD 0=b0 at a0 hent
   simp only[a0,Option.map_some,Option.bind_some]
   refine EvX.joinT (t,st,[a,b],(),L,(L.length:Int),(i:Int),(tagS (b0.toNat:Int),(0:Int),(0:Int))) True ?_ fun _=> ?_
   ·unfold tagS
    cases((b0.toNat:Int)==117)<;>cases((b0.toNat:Int)==103)<;>cases((b0.toNat:Int)==109)<;>exact EvX.const _ (GT.inl trivial)
   ·simp only[wS i,Int.le_refl,if_true,show(0:Int)<(([a,b].length:Nat):Int)by simp,show(1:Int)<(([a,b].length:Nat):Int)by simp,show(0:Int).toNat=0 from rfl,show(1:Int).toNat=1 from rfl,List.getElem?_cons_zero,List.getElem?_cons_succ,Option.bind_some,show(0:Int)≤1 by decide,show(1:Int)≤(a.size:Int)by omega]
    refine EvX.bind (piV_ev _ (by rw[ByteArray.size_extract];omega)) (EvX.bind (piV_ev _ (by omega)) ?_)
    rw[←hent]
    refine EvX.ifp (by show(st.length+1)*24≤capBytes;unfold capBytes;omega) (EvX.const _ (GL.self _ rfl ⟨?_,fun _=>hne⟩))
    rw[mem_take_map hx,←inv.1]
 ·obtain⟨inv,hno⟩:=inv
  have hne:=hno l0
  simp only[spec_ParseAcl_l1,Int.lt_irrefl,decide_false,cond_false]
  rw[List.take_length]at inv
  have hst:st.length<big:=by rw[inv,List.length_map];unfold big;omega
  have h0:∀l,isA t l→fmtA st=t:=fun l hl=>by
   have e1:=(him l hl).1
   rw[←inv]at e1
   rw[e1,fmtA,if_pos hl.2.1,hl.2.2]
  refine EvX.bind (spec_FAcl_ev st hst) (EvX.bif (fun h=>EvX.const _ (GE.ret (GR.ret (pa_no hne fun l hl=> ?_).symm))) (fun h=>EvX.bind (spec_FAcl_ev st hst) (EvX.bif (fun h2=>EvX.const _ (GE.ret (GR.ret (pa_no hne fun l hl=> ?_).symm))) (fun h2=>EvX.const _ (GE.ret (GR.ret ?_))))))
  ·have:=(eqS_iff _ _).1 h
   rw[h0 l hl]at this
   exact(isA_dash hl).2 this
  ·rw[h0 l hl,eqS_refl]at h2;cases h2
  ·have h2:fmtA st=t:=(eqS_iff _ _).1 (by simpa using h2)
   by_cases hA:aclP st
   ·rw[fmtA,if_pos hA]at h2
    refine(pa_of ⟨fun e=> ?_,hA,h2⟩).symm
    rw[e,aclT,if_pos rfl]at h2
    exact hne h2.symm
   ·exfalso
    rw[fmtA,if_neg hA]at h
    cases h
end Go.Proofs.YtmmgfgfkkpeedaaGreatDoor

/- The tables, the residual functions and lemmas of this seat: parts of the proof of the law; conditions: those that each names. -/
import Derived.Test.YtkmnlefjlhogaaaAcl
set_option linter.unusedVariables false
set_option linter.unusedSimpArgs false
set_option maxRecDepth 100000
namespace Go.Proofs.Ytkmnlefjlhogaaa
open Go.Eng
theorem ite_ev{c:Bool}{f:Nat→Option Bool}{p:Prop}[Decidable p](h1:c=true→Ev f (decide p))(h2:c=false→¬p):Ev (fun k=>bif c then f k else some false) (decide p):=by
 cases c with
 |true=>exact h1 rfl
 |false=>simp only[cond_false,decide_eq_false (h2 rfl)];exact EvQ.const _
theorem l05Entry_say(e:PAcl):Say (fun k=>c_spec_l05Entry k e) (entP e):=by
 refine Say.run (fun k=>spec_l05Entry_run k e) (Say.of ?_)
 simp only[spec_l05Entry]
 have key:∀t,e.1=t→t=1∨t=2∨t=3∨(t≠1∧t≠2∧t≠3):=fun t _=>by omega
 refine EvX.bind (l01In_ev _ _ _) (EvX.bif (fun h=> ?_) (fun h=> ?_))
 ·refine EvX.const _ (GP.no fun hP=> ?_)
  unfold entP at hP
  simp at h;omega
 simp at h
 by_cases t1:e.1=1
 ·simp only[t1,beq_self_eq_true,cond_true]
  refine EvX.bind (l01In_ev _ _ _) (EvX.const _ (GP.ret ?_))
  unfold entP;simp;omega
 by_cases t2:e.1=2
 ·simp only[t2,beq_self_eq_true,cond_true,show((2:Int)==1)=false from rfl,cond_false]
  refine EvX.bind (l01In_ev _ _ _) (EvX.const _ (GP.ret ?_))
  unfold entP;simp;omega
 by_cases t3:e.1=3
 ·simp only[t3,beq_self_eq_true,cond_true,show((3:Int)==1)=false from rfl,show((3:Int)==2)=false from rfl,cond_false]
  refine EvX.const _ (GP.ret ?_)
  unfold entP;simp;omega
 have b1:(e.1==1)=false:=by simpa using t1
 have b2:(e.1==2)=false:=by simpa using t2
 have b3:(e.1==3)=false:=by simpa using t3
 simp only[b1,b2,b3,cond_false]
 refine EvX.const _ (GP.no fun hP=> ?_)
 unfold entP at hP;omega
theorem spec_IsAcl_say(l:List PAcl)(hl:l.length<big):Say (fun k=>c_spec_IsAcl k l) (aclP l):=by
 unfold big at hl
 refine Say.run (fun k=>spec_IsAcl_run k l) (Say.of ?_)
 simp only[spec_IsAcl]
 refine EvX.list (L:=fun k _=>spec_IsAcl_l1 k) l (fun(_:Unit) i=>(l,l,(l.length:Int),(i:Int))) (fun _ i=>∀j e,j<i→l[j]? =some e→entP e∧ordP l j e) (fun _ i e hx hi inv=> ?_) (fun _ inv=> ?_) () (by simp)
 ·simp only[spec_IsAcl_l1,Int.ofNat_lt,hi,decide_true,cond_true,Int.natCast_nonneg,if_true,Int.toNat_natCast,hx,Option.bind_some]
  have hw:wrapK .i64 ((i:Int)+1)=((i+1:Nat):Int):=by rw[i64w (by omega) (by omega)];omega
  rw[hw]
  refine EvX.say (l05Entry_say e) fun b hb=> ?_
  refine EvX.bif (fun h1=> ?_) (fun h1=> ?_)
  ·refine EvX.const _ (GL.ret (GP.no fun hP=> ?_))
   have:=hb.2 (hP.2.1 i e hx).1
   simp[this]at h1
  have he:entP e:=hb.1 (by simpa using h1)
  have next:ordP l i e→∀j e,j<i+1→l[j]? =some e→entP e∧ordP l j e:=fun ho j e' hj hje=>by
   by_cases hji:j=i
   ·subst hji;rw[hx]at hje;cases hje;exact⟨he,ho⟩
   ·exact inv j e' (by omega) hje
  refine EvX.bif (fun h3=> ?_) (fun h3=> ?_)
  ·simp at h3
   have hw2:wrapK .i64 ((i:Int)-1)=((i-1:Nat):Int):=by rw[i64w (by omega) (by omega)];omega
   have hp:l[i-1]? =some l[i-1]:=List.getElem?_eq_getElem (by omega)
   simp only[hw2,Int.natCast_nonneg,if_true,Int.toNat_natCast,hp,Option.bind_some]
   have no:¬lessP l[i-1] e→GL (S:=Unit) (fun(_:Unit) i=>(l,l,(l.length:Int),((i:Nat):Int))) (fun _ i=>∀j e,j<i→l[j]? =some e→entP e∧ordP l j e) i (GP (aclP l)) fun _=>some false:=fun h=>
    GL.ret (GP.no fun hP=>h ((hP.2.1 i e hx).2 _ h3 hp))
   have yes:lessP l[i-1] e→ordP l i e:=fun h p _ hp'=>by rw[hp]at hp';cases hp';exact h
   refine EvX.bif (fun h4=> ?_) (fun h4=> ?_)
   ·refine EvX.const _ (no ?_)
    simp at h4;unfold lessP;omega
   refine EvX.bif (fun h5=> ?_) (fun h5=> ?_)
   ·refine EvX.bif (fun h6=> ?_) (fun h6=> ?_)
    ·refine EvX.const _ (no ?_)
     simp at h4 h5 h6;unfold lessP;omega
    ·refine EvX.const _ (GL.self () rfl (next (yes ?_)))
     simp at h4 h5 h6;unfold lessP;omega
   ·refine EvX.const _ (GL.self () rfl (next (yes ?_)))
    simp at h4 h5;unfold lessP;omega
  ·simp at h3
   exact EvX.const _ (GL.self () rfl (next fun p h0 _=>by omega))
 ·simp only[spec_IsAcl_l1,Int.lt_irrefl,decide_false,cond_false]
  refine EvX.bif (fun h3=> ?_) (fun h3=> ?_)
  ·simp at h3
   subst h3
   exact EvX.const _ (GE.ret (GP.yes ⟨by simp,by simp,.inl rfl⟩))
  ·simp at h3
   have hlen:0<l.length:=List.length_pos_iff.2 h3
   have hw2:wrapK .i64 ((l.length:Int)-1)=((l.length-1:Nat):Int):=by rw[i64w (by omega) (by omega)];omega
   have hp:l[l.length-1]? =some l[l.length-1]:=List.getElem?_eq_getElem (by omega)
   refine EvX.bif (fun h4=> ?_) (fun h4=> ?_)
   ·simp at h4
    simp only[hw2,Int.natCast_nonneg,if_true,Int.toNat_natCast,hp,Option.bind_some]
    refine EvX.const _ (GE.ret (GP.ret ?_))
    simp only[beq_iff_eq]
    constructor
    ·intro h4
     exact⟨by omega,fun i e hie=>inv i e (List.getElem?_eq_some_iff.1 hie).1 hie,.inr ⟨_,hp,h4⟩⟩
    ·intro hP
     rcases hP.2.2 with h4|⟨e,h4,h5⟩
     ·exact absurd h4 h3
     ·rw[hp]at h4;cases h4;exact h5
   ·simp at h4
    exact EvX.const _ (GE.ret (GP.no fun hP=>by have:=hP.1;omega))
theorem eqRow_say{α D:Type}(eqB:α→α→Bool)(hB:∀a b,eqB a b=true↔a=b){L:Nat→(D→Option Bool)→D→Option Bool}(a b:List α)(mk:Nat→D)
  (hs:∀k self i x y,a[i]? =some x→b[i]? =some y→i<a.length→i<b.length→wrapK .i64 ((i:Int)+1)=((i+1:Nat):Int)→L k self (mk i)=bif !(eqB x y)then some false else self (mk (i+1)))
  (he:∀k self,L k self (mk a.length)=some true) (h:a.length=b.length) (hl:a.length<big):Say (fun k=>iter k (L k) (mk 0)) (a=b):=by
 unfold big at hl
 refine Say.of ?_
 refine EvX.list (L:=fun k _=>L k) a (fun(_:Unit) i=>mk i) (fun _ i=>a.take i=b.take i) (fun _ i e hx hi inv=> ?_) (fun _ inv=> ?_) () (by simp)
 ·have hy:b[i]? =some b[i]:=List.getElem?_eq_getElem (by omega)
  refine EvX.congr (fun k p=>hs k _ i _ _ hx hy hi (by omega) (by rw[i64w (by omega) (by omega)];omega)) ?_
  refine EvX.bif (fun h1=> ?_) (fun h1=> ?_)
  ·refine EvX.const _ (GL.ret (GP.no fun hP=> ?_))
   subst hP
   rw[hx]at hy
   have:eqB e a[i]=true:=(hB _ _).2 (Option.some.inj hy)
   rw[this]at h1;cases h1
  ·refine EvX.const _ (GL.self () rfl ?_)
   have:e=b[i]:=(hB _ _).1 (by simpa using h1)
   rw[List.take_add_one,List.take_add_one,inv,hx,hy,this]
 ·refine EvX.congr (fun k p=>he k _) ?_
  refine EvX.const _ (GE.ret (GP.yes ?_))
  rw[List.take_length,h,List.take_length]at inv
  exact inv
theorem len_ne{α:Type}{a b:List α}(h:((a.length:Int) != (b.length:Int))=true):a≠b:=fun e=>by subst e;simp at h
theorem len_eq{α:Type}{a b:List α}(h:((a.length:Int) != (b.length:Int))=false):a.length=b.length:=by
 simp at h;omega
theorem Say.iter{f:Nat→Option Bool}{P:Prop}{S:Type}(h:Say f P):EvX (fun k (_:S)=>f k) (GP P):=by
 obtain⟨b,h1,h2⟩:=h
 exact EvX.ofEv h1 (GP.ret h2)
theorem bneB(a b:Int):(a != b)= !(a==b):=rfl
theorem eqB_int(a b:Int):(a==b)=true↔a=b:=beq_iff_eq
theorem eqB_acl(a b:PAcl):((a.1==b.1)&&((a.2.1==b.2.1)&&(a.2.2==b.2.2)))=true↔a=b:=by
 obtain⟨a1,a2,a3⟩:=a
 obtain⟨b1,b2,b3⟩:=b
 simp
theorem Equal_int_say(a b:List Int)(hl:a.length<big):Say (fun k=>c_slices_Equal_int_int k (a,b)) (a=b):=by
 refine Say.run (fun k=>slices_Equal_int_int_run k a b) (Say.of ?_)
 simp only[slices_Equal_int_int]
 refine EvX.bif (fun h=>EvX.const _ (GP.no (len_ne h))) (fun h=> ?_)
 exact Say.iter (eqRow_say (· == ·) eqB_int (L:=slices_Equal_int_int_l1) a b (fun i=>(a,b,(a.length:Int),(i:Int))) (fun k self i x y hx hy hi _ hw=>by
  simp only[slices_Equal_int_int_l1,Int.ofNat_lt,hi,decide_true,cond_true,Int.natCast_nonneg,if_true,Int.toNat_natCast,hx,hy,Option.bind_some,hw,bne]) (fun k self=>by
  simp only[slices_Equal_int_int_l1,Int.lt_irrefl,decide_false,cond_false]) (len_eq h) hl)
theorem Equal_acl_say(a b:List PAcl)(hl:a.length<big):Say (fun k=>c_slices_Equal_impl_AclEntry_impl_AclEntry k (a,b)) (a=b):=by
 refine Say.run (fun k=>slices_Equal_impl_AclEntry_impl_AclEntry_run k a b) (Say.of ?_)
 simp only[slices_Equal_impl_AclEntry_impl_AclEntry]
 refine EvX.bif (fun h=>EvX.const _ (GP.no (len_ne h))) (fun h=> ?_)
 exact Say.iter (eqRow_say _ eqB_acl (L:=slices_Equal_impl_AclEntry_impl_AclEntry_l1) a b (fun i=>(a,b,(a.length:Int),(i:Int))) (fun k self i x y hx hy hi _ hw=>by
  simp only[slices_Equal_impl_AclEntry_impl_AclEntry_l1,Int.ofNat_lt,hi,decide_true,cond_true,Int.natCast_nonneg,if_true,Int.toNat_natCast,hx,hy,Option.bind_some,hw]) (fun k self=>by
  simp only[slices_Equal_impl_AclEntry_impl_AclEntry_l1,Int.lt_irrefl,decide_false,cond_false]) (len_eq h) hl)
theorem l02Same_say(a b:List Int)(hl:a.length<big):Say (fun k=>c_spec_l02Same k (a,b)) (a=b):=by
 refine Say.run (fun k=>spec_l02Same_run k a b) (Say.of ?_)
 simp only[spec_l02Same]
 refine EvX.bif (fun h=>EvX.const _ (GP.no (len_ne h))) (fun h=> ?_)
 exact Say.iter (eqRow_say (· == ·) eqB_int (L:=spec_l02Same_l1) a b (fun i=>(b,a,(a.length:Int),(i:Int))) (fun k self i x y hx hy hi _ hw=>by
  simp only[spec_l02Same_l1,Int.ofNat_lt,hi,decide_true,cond_true,Int.natCast_nonneg,if_true,Int.toNat_natCast,hx,hy,Option.bind_some,hw,bne]) (fun k self=>by
  simp only[spec_l02Same_l1,Int.lt_irrefl,decide_false,cond_false]) (len_eq h) hl)
theorem l05Same_say(a b:List PAcl)(hl:a.length<big):Say (fun k=>c_spec_l05Same k (a,b)) (a=b):=by
 refine Say.run (fun k=>spec_l05Same_run k a b) (Say.of ?_)
 simp only[spec_l05Same]
 refine EvX.bif (fun h=>EvX.const _ (GP.no (len_ne h))) (fun h=> ?_)
 exact Say.iter (eqRow_say _ eqB_acl (L:=spec_l05Same_l1) a b (fun i=>(b,a,(a.length:Int),(i:Int))) (fun k self i x y hx hy hi _ hw=>by
  simp only[spec_l05Same_l1,Int.ofNat_lt,hi,decide_true,cond_true,Int.natCast_nonneg,if_true,Int.toNat_natCast,hx,hy,Option.bind_some,hw]) (fun k self=>by
  simp only[spec_l05Same_l1,Int.lt_irrefl,decide_false,cond_false]) (len_eq h) hl)
def inoSmall(x:PInode):Prop:=x.2.2.2.2.2.2.2.1.length<big∧x.2.2.2.2.2.2.2.2.1.length<big∧x.2.2.2.2.2.2.2.2.2.length<big
theorem ino_ext(a b:PInode):a=b↔a.1=b.1∧a.2.1=b.2.1∧a.2.2.1=b.2.2.1∧a.2.2.2.1=b.2.2.2.1∧a.2.2.2.2.1=b.2.2.2.2.1∧a.2.2.2.2.2.1=b.2.2.2.2.2.1∧a.2.2.2.2.2.2.1=b.2.2.2.2.2.2.1∧
  a.2.2.2.2.2.2.2.1=b.2.2.2.2.2.2.2.1∧a.2.2.2.2.2.2.2.2.1=b.2.2.2.2.2.2.2.2.1∧a.2.2.2.2.2.2.2.2.2=b.2.2.2.2.2.2.2.2.2:=by
 obtain⟨a1,a2,a3,a4,a5,a6,a7,a8,a9,a10⟩:=a
 obtain⟨b1,b2,b3,b4,b5,b6,b7,b8,b9,b10⟩:=b
 simp
theorem impl_SameInode_say(a b:PInode)(h:inoSmall a):Say (fun k=>c_impl_SameInode k (a,b)) (a=b):=by
 refine Say.run (fun k=>impl_SameInode_run k a b) (Say.of ?_)
 simp only[impl_SameInode]
 refine EvX.bif (fun h1=> ?_) (fun h1=>EvX.const _ (GP.no fun e=>by rw[e]at h1;simp at h1))
 refine EvX.bif (fun h2=> ?_) (fun h1=>EvX.const _ (GP.no fun e=>by rw[e]at h1;simp at h1))
 refine EvX.bif (fun h3=> ?_) (fun h1=>EvX.const _ (GP.no fun e=>by rw[e]at h1;simp at h1))
 refine EvX.bif (fun h4=> ?_) (fun h1=>EvX.const _ (GP.no fun e=>by rw[e]at h1;simp at h1))
 refine EvX.bif (fun h5=> ?_) (fun h1=>EvX.const _ (GP.no fun e=>by rw[e]at h1;simp at h1))
 refine EvX.bif (fun h6=> ?_) (fun h1=>EvX.const _ (GP.no fun e=>by rw[e]at h1;simp at h1))
 refine EvX.bif (fun h7=> ?_) (fun h1=>EvX.const _ (GP.no fun e=>by rw[e]at h1;simp at h1))
 refine EvX.say (Equal_int_say _ _ h.1) fun y1 e1=>EvX.bif (fun h8=> ?_) (fun h1=>EvX.const _ (GP.no fun e=>by have:=e1.2 (by rw[e]);rw[this]at h1;cases h1))
 refine EvX.say (Equal_acl_say _ _ h.2.1) fun y2 e2=>EvX.bif (fun h9=> ?_) (fun h1=>EvX.const _ (GP.no fun e=>by have:=e2.2 (by rw[e]);rw[this]at h1;cases h1))
 refine EvX.say (Equal_acl_say _ _ h.2.2) fun y3 e3=>EvX.const _ (GP.ret ?_)
 simp only[beq_iff_eq]at h1 h2 h3 h4 h5 h6 h7
 rw[ino_ext]
 simp only[h1,h2,h3,h4,h5,h6,h7,e1.1 h8,e2.1 h9,true_and,e3]
theorem spec_SameInode_say(a b:PInode)(h:inoSmall a):Say (fun k=>c_spec_SameInode k (a,b)) (a=b):=by
 refine Say.run (fun k=>spec_SameInode_run k a b) (Say.of ?_)
 simp only[spec_SameInode]
 refine EvX.bif (fun h1=>EvX.const _ (GP.no fun e=>by rw[e]at h1;simp at h1)) (fun h1=> ?_)
 refine EvX.bif (fun h1=>EvX.const _ (GP.no fun e=>by rw[e]at h1;simp at h1)) (fun h2=> ?_)
 refine EvX.bif (fun h1=>EvX.const _ (GP.no fun e=>by rw[e]at h1;simp at h1)) (fun h3=> ?_)
 refine EvX.bif (fun h1=>EvX.const _ (GP.no fun e=>by rw[e]at h1;simp at h1)) (fun h4=> ?_)
 refine EvX.bif (fun h1=>EvX.const _ (GP.no fun e=>by rw[e]at h1;simp at h1)) (fun h5=> ?_)
 refine EvX.bif (fun h1=>EvX.const _ (GP.no fun e=>by rw[e]at h1;simp at h1)) (fun h6=> ?_)
 refine EvX.bif (fun h1=>EvX.const _ (GP.no fun e=>by rw[e]at h1;simp at h1)) (fun h7=> ?_)
 refine EvX.say (l02Same_say _ _ h.1) fun y1 e1=>EvX.bif (fun h8=> ?_) (fun h1=>EvX.const _ (GP.no fun e=>by have:=e1.2 (by rw[e]);rw[this]at h1;cases h1))
 refine EvX.say (l05Same_say _ _ h.2.1) fun y2 e2=>EvX.bif (fun h9=> ?_) (fun h1=>EvX.const _ (GP.no fun e=>by have:=e2.2 (by rw[e]);rw[this]at h1;cases h1))
 refine EvX.say (l05Same_say _ _ h.2.2) fun y3 e3=>EvX.const _ (GP.ret ?_)
 simp at h1 h2 h3 h4 h5 h6 h7
 rw[ino_ext]
 simp only[h1,h2,h3,h4,h5,h6,h7,e1.1 h8,e2.1 h9,true_and,e3]
theorem Has_say(l:List Int)(x:Int)(hl:l.length<big):Say (fun k=>c_spec_l02Has k (l,x)) (x∈l):=by
 unfold big at hl
 refine Say.run (fun k=>spec_l02Has_run k l x) (Say.of ?_)
 simp only[spec_l02Has]
 refine EvX.list (L:=fun k _=>spec_l02Has_l1 k) l (fun(_:Unit) i=>(x,l,(l.length:Int),(i:Int))) (fun _ i=>x∉l.take i) (fun _ i e hx hi inv=> ?_) (fun _ inv=> ?_) () (by simp)
 ·have hw:wrapK .i64 ((i:Int)+1)=((i+1:Nat):Int):=by rw[i64w (by omega) (by omega)];omega
  simp only[spec_l02Has_l1,Int.ofNat_lt,hi,decide_true,cond_true,Int.natCast_nonneg,if_true,Int.toNat_natCast,hx,Option.bind_some,hw]
  refine EvX.bif (fun h1=> ?_) (fun h1=> ?_)
  ·simp at h1;subst h1
   exact EvX.const _ (GL.ret (GP.yes (List.mem_of_getElem? hx)))
  ·simp at h1
   refine EvX.const _ (GL.self () rfl ?_)
   rw[List.take_add_one,hx]
   simp only[Option.toList_some,List.mem_append,List.mem_singleton,not_or]
   exact⟨inv,fun e=>h1 e.symm⟩
 ·simp only[spec_l02Has_l1,Int.lt_irrefl,decide_false,cond_false]
  rw[List.take_length]at inv
  exact EvX.const _ (GE.ret (GP.no inv))
theorem Contains_say(l:List Int)(x:Int)(hl:l.length<big):Say (fun k=>c_slices_Contains_int_int k (l,x)) (x∈l):=by
 unfold big at hl
 refine Say.run (fun k=>slices_Contains_int_int_run k l x) (Say.of ?_)
 simp only[slices_Contains_int_int]
 have:∃n:Int,Ev (fun k=>c_slices_Index_int_int k (l,x)) n∧(0≤n↔x∈l):=by
  refine Ev.of (Q:=fun n=>0≤n↔x∈l) ?_ |>.imp fun n h=>⟨EvQ.run (fun k=>slices_Index_int_int_run k l x) h.1,h.2⟩
  simp only[slices_Index_int_int]
  refine EvX.list (L:=fun k _=>slices_Index_int_int_l1 k) l (fun(_:Unit) i=>(l,x,(l.length:Int),(i:Int))) (fun _ i=>x∉l.take i) (fun _ i e hx hi inv=> ?_) (fun _ inv=> ?_) () (by simp)
  ·have hw:wrapK .i64 ((i:Int)+1)=((i+1:Nat):Int):=by rw[i64w (by omega) (by omega)];omega
   simp only[slices_Index_int_int_l1,Int.ofNat_lt,hi,decide_true,cond_true,Int.natCast_nonneg,if_true,Int.toNat_natCast,hx,Option.bind_some,hw]
   refine EvX.bif (fun h1=> ?_) (fun h1=> ?_)
   ·simp at h1;subst h1
    exact EvX.const _ (GL.ret (GR.ret ⟨fun _=>List.mem_of_getElem? hx,fun _=>by omega⟩))
   ·simp at h1
    refine EvX.const _ (GL.self () rfl ?_)
    rw[List.take_add_one,hx]
    simp only[Option.toList_some,List.mem_append,List.mem_singleton,not_or]
    exact⟨inv,h1⟩
  ·simp only[slices_Index_int_int_l1,Int.lt_irrefl,decide_false,cond_false]
   rw[List.take_length]at inv
   exact EvX.const _ (GE.ret (GR.ret ⟨fun h=>by omega,fun h=>absurd h inv⟩))
 obtain⟨n,h1,h2⟩:=this
 refine EvX.bind h1 (EvX.const _ (GP.ret ?_))
 rw[decide_eq_true_eq];exact h2
end Go.Proofs.Ytkmnlefjlhogaaa

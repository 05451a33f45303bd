/- The tables, the residual functions and lemmas of this seat: parts of the proof of the law; conditions: those that each names. -/
import Derived.Test.YtbpfenmkhapeiaaGreatAlw
set_option linter.unusedVariables false
set_option linter.unusedSimpArgs false
set_option maxRecDepth 100000
namespace Go.Proofs.YtbpfenmkhapeiaaGreat
open Go.Eng
theorem mask_same(l:List PAcl)(hl:l.length<big):∃r,Ev (fun k=>c_impl_MaskOf k l) r∧Ev (fun k=>c_spec_MaskOf k l) r:=by
 unfold big at hl
 obtain⟨r,h,_⟩:∃r,Ev (fun k=>impl_MaskOf k l) r∧True:=by
  refine Ev.of ?_
  simp only[impl_MaskOf]
  refine EvX.list (L:=fun k _=>impl_MaskOf_l1 k) l (fun(_:Unit) i=>(l,(l.length:Int),((i:Nat):Int))) (fun _ _=>True) (fun _ i e hx hi _=> ?_) (fun _ _=> ?_) () trivial
  ·have hw:wrapK .i64 ((i:Int)+1)=((i+1:Nat):Int):=by rw[i64w (by omega) (by omega)];omega
   simp only[impl_MaskOf_l1,Int.ofNat_lt,hi,decide_true,cond_true,Int.natCast_nonneg,if_true,Int.toNat_natCast,hx,Option.bind_some,hw]
   exact EvX.bif (fun h=>EvX.const _ (GL.ret (GR.ret trivial))) (fun h=>EvX.const _ (GL.self () rfl trivial))
  ·simp only[impl_MaskOf_l1,Int.lt_irrefl,decide_false,cond_false]
   exact EvX.const _ (GE.ret (GR.ret trivial))
 exact⟨r,EvQ.run (fun k=>impl_MaskOf_run k l) h,EvQ.run (fun k=>spec_MaskOf_run k l) (EvQ.congr (fun k=>rfl) h)⟩
theorem aclPerm_same(l:List PAcl)(t d:Int)(hl:l.length<big):∃r,Ev (fun k=>c_impl_AclPerm k (l,t,d)) r∧Ev (fun k=>c_spec_AclPerm k (l,t,d)) r:=by
 unfold big at hl
 obtain⟨r,h,_⟩:∃r,Ev (fun k=>impl_AclPerm k l t d) r∧True:=by
  refine Ev.of ?_
  simp only[impl_AclPerm]
  refine EvX.list (L:=fun k _=>impl_AclPerm_l1 k) l (fun(_:Unit) i=>(t,d,l,(l.length:Int),((i:Nat):Int))) (fun _ _=>True) (fun _ i e hx hi _=> ?_) (fun _ _=> ?_) () trivial
  ·have hw:wrapK .i64 ((i:Int)+1)=((i+1:Nat):Int):=by rw[i64w (by omega) (by omega)];omega
   simp only[impl_AclPerm_l1,Int.ofNat_lt,hi,decide_true,cond_true,Int.natCast_nonneg,if_true,Int.toNat_natCast,hx,Option.bind_some,hw]
   exact EvX.bif (fun h=>EvX.bif (fun h=>EvX.const _ (GL.ret (GR.ret trivial))) (fun h=>EvX.const _ (GL.self () rfl trivial))) (fun h=>EvX.const _ (GL.self () rfl trivial))
  ·simp only[impl_AclPerm_l1,Int.lt_irrefl,decide_false,cond_false]
   exact EvX.const _ (GE.ret (GR.ret trivial))
 exact⟨r,EvQ.run (fun k=>impl_AclPerm_run k l t d) h,EvQ.run (fun k=>spec_AclPerm_run k l t d) (EvQ.congr (fun k=>rfl) h)⟩
def inG(c:PCred)(g:Int):Bool:=decide (c.2.1=g∨g∈c.2.2)
theorem impl_InGroup_ev(c:PCred)(g:Int)(hc:c.2.2.length<big):Ev (fun k=>c_impl_InGroup k (c,g)) (inG c g):=by
 refine Say.ev (Say.run (fun k=>impl_InGroup_run k _ _) (Say.of ?_))
 simp only[impl_InGroup]
 refine EvX.bif (fun h=>EvX.const _ (GP.yes (.inl (beq_iff_eq.1 h).symm))) (fun h=> ?_)
 have hne:¬(g=c.2.1):=by simpa using h
 refine EvX.say (Contains_say c.2.2 g hc) fun b hb=>EvX.const _ (GP.ret (hb.trans ⟨.inr,fun h=>h.resolve_left fun e=>hne e.symm⟩))
theorem spec_InGroup_ev(c:PCred)(g:Int)(hc:c.2.2.length<big):Ev (fun k=>c_spec_InGroup k (c,g)) (inG c g):=by
 refine Say.ev (Say.run (fun k=>spec_InGroup_run k _ _) (Say.of ?_))
 simp only[spec_InGroup]
 refine EvX.bif (fun h=>EvX.const _ (GP.yes (.inl (beq_iff_eq.1 h)))) (fun h=> ?_)
 have hne:¬(c.2.1=g):=by simpa using h
 refine EvX.say (Has_say c.2.2 g hc) fun b hb=>EvX.const _ (GP.ret (hb.trans ⟨.inr,fun h=>h.resolve_left hne⟩))
def cov(w p:Int):Bool:=intBits .and .i64 p w==w
theorem covers_ev(p w:Int):Ev (fun k=>c_spec_l06Covers k (p,w)) (cov w p):=EvQ.run (fun k=>spec_l06Covers_run k _ _) (EvQ.const _)
def gp(c:PCred)(e:PAcl):List Int:=bif e.1==2 then(bif inG c e.2.1 then [e.2.2]else [])else []
def permsL(c:PCred)(p0:List Int)(l:List PAcl)(i:Nat):List Int:=p0++(l.take i).flatMap (gp c)
theorem permsL_succ{c:PCred}{p0:List Int}{l:List PAcl}{i:Nat}{e:PAcl}(h:l[i]? =some e):permsL c p0 l (i+1)=permsL c p0 l i++gp c e:=by
 simp only[permsL,List.take_add_one,h,Option.toList_some,List.flatMap_append,List.flatMap_singleton,List.append_assoc]
theorem permsL_len{c:PCred}{p0:List Int}{l:List PAcl}(h0:p0.length≤1):∀i,i≤l.length→(permsL c p0 l i).length≤i+1
 |0,_=>by simp[permsL];omega
 |i+1,hi=>by
  have ih:=permsL_len (c:=c) (l:=l) h0 i (by omega)
  have hx:l[i]? =some l[i]:=List.getElem?_eq_getElem (by omega)
  have hg:(gp c l[i]).length≤1:=by
   unfold gp
   cases l[i].1==2<;>cases inG c l[i].2.1<;>simp
  rw[permsL_succ hx,List.length_append];omega
def finV(P:List Int)(mask want mode:Int):Bool:=bif P.isEmpty then cov want (permV mode 2)else(bif cov want mask then P.any (cov want)else false)
theorem any_loop(P:List Int)(want:Int)(c:PCred)(hP:P.length<big):Ev (fun k=>iter k (impl_Allowed_l1 k) ((),(),(P.length:Int),(0:Int),P,want,c)) (P.any (cov want)):=by
 unfold big at hP
 refine Ev.eq ?_
 refine EvX.list (L:=fun k _=>impl_Allowed_l1 k) P (fun(_:Unit) i=>((),(),(P.length:Int),((i:Nat):Int),P,want,c)) (fun _ i=>∀j p,j<i→P[j]? =some p→cov want p=false) (fun _ i p hx hi inv=> ?_) (fun _ inv=> ?_) () (by simp)
 ·have hw:wrapK .i64 ((i:Int)+1)=((i+1:Nat):Int):=by rw[i64w (by omega) (by omega)];omega
  simp only[impl_Allowed_l1,Int.ofNat_lt,hi,decide_true,cond_true,Int.natCast_nonneg,if_true,Int.toNat_natCast,hx,Option.bind_some,hw]
  refine EvX.bif (fun h=>EvX.const _ (GL.ret (GR.ret ?_))) (fun h=>EvX.const _ (GL.self () rfl fun j q hj hq=> ?_))
  ·exact(List.any_eq_true.2 ⟨p,List.mem_iff_getElem?.2 ⟨i,hx⟩,h⟩).symm
  ·by_cases e:j=i
   ·subst e;rw[hx]at hq;cases hq;exact h
   ·exact inv j q (by omega) hq
 ·simp only[impl_Allowed_l1,Int.lt_irrefl,decide_false,cond_false]
  refine EvX.const _ (GE.ret (GR.ret ?_))
  have:P.any (cov want)=false:=by
   rw[List.any_eq_false]
   intro p hp
   obtain⟨j,hj⟩:=List.mem_iff_getElem?.1 hp
   have:=inv j p ((List.getElem?_eq_some_iff.1 hj).1) hj
   rw[this];simp
  rw[this];rfl
theorem impl_fin_loop(c:PCred)(acl:List PAcl)(mode want mask:Int)(p0:List Int)(h0:p0.length≤1)(hm0:0≤mode)(hm1:mode≤2047)(ha:acl.length<1000)(hc:c.2.2.length<big):
  Ev (fun k=>iter k (impl_Allowed_l2 k) (mode,(),(),mask,p0,acl,(acl.length:Int),(0:Int),want,c)) (finV (permsL c p0 acl acl.length) mask want mode):=by
 refine Ev.eq ?_
 refine EvX.list (L:=fun k _=>impl_Allowed_l2 k) acl (fun(st:List Int) i=>(mode,(),(),mask,st,acl,(acl.length:Int),((i:Nat):Int),want,c)) (fun st i=>st=permsL c p0 acl i) (fun st i e hx hi inv=> ?_) (fun st inv=> ?_) p0 (by simp[permsL])
 ·subst inv
  have hw:wrapK .i64 ((i:Int)+1)=((i+1:Nat):Int):=by rw[i64w (by omega) (by omega)];omega
  have hl:=permsL_len (c:=c) (l:=acl) h0 i (by omega)
  simp only[impl_Allowed_l2,Int.ofNat_lt,hi,decide_true,cond_true,Int.natCast_nonneg,if_true,Int.toNat_natCast,hx,Option.bind_some,hw]
  refine EvX.bif (fun h=> ?_) (fun h=>EvX.const _ (GL.self _ rfl (by rw[permsL_succ hx,gp,h];simp)))
  refine EvX.bind (impl_InGroup_ev c e.2.1 hc) ?_
  refine EvX.bif (fun h2=> ?_) (fun h2=>EvX.const _ (GL.self _ rfl (by rw[permsL_succ hx,gp,h,h2];simp)))
  refine EvX.ifp (by simp only[List.length_singleton,capBytes];omega) ?_
  exact EvX.const _ (GL.self _ rfl (by rw[permsL_succ hx,gp,h,h2];simp))
 ·subst inv
  have hl:=permsL_len (c:=c) (l:=acl) h0 acl.length (Nat.le_refl _)
  simp only[impl_Allowed_l2,Int.lt_irrefl,decide_false,cond_false]
  refine EvX.bif (fun h=> ?_) (fun h=> ?_)
  ·have hne:(permsL c p0 acl acl.length).isEmpty=false:=by
    cases hq:permsL c p0 acl acl.length with
    |nil=>rw[hq]at h;simp at h
    |cons _ _=>rfl
   refine EvX.bif (fun h2=> ?_) (fun h2=> ?_)
   ·have h2':cov want mask=true:=h2
    refine EvX.out (F:=fun k _=>iter k (impl_Allowed_l1 k) ((),(),((permsL c p0 acl acl.length).length:Int),(0:Int),permsL c p0 acl acl.length,want,c)) ?_
    refine EvX.ofEv (any_loop _ _ _ (by unfold big;omega)) (GR.ret ?_)
    simp only[finV,hne,h2',cond_false,cond_true]
   ·have h2':cov want mask=false:=h2
    refine EvX.const _ (GE.ret (GR.ret ?_))
    simp only[finV,hne,h2',cond_false]
  ·have he:(permsL c p0 acl acl.length).isEmpty=true:=by
    cases hq:permsL c p0 acl acl.length with
    |nil=>rfl
    |cons _ _=>rw[hq]at h;simp at h
   refine EvX.bind (impl_Perm_ev hm0 hm1 2 (by omega)) ?_
   refine EvX.const _ (GE.ret (GR.ret ?_))
   simp only[finV,he,cond_true];rfl
theorem spec_fin_loop(c:PCred)(acl:List PAcl)(mode want mask:Int)(p0:List Int)(h0:p0.length≤1)(hm0:0≤mode)(hm1:mode≤2047)(ha:acl.length<1000)(hc:c.2.2.length<big):
  Ev (fun k=>iter k (spec_Allowed_l1 k) (mode,want,(),mask, !p0.isEmpty,p0.any (cov want),acl,(acl.length:Int),(0:Int),c)) (finV (permsL c p0 acl acl.length) mask want mode):=by
 refine Ev.eq ?_
 refine EvX.list (L:=fun k _=>spec_Allowed_l1 k) acl (fun(st:Bool×Bool) i=>(mode,want,(),mask,st.1,st.2,acl,(acl.length:Int),((i:Nat):Int),c)) (fun st i=>st=(!(permsL c p0 acl i).isEmpty,(permsL c p0 acl i).any (cov want))) (fun st i e hx hi inv=> ?_) (fun st inv=> ?_) (!p0.isEmpty,p0.any (cov want)) (by simp[permsL])
 ·subst inv
  have hw:wrapK .i64 ((i:Int)+1)=((i+1:Nat):Int):=by rw[i64w (by omega) (by omega)];omega
  simp only[spec_Allowed_l1,Int.ofNat_lt,hi,decide_true,cond_true,Int.natCast_nonneg,if_true,Int.toNat_natCast,hx,Option.bind_some,hw]
  refine EvX.bif (fun h=> ?_) (fun h=>EvX.const _ (GL.self (!(permsL c p0 acl i).isEmpty,(permsL c p0 acl i).any (cov want)) rfl (by rw[permsL_succ hx,gp,h];simp)))
  refine EvX.bind (spec_InGroup_ev c e.2.1 hc) ?_
  refine EvX.bif (fun h2=> ?_) (fun h2=>EvX.const _ (GL.self (!(permsL c p0 acl i).isEmpty,(permsL c p0 acl i).any (cov want)) rfl (by rw[permsL_succ hx,gp,h,h2];simp)))
  refine EvX.bif (fun h3=> ?_) (fun h3=> ?_)
  ·refine EvX.const _ (GL.self (true,true) rfl ?_)
   rw[permsL_succ hx,gp,h,h2]
   simp only[cond_true,List.any_append,h3,Bool.true_or]
   simp
  ·refine EvX.bind (covers_ev e.2.2 want) ?_
   refine EvX.const _ (GL.self (true,cov want e.2.2) rfl ?_)
   rw[permsL_succ hx,gp,h,h2]
   simp only[cond_true,List.any_append,h3,Bool.false_or]
   simp
 ·subst inv
  simp only[spec_Allowed_l1,Int.lt_irrefl,decide_false,cond_false]
  refine EvX.bif (fun h=> ?_) (fun h=> ?_)
  ·have hne:(permsL c p0 acl acl.length).isEmpty=false:=by simpa using h
   refine EvX.bif (fun h2=> ?_) (fun h2=> ?_)
   ·refine EvX.bind (covers_ev mask want) ?_
    refine EvX.const _ (GE.ret (GR.ret ?_))
    simp only[finV,hne,cond_false]
    cases cov want mask with
    |true=>simp only[cond_true];exact h2.symm
    |false=>rfl
   ·refine EvX.const _ (GE.ret (GR.ret ?_))
    simp only[finV,hne,cond_false]
    cases cov want mask with
    |true=>simp only[cond_true];exact h2.symm
    |false=>rfl
  ·have he:(permsL c p0 acl acl.length).isEmpty=true:=by simpa using h
   refine EvX.bind (spec_Perm_ev hm0 hm1 2 (by omega)) (EvX.bind (covers_ev _ _) ?_)
   refine EvX.const _ (GE.ret (GR.ret ?_))
   simp only[finV,he,cond_true]
theorem allowed_same(c:PCred)(u g m:Int)(acl:List PAcl)(w:Int)(hc:c.2.2.length<big)(ha:acl.length<big):∃b,Ev (fun k=>c_impl_Allowed k (c,u,g,m,acl,w)) b∧Ev (fun k=>c_spec_Allowed k (c,u,g,m,acl,w)) b:=by
 obtain⟨b1,e1,f1,_⟩:=(impl_IsCred_say c hc).same (spec_IsCred_say c hc)
 obtain⟨b2,e2,f2,g2⟩:=(impl_IsAcl_say acl).same (spec_IsAcl_say acl ha)
 obtain⟨mk,e3,f3⟩:=mask_same acl ha
 obtain⟨ap,e4,f4⟩:=aclPerm_same acl 1 c.1 ha
 by_cases hg:(b1=true∧b2=true)∧(0≤u∧u≤3)∧(0≤g∧g≤3)∧(0≤m∧m≤2047)∧(0≤w∧w≤7)
 ·obtain⟨⟨rfl,rfl⟩,hu,hgg,hm,hw⟩:=hg
  have hl6:acl.length≤6:=(g2.1 rfl).1
  have a1:¬w<0:=by omega
  have a2:¬(7:Int)<w:=by omega
  obtain⟨P0,hP0⟩:∃P0:List Int,P0=bif inG c g then [permV m 1]else []:=⟨_,rfl⟩
  have hP1:P0.length≤1:=by rw[hP0];cases inG c g<;>simp
  refine⟨bif c.1==0 then true else bif c.1==u then cov w (permV m 0)else bif ap.2 then cov w (intBits .and .i64 ap.1 mk)else finV (permsL c P0 acl acl.length) mk w m,EvQ.run (fun k=>impl_Allowed_run k _ _ _ _ _ _) ?_,EvQ.run (fun k=>spec_Allowed_run k _ _ _ _ _ _) ?_⟩
  ·simp only[impl_Allowed]
   refine EvQ.bind e1 (EvQ.bind e2 (EvQ.bind (isUser_ev u) ?_))
   simp only[Bool.not_true,cond_false,hu,and_self,decide_true]
   refine EvQ.bind (isUser_ev g) ?_
   simp only[hgg,and_self,decide_true,Bool.not_true,cond_false]
   refine EvQ.bind (isMode_ev m) ?_
   simp only[hm,and_self,decide_true,Bool.not_true,cond_false,a1,a2,decide_false]
   cases c.1==0 with
   |true=>simp only[cond_true];exact EvQ.const _
   |false=>
    simp only[cond_false]
    cases c.1==u with
    |true=>simp only[cond_true];exact EvQ.bind (impl_Perm_ev hm.1 hm.2 0 (by omega)) (EvQ.const _)
    |false=>
     simp only[cond_false]
     refine EvQ.bind e3 (EvQ.bind e4 ?_)
     cases ap.2 with
     |true=>simp only[cond_true];exact EvQ.const _
     |false=>
      simp only[cond_false]
      refine Ev.eq (EvX.joinT (m,acl,(),(),mk,P0,w,c) True ?_ fun _=>EvX.ofEv (impl_fin_loop c acl m w mk P0 hP1 hm.1 hm.2 (by omega) hc) (GR.ret rfl))
      refine EvX.bind (impl_InGroup_ev c g hc) ?_
      refine EvX.bif (fun h=> ?_) (fun h=> ?_)
      ·refine EvX.bind (impl_Perm_ev hm.1 hm.2 1 (by omega)) (EvX.ifp (by simp[capBytes]) ?_)
       have:P0=[]++[permV m 1]:=by rw[hP0,h];rfl
       rw[this]
       exact EvX.const _ (GT.inl trivial)
      ·have:P0=[]:=by rw[hP0,h];rfl
       rw[this]
       exact EvX.const _ (GT.inl trivial)
  ·simp only[spec_Allowed]
   refine EvQ.bind f1 (EvQ.bind f2 (EvQ.bind (l06User_ev u) ?_))
   simp only[Bool.not_true,cond_false,hu,and_self,decide_true]
   refine EvQ.bind (l06User_ev g) ?_
   simp only[hgg,and_self,decide_true,Bool.not_true,cond_false]
   refine EvQ.bind (l06Mode_ev m) ?_
   simp only[hm,and_self,decide_true,Bool.not_true,cond_false]
   refine EvQ.bind (l01In_ev _ _ _) ?_
   simp only[hw,and_self,decide_true,Bool.not_true,cond_false]
   cases c.1==0 with
   |true=>simp only[cond_true];exact EvQ.const _
   |false=>
    simp only[cond_false]
    cases c.1==u with
    |true=>simp only[cond_true];exact EvQ.bind (spec_Perm_ev hm.1 hm.2 0 (by omega)) (EvQ.bind (covers_ev _ _) (EvQ.const _))
    |false=>
     simp only[cond_false]
     refine EvQ.bind f3 (EvQ.bind f4 ?_)
     cases ap.2 with
     |true=>simp only[cond_true];exact EvQ.bind (covers_ev _ _) (EvQ.const _)
     |false=>
      simp only[cond_false]
      refine Ev.eq (EvX.joinT (m,acl,w,(),mk, !P0.isEmpty,P0.any (cov w),c) True ?_ fun _=>EvX.ofEv (spec_fin_loop c acl m w mk P0 hP1 hm.1 hm.2 (by omega) hc) (GR.ret rfl))
      refine EvX.bind (spec_InGroup_ev c g hc) ?_
      refine EvX.bif (fun h=> ?_) (fun h=> ?_)
      ·refine EvX.bind (spec_Perm_ev hm.1 hm.2 1 (by omega)) (EvX.bind (covers_ev _ _) ?_)
       have:P0=[permV m 1]:=by rw[hP0,h];rfl
       rw[this]
       refine EvX.congr (F':=fun _ _=>some (.inl (m,acl,w,(),mk, !([permV m 1]:List Int).isEmpty,([permV m 1]:List Int).any (cov w),c))) (fun k _=>by simp) (EvX.const _ (GT.inl trivial))
      ·have:P0=[]:=by rw[hP0,h];rfl
       rw[this]
       exact EvX.const _ (GT.inl trivial)
 ·refine⟨false,EvQ.run (fun k=>impl_Allowed_run k _ _ _ _ _ _) ?_,EvQ.run (fun k=>spec_Allowed_run k _ _ _ _ _ _) ?_⟩
  ·simp only[impl_Allowed]
   refine EvQ.bind e1 ?_
   cases b1 with
   |false=>exact EvQ.const _
   |true=>
   refine EvQ.bind e2 ?_
   cases b2 with
   |false=>exact EvQ.const _
   |true=>
   refine EvQ.bind (isUser_ev u) ?_
   by_cases hu:¬(0≤u∧u≤3)
   ·simp only[hu,decide_false];exact EvQ.const _
   replace hu:=Classical.not_not.1 hu
   simp only[hu,and_self,decide_true,Bool.not_true,cond_false]
   refine EvQ.bind (isUser_ev g) ?_
   by_cases hgg:¬(0≤g∧g≤3)
   ·simp only[hgg,decide_false];exact EvQ.const _
   replace hgg:=Classical.not_not.1 hgg
   simp only[hgg,and_self,decide_true,Bool.not_true,cond_false]
   refine EvQ.bind (isMode_ev m) ?_
   by_cases hm:¬(0≤m∧m≤2047)
   ·simp only[hm,decide_false];exact EvQ.const _
   replace hm:=Classical.not_not.1 hm
   simp only[hm,and_self,decide_true,Bool.not_true,cond_false]
   by_cases a1:w<0
   ·simp only[a1,decide_true,cond_true];exact EvQ.const _
   by_cases a2:(7:Int)<w
   ·simp only[a1,a2,decide_true,decide_false,cond_true,cond_false];exact EvQ.const _
   ·exact absurd ⟨⟨rfl,rfl⟩,hu,hgg,hm,by omega,by omega⟩ hg
  ·simp only[spec_Allowed]
   refine EvQ.bind f1 ?_
   cases b1 with
   |false=>exact EvQ.const _
   |true=>
   refine EvQ.bind f2 ?_
   cases b2 with
   |false=>exact EvQ.const _
   |true=>
   refine EvQ.bind (l06User_ev u) ?_
   by_cases hu:¬(0≤u∧u≤3)
   ·simp only[hu,decide_false];exact EvQ.const _
   replace hu:=Classical.not_not.1 hu
   simp only[hu,and_self,decide_true,Bool.not_true,cond_false]
   refine EvQ.bind (l06User_ev g) ?_
   by_cases hgg:¬(0≤g∧g≤3)
   ·simp only[hgg,decide_false];exact EvQ.const _
   replace hgg:=Classical.not_not.1 hgg
   simp only[hgg,and_self,decide_true,Bool.not_true,cond_false]
   refine EvQ.bind (l06Mode_ev m) ?_
   by_cases hm:¬(0≤m∧m≤2047)
   ·simp only[hm,decide_false];exact EvQ.const _
   replace hm:=Classical.not_not.1 hm
   simp only[hm,and_self,decide_true,Bool.not_true,cond_false]
   refine EvQ.bind (l01In_ev _ _ _) ?_
   by_cases hw:¬(0≤w∧w≤7)
   ·simp only[hw,decide_false];exact EvQ.const _
   replace hw:=Classical.not_not.1 hw
   exact absurd ⟨⟨rfl,rfl⟩,hu,hgg,hm,hw⟩ hg
end Go.Proofs.YtbpfenmkhapeiaaGreat

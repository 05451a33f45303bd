/- The tables, the residual functions and lemmas of this seat: parts of the proof of the law; conditions: those that each names. -/
import Derived.Test.YtkdcfeopelbojaaGreatDoorAlw
set_option linter.unusedVariables false
set_option linter.unusedSimpArgs false
set_option maxRecDepth 100000
namespace Go.Proofs.YtkdcfeopelbojaaGreatDoor
open Go.Eng
theorem Nw(l:List fe)(hl:l.length<fu):∃r,Ev (fun k=>pL k l) r∧Ev (fun k=>pM k l) r:=by
 unfold fu at hl
 obtain⟨r,h,_⟩:∃r,Ev (fun k=>uI k l) r∧True:=by
  refine Ev.of ?_
  simp only[uI]
  refine ak.list (L:=fun k _=>kh k) l (fun(_:Unit) i=>(l,(l.length:Int),((i:Nat):Int))) (fun _ _=>True) (fun _ i e hx hi _=> ?_) (fun _ _=> ?_) () trivial
  ·have hw:aa .i64 ((i:Int)+1)=((i+1:Nat):Int):=by rw[aV (by omega) (by omega)];omega
   simp only[kh,Int.ofNat_lt,hi,decide_true,cond_true,Int.natCast_nonneg,if_true,Int.toNat_natCast,hx,Option.bind_some,hw]
   exact ak.bif (fun h=>ak.const _ (GL.ret (GR.ret trivial))) (fun h=>ak.const _ (GL.self () rfl trivial))
  ·simp only[kh,Int.lt_irrefl,decide_false,cond_false]
   exact ak.const _ (GE.ret (GR.ret trivial))
 exact⟨r,ax.run (fun k=>Dp k l) h,ax.run (fun k=>DL k l) (ax.congr (fun k=>rfl) h)⟩
theorem ID(l:List fe)(t d:Int)(hl:l.length<fu):∃r,Ev (fun k=>oC k (l,t,d)) r∧Ev (fun k=>oa k (l,t,d)) r:=by
 unfold fu at hl
 obtain⟨r,h,_⟩:∃r,Ev (fun k=>rN k l t d) r∧True:=by
  refine Ev.of ?_
  simp only[rN]
  refine ak.list (L:=fun k _=>jl k) l (fun(_:Unit) i=>(t,d,l,(l.length:Int),((i:Nat):Int))) (fun _ _=>True) (fun _ i e hx hi _=> ?_) (fun _ _=> ?_) () trivial
  ·have hw:aa .i64 ((i:Int)+1)=((i+1:Nat):Int):=by rw[aV (by omega) (by omega)];omega
   simp only[jl,Int.ofNat_lt,hi,decide_true,cond_true,Int.natCast_nonneg,if_true,Int.toNat_natCast,hx,Option.bind_some,hw]
   exact ak.bif (fun h=>ak.bif (fun h=>ak.const _ (GL.ret (GR.ret trivial))) (fun h=>ak.const _ (GL.self () rfl trivial))) (fun h=>ak.const _ (GL.self () rfl trivial))
  ·simp only[jl,Int.lt_irrefl,decide_false,cond_false]
   exact ak.const _ (GE.ret (GR.ret trivial))
 exact⟨r,ax.run (fun k=>Bo k l t d) h,ax.run (fun k=>BS k l t d) (ax.congr (fun k=>rfl) h)⟩
def R5(c:cq)(g:Int):Bool:=decide (c.2.1=g∨g∈c.2.2)
theorem tc(c:cq)(g:Int)(hc:c.2.2.length<fu):Ev (fun k=>kk k (c,g)) (R5 c g):=by
 refine dB.ev (dB.run (fun k=>Cg k _ _) (dB.of ?_))
 simp only[Ab]
 refine ak.bif (fun h=>ak.const _ (GP.yes (.inl (beq_iff_eq.1 h).symm))) (fun h=> ?_)
 have hne:¬(g=c.2.1):=by simpa using h
 refine ak.CB (A6 c.2.2 g hc) fun b hb=>ak.const _ (GP.ret (hb.trans ⟨.inr,fun h=>h.resolve_left fun e=>hne e.symm⟩))
theorem tT(c:cq)(g:Int)(hc:c.2.2.length<fu):Ev (fun k=>kH k (c,g)) (R5 c g):=by
 refine dB.ev (dB.run (fun k=>B6 k _ _) (dB.of ?_))
 simp only[A5]
 refine ak.bif (fun h=>ak.const _ (GP.yes (.inl (beq_iff_eq.1 h)))) (fun h=> ?_)
 have hne:¬(c.2.1=g):=by simpa using h
 refine ak.CB (Mn c.2.2 g hc) fun b hb=>ak.const _ (GP.ret (hb.trans ⟨.inr,fun h=>h.resolve_left hne⟩))
def GA(w p:Int):Bool:=intBits .and .i64 p w==w
theorem nK(p w:Int):Ev (fun k=>cI k (p,w)) (GA w p):=ax.run (fun k=>zi k _ _) (ax.const _)
def gp(c:cq)(e:fe):List Int:=bif e.1==2 then(bif R5 c e.2.1 then [e.2.2]else [])else []
def du(c:cq)(p0:List Int)(l:List fe)(i:Nat):List Int:=p0++(l.take i).flatMap (gp c)
theorem fx{c:cq}{p0:List Int}{l:List fe}{i:Nat}{e:fe}(h:l[i]? =some e):du c p0 l (i+1)=du c p0 l i++gp c e:=by
 simp only[du,List.take_add_one,h,Option.toList_some,List.flatMap_append,List.flatMap_singleton,List.append_assoc]
theorem yE{c:cq}{p0:List Int}{l:List fe}(h0:p0.length≤1):∀i,i≤l.length→(du c p0 l i).length≤i+1
 |0,_=>by simp[du];omega
 |i+1,hi=>by
  have ih:=yE (c:=c) (l:=l) h0 i (by omega)
  have hx:l[i]? =some l[i]:=List.getElem?_eq_getElem (by omega)
  have hg:(gp c l[i]).length≤1:=by
   unfold gp
   cases l[i].1==2<;>cases R5 c l[i].2.1<;>simp
  rw[fx hx,List.length_append];omega
def IN(P:List Int)(mask want mode:Int):Bool:=bif P.isEmpty then GA want (kQ mode 2)else(bif GA want mask then P.any (GA want)else false)
theorem Pa(P:List Int)(want:Int)(c:cq)(hP:P.length<fu):Ev (fun k=>iter k (eC k) ((),(),(P.length:Int),(0:Int),P,want,c)) (P.any (GA want)):=by
 unfold fu at hP
 refine Ev.eq ?_
 refine ak.list (L:=fun k _=>eC k) P (fun(_:Unit) i=>((),(),(P.length:Int),((i:Nat):Int),P,want,c)) (fun _ i=>∀j p,j<i→P[j]? =some p→GA want p=false) (fun _ i p hx hi inv=> ?_) (fun _ inv=> ?_) () (by simp)
 ·have hw:aa .i64 ((i:Int)+1)=((i+1:Nat):Int):=by rw[aV (by omega) (by omega)];omega
  simp only[eC,Int.ofNat_lt,hi,decide_true,cond_true,Int.natCast_nonneg,if_true,Int.toNat_natCast,hx,Option.bind_some,hw]
  refine ak.bif (fun h=>ak.const _ (GL.ret (GR.ret ?_))) (fun h=>ak.const _ (GL.self () rfl fun j q hj hq=> ?_))
  ·exact(List.any_eq_true.2 ⟨p,List.mem_iff_getElem?.2 ⟨i,hx⟩,h⟩).symm
  ·by_cases e:j=i
   ·subst e;rw[hx]at hq;cases hq;exact h
   ·exact inv j q (by omega) hq
 ·simp only[eC,Int.lt_irrefl,decide_false,cond_false]
  refine ak.const _ (GE.ret (GR.ret ?_))
  have:P.any (GA want)=false:=by
   rw[List.any_eq_false]
   intro p hp
   obtain⟨j,hj⟩:=List.mem_iff_getElem?.1 hp
   have:=inv j p ((List.getElem?_eq_some_iff.1 hj).1) hj
   rw[this];simp
  rw[this];rfl
theorem Gx(c:cq)(acl:List fe)(mode want mask:Int)(p0:List Int)(h0:p0.length≤1)(hm0:0≤mode)(hm1:mode≤2047)(ha:acl.length<1000)(hc:c.2.2.length<fu):
  Ev (fun k=>iter k (ga k) (mode,(),(),mask,p0,acl,(acl.length:Int),(0:Int),want,c)) (IN (du c p0 acl acl.length) mask want mode):=by
 refine Ev.eq ?_
 refine ak.list (L:=fun k _=>ga k) acl (fun(st:List Int) i=>(mode,(),(),mask,st,acl,(acl.length:Int),((i:Nat):Int),want,c)) (fun st i=>st=du c p0 acl i) (fun st i e hx hi inv=> ?_) (fun st inv=> ?_) p0 (by simp[du])
 ·subst inv
  have hw:aa .i64 ((i:Int)+1)=((i+1:Nat):Int):=by rw[aV (by omega) (by omega)];omega
  have hl:=yE (c:=c) (l:=acl) h0 i (by omega)
  simp only[ga,Int.ofNat_lt,hi,decide_true,cond_true,Int.natCast_nonneg,if_true,Int.toNat_natCast,hx,Option.bind_some,hw]
  refine ak.bif (fun h=> ?_) (fun h=>ak.const _ (GL.self _ rfl (by rw[fx hx,gp,h];simp)))
  refine ak.bind (tc c e.2.1 hc) ?_
  refine ak.bif (fun h2=> ?_) (fun h2=>ak.const _ (GL.self _ rfl (by rw[fx hx,gp,h,h2];simp)))
  refine ak.pE (by simp only[List.length_singleton,au];omega) ?_
  exact ak.const _ (GL.self _ rfl (by rw[fx hx,gp,h,h2];simp))
 ·subst inv
  have hl:=yE (c:=c) (l:=acl) h0 acl.length (Nat.le_refl _)
  simp only[ga,Int.lt_irrefl,decide_false,cond_false]
  refine ak.bif (fun h=> ?_) (fun h=> ?_)
  ·have hne:(du c p0 acl acl.length).isEmpty=false:=by
    cases hq:du c p0 acl acl.length with
    |nil=>rw[hq]at h;simp at h
    |cons _ _=>rfl
   refine ak.bif (fun h2=> ?_) (fun h2=> ?_)
   ·have h2':GA want mask=true:=h2
    refine ak.out (F:=fun k _=>iter k (eC k) ((),(),((du c p0 acl acl.length).length:Int),(0:Int),du c p0 acl acl.length,want,c)) ?_
    refine ak.Qf (Pa _ _ _ (by unfold fu;omega)) (GR.ret ?_)
    simp only[IN,hne,h2',cond_false,cond_true]
   ·have h2':GA want mask=false:=h2
    refine ak.const _ (GE.ret (GR.ret ?_))
    simp only[IN,hne,h2',cond_false]
  ·have he:(du c p0 acl acl.length).isEmpty=true:=by
    cases hq:du c p0 acl acl.length with
    |nil=>rfl
    |cons _ _=>rw[hq]at h;simp at h
   refine ak.bind (rI hm0 hm1 2 (by omega)) ?_
   refine ak.const _ (GE.ret (GR.ret ?_))
   simp only[IN,he,cond_true];rfl
theorem Gr(c:cq)(acl:List fe)(mode want mask:Int)(p0:List Int)(h0:p0.length≤1)(hm0:0≤mode)(hm1:mode≤2047)(ha:acl.length<1000)(hc:c.2.2.length<fu):
  Ev (fun k=>iter k (fY k) (mode,want,(),mask, !p0.isEmpty,p0.any (GA want),acl,(acl.length:Int),(0:Int),c)) (IN (du c p0 acl acl.length) mask want mode):=by
 refine Ev.eq ?_
 refine ak.list (L:=fun k _=>fY k) acl (fun(st:Bool×Bool) i=>(mode,want,(),mask,st.1,st.2,acl,(acl.length:Int),((i:Nat):Int),c)) (fun st i=>st=(!(du c p0 acl i).isEmpty,(du c p0 acl i).any (GA want))) (fun st i e hx hi inv=> ?_) (fun st inv=> ?_) (!p0.isEmpty,p0.any (GA want)) (by simp[du])
 ·subst inv
  have hw:aa .i64 ((i:Int)+1)=((i+1:Nat):Int):=by rw[aV (by omega) (by omega)];omega
  simp only[fY,Int.ofNat_lt,hi,decide_true,cond_true,Int.natCast_nonneg,if_true,Int.toNat_natCast,hx,Option.bind_some,hw]
  refine ak.bif (fun h=> ?_) (fun h=>ak.const _ (GL.self (!(du c p0 acl i).isEmpty,(du c p0 acl i).any (GA want)) rfl (by rw[fx hx,gp,h];simp)))
  refine ak.bind (tT c e.2.1 hc) ?_
  refine ak.bif (fun h2=> ?_) (fun h2=>ak.const _ (GL.self (!(du c p0 acl i).isEmpty,(du c p0 acl i).any (GA want)) rfl (by rw[fx hx,gp,h,h2];simp)))
  refine ak.bif (fun h3=> ?_) (fun h3=> ?_)
  ·refine ak.const _ (GL.self (true,true) rfl ?_)
   rw[fx hx,gp,h,h2]
   simp only[cond_true,List.any_append,h3,Bool.true_or]
   simp
  ·refine ak.bind (nK e.2.2 want) ?_
   refine ak.const _ (GL.self (true,GA want e.2.2) rfl ?_)
   rw[fx hx,gp,h,h2]
   simp only[cond_true,List.any_append,h3,Bool.false_or]
   simp
 ·subst inv
  simp only[fY,Int.lt_irrefl,decide_false,cond_false]
  refine ak.bif (fun h=> ?_) (fun h=> ?_)
  ·have hne:(du c p0 acl acl.length).isEmpty=false:=by simpa using h
   refine ak.bif (fun h2=> ?_) (fun h2=> ?_)
   ·refine ak.bind (nK mask want) ?_
    refine ak.const _ (GE.ret (GR.ret ?_))
    simp only[IN,hne,cond_false]
    cases GA want mask with
    |true=>simp only[cond_true];exact h2.symm
    |false=>rfl
   ·refine ak.const _ (GE.ret (GR.ret ?_))
    simp only[IN,hne,cond_false]
    cases GA want mask with
    |true=>simp only[cond_true];exact h2.symm
    |false=>rfl
  ·have he:(du c p0 acl acl.length).isEmpty=true:=by simpa using h
   refine ak.bind (rU hm0 hm1 2 (by omega)) (ak.bind (nK _ _) ?_)
   refine ak.const _ (GE.ret (GR.ret ?_))
   simp only[IN,he,cond_true]
theorem It(c:cq)(u g m:Int)(acl:List fe)(w:Int)(hc:c.2.2.length<fu)(ha:acl.length<fu):∃b,Ev (fun k=>n6 k (c,u,g,m,acl,w)) b∧Ev (fun k=>oq k (c,u,g,m,acl,w)) b:=by
 obtain⟨b1,e1,f1,_⟩:=(mT c hc).same (mK c hc)
 obtain⟨b2,e2,f2,g2⟩:=(kd acl).same (kC acl ha)
 obtain⟨mk,e3,f3⟩:=Nw acl ha
 obtain⟨ap,e4,f4⟩:=ID acl 1 c.1 ha
 by_cases hg:(b1=true∧b2=true)∧(0≤u∧u≤3)∧(0≤g∧g≤3)∧(0≤m∧m≤2047)∧(0≤w∧w≤7)
 ·obtain⟨⟨rfl,rfl⟩,hu,hgg,hm,hw⟩:=hg
  have hl6:acl.length≤6:=(g2.1 rfl).1
  have a1:¬w<0:=by omega
  have a2:¬(7:Int)<w:=by omega
  obtain⟨P0,hP0⟩:∃P0:List Int,P0=bif R5 c g then [kQ m 1]else []:=⟨_,rfl⟩
  have hP1:P0.length≤1:=by rw[hP0];cases R5 c g<;>simp
  refine⟨bif c.1==0 then true else bif c.1==u then GA w (kQ m 0)else bif ap.2 then GA w (intBits .and .i64 ap.1 mk)else IN (du c P0 acl acl.length) mk w m,ax.run (fun k=>qY k _ _ _ _ _ _) ?_,ax.run (fun k=>rz k _ _ _ _ _ _) ?_⟩
  ·simp only[sN]
   refine ax.bind e1 (ax.bind e2 (ax.bind (ez u) ?_))
   simp only[Bool.not_true,cond_false,hu,and_self,decide_true]
   refine ax.bind (ez g) ?_
   simp only[hgg,and_self,decide_true,Bool.not_true,cond_false]
   refine ax.bind (wB m) ?_
   simp only[hm,and_self,decide_true,Bool.not_true,cond_false,a1,a2,decide_false]
   cases c.1==0 with
   |true=>simp only[cond_true];exact ax.const _
   |false=>
    simp only[cond_false]
    cases c.1==u with
    |true=>simp only[cond_true];exact ax.bind (rI hm.1 hm.2 0 (by omega)) (ax.const _)
    |false=>
     simp only[cond_false]
     refine ax.bind e3 (ax.bind e4 ?_)
     cases ap.2 with
     |true=>simp only[cond_true];exact ax.const _
     |false=>
      simp only[cond_false]
      refine Ev.eq (ak.jd (m,acl,(),(),mk,P0,w,c) True ?_ fun _=>ak.Qf (Gx c acl m w mk P0 hP1 hm.1 hm.2 (by omega) hc) (GR.ret rfl))
      refine ak.bind (tc c g hc) ?_
      refine ak.bif (fun h=> ?_) (fun h=> ?_)
      ·refine ak.bind (rI hm.1 hm.2 1 (by omega)) (ak.pE (by simp[au]) ?_)
       have:P0=[]++[kQ m 1]:=by rw[hP0,h];rfl
       rw[this]
       exact ak.const _ (GT.inl trivial)
      ·have:P0=[]:=by rw[hP0,h];rfl
       rw[this]
       exact ak.const _ (GT.inl trivial)
  ·simp only[sD]
   refine ax.bind f1 (ax.bind f2 (ax.bind (dZ u) ?_))
   simp only[Bool.not_true,cond_false,hu,and_self,decide_true]
   refine ax.bind (dZ g) ?_
   simp only[hgg,and_self,decide_true,Bool.not_true,cond_false]
   refine ax.bind (ll m) ?_
   simp only[hm,and_self,decide_true,Bool.not_true,cond_false]
   refine ax.bind (cA _ _ _) ?_
   simp only[hw,and_self,decide_true,Bool.not_true,cond_false]
   cases c.1==0 with
   |true=>simp only[cond_true];exact ax.const _
   |false=>
    simp only[cond_false]
    cases c.1==u with
    |true=>simp only[cond_true];exact ax.bind (rU hm.1 hm.2 0 (by omega)) (ax.bind (nK _ _) (ax.const _))
    |false=>
     simp only[cond_false]
     refine ax.bind f3 (ax.bind f4 ?_)
     cases ap.2 with
     |true=>simp only[cond_true];exact ax.bind (nK _ _) (ax.const _)
     |false=>
      simp only[cond_false]
      refine Ev.eq (ak.jd (m,acl,w,(),mk, !P0.isEmpty,P0.any (GA w),c) True ?_ fun _=>ak.Qf (Gr c acl m w mk P0 hP1 hm.1 hm.2 (by omega) hc) (GR.ret rfl))
      refine ak.bind (tT c g hc) ?_
      refine ak.bif (fun h=> ?_) (fun h=> ?_)
      ·refine ak.bind (rU hm.1 hm.2 1 (by omega)) (ak.bind (nK _ _) ?_)
       have:P0=[kQ m 1]:=by rw[hP0,h];rfl
       rw[this]
       refine ak.congr (F':=fun _ _=>some (.inl (m,acl,w,(),mk, !([kQ m 1]:List Int).isEmpty,([kQ m 1]:List Int).any (GA w),c))) (fun k _=>by simp) (ak.const _ (GT.inl trivial))
      ·have:P0=[]:=by rw[hP0,h];rfl
       rw[this]
       exact ak.const _ (GT.inl trivial)
 ·refine⟨false,ax.run (fun k=>qY k _ _ _ _ _ _) ?_,ax.run (fun k=>rz k _ _ _ _ _ _) ?_⟩
  ·simp only[sN]
   refine ax.bind e1 ?_
   cases b1 with
   |false=>exact ax.const _
   |true=>
   refine ax.bind e2 ?_
   cases b2 with
   |false=>exact ax.const _
   |true=>
   refine ax.bind (ez u) ?_
   by_cases hu:¬(0≤u∧u≤3)
   ·simp only[hu,decide_false];exact ax.const _
   replace hu:=Classical.not_not.1 hu
   simp only[hu,and_self,decide_true,Bool.not_true,cond_false]
   refine ax.bind (ez g) ?_
   by_cases hgg:¬(0≤g∧g≤3)
   ·simp only[hgg,decide_false];exact ax.const _
   replace hgg:=Classical.not_not.1 hgg
   simp only[hgg,and_self,decide_true,Bool.not_true,cond_false]
   refine ax.bind (wB m) ?_
   by_cases hm:¬(0≤m∧m≤2047)
   ·simp only[hm,decide_false];exact ax.const _
   replace hm:=Classical.not_not.1 hm
   simp only[hm,and_self,decide_true,Bool.not_true,cond_false]
   by_cases a1:w<0
   ·simp only[a1,decide_true,cond_true];exact ax.const _
   by_cases a2:(7:Int)<w
   ·simp only[a1,a2,decide_true,decide_false,cond_true,cond_false];exact ax.const _
   ·exact absurd ⟨⟨rfl,rfl⟩,hu,hgg,hm,by omega,by omega⟩ hg
  ·simp only[sD]
   refine ax.bind f1 ?_
   cases b1 with
   |false=>exact ax.const _
   |true=>
   refine ax.bind f2 ?_
   cases b2 with
   |false=>exact ax.const _
   |true=>
   refine ax.bind (dZ u) ?_
   by_cases hu:¬(0≤u∧u≤3)
   ·simp only[hu,decide_false];exact ax.const _
   replace hu:=Classical.not_not.1 hu
   simp only[hu,and_self,decide_true,Bool.not_true,cond_false]
   refine ax.bind (dZ g) ?_
   by_cases hgg:¬(0≤g∧g≤3)
   ·simp only[hgg,decide_false];exact ax.const _
   replace hgg:=Classical.not_not.1 hgg
   simp only[hgg,and_self,decide_true,Bool.not_true,cond_false]
   refine ax.bind (ll m) ?_
   by_cases hm:¬(0≤m∧m≤2047)
   ·simp only[hm,decide_false];exact ax.const _
   replace hm:=Classical.not_not.1 hm
   simp only[hm,and_self,decide_true,Bool.not_true,cond_false]
   refine ax.bind (cA _ _ _) ?_
   by_cases hw:¬(0≤w∧w≤7)
   ·simp only[hw,decide_false];exact ax.const _
   replace hw:=Classical.not_not.1 hw
   exact absurd ⟨⟨rfl,rfl⟩,hu,hgg,hm,hw⟩ hg
end Go.Proofs.YtkdcfeopelbojaaGreatDoor

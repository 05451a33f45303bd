/- The tables, the residual functions and lemmas of this seat: parts of the proof of the law; conditions: those that each names. -/
import Derived.Test.YtkdcfeopelbojaaGreatDoorAlw
set_option linter.unusedVariables false
set_option linter.unusedSimpArgs false
set_option maxRecDepth 100000
namespace Go.Proofs.YtkdcfeopelbojaaGreatDoor
open Go.Eng
theorem N3(l:List fc)(hl:l.length<ia):∃r,Ev (fun k=>p8 k l) r∧Ev (fun k=>qf k l) r:=by
 unfold ia at hl
 obtain⟨r,h,_⟩:∃r,Ev (fun k=>vR k l) r∧True:=by
  refine Ev.of ?_
  simp only[vR]
  refine ak.list (L:=fun k _=>kV k) l (fun(_:Unit) i=>(l,(l.length:Int),((i:Nat):Int))) (fun _ _=>True) (fun _ i e hx hi _=> ?_) (fun _ _=> ?_) () trivial
  ·have hw:aa .i64 ((i:Int)+1)=((i+1:Nat):Int):=by rw[aV (by omega) (by omega)];omega
   simp only[kV,Int.ofNat_lt,hi,decide_true,cond_true,Int.natCast_nonneg,if_true,Int.toNat_natCast,hx,Option.bind_some,hw]
   exact ak.bif (fun h=>ak.const _ (GL.ret (GR.ret trivial))) (fun h=>ak.const _ (GL.self () rfl trivial))
  ·simp only[kV,Int.lt_irrefl,decide_false,cond_false]
   exact ak.const _ (GE.ret (GR.ret trivial))
 exact⟨r,aw.run (fun k=>D3 k l) h,aw.run (fun k=>En k l) (aw.congr (fun k=>rfl) h)⟩
theorem Js(l:List fc)(t d:Int)(hl:l.length<ia):∃r,Ev (fun k=>ou k (l,t,d)) r∧Ev (fun k=>oL k (l,t,d)) r:=by
 unfold ia at hl
 obtain⟨r,h,_⟩:∃r,Ev (fun k=>sW k l t d) r∧True:=by
  refine Ev.of ?_
  simp only[sW]
  refine ak.list (L:=fun k _=>jC k) l (fun(_:Unit) i=>(t,d,l,(l.length:Int),((i:Nat):Int))) (fun _ _=>True) (fun _ i e hx hi _=> ?_) (fun _ _=> ?_) () trivial
  ·have hw:aa .i64 ((i:Int)+1)=((i+1:Nat):Int):=by rw[aV (by omega) (by omega)];omega
   simp only[jC,Int.ofNat_lt,hi,decide_true,cond_true,Int.natCast_nonneg,if_true,Int.toNat_natCast,hx,Option.bind_some,hw]
   exact ak.bif (fun h=>ak.bif (fun h=>ak.const _ (GL.ret (GR.ret trivial))) (fun h=>ak.const _ (GL.self () rfl trivial))) (fun h=>ak.const _ (GL.self () rfl trivial))
  ·simp only[jC,Int.lt_irrefl,decide_false,cond_false]
   exact ak.const _ (GE.ret (GR.ret trivial))
 exact⟨r,aw.run (fun k=>Ce k l t d) h,aw.run (fun k=>Ct k l t d) (aw.congr (fun k=>rfl) h)⟩
def S0(c:cw)(g:Int):Bool:=decide (c.2.1=g∨g∈c.2.2)
theorem ub(c:cw)(g:Int)(hc:c.2.2.length<ia):Ev (fun k=>kW k (c,g)) (S0 c g):=by
 refine ep.ev (ep.run (fun k=>BZ k _ _) (ep.of ?_))
 simp only[Be]
 refine ak.bif (fun h=>ak.const _ (GP.yes (.inl (beq_iff_eq.1 h).symm))) (fun h=> ?_)
 have hne:¬(g=c.2.1):=by simpa using h
 refine ak.Ds (Bk c.2.2 g hc) fun b hb=>ak.const _ (GP.ret (hb.trans ⟨.inr,fun h=>h.resolve_left fun e=>hne e.symm⟩))
theorem ur(c:cw)(g:Int)(hc:c.2.2.length<ia):Ev (fun k=>kt k (c,g)) (S0 c g):=by
 refine ep.ev (ep.run (fun k=>Ca k _ _) (ep.of ?_))
 simp only[Bb]
 refine ak.bif (fun h=>ak.const _ (GP.yes (.inl (beq_iff_eq.1 h)))) (fun h=> ?_)
 have hne:¬(c.2.1=g):=by simpa using h
 refine ak.Ds (M8 c.2.2 g hc) fun b hb=>ak.const _ (GP.ret (hb.trans ⟨.inr,fun h=>h.resolve_left hne⟩))
def Hg(w p:Int):Bool:=intBits .and .i64 p w==w
theorem nQ(p w:Int):Ev (fun k=>cK k (p,w)) (Hg w p):=aw.run (fun k=>zX k _ _) (aw.const _)
def gp(c:cw)(e:fc):List Int:=bif e.1==2 then(bif S0 c e.2.1 then [e.2.2]else [])else []
def dz(c:cw)(p0:List Int)(l:List fc)(i:Nat):List Int:=p0++(l.take i).flatMap (gp c)
theorem fB{c:cw}{p0:List Int}{l:List fc}{i:Nat}{e:fc}(h:l[i]? =some e):dz c p0 l (i+1)=dz c p0 l i++gp c e:=by
 simp only[dz,List.take_add_one,h,Option.toList_some,List.flatMap_append,List.flatMap_singleton,List.append_assoc]
theorem zQ{c:cw}{p0:List Int}{l:List fc}(h0:p0.length≤1):∀i,i≤l.length→(dz c p0 l i).length≤i+1
 |0,_=>by simp[dz];omega
 |i+1,hi=>by
  have ih:=zQ (c:=c) (l:=l) h0 i (by omega)
  have hx:l[i]? =some l[i]:=List.getElem?_eq_getElem (by omega)
  have hg:(gp c l[i]).length≤1:=by
   unfold gp
   cases l[i].1==2<;>cases S0 c l[i].2.1<;>simp
  rw[fB hx,List.length_append];omega
def J2(P:List Int)(mask want mode:Int):Bool:=bif P.isEmpty then Hg want (kR mode 2)else(bif Hg want mask then P.any (Hg want)else false)
theorem Pc(P:List Int)(want:Int)(c:cw)(hP:P.length<ia):Ev (fun k=>iter k (eC k) ((),(),(P.length:Int),(0:Int),P,want,c)) (P.any (Hg want)):=by
 unfold ia at hP
 refine Ev.eq ?_
 refine ak.list (L:=fun k _=>eC k) P (fun(_:Unit) i=>((),(),(P.length:Int),((i:Nat):Int),P,want,c)) (fun _ i=>∀j p,j<i→P[j]? =some p→Hg want p=false) (fun _ i p hx hi inv=> ?_) (fun _ inv=> ?_) () (by simp)
 ·have hw:aa .i64 ((i:Int)+1)=((i+1:Nat):Int):=by rw[aV (by omega) (by omega)];omega
  simp only[eC,Int.ofNat_lt,hi,decide_true,cond_true,Int.natCast_nonneg,if_true,Int.toNat_natCast,hx,Option.bind_some,hw]
  refine ak.bif (fun h=>ak.const _ (GL.ret (GR.ret ?_))) (fun h=>ak.const _ (GL.self () rfl fun j q hj hq=> ?_))
  ·exact(List.any_eq_true.2 ⟨p,List.mem_iff_getElem?.2 ⟨i,hx⟩,h⟩).symm
  ·by_cases e:j=i
   ·subst e;rw[hx]at hq;cases hq;exact h
   ·exact inv j q (by omega) hq
 ·simp only[eC,Int.lt_irrefl,decide_false,cond_false]
  refine ak.const _ (GE.ret (GR.ret ?_))
  have:P.any (Hg want)=false:=by
   rw[List.any_eq_false]
   intro p hp
   obtain⟨j,hj⟩:=List.mem_iff_getElem?.1 hp
   have:=inv j p ((List.getElem?_eq_some_iff.1 hj).1) hj
   rw[this];simp
  rw[this];rfl
theorem Hf(c:cw)(acl:List fc)(mode want mask:Int)(p0:List Int)(h0:p0.length≤1)(hm0:0≤mode)(hm1:mode≤2047)(ha:acl.length<1000)(hc:c.2.2.length<ia):
  Ev (fun k=>iter k (gm k) (mode,(),(),mask,p0,acl,(acl.length:Int),(0:Int),want,c)) (J2 (dz c p0 acl acl.length) mask want mode):=by
 refine Ev.eq ?_
 refine ak.list (L:=fun k _=>gm k) acl (fun(st:List Int) i=>(mode,(),(),mask,st,acl,(acl.length:Int),((i:Nat):Int),want,c)) (fun st i=>st=dz c p0 acl i) (fun st i e hx hi inv=> ?_) (fun st inv=> ?_) p0 (by simp[dz])
 ·subst inv
  have hw:aa .i64 ((i:Int)+1)=((i+1:Nat):Int):=by rw[aV (by omega) (by omega)];omega
  have hl:=zQ (c:=c) (l:=acl) h0 i (by omega)
  simp only[gm,Int.ofNat_lt,hi,decide_true,cond_true,Int.natCast_nonneg,if_true,Int.toNat_natCast,hx,Option.bind_some,hw]
  refine ak.bif (fun h=> ?_) (fun h=>ak.const _ (GL.self _ rfl (by rw[fB hx,gp,h];simp)))
  refine ak.bind (ub c e.2.1 hc) ?_
  refine ak.bif (fun h2=> ?_) (fun h2=>ak.const _ (GL.self _ rfl (by rw[fB hx,gp,h,h2];simp)))
  refine ak.pK (by simp only[List.length_singleton,au];omega) ?_
  exact ak.const _ (GL.self _ rfl (by rw[fB hx,gp,h,h2];simp))
 ·subst inv
  have hl:=zQ (c:=c) (l:=acl) h0 acl.length (Nat.le_refl _)
  simp only[gm,Int.lt_irrefl,decide_false,cond_false]
  refine ak.bif (fun h=> ?_) (fun h=> ?_)
  ·have hne:(dz c p0 acl acl.length).isEmpty=false:=by
    cases hq:dz c p0 acl acl.length with
    |nil=>rw[hq]at h;simp at h
    |cons _ _=>rfl
   refine ak.bif (fun h2=> ?_) (fun h2=> ?_)
   ·have h2':Hg want mask=true:=h2
    refine ak.out (F:=fun k _=>iter k (eC k) ((),(),((dz c p0 acl acl.length).length:Int),(0:Int),dz c p0 acl acl.length,want,c)) ?_
    refine ak.Rz (Pc _ _ _ (by unfold ia;omega)) (GR.ret ?_)
    simp only[J2,hne,h2',cond_false,cond_true]
   ·have h2':Hg want mask=false:=h2
    refine ak.const _ (GE.ret (GR.ret ?_))
    simp only[J2,hne,h2',cond_false]
  ·have he:(dz c p0 acl acl.length).isEmpty=true:=by
    cases hq:dz c p0 acl acl.length with
    |nil=>rfl
    |cons _ _=>rw[hq]at h;simp at h
   refine ak.bind (sF hm0 hm1 2 (by omega)) ?_
   refine ak.const _ (GE.ret (GR.ret ?_))
   simp only[J2,he,cond_true];rfl
theorem G9(c:cw)(acl:List fc)(mode want mask:Int)(p0:List Int)(h0:p0.length≤1)(hm0:0≤mode)(hm1:mode≤2047)(ha:acl.length<1000)(hc:c.2.2.length<ia):
  Ev (fun k=>iter k (gj k) (mode,want,(),mask, !p0.isEmpty,p0.any (Hg want),acl,(acl.length:Int),(0:Int),c)) (J2 (dz c p0 acl acl.length) mask want mode):=by
 refine Ev.eq ?_
 refine ak.list (L:=fun k _=>gj k) acl (fun(st:Bool×Bool) i=>(mode,want,(),mask,st.1,st.2,acl,(acl.length:Int),((i:Nat):Int),c)) (fun st i=>st=(!(dz c p0 acl i).isEmpty,(dz c p0 acl i).any (Hg want))) (fun st i e hx hi inv=> ?_) (fun st inv=> ?_) (!p0.isEmpty,p0.any (Hg want)) (by simp[dz])
 ·subst inv
  have hw:aa .i64 ((i:Int)+1)=((i+1:Nat):Int):=by rw[aV (by omega) (by omega)];omega
  simp only[gj,Int.ofNat_lt,hi,decide_true,cond_true,Int.natCast_nonneg,if_true,Int.toNat_natCast,hx,Option.bind_some,hw]
  refine ak.bif (fun h=> ?_) (fun h=>ak.const _ (GL.self (!(dz c p0 acl i).isEmpty,(dz c p0 acl i).any (Hg want)) rfl (by rw[fB hx,gp,h];simp)))
  refine ak.bind (ur c e.2.1 hc) ?_
  refine ak.bif (fun h2=> ?_) (fun h2=>ak.const _ (GL.self (!(dz c p0 acl i).isEmpty,(dz c p0 acl i).any (Hg want)) rfl (by rw[fB hx,gp,h,h2];simp)))
  refine ak.bif (fun h3=> ?_) (fun h3=> ?_)
  ·refine ak.const _ (GL.self (true,true) rfl ?_)
   rw[fB hx,gp,h,h2]
   simp only[cond_true,List.any_append,h3,Bool.true_or]
   simp
  ·refine ak.bind (nQ e.2.2 want) ?_
   refine ak.const _ (GL.self (true,Hg want e.2.2) rfl ?_)
   rw[fB hx,gp,h,h2]
   simp only[cond_true,List.any_append,h3,Bool.false_or]
   simp
 ·subst inv
  simp only[gj,Int.lt_irrefl,decide_false,cond_false]
  refine ak.bif (fun h=> ?_) (fun h=> ?_)
  ·have hne:(dz c p0 acl acl.length).isEmpty=false:=by simpa using h
   refine ak.bif (fun h2=> ?_) (fun h2=> ?_)
   ·refine ak.bind (nQ mask want) ?_
    refine ak.const _ (GE.ret (GR.ret ?_))
    simp only[J2,hne,cond_false]
    cases Hg want mask with
    |true=>simp only[cond_true];exact h2.symm
    |false=>rfl
   ·refine ak.const _ (GE.ret (GR.ret ?_))
    simp only[J2,hne,cond_false]
    cases Hg want mask with
    |true=>simp only[cond_true];exact h2.symm
    |false=>rfl
  ·have he:(dz c p0 acl acl.length).isEmpty=true:=by simpa using h
   refine ak.bind (si hm0 hm1 2 (by omega)) (ak.bind (nQ _ _) ?_)
   refine ak.const _ (GE.ret (GR.ret ?_))
   simp only[J2,he,cond_true]
theorem I5(c:cw)(u g m:Int)(acl:List fc)(w:Int)(hc:c.2.2.length<ia)(ha:acl.length<ia):∃b,Ev (fun k=>n9 k (c,u,g,m,acl,w)) b∧Ev (fun k=>oG k (c,u,g,m,acl,w)) b:=by
 obtain⟨b1,e1,f1,_⟩:=(tQ c hc).same (tH c hc)
 obtain⟨b2,e2,f2,g2⟩:=(kz acl).same (kA acl ha)
 obtain⟨mk,e3,f3⟩:=N3 acl ha
 obtain⟨ap,e4,f4⟩:=Js acl 1 c.1 ha
 by_cases hg:(b1=true∧b2=true)∧(0≤u∧u≤3)∧(0≤g∧g≤3)∧(0≤m∧m≤2047)∧(0≤w∧w≤7)
 ·obtain⟨⟨rfl,rfl⟩,hu,hgg,hm,hw⟩:=hg
  have hl6:acl.length≤6:=(g2.1 rfl).1
  have a1:¬w<0:=by omega
  have a2:¬(7:Int)<w:=by omega
  obtain⟨P0,hP0⟩:∃P0:List Int,P0=bif S0 c g then [kR m 1]else []:=⟨_,rfl⟩
  have hP1:P0.length≤1:=by rw[hP0];cases S0 c g<;>simp
  refine⟨bif c.1==0 then true else bif c.1==u then Hg w (kR m 0)else bif ap.2 then Hg w (intBits .and .i64 ap.1 mk)else J2 (dz c P0 acl acl.length) mk w m,aw.run (fun k=>rM k _ _ _ _ _ _) ?_,aw.run (fun k=>qY k _ _ _ _ _ _) ?_⟩
  ·simp only[sX]
   refine aw.bind e1 (aw.bind e2 (aw.bind (eE u) ?_))
   simp only[Bool.not_true,cond_false,hu,and_self,decide_true]
   refine aw.bind (eE g) ?_
   simp only[hgg,and_self,decide_true,Bool.not_true,cond_false]
   refine aw.bind (wP m) ?_
   simp only[hm,and_self,decide_true,Bool.not_true,cond_false,a1,a2,decide_false]
   cases c.1==0 with
   |true=>simp only[cond_true];exact aw.const _
   |false=>
    simp only[cond_false]
    cases c.1==u with
    |true=>simp only[cond_true];exact aw.bind (sF hm.1 hm.2 0 (by omega)) (aw.const _)
    |false=>
     simp only[cond_false]
     refine aw.bind e3 (aw.bind e4 ?_)
     cases ap.2 with
     |true=>simp only[cond_true];exact aw.const _
     |false=>
      simp only[cond_false]
      refine Ev.eq (ak.jm (m,acl,(),(),mk,P0,w,c) True ?_ fun _=>ak.Rz (Hf c acl m w mk P0 hP1 hm.1 hm.2 (by omega) hc) (GR.ret rfl))
      refine ak.bind (ub c g hc) ?_
      refine ak.bif (fun h=> ?_) (fun h=> ?_)
      ·refine ak.bind (sF hm.1 hm.2 1 (by omega)) (ak.pK (by simp[au]) ?_)
       have:P0=[]++[kR m 1]:=by rw[hP0,h];rfl
       rw[this]
       exact ak.const _ (GT.inl trivial)
      ·have:P0=[]:=by rw[hP0,h];rfl
       rw[this]
       exact ak.const _ (GT.inl trivial)
  ·simp only[su]
   refine aw.bind f1 (aw.bind f2 (aw.bind (ea u) ?_))
   simp only[Bool.not_true,cond_false,hu,and_self,decide_true]
   refine aw.bind (ea g) ?_
   simp only[hgg,and_self,decide_true,Bool.not_true,cond_false]
   refine aw.bind (lT m) ?_
   simp only[hm,and_self,decide_true,Bool.not_true,cond_false]
   refine aw.bind (cy _ _ _) ?_
   simp only[hw,and_self,decide_true,Bool.not_true,cond_false]
   cases c.1==0 with
   |true=>simp only[cond_true];exact aw.const _
   |false=>
    simp only[cond_false]
    cases c.1==u with
    |true=>simp only[cond_true];exact aw.bind (si hm.1 hm.2 0 (by omega)) (aw.bind (nQ _ _) (aw.const _))
    |false=>
     simp only[cond_false]
     refine aw.bind f3 (aw.bind f4 ?_)
     cases ap.2 with
     |true=>simp only[cond_true];exact aw.bind (nQ _ _) (aw.const _)
     |false=>
      simp only[cond_false]
      refine Ev.eq (ak.jm (m,acl,w,(),mk, !P0.isEmpty,P0.any (Hg w),c) True ?_ fun _=>ak.Rz (G9 c acl m w mk P0 hP1 hm.1 hm.2 (by omega) hc) (GR.ret rfl))
      refine ak.bind (ur c g hc) ?_
      refine ak.bif (fun h=> ?_) (fun h=> ?_)
      ·refine ak.bind (si hm.1 hm.2 1 (by omega)) (ak.bind (nQ _ _) ?_)
       have:P0=[kR m 1]:=by rw[hP0,h];rfl
       rw[this]
       refine ak.congr (F':=fun _ _=>some (.inl (m,acl,w,(),mk, !([kR m 1]:List Int).isEmpty,([kR m 1]:List Int).any (Hg w),c))) (fun k _=>by simp) (ak.const _ (GT.inl trivial))
      ·have:P0=[]:=by rw[hP0,h];rfl
       rw[this]
       exact ak.const _ (GT.inl trivial)
 ·refine⟨false,aw.run (fun k=>rM k _ _ _ _ _ _) ?_,aw.run (fun k=>qY k _ _ _ _ _ _) ?_⟩
  ·simp only[sX]
   refine aw.bind e1 ?_
   cases b1 with
   |false=>exact aw.const _
   |true=>
   refine aw.bind e2 ?_
   cases b2 with
   |false=>exact aw.const _
   |true=>
   refine aw.bind (eE u) ?_
   by_cases hu:¬(0≤u∧u≤3)
   ·simp only[hu,decide_false];exact aw.const _
   replace hu:=Classical.not_not.1 hu
   simp only[hu,and_self,decide_true,Bool.not_true,cond_false]
   refine aw.bind (eE g) ?_
   by_cases hgg:¬(0≤g∧g≤3)
   ·simp only[hgg,decide_false];exact aw.const _
   replace hgg:=Classical.not_not.1 hgg
   simp only[hgg,and_self,decide_true,Bool.not_true,cond_false]
   refine aw.bind (wP m) ?_
   by_cases hm:¬(0≤m∧m≤2047)
   ·simp only[hm,decide_false];exact aw.const _
   replace hm:=Classical.not_not.1 hm
   simp only[hm,and_self,decide_true,Bool.not_true,cond_false]
   by_cases a1:w<0
   ·simp only[a1,decide_true,cond_true];exact aw.const _
   by_cases a2:(7:Int)<w
   ·simp only[a1,a2,decide_true,decide_false,cond_true,cond_false];exact aw.const _
   ·exact absurd ⟨⟨rfl,rfl⟩,hu,hgg,hm,by omega,by omega⟩ hg
  ·simp only[su]
   refine aw.bind f1 ?_
   cases b1 with
   |false=>exact aw.const _
   |true=>
   refine aw.bind f2 ?_
   cases b2 with
   |false=>exact aw.const _
   |true=>
   refine aw.bind (ea u) ?_
   by_cases hu:¬(0≤u∧u≤3)
   ·simp only[hu,decide_false];exact aw.const _
   replace hu:=Classical.not_not.1 hu
   simp only[hu,and_self,decide_true,Bool.not_true,cond_false]
   refine aw.bind (ea g) ?_
   by_cases hgg:¬(0≤g∧g≤3)
   ·simp only[hgg,decide_false];exact aw.const _
   replace hgg:=Classical.not_not.1 hgg
   simp only[hgg,and_self,decide_true,Bool.not_true,cond_false]
   refine aw.bind (lT m) ?_
   by_cases hm:¬(0≤m∧m≤2047)
   ·simp only[hm,decide_false];exact aw.const _
   replace hm:=Classical.not_not.1 hm
   simp only[hm,and_self,decide_true,Bool.not_true,cond_false]
   refine aw.bind (cy _ _ _) ?_
   by_cases hw:¬(0≤w∧w≤7)
   ·simp only[hw,decide_false];exact aw.const _
   replace hw:=Classical.not_not.1 hw
   exact absurd ⟨⟨rfl,rfl⟩,hu,hgg,hm,hw⟩ hg
end Go.Proofs.YtkdcfeopelbojaaGreatDoor

/- The tables, the residual functions and lemmas of this seat: parts of the proof of the law; conditions: those that each names. -/
import Derived.Test.YtkdcfeopelbojaaGreatDoorVsl
set_option linter.unusedVariables false
set_option linter.unusedSimpArgs false
set_option maxRecDepth 100000
namespace Go.Proofs.YtkdcfeopelbojaaGreatDoor
open Go.Eng
def La(f:dV)(c:cq)(l:List Int)(i:Nat)(k:Int):Prop:=∃(m:Nat) (a:Int),m<i∧l[m]? =some a∧Lc f c a k
structure Gt (f:dV) (c:cq) (d:Nat) (T:Int→Prop) (B:Nat) (se:List Bool) (nx:List Int):Prop where
 b:eu se (fun k=>reach f c d k∨k∈nx)
 r:∀k∈nx,0≤k∧k<20∧reach f c (d+1) k
 t:∀k,0≤k→k<20→T k→reach f c d k∨k∈nx
 n:nx.length≤B
theorem Gt.imp{f:dV}{c:cq}{d:Nat}{T T':Int→Prop}{B B':Nat}{se:List Bool}{nx:List Int}(h:Gt f c d T B se nx)(ht:∀k,T' k→T k)(hb:B≤B'):Gt f c d T' B' se nx:=
 ⟨h.b,h.r,fun k h0 h1 h2=>h.t k h0 h1 (ht k h2),Nat.le_trans h.n hb⟩
section
variable {f:dV} {c:cq} {S:Type}
abbrev RD:=Unit×Unit×List Bool×Int×List Int×List Int×Int×Int×cq×dV
def RZ(f:dV)(c:cq)(d:Nat)(l:List Int)(st:List Bool×List Int)(i:Nat):RD:=((),(),st.1,(d:Int),st.2,l,(l.length:Int),(i:Int),c,f)
theorem QV(hP:qv f){d i:Nat}{l:List Int}(hl:l.length≤268435456)(hi:i<l.length){a:Int}(ha:l[i]? =some a)(ha0:0≤a)(ha1:a<20)(hra:reach f c d a){n:az}(hn:(fI f)[a.toNat]? =some n)(hdir:n.1=2)(hmay:Ds f c a 1=true){se:List Bool}{nx:List Int}
  (h0:Gt f c d (La f c l i) (16*i) se nx) {inv:List Bool×List Int→Nat→Prop} {G:(S→Option (List Bool))→Prop}
  (hinv:∀se' nx',Gt f c d (La f c l (i+1)) (16*(i+1)) se' nx'→inv (se',nx') (i+1)):
  ak (fun k (p:S×(RD→Option (List Bool)))=>iter k (fi k p.2) ((),(),se,(d:Int),nx,a,l,(l.length:Int),(i:Int),bR f n,((bR f n).length:Int),(0:Int),c,f)) (GL (RZ f c d l) inv i G):=by
 have hel:=rm (oy hP hn) (hP.ino _ _ hn)
 have hE:∀k,PL f n (bR f n).length k→Lc f c a k:=fun k hk=>⟨n,hn,hdir,hmay,hk⟩
 have hlev:∀k,Lc f c a k→reach f c (d+1) k:=fun k hk=>by
  obtain⟨j,hj,h⟩:=hra
  exact⟨j+1,by omega,a,ha0,ha1,h,hk⟩
 have tmono:∀{j k},j≤(bR f n).length→PL f n j k→PL f n (bR f n).length k:=fun hj ⟨t,e,h1,h2⟩=>⟨t,e,by omega,h2⟩
 refine ak.list (L:=fun k (p:S×(RD→Option (List Bool)))=>fi k p.2) (bR f n) (fun(st:List Bool×List Int) j=>((),(),st.1,(d:Int),st.2,a,l,(l.length:Int),(i:Int),bR f n,((bR f n).length:Int),((j:Nat):Int),c,f)) (fun st j=>Gt f c d (fun k=>La f c l i k∨PL f n j k) (16*i+j) st.1 st.2) (fun st j e hx hj inv=> ?_) (fun st inv=> ?_) (se,nx)
  (h0.imp (fun k h=>h.resolve_right fun⟨t,_,ht,_⟩=>by omega) (by omega))
 ·obtain⟨se1,nx1⟩:=st
  simp only at inv
  have hw:aa .i64 ((j:Int)+1)=((j+1:Nat):Int):=by rw[aV (by omega) (by omega)];omega
  have hf:=rR hP hn e.1
  obtain⟨m,hm⟩:=A1 hP hf.2.1 hf.2.2
  have hm':f.2.2.1[(mm (bR f n) e.1).1.toNat]? =some m:=hm
  have hbl:=inv.b.1
  have hb20:(mm (bR f n) e.1).1<((se1.length:Nat):Int):=by omega
  obtain⟨x,hg,hgx⟩:=Kn inv.b hf.2.1 hf.2.2
  have hnl:=inv.n
  simp only[fi,Int.ofNat_lt,hj,decide_true,cond_true,Int.natCast_nonneg,if_true,Int.toNat_natCast,hx,Option.bind_some,hw]
  refine ak.bind (Jd hP ha0 hn e.1) ?_
  simp only[hf.2.1,if_true,hm',Option.bind_some]
  refine ak.bif (fun h=> ?_) (fun h=>ak.const _ (GL.self (se1,nx1) rfl ⟨inv.b,inv.r,fun k g0 g1 hT=> ?_,by show nx1.length≤_;omega⟩))
  ·have hu:=(vX hm).1 h
   have ht1:PL f n (j+1) (mm (bR f n) e.1).1:=(ry hx _).2 (.inr ⟨rfl,hu⟩)
   simp only[hb20,if_true,hg,Option.bind_some]
   refine ak.bif (fun h2=> ?_) (fun h2=>ak.const _ (GL.self (se1,nx1) rfl ⟨inv.b,inv.r,fun k g0 g1 hT=> ?_,by show nx1.length≤_;omega⟩))
   ·refine ak.pE (by simp only[List.length_singleton,au];omega) ?_
    refine ak.const _ (GL.self (se1.set (mm (bR f n) e.1).1.toNat true,nx1++[(mm (bR f n) e.1).1]) rfl ⟨cw (ug inv.b hf.2.1) fun k _ _=> ?_,fun k hk=> ?_,fun k g0 g1 hT=> ?_,by simp only[List.length_append,List.length_singleton];omega⟩)
    ·rw[List.mem_append,List.mem_singleton]
     exact or_assoc
    ·rcases List.mem_append.1 hk with hk|hk
     ·exact inv.r k hk
     ·rw[List.mem_singleton]at hk
      subst hk
      exact⟨hf.2.1,hf.2.2,hlev _ (hE _ (tmono (by omega) ht1))⟩
    ·rw[List.mem_append,List.mem_singleton]
     rcases hT with hT|hT
     ·exact(inv.t k g0 g1 (.inl hT)).imp id .inl
     ·rcases(ry hx k).1 hT with hT|⟨hT,_⟩
      ·exact(inv.t k g0 g1 (.inr hT)).imp id .inl
      ·exact .inr (.inr hT.symm)
   ·have hxt:x=true:=by simpa using h2
    rcases hT with hT|hT
    ·exact inv.t k g0 g1 (.inl hT)
    ·rcases(ry hx k).1 hT with hT|⟨hT,_⟩
     ·exact inv.t k g0 g1 (.inr hT)
     ·subst hT;exact hgx.1 hxt
  ·rcases hT with hT|hT
   ·exact inv.t k g0 g1 (.inl hT)
   ·rcases(ry hx k).1 hT with hT|⟨hT,hu⟩
    ·exact inv.t k g0 g1 (.inr hT)
    ·subst hT
     have:=(vX hm).2 hu
     rw[h]at this;cases this
 ·obtain⟨se1,nx1⟩:=st
  simp only at inv
  have hw:aa .i64 ((i:Int)+1)=((i+1:Nat):Int):=by rw[aV (by omega) (by omega)];omega
  simp only[fi,Int.lt_irrefl,decide_false,cond_false,hw]
  refine ak.const _ (GE.up (S:=S×(RD→Option (List Bool))) (fun p=>p.2 (RZ f c d l (se1,nx1) (i+1))) ?_)
  refine GL.self (se1,nx1) rfl (hinv se1 nx1 (inv.imp (fun k=> ?_) (by omega)))
  rintro⟨m,b,hm,hb,hE'⟩
  by_cases e:m=i
  ·subst e
   rw[ha]at hb;cases hb
   obtain⟨n',e1,_,_,e4⟩:=hE'
   rw[hn]at e1;cases e1
   exact .inr e4
  ·exact .inl ⟨m,b,by omega,hb,hE'⟩
theorem Qr(hP:qv f)(hs:cJ f)(hc:c.2.2.length<fu){d:Nat}{l:List Int}(hl:l.length≤268435456)(hlr:∀x∈l,0≤x∧x<20∧reach f c d x){se:List Bool}(hse:eu se (reach f c d))
  {D:Type} {mk:List Bool×List Int→Nat→D} {inv:List Bool×List Int→Nat→Prop} {G:(S→Option (List Bool))→Prop}
  {a0:S×(D→Option (List Bool))→Unit×Unit×List Bool×List Int×Int×cq×dV→Option (List Bool)} (hd:d<8)
  (hend:∀nx' se',Gt f c d (La f c l l.length) (16*l.length) se' nx'→GL mk inv d G (fun p=>a0 p ((),(),se',nx',((d+1:Nat):Int),c,f))):
  ak (fun k (p:S×(D→Option (List Bool)))=>iter k (fl k (a0 p)) (RZ f c d l (se,[]) 0)) (GL mk inv d G):=by
 refine ak.list (L:=fun k (p:S×(D→Option (List Bool)))=>fl k (a0 p)) l (RZ f c d l) (fun st i=>Gt f c d (La f c l i) (16*i) st.1 st.2) (fun st i a hx hi inv=> ?_) (fun st inv=> ?_) (se,[])
  ⟨cw hse fun k _ _=>⟨.inl,fun h=>h.resolve_right fun h=>by cases h⟩,(fun k h=>by cases h),fun k _ _ ⟨m,_,h,_⟩=>by omega,Nat.zero_le _⟩
 ·obtain⟨se1,nx1⟩:=st
  simp only at inv
  have hw:aa .i64 ((i:Int)+1)=((i+1:Nat):Int):=by rw[aV (by omega) (by omega)];omega
  obtain⟨a0',a1',hra⟩:=hlr a (List.mem_of_getElem? hx)
  obtain⟨n,hn⟩:=A1 hP a0' a1'
  have hn':f.2.2.1[a.toNat]? =some n:=hn
  simp only[RZ,fl,Int.ofNat_lt,hi,decide_true,cond_true,Int.natCast_nonneg,if_true,Int.toNat_natCast,hx,Option.bind_some,hw,a0',hn']
  have skip:(∀k,¬Lc f c a k)→Gt f c d (La f c l (i+1)) (16*(i+1)) se1 nx1:=fun hno=>inv.imp (fun k ⟨m,b,hm,hb,hE⟩=>by
   by_cases e:m=i
   ·subst e;rw[hx]at hb;cases hb;exact absurd hE (hno k)
   ·exact⟨m,b,by omega,hb,hE⟩) (by omega)
  refine ak.bif (fun h=>ak.const _ (GL.self (se1,nx1) rfl (skip fun k ⟨n',e1,e2,_⟩=>by rw[hn]at e1;cases e1;simp[e2]at h))) (fun h=> ?_)
  have hdir:n.1=2:=by simpa using h
  refine ak.bind (uX hP hs hc a0' a1' 1) ?_
  refine ak.bif (fun h2=>ak.const _ (GL.self (se1,nx1) rfl (skip fun k ⟨n',e1,_,e3,_⟩=>by rw[e3]at h2;cases h2))) (fun h2=> ?_)
  have hmay:Ds f c a 1=true:=by simpa using h2
  refine ak.bind (mO hP a0' hn) ?_
  exact QV hP hl hi hx a0' a1' hra hn hdir hmay inv (inv:=fun st i=>Gt f c d (La f c l i) (16*i) st.1 st.2) fun se' nx' h=>h
 ·obtain⟨se1,nx1⟩:=st
  have hw:aa .i64 ((d:Int)+1)=((d+1:Nat):Int):=by rw[aV (by omega) (by omega)];omega
  simp only[RZ,fl,Int.lt_irrefl,decide_false,cond_false,hw]
  exact ak.const _ (GE.up (S:=S×(D→Option (List Bool))) (fun p=>a0 p ((),(),se1,nx1,((d+1:Nat):Int),c,f)) (hend nx1 se1 inv))
theorem SN{d:Nat}(h:d<8):16 ^ d≤268435456:=by
 have:16 ^ d≤16 ^ 7:=Nat.pow_le_pow_right (by omega) (by omega)
 omega
theorem xM(hP:qv f)(hs:cJ f)(hc:c.2.2.length<fu):∃u,Ev (fun k=>fT k (f,c)) u∧eu u (reach f c 8):=by
 refine Ev.of (Q:=fun u=>eu u (reach f c 8)) ?_ |>.imp fun n h=>⟨ax.run (fun k=>Bh k _ _) h.1,h.2⟩
 simp only[xN,show(0:Int)≤20 by omega,show(20:Int)≤20 by omega,show(20:Int)*1≤(au:Int)by unfold au;omega,show(0:Int)≤0 by omega,show(0:Int)<(((List.replicate (20:Int).toNat false).length:Nat):Int)by decide,if_true,show((List.replicate (20:Int).toNat false)[(0:Int).toNat]?)=some false from rfl,Option.bind_some]
 refine ak.upto (L:=fun k _=>iB k) 8 (fun(st:List Bool×List Int) d=>((),(),st.1,st.2,((d:Nat):Int),c,f)) (fun st d=>eu st.1 (reach f c d)∧(∀x∈st.2,0≤x∧x<20∧reach f c d x)∧(∀k,0≤k→k<20→Kp f c d k→k∈st.2∨∃j,j<d∧Kp f c j k)∧st.2.length≤16 ^ d) (fun st d hd inv=> ?_) (fun st inv=> ?_) ((List.replicate (20:Int).toNat false).set (0:Int).toNat true,[0]) 0 (Nat.zero_le _) ⟨?_, ?_, ?_, ?_⟩
 ·obtain⟨se,l⟩:=st
  obtain⟨v1,v2,v3,v4⟩:=inv
  simp only at v1 v2 v3 v4
  simp only[iB,show((d:Int)<8)by omega,decide_true,cond_true]
  have hp:=SN hd
  refine Qr (a0:=fun p=>p.2) hP hs hc (by omega) v2 v1 hd fun nx' se' h=>GL.self (se',nx') rfl ⟨cw h.b fun k h0 h20=> ?_,h.r,fun k h0 h20 hk=> ?_, ?_⟩
  ·constructor
   ·rintro(⟨j,h1,h2⟩|hk)
    ·exact⟨j,by omega,h2⟩
    ·exact(h.r k hk).2.2
   ·rintro⟨j,h1,h2⟩
    by_cases e:j=d+1
    ·subst e
     obtain⟨a,g0,g1,g2,g3⟩:=h2
     rcases v3 a g0 g1 g2 with g|⟨j,g4,g5⟩
     ·obtain⟨m,hm⟩:=List.mem_iff_getElem?.1 g
      exact h.t k h0 h20 ⟨m,a,(List.getElem?_eq_some_iff.1 hm).1,hm,g3⟩
     ·exact .inl ⟨j+1,by omega,a,g0,g1,g5,g3⟩
    ·exact .inl ⟨j,by omega,h2⟩
  ·obtain⟨a,g0,g1,g2,g3⟩:=hk
   rcases v3 a g0 g1 g2 with g|⟨j,g4,g5⟩
   ·obtain⟨m,hm⟩:=List.mem_iff_getElem?.1 g
    rcases h.t k h0 h20 ⟨m,a,(List.getElem?_eq_some_iff.1 hm).1,hm,g3⟩with⟨j,hj,h2⟩|h2
    ·exact .inr ⟨j,by omega,h2⟩
    ·exact .inl h2
   ·exact .inr ⟨j+1,by omega,a,g0,g1,g5,g3⟩
  ·have:=h.n
   rw[Nat.pow_succ]
   show nx'.length≤_
   omega
 ·obtain⟨se,l⟩:=st
  simp only[iB,show ¬((8:Nat):Int)<8 by omega,decide_false,cond_false]
  exact ak.const _ (GE.ret (GR.ret inv.1))
 ·refine cw (ug wh (b:=0) (by omega)) fun k h0 _=> ?_
  constructor
  ·rintro(h|rfl)
   ·exact h.elim
   ·exact⟨0,Nat.le_refl _,rfl⟩
  ·rintro⟨j,h1,h2⟩
   have:j=0:=by omega
   subst this
   exact .inr h2
 ·intro x hx
  rw[List.mem_singleton]at hx
  subst hx
  exact⟨by omega,by omega,0,Nat.le_refl _,rfl⟩
 ·intro k _ _ h
  have:k=0:=h
  subst this
  exact .inl (by simp)
 ·simp
theorem RG(hP:qv f)(hs:cJ f)(hc:c.2.2.length<fu):∃u,Ev (fun k=>eJ k (some f,c)) u∧Ev (fun k=>fT k (f,c)) u∧u.length=20:=by
 obtain⟨u,h1,h2⟩:=sV (c:=c) hP hs hc
 obtain⟨v,h3,h4⟩:=xM (c:=c) hP hs hc
 have:u=v:=Ki h2 h4
 subst this
 exact⟨u,h1,h3,h2.1⟩
end
end Go.Proofs.YtkdcfeopelbojaaGreatDoor

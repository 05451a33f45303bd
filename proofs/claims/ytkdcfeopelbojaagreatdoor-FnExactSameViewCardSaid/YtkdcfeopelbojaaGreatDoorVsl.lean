/- The tables, the residual functions and lemmas of this seat: parts of the proof of the law; conditions: those that each names. -/
import Derived.Test.YtkdcfeopelbojaaGreatDoorVis
set_option linter.unusedVariables false
set_option linter.unusedSimpArgs false
set_option maxRecDepth 100000
namespace Go.Proofs.YtkdcfeopelbojaaGreatDoor
open Go.Eng
def H5(f:dV)(c:cq)(d:Nat)(i:Nat)(k:Int):Prop:=(∃j,j<d∧Kp f c j k)∨(k<i∧Kp f c d k)
def Ht(f:dV)(c:cq)(d:Nat)(i:Nat)(k:Int):Prop:=d<8∧∃a:Int,0≤a∧a<i∧Kp f c d a∧Lc f c a k
section
variable {f:dV} {c:cq} {S:Type}
abbrev VD:=Option dV×Unit×Unit×Unit×Unit×Int×Unit×Int×List Bool×Int×List Bool×List Bool×List Bool×List Bool×cq
def Sa(f:dV)(c:cq)(d:Nat)(lv old:List Bool)(st:List Bool×List Bool)(i:Nat):VD:=
 (some f,(),(),(),(),(d:Int),(),(d:Int),lv,(i:Int),st.2,lv,st.1,old,c)
theorem Q1(hP:qv f){d i:Nat}(hi:i<20){lv old se:List Bool}{n:az}(hn:(fI f)[i]? =some n){nx:List Bool}(Q:Int→Prop)(hnx:eu nx Q){inv:List Bool×List Bool→Nat→Prop}{G:(S→Option (List Bool))→Prop}
  (hinv:∀nx',eu nx' (fun k=>Q k∨PL f n (bR f n).length k)→inv (se,nx') (i+1)):
  ak (fun k (p:S×(VD→Option (List Bool)))=>iter k (c8 k p.2) (some f,(),(),(),(),(d:Int),(),(i:Int),(d:Int),lv,(i:Int),bR f n,((bR f n).length:Int),(0:Int),se,nx,lv,old,c))
   (GL (Sa f c d lv old) inv i G):=by
 have hn':(fI f)[((i:Nat):Int).toNat]? =some n:=by rw[Int.toNat_natCast];exact hn
 have hel:=rm (oy hP hn') (hP.ino _ _ hn')
 refine ak.list (L:=fun k (p:S×(VD→Option (List Bool)))=>c8 k p.2) (bR f n) (fun(st:List Bool) j=>(some f,(),(),(),(),(d:Int),(),(i:Int),(d:Int),lv,(i:Int),bR f n,((bR f n).length:Int),((j:Nat):Int),se,st,lv,old,c)) (fun st j=>eu st (fun k=>Q k∨PL f n j k)) (fun st j e hx hj inv=> ?_) (fun st inv=> ?_) nx (cw hnx fun k _ _=>⟨.inl,fun h=>h.resolve_right fun⟨t,_,ht,_⟩=>by omega⟩)
 ·have hw:aa .i64 ((j:Int)+1)=((j+1:Nat):Int):=by rw[aV (by omega) (by omega)];omega
  have hf:=rR hP hn' e.1
  obtain⟨m,hm⟩:=A1 hP hf.2.1 hf.2.2
  simp only[c8,Int.ofNat_lt,hj,decide_true,cond_true,Int.natCast_nonneg,if_true,Int.toNat_natCast,hx,Option.bind_some,hw]
  refine ak.bind (I3 hP (by omega) hn' e.1) (ak.bind (Lj _ hf.2.1 hf.2.2 hm) ?_)
  refine ak.bif (fun h=> ?_) (fun h=>ak.const _ (GL.self st rfl (cw inv fun k _ _=> ?_)))
  ·obtain⟨x,hg,_⟩:=Kn inv hf.2.1 hf.2.2
   simp only[hf.2.1,hf.2.2,if_true,hg,Option.bind_some]
   refine ak.const _ (GL.self _ rfl (cw (ug inv hf.2.1) fun k _ _=> ?_))
   rw[ry hx]
   constructor
   ·rintro((h1|h1)|rfl)
    ·exact .inl h1
    ·exact .inr (.inl h1)
    ·exact .inr (.inr ⟨rfl,(vX hm).1 h⟩)
   ·rintro(h1|h1|⟨h1,h2⟩)
    ·exact .inl (.inl h1)
    ·exact .inl (.inr h1)
    ·exact .inr h1.symm
  ·rw[ry hx]
   constructor
   ·rintro(h1|h1)
    ·exact .inl h1
    ·exact .inr (.inl h1)
   ·rintro(h1|h1|⟨h1,h2⟩)
    ·exact .inl h1
    ·exact .inr h1
    ·subst h1
     have:=(vX hm).2 h2
     rw[h]at this;cases this
 ·have hw:aa .i64 ((i:Int)+1)=((i+1:Nat):Int):=by rw[aV (by omega) (by omega)];omega
  simp only[c8,Int.lt_irrefl,decide_false,cond_false,hw]
  refine ak.const _ (GE.up (S:=S×(VD→Option (List Bool))) (fun p=>p.2 (Sa f c d lv old (se,st) (i+1))) ?_)
  exact GL.self (se,st) rfl (hinv st inv)
theorem QD(hP:qv f)(hs:cJ f)(hc:c.2.2.length<fu){d:Nat}(hd:d<9){lv old se:List Bool}(hlv:eu lv (Kp f c d))(hse:eu se (fun k=>∃j,j<d∧Kp f c j k))
  {D:Type} {mk:List Bool×List Bool×List Bool→Nat→D} {inv:List Bool×List Bool×List Bool→Nat→Prop} {G:(S→Option (List Bool))→Prop}
  {a0:S×(D→Option (List Bool))→Option dV×Unit×Unit×Unit×Unit×Int×List Bool×List Bool×List Bool×cq→Option (List Bool)}
  (hend:∀nx' se',eu nx' (Ht f c d 20)→eu se' (H5 f c d 20)→GL mk inv d G (fun p=>a0 p (some f,(),(),(),(),((d+1:Nat):Int),nx',se',old,c))):
  ak (fun k (p:S×(D→Option (List Bool)))=>iter k (eg k (a0 p)) (Sa f c d lv old (se,List.replicate 20 false) 0)) (GL mk inv d G):=by
 refine ak.upto (L:=fun k (p:S×(D→Option (List Bool)))=>eg k (a0 p)) 20 (Sa f c d lv old) (fun st i=>eu st.1 (H5 f c d i)∧eu st.2 (Ht f c d i)) (fun st i hi inv=> ?_) (fun st inv=> ?_) (se,List.replicate 20 false) 0 (Nat.zero_le _)
  ⟨cw hse fun k h0 _=>⟨.inl,fun h=>h.resolve_right fun h=>by omega⟩,cw wh fun k _ _=>⟨False.elim,fun⟨_,a,h1,h2,_⟩=>by omega⟩⟩
 ·obtain⟨se1,nx1⟩:=st
  obtain⟨v1,v2⟩:=inv
  simp only at v1 v2
  have hw:aa .i64 ((i:Int)+1)=((i+1:Nat):Int):=by rw[aV (by omega) (by omega)];omega
  obtain⟨n,hn⟩:=A1 hP (i:=(i:Int)) (by omega) (by omega)
  obtain⟨b,hb,hb2⟩:=hlv.2 i hi
  obtain⟨x,hx,_⟩:=v1.2 i hi
  have hn2:=hn
  rw[Int.toNat_natCast]at hn2
  simp only[Sa,eg,show(i:Int)<20 by omega,decide_true,cond_true,Int.natCast_nonneg,if_true,Int.toNat_natCast,hb,Option.bind_some,hw,hx]
  have same:¬Kp f c d i→∀k:Int,(H5 f c d i k↔H5 f c d (i+1) k):=fun hl k=>by
   constructor
   ·rintro(h|⟨h1,h2⟩)
    ·exact .inl h
    ·exact .inr ⟨by omega,h2⟩
   ·rintro(h|⟨h1,h2⟩)
    ·exact .inl h
    ·refine .inr ⟨?_,h2⟩
     rcases Int.lt_or_le k i with h|h
     ·exact h
     ·exact absurd (show Kp f c d i by rw[show(i:Int)=k by omega];exact h2) hl
  have nsame:(d<8→Kp f c d i→∀k,¬Lc f c i k)→∀k:Int,(Ht f c d i k↔Ht f c d (i+1) k):=fun hl k=>by
   constructor
   ·rintro⟨h0,a,h1,h2,h3⟩
    exact⟨h0,a,h1,by omega,h3⟩
   ·rintro⟨h0,a,h1,h2,h3,h4⟩
    refine⟨h0,a,h1, ?_,h3,h4⟩
    rcases Int.lt_or_le a i with h|h
    ·exact h
    ·have e:a=(i:Int):=by omega
     subst e
     exact absurd h4 (hl h0 h3 k)
  refine ak.bif (fun h=> ?_) (fun h=> ?_)
  ·have hl:¬Kp f c d i:=fun hl=>by rw[hb2.2 hl]at h;cases h
   exact ak.const _ (GL.self (se1,nx1) rfl ⟨cw v1 fun k _ _=>same hl k,cw v2 fun k _ _=>nsame (fun _ h=>absurd h hl) k⟩)
  have hl:Kp f c d i:=hb2.1 (by simpa using h)
  have seen':eu (se1.set i true) (H5 f c d (i+1)):=by
   have:=ug v1 (b:=(i:Int)) (by omega)
   rw[Int.toNat_natCast]at this
   refine cw this fun k _ _=> ?_
   constructor
   ·rintro((h|⟨h1,h2⟩)|rfl)
    ·exact .inl h
    ·exact .inr ⟨by omega,h2⟩
    ·exact .inr ⟨by omega,hl⟩
   ·rintro(h|⟨h1,h2⟩)
    ·exact .inl (.inl h)
    ·by_cases e:k=i
     ·exact .inr e
     ·exact .inl (.inr ⟨by omega,h2⟩)
  refine ak.bif (fun h1=> ?_) (fun h1=> ?_)
  ·have h1:(d:Int)=8:=by simpa using h1
   exact ak.const _ (GL.self (se1.set i true,nx1) rfl ⟨seen',cw v2 fun k _ _=>nsame (fun h=>by omega) k⟩)
  have hd8:d<8:=by
   have:¬(d:Int)=8:=by simpa using h1
   omega
  refine ak.bind (JR (by omega) (by omega) hn) ?_
  refine ak.bif (fun h2=> ?_) (fun h2=> ?_)
  ·have hne:n.1≠2:=by simpa using h2
   exact ak.const _ (GL.self (se1.set i true,nx1) rfl ⟨seen',cw v2 fun k _ _=>nsame (fun _ _ k ⟨n',e1,e2,_⟩=>by rw[Int.toNat_natCast,hn2]at e1;cases e1;exact hne e2) k⟩)
  have h2:n.1=2:=by simpa using h2
  refine ak.bind (Cv hP hs hc (by omega) (by omega) hn (by rw[h2];decide) 1) ?_
  refine ak.bif (fun h3=> ?_) (fun h3=> ?_)
  ·have h3:Ds f c i 1=false:=by simpa using h3
   exact ak.const _ (GL.self (se1.set i true,nx1) rfl ⟨seen',cw v2 fun k _ _=>nsame (fun _ _ k ⟨n',e1,e2,e3,_⟩=>by rw[h3]at e3;cases e3) k⟩)
  have h3:Ds f c i 1=true:=by simpa using h3
  refine ak.bind (mV hP (by omega) hn) ?_
  refine ak.congr (F':=fun k (p:(S×(D→Option (List Bool)))×(VD→Option (List Bool)))=>iter k (c8 k p.2) (some f,(),(),(),(),(d:Int),(),(i:Int),(d:Int),lv,(i:Int),bR f n,((bR f n).length:Int),(0:Int),se1.set i true,nx1,lv,old,c)) (fun k p=>rfl) ?_
  refine Q1 hP hi hn2 (Ht f c d i) v2 (inv:=fun st i=>eu st.1 (H5 f c d i)∧eu st.2 (Ht f c d i)) fun nx' hb=>⟨seen',cw hb fun k _ _=> ?_⟩
  constructor
  ·rintro(⟨h0,a,g1,g2,g3⟩|hk)
   ·exact⟨h0,a,g1,by omega,g3⟩
   ·exact⟨hd8,i,by omega,by omega,hl,n,hn,h2,h3,hk⟩
  ·rintro⟨h0,a,g1,g2,g3,g4⟩
   by_cases e:a=i
   ·subst e
    obtain⟨n',e1,_,_,e4⟩:=g4
    rw[hn]at e1;cases e1
    exact .inr e4
   ·exact .inl ⟨h0,a,g1,by omega,g3,g4⟩
 ·obtain⟨se1,nx1⟩:=st
  have hw:aa .i64 ((d:Int)+1)=((d+1:Nat):Int):=by rw[aV (by omega) (by omega)];omega
  simp only[Sa,eg,show ¬((20:Nat):Int)<20 by omega,decide_false,cond_false,hw]
  exact ak.const _ (GE.up (S:=S×(D→Option (List Bool))) (fun p=>a0 p (some f,(),(),(),(),((d+1:Nat):Int),nx1,se1,old,c)) (hend nx1 se1 inv.2 inv.1))
theorem sV(hP:qv f)(hs:cJ f)(hc:c.2.2.length<fu):∃u,Ev (fun k=>eJ k (some f,c)) u∧eu u (reach f c 8):=by
 refine Ev.of (Q:=fun u=>eu u (reach f c 8)) ?_ |>.imp fun n h=>⟨ax.run (fun k=>wO k _ _) h.1,h.2⟩
 simp only[th,show(0:Int)≤0 by omega,show(0:Int)<20 by omega,if_true,show((List.replicate 20 false)[(0:Int).toNat]?)=some false from rfl,Option.bind_some]
 refine ak.upto (L:=fun k _=>fB k) 9 (fun(st:List Bool×List Bool×List Bool) d=>(some f,(),(),(),(),((d:Nat):Int),st.1,st.2.1,st.2.2,c)) (fun st d=>(d<9→eu st.1 (Kp f c d))∧eu st.2.1 (fun k=>∃j,j<d∧Kp f c j k)) (fun st d hd inv=> ?_) (fun st inv=> ?_) ((List.replicate 20 false).set 0 true,List.replicate 20 false,List.replicate 20 false) 0 (Nat.zero_le _)
  ⟨fun _=>cw (ug wh (b:=0) (by omega)) fun k _ _=>⟨fun h=>h.resolve_left id,.inr⟩,cw wh fun k _ _=>⟨False.elim,fun⟨j,h,_⟩=>by omega⟩⟩
 ·obtain⟨lv,se,old⟩:=st
  obtain⟨v1,v2⟩:=inv
  simp only[fB,show((d:Int)<9)by omega,decide_true,cond_true]
  refine QD (a0:=fun p=>p.2) hP hs hc hd (v1 hd) v2 fun nx' se' h1 h2=>GL.self (nx',se',old) rfl ⟨fun hd9=>cw h1 fun k _ _=> ?_,cw h2 fun k h0 h20=> ?_⟩
  ·constructor
   ·rintro⟨_,a,g1,g2,g3⟩;exact⟨a,g1,by omega,g3⟩
   ·rintro⟨a,g1,g2,g3⟩;exact⟨by omega,a,g1,by omega,g3⟩
  ·constructor
   ·rintro(⟨j,g1,g2⟩|⟨g1,g2⟩)
    ·exact⟨j,by omega,g2⟩
    ·exact⟨d,by omega,g2⟩
   ·rintro⟨j,g1,g2⟩
    by_cases e:j=d
    ·subst e;exact .inr ⟨by omega,g2⟩
    ·exact .inl ⟨j,by omega,g2⟩
 ·simp only[fB,show ¬((9:Nat):Int)<9 by omega,decide_false,cond_false]
  refine ak.const _ (GE.ret (GR.ret (cw inv.2 fun k _ _=> ?_)))
  exact⟨fun⟨j,h1,h2⟩=>⟨j,by omega,h2⟩,fun⟨j,h1,h2⟩=>⟨j,by omega,h2⟩⟩
end
end Go.Proofs.YtkdcfeopelbojaaGreatDoor

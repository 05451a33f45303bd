/- The tables, the residual functions and lemmas of this seat: parts of the proof of the law; conditions: those that each names. -/
import Derived.Test.YtmmgfgfkkpeedaaGreatAcl
set_option linter.unusedVariables false
set_option linter.unusedSimpArgs false
set_option maxRecDepth 100000
namespace Go.Proofs.YtmmgfgfkkpeedaaGreat
open Go.Eng
theorem XI{c:Bool}{f:Nat→Option Bool}{p:Prop}[Decidable p](h1:c=true→Ev f (decide p))(h2:c=false→¬p):Ev (fun k=>bif c then f k else some false) (decide p):=by
 cases c with
 |true=>exact h1 rfl
 |false=>simp only[cond_false,decide_eq_false (h2 rfl)];exact au.const _
theorem NI(e:dK):cA (fun k=>o7 k e) (vf e):=by
 refine cA.run (fun k=>DV k e) (cA.of ?_)
 simp only[Bi]
 have key:∀t,e.1=t→t=1∨t=2∨t=3∨(t≠1∧t≠2∧t≠3):=fun t _=>by omega
 refine aj.bind (bH _ _ _) (aj.bif (fun h=> ?_) (fun h=> ?_))
 ·refine aj.const _ (GP.no fun hP=> ?_)
  unfold vf at hP
  simp at h;omega
 simp at h
 by_cases t1:e.1=1
 ·simp only[t1,beq_self_eq_true,cond_true]
  refine aj.bind (bH _ _ _) (aj.const _ (GP.ret ?_))
  unfold vf;simp;omega
 by_cases t2:e.1=2
 ·simp only[t2,beq_self_eq_true,cond_true,show((2:Int)==1)=false from rfl,cond_false]
  refine aj.bind (bH _ _ _) (aj.const _ (GP.ret ?_))
  unfold vf;simp;omega
 by_cases t3:e.1=3
 ·simp only[t3,beq_self_eq_true,cond_true,show((3:Int)==1)=false from rfl,show((3:Int)==2)=false from rfl,cond_false]
  refine aj.const _ (GP.ret ?_)
  unfold vf;simp;omega
 have b1:(e.1==1)=false:=by simpa using t1
 have b2:(e.1==2)=false:=by simpa using t2
 have b3:(e.1==3)=false:=by simpa using t3
 simp only[b1,b2,b3,cond_false]
 refine aj.const _ (GP.no fun hP=> ?_)
 unfold vf at hP;omega
theorem mU(l:List dK)(hl:l.length<m6):cA (fun k=>mw k l) (yb l):=by
 unfold m6 at hl
 refine cA.run (fun k=>I4 k l) (cA.of ?_)
 simp only[I8]
 refine aj.list (L:=fun k _=>oe k) l (fun(_:Unit) i=>(l,l,(l.length:Int),(i:Int))) (fun _ i=>∀j e,j<i→l[j]? =some e→vf e∧Lq l j e) (fun _ i e hx hi inv=> ?_) (fun _ inv=> ?_) () (by simp)
 ·simp only[oe,Int.ofNat_lt,hi,decide_true,cond_true,Int.natCast_nonneg,if_true,Int.toNat_natCast,hx,Option.bind_some]
  have hw:aa .i64 ((i:Int)+1)=((i+1:Nat):Int):=by rw[aR (by omega) (by omega)];omega
  rw[hw]
  refine aj.pX (NI e) fun b hb=> ?_
  refine aj.bif (fun h1=> ?_) (fun h1=> ?_)
  ·refine aj.const _ (GL.ret (GP.no fun hP=> ?_))
   have:=hb.2 (hP.2.1 i e hx).1
   simp[this]at h1
  have he:vf e:=hb.1 (by simpa using h1)
  have next:Lq l i e→∀j e,j<i+1→l[j]? =some e→vf e∧Lq l j e:=fun ho j e' hj hje=>by
   by_cases hji:j=i
   ·subst hji;rw[hx]at hje;cases hje;exact⟨he,ho⟩
   ·exact inv j e' (by omega) hje
  refine aj.bif (fun h3=> ?_) (fun h3=> ?_)
  ·simp at h3
   have hw2:aa .i64 ((i:Int)-1)=((i-1:Nat):Int):=by rw[aR (by omega) (by omega)];omega
   have hp:l[i-1]? =some l[i-1]:=List.getElem?_eq_getElem (by omega)
   simp only[hw2,Int.natCast_nonneg,if_true,Int.toNat_natCast,hp,Option.bind_some]
   have no:¬Ey l[i-1] e→GL (S:=Unit) (fun(_:Unit) i=>(l,l,(l.length:Int),((i:Nat):Int))) (fun _ i=>∀j e,j<i→l[j]? =some e→vf e∧Lq l j e) i (GP (yb l)) fun _=>some false:=fun h=>
    GL.ret (GP.no fun hP=>h ((hP.2.1 i e hx).2 _ h3 hp))
   have yes:Ey l[i-1] e→Lq l i e:=fun h p _ hp'=>by rw[hp]at hp';cases hp';exact h
   refine aj.bif (fun h4=> ?_) (fun h4=> ?_)
   ·refine aj.const _ (no ?_)
    simp at h4;unfold Ey;omega
   refine aj.bif (fun h5=> ?_) (fun h5=> ?_)
   ·refine aj.bif (fun h6=> ?_) (fun h6=> ?_)
    ·refine aj.const _ (no ?_)
     simp at h4 h5 h6;unfold Ey;omega
    ·refine aj.const _ (GL.self () rfl (next (yes ?_)))
     simp at h4 h5 h6;unfold Ey;omega
   ·refine aj.const _ (GL.self () rfl (next (yes ?_)))
    simp at h4 h5;unfold Ey;omega
  ·simp at h3
   exact aj.const _ (GL.self () rfl (next fun p h0 _=>by omega))
 ·simp only[oe,Int.lt_irrefl,decide_false,cond_false]
  refine aj.bif (fun h3=> ?_) (fun h3=> ?_)
  ·simp at h3
   subst h3
   exact aj.const _ (GE.ret (GP.yes ⟨by simp,by simp,.inl rfl⟩))
  ·simp at h3
   have hlen:0<l.length:=List.length_pos_iff.2 h3
   have hw2:aa .i64 ((l.length:Int)-1)=((l.length-1:Nat):Int):=by rw[aR (by omega) (by omega)];omega
   have hp:l[l.length-1]? =some l[l.length-1]:=List.getElem?_eq_getElem (by omega)
   refine aj.bif (fun h4=> ?_) (fun h4=> ?_)
   ·simp at h4
    simp only[hw2,Int.natCast_nonneg,if_true,Int.toNat_natCast,hp,Option.bind_some]
    refine aj.const _ (GE.ret (GP.ret ?_))
    simp only[beq_iff_eq]
    constructor
    ·intro h4
     exact⟨by omega,fun i e hie=>inv i e (List.getElem?_eq_some_iff.1 hie).1 hie,.inr ⟨_,hp,h4⟩⟩
    ·intro hP
     rcases hP.2.2 with h4|⟨e,h4,h5⟩
     ·exact absurd h4 h3
     ·rw[hp]at h4;cases h4;exact h5
   ·simp at h4
    exact aj.const _ (GE.ret (GP.no fun hP=>by have:=hP.1;omega))
theorem nL{α D:Type}(eqB:α→α→Bool)(hB:∀a b,eqB a b=true↔a=b){L:Nat→(D→Option Bool)→D→Option Bool}(a b:List α)(mk:Nat→D)
  (hs:∀k self i x y,a[i]? =some x→b[i]? =some y→i<a.length→i<b.length→aa .i64 ((i:Int)+1)=((i+1:Nat):Int)→L k self (mk i)=bif !(eqB x y)then some false else self (mk (i+1)))
  (he:∀k self,L k self (mk a.length)=some true) (h:a.length=b.length) (hl:a.length<m6):cA (fun k=>iter k (L k) (mk 0)) (a=b):=by
 unfold m6 at hl
 refine cA.of ?_
 refine aj.list (L:=fun k _=>L k) a (fun(_:Unit) i=>mk i) (fun _ i=>a.take i=b.take i) (fun _ i e hx hi inv=> ?_) (fun _ inv=> ?_) () (by simp)
 ·have hy:b[i]? =some b[i]:=List.getElem?_eq_getElem (by omega)
  refine aj.congr (fun k p=>hs k _ i _ _ hx hy hi (by omega) (by rw[aR (by omega) (by omega)];omega)) ?_
  refine aj.bif (fun h1=> ?_) (fun h1=> ?_)
  ·refine aj.const _ (GL.ret (GP.no fun hP=> ?_))
   subst hP
   rw[hx]at hy
   have:eqB e a[i]=true:=(hB _ _).2 (Option.some.inj hy)
   rw[this]at h1;cases h1
  ·refine aj.const _ (GL.self () rfl ?_)
   have:e=b[i]:=(hB _ _).1 (by simpa using h1)
   rw[List.take_add_one,List.take_add_one,inv,hx,hy,this]
 ·refine aj.congr (fun k p=>he k _) ?_
  refine aj.const _ (GE.ret (GP.yes ?_))
  rw[List.take_length,h,List.take_length]at inv
  exact inv
theorem tG{α:Type}{a b:List α}(h:((a.length:Int) != (b.length:Int))=true):a≠b:=fun e=>by subst e;simp at h
theorem tB{α:Type}{a b:List α}(h:((a.length:Int) != (b.length:Int))=false):a.length=b.length:=by
 simp at h;omega
theorem cA.iter{f:Nat→Option Bool}{P:Prop}{S:Type}(h:cA f P):aj (fun k (_:S)=>f k) (GP P):=by
 obtain⟨b,h1,h2⟩:=h
 exact aj.XJ h1 (GP.ret h2)
theorem X6(a b:Int):(a != b)= !(a==b):=rfl
theorem RJ(a b:Int):(a==b)=true↔a=b:=beq_iff_eq
theorem Rn(a b:dK):((a.1==b.1)&&((a.2.1==b.2.1)&&(a.2.2==b.2.2)))=true↔a=b:=by
 obtain⟨a1,a2,a3⟩:=a
 obtain⟨b1,b2,b3⟩:=b
 simp
theorem K1(a b:List Int)(hl:a.length<m6):cA (fun k=>gE k (a,b)) (a=b):=by
 refine cA.run (fun k=>sU k a b) (cA.of ?_)
 simp only[oJ]
 refine aj.bif (fun h=>aj.const _ (GP.no (tG h))) (fun h=> ?_)
 exact cA.iter (nL (· == ·) RJ (L:=dO) a b (fun i=>(a,b,(a.length:Int),(i:Int))) (fun k self i x y hx hy hi _ hw=>by
  simp only[dO,Int.ofNat_lt,hi,decide_true,cond_true,Int.natCast_nonneg,if_true,Int.toNat_natCast,hx,hy,Option.bind_some,hw,bne]) (fun k self=>by
  simp only[dO,Int.lt_irrefl,decide_false,cond_false]) (tB h) hl)
theorem BS(a b:List dK)(hl:a.length<m6):cA (fun k=>bG k (a,b)) (a=b):=by
 refine cA.run (fun k=>fZ k a b) (cA.of ?_)
 simp only[dw]
 refine aj.bif (fun h=>aj.const _ (GP.no (tG h))) (fun h=> ?_)
 exact cA.iter (nL _ Rn (L:=bB) a b (fun i=>(a,b,(a.length:Int),(i:Int))) (fun k self i x y hx hy hi _ hw=>by
  simp only[bB,Int.ofNat_lt,hi,decide_true,cond_true,Int.natCast_nonneg,if_true,Int.toNat_natCast,hx,hy,Option.bind_some,hw]) (fun k self=>by
  simp only[bB,Int.lt_irrefl,decide_false,cond_false]) (tB h) hl)
theorem OO(a b:List Int)(hl:a.length<m6):cA (fun k=>ri k (a,b)) (a=b):=by
 refine cA.run (fun k=>Fz k a b) (cA.of ?_)
 simp only[DI]
 refine aj.bif (fun h=>aj.const _ (GP.no (tG h))) (fun h=> ?_)
 exact cA.iter (nL (· == ·) RJ (L:=kF) a b (fun i=>(b,a,(a.length:Int),(i:Int))) (fun k self i x y hx hy hi _ hw=>by
  simp only[kF,Int.ofNat_lt,hi,decide_true,cond_true,Int.natCast_nonneg,if_true,Int.toNat_natCast,hx,hy,Option.bind_some,hw,bne]) (fun k self=>by
  simp only[kF,Int.lt_irrefl,decide_false,cond_false]) (tB h) hl)
theorem Ho(a b:List dK)(hl:a.length<m6):cA (fun k=>mW k (a,b)) (a=b):=by
 refine cA.run (fun k=>F8 k a b) (cA.of ?_)
 simp only[EL]
 refine aj.bif (fun h=>aj.const _ (GP.no (tG h))) (fun h=> ?_)
 exact cA.iter (nL _ Rn (L:=kN) a b (fun i=>(b,a,(a.length:Int),(i:Int))) (fun k self i x y hx hy hi _ hw=>by
  simp only[kN,Int.ofNat_lt,hi,decide_true,cond_true,Int.natCast_nonneg,if_true,Int.toNat_natCast,hx,hy,Option.bind_some,hw]) (fun k self=>by
  simp only[kN,Int.lt_irrefl,decide_false,cond_false]) (tB h) hl)
def gV(x:aN):Prop:=x.2.2.2.2.2.2.2.1.length<m6∧x.2.2.2.2.2.2.2.2.1.length<m6∧x.2.2.2.2.2.2.2.2.2.length<m6
theorem RE(a b:aN):a=b↔a.1=b.1∧a.2.1=b.2.1∧a.2.2.1=b.2.2.1∧a.2.2.2.1=b.2.2.2.1∧a.2.2.2.2.1=b.2.2.2.2.1∧a.2.2.2.2.2.1=b.2.2.2.2.2.1∧a.2.2.2.2.2.2.1=b.2.2.2.2.2.2.1∧
  a.2.2.2.2.2.2.2.1=b.2.2.2.2.2.2.2.1∧a.2.2.2.2.2.2.2.2.1=b.2.2.2.2.2.2.2.2.1∧a.2.2.2.2.2.2.2.2.2=b.2.2.2.2.2.2.2.2.2:=by
 obtain⟨a1,a2,a3,a4,a5,a6,a7,a8,a9,a10⟩:=a
 obtain⟨b1,b2,b3,b4,b5,b6,b7,b8,b9,b10⟩:=b
 simp
theorem ru(a b:aN)(h:gV a):cA (fun k=>jX k (a,b)) (a=b):=by
 refine cA.run (fun k=>CR k a b) (cA.of ?_)
 simp only[zi]
 refine aj.bif (fun h1=> ?_) (fun h1=>aj.const _ (GP.no fun e=>by rw[e]at h1;simp at h1))
 refine aj.bif (fun h2=> ?_) (fun h1=>aj.const _ (GP.no fun e=>by rw[e]at h1;simp at h1))
 refine aj.bif (fun h3=> ?_) (fun h1=>aj.const _ (GP.no fun e=>by rw[e]at h1;simp at h1))
 refine aj.bif (fun h4=> ?_) (fun h1=>aj.const _ (GP.no fun e=>by rw[e]at h1;simp at h1))
 refine aj.bif (fun h5=> ?_) (fun h1=>aj.const _ (GP.no fun e=>by rw[e]at h1;simp at h1))
 refine aj.bif (fun h6=> ?_) (fun h1=>aj.const _ (GP.no fun e=>by rw[e]at h1;simp at h1))
 refine aj.bif (fun h7=> ?_) (fun h1=>aj.const _ (GP.no fun e=>by rw[e]at h1;simp at h1))
 refine aj.pX (K1 _ _ h.1) fun y1 e1=>aj.bif (fun h8=> ?_) (fun h1=>aj.const _ (GP.no fun e=>by have:=e1.2 (by rw[e]);rw[this]at h1;cases h1))
 refine aj.pX (BS _ _ h.2.1) fun y2 e2=>aj.bif (fun h9=> ?_) (fun h1=>aj.const _ (GP.no fun e=>by have:=e2.2 (by rw[e]);rw[this]at h1;cases h1))
 refine aj.pX (BS _ _ h.2.2) fun y3 e3=>aj.const _ (GP.ret ?_)
 simp only[beq_iff_eq]at h1 h2 h3 h4 h5 h6 h7
 rw[RE]
 simp only[h1,h2,h3,h4,h5,h6,h7,e1.1 h8,e2.1 h9,true_and,e3]
theorem qB(a b:aN)(h:gV a):cA (fun k=>jx k (a,b)) (a=b):=by
 refine cA.run (fun k=>Ck k a b) (cA.of ?_)
 simp only[zr]
 refine aj.bif (fun h1=>aj.const _ (GP.no fun e=>by rw[e]at h1;simp at h1)) (fun h1=> ?_)
 refine aj.bif (fun h1=>aj.const _ (GP.no fun e=>by rw[e]at h1;simp at h1)) (fun h2=> ?_)
 refine aj.bif (fun h1=>aj.const _ (GP.no fun e=>by rw[e]at h1;simp at h1)) (fun h3=> ?_)
 refine aj.bif (fun h1=>aj.const _ (GP.no fun e=>by rw[e]at h1;simp at h1)) (fun h4=> ?_)
 refine aj.bif (fun h1=>aj.const _ (GP.no fun e=>by rw[e]at h1;simp at h1)) (fun h5=> ?_)
 refine aj.bif (fun h1=>aj.const _ (GP.no fun e=>by rw[e]at h1;simp at h1)) (fun h6=> ?_)
 refine aj.bif (fun h1=>aj.const _ (GP.no fun e=>by rw[e]at h1;simp at h1)) (fun h7=> ?_)
 refine aj.pX (OO _ _ h.1) fun y1 e1=>aj.bif (fun h8=> ?_) (fun h1=>aj.const _ (GP.no fun e=>by have:=e1.2 (by rw[e]);rw[this]at h1;cases h1))
 refine aj.pX (Ho _ _ h.2.1) fun y2 e2=>aj.bif (fun h9=> ?_) (fun h1=>aj.const _ (GP.no fun e=>by have:=e2.2 (by rw[e]);rw[this]at h1;cases h1))
 refine aj.pX (Ho _ _ h.2.2) fun y3 e3=>aj.const _ (GP.ret ?_)
 simp at h1 h2 h3 h4 h5 h6 h7
 rw[RE]
 simp only[h1,h2,h3,h4,h5,h6,h7,e1.1 h8,e2.1 h9,true_and,e3]
theorem Rx(l:List Int)(x:Int)(hl:l.length<m6):cA (fun k=>ob k (l,x)) (x∈l):=by
 unfold m6 at hl
 refine cA.run (fun k=>H7 k l x) (cA.of ?_)
 simp only[G5]
 refine aj.list (L:=fun k _=>my k) l (fun(_:Unit) i=>(x,l,(l.length:Int),(i:Int))) (fun _ i=>x∉l.take i) (fun _ i e hx hi inv=> ?_) (fun _ inv=> ?_) () (by simp)
 ·have hw:aa .i64 ((i:Int)+1)=((i+1:Nat):Int):=by rw[aR (by omega) (by omega)];omega
  simp only[my,Int.ofNat_lt,hi,decide_true,cond_true,Int.natCast_nonneg,if_true,Int.toNat_natCast,hx,Option.bind_some,hw]
  refine aj.bif (fun h1=> ?_) (fun h1=> ?_)
  ·simp at h1;subst h1
   exact aj.const _ (GL.ret (GP.yes (List.mem_of_getElem? hx)))
  ·simp at h1
   refine aj.const _ (GL.self () rfl ?_)
   rw[List.take_add_one,hx]
   simp only[Option.toList_some,List.mem_append,List.mem_singleton,not_or]
   exact⟨inv,fun e=>h1 e.symm⟩
 ·simp only[my,Int.lt_irrefl,decide_false,cond_false]
  rw[List.take_length]at inv
  exact aj.const _ (GE.ret (GP.no inv))
theorem Nt(l:List Int)(x:Int)(hl:l.length<m6):cA (fun k=>e9 k (l,x)) (x∈l):=by
 unfold m6 at hl
 refine cA.run (fun k=>pO k l x) (cA.of ?_)
 simp only[lE]
 have:∃n:Int,Ev (fun k=>gF k (l,x)) n∧(0≤n↔x∈l):=by
  refine Ev.of (Q:=fun n=>0≤n↔x∈l) ?_ |>.imp fun n h=>⟨au.run (fun k=>th k l x) h.1,h.2⟩
  simp only[oF]
  refine aj.list (L:=fun k _=>dQ k) l (fun(_:Unit) i=>(l,x,(l.length:Int),(i:Int))) (fun _ i=>x∉l.take i) (fun _ i e hx hi inv=> ?_) (fun _ inv=> ?_) () (by simp)
  ·have hw:aa .i64 ((i:Int)+1)=((i+1:Nat):Int):=by rw[aR (by omega) (by omega)];omega
   simp only[dQ,Int.ofNat_lt,hi,decide_true,cond_true,Int.natCast_nonneg,if_true,Int.toNat_natCast,hx,Option.bind_some,hw]
   refine aj.bif (fun h1=> ?_) (fun h1=> ?_)
   ·simp at h1;subst h1
    exact aj.const _ (GL.ret (GR.ret ⟨fun _=>List.mem_of_getElem? hx,fun _=>by omega⟩))
   ·simp at h1
    refine aj.const _ (GL.self () rfl ?_)
    rw[List.take_add_one,hx]
    simp only[Option.toList_some,List.mem_append,List.mem_singleton,not_or]
    exact⟨inv,h1⟩
  ·simp only[dQ,Int.lt_irrefl,decide_false,cond_false]
   rw[List.take_length]at inv
   exact aj.const _ (GE.ret (GR.ret ⟨fun h=>by omega,fun h=>absurd h inv⟩))
 obtain⟨n,h1,h2⟩:=this
 refine aj.bind h1 (aj.const _ (GP.ret ?_))
 rw[decide_eq_true_eq];exact h2
end Go.Proofs.YtmmgfgfkkpeedaaGreat

/- The tables, the residual functions and lemmas of this seat: parts of the proof of the law; conditions: those that each names. -/
import Derived.Test.YtkdcfeopelbojaaGreatDoorAcl
set_option linter.unusedVariables false
set_option linter.unusedSimpArgs false
set_option maxRecDepth 100000
namespace Go.Proofs.YtkdcfeopelbojaaGreatDoor
open Go.Eng
theorem Tc{c:Bool}{f:Nat→Option Bool}{p:Prop}[Decidable p](h1:c=true→Ev f (decide p))(h2:c=false→¬p):Ev (fun k=>bif c then f k else some false) (decide p):=by
 cases c with
 |true=>exact h1 rfl
 |false=>simp only[cond_false,decide_eq_false (h2 rfl)];exact ax.const _
theorem Jj(e:fe):dB (fun k=>mL k e) (pR e):=by
 refine dB.run (fun k=>Ax k e) (dB.of ?_)
 simp only[xH]
 have key:∀t,e.1=t→t=1∨t=2∨t=3∨(t≠1∧t≠2∧t≠3):=fun t _=>by omega
 refine ak.bind (cA _ _ _) (ak.bif (fun h=> ?_) (fun h=> ?_))
 ·refine ak.const _ (GP.no fun hP=> ?_)
  unfold pR at hP
  simp at h;omega
 simp at h
 by_cases t1:e.1=1
 ·simp only[t1,beq_self_eq_true,cond_true]
  refine ak.bind (cA _ _ _) (ak.const _ (GP.ret ?_))
  unfold pR;simp;omega
 by_cases t2:e.1=2
 ·simp only[t2,beq_self_eq_true,cond_true,show((2:Int)==1)=false from rfl,cond_false]
  refine ak.bind (cA _ _ _) (ak.const _ (GP.ret ?_))
  unfold pR;simp;omega
 by_cases t3:e.1=3
 ·simp only[t3,beq_self_eq_true,cond_true,show((3:Int)==1)=false from rfl,show((3:Int)==2)=false from rfl,cond_false]
  refine ak.const _ (GP.ret ?_)
  unfold pR;simp;omega
 have b1:(e.1==1)=false:=by simpa using t1
 have b2:(e.1==2)=false:=by simpa using t2
 have b3:(e.1==3)=false:=by simpa using t3
 simp only[b1,b2,b3,cond_false]
 refine ak.const _ (GP.no fun hP=> ?_)
 unfold pR at hP;omega
theorem kC(l:List fe)(hl:l.length<fu):dB (fun k=>iE k l) (BU l):=by
 unfold fu at hl
 refine dB.run (fun k=>EJ k l) (dB.of ?_)
 simp only[EX]
 refine ak.list (L:=fun k _=>l6 k) l (fun(_:Unit) i=>(l,l,(l.length:Int),(i:Int))) (fun _ i=>∀j e,j<i→l[j]? =some e→pR e∧Gy l j e) (fun _ i e hx hi inv=> ?_) (fun _ inv=> ?_) () (by simp)
 ·simp only[l6,Int.ofNat_lt,hi,decide_true,cond_true,Int.natCast_nonneg,if_true,Int.toNat_natCast,hx,Option.bind_some]
  have hw:aa .i64 ((i:Int)+1)=((i+1:Nat):Int):=by rw[aV (by omega) (by omega)];omega
  rw[hw]
  refine ak.CB (Jj e) fun b hb=> ?_
  refine ak.bif (fun h1=> ?_) (fun h1=> ?_)
  ·refine ak.const _ (GL.ret (GP.no fun hP=> ?_))
   have:=hb.2 (hP.2.1 i e hx).1
   simp[this]at h1
  have he:pR e:=hb.1 (by simpa using h1)
  have next:Gy l i e→∀j e,j<i+1→l[j]? =some e→pR e∧Gy l j e:=fun ho j e' hj hje=>by
   by_cases hji:j=i
   ·subst hji;rw[hx]at hje;cases hje;exact⟨he,ho⟩
   ·exact inv j e' (by omega) hje
  refine ak.bif (fun h3=> ?_) (fun h3=> ?_)
  ·simp at h3
   have hw2:aa .i64 ((i:Int)-1)=((i-1:Nat):Int):=by rw[aV (by omega) (by omega)];omega
   have hp:l[i-1]? =some l[i-1]:=List.getElem?_eq_getElem (by omega)
   simp only[hw2,Int.natCast_nonneg,if_true,Int.toNat_natCast,hp,Option.bind_some]
   have no:¬A8 l[i-1] e→GL (S:=Unit) (fun(_:Unit) i=>(l,l,(l.length:Int),((i:Nat):Int))) (fun _ i=>∀j e,j<i→l[j]? =some e→pR e∧Gy l j e) i (GP (BU l)) fun _=>some false:=fun h=>
    GL.ret (GP.no fun hP=>h ((hP.2.1 i e hx).2 _ h3 hp))
   have yes:A8 l[i-1] e→Gy l i e:=fun h p _ hp'=>by rw[hp]at hp';cases hp';exact h
   refine ak.bif (fun h4=> ?_) (fun h4=> ?_)
   ·refine ak.const _ (no ?_)
    simp at h4;unfold A8;omega
   refine ak.bif (fun h5=> ?_) (fun h5=> ?_)
   ·refine ak.bif (fun h6=> ?_) (fun h6=> ?_)
    ·refine ak.const _ (no ?_)
     simp at h4 h5 h6;unfold A8;omega
    ·refine ak.const _ (GL.self () rfl (next (yes ?_)))
     simp at h4 h5 h6;unfold A8;omega
   ·refine ak.const _ (GL.self () rfl (next (yes ?_)))
    simp at h4 h5;unfold A8;omega
  ·simp at h3
   exact ak.const _ (GL.self () rfl (next fun p h0 _=>by omega))
 ·simp only[l6,Int.lt_irrefl,decide_false,cond_false]
  refine ak.bif (fun h3=> ?_) (fun h3=> ?_)
  ·simp at h3
   subst h3
   exact ak.const _ (GE.ret (GP.yes ⟨by simp,by simp,.inl rfl⟩))
  ·simp at h3
   have hlen:0<l.length:=List.length_pos_iff.2 h3
   have hw2:aa .i64 ((l.length:Int)-1)=((l.length-1:Nat):Int):=by rw[aV (by omega) (by omega)];omega
   have hp:l[l.length-1]? =some l[l.length-1]:=List.getElem?_eq_getElem (by omega)
   refine ak.bif (fun h4=> ?_) (fun h4=> ?_)
   ·simp at h4
    simp only[hw2,Int.natCast_nonneg,if_true,Int.toNat_natCast,hp,Option.bind_some]
    refine ak.const _ (GE.ret (GP.ret ?_))
    simp only[beq_iff_eq]
    constructor
    ·intro h4
     exact⟨by omega,fun i e hie=>inv i e (List.getElem?_eq_some_iff.1 hie).1 hie,.inr ⟨_,hp,h4⟩⟩
    ·intro hP
     rcases hP.2.2 with h4|⟨e,h4,h5⟩
     ·exact absurd h4 h3
     ·rw[hp]at h4;cases h4;exact h5
   ·simp at h4
    exact ak.const _ (GE.ret (GP.no fun hP=>by have:=hP.1;omega))
theorem nI{α D:Type}(eqB:α→α→Bool)(hB:∀a b,eqB a b=true↔a=b){L:Nat→(D→Option Bool)→D→Option Bool}(a b:List α)(mk:Nat→D)
  (hs:∀k self i x y,a[i]? =some x→b[i]? =some y→i<a.length→i<b.length→aa .i64 ((i:Int)+1)=((i+1:Nat):Int)→L k self (mk i)=bif !(eqB x y)then some false else self (mk (i+1)))
  (he:∀k self,L k self (mk a.length)=some true) (h:a.length=b.length) (hl:a.length<fu):dB (fun k=>iter k (L k) (mk 0)) (a=b):=by
 unfold fu at hl
 refine dB.of ?_
 refine ak.list (L:=fun k _=>L k) a (fun(_:Unit) i=>mk i) (fun _ i=>a.take i=b.take i) (fun _ i e hx hi inv=> ?_) (fun _ inv=> ?_) () (by simp)
 ·have hy:b[i]? =some b[i]:=List.getElem?_eq_getElem (by omega)
  refine ak.congr (fun k p=>hs k _ i _ _ hx hy hi (by omega) (by rw[aV (by omega) (by omega)];omega)) ?_
  refine ak.bif (fun h1=> ?_) (fun h1=> ?_)
  ·refine ak.const _ (GL.ret (GP.no fun hP=> ?_))
   subst hP
   rw[hx]at hy
   have:eqB e a[i]=true:=(hB _ _).2 (Option.some.inj hy)
   rw[this]at h1;cases h1
  ·refine ak.const _ (GL.self () rfl ?_)
   have:e=b[i]:=(hB _ _).1 (by simpa using h1)
   rw[List.take_add_one,List.take_add_one,inv,hx,hy,this]
 ·refine ak.congr (fun k p=>he k _) ?_
  refine ak.const _ (GE.ret (GP.yes ?_))
  rw[List.take_length,h,List.take_length]at inv
  exact inv
theorem BY{α:Type}{a b:List α}(h:((a.length:Int) != (b.length:Int))=true):a≠b:=fun e=>by subst e;simp at h
theorem Bt{α:Type}{a b:List α}(h:((a.length:Int) != (b.length:Int))=false):a.length=b.length:=by
 simp at h;omega
theorem dB.iter{f:Nat→Option Bool}{P:Prop}{S:Type}(h:dB f P):ak (fun k (_:S)=>f k) (GP P):=by
 obtain⟨b,h1,h2⟩:=h
 exact ak.Qf h1 (GP.ret h2)
theorem Tt(a b:Int):(a != b)= !(a==b):=rfl
theorem MQ(a b:Int):(a==b)=true↔a=b:=beq_iff_eq
theorem MA(a b:fe):((a.1==b.1)&&((a.2.1==b.2.1)&&(a.2.2==b.2.2)))=true↔a=b:=by
 obtain⟨a1,a2,a3⟩:=a
 obtain⟨b1,b2,b3⟩:=b
 simp
theorem Gb(a b:List Int)(hl:a.length<fu):dB (fun k=>fH k (a,b)) (a=b):=by
 refine dB.run (fun k=>pP k a b) (dB.of ?_)
 simp only[ml]
 refine ak.bif (fun h=>ak.const _ (GP.no (BY h))) (fun h=> ?_)
 exact dB.iter (nI (· == ·) MQ (L:=dm) a b (fun i=>(a,b,(a.length:Int),(i:Int))) (fun k self i x y hx hy hi _ hw=>by
  simp only[dm,Int.ofNat_lt,hi,decide_true,cond_true,Int.natCast_nonneg,if_true,Int.toNat_natCast,hx,hy,Option.bind_some,hw,bne]) (fun k self=>by
  simp only[dm,Int.lt_irrefl,decide_false,cond_false]) (Bt h) hl)
theorem w8(a b:List fe)(hl:a.length<fu):dB (fun k=>bw k (a,b)) (a=b):=by
 refine dB.run (fun k=>fq k a b) (dB.of ?_)
 simp only[cY]
 refine ak.bif (fun h=>ak.const _ (GP.no (BY h))) (fun h=> ?_)
 exact dB.iter (nI _ MA (L:=br) a b (fun i=>(a,b,(a.length:Int),(i:Int))) (fun k self i x y hx hy hi _ hw=>by
  simp only[br,Int.ofNat_lt,hi,decide_true,cond_true,Int.natCast_nonneg,if_true,Int.toNat_natCast,hx,hy,Option.bind_some,hw]) (fun k self=>by
  simp only[br,Int.lt_irrefl,decide_false,cond_false]) (Bt h) hl)
theorem KE(a b:List Int)(hl:a.length<fu):dB (fun k=>nU k (a,b)) (a=b):=by
 refine dB.run (fun k=>Cp k a b) (dB.of ?_)
 simp only[AI]
 refine ak.bif (fun h=>ak.const _ (GP.no (BY h))) (fun h=> ?_)
 exact dB.iter (nI (· == ·) MQ (L:=jv) a b (fun i=>(b,a,(a.length:Int),(i:Int))) (fun k self i x y hx hy hi _ hw=>by
  simp only[jv,Int.ofNat_lt,hi,decide_true,cond_true,Int.natCast_nonneg,if_true,Int.toNat_natCast,hx,hy,Option.bind_some,hw,bne]) (fun k self=>by
  simp only[jv,Int.lt_irrefl,decide_false,cond_false]) (Bt h) hl)
theorem Dd(a b:List fe)(hl:a.length<fu):dB (fun k=>kg k (a,b)) (a=b):=by
 refine dB.run (fun k=>BW k a b) (dB.of ?_)
 simp only[Bg]
 refine ak.bif (fun h=>ak.const _ (GP.no (BY h))) (fun h=> ?_)
 exact dB.iter (nI _ MA (L:=jn) a b (fun i=>(b,a,(a.length:Int),(i:Int))) (fun k self i x y hx hy hi _ hw=>by
  simp only[jn,Int.ofNat_lt,hi,decide_true,cond_true,Int.natCast_nonneg,if_true,Int.toNat_natCast,hx,hy,Option.bind_some,hw]) (fun k self=>by
  simp only[jn,Int.lt_irrefl,decide_false,cond_false]) (Bt h) hl)
def qd(x:az):Prop:=x.2.2.2.2.2.2.2.1.length<fu∧x.2.2.2.2.2.2.2.2.1.length<fu∧x.2.2.2.2.2.2.2.2.2.length<fu
theorem Mk(a b:az):a=b↔a.1=b.1∧a.2.1=b.2.1∧a.2.2.1=b.2.2.1∧a.2.2.2.1=b.2.2.2.1∧a.2.2.2.2.1=b.2.2.2.2.1∧a.2.2.2.2.2.1=b.2.2.2.2.2.1∧a.2.2.2.2.2.2.1=b.2.2.2.2.2.2.1∧
  a.2.2.2.2.2.2.2.1=b.2.2.2.2.2.2.2.1∧a.2.2.2.2.2.2.2.2.1=b.2.2.2.2.2.2.2.2.1∧a.2.2.2.2.2.2.2.2.2=b.2.2.2.2.2.2.2.2.2:=by
 obtain⟨a1,a2,a3,a4,a5,a6,a7,a8,a9,a10⟩:=a
 obtain⟨b1,b2,b3,b4,b5,b6,b7,b8,b9,b10⟩:=b
 simp
theorem yO(a b:az)(h:qd a):dB (fun k=>lq k (a,b)) (a=b):=by
 refine dB.run (fun k=>zq k a b) (dB.of ?_)
 simp only[uY]
 refine ak.bif (fun h1=> ?_) (fun h1=>ak.const _ (GP.no fun e=>by rw[e]at h1;simp at h1))
 refine ak.bif (fun h2=> ?_) (fun h1=>ak.const _ (GP.no fun e=>by rw[e]at h1;simp at h1))
 refine ak.bif (fun h3=> ?_) (fun h1=>ak.const _ (GP.no fun e=>by rw[e]at h1;simp at h1))
 refine ak.bif (fun h4=> ?_) (fun h1=>ak.const _ (GP.no fun e=>by rw[e]at h1;simp at h1))
 refine ak.bif (fun h5=> ?_) (fun h1=>ak.const _ (GP.no fun e=>by rw[e]at h1;simp at h1))
 refine ak.bif (fun h6=> ?_) (fun h1=>ak.const _ (GP.no fun e=>by rw[e]at h1;simp at h1))
 refine ak.bif (fun h7=> ?_) (fun h1=>ak.const _ (GP.no fun e=>by rw[e]at h1;simp at h1))
 refine ak.CB (Gb _ _ h.1) fun y1 e1=>ak.bif (fun h8=> ?_) (fun h1=>ak.const _ (GP.no fun e=>by have:=e1.2 (by rw[e]);rw[this]at h1;cases h1))
 refine ak.CB (w8 _ _ h.2.1) fun y2 e2=>ak.bif (fun h9=> ?_) (fun h1=>ak.const _ (GP.no fun e=>by have:=e2.2 (by rw[e]);rw[this]at h1;cases h1))
 refine ak.CB (w8 _ _ h.2.2) fun y3 e3=>ak.const _ (GP.ret ?_)
 simp only[beq_iff_eq]at h1 h2 h3 h4 h5 h6 h7
 rw[Mk]
 simp only[h1,h2,h3,h4,h5,h6,h7,e1.1 h8,e2.1 h9,true_and,e3]
theorem zd(a b:az)(h:qd a):dB (fun k=>lE k (a,b)) (a=b):=by
 refine dB.run (fun k=>yK k a b) (dB.of ?_)
 simp only[vL]
 refine ak.bif (fun h1=>ak.const _ (GP.no fun e=>by rw[e]at h1;simp at h1)) (fun h1=> ?_)
 refine ak.bif (fun h1=>ak.const _ (GP.no fun e=>by rw[e]at h1;simp at h1)) (fun h2=> ?_)
 refine ak.bif (fun h1=>ak.const _ (GP.no fun e=>by rw[e]at h1;simp at h1)) (fun h3=> ?_)
 refine ak.bif (fun h1=>ak.const _ (GP.no fun e=>by rw[e]at h1;simp at h1)) (fun h4=> ?_)
 refine ak.bif (fun h1=>ak.const _ (GP.no fun e=>by rw[e]at h1;simp at h1)) (fun h5=> ?_)
 refine ak.bif (fun h1=>ak.const _ (GP.no fun e=>by rw[e]at h1;simp at h1)) (fun h6=> ?_)
 refine ak.bif (fun h1=>ak.const _ (GP.no fun e=>by rw[e]at h1;simp at h1)) (fun h7=> ?_)
 refine ak.CB (KE _ _ h.1) fun y1 e1=>ak.bif (fun h8=> ?_) (fun h1=>ak.const _ (GP.no fun e=>by have:=e1.2 (by rw[e]);rw[this]at h1;cases h1))
 refine ak.CB (Dd _ _ h.2.1) fun y2 e2=>ak.bif (fun h9=> ?_) (fun h1=>ak.const _ (GP.no fun e=>by have:=e2.2 (by rw[e]);rw[this]at h1;cases h1))
 refine ak.CB (Dd _ _ h.2.2) fun y3 e3=>ak.const _ (GP.ret ?_)
 simp at h1 h2 h3 h4 h5 h6 h7
 rw[Mk]
 simp only[h1,h2,h3,h4,h5,h6,h7,e1.1 h8,e2.1 h9,true_and,e3]
theorem Mn(l:List Int)(x:Int)(hl:l.length<fu):dB (fun k=>l3 k (l,x)) (x∈l):=by
 unfold fu at hl
 refine dB.run (fun k=>Dl k l x) (dB.of ?_)
 simp only[CJ]
 refine ak.list (L:=fun k _=>kS k) l (fun(_:Unit) i=>(x,l,(l.length:Int),(i:Int))) (fun _ i=>x∉l.take i) (fun _ i e hx hi inv=> ?_) (fun _ inv=> ?_) () (by simp)
 ·have hw:aa .i64 ((i:Int)+1)=((i+1:Nat):Int):=by rw[aV (by omega) (by omega)];omega
  simp only[kS,Int.ofNat_lt,hi,decide_true,cond_true,Int.natCast_nonneg,if_true,Int.toNat_natCast,hx,Option.bind_some,hw]
  refine ak.bif (fun h1=> ?_) (fun h1=> ?_)
  ·simp at h1;subst h1
   exact ak.const _ (GL.ret (GP.yes (List.mem_of_getElem? hx)))
  ·simp at h1
   refine ak.const _ (GL.self () rfl ?_)
   rw[List.take_add_one,hx]
   simp only[Option.toList_some,List.mem_append,List.mem_singleton,not_or]
   exact⟨inv,fun e=>h1 e.symm⟩
 ·simp only[kS,Int.lt_irrefl,decide_false,cond_false]
  rw[List.take_length]at inv
  exact ak.const _ (GE.ret (GP.no inv))
theorem A6(l:List Int)(x:Int)(hl:l.length<fu):dB (fun k=>cW k (l,x)) (x∈l):=by
 unfold fu at hl
 refine dB.run (fun k=>nB k l x) (dB.of ?_)
 simp only[jX]
 have:∃n:Int,Ev (fun k=>fM k (l,x)) n∧(0≤n↔x∈l):=by
  refine Ev.of (Q:=fun n=>0≤n↔x∈l) ?_ |>.imp fun n h=>⟨ax.run (fun k=>pK k l x) h.1,h.2⟩
  simp only[mq]
  refine ak.list (L:=fun k _=>dk k) l (fun(_:Unit) i=>(l,x,(l.length:Int),(i:Int))) (fun _ i=>x∉l.take i) (fun _ i e hx hi inv=> ?_) (fun _ inv=> ?_) () (by simp)
  ·have hw:aa .i64 ((i:Int)+1)=((i+1:Nat):Int):=by rw[aV (by omega) (by omega)];omega
   simp only[dk,Int.ofNat_lt,hi,decide_true,cond_true,Int.natCast_nonneg,if_true,Int.toNat_natCast,hx,Option.bind_some,hw]
   refine ak.bif (fun h1=> ?_) (fun h1=> ?_)
   ·simp at h1;subst h1
    exact ak.const _ (GL.ret (GR.ret ⟨fun _=>List.mem_of_getElem? hx,fun _=>by omega⟩))
   ·simp at h1
    refine ak.const _ (GL.self () rfl ?_)
    rw[List.take_add_one,hx]
    simp only[Option.toList_some,List.mem_append,List.mem_singleton,not_or]
    exact⟨inv,h1⟩
  ·simp only[dk,Int.lt_irrefl,decide_false,cond_false]
   rw[List.take_length]at inv
   exact ak.const _ (GE.ret (GR.ret ⟨fun h=>by omega,fun h=>absurd h inv⟩))
 obtain⟨n,h1,h2⟩:=this
 refine ak.bind h1 (ak.const _ (GP.ret ?_))
 rw[decide_eq_true_eq];exact h2
end Go.Proofs.YtkdcfeopelbojaaGreatDoor

/- The tables, the residual functions and lemmas of this seat: parts of the proof of the law; conditions: those that each names. -/
import Derived.Test.YtkdcfeopelbojaaGreatDoorAcl
set_option linter.unusedVariables false
set_option linter.unusedSimpArgs false
set_option maxRecDepth 100000
namespace Go.Proofs.YtkdcfeopelbojaaGreatDoor
open Go.Eng
theorem T9{c:Bool}{f:Nat→Option Bool}{p:Prop}[Decidable p](h1:c=true→Ev f (decide p))(h2:c=false→¬p):Ev (fun k=>bif c then f k else some false) (decide p):=by
 cases c with
 |true=>exact h1 rfl
 |false=>simp only[cond_false,decide_eq_false (h2 rfl)];exact aw.const _
theorem Jw(e:fc):ep (fun k=>nv k e) (pY e):=by
 refine ep.run (fun k=>Af k e) (ep.of ?_)
 simp only[xQ]
 have key:∀t,e.1=t→t=1∨t=2∨t=3∨(t≠1∧t≠2∧t≠3):=fun t _=>by omega
 refine ak.bind (cy _ _ _) (ak.bif (fun h=> ?_) (fun h=> ?_))
 ·refine ak.const _ (GP.no fun hP=> ?_)
  unfold pY at hP
  simp at h;omega
 simp at h
 by_cases t1:e.1=1
 ·simp only[t1,beq_self_eq_true,cond_true]
  refine ak.bind (cy _ _ _) (ak.const _ (GP.ret ?_))
  unfold pY;simp;omega
 by_cases t2:e.1=2
 ·simp only[t2,beq_self_eq_true,cond_true,show((2:Int)==1)=false from rfl,cond_false]
  refine ak.bind (cy _ _ _) (ak.const _ (GP.ret ?_))
  unfold pY;simp;omega
 by_cases t3:e.1=3
 ·simp only[t3,beq_self_eq_true,cond_true,show((3:Int)==1)=false from rfl,show((3:Int)==2)=false from rfl,cond_false]
  refine ak.const _ (GP.ret ?_)
  unfold pY;simp;omega
 have b1:(e.1==1)=false:=by simpa using t1
 have b2:(e.1==2)=false:=by simpa using t2
 have b3:(e.1==3)=false:=by simpa using t3
 simp only[b1,b2,b3,cond_false]
 refine ak.const _ (GP.no fun hP=> ?_)
 unfold pY at hP;omega
theorem kA(l:List fc)(hl:l.length<ia):ep (fun k=>iY k l) (B3 l):=by
 unfold ia at hl
 refine ep.run (fun k=>GK k l) (ep.of ?_)
 simp only[Ga]
 refine ak.list (L:=fun k _=>mg k) l (fun(_:Unit) i=>(l,l,(l.length:Int),(i:Int))) (fun _ i=>∀j e,j<i→l[j]? =some e→pY e∧G4 l j e) (fun _ i e hx hi inv=> ?_) (fun _ inv=> ?_) () (by simp)
 ·simp only[mg,Int.ofNat_lt,hi,decide_true,cond_true,Int.natCast_nonneg,if_true,Int.toNat_natCast,hx,Option.bind_some]
  have hw:aa .i64 ((i:Int)+1)=((i+1:Nat):Int):=by rw[aV (by omega) (by omega)];omega
  rw[hw]
  refine ak.Ds (Jw e) fun b hb=> ?_
  refine ak.bif (fun h1=> ?_) (fun h1=> ?_)
  ·refine ak.const _ (GL.ret (GP.no fun hP=> ?_))
   have:=hb.2 (hP.2.1 i e hx).1
   simp[this]at h1
  have he:pY e:=hb.1 (by simpa using h1)
  have next:G4 l i e→∀j e,j<i+1→l[j]? =some e→pY e∧G4 l j e:=fun ho j e' hj hje=>by
   by_cases hji:j=i
   ·subst hji;rw[hx]at hje;cases hje;exact⟨he,ho⟩
   ·exact inv j e' (by omega) hje
  refine ak.bif (fun h3=> ?_) (fun h3=> ?_)
  ·simp at h3
   have hw2:aa .i64 ((i:Int)-1)=((i-1:Nat):Int):=by rw[aV (by omega) (by omega)];omega
   have hp:l[i-1]? =some l[i-1]:=List.getElem?_eq_getElem (by omega)
   simp only[hw2,Int.natCast_nonneg,if_true,Int.toNat_natCast,hp,Option.bind_some]
   have no:¬AA l[i-1] e→GL (S:=Unit) (fun(_:Unit) i=>(l,l,(l.length:Int),((i:Nat):Int))) (fun _ i=>∀j e,j<i→l[j]? =some e→pY e∧G4 l j e) i (GP (B3 l)) fun _=>some false:=fun h=>
    GL.ret (GP.no fun hP=>h ((hP.2.1 i e hx).2 _ h3 hp))
   have yes:AA l[i-1] e→G4 l i e:=fun h p _ hp'=>by rw[hp]at hp';cases hp';exact h
   refine ak.bif (fun h4=> ?_) (fun h4=> ?_)
   ·refine ak.const _ (no ?_)
    simp at h4;unfold AA;omega
   refine ak.bif (fun h5=> ?_) (fun h5=> ?_)
   ·refine ak.bif (fun h6=> ?_) (fun h6=> ?_)
    ·refine ak.const _ (no ?_)
     simp at h4 h5 h6;unfold AA;omega
    ·refine ak.const _ (GL.self () rfl (next (yes ?_)))
     simp at h4 h5 h6;unfold AA;omega
   ·refine ak.const _ (GL.self () rfl (next (yes ?_)))
    simp at h4 h5;unfold AA;omega
  ·simp at h3
   exact ak.const _ (GL.self () rfl (next fun p h0 _=>by omega))
 ·simp only[mg,Int.lt_irrefl,decide_false,cond_false]
  refine ak.bif (fun h3=> ?_) (fun h3=> ?_)
  ·simp at h3
   subst h3
   exact ak.const _ (GE.ret (GP.yes ⟨by simp,by simp,.inl rfl⟩))
  ·simp at h3
   have hlen:0<l.length:=List.length_pos_iff.2 h3
   have hw2:aa .i64 ((l.length:Int)-1)=((l.length-1:Nat):Int):=by rw[aV (by omega) (by omega)];omega
   have hp:l[l.length-1]? =some l[l.length-1]:=List.getElem?_eq_getElem (by omega)
   refine ak.bif (fun h4=> ?_) (fun h4=> ?_)
   ·simp at h4
    simp only[hw2,Int.natCast_nonneg,if_true,Int.toNat_natCast,hp,Option.bind_some]
    refine ak.const _ (GE.ret (GP.ret ?_))
    simp only[beq_iff_eq]
    constructor
    ·intro h4
     exact⟨by omega,fun i e hie=>inv i e (List.getElem?_eq_some_iff.1 hie).1 hie,.inr ⟨_,hp,h4⟩⟩
    ·intro hP
     rcases hP.2.2 with h4|⟨e,h4,h5⟩
     ·exact absurd h4 h3
     ·rw[hp]at h4;cases h4;exact h5
   ·simp at h4
    exact ak.const _ (GE.ret (GP.no fun hP=>by have:=hP.1;omega))
theorem w9{α D:Type}(eqB:α→α→Bool)(hB:∀a b,eqB a b=true↔a=b){L:Nat→(D→Option Bool)→D→Option Bool}(a b:List α)(mk:Nat→D)
  (hs:∀k self i x y,a[i]? =some x→b[i]? =some y→i<a.length→i<b.length→aa .i64 ((i:Int)+1)=((i+1:Nat):Int)→L k self (mk i)=bif !(eqB x y)then some false else self (mk (i+1)))
  (he:∀k self,L k self (mk a.length)=some true) (h:a.length=b.length) (hl:a.length<ia):ep (fun k=>iter k (L k) (mk 0)) (a=b):=by
 unfold ia at hl
 refine ep.of ?_
 refine ak.list (L:=fun k _=>L k) a (fun(_:Unit) i=>mk i) (fun _ i=>a.take i=b.take i) (fun _ i e hx hi inv=> ?_) (fun _ inv=> ?_) () (by simp)
 ·have hy:b[i]? =some b[i]:=List.getElem?_eq_getElem (by omega)
  refine ak.congr (fun k p=>hs k _ i _ _ hx hy hi (by omega) (by rw[aV (by omega) (by omega)];omega)) ?_
  refine ak.bif (fun h1=> ?_) (fun h1=> ?_)
  ·refine ak.const _ (GL.ret (GP.no fun hP=> ?_))
   subst hP
   rw[hx]at hy
   have:eqB e a[i]=true:=(hB _ _).2 (Option.some.inj hy)
   rw[this]at h1;cases h1
  ·refine ak.const _ (GL.self () rfl ?_)
   have:e=b[i]:=(hB _ _).1 (by simpa using h1)
   rw[List.take_add_one,List.take_add_one,inv,hx,hy,this]
 ·refine ak.congr (fun k p=>he k _) ?_
  refine ak.const _ (GE.ret (GP.yes ?_))
  rw[List.take_length,h,List.take_length]at inv
  exact inv
theorem I9{α:Type}{a b:List α}(h:((a.length:Int) != (b.length:Int))=true):a≠b:=fun e=>by subst e;simp at h
theorem Jq{α:Type}{a b:List α}(h:((a.length:Int) != (b.length:Int))=false):a.length=b.length:=by
 simp at h;omega
theorem ep.iter{f:Nat→Option Bool}{P:Prop}{S:Type}(h:ep f P):ak (fun k (_:S)=>f k) (GP P):=by
 obtain⟨b,h1,h2⟩:=h
 exact ak.Rz h1 (GP.ret h2)
theorem Uh(a b:Int):(a != b)= !(a==b):=rfl
theorem NH(a b:Int):(a==b)=true↔a=b:=beq_iff_eq
theorem Nh(a b:fc):((a.1==b.1)&&((a.2.1==b.2.1)&&(a.2.2==b.2.2)))=true↔a=b:=by
 obtain⟨a1,a2,a3⟩:=a
 obtain⟨b1,b2,b3⟩:=b
 simp
theorem G1(a b:List Int)(hl:a.length<ia):ep (fun k=>fM k (a,b)) (a=b):=by
 refine ep.run (fun k=>qj k a b) (ep.of ?_)
 simp only[mQ]
 refine ak.bif (fun h=>ak.const _ (GP.no (I9 h))) (fun h=> ?_)
 exact ep.iter (w9 (· == ·) NH (L:=dn) a b (fun i=>(a,b,(a.length:Int),(i:Int))) (fun k self i x y hx hy hi _ hw=>by
  simp only[dn,Int.ofNat_lt,hi,decide_true,cond_true,Int.natCast_nonneg,if_true,Int.toNat_natCast,hx,hy,Option.bind_some,hw,bne]) (fun k self=>by
  simp only[dn,Int.lt_irrefl,decide_false,cond_false]) (Jq h) hl)
theorem yv(a b:List fc)(hl:a.length<ia):ep (fun k=>bw k (a,b)) (a=b):=by
 refine ep.run (fun k=>fx k a b) (ep.of ?_)
 simp only[c9]
 refine ak.bif (fun h=>ak.const _ (GP.no (I9 h))) (fun h=> ?_)
 exact ep.iter (w9 _ Nh (L:=br) a b (fun i=>(a,b,(a.length:Int),(i:Int))) (fun k self i x y hx hy hi _ hw=>by
  simp only[br,Int.ofNat_lt,hi,decide_true,cond_true,Int.natCast_nonneg,if_true,Int.toNat_natCast,hx,hy,Option.bind_some,hw]) (fun k self=>by
  simp only[br,Int.lt_irrefl,decide_false,cond_false]) (Jq h) hl)
theorem Lh(a b:List Int)(hl:a.length<ia):ep (fun k=>n7 k (a,b)) (a=b):=by
 refine ep.run (fun k=>Cg k a b) (ep.of ?_)
 simp only[Ar]
 refine ak.bif (fun h=>ak.const _ (GP.no (I9 h))) (fun h=> ?_)
 exact ep.iter (w9 (· == ·) NH (L:=jz) a b (fun i=>(b,a,(a.length:Int),(i:Int))) (fun k self i x y hx hy hi _ hw=>by
  simp only[jz,Int.ofNat_lt,hi,decide_true,cond_true,Int.natCast_nonneg,if_true,Int.toNat_natCast,hx,hy,Option.bind_some,hw,bne]) (fun k self=>by
  simp only[jz,Int.lt_irrefl,decide_false,cond_false]) (Jq h) hl)
theorem DG(a b:List fc)(hl:a.length<ia):ep (fun k=>kB k (a,b)) (a=b):=by
 refine ep.run (fun k=>Cr k a b) (ep.of ?_)
 simp only[Bg]
 refine ak.bif (fun h=>ak.const _ (GP.no (I9 h))) (fun h=> ?_)
 exact ep.iter (w9 _ Nh (L:=jE) a b (fun i=>(b,a,(a.length:Int),(i:Int))) (fun k self i x y hx hy hi _ hw=>by
  simp only[jE,Int.ofNat_lt,hi,decide_true,cond_true,Int.natCast_nonneg,if_true,Int.toNat_natCast,hx,hy,Option.bind_some,hw]) (fun k self=>by
  simp only[jE,Int.lt_irrefl,decide_false,cond_false]) (Jq h) hl)
def rl(x:az):Prop:=x.2.2.2.2.2.2.2.1.length<ia∧x.2.2.2.2.2.2.2.2.1.length<ia∧x.2.2.2.2.2.2.2.2.2.length<ia
theorem NG(a b:az):a=b↔a.1=b.1∧a.2.1=b.2.1∧a.2.2.1=b.2.2.1∧a.2.2.2.1=b.2.2.2.1∧a.2.2.2.2.1=b.2.2.2.2.1∧a.2.2.2.2.2.1=b.2.2.2.2.2.1∧a.2.2.2.2.2.2.1=b.2.2.2.2.2.2.1∧
  a.2.2.2.2.2.2.2.1=b.2.2.2.2.2.2.2.1∧a.2.2.2.2.2.2.2.2.1=b.2.2.2.2.2.2.2.2.1∧a.2.2.2.2.2.2.2.2.2=b.2.2.2.2.2.2.2.2.2:=by
 obtain⟨a1,a2,a3,a4,a5,a6,a7,a8,a9,a10⟩:=a
 obtain⟨b1,b2,b3,b4,b5,b6,b7,b8,b9,b10⟩:=b
 simp
theorem zW(a b:az)(h:rl a):ep (fun k=>lF k (a,b)) (a=b):=by
 refine ep.run (fun k=>z6 k a b) (ep.of ?_)
 simp only[wE]
 refine ak.bif (fun h1=> ?_) (fun h1=>ak.const _ (GP.no fun e=>by rw[e]at h1;simp at h1))
 refine ak.bif (fun h2=> ?_) (fun h1=>ak.const _ (GP.no fun e=>by rw[e]at h1;simp at h1))
 refine ak.bif (fun h3=> ?_) (fun h1=>ak.const _ (GP.no fun e=>by rw[e]at h1;simp at h1))
 refine ak.bif (fun h4=> ?_) (fun h1=>ak.const _ (GP.no fun e=>by rw[e]at h1;simp at h1))
 refine ak.bif (fun h5=> ?_) (fun h1=>ak.const _ (GP.no fun e=>by rw[e]at h1;simp at h1))
 refine ak.bif (fun h6=> ?_) (fun h1=>ak.const _ (GP.no fun e=>by rw[e]at h1;simp at h1))
 refine ak.bif (fun h7=> ?_) (fun h1=>ak.const _ (GP.no fun e=>by rw[e]at h1;simp at h1))
 refine ak.Ds (G1 _ _ h.1) fun y1 e1=>ak.bif (fun h8=> ?_) (fun h1=>ak.const _ (GP.no fun e=>by have:=e1.2 (by rw[e]);rw[this]at h1;cases h1))
 refine ak.Ds (yv _ _ h.2.1) fun y2 e2=>ak.bif (fun h9=> ?_) (fun h1=>ak.const _ (GP.no fun e=>by have:=e2.2 (by rw[e]);rw[this]at h1;cases h1))
 refine ak.Ds (yv _ _ h.2.2) fun y3 e3=>ak.const _ (GP.ret ?_)
 simp only[beq_iff_eq]at h1 h2 h3 h4 h5 h6 h7
 rw[NG]
 simp only[h1,h2,h3,h4,h5,h6,h7,e1.1 h8,e2.1 h9,true_and,e3]
theorem zZ(a b:az)(h:rl a):ep (fun k=>lE k (a,b)) (a=b):=by
 refine ep.run (fun k=>zo k a b) (ep.of ?_)
 simp only[vU]
 refine ak.bif (fun h1=>ak.const _ (GP.no fun e=>by rw[e]at h1;simp at h1)) (fun h1=> ?_)
 refine ak.bif (fun h1=>ak.const _ (GP.no fun e=>by rw[e]at h1;simp at h1)) (fun h2=> ?_)
 refine ak.bif (fun h1=>ak.const _ (GP.no fun e=>by rw[e]at h1;simp at h1)) (fun h3=> ?_)
 refine ak.bif (fun h1=>ak.const _ (GP.no fun e=>by rw[e]at h1;simp at h1)) (fun h4=> ?_)
 refine ak.bif (fun h1=>ak.const _ (GP.no fun e=>by rw[e]at h1;simp at h1)) (fun h5=> ?_)
 refine ak.bif (fun h1=>ak.const _ (GP.no fun e=>by rw[e]at h1;simp at h1)) (fun h6=> ?_)
 refine ak.bif (fun h1=>ak.const _ (GP.no fun e=>by rw[e]at h1;simp at h1)) (fun h7=> ?_)
 refine ak.Ds (Lh _ _ h.1) fun y1 e1=>ak.bif (fun h8=> ?_) (fun h1=>ak.const _ (GP.no fun e=>by have:=e1.2 (by rw[e]);rw[this]at h1;cases h1))
 refine ak.Ds (DG _ _ h.2.1) fun y2 e2=>ak.bif (fun h9=> ?_) (fun h1=>ak.const _ (GP.no fun e=>by have:=e2.2 (by rw[e]);rw[this]at h1;cases h1))
 refine ak.Ds (DG _ _ h.2.2) fun y3 e3=>ak.const _ (GP.ret ?_)
 simp at h1 h2 h3 h4 h5 h6 h7
 rw[NG]
 simp only[h1,h2,h3,h4,h5,h6,h7,e1.1 h8,e2.1 h9,true_and,e3]
theorem M8(l:List Int)(x:Int)(hl:l.length<ia):ep (fun k=>mf k (l,x)) (x∈l):=by
 unfold ia at hl
 refine ep.run (fun k=>D4 k l x) (ep.of ?_)
 simp only[Da]
 refine ak.list (L:=fun k _=>kM k) l (fun(_:Unit) i=>(x,l,(l.length:Int),(i:Int))) (fun _ i=>x∉l.take i) (fun _ i e hx hi inv=> ?_) (fun _ inv=> ?_) () (by simp)
 ·have hw:aa .i64 ((i:Int)+1)=((i+1:Nat):Int):=by rw[aV (by omega) (by omega)];omega
  simp only[kM,Int.ofNat_lt,hi,decide_true,cond_true,Int.natCast_nonneg,if_true,Int.toNat_natCast,hx,Option.bind_some,hw]
  refine ak.bif (fun h1=> ?_) (fun h1=> ?_)
  ·simp at h1;subst h1
   exact ak.const _ (GL.ret (GP.yes (List.mem_of_getElem? hx)))
  ·simp at h1
   refine ak.const _ (GL.self () rfl ?_)
   rw[List.take_add_one,hx]
   simp only[Option.toList_some,List.mem_append,List.mem_singleton,not_or]
   exact⟨inv,fun e=>h1 e.symm⟩
 ·simp only[kM,Int.lt_irrefl,decide_false,cond_false]
  rw[List.take_length]at inv
  exact ak.const _ (GE.ret (GP.no inv))
theorem Bk(l:List Int)(x:Int)(hl:l.length<ia):ep (fun k=>c7 k (l,x)) (x∈l):=by
 unfold ia at hl
 refine ep.run (fun k=>nO k l x) (ep.of ?_)
 simp only[kj]
 have:∃n:Int,Ev (fun k=>fF k (l,x)) n∧(0≤n↔x∈l):=by
  refine Ev.of (Q:=fun n=>0≤n↔x∈l) ?_ |>.imp fun n h=>⟨aw.run (fun k=>p7 k l x) h.1,h.2⟩
  simp only[mN]
  refine ak.list (L:=fun k _=>dq k) l (fun(_:Unit) i=>(l,x,(l.length:Int),(i:Int))) (fun _ i=>x∉l.take i) (fun _ i e hx hi inv=> ?_) (fun _ inv=> ?_) () (by simp)
  ·have hw:aa .i64 ((i:Int)+1)=((i+1:Nat):Int):=by rw[aV (by omega) (by omega)];omega
   simp only[dq,Int.ofNat_lt,hi,decide_true,cond_true,Int.natCast_nonneg,if_true,Int.toNat_natCast,hx,Option.bind_some,hw]
   refine ak.bif (fun h1=> ?_) (fun h1=> ?_)
   ·simp at h1;subst h1
    exact ak.const _ (GL.ret (GR.ret ⟨fun _=>List.mem_of_getElem? hx,fun _=>by omega⟩))
   ·simp at h1
    refine ak.const _ (GL.self () rfl ?_)
    rw[List.take_add_one,hx]
    simp only[Option.toList_some,List.mem_append,List.mem_singleton,not_or]
    exact⟨inv,h1⟩
  ·simp only[dq,Int.lt_irrefl,decide_false,cond_false]
   rw[List.take_length]at inv
   exact ak.const _ (GE.ret (GR.ret ⟨fun h=>by omega,fun h=>absurd h inv⟩))
 obtain⟨n,h1,h2⟩:=this
 refine ak.bind h1 (ak.const _ (GP.ret ?_))
 rw[decide_eq_true_eq];exact h2
end Go.Proofs.YtkdcfeopelbojaaGreatDoor

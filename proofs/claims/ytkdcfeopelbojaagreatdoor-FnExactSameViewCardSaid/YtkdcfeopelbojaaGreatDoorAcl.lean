/- The tables, the residual functions and lemmas of this seat: parts of the proof of the law; conditions: those that each names. -/
import Derived.Test.YtkdcfeopelbojaaGreatDoorStd
import Derived.Test.YtkdcfeopelbojaaGreatDoorEng6
set_option linter.unusedVariables false
set_option linter.unusedSimpArgs false
set_option maxRecDepth 100000
namespace Go.Proofs.YtkdcfeopelbojaaGreatDoor
open Go.Eng
abbrev fe:=Int×(Int×Int)
abbrev az:=Int×Int×Int×Int×Int×Int×Int×List Int×List fe×List fe
abbrev LJ:=Int×Int
abbrev dV:=Int×List LJ×List az×List ByteArray
def fu:Nat:=4611686018427387904
theorem aV{n:Int}(h1: -9223372036854775808≤n)(h2:n<9223372036854775808):aa .i64 n=n:=wrap_i64 h1 h2
def pR(e:fe):Prop:=0≤e.2.2∧e.2.2≤7∧((e.1=1∨e.1=2)∧0≤e.2.1∧e.2.1≤3∨e.1=3∧e.2.1=0)
def A8(p e:fe):Prop:=p.1<e.1∨p.1=e.1∧p.2.1<e.2.1
def Gy(l:List fe)(i:Nat)(e:fe):Prop:=∀p,0<i→l[i-1]? =some p→A8 p e
def Ta(l:List fe):Prop:=l=[]∨∃e,l[l.length-1]? =some e∧e.1=3
def BU(l:List fe):Prop:=l.length≤6∧(∀i e,l[i]? =some e→pR e∧Gy l i e)∧Ta l
theorem R7{f:Nat→Option Bool}{P:Prop}(h:dB f P)(hn:¬P):Ev f false:=by
 obtain⟨b,e1,e2⟩:=h
 cases b with
 |false=>exact e1
 |true=>exact absurd (e2.1 rfl) hn
theorem Sk{f:Nat→Option Bool}{P:Prop}(h:dB f P)(hp:P):Ev f true:=by
 obtain⟨b,e1,e2⟩:=h
 cases b with
 |true=>exact e1
 |false=>exact absurd (e2.2 hp) (by decide)
theorem cA(a b c:Int):Ev (fun k=>aQ k (a,b,c)) (decide (b≤a∧a≤c)):=by
 refine ax.run (fun k=>FC k _ _ _) ?_
 simp only[Fx]
 by_cases h:b≤a<;>simp[h]<;>exact ax.const _
theorem ez(a:Int):Ev (fun k=>bT k a) (decide (0≤a∧a≤3)):=by
 refine ax.run (fun k=>DR k _) ?_
 simp only[C2]
 have e:(a<4)=(a≤3):=propext ⟨fun h=>by omega,fun h=>by omega⟩
 by_cases h:0≤a<;>simp[h,e]<;>exact ax.const _
theorem dZ(a:Int):Ev (fun k=>bD k a) (decide (0≤a∧a≤3)):=by
 refine ax.run (fun k=>BA k _) ?_
 simp only[Au]
 exact ax.bind (cA _ _ _) (ax.const _)
theorem ll(a:Int):Ev (fun k=>de k a) (decide (0≤a∧a≤2047)):=by
 refine ax.run (fun k=>Cr k _) ?_
 simp only[Ao]
 exact ax.bind (cA _ _ _) (ax.const _)
theorem wB(a:Int):Ev (fun k=>jj k a) (decide (0≤a∧a≤2047)):=by
 refine ax.run (fun k=>Dr k _) ?_
 simp only[CY]
 by_cases h:0≤a<;>simp[h]<;>exact ax.const _
theorem FW(a b:Int):Ev (fun k=>gB k (a,b)) (if a<b then-1 else if b<a then 1 else 0):=by
 refine ax.run (fun k=>wM k _ _) ?_
 simp only[cmp_Compare_int]
 have nan:∀a:Int,Ev (fun k=>jr k a) false:=fun a=>by
  refine ax.run (fun k=>z8 k _) ?_
  simp only[cmp_isNaN_int,bne_self_eq_false]
  exact ax.const _
 refine ax.bind (nan _) (ax.bind (nan _) ?_)
 by_cases h:a<b
 ·simp[h];exact ax.const _
 ·by_cases h2:b<a<;>simp[h,h2]<;>exact ax.const _
theorem St(a b:Int):Ev (fun k=>sw k [a,b]) (if a≠0 then a else b):=by
 refine ax.run (fun k=>EU k _) ?_
 simp only[F3]
 refine cZ.ev ?_
 by_cases h:a=0
 ·subst h
  refine cZ.step (d':=((0:Int),[0,b],(2:Int),(1:Int))) ?_ ?_
  ·simp[wK,gj,aa,wrap_i64];exact ax.const _
  ·by_cases hb:b=0
   ·subst hb
    refine cZ.step (d':=((0:Int),[0,0],(2:Int),(2:Int))) ?_ (cZ.stop ?_)
    ·simp[wK,gj,aa,wrap_i64];exact ax.const _
    ·simp[gj];exact ax.const _
   ·refine cZ.stop ?_
    have hb':(b != 0)=true:=by simpa using hb
    simp[gj,hb'];exact ax.const _
 ·refine cZ.stop ?_
  have h':(a != 0)=true:=by simpa using h
  simp[gj,h,h'];exact ax.const _
theorem kd(l:List fe):dB (fun k=>ir k l) (BU l):=by
 refine dB.run (fun k=>F0 k l) (dB.of ?_)
 simp only[FQ]
 refine ak.bif (fun h=> ?_) (fun h=> ?_)
 ·exact ak.const _ (GP.no fun hP=>by have:=hP.1;simp at h;omega)
 ·simp only[decide_eq_false_iff_not]at h
  refine ak.list (L:=fun k _=>l8 k) l (fun(_:Unit) i=>(l,l,(l.length:Int),(i:Int))) (fun _ i=>∀j e,j<i→l[j]? =some e→pR e∧Gy l j e) (fun _ i e hx hi inv=> ?_) (fun _ inv=> ?_) () (by simp)
  ·simp only[l8,Int.ofNat_lt,hi,decide_true,cond_true,Int.natCast_nonneg,if_true,Int.toNat_natCast,hx,Option.bind_some]
   refine ak.bif (fun h1=>ak.const _ (GL.ret (GP.no fun hP=>by have:=(hP.2.1 i e hx).1.1;simp at h1;omega))) (fun h1=> ?_)
   refine ak.bif (fun h2=>ak.const _ (GL.ret (GP.no fun hP=>by have:=(hP.2.1 i e hx).1.2.1;simp at h2;omega))) (fun h2=> ?_)
   simp at h1 h2
   refine ak.jd (l,(i:Int),(),l,(l.length:Int),(i:Int),e) (pR e) ?_ fun he=> ?_
   ·have user:∀{G:(Unit×(List fe×List fe×Int×Int→Option Bool)→Option Bool)→Prop},(¬BU l→G fun _=>some false)→(e.1=1∨e.1=2)→ak (fun k (p:Unit×(List fe×List fe×Int×Int→Option Bool))=>(bT k e.2.1).bind fun v1=>
      (bif (!v1)then(some false:Option Bool).map .inr else some (.inl (l,(i:Int),(),l,(l.length:Int),(i:Int),e)))) (GT (l,(i:Int),(),l,(l.length:Int),(i:Int),e) (pR e) G):=fun hG ht=>by
     refine ak.bind (ez _) (ak.bif (fun h3=> ?_) (fun h3=> ?_))
     ·refine ak.const _ (GT.inr (hG fun hP=> ?_))
      have:=(hP.2.1 i e hx).1
      simp at h3
      unfold pR at this
      omega
     ·simp at h3
      exact ak.const _ (GT.inl ⟨h1,h2,.inl ⟨ht,h3.1,h3.2⟩⟩)
    have hG:¬BU l→GL (S:=Unit) (fun(_:Unit) i=>(l,l,(l.length:Int),((i:Nat):Int))) (fun _ i=>∀j e,j<i→l[j]? =some e→pR e∧Gy l j e) i (GP (BU l)) fun _=>some false:=fun h=>GL.ret (GP.no h)
    by_cases t1:e.1=1
    ·simp only[t1,beq_self_eq_true,cond_true]
     exact user hG (.inl t1)
    ·by_cases t2:e.1=2
     ·simp only[t2,beq_self_eq_true,cond_true,show((2:Int)==1)=false from rfl,cond_false]
      exact user hG (.inr t2)
     ·by_cases t3:e.1=3
      ·simp only[t3,beq_self_eq_true,cond_true,show((3:Int)==1)=false from rfl,show((3:Int)==2)=false from rfl,cond_false]
       refine ak.bif (fun h3=> ?_) (fun h3=> ?_)
       ·refine ak.const _ (GT.inr (hG fun hP=> ?_))
        have:=(hP.2.1 i e hx).1
        simp at h3
        unfold pR at this
        omega
       ·simp at h3
        exact ak.const _ (GT.inl ⟨h1,h2,.inr ⟨t3,h3⟩⟩)
      ·have b1:(e.1==1)=false:=by simpa using t1
       have b2:(e.1==2)=false:=by simpa using t2
       have b3:(e.1==3)=false:=by simpa using t3
       simp only[b1,b2,b3,cond_false,Option.map_some]
       refine ak.const _ (GT.inr (hG fun hP=> ?_))
       have:=(hP.2.1 i e hx).1
       unfold pR at this
       omega
   ·have next:Gy l i e→∀j e,j<i+1→l[j]? =some e→pR e∧Gy l j e:=fun ho j e' hj hje=>by
     by_cases hji:j=i
     ·subst hji;rw[hx]at hje;cases hje;exact⟨he,ho⟩
     ·exact inv j e' (by omega) hje
    have hw:aa .i64 ((i:Int)+1)=((i+1:Nat):Int):=by rw[aV (by omega) (by omega)];omega
    refine ak.bif (fun h3=> ?_) (fun h3=> ?_)
    ·simp at h3
     have hw2:aa .i64 ((i:Int)-1)=((i-1:Nat):Int):=by rw[aV (by omega) (by omega)];omega
     have hp:l[i-1]? =some l[i-1]:=List.getElem?_eq_getElem (by omega)
     simp only[hw2,hw,Int.natCast_nonneg,if_true,Int.toNat_natCast,hp,Option.bind_some]
     refine ak.bind (FW _ _) (ak.bind (FW _ _) (ak.bind (St _ _) ?_))
     refine ak.bif (fun h4=> ?_) (fun h4=> ?_)
     ·refine ak.const _ (GL.ret (GP.no fun hP=> ?_))
      have:=(hP.2.1 i e hx).2 _ h3 hp
      unfold A8 at this
      simp only[decide_eq_true_eq]at h4
      split at h4<;>(try split at h4)<;>(try split at h4)<;>omega
     ·refine ak.const _ (GL.self () rfl (next fun p _ hp'=> ?_))
      rw[hp]at hp';cases hp'
      unfold A8
      simp only[decide_eq_false_iff_not]at h4
      split at h4<;>(try split at h4)<;>(try split at h4)<;>omega
    ·simp at h3
     rw[hw]
     exact ak.const _ (GL.self () rfl (next fun p h0 _=>by omega))
  ·simp only[l8,Int.lt_irrefl,decide_false,cond_false]
   refine ak.bif (fun h3=> ?_) (fun h3=> ?_)
   ·simp at h3
    subst h3
    exact ak.const _ (GE.ret (GP.yes ⟨by simp,by simp,.inl rfl⟩))
   ·simp at h3
    have hlen:0<l.length:=List.length_pos_iff.2 h3
    have hw2:aa .i64 ((l.length:Int)-1)=((l.length-1:Nat):Int):=by rw[aV (by omega) (by omega)];omega
    have hp:l[l.length-1]? =some l[l.length-1]:=List.getElem?_eq_getElem (by omega)
    simp only[hw2,Int.natCast_nonneg,if_true,Int.toNat_natCast,hp,Option.bind_some]
    refine ak.const _ (GE.ret (GP.ret ?_))
    simp only[beq_iff_eq]
    constructor
    ·intro h4
     exact⟨by omega,fun i e hie=>inv i e (List.getElem?_eq_some_iff.1 hie).1 hie,.inr ⟨_,hp,h4⟩⟩
    ·intro hP
     rcases hP.2.2 with h4|⟨e,h4,h5⟩
     ·exact absurd h4 h3
     ·rw[hp]at h4;cases h4;exact h5
end Go.Proofs.YtkdcfeopelbojaaGreatDoor

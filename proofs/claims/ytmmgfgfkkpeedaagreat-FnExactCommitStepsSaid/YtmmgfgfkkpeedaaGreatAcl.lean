/- The tables, the residual functions and lemmas of this seat: parts of the proof of the law; conditions: those that each names. -/
import Derived.Test.YtmmgfgfkkpeedaaGreatStd
import Derived.Test.YtmmgfgfkkpeedaaGreatEng5
set_option linter.unusedVariables false
set_option linter.unusedSimpArgs false
set_option maxRecDepth 100000
namespace Go.Proofs.YtmmgfgfkkpeedaaGreat
open Go.Eng
abbrev dK:=Int×(Int×Int)
abbrev aN:=Int×Int×Int×Int×Int×Int×Int×List Int×List dK×List dK
abbrev JL:=Int×Int
abbrev jB:=Int×List JL×List aN×List ByteArray
def m6:Nat:=4611686018427387904
theorem aR{n:Int}(h1: -9223372036854775808≤n)(h2:n<9223372036854775808):aa .i64 n=n:=wrap_i64 h1 h2
def vf(e:dK):Prop:=0≤e.2.2∧e.2.2≤7∧((e.1=1∨e.1=2)∧0≤e.2.1∧e.2.1≤3∨e.1=3∧e.2.1=0)
def Ey(p e:dK):Prop:=p.1<e.1∨p.1=e.1∧p.2.1<e.2.1
def Lq(l:List dK)(i:Nat)(e:dK):Prop:=∀p,0<i→l[i-1]? =some p→Ey p e
def XM(l:List dK):Prop:=l=[]∨∃e,l[l.length-1]? =some e∧e.1=3
def yb(l:List dK):Prop:=l.length≤6∧(∀i e,l[i]? =some e→vf e∧Lq l i e)∧XM l
theorem Af{f:Nat→Option Bool}{P:Prop}(h:cA f P)(hn:¬P):Ev f false:=by
 obtain⟨b,e1,e2⟩:=h
 cases b with
 |false=>exact e1
 |true=>exact absurd (e2.1 rfl) hn
theorem ya{f:Nat→Option Bool}{P:Prop}(h:cA f P)(hp:P):Ev f true:=by
 obtain⟨b,e1,e2⟩:=h
 cases b with
 |true=>exact e1
 |false=>exact absurd (e2.2 hp) (by decide)
theorem bH(a b c:Int):Ev (fun k=>aE k (a,b,c)) (decide (b≤a∧a≤c)):=by
 refine au.run (fun k=>yB k _ _ _) ?_
 simp only[CT]
 by_cases h:b≤a<;>simp[h]<;>exact au.const _
theorem Ad(a:Int):Ev (fun k=>c7 k a) (decide (0≤a∧a≤3)):=by
 refine au.run (fun k=>Iq k _) ?_
 simp only[Hr]
 have e:(a<4)=(a≤3):=propext ⟨fun h=>by omega,fun h=>by omega⟩
 by_cases h:0≤a<;>simp[h,e]<;>exact au.const _
theorem CJ(a:Int):Ev (fun k=>cu k a) (decide (0≤a∧a≤3)):=by
 refine au.run (fun k=>Gz k _) ?_
 simp only[En]
 exact au.bind (bH _ _ _) (au.const _)
theorem Qe(a:Int):Ev (fun k=>ju k a) (decide (0≤a∧a≤2047)):=by
 refine au.run (fun k=>Fe k _) ?_
 simp only[DL]
 exact au.bind (bH _ _ _) (au.const _)
theorem SI(a:Int):Ev (fun k=>sW k a) (decide (0≤a∧a≤2047)):=by
 refine au.run (fun k=>HX k _) ?_
 simp only[Hy]
 by_cases h:0≤a<;>simp[h]<;>exact au.const _
theorem Kj(a b:Int):Ev (fun k=>iO k (a,b)) (if a<b then-1 else if b<a then 1 else 0):=by
 refine au.run (fun k=>Aq k _ _) ?_
 simp only[cmp_Compare_int]
 have nan:∀a:Int,Ev (fun k=>kK k a) false:=fun a=>by
  refine au.run (fun k=>DP k _) ?_
  simp only[cmp_isNaN_int,bne_self_eq_false]
  exact au.const _
 refine au.bind (nan _) (au.bind (nan _) ?_)
 by_cases h:a<b
 ·simp[h];exact au.const _
 ·by_cases h2:b<a<;>simp[h,h2]<;>exact au.const _
theorem Xt(a b:Int):Ev (fun k=>vC k [a,b]) (if a≠0 then a else b):=by
 refine au.run (fun k=>JP k _) ?_
 simp only[KM]
 refine bS.ev ?_
 by_cases h:a=0
 ·subst h
  refine bS.step (d':=((0:Int),[0,b],(2:Int),(1:Int))) ?_ ?_
  ·simp[m7,ix,aa,wrap_i64];exact au.const _
  ·by_cases hb:b=0
   ·subst hb
    refine bS.step (d':=((0:Int),[0,0],(2:Int),(2:Int))) ?_ (bS.stop ?_)
    ·simp[m7,ix,aa,wrap_i64];exact au.const _
    ·simp[ix];exact au.const _
   ·refine bS.stop ?_
    have hb':(b != 0)=true:=by simpa using hb
    simp[ix,hb'];exact au.const _
 ·refine bS.stop ?_
  have h':(a != 0)=true:=by simpa using h
  simp[ix,h,h'];exact au.const _
theorem mI(l:List dK):cA (fun k=>l4 k l) (yb l):=by
 refine cA.run (fun k=>JY k l) (cA.of ?_)
 simp only[KP]
 refine aj.bif (fun h=> ?_) (fun h=> ?_)
 ·exact aj.const _ (GP.no fun hP=>by have:=hP.1;simp at h;omega)
 ·simp only[decide_eq_false_iff_not]at h
  refine aj.list (L:=fun k _=>nY k) l (fun(_:Unit) i=>(l,l,(l.length:Int),(i:Int))) (fun _ i=>∀j e,j<i→l[j]? =some e→vf e∧Lq l j e) (fun _ i e hx hi inv=> ?_) (fun _ inv=> ?_) () (by simp)
  ·simp only[nY,Int.ofNat_lt,hi,decide_true,cond_true,Int.natCast_nonneg,if_true,Int.toNat_natCast,hx,Option.bind_some]
   refine aj.bif (fun h1=>aj.const _ (GL.ret (GP.no fun hP=>by have:=(hP.2.1 i e hx).1.1;simp at h1;omega))) (fun h1=> ?_)
   refine aj.bif (fun h2=>aj.const _ (GL.ret (GP.no fun hP=>by have:=(hP.2.1 i e hx).1.2.1;simp at h2;omega))) (fun h2=> ?_)
   simp at h1 h2
   refine aj.oO (l,(i:Int),(),l,(l.length:Int),(i:Int),e) (vf e) ?_ fun he=> ?_
   ·have user:∀{G:(Unit×(List dK×List dK×Int×Int→Option Bool)→Option Bool)→Prop},(¬yb l→G fun _=>some false)→(e.1=1∨e.1=2)→aj (fun k (p:Unit×(List dK×List dK×Int×Int→Option Bool))=>(c7 k e.2.1).bind fun v1=>
      (bif (!v1)then(some false:Option Bool).map .inr else some (.inl (l,(i:Int),(),l,(l.length:Int),(i:Int),e)))) (GT (l,(i:Int),(),l,(l.length:Int),(i:Int),e) (vf e) G):=fun hG ht=>by
     refine aj.bind (Ad _) (aj.bif (fun h3=> ?_) (fun h3=> ?_))
     ·refine aj.const _ (GT.inr (hG fun hP=> ?_))
      have:=(hP.2.1 i e hx).1
      simp at h3
      unfold vf at this
      omega
     ·simp at h3
      exact aj.const _ (GT.inl ⟨h1,h2,.inl ⟨ht,h3.1,h3.2⟩⟩)
    have hG:¬yb l→GL (S:=Unit) (fun(_:Unit) i=>(l,l,(l.length:Int),((i:Nat):Int))) (fun _ i=>∀j e,j<i→l[j]? =some e→vf e∧Lq l j e) i (GP (yb l)) fun _=>some false:=fun h=>GL.ret (GP.no h)
    by_cases t1:e.1=1
    ·simp only[t1,beq_self_eq_true,cond_true]
     exact user hG (.inl t1)
    ·by_cases t2:e.1=2
     ·simp only[t2,beq_self_eq_true,cond_true,show((2:Int)==1)=false from rfl,cond_false]
      exact user hG (.inr t2)
     ·by_cases t3:e.1=3
      ·simp only[t3,beq_self_eq_true,cond_true,show((3:Int)==1)=false from rfl,show((3:Int)==2)=false from rfl,cond_false]
       refine aj.bif (fun h3=> ?_) (fun h3=> ?_)
       ·refine aj.const _ (GT.inr (hG fun hP=> ?_))
        have:=(hP.2.1 i e hx).1
        simp at h3
        unfold vf at this
        omega
       ·simp at h3
        exact aj.const _ (GT.inl ⟨h1,h2,.inr ⟨t3,h3⟩⟩)
      ·have b1:(e.1==1)=false:=by simpa using t1
       have b2:(e.1==2)=false:=by simpa using t2
       have b3:(e.1==3)=false:=by simpa using t3
       simp only[b1,b2,b3,cond_false,Option.map_some]
       refine aj.const _ (GT.inr (hG fun hP=> ?_))
       have:=(hP.2.1 i e hx).1
       unfold vf at this
       omega
   ·have next:Lq l i e→∀j e,j<i+1→l[j]? =some e→vf e∧Lq l j e:=fun ho j e' hj hje=>by
     by_cases hji:j=i
     ·subst hji;rw[hx]at hje;cases hje;exact⟨he,ho⟩
     ·exact inv j e' (by omega) hje
    have hw:aa .i64 ((i:Int)+1)=((i+1:Nat):Int):=by rw[aR (by omega) (by omega)];omega
    refine aj.bif (fun h3=> ?_) (fun h3=> ?_)
    ·simp at h3
     have hw2:aa .i64 ((i:Int)-1)=((i-1:Nat):Int):=by rw[aR (by omega) (by omega)];omega
     have hp:l[i-1]? =some l[i-1]:=List.getElem?_eq_getElem (by omega)
     simp only[hw2,hw,Int.natCast_nonneg,if_true,Int.toNat_natCast,hp,Option.bind_some]
     refine aj.bind (Kj _ _) (aj.bind (Kj _ _) (aj.bind (Xt _ _) ?_))
     refine aj.bif (fun h4=> ?_) (fun h4=> ?_)
     ·refine aj.const _ (GL.ret (GP.no fun hP=> ?_))
      have:=(hP.2.1 i e hx).2 _ h3 hp
      unfold Ey at this
      simp only[decide_eq_true_eq]at h4
      split at h4<;>(try split at h4)<;>(try split at h4)<;>omega
     ·refine aj.const _ (GL.self () rfl (next fun p _ hp'=> ?_))
      rw[hp]at hp';cases hp'
      unfold Ey
      simp only[decide_eq_false_iff_not]at h4
      split at h4<;>(try split at h4)<;>(try split at h4)<;>omega
    ·simp at h3
     rw[hw]
     exact aj.const _ (GL.self () rfl (next fun p h0 _=>by omega))
  ·simp only[nY,Int.lt_irrefl,decide_false,cond_false]
   refine aj.bif (fun h3=> ?_) (fun h3=> ?_)
   ·simp at h3
    subst h3
    exact aj.const _ (GE.ret (GP.yes ⟨by simp,by simp,.inl rfl⟩))
   ·simp at h3
    have hlen:0<l.length:=List.length_pos_iff.2 h3
    have hw2:aa .i64 ((l.length:Int)-1)=((l.length-1:Nat):Int):=by rw[aR (by omega) (by omega)];omega
    have hp:l[l.length-1]? =some l[l.length-1]:=List.getElem?_eq_getElem (by omega)
    simp only[hw2,Int.natCast_nonneg,if_true,Int.toNat_natCast,hp,Option.bind_some]
    refine aj.const _ (GE.ret (GP.ret ?_))
    simp only[beq_iff_eq]
    constructor
    ·intro h4
     exact⟨by omega,fun i e hie=>inv i e (List.getElem?_eq_some_iff.1 hie).1 hie,.inr ⟨_,hp,h4⟩⟩
    ·intro hP
     rcases hP.2.2 with h4|⟨e,h4,h5⟩
     ·exact absurd h4 h3
     ·rw[hp]at h4;cases h4;exact h5
end Go.Proofs.YtmmgfgfkkpeedaaGreat

/- The tables, the residual functions and lemmas of this seat: parts of the proof of the law; conditions: those that each names. -/
import Derived.Test.YtkdcfeopelbojaaGreatDoorStd
import Derived.Test.YtkdcfeopelbojaaGreatDoorEng6
set_option linter.unusedVariables false
set_option linter.unusedSimpArgs false
set_option maxRecDepth 100000
namespace Go.Proofs.YtkdcfeopelbojaaGreatDoor
open Go.Eng
abbrev fc:=Int×(Int×Int)
abbrev az:=Int×Int×Int×Int×Int×Int×Int×List Int×List fc×List fc
abbrev MO:=Int×Int
abbrev eh:=Int×List MO×List az×List ByteArray
def ia:Nat:=4611686018427387904
theorem aV{n:Int}(h1: -9223372036854775808≤n)(h2:n<9223372036854775808):aa .i64 n=n:=wrap_i64 h1 h2
def pY(e:fc):Prop:=0≤e.2.2∧e.2.2≤7∧((e.1=1∨e.1=2)∧0≤e.2.1∧e.2.1≤3∨e.1=3∧e.2.1=0)
def AA(p e:fc):Prop:=p.1<e.1∨p.1=e.1∧p.2.1<e.2.1
def G4(l:List fc)(i:Nat)(e:fc):Prop:=∀p,0<i→l[i-1]? =some p→AA p e
def T4(l:List fc):Prop:=l=[]∨∃e,l[l.length-1]? =some e∧e.1=3
def B3(l:List fc):Prop:=l.length≤6∧(∀i e,l[i]? =some e→pY e∧G4 l i e)∧T4 l
theorem S8{f:Nat→Option Bool}{P:Prop}(h:ep f P)(hn:¬P):Ev f false:=by
 obtain⟨b,e1,e2⟩:=h
 cases b with
 |false=>exact e1
 |true=>exact absurd (e2.1 rfl) hn
theorem Ti{f:Nat→Option Bool}{P:Prop}(h:ep f P)(hp:P):Ev f true:=by
 obtain⟨b,e1,e2⟩:=h
 cases b with
 |true=>exact e1
 |false=>exact absurd (e2.2 hp) (by decide)
theorem cy(a b c:Int):Ev (fun k=>aQ k (a,b,c)) (decide (b≤a∧a≤c)):=by
 refine aw.run (fun k=>Fm k _ _ _) ?_
 simp only[FD]
 by_cases h:b≤a<;>simp[h]<;>exact aw.const _
theorem eE(a:Int):Ev (fun k=>bU k a) (decide (0≤a∧a≤3)):=by
 refine aw.run (fun k=>D1 k _) ?_
 simp only[Dg]
 have e:(a<4)=(a≤3):=propext ⟨fun h=>by omega,fun h=>by omega⟩
 by_cases h:0≤a<;>simp[h,e]<;>exact aw.const _
theorem ea(a:Int):Ev (fun k=>bD k a) (decide (0≤a∧a≤3)):=by
 refine aw.run (fun k=>CK k _) ?_
 simp only[AW]
 exact aw.bind (cy _ _ _) (aw.const _)
theorem lT(a:Int):Ev (fun k=>de k a) (decide (0≤a∧a≤2047)):=by
 refine aw.run (fun k=>Cw k _) ?_
 simp only[Bs]
 exact aw.bind (cy _ _ _) (aw.const _)
theorem wP(a:Int):Ev (fun k=>jh k a) (decide (0≤a∧a≤2047)):=by
 refine aw.run (fun k=>Eo k _) ?_
 simp only[C5]
 by_cases h:0≤a<;>simp[h]<;>exact aw.const _
theorem GW(a b:Int):Ev (fun k=>gZ k (a,b)) (if a<b then-1 else if b<a then 1 else 0):=by
 refine aw.run (fun k=>xv k _ _) ?_
 simp only[cmp_Compare_int]
 have nan:∀a:Int,Ev (fun k=>jA k a) false:=fun a=>by
  refine aw.run (fun k=>BP k _) ?_
  simp only[cmp_isNaN_int,bne_self_eq_false]
  exact aw.const _
 refine aw.bind (nan _) (aw.bind (nan _) ?_)
 by_cases h:a<b
 ·simp[h];exact aw.const _
 ·by_cases h2:b<a<;>simp[h,h2]<;>exact aw.const _
theorem Tz(a b:Int):Ev (fun k=>tc k [a,b]) (if a≠0 then a else b):=by
 refine aw.run (fun k=>EW k _) ?_
 simp only[GG]
 refine cI.ev ?_
 by_cases h:a=0
 ·subst h
  refine cI.step (d':=((0:Int),[0,b],(2:Int),(1:Int))) ?_ ?_
  ·simp[rZ,gC,aa,wrap_i64];exact aw.const _
  ·by_cases hb:b=0
   ·subst hb
    refine cI.step (d':=((0:Int),[0,0],(2:Int),(2:Int))) ?_ (cI.stop ?_)
    ·simp[rZ,gC,aa,wrap_i64];exact aw.const _
    ·simp[gC];exact aw.const _
   ·refine cI.stop ?_
    have hb':(b != 0)=true:=by simpa using hb
    simp[gC,hb'];exact aw.const _
 ·refine cI.stop ?_
  have h':(a != 0)=true:=by simpa using h
  simp[gC,h,h'];exact aw.const _
theorem kz(l:List fc):ep (fun k=>iL k l) (B3 l):=by
 refine ep.run (fun k=>Fc k l) (ep.of ?_)
 simp only[FQ]
 refine ak.bif (fun h=> ?_) (fun h=> ?_)
 ·exact ak.const _ (GP.no fun hP=>by have:=hP.1;simp at h;omega)
 ·simp only[decide_eq_false_iff_not]at h
  refine ak.list (L:=fun k _=>lZ k) l (fun(_:Unit) i=>(l,l,(l.length:Int),(i:Int))) (fun _ i=>∀j e,j<i→l[j]? =some e→pY e∧G4 l j e) (fun _ i e hx hi inv=> ?_) (fun _ inv=> ?_) () (by simp)
  ·simp only[lZ,Int.ofNat_lt,hi,decide_true,cond_true,Int.natCast_nonneg,if_true,Int.toNat_natCast,hx,Option.bind_some]
   refine ak.bif (fun h1=>ak.const _ (GL.ret (GP.no fun hP=>by have:=(hP.2.1 i e hx).1.1;simp at h1;omega))) (fun h1=> ?_)
   refine ak.bif (fun h2=>ak.const _ (GL.ret (GP.no fun hP=>by have:=(hP.2.1 i e hx).1.2.1;simp at h2;omega))) (fun h2=> ?_)
   simp at h1 h2
   refine ak.jm (l,(i:Int),(),l,(l.length:Int),(i:Int),e) (pY e) ?_ fun he=> ?_
   ·have user:∀{G:(Unit×(List fc×List fc×Int×Int→Option Bool)→Option Bool)→Prop},(¬B3 l→G fun _=>some false)→(e.1=1∨e.1=2)→ak (fun k (p:Unit×(List fc×List fc×Int×Int→Option Bool))=>(bU k e.2.1).bind fun v1=>
      (bif (!v1)then(some false:Option Bool).map .inr else some (.inl (l,(i:Int),(),l,(l.length:Int),(i:Int),e)))) (GT (l,(i:Int),(),l,(l.length:Int),(i:Int),e) (pY e) G):=fun hG ht=>by
     refine ak.bind (eE _) (ak.bif (fun h3=> ?_) (fun h3=> ?_))
     ·refine ak.const _ (GT.inr (hG fun hP=> ?_))
      have:=(hP.2.1 i e hx).1
      simp at h3
      unfold pY at this
      omega
     ·simp at h3
      exact ak.const _ (GT.inl ⟨h1,h2,.inl ⟨ht,h3.1,h3.2⟩⟩)
    have hG:¬B3 l→GL (S:=Unit) (fun(_:Unit) i=>(l,l,(l.length:Int),((i:Nat):Int))) (fun _ i=>∀j e,j<i→l[j]? =some e→pY e∧G4 l j e) i (GP (B3 l)) fun _=>some false:=fun h=>GL.ret (GP.no h)
    by_cases t1:e.1=1
    ·simp only[t1,beq_self_eq_true,cond_true]
     exact user hG (.inl t1)
    ·by_cases t2:e.1=2
     ·simp only[t2,beq_self_eq_true,cond_true,show((2:Int)==1)=false from rfl,cond_false]
      exact user hG (.inr t2)
     ·by_cases t3:e.1=3
      ·simp only[t3,beq_self_eq_true,cond_true,show((3:Int)==1)=false from rfl,show((3:Int)==2)=false from rfl,cond_false]
       refine ak.bif (fun h3=> ?_) (fun h3=> ?_)
       ·refine ak.const _ (GT.inr (hG fun hP=> ?_))
        have:=(hP.2.1 i e hx).1
        simp at h3
        unfold pY at this
        omega
       ·simp at h3
        exact ak.const _ (GT.inl ⟨h1,h2,.inr ⟨t3,h3⟩⟩)
      ·have b1:(e.1==1)=false:=by simpa using t1
       have b2:(e.1==2)=false:=by simpa using t2
       have b3:(e.1==3)=false:=by simpa using t3
       simp only[b1,b2,b3,cond_false,Option.map_some]
       refine ak.const _ (GT.inr (hG fun hP=> ?_))
       have:=(hP.2.1 i e hx).1
       unfold pY at this
       omega
   ·have next:G4 l i e→∀j e,j<i+1→l[j]? =some e→pY e∧G4 l j e:=fun ho j e' hj hje=>by
     by_cases hji:j=i
     ·subst hji;rw[hx]at hje;cases hje;exact⟨he,ho⟩
     ·exact inv j e' (by omega) hje
    have hw:aa .i64 ((i:Int)+1)=((i+1:Nat):Int):=by rw[aV (by omega) (by omega)];omega
    refine ak.bif (fun h3=> ?_) (fun h3=> ?_)
    ·simp at h3
     have hw2:aa .i64 ((i:Int)-1)=((i-1:Nat):Int):=by rw[aV (by omega) (by omega)];omega
     have hp:l[i-1]? =some l[i-1]:=List.getElem?_eq_getElem (by omega)
     simp only[hw2,hw,Int.natCast_nonneg,if_true,Int.toNat_natCast,hp,Option.bind_some]
     refine ak.bind (GW _ _) (ak.bind (GW _ _) (ak.bind (Tz _ _) ?_))
     refine ak.bif (fun h4=> ?_) (fun h4=> ?_)
     ·refine ak.const _ (GL.ret (GP.no fun hP=> ?_))
      have:=(hP.2.1 i e hx).2 _ h3 hp
      unfold AA at this
      simp only[decide_eq_true_eq]at h4
      split at h4<;>(try split at h4)<;>(try split at h4)<;>omega
     ·refine ak.const _ (GL.self () rfl (next fun p _ hp'=> ?_))
      rw[hp]at hp';cases hp'
      unfold AA
      simp only[decide_eq_false_iff_not]at h4
      split at h4<;>(try split at h4)<;>(try split at h4)<;>omega
    ·simp at h3
     rw[hw]
     exact ak.const _ (GL.self () rfl (next fun p h0 _=>by omega))
  ·simp only[lZ,Int.lt_irrefl,decide_false,cond_false]
   refine ak.bif (fun h3=> ?_) (fun h3=> ?_)
   ·simp at h3
    subst h3
    exact ak.const _ (GE.ret (GP.yes ⟨by simp,by simp,.inl rfl⟩))
   ·simp at h3
    have hlen:0<l.length:=List.length_pos_iff.2 h3
    have hw2:aa .i64 ((l.length:Int)-1)=((l.length-1:Nat):Int):=by rw[aV (by omega) (by omega)];omega
    have hp:l[l.length-1]? =some l[l.length-1]:=List.getElem?_eq_getElem (by omega)
    simp only[hw2,Int.natCast_nonneg,if_true,Int.toNat_natCast,hp,Option.bind_some]
    refine ak.const _ (GE.ret (GP.ret ?_))
    simp only[beq_iff_eq]
    constructor
    ·intro h4
     exact⟨by omega,fun i e hie=>inv i e (List.getElem?_eq_some_iff.1 hie).1 hie,.inr ⟨_,hp,h4⟩⟩
    ·intro hP
     rcases hP.2.2 with h4|⟨e,h4,h5⟩
     ·exact absurd h4 h3
     ·rw[hp]at h4;cases h4;exact h5
end Go.Proofs.YtkdcfeopelbojaaGreatDoor

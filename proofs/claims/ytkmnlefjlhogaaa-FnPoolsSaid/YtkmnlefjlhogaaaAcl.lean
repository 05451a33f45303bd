/- The tables, the residual functions and lemmas of this seat: parts of the proof of the law; conditions: those that each names. -/
import Derived.Test.YtkmnlefjlhogaaaStd
import Derived.Test.YtkmnlefjlhogaaaEng5
set_option linter.unusedVariables false
set_option linter.unusedSimpArgs false
set_option maxRecDepth 100000
namespace Go.Proofs.Ytkmnlefjlhogaaa
open Go.Eng
abbrev PAcl:=Int×(Int×Int)
abbrev PInode:=Int×Int×Int×Int×Int×Int×Int×List Int×List PAcl×List PAcl
abbrev PQuota:=Int×Int
abbrev PFS:=Int×List PQuota×List PInode×List ByteArray
def big:Nat:=4611686018427387904
theorem i64w{n:Int}(h1: -9223372036854775808≤n)(h2:n<9223372036854775808):wrapK .i64 n=n:=wrap_i64 h1 h2
def entP(e:PAcl):Prop:=0≤e.2.2∧e.2.2≤7∧((e.1=1∨e.1=2)∧0≤e.2.1∧e.2.1≤3∨e.1=3∧e.2.1=0)
def lessP(p e:PAcl):Prop:=p.1<e.1∨p.1=e.1∧p.2.1<e.2.1
def ordP(l:List PAcl)(i:Nat)(e:PAcl):Prop:=∀p,0<i→l[i-1]? =some p→lessP p e
def endP(l:List PAcl):Prop:=l=[]∨∃e,l[l.length-1]? =some e∧e.1=3
def aclP(l:List PAcl):Prop:=l.length≤6∧(∀i e,l[i]? =some e→entP e∧ordP l i e)∧endP l
theorem say_false{f:Nat→Option Bool}{P:Prop}(h:Say f P)(hn:¬P):Ev f false:=by
 obtain⟨b,e1,e2⟩:=h
 cases b with
 |false=>exact e1
 |true=>exact absurd (e2.1 rfl) hn
theorem say_true{f:Nat→Option Bool}{P:Prop}(h:Say f P)(hp:P):Ev f true:=by
 obtain⟨b,e1,e2⟩:=h
 cases b with
 |true=>exact e1
 |false=>exact absurd (e2.2 hp) (by decide)
theorem l01In_ev(a b c:Int):Ev (fun k=>c_spec_l01In k (a,b,c)) (decide (b≤a∧a≤c)):=by
 refine EvQ.run (fun k=>spec_l01In_run k _ _ _) ?_
 simp only[spec_l01In]
 by_cases h:b≤a<;>simp[h]<;>exact EvQ.const _
theorem isUser_ev(a:Int):Ev (fun k=>c_impl_isUser k a) (decide (0≤a∧a≤3)):=by
 refine EvQ.run (fun k=>impl_isUser_run k _) ?_
 simp only[impl_isUser]
 have e:(a<4)=(a≤3):=propext ⟨fun h=>by omega,fun h=>by omega⟩
 by_cases h:0≤a<;>simp[h,e]<;>exact EvQ.const _
theorem l06User_ev(a:Int):Ev (fun k=>c_spec_l06User k a) (decide (0≤a∧a≤3)):=by
 refine EvQ.run (fun k=>spec_l06User_run k _) ?_
 simp only[spec_l06User]
 exact EvQ.bind (l01In_ev _ _ _) (EvQ.const _)
theorem l06Mode_ev(a:Int):Ev (fun k=>c_spec_l06Mode k a) (decide (0≤a∧a≤2047)):=by
 refine EvQ.run (fun k=>spec_l06Mode_run k _) ?_
 simp only[spec_l06Mode]
 exact EvQ.bind (l01In_ev _ _ _) (EvQ.const _)
theorem isMode_ev(a:Int):Ev (fun k=>c_impl_isMode k a) (decide (0≤a∧a≤2047)):=by
 refine EvQ.run (fun k=>impl_isMode_run k _) ?_
 simp only[impl_isMode]
 by_cases h:0≤a<;>simp[h]<;>exact EvQ.const _
theorem Compare_ev(a b:Int):Ev (fun k=>c_cmp_Compare_int k (a,b)) (if a<b then-1 else if b<a then 1 else 0):=by
 refine EvQ.run (fun k=>cmp_Compare_int_run k _ _) ?_
 simp only[cmp_Compare_int]
 have nan:∀a:Int,Ev (fun k=>c_cmp_isNaN_int k a) false:=fun a=>by
  refine EvQ.run (fun k=>cmp_isNaN_int_run k _) ?_
  simp only[cmp_isNaN_int,bne_self_eq_false]
  exact EvQ.const _
 refine EvQ.bind (nan _) (EvQ.bind (nan _) ?_)
 by_cases h:a<b
 ·simp[h];exact EvQ.const _
 ·by_cases h2:b<a<;>simp[h,h2]<;>exact EvQ.const _
theorem Or_ev(a b:Int):Ev (fun k=>c_cmp_Or_int k [a,b]) (if a≠0 then a else b):=by
 refine EvQ.run (fun k=>cmp_Or_int_run k _) ?_
 simp only[cmp_Or_int]
 refine EvL.ev ?_
 by_cases h:a=0
 ·subst h
  refine EvL.step (d':=((0:Int),[0,b],(2:Int),(1:Int))) ?_ ?_
  ·simp[EvS,cmp_Or_int_l1,wrapK,wrap_i64];exact EvQ.const _
  ·by_cases hb:b=0
   ·subst hb
    refine EvL.step (d':=((0:Int),[0,0],(2:Int),(2:Int))) ?_ (EvL.stop ?_)
    ·simp[EvS,cmp_Or_int_l1,wrapK,wrap_i64];exact EvQ.const _
    ·simp[cmp_Or_int_l1];exact EvQ.const _
   ·refine EvL.stop ?_
    have hb':(b != 0)=true:=by simpa using hb
    simp[cmp_Or_int_l1,hb'];exact EvQ.const _
 ·refine EvL.stop ?_
  have h':(a != 0)=true:=by simpa using h
  simp[cmp_Or_int_l1,h,h'];exact EvQ.const _
theorem impl_IsAcl_say(l:List PAcl):Say (fun k=>c_impl_IsAcl k l) (aclP l):=by
 refine Say.run (fun k=>impl_IsAcl_run k l) (Say.of ?_)
 simp only[impl_IsAcl]
 refine EvX.bif (fun h=> ?_) (fun h=> ?_)
 ·exact EvX.const _ (GP.no fun hP=>by have:=hP.1;simp at h;omega)
 ·simp only[decide_eq_false_iff_not]at h
  refine EvX.list (L:=fun k _=>impl_IsAcl_l1 k) l (fun(_:Unit) i=>(l,l,(l.length:Int),(i:Int))) (fun _ i=>∀j e,j<i→l[j]? =some e→entP e∧ordP l j e) (fun _ i e hx hi inv=> ?_) (fun _ inv=> ?_) () (by simp)
  ·simp only[impl_IsAcl_l1,Int.ofNat_lt,hi,decide_true,cond_true,Int.natCast_nonneg,if_true,Int.toNat_natCast,hx,Option.bind_some]
   refine EvX.bif (fun h1=>EvX.const _ (GL.ret (GP.no fun hP=>by have:=(hP.2.1 i e hx).1.1;simp at h1;omega))) (fun h1=> ?_)
   refine EvX.bif (fun h2=>EvX.const _ (GL.ret (GP.no fun hP=>by have:=(hP.2.1 i e hx).1.2.1;simp at h2;omega))) (fun h2=> ?_)
   simp at h1 h2
   refine EvX.joinT (l,(i:Int),(),l,(l.length:Int),(i:Int),e) (entP e) ?_ fun he=> ?_
   ·have user:∀{G:(Unit×(List PAcl×List PAcl×Int×Int→Option Bool)→Option Bool)→Prop},(¬aclP l→G fun _=>some false)→(e.1=1∨e.1=2)→EvX (fun k (p:Unit×(List PAcl×List PAcl×Int×Int→Option Bool))=>(c_impl_isUser k e.2.1).bind fun v1=>
      (bif (!v1)then(some false:Option Bool).map .inr else some (.inl (l,(i:Int),(),l,(l.length:Int),(i:Int),e)))) (GT (l,(i:Int),(),l,(l.length:Int),(i:Int),e) (entP e) G):=fun hG ht=>by
     refine EvX.bind (isUser_ev _) (EvX.bif (fun h3=> ?_) (fun h3=> ?_))
     ·refine EvX.const _ (GT.inr (hG fun hP=> ?_))
      have:=(hP.2.1 i e hx).1
      simp at h3
      unfold entP at this
      omega
     ·simp at h3
      exact EvX.const _ (GT.inl ⟨h1,h2,.inl ⟨ht,h3.1,h3.2⟩⟩)
    have hG:¬aclP l→GL (S:=Unit) (fun(_:Unit) i=>(l,l,(l.length:Int),((i:Nat):Int))) (fun _ i=>∀j e,j<i→l[j]? =some e→entP e∧ordP l j e) i (GP (aclP l)) fun _=>some false:=fun h=>GL.ret (GP.no h)
    by_cases t1:e.1=1
    ·simp only[t1,beq_self_eq_true,cond_true]
     exact user hG (.inl t1)
    ·by_cases t2:e.1=2
     ·simp only[t2,beq_self_eq_true,cond_true,show((2:Int)==1)=false from rfl,cond_false]
      exact user hG (.inr t2)
     ·by_cases t3:e.1=3
      ·simp only[t3,beq_self_eq_true,cond_true,show((3:Int)==1)=false from rfl,show((3:Int)==2)=false from rfl,cond_false]
       refine EvX.bif (fun h3=> ?_) (fun h3=> ?_)
       ·refine EvX.const _ (GT.inr (hG fun hP=> ?_))
        have:=(hP.2.1 i e hx).1
        simp at h3
        unfold entP at this
        omega
       ·simp at h3
        exact EvX.const _ (GT.inl ⟨h1,h2,.inr ⟨t3,h3⟩⟩)
      ·have b1:(e.1==1)=false:=by simpa using t1
       have b2:(e.1==2)=false:=by simpa using t2
       have b3:(e.1==3)=false:=by simpa using t3
       simp only[b1,b2,b3,cond_false,Option.map_some]
       refine EvX.const _ (GT.inr (hG fun hP=> ?_))
       have:=(hP.2.1 i e hx).1
       unfold entP at this
       omega
   ·have next:ordP l i e→∀j e,j<i+1→l[j]? =some e→entP e∧ordP l j e:=fun ho j e' hj hje=>by
     by_cases hji:j=i
     ·subst hji;rw[hx]at hje;cases hje;exact⟨he,ho⟩
     ·exact inv j e' (by omega) hje
    have hw:wrapK .i64 ((i:Int)+1)=((i+1:Nat):Int):=by rw[i64w (by omega) (by omega)];omega
    refine EvX.bif (fun h3=> ?_) (fun h3=> ?_)
    ·simp at h3
     have hw2:wrapK .i64 ((i:Int)-1)=((i-1:Nat):Int):=by rw[i64w (by omega) (by omega)];omega
     have hp:l[i-1]? =some l[i-1]:=List.getElem?_eq_getElem (by omega)
     simp only[hw2,hw,Int.natCast_nonneg,if_true,Int.toNat_natCast,hp,Option.bind_some]
     refine EvX.bind (Compare_ev _ _) (EvX.bind (Compare_ev _ _) (EvX.bind (Or_ev _ _) ?_))
     refine EvX.bif (fun h4=> ?_) (fun h4=> ?_)
     ·refine EvX.const _ (GL.ret (GP.no fun hP=> ?_))
      have:=(hP.2.1 i e hx).2 _ h3 hp
      unfold lessP at this
      simp only[decide_eq_true_eq]at h4
      split at h4<;>(try split at h4)<;>(try split at h4)<;>omega
     ·refine EvX.const _ (GL.self () rfl (next fun p _ hp'=> ?_))
      rw[hp]at hp';cases hp'
      unfold lessP
      simp only[decide_eq_false_iff_not]at h4
      split at h4<;>(try split at h4)<;>(try split at h4)<;>omega
    ·simp at h3
     rw[hw]
     exact EvX.const _ (GL.self () rfl (next fun p h0 _=>by omega))
  ·simp only[impl_IsAcl_l1,Int.lt_irrefl,decide_false,cond_false]
   refine EvX.bif (fun h3=> ?_) (fun h3=> ?_)
   ·simp at h3
    subst h3
    exact EvX.const _ (GE.ret (GP.yes ⟨by simp,by simp,.inl rfl⟩))
   ·simp at h3
    have hlen:0<l.length:=List.length_pos_iff.2 h3
    have hw2:wrapK .i64 ((l.length:Int)-1)=((l.length-1:Nat):Int):=by rw[i64w (by omega) (by omega)];omega
    have hp:l[l.length-1]? =some l[l.length-1]:=List.getElem?_eq_getElem (by omega)
    simp only[hw2,Int.natCast_nonneg,if_true,Int.toNat_natCast,hp,Option.bind_some]
    refine EvX.const _ (GE.ret (GP.ret ?_))
    simp only[beq_iff_eq]
    constructor
    ·intro h4
     exact⟨by omega,fun i e hie=>inv i e (List.getElem?_eq_some_iff.1 hie).1 hie,.inr ⟨_,hp,h4⟩⟩
    ·intro hP
     rcases hP.2.2 with h4|⟨e,h4,h5⟩
     ·exact absurd h4 h3
     ·rw[hp]at h4;cases h4;exact h5
end Go.Proofs.Ytkmnlefjlhogaaa

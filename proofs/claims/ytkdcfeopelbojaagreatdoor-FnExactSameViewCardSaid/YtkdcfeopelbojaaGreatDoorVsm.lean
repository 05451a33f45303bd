/- The tables, the residual functions and lemmas of this seat: parts of the proof of the law; conditions: those that each names. -/
import Derived.Test.YtkdcfeopelbojaaGreatDoorViw
set_option linter.unusedVariables false
set_option linter.unusedSimpArgs false
set_option maxRecDepth 100000
namespace Go.Proofs.YtkdcfeopelbojaaGreatDoor
open Go.Eng
section
variable {f:dV} {c:cq}
theorem JH{u:List Bool}(hu:Ev (fun k=>fT k (f,c)) u)(hl:u.length=20):Ev (fun k=>kv k (f,c)) (jy u 20):=by
 refine ax.run (fun k=>wV k _ _) (r:=some (jy u 20)) ?_
 simp only[tI]
 refine ax.bind hu (cZ.ev ?_)
 have:=cZ.count (L:=fE) (r:=jy u 20) (fun i=>(jy u i,u,(u.length:Int),(i:Int))) 20 (fun i hi=> ?_) (cZ.stop ?_)
 ·simpa[jy]using this
 ·have hx:u[i]? =some u[i]:=List.getElem?_eq_getElem (by omega)
  have hv:=zW u i
  have hcap:((jy u i).length+([(i:Int)]:List Int).length)*8≤au:=by simp only[List.length_singleton,au];omega
  have e:jy u (i+1)=bif u[i]then jy u i++[(i:Int)]else jy u i:=by
   simp only[jy,hx];cases u[i]<;>rfl
  simp only[wK,fE,show(i:Int)<(u.length:Int)by omega,decide_true,cond_true,Int.natCast_nonneg,if_true,Int.toNat_natCast,hx,Option.bind_some,wS i,hcap,e]
  cases u[i]<;>simp only[cond_true,cond_false]<;>exact ax.const _
 ·simp only[fE,show ¬((20:Nat):Int)<(u.length:Int)by omega,decide_false,cond_false]
  exact ax.const _
theorem J1{u:List Bool}(hF:Ev (fun k=>fy k f) true)(hC:Ev (fun k=>eT k c) true)(hu:Ev (fun k=>eJ k (some f,c)) u)(hl:u.length=20):Ev (fun k=>gZ k (f,c)) (jy u 20):=by
 refine ax.run (fun k=>rW k _ _) (r:=some (jy u 20)) ?_
 simp only[nX]
 refine ax.bind hF (ax.bind hC (ax.bind hu (cZ.ev ?_)))
 have:=cZ.count (L:=ep) (r:=jy u 20) (fun i=>(jy u i,u,(i:Int))) 20 (fun i hi=> ?_) (cZ.stop ?_)
 ·simpa[jy]using this
 ·have hx:u[i]? =some u[i]:=List.getElem?_eq_getElem (by omega)
  have hv:=zW u i
  have hcap:((jy u i).length+([(i:Int)]:List Int).length)*8≤au:=by simp only[List.length_singleton,au];omega
  have e:jy u (i+1)=bif u[i]then jy u i++[(i:Int)]else jy u i:=by
   simp only[jy,hx];cases u[i]<;>rfl
  simp only[wK,ep,show(i:Int)<20 by omega,decide_true,cond_true,Int.natCast_nonneg,if_true,Int.toNat_natCast,hx,Option.bind_some,wS i,hcap,e]
  cases u[i]<;>simp only[cond_true,cond_false]<;>exact ax.const _
 ·simp only[ep,show ¬((20:Nat):Int)<20 by omega,decide_false,cond_false]
  exact ax.const _
theorem HM(hs:cJ f)(hb:∀s∈fD f,s.size<fu)(hc:c.2.2.length<fu):∃r:List ByteArray,Ev (fun k=>lX k (f,c)) r∧Ev (fun k=>lT k (f,c)) r∧r.length≤21∧∀x∈r,x.size≤60000:=by
 obtain⟨b,e1,e2,e3⟩:=(lW f hs).same (mc f hs hb)
 obtain⟨b',f1,f2,f3⟩:=(mT c hc).same (mK c hc)
 by_cases hbb:b=true∧b'=true
 ·obtain⟨rfl,rfl⟩:=hbb
  have hP:=e3.1 rfl
  have hC:=f3.1 rfl
  obtain⟨u,g1,g0⟩:=sV (c:=c) hP hs hc
  obtain⟨v,g2,g3⟩:=xM (c:=c) hP hs hc
  have huv:u=v:=Ki g0 g3
  subst huv
  obtain⟨t,t1,t2,t3⟩:=KX f c.1 hs hb
  have hm:∀x∈jy u 20,0≤x∧x<20∧Ay f x:=fun x hx=>by
   obtain⟨a,a',a''⟩:=Fk g0 20 (Nat.le_refl _) x hx
   exact⟨a,a',NZ hP a''⟩
  have hl:=zW u 20
  refine⟨px f c (jy u 20) (jy u 20).length++[(⟨#[117,115,97,103,101,32]⟩:ByteArray)++t],ax.run (fun k=>tO k _ _) ?_,ax.run (fun k=>s7 k _ _) ?_, ?_, ?_⟩
  ·simp only[vD]
   exact ax.bind e2 (ax.bind f2 (ax.bind (JH g2 g0.1) (FX hP hs hc hl hm t1 t3)))
  ·simp only[vq]
   exact ax.bind e1 (ax.bind f1 (ax.bind (J1 e1 f1 g1 g0.1) (E9 hP hs hc hl hm t2 t3)))
  ·have:=uv f c hl (jy u 20).length
   rw[List.length_append,List.length_singleton];omega
  ·intro x hx
   rcases List.mem_append.1 hx with hx|hx
   ·simp only[px,List.take_length,List.mem_map]at hx
    obtain⟨y,hy,rfl⟩:=hx
    obtain⟨a,a',a''⟩:=hm y hy
    exact(BN hP a a' a'').1
   ·rw[List.mem_singleton]at hx
    subst hx
    rw[aF]
    show 6+_≤_
    omega
 ·refine⟨[],ax.run (fun k=>tO k _ _) ?_,ax.run (fun k=>s7 k _ _) ?_,Nat.zero_le _,fun x hx=>by simp at hx⟩
  ·simp only[vD]
   refine ax.bind e2 ?_
   cases b with
   |false=>exact ax.const _
   |true=>
   refine ax.bind f2 ?_
   cases b' with
   |false=>exact ax.const _
   |true=>exact absurd ⟨rfl,rfl⟩ hbb
  ·simp only[vq]
   refine ax.bind e1 ?_
   cases b with
   |false=>exact ax.const _
   |true=>
   refine ax.bind f1 ?_
   cases b' with
   |false=>exact ax.const _
   |true=>exact absurd ⟨rfl,rfl⟩ hbb
end
end Go.Proofs.YtkdcfeopelbojaaGreatDoor

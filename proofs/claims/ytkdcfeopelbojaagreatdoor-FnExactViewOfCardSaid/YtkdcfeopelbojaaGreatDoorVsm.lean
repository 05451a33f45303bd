/- The tables, the residual functions and lemmas of this seat: parts of the proof of the law; conditions: those that each names. -/
import Derived.Test.YtkdcfeopelbojaaGreatDoorViw
set_option linter.unusedVariables false
set_option linter.unusedSimpArgs false
set_option maxRecDepth 100000
namespace Go.Proofs.YtkdcfeopelbojaaGreatDoor
open Go.Eng
section
variable {f:eh} {c:cw}
theorem Ke{u:List Bool}(hu:Ev (fun k=>fY k (f,c)) u)(hl:u.length=20):Ev (fun k=>kY k (f,c)) (jR u 20):=by
 refine aw.run (fun k=>xG k _ _) (r:=some (jR u 20)) ?_
 simp only[tE]
 refine aw.bind hu (cI.ev ?_)
 have:=cI.count (L:=fG) (r:=jR u 20) (fun i=>(jR u i,u,(u.length:Int),(i:Int))) 20 (fun i hi=> ?_) (cI.stop ?_)
 ·simpa[jR]using this
 ·have hx:u[i]? =some u[i]:=List.getElem?_eq_getElem (by omega)
  have hv:=AL u i
  have hcap:((jR u i).length+([(i:Int)]:List Int).length)*8≤au:=by simp only[List.length_singleton,au];omega
  have e:jR u (i+1)=bif u[i]then jR u i++[(i:Int)]else jR u i:=by
   simp only[jR,hx];cases u[i]<;>rfl
  simp only[rZ,fG,show(i:Int)<(u.length:Int)by omega,decide_true,cond_true,Int.natCast_nonneg,if_true,Int.toNat_natCast,hx,Option.bind_some,wS i,hcap,e]
  cases u[i]<;>simp only[cond_true,cond_false]<;>exact aw.const _
 ·simp only[fG,show ¬((20:Nat):Int)<(u.length:Int)by omega,decide_false,cond_false]
  exact aw.const _
theorem KK{u:List Bool}(hF:Ev (fun k=>kf k f) true)(hC:Ev (fun k=>gB k c) true)(hu:Ev (fun k=>eK k (some f,c)) u)(hl:u.length=20):Ev (fun k=>ik k (f,c)) (jR u 20):=by
 refine aw.run (fun k=>sL k _ _) (r:=some (jR u 20)) ?_
 simp only[oE]
 refine aw.bind hF (aw.bind hC (aw.bind hu (cI.ev ?_)))
 have:=cI.count (L:=ek) (r:=jR u 20) (fun i=>(jR u i,u,(i:Int))) 20 (fun i hi=> ?_) (cI.stop ?_)
 ·simpa[jR]using this
 ·have hx:u[i]? =some u[i]:=List.getElem?_eq_getElem (by omega)
  have hv:=AL u i
  have hcap:((jR u i).length+([(i:Int)]:List Int).length)*8≤au:=by simp only[List.length_singleton,au];omega
  have e:jR u (i+1)=bif u[i]then jR u i++[(i:Int)]else jR u i:=by
   simp only[jR,hx];cases u[i]<;>rfl
  simp only[rZ,ek,show(i:Int)<20 by omega,decide_true,cond_true,Int.natCast_nonneg,if_true,Int.toNat_natCast,hx,Option.bind_some,wS i,hcap,e]
  cases u[i]<;>simp only[cond_true,cond_false]<;>exact aw.const _
 ·simp only[ek,show ¬((20:Nat):Int)<20 by omega,decide_false,cond_false]
  exact aw.const _
theorem OC(hs:cY f)(hb:∀s∈fD f,s.size<ia)(hc:c.2.2.length<ia):∃r:List ByteArray,Ev (fun k=>qo k (f,c)) r∧Ev (fun k=>mm k (f,c)) r∧r.length≤21∧∀x∈r,x.size≤60000:=by
 obtain⟨b,e1,e2,e3⟩:=(yO f hs).same (xS f hs hb)
 obtain⟨b',f1,f2,f3⟩:=(tQ c hc).same (tH c hc)
 by_cases hbb:b=true∧b'=true
 ·obtain⟨rfl,rfl⟩:=hbb
  have hP:=e3.1 rfl
  have hC:=f3.1 rfl
  obtain⟨u,g1,g0⟩:=tA (c:=c) hP hs hc
  obtain⟨v,g2,g3⟩:=yW (c:=c) hP hs hc
  have huv:u=v:=KO g0 g3
  subst huv
  obtain⟨t,t1,t2,t3⟩:=LM f c.1 hs hb
  have hm:∀x∈jR u 20,0≤x∧x<20∧Az f x:=fun x hx=>by
   obtain⟨a,a',a''⟩:=Gb g0 20 (Nat.le_refl _) x hx
   exact⟨a,a',OK hP a''⟩
  have hl:=AL u 20
  refine⟨o8 f c (jR u 20) (jR u 20).length++[(⟨#[117,115,97,103,101,32]⟩:ByteArray)++t],aw.run (fun k=>tS k _ _) ?_,aw.run (fun k=>tz k _ _) ?_, ?_, ?_⟩
  ·simp only[uN]
   exact aw.bind e2 (aw.bind f2 (aw.bind (Ke g2 g0.1) (Gx hP hs hc hl hm t1 t3)))
  ·simp only[u0]
   exact aw.bind e1 (aw.bind f1 (aw.bind (KK e1 f1 g1 g0.1) (Gj hP hs hc hl hm t2 t3)))
  ·have:=vM f c hl (jR u 20).length
   rw[List.length_append,List.length_singleton];omega
  ·intro x hx
   rcases List.mem_append.1 hx with hx|hx
   ·simp only[o8,List.take_length,List.mem_map]at hx
    obtain⟨y,hy,rfl⟩:=hx
    obtain⟨a,a',a''⟩:=hm y hy
    exact(CV hP a a' a'').1
   ·rw[List.mem_singleton]at hx
    subst hx
    rw[aG]
    show 6+_≤_
    omega
 ·refine⟨[],aw.run (fun k=>tS k _ _) ?_,aw.run (fun k=>tz k _ _) ?_,Nat.zero_le _,fun x hx=>by simp at hx⟩
  ·simp only[uN]
   refine aw.bind e2 ?_
   cases b with
   |false=>exact aw.const _
   |true=>
   refine aw.bind f2 ?_
   cases b' with
   |false=>exact aw.const _
   |true=>exact absurd ⟨rfl,rfl⟩ hbb
  ·simp only[u0]
   refine aw.bind e1 ?_
   cases b with
   |false=>exact aw.const _
   |true=>
   refine aw.bind f1 ?_
   cases b' with
   |false=>exact aw.const _
   |true=>exact absurd ⟨rfl,rfl⟩ hbb
end
end Go.Proofs.YtkdcfeopelbojaaGreatDoor

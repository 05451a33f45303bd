/- The tables, the residual functions and lemmas of this seat: parts of the proof of the law; conditions: those that each names. -/
import Derived.Test.YtkdcfeopelbojaaGreatDoorVsm
set_option linter.unusedVariables false
set_option linter.unusedSimpArgs false
set_option maxRecDepth 100000
namespace Go.Proofs.YtkdcfeopelbojaaGreatDoor
open Go.Eng
theorem GO(a b:List ByteArray)(hl:a.length<fu):dB (fun k=>dq k (a,b)) (a=b):=by
 refine dB.run (fun k=>ly k a b) (dB.of ?_)
 simp only[gY]
 refine ak.bif (fun h=>ak.const _ (GP.no (BY h))) (fun h=> ?_)
 exact dB.iter (nI Cl fg (L:=cp) a b (fun i=>(a,b,(a.length:Int),(i:Int))) (fun k self i x y hx hy hi _ hw=>by
  simp only[cp,Int.ofNat_lt,hi,decide_true,cond_true,Int.natCast_nonneg,if_true,Int.toNat_natCast,hx,hy,Option.bind_some,hw]) (fun k self=>by
  simp only[cp,Int.lt_irrefl,decide_false,cond_false]) (Bt h) hl)
theorem NU(a b:List ByteArray)(hl:a.length<fu):dB (fun k=>mX k (a,b)) (a=b):=by
 refine dB.run (fun k=>A4 k a b) (dB.of ?_)
 simp only[xI]
 refine ak.bif (fun h=>ak.const _ (GP.no (BY h))) (fun h=> ?_)
 exact dB.iter (nI Cl fg (L:=iR) a b (fun i=>(b,a,(a.length:Int),(i:Int))) (fun k self i x y hx hy hi _ hw=>by
  simp only[iR,Int.ofNat_lt,hi,decide_true,cond_true,Int.natCast_nonneg,if_true,Int.toNat_natCast,hx,hy,Option.bind_some,hw]) (fun k self=>by
  simp only[iR,Int.lt_irrefl,decide_false,cond_false]) (Bt h) hl)
theorem KF{f g:dV}{c:cq}(hs:cJ f)(hb:∀s∈fD f,s.size<fu)(hs':cJ g)(hb':∀s∈fD g,s.size<fu)(hc:c.2.2.length<fu):∃b:Bool,Ev (fun k=>mQ k (f,g,c)) b∧Ev (fun k=>mJ k (f,g,c)) b:=by
 obtain⟨a1,e1,e2,e3⟩:=(lW f hs).same (mc f hs hb)
 obtain⟨a2,f1,f2,f3⟩:=(lW g hs').same (mc g hs' hb')
 obtain⟨a3,g1,g2,g3⟩:=(mT c hc).same (mK c hc)
 obtain⟨r,r1,r2,r3,_⟩:=HM (c:=c) hs hb hc
 obtain⟨s,s1,s2,s3,_⟩:=HM (c:=c) hs' hb' hc
 have hl:r.length<fu:=by unfold fu;omega
 obtain⟨q,q1,q2,_⟩:=(GO r s hl).same (NU r s hl)
 refine⟨a1&&(a2&&(a3&&q)),ax.run (fun k=>zE k _ _ _) ?_,ax.run (fun k=>zz k _ _ _) ?_⟩
 ·simp only[yc]
  refine ax.bind e2 ?_
  cases a1 with
  |false=>exact ax.const _
  |true=>
  refine ax.bind f2 ?_
  cases a2 with
  |false=>exact ax.const _
  |true=>
  refine ax.bind g2 ?_
  cases a3 with
  |false=>exact ax.const _
  |true=>exact ax.bind r1 (ax.bind s1 (ax.bind q2 (ax.const _)))
 ·simp only[yh]
  refine ax.bind e1 ?_
  cases a1 with
  |false=>exact ax.const _
  |true=>
  refine ax.bind f1 ?_
  cases a2 with
  |false=>exact ax.const _
  |true=>
  refine ax.bind g1 ?_
  cases a3 with
  |false=>exact ax.const _
  |true=>exact ax.bind r2 (ax.bind s2 (ax.bind q1 (ax.const _)))
theorem qx(x0:bW)(x1:bW)(x2:aS)(hx0:F8 (dX) x0)(hx1:F8 (dX) x1)(hx2:F8 (df) x2):Ev (fun k=>ky k (x0,x1,x2)) true:=by
 refine ax.run (fun k=>pQ k x0 x1 x2) ?_
 simp only[mC]
 refine ax.bind (Mi x0 hx0 (left:=1048576) (by omega) (by omega)) ?_
 by_cases c0:iY (iT x0) 1048576<0
 ·simp only[c0,decide_true,cond_true];exact ax.const _
 obtain⟨d0,e0⟩:=ed c0
 simp only[c0,decide_false,cond_false]
 rw[e0]
 refine ax.bind (Mi x1 hx1 (left:=1048576-(iT x0:Int)) (by omega) (by omega)) ?_
 by_cases c1:iY (iT x1) (1048576-(iT x0:Int))<0
 ·simp only[c1,decide_true,cond_true];exact ax.const _
 obtain⟨d1,e1⟩:=ed c1
 simp only[c1,decide_false,cond_false]
 rw[e1]
 refine ax.bind (NG x2 hx2 (left:=1048576-(iT x0:Int)-(iT x1:Int)) (by omega) (by omega)) ?_
 by_cases c2:iY (mn x2) (1048576-(iT x0:Int)-(iT x1:Int))<0
 ·simp only[c2,decide_true,cond_true];exact ax.const _
 obtain⟨d2,e2⟩:=ed c2
 simp only[c2,decide_false,cond_false]
 have hC:mn x2=x2.2.2.length:=rfl
 have tF:=ML x0 (by omega)
 have tG:=ML x1 (by omega)
 have tC:=No x2 (by omega)
 obtain⟨h1,h2,_⟩:=Kg (x:=x0) (by omega)
 obtain⟨k1,k2,_⟩:=Kg (x:=x1) (by omega)
 obtain⟨b,b1,b2⟩:=KF (c:=x2) h1 h2 k1 k2 (by unfold fu;omega)
 refine ax.bind tF (ax.bind tG (ax.bind tC (ax.bind b1 (ax.bind tF (ax.bind tG (ax.bind tC (ax.bind b2 ?_)))))))
 simp only[bne_self_eq_false,cond_false]
 refine ax.bind tF (ax.bind (M5 x0 (by omega)) ?_)
 simp only[Bool.not_true,cond_false]
 refine ax.bind tG (ax.bind (M5 x1 (by omega)) ?_)
 simp only[Bool.not_true,cond_false]
 refine ax.bind tC (ax.bind (Nf x2 (by omega)) ?_)
 exact ax.const _
end Go.Proofs.YtkdcfeopelbojaaGreatDoor

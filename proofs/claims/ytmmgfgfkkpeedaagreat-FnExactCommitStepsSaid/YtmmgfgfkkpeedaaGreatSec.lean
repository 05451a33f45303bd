/- The tables, the residual functions and lemmas of this seat: parts of the proof of the law; conditions: those that each names. -/
import Derived.Test.YtmmgfgfkkpeedaaGreatRed
set_option linter.unusedVariables false
set_option linter.unusedSimpArgs false
set_option maxRecDepth 100000
namespace Go.Proofs.YtmmgfgfkkpeedaaGreat
open Go.Eng
def yes:Nat→Bool:=fun _=>true
theorem Ly{d:cO}(h:mj d){i:Nat}(hi:i<d.1.length):∀k,(mT yes d k)[i]? =some (jv d i k)
 |0=>by
  have hx:d.1[i]? =some d.1[i]:=List.getElem?_eq_getElem hi
  simp only[mT,jv,List.getD,hx,Option.getD_some]
 |k+1=>by
  have ih:=Ly h hi k
  simp only[mT,jv,yes,cond_true]
  cases hw:d.2[k]? with
  |none=>exact ih
  |some w=>
   obtain⟨h1,h2,h3⟩:=h.pd k w hw
   simp only
   by_cases e:w.1=(i:Int)
   ·rw[if_pos e,e,Int.toNat_natCast]
    exact List.getElem?_set_self (by rw[zV];exact hi)
   ·rw[if_neg e,List.getElem?_set_ne (by omega)]
    exact ih
def O4(d:cO):Nat→List ByteArray
 |0=>[]
 |i+1=>O4 d i++[xH d i]
theorem vo(d:cO):∀i,(O4 d i).length=i
 |0=>rfl
 |i+1=>by rw[O4,List.length_append,vo d i];rfl
theorem RR(d:cO):∀n i,i<n→(O4 d n)[i]? =some (xH d i)
 |0,i,h=>absurd h (Nat.not_lt_zero i)
 |n+1,i,h=>by
  rw[O4]
  by_cases e:i=n
  ·subst e
   rw[List.getElem?_append_right (by rw[vo];omega),vo,Nat.sub_self];rfl
  ·rw[List.getElem?_append_left (by rw[vo];omega)]
   exact RR d n i (by omega)
theorem TL{d:cO}(h:mj d):O4 d d.1.length=mT yes d d.2.length:=by
 apply List.ext_getElem?
 intro i
 by_cases hi:i<d.1.length
 ·rw[RR d _ i hi,Ly h hi];rfl
 ·rw[List.getElem?_eq_none (by rw[vo];omega),List.getElem?_eq_none (by rw[zV];omega)]
theorem Na{d:cO}(h:mj d):aW (O4 d d.1.length)≤1048576:=by
 have e:aW (O4 d d.1.length)=(O4 d d.1.length).length+((O4 d d.1.length).map fun y=>y.size).sum:=rfl
 have key:∀n,n≤d.1.length→((O4 d n).map fun y=>y.size).sum≤32*n:=by
  intro n
  induction n with
  |zero=>intro _;exact Nat.le_refl _
  |succ n ih=>
   intro hn
   have h1:=ih (by omega)
   have h2:=fC h (i:=n) (by omega) d.2.length
   rw[O4,List.map_append,List.sum_append]
   simp only[List.map_cons,List.map_nil,List.sum_cons,List.sum_nil]
   have:(xH d n).size=32:=h2
   omega
 have h1:=key d.1.length (Nat.le_refl _)
 have h2:=h.n1
 rw[e,vo];omega
theorem Im{d:cO}(h:mj d):Ev (fun k=>l5 k d) (O4 d d.1.length):=by
 have n1:=h.n1
 have n2:=h.n2
 refine au.run (fun k=>AD k _) ?_
 simp only[wY]
 refine au.nA (by unfold af;simp;omega) (bS.ev ?_)
 rw[TL h,List.nil_append]
 refine bS.count (L:=gw) (r:=mT yes d d.2.length) (fun i=>(mT yes d i,d.2,(d.2.length:Int),(i:Int))) d.2.length (fun i hi=> ?_) (bS.stop ?_)
 ·have hw:d.2[i]? =some d.2[i]:=List.getElem?_eq_getElem hi
  obtain⟨h1,h2,h3⟩:=h.pd i _ hw
  have hl:=zV yes d i
  have hx:(mT yes d i)[d.2[i].1.toNat]? =some (mT yes d i)[d.2[i].1.toNat]:=List.getElem?_eq_getElem (by omega)
  have e:mT yes d (i+1)=(mT yes d i).set d.2[i].1.toNat d.2[i].2:=by simp only[mT,hw,yes,cond_true]
  have c1:d.2[i].1<((mT yes d i).length:Int):=by omega
  simp only[m7,gw,Int.ofNat_lt,hi,decide_true,cond_true,Int.natCast_nonneg,if_true,Int.toNat_natCast,hw,Option.bind_some,h1,c1,hx,iM (show i<_ by omega),e]
  exact au.const _
 ·simp only[gw,Int.lt_irrefl,decide_false,cond_false]
  exact au.const _
end Go.Proofs.YtmmgfgfkkpeedaaGreat

/- The tables, the residual functions and lemmas of this seat: parts of the proof of the law; conditions: those that each names. -/
import Derived.Test.YtmmgfgfkkpeedaaGreatRed
set_option linter.unusedVariables false
set_option linter.unusedSimpArgs false
set_option maxRecDepth 100000
namespace Go.Proofs.YtmmgfgfkkpeedaaGreat
open Go.Eng
def yes:Nat→Bool:=fun _=>true
theorem stor_read{d:PDisk}(h:diskP d){i:Nat}(hi:i<d.1.length):∀k,(storT yes d k)[i]? =some (readT d i k)
 |0=>by
  have hx:d.1[i]? =some d.1[i]:=List.getElem?_eq_getElem hi
  simp only[storT,readT,List.getD,hx,Option.getD_some]
 |k+1=>by
  have ih:=stor_read h hi k
  simp only[storT,readT,yes,cond_true]
  cases hw:d.2[k]? with
  |none=>exact ih
  |some w=>
   obtain⟨h1,h2,h3⟩:=h.pd k w hw
   simp only
   by_cases e:w.1=(i:Int)
   ·rw[if_pos e,e,Int.toNat_natCast]
    exact List.getElem?_set_self (by rw[storT_len];exact hi)
   ·rw[if_neg e,List.getElem?_set_ne (by omega)]
    exact ih
def rdL(d:PDisk):Nat→List ByteArray
 |0=>[]
 |i+1=>rdL d i++[readD d i]
theorem rdL_len(d:PDisk):∀i,(rdL d i).length=i
 |0=>rfl
 |i+1=>by rw[rdL,List.length_append,rdL_len d i];rfl
theorem rdL_get(d:PDisk):∀n i,i<n→(rdL d n)[i]? =some (readD d i)
 |0,i,h=>absurd h (Nat.not_lt_zero i)
 |n+1,i,h=>by
  rw[rdL]
  by_cases e:i=n
  ·subst e
   rw[List.getElem?_append_right (by rw[rdL_len];omega),rdL_len,Nat.sub_self];rfl
  ·rw[List.getElem?_append_left (by rw[rdL_len];omega)]
   exact rdL_get d n i (by omega)
theorem rdL_stor{d:PDisk}(h:diskP d):rdL d d.1.length=storT yes d d.2.length:=by
 apply List.ext_getElem?
 intro i
 by_cases hi:i<d.1.length
 ·rw[rdL_get d _ i hi,stor_read h hi];rfl
 ·rw[List.getElem?_eq_none (by rw[rdL_len];omega),List.getElem?_eq_none (by rw[storT_len];omega)]
theorem rdL_szM{d:PDisk}(h:diskP d):szM_StringS (rdL d d.1.length)≤1048576:=by
 have e:szM_StringS (rdL d d.1.length)=(rdL d d.1.length).length+((rdL d d.1.length).map fun y=>y.size).sum:=rfl
 have key:∀n,n≤d.1.length→((rdL d n).map fun y=>y.size).sum≤32*n:=by
  intro n
  induction n with
  |zero=>intro _;exact Nat.le_refl _
  |succ n ih=>
   intro hn
   have h1:=ih (by omega)
   have h2:=readT_size h (i:=n) (by omega) d.2.length
   rw[rdL,List.map_append,List.sum_append]
   simp only[List.map_cons,List.map_nil,List.sum_cons,List.sum_nil]
   have:(readD d n).size=32:=h2
   omega
 have h1:=key d.1.length (Nat.le_refl _)
 have h2:=h.n1
 rw[e,rdL_len];omega
theorem spec_Sectors_ev{d:PDisk}(h:diskP d):Ev (fun k=>c_spec_l18Sectors k d) (rdL d d.1.length):=by
 have n1:=h.n1
 have n2:=h.n2
 refine EvQ.run (fun k=>spec_l18Sectors_run k _) ?_
 simp only[spec_l18Sectors]
 refine EvQ.ifp (by unfold capBytes;simp;omega) (EvL.ev ?_)
 rw[rdL_stor h,List.nil_append]
 refine EvL.count (L:=spec_l18Sectors_l1) (r:=storT yes d d.2.length) (fun i=>(storT yes d i,d.2,(d.2.length:Int),(i:Int))) d.2.length (fun i hi=> ?_) (EvL.stop ?_)
 ·have hw:d.2[i]? =some d.2[i]:=List.getElem?_eq_getElem hi
  obtain⟨h1,h2,h3⟩:=h.pd i _ hw
  have hl:=storT_len yes d i
  have hx:(storT yes d i)[d.2[i].1.toNat]? =some (storT yes d i)[d.2[i].1.toNat]:=List.getElem?_eq_getElem (by omega)
  have e:storT yes d (i+1)=(storT yes d i).set d.2[i].1.toNat d.2[i].2:=by simp only[storT,hw,yes,cond_true]
  have c1:d.2[i].1<((storT yes d i).length:Int):=by omega
  simp only[EvS,spec_l18Sectors_l1,Int.ofNat_lt,hi,decide_true,cond_true,Int.natCast_nonneg,if_true,Int.toNat_natCast,hw,Option.bind_some,h1,c1,hx,wsucc (show i<_ by omega),e]
  exact EvQ.const _
 ·simp only[spec_l18Sectors_l1,Int.lt_irrefl,decide_false,cond_false]
  exact EvQ.const _
end Go.Proofs.YtmmgfgfkkpeedaaGreat

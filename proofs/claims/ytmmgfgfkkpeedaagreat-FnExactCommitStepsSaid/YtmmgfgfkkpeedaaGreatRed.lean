/- The tables, the residual functions and lemmas of this seat: parts of the proof of the law; conditions: those that each names. -/
import Derived.Test.YtmmgfgfkkpeedaaGreatDsk
set_option linter.unusedVariables false
set_option linter.unusedSimpArgs false
set_option maxRecDepth 100000
namespace Go.Proofs.YtmmgfgfkkpeedaaGreat
open Go.Eng
def jv(d:cO)(i:Nat):Nat→ByteArray
 |0=>d.1.getD i ⟨#[]⟩
 |k+1=>match d.2[k]? with
  |some w=>if w.1=(i:Int)then w.2 else jv d i k
  |none=>jv d i k
def xH(d:cO)(i:Nat):ByteArray:=jv d i d.2.length
theorem fC{d:cO}(h:mj d){i:Nat}(hi:i<d.1.length):∀k,(jv d i k).size=32
 |0=>by
  have hx:d.1[i]? =some d.1[i]:=List.getElem?_eq_getElem hi
  simp only[jv,List.getD,hx,Option.getD_some]
  exact h.sz i _ hx
 |k+1=>by
  simp only[jv]
  cases hw:d.2[k]? with
  |none=>exact fC h hi k
  |some w=>
   simp only
   split
   ·exact(h.pd k w hw).2.2
   ·exact fC h hi k
theorem pT(d:cO)(h:mj d)(i:Nat)(hi:i<d.1.length):Ev (fun k=>ey k (some d,(i:Int))) (xH d i):=by
 have n2:=h.n2
 refine au.run (fun k=>Ci k _ _) ?_
 have w1:aa .i64 ((d.2.length:Int)-1)=(d.2.length:Int)-1-(0:Nat):=by rw[aR (by omega) (by omega)];omega
 simp only[xG,w1,Option.bind_some]
 refine Ev.eq ?_
 refine aj.upto (L:=fun k _=>iU k) d.2.length (fun(_:Unit) j=>(some d,(i:Int),(d.2.length:Int)-1-(j:Nat))) (fun _ j=>xH d i=jv d i (d.2.length-j)) (fun _ j hj inv=> ?_) (fun _ inv=> ?_) () 0 (Nat.zero_le _) rfl
 ·have e:(d.2.length:Int)-1-(j:Nat)=((d.2.length-1-j:Nat):Int):=by omega
  obtain⟨w,hw⟩:∃w,d.2[d.2.length-1-j]? =some w:=⟨_,List.getElem?_eq_getElem (show d.2.length-1-j<d.2.length by omega)⟩
  have hr:jv d i (d.2.length-j)=if w.1=(i:Int)then w.2 else jv d i (d.2.length-(j+1)):=by
   have:d.2.length-j=(d.2.length-1-j)+1:=by omega
   rw[this]
   simp only[jv,hw]
   have:d.2.length-1-j=d.2.length-(j+1):=by omega
   rw[this]
  have w2:aa .i64 (((d.2.length-1-j:Nat):Int)-1)=(d.2.length:Int)-1-((j+1:Nat):Int):=by rw[aR (by omega) (by omega)];omega
  simp only[iU,e,Int.natCast_nonneg,decide_true,cond_true,if_true,Int.toNat_natCast,hw,Option.bind_some,w2]
  refine aj.bif (fun h1=> ?_) (fun h1=> ?_)
  ·have h1:w.1=(i:Int):=by simpa using h1
   refine aj.const _ (GL.ret (GR.ret ?_))
   rw[inv,hr,if_pos h1]
  ·have h1:¬w.1=(i:Int):=by simpa using h1
   refine aj.const _ (GL.self () rfl ?_)
   rw[inv,hr,if_neg h1]
 ·have hx:d.1[i]? =some d.1[i]:=List.getElem?_eq_getElem hi
  have e:¬(0:Int)≤(d.2.length:Int)-1-(d.2.length:Nat):=by omega
  simp only[iU,e,decide_false,cond_false,Int.natCast_nonneg,if_true,Int.toNat_natCast,hx,Option.bind_some]
  refine aj.const _ (GE.ret (GR.ret ?_))
  rw[inv,Nat.sub_self]
  simp only[jv,List.getD,hx,Option.getD_some]
end Go.Proofs.YtmmgfgfkkpeedaaGreat

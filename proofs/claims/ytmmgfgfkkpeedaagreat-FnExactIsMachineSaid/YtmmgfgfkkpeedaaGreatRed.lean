/- The tables, the residual functions and lemmas of this seat: parts of the proof of the law; conditions: those that each names. -/
import Derived.Test.YtmmgfgfkkpeedaaGreatDsk
set_option linter.unusedVariables false
set_option linter.unusedSimpArgs false
set_option maxRecDepth 100000
namespace Go.Proofs.YtmmgfgfkkpeedaaGreat
open Go.Eng
def readT(d:PDisk)(i:Nat):Nat→ByteArray
 |0=>d.1.getD i ⟨#[]⟩
 |k+1=>match d.2[k]? with
  |some w=>if w.1=(i:Int)then w.2 else readT d i k
  |none=>readT d i k
def readD(d:PDisk)(i:Nat):ByteArray:=readT d i d.2.length
theorem readT_size{d:PDisk}(h:diskP d){i:Nat}(hi:i<d.1.length):∀k,(readT d i k).size=32
 |0=>by
  have hx:d.1[i]? =some d.1[i]:=List.getElem?_eq_getElem hi
  simp only[readT,List.getD,hx,Option.getD_some]
  exact h.sz i _ hx
 |k+1=>by
  simp only[readT]
  cases hw:d.2[k]? with
  |none=>exact readT_size h hi k
  |some w=>
   simp only
   split
   ·exact(h.pd k w hw).2.2
   ·exact readT_size h hi k
theorem impl_Read_ev(d:PDisk)(h:diskP d)(i:Nat)(hi:i<d.1.length):Ev (fun k=>c_impl_Disk_read k (some d,(i:Int))) (readD d i):=by
 have n2:=h.n2
 refine EvQ.run (fun k=>impl_Disk_read_run k _ _) ?_
 have w1:wrapK .i64 ((d.2.length:Int)-1)=(d.2.length:Int)-1-(0:Nat):=by rw[i64w (by omega) (by omega)];omega
 simp only[impl_Disk_read,w1,Option.bind_some]
 refine Ev.eq ?_
 refine EvX.upto (L:=fun k _=>impl_Disk_read_l1 k) d.2.length (fun(_:Unit) j=>(some d,(i:Int),(d.2.length:Int)-1-(j:Nat))) (fun _ j=>readD d i=readT d i (d.2.length-j)) (fun _ j hj inv=> ?_) (fun _ inv=> ?_) () 0 (Nat.zero_le _) rfl
 ·have e:(d.2.length:Int)-1-(j:Nat)=((d.2.length-1-j:Nat):Int):=by omega
  obtain⟨w,hw⟩:∃w,d.2[d.2.length-1-j]? =some w:=⟨_,List.getElem?_eq_getElem (show d.2.length-1-j<d.2.length by omega)⟩
  have hr:readT d i (d.2.length-j)=if w.1=(i:Int)then w.2 else readT d i (d.2.length-(j+1)):=by
   have:d.2.length-j=(d.2.length-1-j)+1:=by omega
   rw[this]
   simp only[readT,hw]
   have:d.2.length-1-j=d.2.length-(j+1):=by omega
   rw[this]
  have w2:wrapK .i64 (((d.2.length-1-j:Nat):Int)-1)=(d.2.length:Int)-1-((j+1:Nat):Int):=by rw[i64w (by omega) (by omega)];omega
  simp only[impl_Disk_read_l1,e,Int.natCast_nonneg,decide_true,cond_true,if_true,Int.toNat_natCast,hw,Option.bind_some,w2]
  refine EvX.bif (fun h1=> ?_) (fun h1=> ?_)
  ·have h1:w.1=(i:Int):=by simpa using h1
   refine EvX.const _ (GL.ret (GR.ret ?_))
   rw[inv,hr,if_pos h1]
  ·have h1:¬w.1=(i:Int):=by simpa using h1
   refine EvX.const _ (GL.self () rfl ?_)
   rw[inv,hr,if_neg h1]
 ·have hx:d.1[i]? =some d.1[i]:=List.getElem?_eq_getElem hi
  have e:¬(0:Int)≤(d.2.length:Int)-1-(d.2.length:Nat):=by omega
  simp only[impl_Disk_read_l1,e,decide_false,cond_false,Int.natCast_nonneg,if_true,Int.toNat_natCast,hx,Option.bind_some]
  refine EvX.const _ (GE.ret (GR.ret ?_))
  rw[inv,Nat.sub_self]
  simp only[readT,List.getD,hx,Option.getD_some]
end Go.Proofs.YtmmgfgfkkpeedaaGreat

/- The tables, the residual functions and lemmas of this seat: parts of the proof of the law; conditions: those that each names. -/
import Derived.Test.YtkmnlefjlhogaaaBlk
set_option linter.unusedVariables false
set_option linter.unusedSimpArgs false
set_option maxRecDepth 100000
namespace Go.Proofs.Ytkmnlefjlhogaaa
open Go.Eng
def cntN(f:PFS)(u:Int):Nat→Nat
 |0=>0
 |i+1=>match(fI f)[(u*5).toNat+i]? with
  |some n=>bif n.1 != 0 then cntN f u i+1 else cntN f u i
  |none=>cntN f u i
theorem cnt_le(f:PFS)(u:Int):∀i,cntN f u i≤i
 |0=>Nat.le_refl _
 |i+1=>by
  have h:=cnt_le f u i
  simp only[cntN]
  cases(fI f)[(u*5).toNat+i]? with
  |none=>simp only;omega
  |some n=>cases hb:n.1 != 0<;>simp only[hb,cond_true,cond_false]<;>omega
section
variable {f:PFS} {u:Int}
theorem impl_inodes_ev(hP:wfs f)(h0:0≤u)(h3:u≤3):Ev (fun k=>c_impl_FS_inodes k (some f,u)) (cntN f u 5:Int):=by
 refine EvQ.run (fun k=>impl_FS_inodes_run k _ _) ?_
 have hni:=hP.ni
 have hni':f.2.2.1.length=20:=hni
 have v1:wrapK .i64 (u+1)=u+1:=i64w (by omega) (by omega)
 have v2:wrapK .i64 ((u+1)*5)=(u+1)*5:=i64w (by omega) (by omega)
 have v3:wrapK .i64 (u*5)=u*5:=i64w (by omega) (by omega)
 have c1:0≤(u+1)*5:=by omega
 have c2:(u+1)*5≤((f.2.2.1.length:Nat):Int):=by rw[hni'];omega
 have c3:0≤u*5:=by omega
 have c4:u*5≤((((u+1)*5).toNat:Nat):Int):=by omega
 simp only[impl_FS_inodes,Option.bind_some,v1,v2,v3,c1,c2,c3,c4,if_true]
 generalize hl:(f.2.2.1.take ((u+1)*5).toNat).drop (u*5).toNat=l
 have hlen:l.length=5:=by rw[←hl,List.length_drop,List.length_take,hni'];omega
 refine EvL.ev ?_
 have:=EvL.count (L:=impl_FS_inodes_l1) (r:=(cntN f u 5:Int)) (fun i=>((cntN f u i:Int),l,(l.length:Int),(i:Int))) 5 (fun i hi=> ?_) (EvL.stop ?_)
 ·simpa[cntN]using this
 ·obtain⟨n,hn⟩:∃n,(fI f)[(u*5).toNat+i]? =some n:=⟨_,List.getElem?_eq_getElem (show(u*5).toNat+i<(fI f).length by omega)⟩
  have hx:l[i]? =some n:=by
   rw[←hl,List.getElem?_drop,List.getElem?_take,if_pos (by omega)];exact hn
  have hc:=cnt_le f u i
  have w3:wrapK .i64 ((i:Int)+1)=((i+1:Nat):Int):=by rw[i64w (by omega) (by omega)];omega
  have w4:wrapK .i64 ((cntN f u i:Int)+1)=((cntN f u i+1:Nat):Int):=by rw[i64w (by omega) (by omega)];omega
  have d1:(i:Int)<(l.length:Int):=by omega
  simp only[EvS,impl_FS_inodes_l1,d1,decide_true,cond_true,Int.natCast_nonneg,if_true,Int.toNat_natCast,hx,Option.bind_some,w3,w4,cntN,hn]
  cases hb:n.1 != 0<;>simp only[cond_true,cond_false]<;>exact EvQ.const _
 ·have:¬((5:Nat):Int)<(l.length:Int):=by omega
  simp only[impl_FS_inodes_l1,this,decide_false,cond_false]
  exact EvQ.const _
end
end Go.Proofs.Ytkmnlefjlhogaaa

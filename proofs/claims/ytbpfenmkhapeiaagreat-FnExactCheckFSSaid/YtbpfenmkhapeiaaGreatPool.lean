/- The tables, the residual functions and lemmas of this seat: parts of the proof of the law; conditions: those that each names. -/
import Derived.Test.YtbpfenmkhapeiaaGreatSup
set_option linter.unusedVariables false
set_option linter.unusedSimpArgs false
set_option maxRecDepth 100000
namespace Go.Proofs.YtbpfenmkhapeiaaGreat
open Go.Eng
theorem get_mid{α:Type}(pre:List α)(x:α)(post:List α):(pre++x::post)[pre.length]? =some x:=by simp
theorem set_mid{α:Type}(pre:List α)(x y:α)(post:List α):(pre++x::post).set pre.length y=pre++y::post:=by simp
theorem lt_mid{α:Type}(pre:List α)(x:α)(post:List α):((pre.length:Int)<((pre++x::post).length:Int))=True:=by
 simp only[List.length_append,List.length_cons,eq_iff_iff,iff_true];omega
abbrev inB(x:DInode):List Int:=x.2.2.2.2.2.2.2.1
abbrev inA(x:DInode):List PAcl:=x.2.2.2.2.2.2.2.2.1
abbrev inD(x:DInode):List PAcl:=x.2.2.2.2.2.2.2.2.2
noncomputable def mkInodeG(x:DInode)(m:Int):DInode×Int:=
 ((m,m+1,m+2,m+3,m+4,m+5,m+6,markF mkIntS 1 (inB x) (m+7),markF mkAclEntryS 3 (inA x) (m+7+1*(inB x).length),markF mkAclEntryS 3 (inD x) (m+7+1*(inB x).length+3*(inA x).length)),m+7+1*(inB x).length+3*(inA x).length+3*(inD x).length)
theorem mkInodeG_le:∀(x:DInode) (m:Int),m≤(mkInodeG x m).2∧(mkInodeG x m).2≤m+((7+(inB x).length+3*(inA x).length+3*(inD x).length:Nat):Int):=fun x m=>by
 simp only[mkInodeG];omega
theorem markInodeS_ev(l0:List DInode)(m0:Int)(h0:0≤m0)(h1:m0+((l0.map fun x=>7+(inB x).length+3*(inA x).length+3*(inD x).length).sum:Nat)<4611686018427387800)(hlen:l0.length<4611686018427387800):
  Ev (fun k=>c_laws_markInodeS k (l0,m0)) ((markG mkInodeG l0 m0).2,(markG mkInodeG l0 m0).1):=by
 refine EvQ.run (fun k=>laws_markInodeS_run k l0 m0) ?_
 simp only[laws_markInodeS]
 refine EvL.ev ?_
 refine markG_ev (L:=laws_markInodeS_l1) mkInodeG (fun x=>7+(inB x).length+3*(inA x).length+3*(inD x).length) 4611686018427387800 l0 m0 (fun m l=>(m,l)) h0 h1 (fun x _ m _ _=>mkInodeG_le x m) (fun pre x post m hx hm hB hl=> ?_) (fun m l hl=> ?_)
 ·have w1:wrapK .i64 (m+1)=m+1:=by rw[wrapK,wrap_i64 (by omega) (by omega)]
  have w2:wrapK .i64 (m+1+1)=m+2:=by rw[wrapK,wrap_i64 (by omega) (by omega)];omega
  have w3:wrapK .i64 (m+2+1)=m+3:=by rw[wrapK,wrap_i64 (by omega) (by omega)];omega
  have w4:wrapK .i64 (m+3+1)=m+4:=by rw[wrapK,wrap_i64 (by omega) (by omega)];omega
  have w5:wrapK .i64 (m+4+1)=m+5:=by rw[wrapK,wrap_i64 (by omega) (by omega)];omega
  have w6:wrapK .i64 (m+5+1)=m+6:=by rw[wrapK,wrap_i64 (by omega) (by omega)];omega
  have w7:wrapK .i64 (m+6+1)=m+7:=by rw[wrapK,wrap_i64 (by omega) (by omega)];omega
  have w8:wrapK .i64 ((pre.length:Int)+1)=((pre.length+1:Nat):Int):=by rw[wrapK,wrap_i64 (by omega) (by omega)];omega
  have hI:=markIntS_ev (inB x) (m+7) (by omega) (by omega)
  have hA:=markAclEntryS_ev (inA x) (m+7+1*(inB x).length) (by omega) (by omega)
  have hD:=markAclEntryS_ev (inD x) (m+7+1*(inB x).length+3*(inA x).length) (by omega) (by omega)
  simp only[EvS,laws_markInodeS_l1,lt_mid,decide_true,cond_true,Int.natCast_nonneg,if_true,Int.toNat_natCast,get_mid,set_mid,Option.bind_some,w1,w2,w3,w4,w5,w6,w7]
  refine EvQ.bindS hI ?_
  simp only[lt_mid,if_true,get_mid,set_mid,Option.bind_some]
  refine EvQ.bindS hA ?_
  simp only[lt_mid,if_true,get_mid,set_mid,Option.bind_some]
  refine EvQ.bindS hD ?_
  simp only[get_mid,set_mid,Option.bind_some,w8,mkInodeG]
  exact EvQ.const _
 ·refine EvL.stop ?_
  have:¬(l0.length:Int)<(l.length:Int):=by omega
  simp only[laws_markInodeS_l1,this,decide_false,cond_false]
  exact EvQ.const _
theorem sum_inodes:∀l:List DInode,(l.map fun x=>7+(inB x).length+3*(inA x).length+3*(inD x).length).sum≤7*l.length+3*(l.map szM_Inode).sum
 |[]=>by simp
 |x::l=>by
  have:=sum_inodes l
  have h:szM_Inode x=(inB x).length+(inA x).length+(inD x).length:=rfl
  simp only[List.map_cons,List.sum_cons,List.length_cons,h]
  omega
theorem markFS_ev(x:DFS)(hs:szM_FS x≤1048576):∃q,Ev (fun k=>c_laws_markFS k (x,(1:Int))) q∧0≤q∧q≤100000000:=by
 have e2:szM_FS x=x.2.1.length+szM_InodeS x.2.2.1+szM_StringS x.2.2.2:=rfl
 have e3:szM_InodeS x.2.2.1=x.2.2.1.length+(x.2.2.1.map szM_Inode).sum:=rfl
 have e4:szM_StringS x.2.2.2=x.2.2.2.length+(x.2.2.2.map fun y=>y.size).sum:=rfl
 have s1:=sum_inodes x.2.2.1
 have hQ:=markQuotaS_ev x.2.1 1 (by omega) (by omega)
 have hI:=markInodeS_ev x.2.2.1 (1+2*x.2.1.length) (by omega) (by omega) (by omega)
 have bI:=markG_bound (e:=mkInodeG) (c:=fun x=>7+(inB x).length+3*(inA x).length+3*(inD x).length) (B:=4611686018427387800) (l:=x.2.2.1) (m:=1+2*x.2.1.length) (by omega) (by omega) (fun x _ m _ _=>mkInodeG_le x m)
 have hT:=markStringS_ev x.2.2.2 (markG mkInodeG x.2.2.1 (1+2*x.2.1.length)).2 (by omega) (by omega)
 refine⟨(markG mkInodeG x.2.2.1 (1+2*x.2.1.length)).2+1*x.2.2.2.length,EvQ.run (fun k=>laws_markFS_run k _ _) ?_,by omega,by omega⟩
 simp only[laws_markFS]
 exact EvQ.bind hQ (EvQ.bind hI (EvQ.bind hT (EvQ.const _)))
theorem fs_small{x:DFS}(h:szM_FS x≤1048576):fsSmall x∧(∀s∈fD x,s.size<big)∧(fQ x).length≤1048576:=by
 have e2:szM_FS x=x.2.1.length+szM_InodeS x.2.2.1+szM_StringS x.2.2.2:=rfl
 have e3:szM_InodeS x.2.2.1=x.2.2.1.length+(x.2.2.1.map szM_Inode).sum:=rfl
 have e4:szM_StringS x.2.2.2=x.2.2.2.length+(x.2.2.2.map fun y=>y.size).sum:=rfl
 refine⟨fun n hn=> ?_,fun s hs=> ?_,by show x.2.1.length≤_;omega⟩
 ·have h1:=le_sum_map szM_Inode (show n∈x.2.2.1 from hn)
  have h2:szM_Inode n=(inB n).length+(inA n).length+(inD n).length:=rfl
  unfold inoSmall big
  refine⟨?_, ?_, ?_⟩
  ·show(inB n).length<_;omega
  ·show(inA n).length<_;omega
  ·show(inD n).length<_;omega
 ·have h1:=le_sum_map (fun y:ByteArray=>y.size) (show s∈x.2.2.2 from hs)
  unfold big
  omega
section
variable {f:PFS} {u:Int}
theorem has_ev(i:Int)(h0:0≤i)(h1:i<20){n:PInode}(hn:(fI f)[i.toNat]? =some n):Ev (fun k=>c_impl_FS_has k (some f,i)) (n.1 != 0):=by
 refine EvQ.run (fun k=>impl_FS_has_run k _ _) ?_
 simp only[impl_FS_has,h0,h1,decide_true,cond_true,Option.bind_some,if_true,hn]
 exact EvQ.const _
end
end Go.Proofs.YtbpfenmkhapeiaaGreat

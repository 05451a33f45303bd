/- The tables, the residual functions and lemmas of this seat: parts of the proof of the law; conditions: those that each names. -/
import Derived.Test.YtkmnlefjlhogaaaAdd
set_option linter.unusedVariables false
set_option linter.unusedSimpArgs false
set_option maxRecDepth 100000
namespace Go.Proofs.Ytkmnlefjlhogaaa
open Go.Eng
section
variable {f0 f:PFS} {i m:Nat} {n0 n x0:PInode} {l:List ByteArray}
theorem Ch.flds(h:Ch f0 i n0 l m n f):n.1=n0.1∧n.2.1=n0.2.1∧n.2.2.1=n0.2.2.1∧n.2.2.2.1=n0.2.2.2.1∧n.2.2.2.2.1=n0.2.2.2.2.1∧n.2.2.2.2.2.2.1=n0.2.2.2.2.2.2.1∧n.2.2.2.2.2.2.2.2=n0.2.2.2.2.2.2.2.2:=by
 have e:=h.hd
 refine⟨?_, ?_, ?_, ?_, ?_, ?_, ?_⟩<;>rw[e]
theorem add_pieces(hw:wfs f0)(hx:(fI f0)[i]? =some x0)(hxb:xBlk x0=[])(hn:xBlk n0=[])(hs:xSize n0=0)(hu0:0≤xUid n0)(hu3:xUid n0≤3){q:PQuota}(hq:(fQ f0)[(xUid n0).toNat]? =some q)
  (hl8:l.length≤8) (hl:∀(j:Nat) s,l[j]? =some s→s.size≤32∧(j+1<l.length→s.size=32)) (hA:(xAcl n0).length≤1000) (hD:(xDef n0).length≤1000) (dir:Int) (name:ByteArray) (z:PFS):
  EvX (fun k (_:Unit)=>iter k (spec_l08Add_l1 k) (dir,name,(i:Int),(),(),(),l,(l.length:Int),(0:Int),z,n0,f0))
   (fun o=>∃m n f,m≤l.length∧Ch f0 i n0 l m n f∧∀s,o s=some (.inl (dir,name,(i:Int),(),(),(),z,n,f))):=by
 have hi:i<(fI f0).length:=(List.getElem?_eq_some_iff.1 hx).1
 have hi20:i<20:=by rw[←hw.ni];exact hi
 refine EvX.list (L:=fun k (_:Unit)=>spec_l08Add_l1 k) l (fun(st:PInode×PFS) m=>(dir,name,(i:Int),(),(),(),l,(l.length:Int),((m:Nat):Int),z,st.1,st.2)) (fun st m=>m≤l.length∧Ch f0 i n0 l m st.1 st.2) (fun st m s hsm hm inv=> ?_) (fun st inv=> ?_) (n0,f0) ⟨Nat.zero_le _,Ch.start hw hx hxb hn hs⟩
 ·obtain⟨n,f⟩:=st
  obtain⟨_,h⟩:=inv
  simp only at h
  obtain⟨g1,g2,g3,g4,g5,g6,g7⟩:=h.flds
  have hwf:wfs f:=h.ok hw hx hxb hu0 hu3 (by omega)
  have hfull:xSize n=32*(m:Int):=by
   cases m with
   |zero=>rw[h.sz0 rfl];rfl
   |succ j=>
    obtain⟨s',hs'⟩:∃s',l[j]? =some s':=⟨_,List.getElem?_eq_getElem (by omega)⟩
    rw[h.szl j s' rfl hs',(hl j s' hs').2 (by omega)]
    omega
  have hun:xUid n=xUid n0:=g3
  have hq':(fQ f)[(xUid n).toNat]? =some q:=by rw[hun,h.q];exact hq
  have hev:=spec_next_ev hwf (by rw[hun];exact hu0) (by rw[hun];exact hu3) hq'
  obtain⟨hss,_⟩:=hl m s hsm
  simp only[spec_l08Add_l1,Int.ofNat_lt,hm,decide_true,cond_true,Int.natCast_nonneg,if_true,Int.toNat_natCast,hsm,Option.bind_some]
  refine EvX.bind hev ?_
  cases hv:nextV q.2 (usedBs (fI f)) (xUid n)with
  |mk b c=>
  have hnx:=next_ok hv
  refine EvX.bif (fun h1=> ?_) (fun h1=> ?_)
  ·exact EvX.const _ (.inr ⟨fun _=>some (.inl (dir,name,(i:Int),(),(),(),z,n,f)),fun _=>rfl,m,n,f,by omega,h,fun _=>rfl⟩)
  ·have hc0:c=0:=by simpa using h1
   obtain⟨b1,b2,b3⟩:xUid n*14≤b∧b<xUid n*14+14∧b∉usedBs (fI f):=by
    rcases hnx with⟨_,h2,h3,h4⟩|h2|h2
    ·exact⟨h2,h3,h4⟩
    ·omega
    ·omega
   rw[hun]at b1 b2
   have hb0:0≤b:=by omega
   have hb56:b<56:=by omega
   have hlen:=h.len
   have hlenP:n.2.2.2.2.2.2.2.1.length=m:=hlen
   have hcap:(n.2.2.2.2.2.2.2.1.length+([b]:List Int).length)*8≤capBytes:=by rw[hlenP];show(m+1)*8≤_;unfold capBytes;omega
   have hdl:b<((f.2.2.2.length:Nat):Int):=by have:=h.nd;rw[show f.2.2.2.length=56 from this];omega
   have hbl:b.toNat<(fD f).length:=by rw[h.nd];omega
   have hil:(i:Int)<((f.2.2.1.length:Nat):Int):=by have:=hwf.ni;rw[show f.2.2.1.length=20 from this];omega
   have hif:i<(fI f).length:=by rw[hwf.ni];exact hi20
   have hsz:n.2.2.2.2.2.1=32*(m:Int):=hfull
   have hwr:wrapK .i64 (n.2.2.2.2.2.1+(s.size:Int))=n.2.2.2.2.2.1+(s.size:Int):=i64w (by rw[hsz];omega) (by rw[hsz];omega)
   have hwm:wrapK .i64 ((m:Int)+1)=((m+1:Nat):Int):=wS m (by omega)
   simp only[hcap,if_true]
   refine EvX.bind (spec_PadTo_ev s 32 (by omega) (by omega)) ?_
   simp only[hb0,hdl,if_true,List.getElem?_eq_getElem hbl,Option.bind_some,hwr,hwm]
   have hlA:(xAcl n).length≤1000:=by show n.2.2.2.2.2.2.2.2.1.length≤_;rw[g7];exact hA
   have hlD:(xDef n).length≤1000:=by show n.2.2.2.2.2.2.2.2.2.length≤_;rw[g7];exact hD
   have hlB:(n.2.2.2.2.2.2.2.1++[b]).length≤1000:=by rw[List.length_append,hlenP];show m+1≤_;omega
   refine EvX.bind (copy_ev (n.1,n.2.1,n.2.2.1,n.2.2.2.1,n.2.2.2.2.1,n.2.2.2.2.2.1+(s.size:Int),n.2.2.2.2.2.2.1,n.2.2.2.2.2.2.2.1++[b],n.2.2.2.2.2.2.2.2) ⟨by unfold big;show(n.2.2.2.2.2.2.2.1++[b]).length<_;omega,by unfold big;show(xAcl n).length<_;omega,by unfold big;show(xDef n).length<_;omega⟩ ⟨hlB,hlA,hlD⟩) ?_
   simp only[show i<f.2.2.1.length from hif,if_true,List.getElem?_eq_getElem hif,Option.bind_some]
   refine EvX.const _ (GL.self ((n.1,n.2.1,n.2.2.1,n.2.2.2.1,n.2.2.2.2.1,n.2.2.2.2.2.1+(s.size:Int),n.2.2.2.2.2.2.1,n.2.2.2.2.2.2.2.1++[b],n.2.2.2.2.2.2.2.2),(f.1,f.2.1,f.2.2.1.set i (n.1,n.2.1,n.2.2.1,n.2.2.2.1,n.2.2.2.2.1,n.2.2.2.2.2.1+(s.size:Int),n.2.2.2.2.2.2.1,n.2.2.2.2.2.2.2.1++[b],n.2.2.2.2.2.2.2.2),f.2.2.2.set b.toNat (padB s 32))) rfl ?_)
   refine⟨Nat.succ_le_of_lt hm, ?_⟩
   have:=h.next hi hsm hss hfull hb0 b1 b2 hb56 b3 hx hxb hu0
   simp only[g1,g2,g3,g4,g5,g6,g7]
   exact this
 ·obtain⟨n,f⟩:=st
  obtain⟨_,h⟩:=inv
  simp only[spec_l08Add_l1,Int.lt_irrefl,decide_false,cond_false]
  exact EvX.const _ ⟨fun _=>some (.inl (dir,name,(i:Int),(),(),(),z,n,f)),fun _=>rfl,l.length,n,f,Nat.le_refl _,h,fun _=>rfl⟩
end
end Go.Proofs.Ytkmnlefjlhogaaa

/- The tables, the residual functions and lemmas of this seat: parts of the proof of the law; conditions: those that each names. -/
import Derived.Test.YtkmnlefjlhogaaaWfs
set_option linter.unusedVariables false
set_option linter.unusedSimpArgs false
set_option maxRecDepth 100000
namespace Go.Proofs.Ytkmnlefjlhogaaa
open Go.Eng
theorem padB_size(s:ByteArray)(n:Nat):(padB s n).size=s.size+(n-s.size):=by
 rw[padB,ofBytes_size,List.length_append,bytesOf_len,List.length_replicate]
theorem copy_ev(x:PInode)(hs:inoSmall x)(h:(xBlk x).length≤1000∧(xAcl x).length≤1000∧(xDef x).length≤1000):Ev (fun k=>c_spec_l07Copy k x) x:=by
 obtain⟨x1,x2,x3,x4,x5,x6,x7,B,A,D⟩:=x
 obtain⟨h1,h2,h3⟩:=h
 simp only[xBlk,xAcl,xDef]at h1 h2 h3
 have acl:∀l:List PAcl,l.length≤1000→Ev (fun k=>c_spec_l05Copy k l) l:=fun l hl=>by
  refine EvQ.run (fun k=>spec_l05Copy_run k _) ?_
  have c:(([]:List PAcl).length+l.length)*24≤capBytes:=by show(0+l.length)*24≤_;unfold capBytes;omega
  simp only[spec_l05Copy,c,if_true,List.nil_append]
  exact EvQ.const _
 refine EvQ.run (fun k=>spec_l07Copy_run k _) ?_
 have c:(([]:List Int).length+B.length)*8≤capBytes:=by show(0+B.length)*8≤_;unfold capBytes;omega
 simp only[spec_l07Copy,c,if_true,List.nil_append]
 refine EvQ.bind (acl A h2) ?_
 refine EvQ.bind (acl D h3) ?_
 exact EvQ.const _
structure Ch (f0:PFS) (i:Nat) (n0:PInode) (l:List ByteArray) (m:Nat) (n:PInode) (f:PFS):Prop where
 t:f.1=f0.1
 q:fQ f=fQ f0
 I:∃x,xBlk x=xBlk n∧(xUid x=xUid n0∨xBlk n=[])∧fI f=(fI f0).set i x
 hd:n=(n0.1,n0.2.1,n0.2.2.1,n0.2.2.2.1,n0.2.2.2.2.1,xSize n,n0.2.2.2.2.2.2.1,xBlk n,n0.2.2.2.2.2.2.2.2)
 len:(xBlk n).length=m
 sz0:m=0→xSize n=0
 szl:∀j s,m=j+1→l[j]? =some s→xSize n=32*(j:Int)+(s.size:Int)
 own:∀b∈xBlk n,xUid n0*14≤b∧b<xUid n0*14+14∧b∉usedBs (fI f0)
 nodup:(xBlk n).Nodup
 nd:(fD f).length=56
 sz:∀s∈fD f,s.size=32
 same:∀b:Nat,(b:Int)∉xBlk n→(fD f)[b]? =(fD f0)[b]?
 dat:∀(j:Nat) b,(xBlk n)[j]? =some b→∃s,l[j]? =some s∧(fD f)[b.toNat]? =some (padB s 32)
section
variable {f0 f:PFS} {i m:Nat} {n0 n x0:PInode} {l:List ByteArray}
theorem set_same{α:Type}{l:List α}{i:Nat}{x:α}(h:l[i]? =some x):l.set i x=l:=by
 refine List.ext_getElem? fun j=> ?_
 rw[List.getElem?_set]
 split
 ·rename_i e;subst e;rw[if_pos (List.getElem?_eq_some_iff.1 h).1,h]
 ·rfl
theorem nz_mem{l:List Int}{b:Int}(h:b∈nz l):b∈l:=(List.mem_filter.1 h).1
theorem nz_nodup{l:List Int}(h:l.Nodup):(nz l).Nodup:=h.sublist List.filter_sublist
theorem Ch.ok(h:Ch f0 i n0 l m n f)(hw:wfs f0)(hx:(fI f0)[i]? =some x0)(hb:xBlk x0=[])(hu0:0≤xUid n0)(hu3:xUid n0≤3)(hm:m≤8):wfs f:=by
 obtain⟨x,e1,e2,e3⟩:=h.I
 have hf:f=(f.1,fQ f0,(fI f0).set i x,fD f):=by rw[←h.q,←e3]
 rw[hf]
 refine wfs_set hw hx (by rw[e1,h.len];exact hm) ?_ (by rw[e1];exact nz_nodup h.nodup) (fun b hb=> .inr ?_) _ h.nd h.sz
 ·intro j b hj hne
  have hbm:b∈xBlk n:=by rw[←e1];exact List.mem_of_getElem? hj
  obtain⟨g1,g2,_⟩:=h.own b hbm
  rcases e2 with e2|e2
  ·unfold ownAt;rw[e2];omega
  ·rw[e2]at hbm;cases hbm
 ·rw[e1]at hb;exact(h.own b (nz_mem hb)).2.2
theorem Ch.start(hw:wfs f0)(hx:(fI f0)[i]? =some x0)(hb:xBlk x0=[])(hn:xBlk n0=[])(hs:xSize n0=0):Ch f0 i n0 l 0 n0 f0 where
 t:=rfl
 q:=rfl
 I:=⟨x0,by rw[hb,hn],.inr hn,(set_same hx).symm⟩
 hd:=rfl
 len:=by rw[hn];rfl
 sz0 _:=hs
 szl j s h:=by omega
 own b h:=by rw[hn]at h;cases h
 nodup:=by rw[hn];exact List.nodup_nil
 nd:=hw.nd
 sz:=hw.sz
 same _ _:=rfl
 dat j b h:=by rw[hn]at h;simp at h
theorem Ch.next(h:Ch f0 i n0 l m n f)(hi:i<(fI f0).length){s:ByteArray}(hs:l[m]? =some s)(hs32:s.size≤32)(hfull:xSize n=32*(m:Int)){b:Int}(hb0:0≤b)(hb1:xUid n0*14≤b)(hb2:b<xUid n0*14+14)(hb3:b<56)
  (hb4:b∉usedBs (fI f)) (hx:(fI f0)[i]? =some x0) (hxb:xBlk x0=[]) (hu0:0≤xUid n0):
  Ch f0 i n0 l (m+1) (n0.1,n0.2.1,n0.2.2.1,n0.2.2.2.1,n0.2.2.2.2.1,xSize n+(s.size:Int),n0.2.2.2.2.2.2.1,xBlk n++[b],n0.2.2.2.2.2.2.2.2)
   (f.1,fQ f,(fI f).set i (n0.1,n0.2.1,n0.2.2.1,n0.2.2.2.1,n0.2.2.2.2.1,xSize n+(s.size:Int),n0.2.2.2.2.2.2.1,xBlk n++[b],n0.2.2.2.2.2.2.2.2),(fD f).set b.toNat (padB s 32)):=by
 obtain⟨x,e1,e2,e3⟩:=h.I
 have hset:∃y,(fI f0)[i]? =some y:=⟨x0,hx⟩
 have hbn:b∉xBlk n:=fun hm=>by
  refine hb4 ?_
  rw[e3,used_set hx,e1]
  refine List.mem_append.2 (.inr (List.mem_append.2 (.inl ?_)))
  unfold nz
  exact List.mem_filter.2 ⟨hm,by simp;omega⟩
 have hb0':b∉usedBs (fI f0):=fun hm=>by
  rcases used_mem_set (n:=x) hx hm with h1|h1
  ·rw[hxb]at h1;cases h1
  ·rw[←e3]at h1;exact hb4 h1
 refine⟨h.t,h.q,⟨_,rfl,.inl rfl,by show(fI f).set i _=_;rw[e3,List.set_set]⟩,rfl, ?_,fun e=>by omega,fun j s' e hj=> ?_,fun c hc=> ?_, ?_, ?_,fun s' hs'=> ?_,fun c hc=> ?_,fun j c hj=> ?_⟩
 ·show(xBlk n++[b]).length=m+1
  rw[List.length_append,h.len];rfl
 ·have:j=m:=by omega
  subst this
  rw[hs]at hj;injection hj with hj;subst hj
  show xSize n+_=_
  rw[hfull]
 ·have hc:c∈xBlk n++[b]:=hc
  rcases List.mem_append.1 hc with hc|hc
  ·exact h.own c hc
  ·rw[List.mem_singleton.1 hc];exact⟨hb1,hb2,hb0'⟩
 ·exact nodup_snoc h.nodup hbn
 ·show((fD f).set _ _).length=56
  rw[List.length_set];exact h.nd
 ·have hs':s'∈(fD f).set b.toNat (padB s 32):=hs'
  rcases List.mem_or_eq_of_mem_set hs' with h1|h1
  ·exact h.sz s' h1
  ·rw[h1,padB_size];omega
 ·have hc:(c:Int)∉xBlk n++[b]:=hc
  show((fD f).set b.toNat _)[c]? =_
  rw[List.getElem?_set_ne (fun e=>hc (by simp;right;omega))]
  exact h.same c fun hm=>hc (by simp[hm])
 ·have hj:(xBlk n++[b])[j]? =some c:=hj
  rw[List.getElem?_append]at hj
  split at hj
  ·obtain⟨s',g1,g2⟩:=h.dat j c hj
   refine⟨s',g1, ?_⟩
   show((fD f).set b.toNat _)[c.toNat]? =_
   have hcm:=List.mem_of_getElem? hj
   have hc0:0≤c:=by
    have:=(h.own c hcm).1
    have:=(h.own c hcm).2
    omega
   rw[List.getElem?_set_ne (fun e=>hbn (by rw[show b=c by omega];exact hcm))]
   exact g2
  ·rename_i hlt
   rw[h.len]at hlt hj
   have:j=m:=by
    by_cases e:j-m=0
    ·omega
    ·rw[List.getElem?_eq_none (by simp;omega)]at hj;cases hj
   subst this
   rw[Nat.sub_self]at hj
   simp at hj
   subst hj
   refine⟨s,hs, ?_⟩
   show((fD f).set b.toNat _)[b.toNat]? =_
   rw[List.getElem?_set_self (by rw[h.nd];omega)]
end
end Go.Proofs.Ytkmnlefjlhogaaa

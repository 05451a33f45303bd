/- The tables, the residual functions and lemmas of this seat: parts of the proof of the law; conditions: those that each names. -/
import Derived.Test.YtkmnlefjlhogaaaAdt
set_option linter.unusedVariables false
set_option linter.unusedSimpArgs false
set_option maxRecDepth 100000
namespace Go.Proofs.Ytkmnlefjlhogaaa
open Go.Eng
abbrev lnk1(n:PInode):PInode:=(n.1,n.2.1,n.2.2.1,n.2.2.2.1,(1:Int),n.2.2.2.2.2)
abbrev dirN(d:PInode)(t:ByteArray)(b:Int):PInode:=(d.1,d.2.1,d.2.2.1,d.2.2.2.1,d.2.2.2.2.1,((t.size:Nat):Int),d.2.2.2.2.2.2.1,[b],d.2.2.2.2.2.2.2.2)
theorem cutV_one{s:ByteArray}(h0:0<s.size)(h1:s.size≤32):cutV s.size s=[s]:=by
 obtain⟨m,hm⟩:∃m,s.size=m+1:=⟨s.size-1,by omega⟩
 rw[hm,cutV,if_neg (by omega),if_pos (by omega)]
theorem write_one{t:Int}{Q:List PQuota}{I:List PInode}{D:List ByteArray}(hI:I.length=20)(hD:D.length=56){d:PInode}{b:Int}(hd:xBlk d=[b])(b0:0≤b)(b1:b<56){a:ByteArray}(ha0:0<a.size)(ha:a.size≤32){dir:Nat}(hdir:dir<20)(z:PFS)
  (x0:PFS) (x1:Int) (x2:ByteArray) (x3:Int) (x4:PInode) (x5:ByteArray) (d1:Int×ByteArray×Int×Unit×Unit×Unit×PFS×PInode×PFS):
  Ev (fun k=>spec_l08Add_j2 k x0 x1 x2 x3 x4 x5 d1 ((dir:Int),(),(),(),a,d,(t,Q,I,D),z)) (t,Q,I.set dir (dirN d a b),D.set b.toNat (padB a 32)):=by
 simp only[spec_l08Add_j2]
 have hc:=spec_cutV_ev a (by omega)
 rw[cutV_one ha0 ha]at hc
 refine EvQ.bind hc ?_
 have hd':d.2.2.2.2.2.2.2.1=[b]:=hd
 have hbl:b.toNat<D.length:=by omega
 have hbi:b<((D.length:Nat):Int):=by omega
 refine EvL.ev (EvL.step (d':=((dir:Int),(),(),(),a,[a],(1:Int),(1:Int),d,(t,Q,I,D.set b.toNat (padB a 32)),z)) ?_ (EvL.stop ?_))
 ·simp only[EvS,spec_l08Add_l3,List.length_singleton,show((0:Int)<((1:Nat):Int))=True by simp,decide_true,cond_true,Int.le_refl,if_true,Int.toNat_zero,List.getElem?_cons_zero,Option.bind_some,hd']
  refine EvQ.bindS (spec_PadTo_ev a 32 (by omega) (by omega)) ?_
  simp only[b0,hbi,if_true,List.getElem?_eq_getElem hbl,Option.bind_some,show wrapK .i64 ((0:Int)+1)=1 from rfl,show((1:Nat):Int)=1 from rfl]
  exact EvQ.const _
 ·have hdi:(dir:Int)<((I.length:Nat):Int):=by omega
  simp only[spec_l08Add_l3,Int.lt_irrefl,decide_false,cond_false,Int.natCast_nonneg,hdi,if_true,Int.toNat_natCast,List.getElem?_eq_getElem (show dir<I.length by omega),Option.bind_some]
  have:d.2.2.2.2.2.2=(d.2.2.2.2.2.2.1,[b],d.2.2.2.2.2.2.2.2):=by rw[←hd']
  rw[this]
  exact EvQ.const _
def AddQ(f0:PFS)(dir:Nat)(name:ByteArray)(i:Nat)(n0:PInode)(d:PInode)(t:ByteArray)(l:List ByteArray)(r:PFS):Prop:=
 ∃m n f,m≤l.length∧Ch f0 i n0 l m n f∧
  ((∃b,(xBlk d=[b]∨xBlk d=[]∧xUid d*14≤b∧b<xUid d*14+14∧b∉usedBs ((fI f0).set i (lnk1 n)))∧0≤b∧b<56∧
    r=(f0.1,fQ f0,((fI f0).set i (lnk1 n)).set dir (dirN d (t++recB i name) b),(fD f).set b.toNat (padB (t++recB i name) 32)))∨
   (xBlk d=[]∧r=(f0.1,fQ f0,(fI f0).set i zeroI,clearD (xBlk n) m (fD f))))
section
variable {f0 f:PFS} {i m dir:Nat} {n0 n x0 d:PInode} {l:List ByteArray} {t name:ByteArray}
theorem Ch.wfs1(h:Ch f0 i n0 l m n f)(hw:wfs f0)(hx:(fI f0)[i]? =some x0)(hb:xBlk x0=[])(hu0:0≤xUid n0)(hu3:xUid n0≤3)(hm:m≤8):wfs (f0.1,fQ f0,(fI f0).set i (lnk1 n),fD f):=by
 refine wfs_set (n:=lnk1 n) hw hx (show(xBlk n).length≤8 by rw[h.len];exact hm) ?_ (nz_nodup h.nodup) (fun b hb=> .inr (h.own b (nz_mem hb)).2.2) _ h.nd h.sz
 intro j b hj hne
 have hbm:b∈xBlk n:=List.mem_of_getElem? hj
 obtain⟨g1,g2,_⟩:=h.own b hbm
 have e:xUid (lnk1 n)=xUid n0:=h.flds.2.2.1
 unfold ownAt;rw[e];omega
theorem add_tail(h:Ch f0 i n0 l m n f)(hml:m≤l.length)(hw:wfs f0)(hx:(fI f0)[i]? =some x0)(hxb:xBlk x0=[])(hu0:0≤xUid n0)(hu3:xUid n0≤3)(hl8:l.length≤8)(hA:(xAcl n0).length≤1000)(hD:(xDef n0).length≤1000)
  (hd:(fI f0)[dir]? =some d) (hne:dir≠i) (ht:Dir1 f0 d t) (hdu0:0≤xUid d) (hdu3:xUid d≤3) (hname:name.size≤13) (z:PFS) (y0:PFS) (y1:Int) (y2:ByteArray) (y3:Int) (y4:PInode) (y5:ByteArray):
  ∃r,Ev (fun k=>spec_l08Add_j1 k y0 y1 y2 y3 y4 y5 ((dir:Int),name,(i:Int),(),(),(),z,n,f)) r∧AddQ f0 dir name i n0 d t l r:=by
 obtain⟨g1,g2,g3,g4,g5,g6,g7⟩:=h.flds
 have hi:i<(fI f0).length:=(List.getElem?_eq_some_iff.1 hx).1
 have hi20:i<20:=by rw[←hw.ni];exact hi
 have hd20:dir<20:=by rw[←hw.ni];exact(List.getElem?_eq_some_iff.1 hd).1
 have hwf:wfs f:=h.ok hw hx hxb hu0 hu3 (by omega)
 have hif:i<(fI f).length:=by rw[hwf.ni];exact hi20
 have hw1:=h.wfs1 hw hx hxb hu0 hu3 (by omega)
 have hI:(fI f).set i (lnk1 n)=(fI f0).set i (lnk1 n):=by
  obtain⟨x,_,_,e⟩:=h.I
  rw[e,List.set_set]
 have hf1:((f.1,f.2.1,f.2.2.1.set i (lnk1 n),f.2.2.2):PFS)=(f0.1,fQ f0,(fI f0).set i (lnk1 n),fD f):=by
  rw[show f.2.2.1.set i (lnk1 n)=_ from hI,h.t,show f.2.1=_ from h.q]
 have hlA:(xAcl n).length≤1000:=by show n.2.2.2.2.2.2.2.2.1.length≤_;rw[g7];exact hA
 have hlD:(xDef n).length≤1000:=by show n.2.2.2.2.2.2.2.2.2.length≤_;rw[g7];exact hD
 have hlB:(xBlk n).length≤1000:=by rw[h.len];omega
 have hget:((fI f0).set i (lnk1 n))[dir]? =some d:=by rw[List.getElem?_set_ne (Ne.symm hne)];exact hd
 have ht1:Dir1 (f0.1,fQ f0,(fI f0).set i (lnk1 n),fD f) d t:=ht.congr fun b hb=>by
  have hz:=ht.size
  have hb':0≤b∧b<56:=by
   rcases hz with⟨e,_⟩|⟨b',e,_,_,b0,b1⟩
   ·rw[e]at hb;cases hb
   ·rw[e]at hb;rw[List.mem_singleton.1 hb];exact⟨b0,b1⟩
  refine h.same b.toNat fun hm=> ?_
  rw[show((b.toNat:Nat):Int)=b by omega]at hm
  refine(h.own b hm).2.2 ?_
  unfold usedBs
  refine List.mem_flatMap.2 ⟨d,List.mem_of_getElem? hd, ?_⟩
  unfold nz
  exact List.mem_filter.2 ⟨hb,by simp;omega⟩
 have hrs:=recB_size i hname
 refine Ev.of ?_
 simp only[spec_l08Add_j1]
 refine EvX.bind (copy_ev (lnk1 n) ⟨by unfold big;show(xBlk n).length<_;omega,by unfold big;show(xAcl n).length<_;omega,by unfold big;show(xDef n).length<_;omega⟩ ⟨hlB,hlA,hlD⟩) ?_
 have hil:(i:Int)<((f.2.2.1.length:Nat):Int):=by have:=hwf.ni;rw[show f.2.2.1.length=20 from this];omega
 have hdl:(dir:Int)<(((f.2.2.1.set i (lnk1 n)).length:Nat):Int):=by rw[List.length_set];have:=hwf.ni;rw[show f.2.2.1.length=20 from this];omega
 have hil2:(i:Int)<(((f.2.2.1.set i (lnk1 n)).length:Nat):Int):=by rw[List.length_set];exact hil
 have hget':(f.2.2.1.set i (lnk1 n))[dir]? =some d:=by rw[show f.2.2.1.set i (lnk1 n)=_ from hI];exact hget
 simp only[Int.natCast_nonneg,hil,hdl,if_true,Int.toNat_natCast,List.getElem?_eq_getElem (show i<f.2.2.1.length from hif),Option.bind_some,hget',hf1]
 refine EvX.bind (text_ev ht1) ?_
 have hw2:wrapK .i64 ((i:Int)+1)=(i:Int)+1:=i64w (by omega) (by omega)
 simp only[hw2]
 refine EvX.bind (spec_PutNumber_ev ((i:Int)+1) 2 (by omega) (by omega)) ?_
 refine EvX.bind (spec_PutNumber_ev (name.size:Int) 1 (by omega) (by omega)) ?_
 have p1:=putB_size ((i:Int)+1) 2
 have p2:=putB_size (name.size:Int) 1
 have s1:(putB ((i:Int)+1) 2).size+(putB (name.size:Int) 1).size≤9223372036854775807:=by omega
 have s2:(putB ((i:Int)+1) 2++putB (name.size:Int) 1).size+name.size≤9223372036854775807:=by rw[app_size];omega
 simp only[s1,s2,if_true]
 refine EvX.bind (spec_PadTo_ev ((putB ((i:Int)+1) 2++putB (name.size:Int) 1)++name) 16 (by omega) (by rw[app_size,app_size];omega)) ?_
 have hts:t.size≤16:=by rcases ht.size with⟨_,e,_⟩|⟨_,_,e,_⟩<;>omega
 have s3:t.size+(padB ((putB ((i:Int)+1) 2++putB (name.size:Int) 1)++name) 16).size≤9223372036854775807:=by
  have:(padB ((putB ((i:Int)+1) 2++putB (name.size:Int) 1)++name) 16).size=16:=hrs
  omega
 simp only[s3,if_true]
 have hall:(t++recB i name).size=t.size+16:=by rw[app_size,hrs]
 have hall':(t++padB ((putB ((i:Int)+1) 2++putB (name.size:Int) 1)++name) 16).size=t.size+16:=hall
 refine EvX.bind (spec_BlocksNeeded_ev (((t++padB ((putB ((i:Int)+1) 2++putB (name.size:Int) 1)++name) 16).size:Nat):Int) (by omega)) ?_
 have hneed:needI (((t++padB ((putB ((i:Int)+1) 2++putB (name.size:Int) 1)++name) 16).size:Nat):Int)=1:=by rw[hall'];unfold needI;split<;>omega
 rw[hneed]
 rcases ht.size with⟨e1,e2,e3⟩|⟨b,e1,e2,e3,b0,b1⟩
 ·have e1':d.2.2.2.2.2.2.2.1=[]:=e1
  have hdi:=hdu0
  refine EvX.join ?_
  simp only[e1',List.length_nil,show(((0:Nat):Int)<1)=True by simp,decide_true,cond_true,List.isEmpty_nil,if_true,List.nil_append]
  obtain⟨q,hq⟩:∃q,(fQ f0)[(xUid d).toNat]? =some q:=⟨_,List.getElem?_eq_getElem (by rw[hw.nq];omega)⟩
  have hev:=spec_next_ev hw1 hdu0 hdu3 (q:=q) hq
  refine EvX.bind hev ?_
  cases hv:nextV q.2 (usedBs ((fI f0).set i (lnk1 n))) (xUid d)with
  |mk b c=>
  have hv':nextV q.2 (usedBs (fI ((f0.1,fQ f0,(fI f0).set i (lnk1 n),fD f):PFS))) (xUid d)=(b,c):=hv
  have hnx:=next_ok hv
  simp only[hv']
  refine EvX.bif (fun h1=> ?_) (fun h1=> ?_)
  ·have hLb:∀b∈xBlk n,0≤b∧b<56:=fun b hb=>by have:=h.own b hb;omega
   simp only[hil2,if_true,List.getElem?_eq_getElem (show i<(f.2.2.1.set i (lnk1 n)).length by rw[List.length_set];exact hif),Option.bind_some]
   have hset:(f.2.2.1.set i (lnk1 n)).set i zeroI=(fI f0).set i zeroI:=by rw[show f.2.2.1.set i (lnk1 n)=_ from hI,List.set_set]
   obtain⟨o,ho1,ho2⟩:=clear_loop (T:=Unit) (xBlk n) hLb hlB f0.1 (fQ f0) ((fI f0).set i zeroI) (fD f) h.nd (lnk1 n) rfl z
   have hset':(f.2.2.1.set i (lnk1 n)).set i (0,0,0,0,0,0,0,[],[],[])=(fI f0).set i zeroI:=hset
   rw[hset',show f.1=f0.1 from h.t,show f.2.1=fQ f0 from h.q]
   refine⟨o,ho1,.inr ⟨_,ho2, ?_⟩⟩
   exact⟨_,fun _=>rfl,m,n,f,hml,h,.inr ⟨e1,by rw[h.len]⟩⟩
  ·have hc0:c=0:=by simpa using h1
   obtain⟨b1,b2,b3⟩:xUid d*14≤b∧b<xUid d*14+14∧b∉usedBs ((fI f0).set i (lnk1 n)):=by
    rcases hnx with⟨_,h2,h3,h4⟩|h2|h2
    ·exact⟨h2,h3,h4⟩
    ·omega
    ·omega
   have hcap:(([]:List Int).length+([b]:List Int).length)*8≤capBytes:=by unfold capBytes;show(0+1)*8≤_;omega
   simp only[List.length_nil]at hcap
   simp only[hcap,if_true]
   refine EvX.const _ (.inl ⟨_,fun _=>rfl, ?_⟩)
   have hwr:=write_one (t:=f0.1) (Q:=fQ f0) (I:=(fI f0).set i (lnk1 n)) (D:=fD f) hw1.ni hw1.nd (d:=(d.1,d.2.1,d.2.2.1,d.2.2.2.1,d.2.2.2.2.1,d.2.2.2.2.2.1,d.2.2.2.2.2.2.1,[b],d.2.2.2.2.2.2.2.2)) (b:=b) rfl (by omega) (by omega) (a:=t++recB i name) (by omega) (by omega) hd20 z y0 y1 y2 y3 y4 y5 ((dir:Int),name,(i:Int),(),(),(),z,n,f)
   refine EvX.ofEv hwr ⟨_,fun _=>rfl,m,n,f,hml,h,.inl ⟨b,.inr ⟨e1,b1,b2,b3⟩,by omega,by omega,rfl⟩⟩
 ·have e1':d.2.2.2.2.2.2.2.1=[b]:=e1
  refine EvX.join ?_
  simp only[e1',List.length_singleton,show(((1:Nat):Int)<1)=False by simp,decide_false,cond_false]
  refine EvX.const _ (.inl ⟨_,fun _=>rfl, ?_⟩)
  have hwr:=write_one (t:=f0.1) (Q:=fQ f0) (I:=(fI f0).set i (lnk1 n)) (D:=fD f) hw1.ni hw1.nd (d:=d) (b:=b) e1 b0 b1 (a:=t++recB i name) (by omega) (by omega) hd20 z y0 y1 y2 y3 y4 y5 ((dir:Int),name,(i:Int),(),(),(),z,n,f)
  refine EvX.ofEv hwr ⟨_,fun _=>rfl,m,n,f,hml,h,.inl ⟨b,.inl e1,b0,b1,rfl⟩⟩
end
end Go.Proofs.Ytkmnlefjlhogaaa

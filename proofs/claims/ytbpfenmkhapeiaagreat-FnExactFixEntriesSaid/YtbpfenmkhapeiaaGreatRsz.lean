/- The tables, the residual functions and lemmas of this seat: parts of the proof of the law; conditions: those that each names. -/
import Derived.Test.YtbpfenmkhapeiaaGreatWrv
set_option linter.unusedVariables false
set_option linter.unusedSimpArgs false
set_option maxRecDepth 100000
namespace Go.Proofs.YtbpfenmkhapeiaaGreat
open Go.Eng
def zeroAll(D:List ByteArray)(l:List Int):List ByteArray:=D.mapIdx fun j x=>if(j:Int)∈l then zero32 else x
def zerosB(m:Nat):ByteArray:=ofBytes (List.replicate m (0:Int))
def cutB(x:ByteArray)(r:Nat):ByteArray:=x.extract 0 r++zerosB (32-r)
def partD(D:List ByteArray)(r:Nat)(b:Int):List ByteArray:=if b= -1 then D else D.set b.toNat (cutB ((D[b.toNat]?).getD emptyB) r)
def needN(z:Nat):Nat:=(needI (z:Int)).toNat
def rsD(D:List ByteArray)(n:PInode)(z:Nat):List ByteArray:=
 if(z:Int)<xSize n∧0<z % 32 then match(xBlk n)[needN z-1]? with
  |some b=>partD (zeroAll D ((xBlk n).drop (needN z))) (z % 32) b
  |none=>zeroAll D ((xBlk n).drop (needN z))
 else zeroAll D ((xBlk n).drop (needN z))
def rsN(n:PInode)(z:Nat):PInode:=setSz (setBs n ((xBlk (extN n (needN z))).take (needN z))) z
def rsV(f:PFS)(i:Nat)(n:PInode)(z:Nat):PFS:=fsWith f i (rsN n z) (rsD (fD f) n z)
section
variable {f:PFS} {i:Nat}
theorem GT.inl'{S T R:Type}{G:(S→Option R)→Prop}{t t':T}{Q:Prop}(e:t'=t)(h:Q):GT t Q G (fun _=>some (.inl t')):=by subst e;exact GT.inl h
theorem EvX.ge{S D R:Type}{F:Nat→S×(D→Option R)→Option R}{Q:R→Prop}(h:EvX F (GR Q)):EvX F (GE (GR Q)):=by
 obtain⟨o,h1,r,h2,h3⟩:=h
 exact⟨o,h1,fun _=>some r,h2,r,fun _=>rfl,h3⟩
theorem zero_len(D:List ByteArray)(l:List Int):(zeroAll D l).length=D.length:=by simp[zeroAll]
theorem zero_get{D:List ByteArray}{l:List Int}{j:Nat}{x:ByteArray}(h:D[j]? =some x):(zeroAll D l)[j]? =some (if(j:Int)∈l then zero32 else x):=by rw[zeroAll,List.getElem?_mapIdx,h];rfl
theorem zero_nil(D:List ByteArray):zeroAll D []=D:=by
 refine List.ext_getElem? fun j=> ?_
 rw[zeroAll,List.getElem?_mapIdx]
 cases D[j]? <;>simp
theorem zero_congr{D:List ByteArray}{l l':List Int}(h:∀j:Nat,(j:Int)∈l↔(j:Int)∈l'):zeroAll D l=zeroAll D l':=by
 refine List.ext_getElem? fun j=> ?_
 cases hx:D[j]? with
 |none=>rw[List.getElem?_eq_none (by rw[zero_len];exact List.getElem?_eq_none_iff.1 hx),List.getElem?_eq_none (by rw[zero_len];exact List.getElem?_eq_none_iff.1 hx)]
 |some x=>rw[zero_get hx,zero_get hx];simp only[h j]
theorem zero_set{D:List ByteArray}{l l':List Int}{b:Int}(hb:0≤b)(h:∀j:Nat,(j:Int)∈l'↔(j:Int)∈l∨(j:Int)=b):(zeroAll D l).set b.toNat zero32=zeroAll D l':=by
 refine List.ext_getElem? fun j=> ?_
 rw[List.getElem?_set]
 cases hx:D[j]? with
 |none=>
  have hd:=List.getElem?_eq_none_iff.1 hx
  rw[List.getElem?_eq_none (l:=zeroAll D l') (by rw[zero_len];exact hd)]
  split
  ·rw[if_neg (by rw[zero_len];omega)]
  ·exact List.getElem?_eq_none (by rw[zero_len];exact hd)
 |some x=>
  have hd:=(List.getElem?_eq_some_iff.1 hx).1
  rw[zero_get hx,zero_get hx]
  split
  ·rename_i e
   rw[if_pos (by rw[zero_len];omega),if_pos ((h j).2 (.inr (by omega)))]
  ·rename_i e
   have:(j:Int)∈l'↔(j:Int)∈l:=(h j).trans ⟨fun g=>g.resolve_right fun e2=>e (by omega),.inl⟩
   simp only[this]
theorem zero_sizes{D:List ByteArray}(hs:∀s∈D,s.size=32)(l:List Int):∀s∈zeroAll D l,s.size=32:=fun s hm=>by
 obtain⟨j,hj⟩:=List.getElem?_of_mem hm
 cases hx:D[j]? with
 |none=>rw[List.getElem?_eq_none (by rw[zero_len];exact List.getElem?_eq_none_iff.1 hx)]at hj;cases hj
 |some x=>
  rw[zero_get hx]at hj
  injection hj with hj
  subst hj
  split
  ·exact zero32_size
  ·exact hs x (List.mem_of_getElem? hx)
theorem zerosK_ev(m:Nat)(h:m≤1000000):Ev (fun k=>c_impl_zeros k (m:Int)) (zerosB m):=by
 refine EvQ.run (fun k=>impl_zeros_run k _) ?_
 have c:(m:Int)*1≤(capBytes:Int):=by unfold capBytes;omega
 simp only[impl_zeros,Int.natCast_nonneg,Int.le_refl,if_true,c,Int.toNat_natCast]
 exact EvQ.const _
theorem cut_size{x:ByteArray}{r:Nat}(hx:x.size=32)(hr:r≤32):(cutB x r).size=32:=by
 simp only[cutB,zerosB,app_size,ByteArray.size_extract,ofBytes_size,List.length_replicate];omega
theorem cut_pad{x:ByteArray}{r:Nat}(hx:x.size=32)(hr:r≤32):padB (x.extract 0 r) 32=cutB x r:=by
 refine bext ?_
 have hs:(x.extract 0 r).size=r:=by rw[ByteArray.size_extract];omega
 rw[padB,cutB,zerosB,append_list,ofBytes_list,ofBytes_list,List.map_append,bytes_id,hs]
theorem partD_ok{D:List ByteArray}(hs:∀s∈D,s.size=32){r:Nat}(hr:r≤32){b:Int}(h0:b≠ -1→0≤b∧b<D.length):(partD D r b).length=D.length∧∀s∈partD D r b,s.size=32:=by
 unfold partD
 split
 ·exact⟨rfl,hs⟩
 ·rename_i hb
  obtain⟨h1,h2⟩:=h0 hb
  have hx:D[b.toNat]? =some D[b.toNat]:=List.getElem?_eq_getElem (by omega)
  refine⟨by simp,set_sizes hs ?_⟩
  rw[hx]
  exact cut_size (hs _ (List.mem_of_getElem? hx)) hr
theorem need_le{z:Nat}(h:z≤256):needN z≤8:=by unfold needN needI;split<;>omega
theorem needN_eq(z:Nat):((needN z:Nat):Int)=needI (z:Int):=by unfold needN needI;split<;>omega
theorem drop_rep{l:List Int}{a b:Nat}:∀j:Nat,(j:Int)∈(l++List.replicate a (-1)).drop b↔(j:Int)∈l.drop b:=fun j=>by
 rw[List.drop_append,List.mem_append]
 refine⟨fun h=>h.resolve_right fun h=> ?_,.inl⟩
 have:=List.mem_of_mem_drop h
 rw[List.mem_replicate]at this
 omega
theorem take_mem{l:List Int}{t:Nat}{b:Int}(h:l[t]? =some b)(x:Int):x∈l.take (t+1)↔x∈l.take t∨x=b:=by
 have:l.take (t+1)=l.take t++[b]:=by rw[List.take_add_one,h];rfl
 rw[this,List.mem_append,List.mem_singleton]
abbrev RW:=Unit×Int×Unit×Int×PFS
theorem impl_rs_cut(hi:i<(fI f).length){n m:PInode}{z:Nat}(hz:z≤256)(hm:xSize m=xSize n){D:List ByteArray}(hs:∀s∈D,s.size=32)(hD:D.length=56)(hl:(xBlk m).length=needN z)(hg:(z:Int)<xSize n→∀b,(xBlk m)[needN z-1]? =some b→(xBlk n)[needN z-1]? =some b)(hown:∀b,(xBlk m)[needN z-1]? =some b→b≠ -1→0≤b∧b<56)
  {R:List ByteArray} (hR:R=if(z:Int)<xSize n∧0<z % 32 then(match(xBlk n)[needN z-1]? with|some b=>partD D (z % 32) b|none=>D)else D) {S:Type} (a0:PInode) (a1:RW) (d:Unit×Int×Unit×Int×Unit×Int×Int×PFS) (sf:S→(Unit×Int×Unit×Int×Unit×Int×Int×PFS)→Option (Int×PFS)):
  EvX (fun k s=>impl_FS_resize_l1_j1 k a0 a1 (i:Int) (sf s) d ((),(z:Int),(),((needN z:Nat):Int),fsWith f i m D)) (GR fun x=>x=(0,fsWith f i (setSz m z) R)):=by
 have hgm:∀(m:PInode),((fI f).set i m)[i]? =some m:=fun m=>List.getElem?_set_self hi
 have q5:(32:Int)≠0:=by decide
 have q2:(z:Int).tmod 32=((z % 32:Nat):Int):=by rw[Int.ofNat_tmod];rfl
 have hms:m.2.2.2.2.2.1=xSize n:=hm
 simp only[impl_FS_resize_l1_j1,q5,ne_eq,not_false_eq_true,if_true,q2,hgm,Option.bind_some,Int.toNat_natCast,hms]
 by_cases c1:(0:Int)<((z % 32:Nat):Int)
 case neg=>
  have e:R=D:=by rw[hR,if_neg (by omega)]
  simp only[c1,decide_false,cond_false]
  refine EvX.const _ (GR.ret ?_)
  rw[e,List.set_set];rfl
 simp only[c1,decide_true,cond_true]
 by_cases c2:(z:Int)<xSize n
 case neg=>
  have e:R=D:=by rw[hR,if_neg (by omega)]
  simp only[c2,decide_false,cond_false]
  refine EvX.const _ (GR.ret ?_)
  rw[e,List.set_set];rfl
 have hn1:1≤needN z:=by unfold needN needI;split<;>omega
 have hn8:=need_le hz
 have w1:wrapK .i64 (((needN z:Nat):Int)-1)=((needN z-1:Nat):Int):=by rw[i64w (by omega) (by omega)];omega
 obtain⟨b,hb⟩:∃b,(xBlk m)[needN z-1]? =some b:=⟨_,List.getElem?_eq_getElem (by omega)⟩
 have hb':m.2.2.2.2.2.2.2.1[needN z-1]? =some b:=hb
 have hlen:needN z-1<m.2.2.2.2.2.2.2.1.length:=by show _<(xBlk m).length;omega
 have hnb:=hg c2 b hb
 have hRe:R=partD D (z % 32) b:=by rw[hR,if_pos ⟨c2,by omega⟩,hnb]
 simp only[c2,decide_true,cond_true,w1,Int.natCast_nonneg,Int.ofNat_lt,hlen,if_true,Int.toNat_natCast,hb',Option.bind_some]
 refine EvX.bif (fun h=> ?_) (fun h=> ?_)
 ·have hne:b≠ -1:=by simpa using h
  obtain⟨b0,b1⟩:=hown b hb hne
  have hx:D[b.toNat]? =some D[b.toNat]:=List.getElem?_eq_getElem (by omega)
  have hxs:=hs _ (List.mem_of_getElem? hx)
  generalize D[b.toNat]=x at hx hxs
  have b2:b<((D.length:Nat):Int):=by omega
  have z1:z % 32≤x.size:=by omega
  have w2:wrapK .i64 (32-((z % 32:Nat):Int))=((32-z % 32:Nat):Int):=by rw[i64w (by omega) (by omega)];omega
  simp only[b0,b2,if_true,hx,Option.bind_some,Int.ofNat_le,z1,w2]
  refine EvX.bind (zerosK_ev _ (by omega)) (EvX.ifp ?_ ?_)
  ·rw[ByteArray.size_extract,zerosB,ofBytes_size,List.length_replicate];omega
  ·refine EvX.const _ (GR.ret ?_)
   rw[hRe,partD,if_neg hne,hx,List.set_set];rfl
 ·have hbe:b= -1:=by simpa using h
  refine EvX.const _ (GR.ret ?_)
  rw[hRe,partD,if_pos hbe,List.set_set];rfl
theorem rs_take_len(n:PInode){z:Nat}:(xBlk (setBs n ((xBlk (extN n (max (xBlk n).length (needN z)))).take (needN z)))).length=needN z:=by
 show((xBlk (extN n (max (xBlk n).length (needN z)))).take (needN z)).length=needN z
 rw[List.length_take,ext_len n (by omega)];omega
theorem rs_same(n:PInode)(z:Nat):(xBlk (extN n (max (xBlk n).length (needN z)))).take (needN z)=(xBlk (extN n (needN z))).take (needN z):=by
 show(xBlk n++List.replicate (max (xBlk n).length (needN z)-(xBlk n).length) (-1)).take (needN z)=(xBlk n++List.replicate (needN z-(xBlk n).length) (-1)).take (needN z)
 rw[show max (xBlk n).length (needN z)-(xBlk n).length=needN z-(xBlk n).length by omega]
theorem ext_get_old{n:PInode}{t j:Nat}{b:Int}(h:(xBlk (extN n t))[j]? =some b)(hb:b≠ -1):(xBlk n)[j]? =some b:=by
 have h:(xBlk n++List.replicate (t-(xBlk n).length) (-1))[j]? =some b:=h
 rcases Nat.lt_or_ge j (xBlk n).length with e|e
 ·rwa[List.getElem?_append_left e]at h
 ·rw[List.getElem?_append_right e,List.getElem?_replicate]at h
  split at h
  ·injection h with h;exact absurd h.symm hb
  ·cases h
theorem impl_resize_ev(hP:wfs f){n:PInode}(hn:(fI f)[i]? =some n)(hl:(z:Nat)→(z:Int)<xSize n→needN z≤(xBlk n).length)(z:Nat)(hz:z≤256):Ev (fun k=>c_impl_FS_resize k (f,(i:Int),(z:Int))) (0,rsV f i n z):=by
 have hi:=(List.getElem?_eq_some_iff.1 hn).1
 have hn':f.2.2.1[i]? =some n:=hn
 have hi':i<f.2.2.1.length:=hi
 have hbl:(xBlk n).length≤8:=hP.len i n hn
 have hnd:=need_le hz
 have hgm:∀(m:PInode),((fI f).set i m)[i]? =some m:=fun m=>List.getElem?_set_self hi
 have hown:∀j b,(xBlk n)[j]? =some b→b≠ -1→0≤b∧b<56:=fun j b hj hb=>⟨(hP.own i n hn j b hj hb).1,(hP.own i n hn j b hj hb).2.1⟩
 refine EvQ.run (fun k=>impl_FS_resize_run k _ _ _) ?_
 have c1:¬(z:Int)<0:=by omega
 have c2:¬(256:Int)<(z:Int):=by omega
 simp only[impl_FS_resize,c1,c2,decide_false,cond_false,Int.natCast_nonneg,if_true,Int.ofNat_lt,hi',Int.toNat_natCast]
 refine EvQ.bind (impl_BlocksNeeded_ev (z:Int) (by omega)) ?_
 rw[←needN_eq]
 refine Ev.eq ?_
 have eS:fsWith f i (extN n (xBlk n).length) (fD f)=f:=by rw[ext_zero];exact fsWith_self hn
 have hcap:∀m:Nat,m≤100→(m+([(-1:Int)]:List Int).length)*8≤capBytes:=fun m hm=>by simp only[List.length_singleton];exact sc _ _
 have goal:EvX (fun k (_:Unit)=>iter k (impl_FS_resize_l2 k (i:Int)) ((),(z:Int),(),((needN z:Nat):Int),fsWith f i (extN n (xBlk n).length) (fD f))) (GR fun x=>x=(0,rsV f i n z)):=by
  refine EvX.upto (L:=fun k _=>impl_FS_resize_l2 k (i:Int)) (max (xBlk n).length (needN z)) (fun(_:Unit) t=>((),(z:Int),(),((needN z:Nat):Int),fsWith f i (extN n t) (fD f))) (fun _ t=>(xBlk n).length≤t) (fun st t ht inv=> ?_) (fun st inv=> ?_) () (xBlk n).length (by omega) (Nat.le_refl _)
  ·have hlt:(extN n t).2.2.2.2.2.2.2.1.length=t:=ext_len n inv
   have c:t<needN z:=by omega
   simp only[impl_FS_resize_l2,hgm,Option.bind_some,Int.toNat_natCast,hlt,Int.ofNat_lt,c,decide_true,cond_true,if_pos (hcap t (by omega)),if_true,List.set_set]
   refine EvX.const _ (GL.self () ?_ (by omega))
   rw[ext_succ n inv];rfl
  ·have hlt:(extN n (max (xBlk n).length (needN z))).2.2.2.2.2.2.2.1.length=max (xBlk n).length (needN z):=ext_len n (by omega)
   have c:¬max (xBlk n).length (needN z)<needN z:=by omega
   have c5:needN z≤max (xBlk n).length (needN z):=by omega
   simp only[impl_FS_resize_l2,hgm,Option.bind_some,Int.toNat_natCast,hlt,Int.ofNat_lt,c,decide_false,cond_false,Int.natCast_nonneg,if_true,Int.ofNat_le,c5,and_self]
   generalize hN:max (xBlk n).length (needN z)=N at*
   have hN8:N≤8:=by omega
   have hdr:∀j:Nat,(j:Int)∈((xBlk (extN n N)).drop (needN z))↔(j:Int)∈(xBlk n).drop (needN z):=drop_rep
   have hh:EvX (fun k (_:Unit)=>iter k (impl_FS_resize_l1 k (extN n N) ((),(z:Int),(),((needN z:Nat):Int),fsWith f i (extN n N) (fD f)) (i:Int)) ((),(z:Int),(),((needN z:Nat):Int),(),((N-needN z:Nat):Int),(0:Int),fsWith f i (extN n N) (fD f))) (GR fun x=>x=(0,rsV f i n z)):=by
    rw[←zero_nil (fD f)]
    refine EvX.upto (L:=fun k _=>impl_FS_resize_l1 k (extN n N) ((),(z:Int),(),((needN z:Nat):Int),fsWith f i (extN n N) (zeroAll (fD f) [])) (i:Int)) (N-needN z) (fun(_:Unit) t=>((),(z:Int),(),((needN z:Nat):Int),(),((N-needN z:Nat):Int),((t:Nat):Int),fsWith f i (extN n N) (zeroAll (fD f) (((xBlk (extN n N)).drop (needN z)).take t)))) (fun _ _=>True) (fun st t ht _=> ?_) (fun st _=> ?_) () 0 (Nat.zero_le _) trivial
    ·obtain⟨b,hb⟩:∃b,(xBlk (extN n N))[needN z+t]? =some b:=⟨_,List.getElem?_eq_getElem (by show _<(extN n N).2.2.2.2.2.2.2.1.length;omega)⟩
     have hb':(extN n N).2.2.2.2.2.2.2.1[needN z+t]? =some b:=hb
     have hbd:((xBlk (extN n N)).drop (needN z))[t]? =some b:=by rw[List.getElem?_drop];exact hb
     have tm:=take_mem hbd
     have c7:t<(extN n N).2.2.2.2.2.2.2.1.length-needN z:=by rw[hlt];exact ht
     simp only[impl_FS_resize_l1,Int.ofNat_lt,ht,decide_true,cond_true,Int.natCast_nonneg,if_true,Int.toNat_natCast,c7,hgm,Option.bind_some,hb',and_self,wS t]
     refine EvX.bif (fun h=> ?_) (fun h=> ?_)
     ·have hne:b≠ -1:=by simpa using h
      obtain⟨b0,b1⟩:=hown _ b (ext_get_old hb hne) hne
      have hdl:(zeroAll (fD f) (((xBlk (extN n N)).drop (needN z)).take t)).length=56:=by rw[zero_len];exact hP.nd
      have b2:b<((((zeroAll (fD f) (((xBlk (extN n N)).drop (needN z)).take t)).length:Nat)):Int):=by rw[hdl];omega
      have hx:(zeroAll (fD f) (((xBlk (extN n N)).drop (needN z)).take t))[b.toNat]? =some (zeroAll (fD f) (((xBlk (extN n N)).drop (needN z)).take t))[b.toNat]:=List.getElem?_eq_getElem (by omega)
      refine EvX.bind zeros_ev ?_
      simp only[b0,b2,if_true,hx,Option.bind_some]
      refine EvX.const _ (GL.self () ?_ trivial)
      rw[zero_set b0 (l':=((xBlk (extN n N)).drop (needN z)).take (t+1)) fun j=>tm j]
     ·have hbe:b= -1:=by simpa using h
      refine EvX.const _ (GL.self () ?_ trivial)
      rw[zero_congr (l':=((xBlk (extN n N)).drop (needN z)).take t) fun j=>(tm j).trans ⟨fun g=>g.resolve_right fun e=>by omega,.inl⟩]
    ·have hdl:((xBlk (extN n N)).drop (needN z)).length=N-needN z:=by
      rw[List.length_drop];show(extN n N).2.2.2.2.2.2.2.1.length-_=_;omega
     rw[←hdl,List.take_length,zero_congr hdr]
     have c8:needN z≤(extN n N).2.2.2.2.2.2.2.1.length:=by omega
     have htl:=rs_take_len n (z:=z)
     rw[hN]at htl
     have hcutb:∀b,((xBlk (extN n N)).take (needN z))[needN z-1]? =some b→(xBlk (extN n N))[needN z-1]? =some b:=fun b hb=>by
      rw[List.getElem?_take]at hb
      split at hb
      ·exact hb
      ·cases hb
     have hcut:=impl_rs_cut (S:=Unit×((Unit×Int×Unit×Int×Unit×Int×Int×PFS)→Option (Int×PFS))) hi hz (n:=n) (m:=setBs n ((xBlk (extN n N)).take (needN z))) rfl (zero_sizes hP.sz ((xBlk n).drop (needN z))) (by rw[zero_len];exact hP.nd) htl
      (fun hlt b hb0=>by
       have hb:=hcutb b hb0
       have hlen:=hl z hlt
       have h1:1≤needN z∨needN z=0:=by omega
       have hb:(xBlk n++List.replicate (N-(xBlk n).length) (-1))[needN z-1]? =some b:=hb
       rcases h1 with h1|h1
       ·rwa[List.getElem?_append_left (by omega)]at hb
       ·exfalso
        have hz0:z=0:=by unfold needN needI at h1;split at h1<;>omega
        have:((xBlk (extN n N)).take (needN z)).length=0:=by rw[List.length_take];omega
        have hb2:((xBlk (extN n N)).take (needN z))=[]:=List.eq_nil_of_length_eq_zero this
        have hb3:((xBlk (extN n N)).take (needN z))[needN z-1]? =some b:=hb0
        rw[hb2]at hb3
        simp at hb3)
      (fun b hb hne=>hown _ b (ext_get_old (hcutb b hb) hne) hne) (R:=rsD (fD f) n z) rfl
     simp only[impl_FS_resize_l1,Int.lt_irrefl,decide_false,cond_false,hgm,Option.bind_some,Int.toNat_natCast,Int.natCast_nonneg,if_true,Int.ofNat_le,c8]
     refine EvX.joinT ((),(z:Int),(),((needN z:Nat):Int),fsWith f i (setBs n ((xBlk (extN n N)).take (needN z))) (zeroAll (fD f) ((xBlk n).drop (needN z)))) True ?_ (fun _=> ?_)
     ·refine EvX.bif (fun h=> ?_) (fun h=> ?_)
      ·have h0:needN z=0:=by simpa using h
       simp only[Nat.sub_zero,List.set_set,hgm,Option.bind_some]
       refine EvX.const _ (GT.inl' ?_ trivial)
       rw[h0];rfl
      ·simp only[Nat.sub_zero]
       refine EvX.const _ (GT.inl' ?_ trivial)
       rw[List.set_set];rfl
     ·have eR:fsWith f i (setSz (setBs n ((xBlk (extN n N)).take (needN z))) (z:Int)) (rsD (fD f) n z)=rsV f i n z:=by
       have:=rs_same n z
       rw[hN]at this
       rw[this];rfl
      rw[eR]at hcut
      exact EvX.ge (hcut _ _ _ Prod.snd)
   exact EvX.out hh
 rw[eS]at goal
 exact goal
abbrev RD:=Int×Int×Unit×Unit×Unit×Int×PInode×PFS×PFS
def mkR(f:PFS)(i z:Nat)(m:PInode)(D:List ByteArray):RD:=((i:Int),(z:Int),(),(),(),((needN z:Nat):Int),m,(f.1,f.2.1,fI f,D),zF)
theorem rs_blk(n:PInode)(z:Nat):xBlk (extN (setBs n ((xBlk n).take (needN z))) (needN z))=(xBlk (extN n (needN z))).take (needN z):=by
 show(xBlk n).take (needN z)++List.replicate (needN z-((xBlk n).take (needN z)).length) (-1)=(xBlk n++List.replicate (needN z-(xBlk n).length) (-1)).take (needN z)
 rw[List.take_append,List.length_take,List.take_replicate]
 congr 2
 omega
theorem spec_rs_ext(hi:i<(fI f).length)(n:PInode){z:Nat}(hz:z≤256)(D:List ByteArray)(S:Type):EvX (fun k (_:S)=>iter k (spec_l09Resize_l1 k) (mkR f i z (setBs n ((xBlk n).take (needN z))) D)) (GR fun x=>x=fsWith f i (rsN n z) D):=by
 have hnd:=need_le hz
 have hi':i<f.2.2.1.length:=hi
 have hx:f.2.2.1[i]? =some f.2.2.1[i]:=List.getElem?_eq_getElem hi'
 have hl0:(xBlk (setBs n ((xBlk n).take (needN z)))).length≤needN z:=by show((xBlk n).take (needN z)).length≤_;rw[List.length_take];omega
 generalize hm:setBs n ((xBlk n).take (needN z))=m at*
 have hcap:∀m:Nat,m≤100→(m+([(-1:Int)]:List Int).length)*8≤capBytes:=fun m hm=>by simp only[List.length_singleton];exact sc _ _
 rw[←ext_zero m]
 refine EvX.upto (L:=fun k _=>spec_l09Resize_l1 k) (needN z) (fun(_:Unit) t=>mkR f i z (extN m t) D) (fun _ t=>(xBlk m).length≤t) (fun st t ht inv=> ?_) (fun st inv=> ?_) () (xBlk m).length hl0 (Nat.le_refl _)
 ·have hlt:(extN m t).2.2.2.2.2.2.2.1.length=t:=ext_len m inv
  simp only[spec_l09Resize_l1,mkR,hlt,Int.ofNat_lt,ht,decide_true,cond_true,if_pos (hcap t (by omega))]
  refine EvX.const _ (GL.self () ?_ (by omega))
  show _=mkR f i z (extN m (t+1)) D
  rw[ext_succ m inv];rfl
 ·have hlt:(extN m (needN z)).2.2.2.2.2.2.2.1.length=needN z:=ext_len m inv
  simp only[spec_l09Resize_l1,mkR,hlt,Int.lt_irrefl,decide_false,cond_false,Int.natCast_nonneg,if_true,Int.ofNat_lt,hi',Int.toNat_natCast,hx,Option.bind_some]
  refine EvX.const _ (GE.ret (GR.ret ?_))
  have e:=rs_blk n z
  rw[hm]at e
  subst hm
  show(f.1,f.2.1,(fI f).set i (setSz (setBs n (xBlk (extN (setBs n ((xBlk n).take (needN z))) (needN z)))) (z:Int)),D)=_
  rw[e];rfl
theorem spec_resize_ev(hP:wfs f)(hfc:fsCap f){n:PInode}(hn:(fI f)[i]? =some n)(hl:(z:Nat)→(z:Int)<xSize n→needN z≤(xBlk n).length)(z:Nat)(hz:z≤256):Ev (fun k=>c_spec_l09Resize k (f,(i:Int),(z:Int))) (rsV f i n z):=by
 have hi:=(List.getElem?_eq_some_iff.1 hn).1
 have hn':f.2.2.1[i]? =some n:=hn
 have hi':i<f.2.2.1.length:=hi
 have hbl:(xBlk n).length≤8:=hP.len i n hn
 have hnd:=need_le hz
 have hown:∀j b,(xBlk n)[j]? =some b→b≠ -1→0≤b∧b<56:=fun j b hj hb=>⟨(hP.own i n hn j b hj hb).1,(hP.own i n hn j b hj hb).2.1⟩
 refine EvQ.run (fun k=>spec_l09Resize_run k _ _ _) ?_
 simp only[spec_l09Resize]
 refine EvQ.bind (spec_copyFS_ev f hfc) ?_
 simp only[Int.natCast_nonneg,if_true,Int.ofNat_lt,hi',Int.toNat_natCast,hn',Option.bind_some]
 refine EvQ.bind (spec_copyInode_ev n (hfc.2.2.2 n (List.mem_of_getElem? hn))) (EvQ.bind (spec_BlocksNeeded_ev (z:Int) (by omega)) ?_)
 rw[←needN_eq]
 refine Ev.eq ?_
 have start:((i:Int),(z:Int),(),(),(),((needN z:Nat):Int),n,f,((0:Int),([]:List DQuota),([]:List DInode),([]:List ByteArray)))=mkR f i z (setBs n ((xBlk n).take ((xBlk n).length-0))) (zeroAll (fD f) ((xBlk n).drop ((xBlk n).length-0))):=by
  rw[Nat.sub_zero,List.take_length,List.drop_length,zero_nil];rfl
 rw[start]
 refine EvX.upto (L:=fun k _=>spec_l09Resize_l2 k) ((xBlk n).length-needN z) (fun(_:Unit) t=>mkR f i z (setBs n ((xBlk n).take ((xBlk n).length-t))) (zeroAll (fD f) ((xBlk n).drop ((xBlk n).length-t)))) (fun _ _=>True) (fun st t ht _=> ?_) (fun st _=> ?_) () 0 (Nat.zero_le _) trivial
 ·have hlt:(setBs n ((xBlk n).take ((xBlk n).length-t))).2.2.2.2.2.2.2.1.length=(xBlk n).length-t:=by show((xBlk n).take ((xBlk n).length-t)).length=_;rw[List.length_take];omega
  have c:needN z<(xBlk n).length-t:=by omega
  have w:wrapK .i64 (((xBlk n).length-t:Nat)-1:Int)=(((xBlk n).length-t-1:Nat):Int):=by rw[i64w (by omega) (by omega)];omega
  obtain⟨b,hb⟩:∃b,(xBlk n)[(xBlk n).length-t-1]? =some b:=⟨_,List.getElem?_eq_getElem (by omega)⟩
  have hb':(setBs n ((xBlk n).take ((xBlk n).length-t))).2.2.2.2.2.2.2.1[(xBlk n).length-t-1]? =some b:=by
   show((xBlk n).take ((xBlk n).length-t))[(xBlk n).length-t-1]? =some b
   rw[List.getElem?_take,if_pos (by omega)];exact hb
  have c2:(xBlk n).length-t-1<(xBlk n).length-t:=by omega
  have c3:(xBlk n).length-t-1≤(xBlk n).length-t:=by omega
  have hdm:∀x:Int,x∈(xBlk n).drop ((xBlk n).length-t-1)↔x∈(xBlk n).drop ((xBlk n).length-t)∨x=b:=fun x=>by
   have hd:(xBlk n).drop ((xBlk n).length-t-1)=b::(xBlk n).drop ((xBlk n).length-t-1+1):=by
    rw[List.drop_eq_getElem_cons (by omega)]
    have:=(List.getElem?_eq_some_iff.1 hb).2
    rw[this]
   rw[hd,show(xBlk n).length-t-1+1=(xBlk n).length-t by omega,List.mem_cons]
   exact Or.comm
  simp only[spec_l09Resize_l2,mkR,hlt,Int.ofNat_lt,c,decide_true,cond_true,w,Int.natCast_nonneg,if_true,c2,Int.toNat_natCast,hb',Option.bind_some]
  refine EvX.joinT (mkR f i z (setBs n ((xBlk n).take ((xBlk n).length-t))) (zeroAll (fD f) ((xBlk n).drop ((xBlk n).length-t-1)))) True ?_ (fun _=> ?_)
  ·refine EvX.bif (fun h=> ?_) (fun h=> ?_)
   ·have hne:b≠ -1:=by simpa using h
    obtain⟨b0,b1⟩:=hown _ b hb hne
    have hdl:(zeroAll (fD f) ((xBlk n).drop ((xBlk n).length-t))).length=56:=by rw[zero_len];exact hP.nd
    have b2:b<(((zeroAll (fD f) ((xBlk n).drop ((xBlk n).length-t))).length:Nat):Int):=by rw[hdl];omega
    have hx:(zeroAll (fD f) ((xBlk n).drop ((xBlk n).length-t)))[b.toNat]? =some (zeroAll (fD f) ((xBlk n).drop ((xBlk n).length-t)))[b.toNat]:=List.getElem?_eq_getElem (by omega)
    refine EvX.bind pad32_ev ?_
    simp only[b0,b2,if_true,hx,Option.bind_some]
    refine EvX.const _ (GT.inl' ?_ trivial)
    rw[mkR,←zero_set b0 (l:=(xBlk n).drop ((xBlk n).length-t)) fun j=>hdm j]
   ·have hbe:b= -1:=by simpa using h
    refine EvX.const _ (GT.inl' ?_ trivial)
    rw[mkR,zero_congr (l':=(xBlk n).drop ((xBlk n).length-t)) fun j=>(hdm j).trans ⟨fun g=>g.resolve_right fun e=>by omega,.inl⟩]
  ·simp only[spec_l09Resize_l2_j1,mkR,hlt,w,Int.natCast_nonneg,if_true,Int.ofNat_le,c3,Int.toNat_natCast,Nat.sub_zero]
   refine EvX.const _ (GL.self () ?_ trivial)
   show _=mkR f i z (setBs n ((xBlk n).take ((xBlk n).length-(t+1)))) (zeroAll (fD f) ((xBlk n).drop ((xBlk n).length-(t+1))))
   rw[mkR,show(xBlk n).length-(t+1)=(xBlk n).length-t-1 by omega]
   show _=((i:Int),(z:Int),(),(),(),((needN z:Nat):Int),setBs n _,_,zF)
   have e:((setBs n ((xBlk n).take ((xBlk n).length-t))).2.2.2.2.2.2.2.1).take ((xBlk n).length-t-1)=(xBlk n).take ((xBlk n).length-t-1):=by
    show((xBlk n).take ((xBlk n).length-t)).take ((xBlk n).length-t-1)=_
    rw[List.take_take];congr 1;omega
   rw[e];rfl
 ·have eM:(xBlk n).take ((xBlk n).length-((xBlk n).length-needN z))=(xBlk n).take (needN z):=by
   rcases Nat.lt_or_ge (needN z) (xBlk n).length with g|g
   ·congr 1;omega
   ·rw[List.take_of_length_le g,List.take_of_length_le (by omega)]
  have eD:(xBlk n).drop ((xBlk n).length-((xBlk n).length-needN z))=(xBlk n).drop (needN z):=by
   rcases Nat.lt_or_ge (needN z) (xBlk n).length with g|g
   ·congr 1;omega
   ·rw[List.drop_eq_nil_of_le g,List.drop_eq_nil_of_le (by omega)]
  rw[eM,eD]
  have hlt:(setBs n ((xBlk n).take (needN z))).2.2.2.2.2.2.2.1.length=min (needN z) (xBlk n).length:=by show((xBlk n).take (needN z)).length=_;rw[List.length_take]
  have hsz:(setBs n ((xBlk n).take (needN z))).2.2.2.2.2.1=xSize n:=rfl
  have c:¬needN z<min (needN z) (xBlk n).length:=by omega
  have q5:(32:Int)≠0:=by decide
  have q2:(z:Int).tmod 32=((z % 32:Nat):Int):=by rw[Int.ofNat_tmod];rfl
  have hzs:=zero_sizes hP.sz ((xBlk n).drop (needN z))
  have hzl:(zeroAll (fD f) ((xBlk n).drop (needN z))).length=56:=by rw[zero_len];exact hP.nd
  have fin:∀(S:Type) (d:RD) (self:S→RD→Option PFS),EvX (fun k (p:S)=>spec_l09Resize_l2_j2 k (self p) d (mkR f i z (setBs n ((xBlk n).take (needN z))) (rsD (fD f) n z))) (GR fun x=>x=rsV f i n z):=fun S d self=>by
   simp only[spec_l09Resize_l2_j2,mkR]
   exact spec_rs_ext hi n hz _ S
  simp only[spec_l09Resize_l2,mkR,hlt,hsz,Int.ofNat_lt,c,decide_false,cond_false,q5,ne_eq,not_false_eq_true,if_true,q2]
  refine EvX.joinT (mkR f i z (setBs n ((xBlk n).take (needN z))) (rsD (fD f) n z)) True ?_ (fun _=>EvX.ge (fin _ _ Prod.snd))
  by_cases c2:(z:Int)<xSize n
  case neg=>
   simp only[c2,decide_false,cond_false]
   refine EvX.const _ (GT.inl' ?_ trivial)
   rw[mkR,rsD,if_neg (by omega)]
  simp only[c2,decide_true,cond_true]
  by_cases c1:(0:Int)<((z % 32:Nat):Int)
  case neg=>
   have c1':¬0<z % 32:=by omega
   simp only[c1,decide_false,cond_false]
   refine EvX.const _ (GT.inl' ?_ trivial)
   rw[mkR,rsD,if_neg (by omega)]
  have c1':0<z % 32:=by omega
  have hn1:1≤needN z:=by unfold needN needI;split<;>omega
  have hlen:=hl z c2
  have w1:wrapK .i64 (((needN z:Nat):Int)-1)=((needN z-1:Nat):Int):=by rw[i64w (by omega) (by omega)];omega
  obtain⟨b,hb⟩:∃b,(xBlk n)[needN z-1]? =some b:=⟨_,List.getElem?_eq_getElem (by omega)⟩
  have hb':(setBs n ((xBlk n).take (needN z))).2.2.2.2.2.2.2.1[needN z-1]? =some b:=by
   show((xBlk n).take (needN z))[needN z-1]? =some b
   rw[List.getElem?_take,if_pos (by omega)];exact hb
  have c4:needN z-1<min (needN z) (xBlk n).length:=by omega
  have hRe:rsD (fD f) n z=partD (zeroAll (fD f) ((xBlk n).drop (needN z))) (z % 32) b:=by rw[rsD,if_pos ⟨c2,c1'⟩,hb]
  have c4':((needN z-1:Nat):Int)<((min (needN z) (xBlk n).length:Nat):Int):=by omega
  simp only[c1,decide_true,cond_true,w1,Int.natCast_nonneg,if_true,c4',Int.toNat_natCast,hb',Option.bind_some]
  refine EvX.bif (fun h=> ?_) (fun h=> ?_)
  ·have hne:b≠ -1:=by simpa using h
   obtain⟨b0,b1⟩:=hown _ b hb hne
   have hx:(zeroAll (fD f) ((xBlk n).drop (needN z)))[b.toNat]? =some (zeroAll (fD f) ((xBlk n).drop (needN z)))[b.toNat]:=List.getElem?_eq_getElem (by omega)
   have hxs:=hzs _ (List.mem_of_getElem? hx)
   generalize (zeroAll (fD f) ((xBlk n).drop (needN z)))[b.toNat]=x at hx hxs
   have b2:b<(((zeroAll (fD f) ((xBlk n).drop (needN z))).length:Nat):Int):=by omega
   have z1:z % 32≤x.size:=by omega
   simp only[b0,b2,if_true,hx,Option.bind_some,Int.ofNat_le,z1]
   have hp:=spec_PadTo_ev (x.extract 0 (z % 32)) 32 (by omega) (by rw[ByteArray.size_extract];omega)
   rw[cut_pad hxs (by omega)]at hp
   refine EvX.bind hp ?_
   refine EvX.const _ (GT.inl' ?_ trivial)
   rw[mkR,hRe,partD,if_neg hne,hx];rfl
  ·have hbe:b= -1:=by simpa using h
   refine EvX.const _ (GT.inl' ?_ trivial)
   rw[mkR,hRe,partD,if_pos hbe]
end
end Go.Proofs.YtbpfenmkhapeiaaGreat

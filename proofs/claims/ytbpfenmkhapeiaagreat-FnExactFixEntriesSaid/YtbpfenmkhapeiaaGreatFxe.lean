/- The tables, the residual functions and lemmas of this seat: parts of the proof of the law; conditions: those that each names. -/
import Derived.Test.YtbpfenmkhapeiaaGreatRsz
import Derived.Test.YtbpfenmkhapeiaaGreatBad
set_option linter.unusedVariables false
set_option linter.unusedSimpArgs false
set_option maxRecDepth 100000
namespace Go.Proofs.YtbpfenmkhapeiaaGreat
open Go.Eng
section
variable {f:PFS} {i:Nat}
theorem rs_ok(hP:wfs f){n:PInode}(hn:(fI f)[i]? =some n){z:Nat}(hz:z≤256):wfs (rsV f i n z):=by
 have hi:=(List.getElem?_eq_some_iff.1 hn).1
 have hnd:=need_le hz
 have hbl:(xBlk n).length≤8:=hP.len i n hn
 have hS:∀(j:Nat) x,((fI f).set i (rsN n z))[j]? =some x→x=rsN n z∨(fI f)[j]? =some x:=fun j x hj=>by
  by_cases e:i=j
  ·subst e;rw[List.getElem?_set_self hi]at hj;injection hj with hj;exact .inl hj.symm
  ·rw[List.getElem?_set_ne e]at hj;exact .inr hj
 have hb:xBlk (rsN n z)=(xBlk (extN n (needN z))).take (needN z):=rfl
 have hzs:=zero_sizes hP.sz ((xBlk n).drop (needN z))
 have hzl:(zeroAll (fD f) ((xBlk n).drop (needN z))).length=56:=by rw[zero_len];exact hP.nd
 have hrs:(rsD (fD f) n z).length=56∧∀s∈rsD (fD f) n z,s.size=32:=by
  unfold rsD
  split
  ·split
   ·rename_i b hb
    have:=partD_ok hzs (r:=z % 32) (by omega) (b:=b) (fun hne=>by
     have:=hP.own i n hn _ b hb hne
     rw[hzl]
     exact⟨this.1,this.2.1⟩)
    exact⟨by rw[this.1];exact hzl,this.2⟩
   ·exact⟨hzl,hzs⟩
  ·exact⟨hzl,hzs⟩
 refine⟨hP.nq, ?_,hrs.1,fun j x hj=> ?_,fun j x hj=> ?_, ?_,hrs.2⟩
 ·show((fI f).set i (rsN n z)).length=20
  rw[List.length_set];exact hP.ni
 ·rcases hS j x hj with rfl|h
  ·rw[hb,List.length_take];omega
  ·exact hP.len j x h
 ·rcases hS j x hj with rfl|h
  ·intro t b ht hne
   rw[hb,List.getElem?_take]at ht
   split at ht
   ·exact hP.own i n hn t b (ext_get_old ht hne) hne
   ·cases ht
  ·exact hP.own j x h
 ·show(usedBs ((fI f).set i (rsN n z))).Nodup
  have h1:=hP.nodup
  rw[←set_at hn,used_set hi]at h1
  rw[used_set hi]
  have hsub:(nz (xBlk (rsN n z))).Sublist (nz (xBlk n)):=by
   rw[hb,←nz_rep (xBlk n) (needN z-(xBlk n).length)]
   exact(List.take_sublist _ _).filter _
  exact((hsub.append_right _).append_left _).nodup h1
theorem wrL_ok(hi:i<(fI f).length){a K:Nat}{s:ByteArray}(hs:0<s.size)(hK:K=(a+s.size-1) / 32+1){q:Int}{n':PInode}{D':List ByteArray}:∀(m k:Nat) (n:PInode) (D:List ByteArray),k+m=K→a / 32≤k→wOK f i n D→wrL q (useOf f i) a s m k n D= .inl (n',D')→
  wOK f i n' D'∧xUid n'=xUid n∧xSize n'=xSize n∧inA n'=inA n∧inD n'=inD n∧n'.1=n.1
 |0,k,n,D,_,_,h,hw=>by
  simp only[wrL,Sum.inl.injEq,Prod.mk.injEq]at hw
  obtain⟨rfl,rfl⟩:=hw
  exact⟨h,rfl,rfl,rfl,rfl,rfl⟩
 |m+1,k,n,D,hk,ha,h,hw=>by
  simp only[wrL]at hw
  split at hw
  ·cases hw
  ·rename_i b hb
   split at hw
   ·rename_i hbe
    subst hbe
    split at hw
    ·rename_i hc
     generalize hr:nextV q (useOf f i n) (xUid n)=r at*
     obtain⟨c,code⟩:=r
     simp only at hc hw
     subst hc
     have hok:=next_ok hr
     have hok:xUid n*14≤c∧c<xUid n*14+14∧c∉useOf f i n:=by
      rcases hok with⟨_,h⟩|h|h
      ·exact h
      ·omega
      ·omega
     have u0:=h.u0
     have u3:=h.u3
     have h2:=h.alloc hi hb hok.1 hok.2.1 hok.2.2 rfl h.w.sz
     obtain⟨x,hx,hxs⟩:=h.sz (b:=c) (by omega) (by omega)
     have h3:=h2.data hi (b:=c.toNat) (x:=pieceW ((D[c.toNat]?).getD emptyB) s a k) (by rw[hx];exact pieceW_size hxs ha (by omega) hs)
     obtain⟨g1,g2,g3,g4,g5,g6⟩:=wrL_ok hi hs hK m (k+1) _ _ (by omega) (by omega) h3 hw
     exact⟨g1,g2,g3,g4,g5,g6⟩
    ·cases hw
   ·rename_i hne
    have ho:=h.own hi k b hb hne
    obtain⟨x,hx,hxs⟩:=h.sz ho.1 ho.2.1
    have h3:=h.data hi (b:=b.toNat) (x:=pieceW ((D[b.toNat]?).getD emptyB) s a k) (by rw[hx];exact pieceW_size hxs ha (by omega) hs)
    exact wrL_ok hi hs hK m (k+1) _ _ (by omega) (by omega) h3 hw
theorem wr_ok(hP:wfs f){n:PInode}(hn:(fI f)[i]? =some n)(h0:0≤xUid n)(h3:xUid n≤3)(z0:0≤xSize n)(z1:xSize n≤256){at_:Int}{s:ByteArray}{g:PFS}(h:wrV f i at_ s=(g,0)):
  g=f∨∃n' D',g=fsWith f i n' D'∧wOK f i n' D'∧xUid n'=xUid n∧inA n'=inA n∧inD n'=inD n∧n'.1=n.1:=by
 have hi:=(List.getElem?_eq_some_iff.1 hn).1
 unfold wrV at h
 split at h
 ·injection h with _ h;exact absurd h (by decide)
 ·split at h
  ·injection h with _ h;exact absurd h (by decide)
  ·split at h
   ·injection h with h _;exact .inl h.symm
   ·rename_i c1 c2 c3
    cases hw:wrN f i at_.toNat s with
    |inr c=>
     rw[hw]at h
     injection h with h hc
     exact .inl h.symm
    |inl r=>
     obtain⟨n',D'⟩:=r
     rw[hw]at h
     injection h with h _
     simp only[wrN,hn]at hw
     rw[padN_ext]at hw
     have hzz:0≤max (xSize n) ((at_.toNat+s.size:Nat):Int)∧max (xSize n) ((at_.toNat+s.size:Nat):Int)≤256:=by omega
     have hnd:=need_nat hzz.1 hzz.2
     have hS:=wOK.start hP hn h0 h3
     have hbl:=hS.len hi
     have hX:=hS.ext hi (t:=max (xBlk n).length (needI (max (xSize n) ((at_.toNat+s.size:Nat):Int))).toNat) (by omega) (max (xSize n) ((at_.toNat+s.size:Nat):Int))
     obtain⟨g1,g2,g3,g4,g5,g6⟩:=wrL_ok hi (a:=at_.toNat) (K:=(at_.toNat+s.size-1) / 32+1) (s:=s) (by omega) rfl _ _ _ _ (by omega) (Nat.le_refl _) hX hw
     exact .inr ⟨n',D',h.symm,g1,g2,g4,g5,g6⟩
noncomputable def keepL(f:PFS)(l:List PEnt):Nat→List PEnt
 |0=>[]
 |j+1=>match l[j]? with
  |some e=>bif !dangB f e&& !againB l j e then keepL f l j++[e]else keepL f l j
  |none=>keepL f l j
theorem keepL_mem{l:List PEnt}:∀{j:Nat} {e:PEnt},e∈keepL f l j→e∈l
 |0,e,h=>by simp[keepL]at h
 |j+1,e,h=>by
  simp only[keepL]at h
  split at h
  ·rename_i x hx
   cases hb: !dangB f x&& !againB l j x with
   |true=>
    rw[hb,cond_true,List.mem_append,List.mem_singleton]at h
    rcases h with h|rfl
    ·exact keepL_mem h
    ·exact List.mem_of_getElem? hx
   |false=>rw[hb,cond_false]at h;exact keepL_mem h
  ·exact keepL_mem h
theorem keepL_len(l:List PEnt):∀j,(keepL f l j).length≤j
 |0=>Nat.le_refl _
 |j+1=>by
  have ih:=keepL_len l j
  simp only[keepL]
  split
  ·cases !dangB f _&& !againB l j _<;>simp<;>omega
  ·omega
theorem recsV_pre(l m:List PEnt):∀j,j≤l.length→recsV (l++m) j=recsV l j
 |0,_=>rfl
 |j+1,h=>by
  simp only[recsV]
  rw[List.getElem?_append_left (by omega),recsV_pre l m j (by omega)]
theorem recs_snoc(l:List PEnt)(e:PEnt):recsV (l++[e]) (l++[e]).length=recsV l l.length++recV e:=by
 rw[List.length_append,List.length_singleton]
 have hx:(l++[e])[l.length]? =some e:=by simp
 simp only[recsV,hx]
 rw[recsV_pre l [e] l.length (Nat.le_refl _)]
theorem rec16{e:PEnt}(h:e.1.size≤12):(recV e).size≤16:=by
 have h1:=putB_size (e.2+1) 2
 have h2:=putB_size (e.1.size:Int) 1
 simp only[recV,padB,ofBytes_size,List.length_append,List.length_replicate,bytesOf_len,app_size]
 omega
theorem recs16{l:List PEnt}(h:∀e∈l,e.1.size≤12):∀j,(recsV l j).size≤16*j
 |0=>Nat.le_refl _
 |j+1=>by
  have ih:=recs16 h j
  simp only[recsV]
  split
  ·rename_i e he
   have h1:=rec16 (h e (List.mem_of_getElem? he))
   rw[app_size];omega
  ·omega
noncomputable def keepT(f:PFS)(n:PInode):ByteArray:=recsV (keepL f (entsV f n) (entsV f n).length) (keepL f (entsV f n) (entsV f n).length).length
noncomputable def fxStep(f out:PFS)(j:Nat):PFS:=match(fI f)[j]? with
 |some n=>if n.1=2 then(if(wrV (rsV out j n (keepT f n).size) j 0 (keepT f n)).2=0 then(wrV (rsV out j n (keepT f n).size) j 0 (keepT f n)).1 else out)else out
 |none=>out
noncomputable def fxE(f:PFS):Nat→PFS
 |0=>f
 |j+1=>fxStep f (fxE f j) j
structure eOK (f out:PFS) (j:Nat):Prop where
 w:wfs out
 same:∀(t:Nat) n,(fI out)[t]? =some n→∃m,(fI f)[t]? =some m∧inA n=inA m∧inD n=inD m
 rest:∀t,j≤t→(fI out)[t]? =(fI f)[t]?
 q:out.2.1=f.2.1
theorem ino_acl{n:PInode}(h:inodeP n):(inA n).length≤6∧(inD n).length≤6:=by
 rcases h with h|h
 ·subst h;exact⟨Nat.zero_le _,Nat.zero_le _⟩
 ·exact⟨h.2.2.1.1,h.2.2.2.1.1⟩
theorem eOK.acl(hP:fsP f){out:PFS}{j:Nat}(h:eOK f out j){t:Nat}{n:PInode}(hn:(fI out)[t]? =some n):(inB n).length≤8∧(inA n).length≤6∧(inD n).length≤6:=by
 obtain⟨m,hm,h1,h2⟩:=h.same t n hn
 have:=ino_acl (hP.ino t m hm)
 rw[h1,h2]
 exact⟨h.w.len t n hn,this⟩
theorem eOK.cap(hP:fsP f){out:PFS}{j:Nat}(h:eOK f out j):fsCap out:=by
 refine⟨by rw[h.w.nq];omega,by rw[h.w.ni];omega,by rw[h.w.nd];omega,fun n hn=> ?_⟩
 obtain⟨t,ht⟩:=List.getElem?_of_mem hn
 have:=h.acl hP ht
 exact⟨by omega,by omega,by omega⟩
theorem keepT_size(hP:fsP f){j:Nat}{n:PInode}(hn:(fI f)[j]? =some n):(keepT f n).size≤256:=by
 have hel:=ents_len (blk_ok hP hn) (hP.ino _ _ hn)
 have hk:=keepL_len (f:=f) (entsV f n) (entsV f n).length
 have:=recs16 (l:=keepL f (entsV f n) (entsV f n).length) (fun e he=>(ents_mem (keepL_mem he)).1.1.2) (keepL f (entsV f n) (entsV f n).length).length
 unfold keepT
 omega
theorem fx_dir(hP:fsP f){j:Nat}{n:PInode}(hn:(fI f)[j]? =some n)(h2:n.1=2):(0≤xUid n∧xUid n≤3)∧(0≤xSize n∧xSize n≤256)∧∀z:Nat,(z:Int)<xSize n→needN z≤(xBlk n).length:=by
 have hu:usedP n:=(inode_iff (by omega)).1 (hP.ino j n hn)
 have h4:=hu.2.1.2.1
 have hs:=size_of hu
 have hl:=used_len hu
 refine⟨h4,hs,fun z hz=> ?_⟩
 have e:=needN_eq z
 unfold needI at e hl
 split at e<;>split at hl<;>omega
theorem fxStep_ok(hP:fsP f){out:PFS}{j:Nat}(h:eOK f out j):eOK f (fxStep f out j) (j+1):=by
 have keep:eOK f out (j+1):=⟨h.w,h.same,fun t ht=>h.rest t (by omega),h.q⟩
 unfold fxStep
 split
 ·rename_i n hn
  split
  ·rename_i h2
   split
   ·rename_i hc
    obtain⟨hu,hs,hl⟩:=fx_dir hP hn h2
    have hno:(fI out)[j]? =some n:=by rw[h.rest j (Nat.le_refl _)];exact hn
    have hjo:=(List.getElem?_eq_some_iff.1 hno).1
    have hkt:=keepT_size hP hn
    have hw:=rs_ok h.w hno hkt
    have hni:(fI (rsV out j n (keepT f n).size))[j]? =some (rsN n (keepT f n).size):=List.getElem?_set_self hjo
    have hres:wrV (rsV out j n (keepT f n).size) j 0 (keepT f n)=((wrV (rsV out j n (keepT f n).size) j 0 (keepT f n)).1,0):=Prod.ext rfl hc
    have hsz:xSize (rsN n (keepT f n).size)=((keepT f n).size:Int):=rfl
    generalize (wrV (rsV out j n (keepT f n).size) j 0 (keepT f n)).1=g at hres
    -- the file system behind the resize
    have hr:eOK f (rsV out j n (keepT f n).size) (j+1):=by
     refine⟨hw,fun t m hm=> ?_,fun t ht=> ?_,h.q⟩
     ·have hm:((fI out).set j (rsN n (keepT f n).size))[t]? =some m:=hm
      by_cases e:j=t
      ·subst e
       rw[List.getElem?_set_self hjo]at hm
       injection hm with hm
       subst hm
       exact⟨n,hn,rfl,rfl⟩
      ·rw[List.getElem?_set_ne e]at hm
       exact h.same t m hm
     ·show((fI out).set j (rsN n (keepT f n).size))[t]? =_
      rw[List.getElem?_set_ne (by omega)]
      exact h.rest t (by omega)
    rcases wr_ok hw hni (by exact hu.1) (by exact hu.2) (by rw[hsz];omega) (by rw[hsz];omega) hres with rfl|⟨n',D',rfl,g1,g2,g3,g4,g5⟩
    ·exact hr
    ·refine⟨g1.w,fun t m hm=> ?_,fun t ht=> ?_,h.q⟩
     ·have hm:((fI (rsV out j n (keepT f n).size)).set j n')[t]? =some m:=hm
      by_cases e:j=t
      ·subst e
       rw[List.getElem?_set_self (List.getElem?_eq_some_iff.1 hni).1]at hm
       injection hm with hm
       subst hm
       exact⟨n,hn,g3,g4⟩
      ·rw[List.getElem?_set_ne e]at hm
       exact hr.same t m hm
     ·show((fI (rsV out j n (keepT f n).size)).set j n')[t]? =_
      rw[List.getElem?_set_ne (by omega)]
      exact hr.rest t ht
   ·exact keep
  ·exact keep
 ·exact keep
theorem fxE_ok(hP:fsP f):∀j,eOK f (fxE f j) j
 |0=>⟨hP.w,fun t n hn=>⟨n,hn,rfl,rfl⟩,fun t _=>rfl,rfl⟩
 |j+1=>fxStep_ok hP (fxE_ok hP j)
theorem eOK.size(hP:fsP f){out:PFS}{j:Nat}(h:eOK f out j):szM_FS out≤10000:=by
 have e2:szM_FS out=out.2.1.length+(out.2.2.1.length+(out.2.2.1.map szM_Inode).sum)+(out.2.2.2.length+(out.2.2.2.map fun y=>y.size).sum):=rfl
 have k1:∀(l:List PInode),(∀n∈l,szM_Inode n≤20)→(l.map szM_Inode).sum≤20*l.length:=fun l=>by
  induction l with
  |nil=>intro _;simp
  |cons n l ih=>
   intro hl
   have:=ih fun m hm=>hl m (by simp[hm])
   have:=hl n (by simp)
   simp only[List.map_cons,List.sum_cons,List.length_cons];omega
 have k2:∀(l:List ByteArray),(∀s∈l,s.size=32)→(l.map fun y=>y.size).sum≤32*l.length:=fun l=>by
  induction l with
  |nil=>intro _;simp
  |cons n l ih=>
   intro hl
   have:=ih fun m hm=>hl m (by simp[hm])
   have:=hl n (by simp)
   simp only[List.map_cons,List.sum_cons,List.length_cons];omega
 have a1:=k1 out.2.2.1 (fun n hn=>by
  obtain⟨t,ht⟩:=List.getElem?_of_mem hn
  have:=h.acl hP ht
  have e:szM_Inode n=(inB n).length+(inA n).length+(inD n).length:=rfl
  omega)
 have a2:=k2 out.2.2.2 h.w.sz
 have b1:out.2.1.length=4:=h.w.nq
 have b2:out.2.2.1.length=20:=h.w.ni
 have b3:out.2.2.2.length=56:=h.w.nd
 omega
theorem fxRun_spec(hP:fsP f){out:PFS}{j:Nat}{n:PInode}(h:eOK f out j)(hn:(fI f)[j]? =some n)(h2:n.1=2):
  ∃g c,Ev (fun k=>c_spec_l09Resize k (out,(j:Int),((keepT f n).size:Int))) g∧Ev (fun k=>c_spec_l09Write k (g,(j:Int),(0:Int),keepT f n)) c∧fxStep f out j=if c.2=0 then c.1 else out:=by
 obtain⟨hu,hs,hl⟩:=fx_dir hP hn h2
 have hno:(fI out)[j]? =some n:=by rw[h.rest j (Nat.le_refl _)];exact hn
 have hjo:=(List.getElem?_eq_some_iff.1 hno).1
 have hkt:=keepT_size hP hn
 have hw:=rs_ok h.w hno hkt
 have hni:(fI (rsV out j n (keepT f n).size))[j]? =some (rsN n (keepT f n).size):=List.getElem?_set_self hjo
 have hsz:xSize (rsN n (keepT f n).size)=((keepT f n).size:Int):=rfl
 have hcap:fsCap (rsV out j n (keepT f n).size):=by
  refine⟨by rw[hw.nq];omega,by rw[hw.ni];omega,by rw[hw.nd];omega,fun m hm=> ?_⟩
  obtain⟨t,ht⟩:=List.getElem?_of_mem hm
  have hl8:=hw.len t m ht
  have ht:((fI out).set j (rsN n (keepT f n).size))[t]? =some m:=ht
  have hb:(inB m).length≤8:=hl8
  by_cases e:j=t
  ·subst e
   rw[List.getElem?_set_self hjo]at ht
   injection ht with ht
   subst ht
   have:=h.acl hP hno
   have e1:inA (rsN n (keepT f n).size)=inA n:=rfl
   have e2:inD (rsN n (keepT f n).size)=inD n:=rfl
   exact⟨by omega,by rw[e1];omega,by rw[e2];omega⟩
  ·rw[List.getElem?_set_ne e]at ht
   have:=h.acl hP ht
   exact⟨by omega,by omega,by omega⟩
 refine⟨_,_,spec_resize_ev h.w (h.cap hP) hno hl _ hkt,spec_write_ev hw hcap hni hu.1 hu.2 (by rw[hsz];omega) (by rw[hsz];omega) 0 (keepT f n) (by unfold big;omega), ?_⟩
 simp only[fxStep,hn,if_pos h2]
theorem fxRun_impl(hP:fsP f){out:PFS}{j:Nat}{n:PInode}(h:eOK f out j)(hn:(fI f)[j]? =some n)(h2:n.1=2):
  ∃g c,Ev (fun k=>c_impl_FS_resize k (out,(j:Int),((keepT f n).size:Int))) (0,g)∧Ev (fun k=>c_impl_FS_write k (g,(j:Int),(0:Int),keepT f n)) c∧fxStep f out j=if c.1=0 then c.2 else out:=by
 obtain⟨hu,hs,hl⟩:=fx_dir hP hn h2
 have hno:(fI out)[j]? =some n:=by rw[h.rest j (Nat.le_refl _)];exact hn
 have hjo:=(List.getElem?_eq_some_iff.1 hno).1
 have hkt:=keepT_size hP hn
 have hw:=rs_ok h.w hno hkt
 have hni:(fI (rsV out j n (keepT f n).size))[j]? =some (rsN n (keepT f n).size):=List.getElem?_set_self hjo
 have hsz:xSize (rsN n (keepT f n).size)=((keepT f n).size:Int):=rfl
 obtain⟨g,h3,h4⟩:=impl_write_ev hw hni hu.1 hu.2 (by rw[hsz];omega) (by rw[hsz];omega) 0 (keepT f n) (by unfold big;omega)
 refine⟨_,_,impl_resize_ev h.w hno hl _ hkt,h3, ?_⟩
 simp only[fxStep,hn,if_pos h2]
 split
 ·rename_i hc;rw[h4 hc]
 ·rfl
end
end Go.Proofs.YtbpfenmkhapeiaaGreat

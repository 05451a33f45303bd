/- The tables, the residual functions and lemmas of this seat: parts of the proof of the law; conditions: those that each names. -/
import Derived.Test.YtbpfenmkhapeiaaGreatWrt
set_option linter.unusedVariables false
set_option linter.unusedSimpArgs false
set_option maxRecDepth 100000
namespace Go.Proofs.YtbpfenmkhapeiaaGreat
open Go.Eng
section
variable {f:PFS} {i:Nat}
theorem set_at{l:List PInode}{n:PInode}(h:l[i]? =some n):l.set i n=l:=by
 refine List.ext_getElem? fun j=> ?_
 rw[List.getElem?_set]
 by_cases e:i=j
 ·subst e;rw[if_pos rfl,if_pos (List.getElem?_eq_some_iff.1 h).1,h]
 ·rw[if_neg e]
theorem fsWith_self{n:PInode}(h:(fI f)[i]? =some n):fsWith f i n (fD f)=f:=by
 show(f.1,f.2.1,(fI f).set i n,fD f)=f
 rw[set_at h]
theorem wOK.start(hP:wfs f){n:PInode}(h:(fI f)[i]? =some n)(h0:0≤xUid n)(h3:xUid n≤3):wOK f i n (fD f):=⟨by rw[fsWith_self h];exact hP,h0,h3⟩
def extN(n:PInode)(t:Nat):PInode:=setBs n (xBlk n++List.replicate (t-(xBlk n).length) (-1))
theorem nz_rep(l:List Int)(m:Nat):nz (l++List.replicate m (-1))=nz l:=by
 rw[nz,List.filter_append]
 have:(List.replicate m (-1:Int)).filter (fun b=> !(b== -1))=[]:=by simp
 rw[this,List.append_nil];rfl
theorem wOK.ext(hi:i<(fI f).length){n:PInode}{D:List ByteArray}(h:wOK f i n D){t:Nat}(ht:t≤8)(z:Int):wOK f i (extN (setSz n z) t) D:=by
 have hl:=h.len hi
 refine h.next hi ?_ (fun j c hj hc=> ?_) rfl ?_ rfl h.w.sz
 ·show((xBlk n)++List.replicate (t-(xBlk n).length) (-1)).length≤8
  rw[List.length_append,List.length_replicate];omega
 ·have hj:((xBlk n)++List.replicate (t-(xBlk n).length) (-1))[j]? =some c:=hj
  rcases Nat.lt_or_ge j (xBlk n).length with e|e
  ·rw[List.getElem?_append_left e]at hj
   exact h.own hi j c hj hc
  ·rw[List.getElem?_append_right e,List.getElem?_replicate]at hj
   split at hj
   ·injection hj with hj;exact absurd hj.symm hc
   ·cases hj
 ·rw[use_same hi (n:=extN (setSz n z) t) (m:=n) (nz_rep _ _)]
  exact h.w.nodup
theorem ext_succ(n:PInode){t:Nat}(h:(xBlk n).length≤t):extN n (t+1)=setBs n (xBlk (extN n t)++[-1]):=by
 have e:t+1-(xBlk n).length=(t-(xBlk n).length)+1:=by omega
 show setBs n (xBlk n++List.replicate (t+1-(xBlk n).length) (-1))=setBs n ((xBlk n++List.replicate (t-(xBlk n).length) (-1))++[-1])
 rw[e,List.replicate_succ',List.append_assoc]
theorem ext_len(n:PInode){t:Nat}(h:(xBlk n).length≤t):(xBlk (extN n t)).length=t:=by
 show(xBlk n++List.replicate (t-(xBlk n).length) (-1)).length=t
 rw[List.length_append,List.length_replicate];omega
theorem ext_zero(n:PInode):extN n (xBlk n).length=n:=by
 show setBs n (xBlk n++List.replicate ((xBlk n).length-(xBlk n).length) (-1))=n
 rw[Nat.sub_self]
 show setBs n (xBlk n++[])=n
 rw[List.append_nil];rfl
theorem need_nat{z:Int}(h0:0≤z)(h1:z≤256):0≤needI z∧needI z≤8:=by
 unfold needI;split<;>omega
theorem padN_ext(n:PInode):padN n=extN n (max (xBlk n).length (needI (xSize n)).toNat):=by
 show setBs n (xBlk n++List.replicate ((needI (xSize n)).toNat-(xBlk n).length) (-1))=setBs n (xBlk n++List.replicate (max (xBlk n).length (needI (xSize n)).toNat-(xBlk n).length) (-1))
 rw[show max (xBlk n).length (needI (xSize n)).toNat-(xBlk n).length=(needI (xSize n)).toNat-(xBlk n).length by omega]
theorem impl_write_ev(hP:wfs f){n:PInode}(hn:(fI f)[i]? =some n)(h0:0≤xUid n)(h3:xUid n≤3)(z0:0≤xSize n)(z1:xSize n≤256)(at_:Int)(s:ByteArray)(hs:s.size<big):
  ∃g,Ev (fun k=>c_impl_FS_write k (f,(i:Int),at_,s)) ((wrV f i at_ s).2,g)∧((wrV f i at_ s).2=0→g=(wrV f i at_ s).1):=by
 have hi:=(List.getElem?_eq_some_iff.1 hn).1
 unfold big at hs
 suffices h:∃x:Int×PFS,Ev (fun k=>c_impl_FS_write k (f,(i:Int),at_,s)) x∧(x.1=(wrV f i at_ s).2∧((wrV f i at_ s).2=0→x.2=(wrV f i at_ s).1))by
  obtain⟨⟨c,g⟩,h1,h2,h4⟩:=h
  simp only at h2
  subst h2
  exact⟨g,h1,h4⟩
 refine Ev.of (Q:=fun x:Int×PFS=>x.1=(wrV f i at_ s).2∧((wrV f i at_ s).2=0→x.2=(wrV f i at_ s).1)) ?_ |>.imp fun _ h=>⟨EvQ.run (fun k=>impl_FS_write_run k _ _ _ _) h.1,h.2⟩
 simp only[impl_FS_write]
 by_cases c1:at_<0
 ·simp only[c1,decide_true,cond_true]
  exact EvX.const _ (GR.ret (by simp[wrV,c1]))
 simp only[c1,decide_false,cond_false]
 by_cases c2:(256:Int)<at_
 ·simp only[c2,decide_true,cond_true]
  have c3:(256:Int)<at_+s.size:=by omega
  exact EvX.const _ (GR.ret (by simp[wrV,c1,c3]))
 simp only[c2,decide_false,cond_false]
 have w:wrapK .i64 (256-at_)=256-at_:=i64w (by omega) (by omega)
 simp only[w]
 by_cases c3:256-at_<(s.size:Int)
 ·simp only[c3,decide_true,cond_true]
  have c3:(256:Int)<at_+s.size:=by omega
  exact EvX.const _ (GR.ret (by simp[wrV,c1,c3]))
 simp only[c3,decide_false,cond_false]
 have c3':¬(256:Int)<at_+s.size:=by omega
 by_cases c4:s.size=0
 ·have e:eqS s (⟨#[]⟩:ByteArray)=true:=(eqS_iff _ _).2 (ByteArray.ext (Array.size_eq_zero_iff.1 c4))
  simp only[e,cond_true]
  refine EvX.const _ (GR.ret ?_)
  simp only[wrV,if_neg c1,if_neg c3',if_pos c4]
  exact⟨trivial,fun _=>trivial⟩
 have e:eqS s (⟨#[]⟩:ByteArray)=false:=by
  cases h:eqS s (⟨#[]⟩:ByteArray)with
  |false=>rfl
  |true=>rw[(eqS_iff _ _).1 h]at c4;exact absurd rfl c4
 obtain⟨a,rfl⟩:∃a:Nat,at_=(a:Int):=⟨at_.toNat,by omega⟩
 have hn':f.2.2.1[i]? =some n:=hn
 have hi':i<f.2.2.1.length:=hi
 have w2:wrapK .i64 ((a:Int)+(s.size:Int))=((a+s.size:Nat):Int):=by rw[i64w (by omega) (by omega)];omega
 simp only[e,cond_false,Int.natCast_nonneg,if_true,Int.ofNat_lt,hi',Int.toNat_natCast,hn',Option.bind_some,w2]
 generalize hz:max (xSize n) ((a+s.size:Nat):Int)=z
 have hzz:0≤z∧z≤256∧((a+s.size:Nat):Int)≤z:=by omega
 have hnd:=need_nat hzz.1 hzz.2.1
 have hS:=(wOK.start hP hn h0 h3)
 have hbl:=hS.len hi
 have hbl':(xBlk (setSz n z)).length≤8:=hbl
 have hg:∀(m:PInode),((fI f).set i m)[i]? =some m:=fun m=>List.getElem?_set_self hi
 have hN:max (xBlk n).length (needI z).toNat≤8:=by omega
 have e0:extN (setSz n z) (xBlk n).length=setSz n z:=ext_zero (setSz n z)
 show EvX (fun k (_:Unit)=>iter k (impl_FS_write_l2 k (i:Int)) ((),(a:Int),s,(),((a+s.size:Nat):Int),fsWith f i (setSz n z) (fD f))) _
 rw[←e0]
 have hR:∀x:Int×PFS,wrGood f i (wrN f i a s) x→x.1=(wrV f i (a:Int) s).2∧((wrV f i (a:Int) s).2=0→x.2=(wrV f i (a:Int) s).1):=fun x hx=>by
  have e1:wrV f i (a:Int) s=match wrN f i a s with| .inl (n,D)=>(fsWith f i n D,0)| .inr c=>(f,c):=by
   simp only[wrV,if_neg c1,if_neg c3',if_neg c4,Int.toNat_natCast]
   rfl
  rw[e1]
  cases hw:wrN f i a s with
  |inl r=>
   obtain⟨m,D⟩:=r
   rw[hw]at hx
   have hx:x=(0,fsWith f i m D):=hx
   rw[hx];exact⟨rfl,fun _=>rfl⟩
  |inr c=>
   rw[hw]at hx
   exact⟨hx.1,fun h=>absurd h hx.2⟩
 have hW:wrN f i a s=wrL (wrQ f n) (useOf f i) a s ((a+s.size-1) / 32+1-a / 32) (a / 32) (extN (setSz n z) (max (xBlk n).length (needI z).toNat)) (fD f):=by
  simp only[wrN,hn,hz]
  rw[padN_ext]
  rfl
 have hcap:∀m:Nat,m≤100→(m+([(-1:Int)]:List Int).length)*8≤capBytes:=fun m hm=>by simp only[List.length_singleton];exact sc _ _
 refine EvX.upto (L:=fun k _=>impl_FS_write_l2 k (i:Int)) (max (xBlk n).length (needI z).toNat) (fun(_:Unit) t=>((),(a:Int),s,(),((a+s.size:Nat):Int),fsWith f i (extN (setSz n z) t) (fD f))) (fun _ t=>(xBlk n).length≤t) (fun st t ht inv=> ?_) (fun st inv=> ?_) () (xBlk n).length (by omega) (Nat.le_refl _)
 ·have hl:(extN (setSz n z) t).2.2.2.2.2.2.2.1.length=t:=ext_len (setSz n z) inv
  have hsz:(extN (setSz n z) t).2.2.2.2.2.1=z:=rfl
  have c:(t:Int)<needI z:=by omega
  simp only[impl_FS_write_l2,hg,Option.bind_some,Int.toNat_natCast,hl,hsz]
  refine EvX.bind (impl_BlocksNeeded_ev z (by omega)) ?_
  simp only[c,decide_true,cond_true,if_pos (hcap t (by omega)),if_true,List.set_set]
  refine EvX.const _ (GL.self () ?_ (by omega))
  rw[ext_succ (setSz n z) inv]
  rfl
 ·have hl:(extN (setSz n z) (max (xBlk n).length (needI z).toNat)).2.2.2.2.2.2.2.1.length=max (xBlk n).length (needI z).toNat:=ext_len (setSz n z) (show(xBlk n).length≤_ by omega)
  have hsz:(extN (setSz n z) (max (xBlk n).length (needI z).toNat)).2.2.2.2.2.1=z:=rfl
  have c:¬((max (xBlk n).length (needI z).toNat:Nat):Int)<needI z:=by omega
  have q5:(32:Int)≠0:=by decide
  have q2:(a:Int).tdiv 32=((a / 32:Nat):Int):=by rw[Int.ofNat_tdiv];rfl
  have q3:wrapK .i64 ((a / 32:Nat):Int)=((a / 32:Nat):Int):=i64w (by omega) (by omega)
  simp only[impl_FS_write_l2,hg,Option.bind_some,Int.toNat_natCast,hl,hsz]
  refine EvX.bind (impl_BlocksNeeded_ev z (by omega)) ?_
  simp only[c,decide_false,cond_false,q5,ne_eq,not_false_eq_true,if_true,q2,q3]
  have hnK:(a+s.size-1) / 32+1≤(needI z).toNat:=by
   unfold needI
   split<;>omega
  obtain⟨o,h1,r,h2,h3⟩:=impl_wr_loop hi (a:=a) (e:=a+s.size) (K:=(a+s.size-1) / 32+1) (s:=s) (by omega) rfl (by omega) rfl (hS.ext hi hN z) (by show _≤(extN (setSz n z) (max (xBlk n).length (needI z).toNat)).2.2.2.2.2.2.2.1.length;rw[hl];omega) (R:=wrN f i a s) (by rw[hW];rfl)
  have hh:EvX (fun k (_:Unit)=>iter k (impl_FS_write_l1 k (i:Int)) ((),(a:Int),s,(),((a+s.size:Nat):Int),((a / 32:Nat):Int),fsWith f i (extN (setSz n z) (max (xBlk n).length (needI z).toNat)) (fD f))) (GR fun x=>x.1=(wrV f i (a:Int) s).2∧((wrV f i (a:Int) s).2=0→x.2=(wrV f i (a:Int) s).1)):=⟨o,h1,r,h2,hR r h3⟩
  exact EvX.out hh
theorem spec_write_ev(hP:wfs f)(hfc:fsCap f){n:PInode}(hn:(fI f)[i]? =some n)(h0:0≤xUid n)(h3:xUid n≤3)(z0:0≤xSize n)(z1:xSize n≤256)(at_:Int)(s:ByteArray)(hs:s.size<big):
  Ev (fun k=>c_spec_l09Write k (f,(i:Int),at_,s)) (wrV f i at_ s):=by
 have hi:=(List.getElem?_eq_some_iff.1 hn).1
 unfold big at hs
 have hcopy:=spec_copyFS_ev f hfc
 refine EvQ.run (fun k=>spec_l09Write_run k _ _ _ _) ?_
 simp only[spec_l09Write]
 by_cases c1:at_<0
 ·simp only[c1,decide_true,cond_true]
  refine EvQ.bind hcopy ?_
  rw[show wrV f i at_ s=(f,1)by simp[wrV,c1]];exact EvQ.const _
 simp only[c1,decide_false,cond_false]
 have w:wrapK .i64 (256-(s.size:Int))=256-(s.size:Int):=i64w (by omega) (by omega)
 simp only[w]
 by_cases c3:256-(s.size:Int)<at_
 ·simp only[c3,decide_true,cond_true]
  have c3:(256:Int)<at_+s.size:=by omega
  refine EvQ.bind hcopy ?_
  rw[show wrV f i at_ s=(f,9)by simp[wrV,c1,c3]];exact EvQ.const _
 simp only[c3,decide_false,cond_false]
 have c3':¬(256:Int)<at_+s.size:=by omega
 refine EvQ.bind hcopy ?_
 by_cases c4:s.size=0
 ·have e:eqS s (⟨#[]⟩:ByteArray)=true:=(eqS_iff _ _).2 (ByteArray.ext (Array.size_eq_zero_iff.1 c4))
  simp only[e,cond_true]
  rw[show wrV f i at_ s=(f,0)by simp only[wrV,if_neg c1,if_neg c3',if_pos c4]];exact EvQ.const _
 have e:eqS s (⟨#[]⟩:ByteArray)=false:=by
  cases h:eqS s (⟨#[]⟩:ByteArray)with
  |false=>rfl
  |true=>rw[(eqS_iff _ _).1 h]at c4;exact absurd rfl c4
 obtain⟨a,rfl⟩:∃a:Nat,at_=(a:Int):=⟨at_.toNat,by omega⟩
 have hn':f.2.2.1[i]? =some n:=hn
 have hi':i<f.2.2.1.length:=hi
 have hcn:inoCap n:=hfc.2.2.2 n (List.mem_of_getElem? hn)
 have w2:wrapK .i64 ((a:Int)+(s.size:Int))=((a+s.size:Nat):Int):=by rw[i64w (by omega) (by omega)];omega
 simp only[e,cond_false,Int.natCast_nonneg,if_true,Int.ofNat_lt,hi',Int.toNat_natCast,hn',Option.bind_some,w2]
 refine EvQ.bind (spec_copyInode_ev n hcn) (EvQ.bind (max_ev _ _) ?_)
 have e1:max n.2.2.2.2.2.1 ((a+s.size:Nat):Int)=max (xSize n) ((a+s.size:Nat):Int):=rfl
 rw[e1]
 generalize hz:max (xSize n) ((a+s.size:Nat):Int)=z
 have hzz:0≤z∧z≤256∧((a+s.size:Nat):Int)≤z:=by omega
 have hnd:=need_nat hzz.1 hzz.2.1
 have hS:=(wOK.start hP hn h0 h3)
 have hbl:=hS.len hi
 have hbl':(xBlk (setSz n z)).length≤8:=hbl
 have hN:max (xBlk n).length (needI z).toNat≤8:=by omega
 have e0:extN (setSz n z) (xBlk n).length=setSz n z:=ext_zero (setSz n z)
 have eS:fsWith f i n (fD f)=f:=fsWith_self hn
 refine Ev.eq ?_
 show EvX (fun k (_:Unit)=>iter k (spec_l09Write_l2 k) ((i:Int),(a:Int),s,(),(),(),(),setSz n z,f,zF,f)) _
 rw[←e0]
 have hR:∀x:PFS×Int,wrGoodS f i (wrN f i a s) x→x=wrV f i (a:Int) s:=fun x hx=>by
  have e1:wrV f i (a:Int) s=match wrN f i a s with| .inl (n,D)=>(fsWith f i n D,0)| .inr c=>(f,c):=by
   simp only[wrV,if_neg c1,if_neg c3',if_neg c4,Int.toNat_natCast]
   rfl
  rw[e1]
  cases hw:wrN f i a s with
  |inl r=>obtain⟨m,D⟩:=r;rw[hw]at hx;exact hx
  |inr c=>rw[hw]at hx;exact hx.1
 have hW:wrN f i a s=wrL (wrQ f n) (useOf f i) a s ((a+s.size-1) / 32+1-a / 32) (a / 32) (extN (setSz n z) (max (xBlk n).length (needI z).toNat)) (fD f):=by
  simp only[wrN,hn,hz]
  rw[padN_ext]
  rfl
 have hcap:∀m:Nat,m≤100→(m+([(-1:Int)]:List Int).length)*8≤capBytes:=fun m hm=>by simp only[List.length_singleton];exact sc _ _
 refine EvX.upto (L:=fun k _=>spec_l09Write_l2 k) (max (xBlk n).length (needI z).toNat) (fun(_:Unit) t=>((i:Int),(a:Int),s,(),(),(),(),extN (setSz n z) t,f,zF,f)) (fun _ t=>(xBlk n).length≤t) (fun st t ht inv=> ?_) (fun st inv=> ?_) () (xBlk n).length (by omega) (Nat.le_refl _)
 ·have hl:(extN (setSz n z) t).2.2.2.2.2.2.2.1.length=t:=ext_len (setSz n z) inv
  have hsz:(extN (setSz n z) t).2.2.2.2.2.1=z:=rfl
  have c:(t:Int)<needI z:=by omega
  simp only[spec_l09Write_l2,hl,hsz]
  refine EvX.bind (spec_BlocksNeeded_ev z (by omega)) ?_
  simp only[c,decide_true,cond_true,if_pos (hcap t (by omega))]
  refine EvX.const _ (GL.self () ?_ (by omega))
  rw[ext_succ (setSz n z) inv]
  rfl
 ·have hl:(extN (setSz n z) (max (xBlk n).length (needI z).toNat)).2.2.2.2.2.2.2.1.length=max (xBlk n).length (needI z).toNat:=ext_len (setSz n z) (show(xBlk n).length≤_ by omega)
  have hsz:(extN (setSz n z) (max (xBlk n).length (needI z).toNat)).2.2.2.2.2.1=z:=rfl
  have c:¬((max (xBlk n).length (needI z).toNat:Nat):Int)<needI z:=by omega
  have q5:(32:Int)≠0:=by decide
  have q2:(a:Int).tdiv 32=((a / 32:Nat):Int):=by rw[Int.ofNat_tdiv];rfl
  have q3:wrapK .i64 ((a / 32:Nat):Int)=((a / 32:Nat):Int):=i64w (by omega) (by omega)
  simp only[spec_l09Write_l2,hl,hsz]
  refine EvX.bind (spec_BlocksNeeded_ev z (by omega)) ?_
  simp only[c,decide_false,cond_false,q5,ne_eq,not_false_eq_true,if_true,q2,q3]
  have hnK:(a+s.size-1) / 32+1≤(needI z).toNat:=by
   unfold needI
   split<;>omega
  have hX:=hS.ext hi hN z
  have hu:useOf f i n=useOf f i (extN (setSz n z) (max (xBlk n).length (needI z).toNat)):=(use_same hi (nz_rep _ _)).symm
  obtain⟨o,h1,r,h2,h3⟩:=spec_wr_loop hi hfc (a:=a) (e:=a+s.size) (K:=(a+s.size-1) / 32+1) (s:=s) (by omega) rfl (by omega) rfl hX hS hu (⟨by show(xBlk (extN (setSz n z) (max (xBlk n).length (needI z).toNat))).length≤_;have:=hX.len hi;omega,hcn.2.1,hcn.2.2⟩) (by show _≤(extN (setSz n z) (max (xBlk n).length (needI z).toNat)).2.2.2.2.2.2.2.1.length;rw[hl];omega) (R:=wrN f i a s) (by rw[hW];rfl)
  have:mkS f i a s (extN (setSz n z) (max (xBlk n).length (needI z).toNat),n,fD f) (a / 32)=((i:Int),(a:Int),s,(),(),(),(),((a / 32:Nat):Int),extN (setSz n z) (max (xBlk n).length (needI z).toNat),f,zF,f):=by simp only[mkS,eS]
  rw[this]at h1
  have hh:EvX (fun k (_:Unit)=>iter k (spec_l09Write_l1 k) ((i:Int),(a:Int),s,(),(),(),(),((a / 32:Nat):Int),extN (setSz n z) (max (xBlk n).length (needI z).toNat),f,zF,f)) (GR fun x=>x=wrV f i (a:Int) s):=⟨o,h1,r,h2,hR r h3⟩
  exact EvX.out hh
end
end Go.Proofs.YtbpfenmkhapeiaaGreat

/- The tables, the residual functions and lemmas of this seat: parts of the proof of the law; conditions: those that each names. -/
import Derived.Test.YtbpfenmkhapeiaaGreatWrm
set_option linter.unusedVariables false
set_option linter.unusedSimpArgs false
set_option maxRecDepth 100000
namespace Go.Proofs.YtbpfenmkhapeiaaGreat
open Go.Eng
section
variable {f:PFS} {i:Nat}
theorem quota_of{n:PInode}{D:List ByteArray}(h:wOK f i n D):∃q,(fQ f)[(xUid n).toNat]? =some q∧wrQ f n=q.2:=by
 have h0:=h.u0
 have h3:=h.u3
 have e:(fQ f).length=4:=h.w.nq
 have hq:(fQ f)[(xUid n).toNat]? =some (fQ f)[(xUid n).toNat]:=List.getElem?_eq_getElem (by omega)
 exact⟨_,hq,by simp only[wrQ,hq]⟩
abbrev WD:=Unit×Int×ByteArray×Unit×Int×Int×PFS
def wrGood(f:PFS)(i:Nat)(R:(PInode×List ByteArray)⊕ Int)(x:Int×PFS):Prop:=match R with
 | .inl (n,D)=>x=(0,fsWith f i n D)
 | .inr c=>x.1=c∧c≠0
theorem impl_wr_put(hi:i<(fI f).length){a e K k:Nat}{s:ByteArray}(hs:0<s.size)(he:e=a+s.size)(hb:e≤256)(hK:K=(e-1) / 32+1){n:PInode}{R:(PInode×List ByteArray)⊕ Int}(i0:a / 32≤k)(hk:k<K){j:Nat}(hj:K-k=j+1)(d:WD)(Q:Int)(X:Int)
  (m:PInode) (E:List ByteArray) (c:Int) (hm:wOK f i m E) (hu:xUid m=X) (hlm:K≤(xBlk m).length) (hc:(xBlk m)[k]? =some c) (c0:0≤c) (c1:c<56)
  (hw:wrL Q (useOf f i) a s j (k+1) m (E.set c.toNat (pieceW ((E[c.toNat]?).getD emptyB) s a k))=R):
  EvX (fun k' (p:Unit×(WD→Option (Int×PFS)))=>impl_FS_write_l1_j1 k' (i:Int) p.2 d ((),(a:Int),s,(),(e:Int),((k:Nat):Int),fsWith f i m E))
   (GL (fun(st:PInode×List ByteArray) k=>((),(a:Int),s,(),(e:Int),((k:Nat):Int),fsWith f i st.1 st.2)) (fun st k=>a / 32≤k∧wOK f i st.1 st.2∧xUid st.1=X∧K≤(xBlk st.1).length∧wrL Q (useOf f i) a s (K-k) k st.1 st.2=R) k (GR (wrGood f i R))):=by
 have hj':K-(k+1)=j:=by omega
 have hg:∀(m:PInode),((fI f).set i m)[i]? =some m:=fun m=>List.getElem?_set_self hi
 have w1:wrapK .i64 ((k:Int)*32)=((32*k:Nat):Int):=by rw[i64w (by omega) (by omega)];omega
 have w2:max (a:Int) ((32*k:Nat):Int)=((max a (32*k):Nat):Int):=by omega
 have w3:wrapK .i64 (((max a (32*k):Nat):Int)-((32*k:Nat):Int))=((max a (32*k)-32*k:Nat):Int):=by rw[i64w (by omega) (by omega)];omega
 have w4:wrapK .i64 (((32*k:Nat):Int)+32)=((32*k+32:Nat):Int):=by rw[i64w (by omega) (by omega)];omega
 have w5:min (e:Int) ((32*k+32:Nat):Int)=((min (a+s.size) (32*k+32):Nat):Int):=by omega
 have w6:wrapK .i64 (((min (a+s.size) (32*k+32):Nat):Int)-(a:Int))=((min (a+s.size) (32*k+32)-a:Nat):Int):=by rw[i64w (by omega) (by omega)];omega
 have w7:wrapK .i64 (((max a (32*k):Nat):Int)-(a:Int))=((max a (32*k)-a:Nat):Int):=by rw[i64w (by omega) (by omega)];omega
 have w8:wrapK .i64 (((min (a+s.size) (32*k+32):Nat):Int)-((32*k:Nat):Int))=((min (a+s.size) (32*k+32)-32*k:Nat):Int):=by rw[i64w (by omega) (by omega)];omega
 obtain⟨x,hx,hxs⟩:=hm.sz c0 c1
 have hc':m.2.2.2.2.2.2.2.1[k]? =some c:=hc
 have hlen:k<m.2.2.2.2.2.2.2.1.length:=by show k<(xBlk m).length;omega
 have hEl:E.length=56:=hm.w.nd
 have c2:c<((E.length:Nat):Int):=by omega
 have hp:pieceW x s a k=(x.extract 0 (max a (32*k)-32*k)++s.extract (max a (32*k)-a) (min (a+s.size) (32*k+32)-a))++x.extract (min (a+s.size) (32*k+32)-32*k) x.size:=rfl
 have hps:=pieceW_size (s:=s) (a:=a) (k:=k) hxs i0 (by omega) hs
 have z1:(max a (32*k)-32*k)≤x.size:=by omega
 have z2:(min (a+s.size) (32*k+32)-a)≤s.size:=by omega
 have z3:(max a (32*k)-a)≤(min (a+s.size) (32*k+32)-a):=by omega
 have z4:(min (a+s.size) (32*k+32)-32*k)≤x.size:=by omega
 have z5:(x.extract 0 (max a (32*k)-32*k)).size+(s.extract (max a (32*k)-a) (min (a+s.size) (32*k+32)-a)).size≤9223372036854775807:=by
  simp only[ByteArray.size_extract];omega
 have z6:(x.extract 0 (max a (32*k)-32*k)++s.extract (max a (32*k)-a) (min (a+s.size) (32*k+32)-a)).size+(x.extract (min (a+s.size) (32*k+32)-32*k) x.size).size≤9223372036854775807:=by
  simp only[app_size,ByteArray.size_extract];omega
 simp only[impl_FS_write_l1_j1,hg,Option.bind_some,Int.natCast_nonneg,if_true,Int.ofNat_lt,hlen,Int.toNat_natCast,hc',c0,c2,hx,w1,w2,w3,w4,w5,w6,w7,w8,Int.ofNat_le,z1,z2,z3,z4,z5,z6,wS k]
 refine EvX.const _ (GL.self (m,E.set c.toNat (pieceW x s a k)) rfl ⟨by omega,hm.data hi hps,hu,hlm, ?_⟩)
 rw[hj']
 simpa[hx]using hw
theorem impl_wr_loop(hi:i<(fI f).length){a e K:Nat}{s:ByteArray}(hs:0<s.size)(he:e=a+s.size)(hb:e≤256)(hK:K=(e-1) / 32+1){n:PInode}{D:List ByteArray}(h:wOK f i n D)(hl:K≤(xBlk n).length){R:(PInode×List ByteArray)⊕ Int}
  (hR:wrL (wrQ f n) (useOf f i) a s (K-a / 32) (a / 32) n D=R):
  EvX (fun k (_:Unit)=>iter k (impl_FS_write_l1 k (i:Int)) ((),(a:Int),s,(),(e:Int),((a / 32:Nat):Int),fsWith f i n D)) (GR (wrGood f i R)):=by
 have hKa:a / 32≤K:=by omega
 refine EvX.upto (L:=fun k _=>impl_FS_write_l1 k (i:Int)) K (fun(st:PInode×List ByteArray) k=>((),(a:Int),s,(),(e:Int),((k:Nat):Int),fsWith f i st.1 st.2)) (fun st k=>a / 32≤k∧wOK f i st.1 st.2∧xUid st.1=xUid n∧K≤(xBlk st.1).length∧wrL (wrQ f n) (useOf f i) a s (K-k) k st.1 st.2=R) (fun st k hk inv=> ?_) (fun st inv=> ?_) (n,D) (a / 32) hKa ⟨Nat.le_refl _,h,rfl,hl,hR⟩
 ·obtain⟨n',D'⟩:=st
  obtain⟨i0,i1,i2,i3,i4⟩:=inv
  simp only at i1 i2 i3 i4
  have q1:wrapK .i64 ((e:Int)-1)=((e-1:Nat):Int):=by rw[i64w (by omega) (by omega)];omega
  have q2:((e-1:Nat):Int).tdiv 32=(((e-1) / 32:Nat):Int):=by rw[Int.ofNat_tdiv];rfl
  have q3:wrapK .i64 (((e-1) / 32:Nat):Int)=(((e-1) / 32:Nat):Int):=i64w (by omega) (by omega)
  have q4:(k:Int)≤(((e-1) / 32:Nat):Int):=by omega
  have q5:(32:Int)≠0:=by decide
  have hk8:K≤8:=by omega
  have hbl:=i1.len hi
  obtain⟨b,hbk⟩:∃b,(xBlk n')[k]? =some b:=⟨_,List.getElem?_eq_getElem (by omega)⟩
  have hbk':n'.2.2.2.2.2.2.2.1[k]? =some b:=hbk
  have hlen:k<n'.2.2.2.2.2.2.2.1.length:=by show k<(xBlk n').length;omega
  have hg:∀(m:PInode),((fI f).set i m)[i]? =some m:=fun m=>List.getElem?_set_self hi
  obtain⟨j,hj⟩:∃j,K-k=j+1:=⟨K-k-1,by omega⟩
  have hj':K-(k+1)=j:=by omega
  rw[hj]at i4
  simp only[wrL,hbk]at i4
  simp only[impl_FS_write_l1,q1,q2,q3,q4,q5,ne_eq,not_false_eq_true,decide_true,cond_true,if_true,hg,Option.bind_some,Int.natCast_nonneg,Int.ofNat_lt,hlen,Int.toNat_natCast,hbk']
  cases hz:b== -1 with
  |false=>
   have hne:b≠ -1:=by simpa using hz
   rw[if_neg hne]at i4
   have ho:=i1.own hi k b hbk hne
   refine EvX.joinT ((),(a:Int),s,(),(e:Int),((k:Nat):Int),fsWith f i n' D') True (by simp only[cond_false];exact EvX.const _ (GT.inl trivial)) fun _=> ?_
   exact impl_wr_put hi hs he hb hK (n:=n) i0 hk hj _ _ _ n' D' b i1 i2 i3 hbk ho.1 ho.2.1 i4
  |true=>
   have hbe:b= -1:=by simpa using hz
   subst hbe
   simp only[if_true]at i4
   obtain⟨q,hq,hqw⟩:=quota_of i1
   have hwq:wrQ f n=q.2:=by rw[←hqw];unfold wrQ;rw[i2]
   have hnx:Ev (fun k=>c_impl_FS_nextBlock k (some (fsWith f i n' D'),xUid n')) (nextV q.2 (useOf f i n') (xUid n')):=impl_next_ev i1.w i1.u0 i1.u3 hq
   rw[hwq]at i4 ⊢
   generalize hr:nextV q.2 (useOf f i n') (xUid n')=r at*
   obtain⟨c,code⟩:=r
   have hok:=next_ok hr
   simp only at i4
   simp only[cond_true]
   by_cases hcode:code=0
   ·subst hcode
    have hok:xUid n'*14≤c∧c<xUid n'*14+14∧c∉useOf f i n':=by
     rcases hok with⟨_,h⟩|h|h
     ·exact h
     ·omega
     ·omega
    have u0:=i1.u0
    have u3:=i1.u3
    rw[if_pos rfl]at i4
    have h2:=i1.alloc hi hbk hok.1 hok.2.1 hok.2.2 rfl i1.w.sz
    refine EvX.joinT ((),(a:Int),s,(),(e:Int),((k:Nat):Int),fsWith f i (setBs n' ((xBlk n').set k c)) D') True ?_ fun _=> ?_
    ·refine EvX.bind hnx ?_
     simp only[bne_self_eq_false,cond_false,hg,Option.bind_some,hlen,if_true,hbk',Int.natCast_nonneg,Int.toNat_natCast,List.set_set]
     exact EvX.const _ (GT.inl trivial)
    ·refine impl_wr_put hi hs he hb hK (n:=n) i0 hk hj _ _ _ _ D' c h2 i2 ?_ ?_ (by omega) (by omega) i4
     ·show K≤((xBlk n').set k c).length;rw[List.length_set];exact i3
     ·show((xBlk n').set k c)[k]? =some c
      exact List.getElem?_set_self hlen
   ·rw[if_neg hcode]at i4
    have hb0:(code != 0)=true:=by simpa using hcode
    refine EvX.joinT ((),(a:Int),s,(),(e:Int),((k:Nat):Int),fsWith f i n' D') False ?_ fun h=>h.elim
    refine EvX.bind hnx ?_
    simp only[hb0,cond_true,Option.map_some]
    exact EvX.const _ (GT.inr (GL.ret (GR.ret (by rw[←i4];exact⟨rfl,hcode⟩))))
 ·obtain⟨n',D'⟩:=st
  obtain⟨i0,i1,i2,i3,i4⟩:=inv
  simp only[Nat.sub_self,wrL]at i4
  have q1:wrapK .i64 ((e:Int)-1)=((e-1:Nat):Int):=by rw[i64w (by omega) (by omega)];omega
  have q2:((e-1:Nat):Int).tdiv 32=(((e-1) / 32:Nat):Int):=by rw[Int.ofNat_tdiv];rfl
  have q3:wrapK .i64 (((e-1) / 32:Nat):Int)=(((e-1) / 32:Nat):Int):=i64w (by omega) (by omega)
  have q4:¬(K:Int)≤(((e-1) / 32:Nat):Int):=by omega
  have q5:(32:Int)≠0:=by decide
  simp only[impl_FS_write_l1,q1,q2,q3,q4,q5,ne_eq,not_false_eq_true,decide_false,cond_false,if_true]
  exact EvX.const _ (GE.ret (GR.ret (by rw[←i4];rfl)))
end
end Go.Proofs.YtbpfenmkhapeiaaGreat

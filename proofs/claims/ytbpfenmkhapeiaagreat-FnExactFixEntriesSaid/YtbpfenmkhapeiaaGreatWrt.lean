/- The tables, the residual functions and lemmas of this seat: parts of the proof of the law; conditions: those that each names. -/
import Derived.Test.YtbpfenmkhapeiaaGreatWri
import Derived.Test.YtbpfenmkhapeiaaGreatCpy
set_option linter.unusedVariables false
set_option linter.unusedSimpArgs false
set_option maxRecDepth 100000
namespace Go.Proofs.YtbpfenmkhapeiaaGreat
open Go.Eng
def putL(o t:List UInt8)(a j:Nat):List UInt8:=(o.take a++t.take j)++o.drop (a+j)
theorem putL_len{o t:List UInt8}{a j:Nat}(h:a+t.length≤o.length)(hj:j≤t.length):(putL o t a j).length=o.length:=by
 simp only[putL,List.length_append,List.length_take,List.length_drop];omega
theorem putL_succ{o t:List UInt8}{a j:Nat}{x:UInt8}(h:a+t.length≤o.length)(hx:t[j]? =some x):putL o t a (j+1)=(putL o t a j).set (a+j) x:=by
 have hj:j<t.length:=(List.getElem?_eq_some_iff.1 hx).1
 have e1:t.take (j+1)=t.take j++[x]:=by rw[List.take_add_one,hx];rfl
 have hl:(o.take a++t.take j).length=a+j:=by simp only[List.length_append,List.length_take];omega
 have hd:o.drop (a+j)=o[a+j]'(by omega)::o.drop (a+j+1):=List.drop_eq_getElem_cons (by omega)
 have e2:(putL o t a j).set (a+j) x=(o.take a++t.take j)++x::o.drop (a+j+1):=by
  rw[putL,hd]
  have:=set_mid (o.take a++t.take j) (o[a+j]'(by omega)) x (o.drop (a+j+1))
  rw[hl]at this
  exact this
 rw[e2,putL,e1,show a+(j+1)=a+j+1 by omega]
 simp
theorem bytesOf_map(s:ByteArray):bytesOf s=s.data.toList.map fun c=>(c.toNat:Int):=rfl
theorem spec_Put_ev(old t:ByteArray)(a:Nat)(h:a+t.size≤old.size)(hb:old.size≤1000000):Ev (fun k=>c_spec_l09Put k (old,(a:Int),t)) ((old.extract 0 a++t)++old.extract (a+t.size) old.size):=by
 refine EvQ.run (fun k=>spec_l09Put_run k _ _ _) ?_
 have ht:t.data.toList.length=t.size:=blen t
 have ho:old.data.toList.length=old.size:=blen old
 have e0:bytesOf old=(putL old.data.toList t.data.toList a 0).map (fun c=>(c.toNat:Int)):=by simp[putL,bytesOf_map]
 simp only[spec_l09Put]
 refine Ev.eq ?_
 rw[e0]
 refine EvX.upto (L:=fun k _=>spec_l09Put_l1 k) t.size (fun(_:Unit) j=>((a:Int),t,(putL old.data.toList t.data.toList a j).map (fun c=>(c.toNat:Int)),((j:Nat):Int))) (fun _ _=>True) (fun st j hj _=> ?_) (fun st _=> ?_) () 0 (Nat.zero_le _) trivial
 ·obtain⟨x,hx⟩:∃x,t.data.toList[j]? =some x:=⟨_,List.getElem?_eq_getElem (by omega)⟩
  have hx':t[j]? =some x:=by rw[bget];exact hx
  have hl:=putL_len (o:=old.data.toList) (t:=t.data.toList) (a:=a) (j:=j) (by omega) (by omega)
  have w1:wrapK .i64 ((a:Int)+(j:Int))=((a+j:Nat):Int):=by rw[i64w (by omega) (by omega)];omega
  have hg:((putL old.data.toList t.data.toList a j).map (fun c=>(c.toNat:Int)))[a+j]? =some (((putL old.data.toList t.data.toList a j)[a+j]'(by omega)).toNat:Int):=by
   rw[List.getElem?_map,List.getElem?_eq_getElem (by omega)];rfl
  have hlm:a+j<((putL old.data.toList t.data.toList a j).map (fun c=>(c.toNat:Int))).length:=by rw[List.length_map,hl];omega
  simp only[spec_l09Put_l1,Int.ofNat_lt,hj,decide_true,cond_true,Int.natCast_nonneg,if_true,Int.toNat_natCast,hx',Option.map_some,Option.bind_some,w1,hlm,hg,wS j]
  refine EvX.const _ (GL.self () ?_ trivial)
  rw[putL_succ (by omega) hx,List.map_set]
 ·simp only[spec_l09Put_l1,Int.lt_irrefl,decide_false,cond_false]
  refine EvX.const _ (GE.ret (GR.ret ?_))
  have e1:putL old.data.toList t.data.toList a t.size=((old.extract 0 a++t)++old.extract (a+t.size) old.size).data.toList:=by
   rw[append_list,append_list,ext_list,ext_list,putL]
   have z1:t.data.toList.take t.size=t.data.toList:=List.take_of_length_le (by omega)
   have z2:(old.data.toList.drop (a+t.size)).take (old.size-(a+t.size))=old.data.toList.drop (a+t.size):=List.take_of_length_le (by rw[List.length_drop];omega)
   rw[z1,z2];simp
  rw[e1,←bytesOf_map,of_bytesOf]
theorem max_ev(a b:Int):Ev (fun k=>c_spec_l02Max k (a,b)) (max a b):=by
 refine EvQ.run (fun k=>spec_l02Max_run k _ _) ?_
 simp only[spec_l02Max]
 by_cases h:b<a
 ·simp only[h,decide_true,cond_true]
  rw[show max a b=a by omega];exact EvQ.const _
 ·simp only[h,decide_false,cond_false]
  rw[show max a b=b by omega];exact EvQ.const _
theorem min'_ev(a b:Int):Ev (fun k=>c_spec_l02Min k (a,b)) (min a b):=by
 refine EvQ.run (fun k=>spec_l02Min_run k _ _) ?_
 simp only[spec_l02Min]
 by_cases h:a<b
 ·simp only[h,decide_true,cond_true]
  rw[show min a b=a by omega];exact EvQ.const _
 ·simp only[h,decide_false,cond_false]
  rw[show min a b=b by omega];exact EvQ.const _
section
variable {f:PFS} {i:Nat}
abbrev SD:=Int×Int×ByteArray×Unit×Unit×Unit×Unit×Int×PInode×PFS×PFS×PFS
abbrev zF:PFS:=((0:Int),([]:List PQuota),([]:List PInode),([]:List ByteArray))
def wrGoodS(f:PFS)(i:Nat)(R:(PInode×List ByteArray)⊕ Int)(x:PFS×Int):Prop:=match R with
 | .inl (n,D)=>x=(fsWith f i n D,0)
 | .inr c=>x=(f,c)∧c≠0
abbrev WS:=PInode×PInode×List ByteArray
def mkS(f:PFS)(i a:Nat)(s:ByteArray)(st:WS)(k:Nat):SD:=((i:Int),(a:Int),s,(),(),(),(),((k:Nat):Int),st.1,fsWith f i st.2.1 st.2.2,zF,f)
structure invS2 (f:PFS) (i a K:Nat) (s:ByteArray) (Q X:Int) (R:(PInode×List ByteArray)⊕ Int) (st:WS) (k:Nat):Prop where
 ki:a / 32≤k
 n:wOK f i st.1 st.2.2
 m:wOK f i st.2.1 st.2.2
 u:useOf f i st.2.1=useOf f i st.1
 c:inoCap st.1
 x:xUid st.1=X
 l:K≤(xBlk st.1).length
 r:wrL Q (useOf f i) a s (K-k) k st.1 st.2.2=R
theorem spec_wr_put(hi:i<(fI f).length){a e K k:Nat}{s:ByteArray}(hs:0<s.size)(he:e=a+s.size)(hb:e≤256)(hK:K=(e-1) / 32+1){R:(PInode×List ByteArray)⊕ Int}(i0:a / 32≤k)(hk:k<K){j:Nat}(hj:K-k=j+1)(d:SD)(Q:Int)(X:Int)
  (n m:PInode) (E:List ByteArray) (c:Int) (hn:wOK f i n E) (hm:wOK f i m E) (hu:useOf f i m=useOf f i n) (hcap:inoCap n) (hx:xUid n=X) (hlm:K≤(xBlk n).length) (hc:(xBlk n)[k]? =some c) (c0:0≤c) (c1:c<56)
  (hw:wrL Q (useOf f i) a s j (k+1) n (E.set c.toNat (pieceW ((E[c.toNat]?).getD emptyB) s a k))=R):
  EvX (fun k' (p:Unit×(SD→Option (PFS×Int)))=>spec_l09Write_l1_j1 k' p.2 d (mkS f i a s (n,m,E) k)) (GL (mkS f i a s) (invS2 f i a K s Q X R) k (GR (wrGoodS f i R))):=by
 have hj':K-(k+1)=j:=by omega
 have w1:wrapK .i64 ((k:Int)*32)=((32*k:Nat):Int):=by rw[i64w (by omega) (by omega)];omega
 have w2:max (a:Int) ((32*k:Nat):Int)=((max a (32*k):Nat):Int):=by omega
 have w3:wrapK .i64 (((max a (32*k):Nat):Int)-((32*k:Nat):Int))=((max a (32*k)-32*k:Nat):Int):=by rw[i64w (by omega) (by omega)];omega
 have w4:wrapK .i64 (((k+1:Nat):Int)*32)=((32*k+32:Nat):Int):=by rw[i64w (by omega) (by omega)];omega
 have w9:wrapK .i64 ((a:Int)+(s.size:Int))=(e:Int):=by rw[i64w (by omega) (by omega)];omega
 have w5:min (e:Int) ((32*k+32:Nat):Int)=((min (a+s.size) (32*k+32):Nat):Int):=by omega
 have w6:wrapK .i64 (((min (a+s.size) (32*k+32):Nat):Int)-(a:Int))=((min (a+s.size) (32*k+32)-a:Nat):Int):=by rw[i64w (by omega) (by omega)];omega
 have w7:wrapK .i64 (((max a (32*k):Nat):Int)-(a:Int))=((max a (32*k)-a:Nat):Int):=by rw[i64w (by omega) (by omega)];omega
 obtain⟨x,hxx,hxs⟩:=hn.sz c0 c1
 have hc':n.2.2.2.2.2.2.2.1[k]? =some c:=hc
 have hlen:k<n.2.2.2.2.2.2.2.1.length:=by show k<(xBlk n).length;omega
 have hEl:E.length=56:=hn.w.nd
 have c2:c<((E.length:Nat):Int):=by omega
 have hps:=pieceW_size (s:=s) (a:=a) (k:=k) hxs i0 (by omega) hs
 have z2:(min (a+s.size) (32*k+32)-a)≤s.size:=by omega
 have z3:(max a (32*k)-a)≤(min (a+s.size) (32*k+32)-a):=by omega
 have ez:(s.extract (max a (32*k)-a) (min (a+s.size) (32*k+32)-a)).size=min (a+s.size) (32*k+32)-max a (32*k):=by rw[ByteArray.size_extract];omega
 have hput:=spec_Put_ev x (s.extract (max a (32*k)-a) (min (a+s.size) (32*k+32)-a)) (max a (32*k)-32*k) (by rw[ez];omega) (by omega)
 have ep:(x.extract 0 (max a (32*k)-32*k)++s.extract (max a (32*k)-a) (min (a+s.size) (32*k+32)-a))++x.extract (max a (32*k)-32*k+(s.extract (max a (32*k)-a) (min (a+s.size) (32*k+32)-a)).size) x.size=pieceW x s a k:=by
  rw[ez,pieceW,show max a (32*k)-32*k+(min (a+s.size) (32*k+32)-max a (32*k))=min (a+s.size) (32*k+32)-32*k by omega]
 rw[ep]at hput
 simp only[spec_l09Write_l1_j1,mkS,w1,w9,wS k,w4]
 refine EvX.bind (max_ev _ _) (EvX.bind (min'_ev _ _) ?_)
 simp only[Option.bind_some,Int.natCast_nonneg,if_true,Int.ofNat_lt,hlen,Int.toNat_natCast,hc',c0,c2,hxx,w2,w3,w5,w6,w7,Int.ofNat_le,z2,z3]
 refine EvX.bind hput ?_
 refine EvX.const _ (GL.self (n,m,E.set c.toNat (pieceW x s a k)) rfl ⟨by show a / 32≤k+1;omega,hn.data hi hps,hm.data hi hps,hu,hcap,hx,hlm, ?_⟩)
 rw[hj']
 simpa[hxx]using hw
theorem capset{n:PInode}{l:List Int}(h:inoCap n)(hl:l.length≤100000000):inoCap (setBs n l):=⟨hl,h.2.1,h.2.2⟩
theorem spec_wr_loop(hi:i<(fI f).length)(hfc:fsCap f){a e K:Nat}{s:ByteArray}(hs:0<s.size)(he:e=a+s.size)(hb:e≤256)(hK:K=(e-1) / 32+1){n m:PInode}{D:List ByteArray}(hn:wOK f i n D)(hm:wOK f i m D)(hu:useOf f i m=useOf f i n)(hcap:inoCap n)(hl:K≤(xBlk n).length){R:(PInode×List ByteArray)⊕ Int}
  (hR:wrL (wrQ f n) (useOf f i) a s (K-a / 32) (a / 32) n D=R):
  EvX (fun k (_:Unit)=>iter k (spec_l09Write_l1 k) (mkS f i a s (n,m,D) (a / 32))) (GR (wrGoodS f i R)):=by
 have hKa:a / 32≤K:=by omega
 refine EvX.upto (L:=fun k _=>spec_l09Write_l1 k) K (mkS f i a s) (invS2 f i a K s (wrQ f n) (xUid n) R) (fun st k hk inv=> ?_) (fun st inv=> ?_) (n,m,D) (a / 32) hKa ⟨Nat.le_refl _,hn,hm,hu,hcap,rfl,hl,hR⟩
 ·obtain⟨n',m',D'⟩:=st
  obtain⟨i0,i1,i1m,iu,ic,i2,i3,i4⟩:=inv
  simp only at i1 i1m iu ic i2 i3 i4
  have q1:wrapK .i64 ((k:Int)*32)=((32*k:Nat):Int):=by rw[i64w (by omega) (by omega)];omega
  have q2:wrapK .i64 ((a:Int)+(s.size:Int))=(e:Int):=by rw[i64w (by omega) (by omega)];omega
  have q4:32*k<e:=by omega
  have hk8:K≤8:=by omega
  have hbl:=i1.len hi
  obtain⟨b,hbk⟩:∃b,(xBlk n')[k]? =some b:=⟨_,List.getElem?_eq_getElem (by omega)⟩
  have hbk':n'.2.2.2.2.2.2.2.1[k]? =some b:=hbk
  have hlen:k<n'.2.2.2.2.2.2.2.1.length:=by show k<(xBlk n').length;omega
  have hlset:∀z:PInode,i<((fI f).set i z).length:=fun z=>by rw[List.length_set];exact hi
  have hg:∀(z:PInode),((fI f).set i z)[i]? =some z:=fun z=>List.getElem?_set_self hi
  obtain⟨j,hj⟩:∃j,K-k=j+1:=⟨K-k-1,by omega⟩
  rw[hj]at i4
  simp only[wrL,hbk]at i4
  simp only[spec_l09Write_l1,mkS,q1,q2,q4,Int.ofNat_lt,decide_true,cond_true,if_true,Option.bind_some,Int.natCast_nonneg,hlen,Int.toNat_natCast,hbk']
  cases hz:b== -1 with
  |false=>
   have hne:b≠ -1:=by simpa using hz
   rw[if_neg hne]at i4
   have ho:=i1.own hi k b hbk hne
   refine EvX.joinT (mkS f i a s (n',m',D') k) True (by simp only[cond_false];exact EvX.const _ (GT.inl trivial)) fun _=> ?_
   exact spec_wr_put hi hs he hb hK i0 hk hj _ _ _ n' m' D' b i1 i1m iu ic i2 i3 hbk ho.1 ho.2.1 i4
  |true=>
   have hbe:b= -1:=by simpa using hz
   subst hbe
   simp only[if_true]at i4
   obtain⟨q,hq,hqw⟩:=quota_of i1
   have hwq:wrQ f n=q.2:=by rw[←hqw];unfold wrQ;rw[i2]
   have hnx:Ev (fun k=>c_spec_l08NextBlock k (fsWith f i m' D',xUid n')) (nextV q.2 (useOf f i m') (xUid n')):=spec_next_ev i1m.w i1.u0 i1.u3 hq
   rw[iu]at hnx
   rw[hwq]at i4 ⊢
   generalize hr:nextV q.2 (useOf f i n') (xUid n')=r at*
   obtain⟨c,code⟩:=r
   have hok:=next_ok hr
   simp only at i4
   simp only[cond_true]
   by_cases hcode:code=0
   ·subst hcode
    have hok:xUid n'*14≤c∧c<xUid n'*14+14∧c∉useOf f i n':=by
     rcases hok with⟨_,h⟩|h|h
     ·exact h
     ·omega
     ·omega
    have u0:=i1.u0
    have u3:=i1.u3
    rw[if_pos rfl]at i4
    have h2:=i1.alloc hi hbk hok.1 hok.2.1 hok.2.2 rfl i1.w.sz
    have hcp:inoCap (setBs n' ((xBlk n').set k c)):=capset ic (by rw[List.length_set];exact ic.1)
    refine EvX.joinT (mkS f i a s (setBs n' ((xBlk n').set k c),setBs n' ((xBlk n').set k c),D') k) True ?_ fun _=> ?_
    ·refine EvX.bind hnx ?_
     simp only[bne_self_eq_false,cond_false]
     refine EvX.bind (spec_copyInode_ev _ hcp) ?_
     simp only[hlset,if_true,hg,Option.bind_some,List.set_set]
     exact EvX.const _ (GT.inl trivial)
    ·refine spec_wr_put hi hs he hb hK i0 hk hj _ _ _ _ _ D' c h2 h2 rfl hcp i2 ?_ ?_ (by omega) (by omega) i4
     ·show K≤((xBlk n').set k c).length;rw[List.length_set];exact i3
     ·show((xBlk n').set k c)[k]? =some c
      exact List.getElem?_set_self hlen
   ·rw[if_neg hcode]at i4
    have hb0:(code != 0)=true:=by simpa using hcode
    refine EvX.joinT (mkS f i a s (n',m',D') k) False ?_ fun h=>h.elim
    refine EvX.bind hnx ?_
    simp only[hb0,cond_true]
    refine EvX.bind (spec_copyFS_ev f hfc) ?_
    simp only[Option.map_some]
    exact EvX.const _ (GT.inr (GL.ret (GR.ret (by rw[←i4];exact⟨rfl,hcode⟩))))
 ·obtain⟨n',m',D'⟩:=st
  obtain⟨i0,i1,i1m,iu,ic,i2,i3,i4⟩:=inv
  simp only[Nat.sub_self,wrL]at i4
  have q1:wrapK .i64 ((K:Int)*32)=((32*K:Nat):Int):=by rw[i64w (by omega) (by omega)];omega
  have q2:wrapK .i64 ((a:Int)+(s.size:Int))=(e:Int):=by rw[i64w (by omega) (by omega)];omega
  have q4:¬32*K<e:=by omega
  have hlset:∀z:PInode,i<((fI f).set i z).length:=fun z=>by rw[List.length_set];exact hi
  have hg:∀(z:PInode),((fI f).set i z)[i]? =some z:=fun z=>List.getElem?_set_self hi
  simp only[spec_l09Write_l1,mkS,q1,q2,q4,Int.ofNat_lt,decide_false,cond_false,if_true,Int.natCast_nonneg,hlset,Int.toNat_natCast,hg,Option.bind_some,List.set_set]
  exact EvX.const _ (GE.ret (GR.ret (by rw[←i4];rfl)))
end
end Go.Proofs.YtbpfenmkhapeiaaGreat

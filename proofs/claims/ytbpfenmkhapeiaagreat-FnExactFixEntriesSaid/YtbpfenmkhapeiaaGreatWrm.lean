/- The tables, the residual functions and lemmas of this seat: parts of the proof of the law; conditions: those that each names. -/
import Derived.Test.YtbpfenmkhapeiaaGreatNxt
set_option linter.unusedVariables false
set_option linter.unusedSimpArgs false
set_option maxRecDepth 100000
namespace Go.Proofs.YtbpfenmkhapeiaaGreat
open Go.Eng
def setBs(n:PInode)(l:List Int):PInode:=(n.1,n.2.1,n.2.2.1,n.2.2.2.1,n.2.2.2.2.1,n.2.2.2.2.2.1,n.2.2.2.2.2.2.1,l,n.2.2.2.2.2.2.2.2)
def setSz(n:PInode)(z:Int):PInode:=(n.1,n.2.1,n.2.2.1,n.2.2.2.1,n.2.2.2.2.1,z,n.2.2.2.2.2.2)
abbrev fsWith(f:PFS)(i:Nat)(n:PInode)(D:List ByteArray):PFS:=(f.1,f.2.1,(fI f).set i n,D)
def pieceW(old s:ByteArray)(at_ k:Nat):ByteArray:=
 (old.extract 0 (max at_ (32*k)-32*k)++s.extract (max at_ (32*k)-at_) (min (at_+s.size) (32*k+32)-at_))++old.extract (min (at_+s.size) (32*k+32)-32*k) old.size
noncomputable def wrL(q:Int)(U:PInode→List Int)(at_:Nat)(s:ByteArray):Nat→Nat→PInode→List ByteArray→(PInode×List ByteArray)⊕ Int
 |0,_,n,D=> .inl (n,D)
 |m+1,k,n,D=>match(xBlk n)[k]? with
  |none=> .inr 1
  |some b=>
   if b= -1 then
    if(nextV q (U n) (xUid n)).2=0 then
     wrL q U at_ s m (k+1) (setBs n ((xBlk n).set k (nextV q (U n) (xUid n)).1)) (D.set (nextV q (U n) (xUid n)).1.toNat (pieceW ((D[(nextV q (U n) (xUid n)).1.toNat]?).getD emptyB) s at_ k))
    else .inr (nextV q (U n) (xUid n)).2
   else wrL q U at_ s m (k+1) n (D.set b.toNat (pieceW ((D[b.toNat]?).getD emptyB) s at_ k))
def padN(n:PInode):PInode:=setBs n (xBlk n++List.replicate ((needI (xSize n)).toNat-(xBlk n).length) (-1))
def useOf(f:PFS)(i:Nat)(n:PInode):List Int:=usedBs ((fI f).set i n)
noncomputable def wrQ(f:PFS)(n:PInode):Int:=match(fQ f)[(xUid n).toNat]? with|some q=>q.2|none=>0
noncomputable def wrN(f:PFS)(i at_:Nat)(s:ByteArray):(PInode×List ByteArray)⊕ Int:=match(fI f)[i]? with
 |some n=>wrL (wrQ f n) (useOf f i) at_ s ((at_+s.size-1) / 32+1-at_ / 32) (at_ / 32) (padN (setSz n (max (xSize n) (at_+s.size:Nat)))) (fD f)
 |none=> .inr 1
noncomputable def wrV(f:PFS)(i:Nat)(at_:Int)(s:ByteArray):PFS×Int:=
 if at_<0 then(f,1)else if 256<at_+s.size then(f,9)else if s.size=0 then(f,0)else match wrN f i at_.toNat s with
  | .inl (n,D)=>(fsWith f i n D,0)
  | .inr c=>(f,c)
section
variable {f:PFS} {i:Nat}
theorem pieceW_size{old s:ByteArray}{a k:Nat}(ho:old.size=32)(h1:a / 32≤k)(h2:k≤(a+s.size-1) / 32)(h3:0<s.size):(pieceW old s a k).size=32:=by
 simp only[pieceW,app_size,ByteArray.size_extract]
 omega
theorem nz_set{l:List Int}{k:Nat}{b:Int}(h:l[k]? =some (-1))(hb:b≠ -1):(nz (l.set k b)).Perm (b::nz l):=by
 have hk:=(List.getElem?_eq_some_iff.1 h).1
 have e1:=split_at h
 have e2:l.set k b=l.take k++b::l.drop (k+1):=by
  rw[List.set_eq_take_append_cons_drop,if_pos hk]
 rw[e2]
 conv=>rhs;rw[e1]
 have hb':(b==(-1:Int))=false:=by simpa using hb
 simp only[nz,List.filter_append,List.filter_cons,hb',Bool.not_false,if_true,beq_self_eq_true,Bool.not_true,Bool.false_eq_true,if_false]
 exact List.perm_middle
theorem used_set{l:List PInode}{i:Nat}(h:i<l.length)(n:PInode):usedBs (l.set i n)=usedBs (l.take i)++(nz (xBlk n)++usedBs (l.drop (i+1))):=by
 rw[List.set_eq_take_append_cons_drop,if_pos h]
 simp[usedBs]
theorem use_alloc(hi:i<(fI f).length){n:PInode}{k:Nat}{b:Int}(h:(xBlk n)[k]? =some (-1))(hb:b≠ -1):(useOf f i (setBs n ((xBlk n).set k b))).Perm (b::useOf f i n):=by
 unfold useOf
 rw[used_set hi,used_set hi]
 have:xBlk (setBs n ((xBlk n).set k b))=(xBlk n).set k b:=rfl
 rw[this]
 have p:=nz_set h hb
 exact((p.append_right _).append_left _).trans (List.perm_middle (a:=b) (l₁:=usedBs ((fI f).take i)) (l₂:=nz (xBlk n)++usedBs ((fI f).drop (i+1))))
theorem use_same(hi:i<(fI f).length){n m:PInode}(h:nz (xBlk n)=nz (xBlk m)):useOf f i n=useOf f i m:=by
 unfold useOf
 rw[used_set hi,used_set hi,h]
structure wOK (f:PFS) (i:Nat) (n:PInode) (D:List ByteArray):Prop where
 w:wfs (fsWith f i n D)
 u0:0≤xUid n
 u3:xUid n≤3
theorem wOK.next(hi:i<(fI f).length){n m:PInode}{D D':List ByteArray}(h:wOK f i n D)(hl:(xBlk m).length≤8)(ho:ownsP m)(hu:xUid m=xUid n)(hnd:(useOf f i m).Nodup)(hD:D'.length=D.length)(hs:∀s∈D',s.size=32):wOK f i m D':=by
 have at_m:∀(j:Nat) x,((fI f).set i m)[j]? =some x→x=m∨((fI f).set i n)[j]? =some x:=fun j x hj=>by
  by_cases e:i=j
  ·subst e
   rw[List.getElem?_set_self hi]at hj
   injection hj with hj
   exact .inl hj.symm
  ·rw[List.getElem?_set_ne e]at hj ⊢
   exact .inr hj
 refine⟨⟨h.w.nq, ?_, ?_,fun j x hj=> ?_,fun j x hj=> ?_,hnd,hs⟩,by rw[hu];exact h.u0,by rw[hu];exact h.u3⟩
 ·have:=h.w.ni
  show((fI f).set i m).length=20
  have e:((fI f).set i n).length=20:=this
  rw[List.length_set]at e ⊢
  exact e
 ·have e:D.length=56:=h.w.nd
  show D'.length=56
  omega
 ·rcases at_m j x hj with rfl|hj
  ·exact hl
  ·exact h.w.len j x hj
 ·rcases at_m j x hj with rfl|hj
  ·exact ho
  ·exact h.w.own j x hj
theorem wOK.len(hi:i<(fI f).length){n:PInode}{D:List ByteArray}(h:wOK f i n D):(xBlk n).length≤8:=h.w.len i n (by show((fI f).set i n)[i]? =_;exact List.getElem?_set_self hi)
theorem wOK.own(hi:i<(fI f).length){n:PInode}{D:List ByteArray}(h:wOK f i n D):ownsP n:=h.w.own i n (by show((fI f).set i n)[i]? =_;exact List.getElem?_set_self hi)
theorem wOK.alloc(hi:i<(fI f).length){n:PInode}{D:List ByteArray}(h:wOK f i n D){k:Nat}(hk:(xBlk n)[k]? =some (-1)){b:Int}(h0:xUid n*14≤b)(h1:b<xUid n*14+14)(hb:b∉useOf f i n){D':List ByteArray}(hD:D'.length=D.length)(hs:∀s∈D',s.size=32):
  wOK f i (setBs n ((xBlk n).set k b)) D':=by
 have u0:=h.u0
 have u3:=h.u3
 have hne:b≠ -1:=by omega
 refine h.next hi ?_ (fun j c hj hc=> ?_) rfl ?_ hD hs
 ·show((xBlk n).set k b).length≤8
  rw[List.length_set];exact h.len hi
 ·have hj:((xBlk n).set k b)[j]? =some c:=hj
  by_cases e:k=j
  ·subst e
   rw[List.getElem?_set_self (List.getElem?_eq_some_iff.1 hk).1]at hj
   injection hj with hj
   subst hj
   show 0≤b∧b<56∧b / 14=xUid n
   omega
  ·rw[List.getElem?_set_ne e]at hj
   exact h.own hi j c hj hc
 ·have p:=use_alloc hi hk hne
  exact p.nodup_iff.2 (List.nodup_cons.2 ⟨hb,h.w.nodup⟩)
theorem set_sizes{D:List ByteArray}(hs:∀s∈D,s.size=32){b:Nat}{x:ByteArray}(hx:x.size=32):∀s∈D.set b x,s.size=32:=fun s hm=>by
 rcases List.mem_or_eq_of_mem_set hm with hm|rfl
 ·exact hs s hm
 ·exact hx
theorem wOK.data(hi:i<(fI f).length){n:PInode}{D:List ByteArray}(h:wOK f i n D){b:Nat}{x:ByteArray}(hx:x.size=32):wOK f i n (D.set b x):=
 h.next hi (h.len hi) (h.own hi) rfl h.w.nodup (by simp) (set_sizes h.w.sz hx)
theorem wOK.sz{n:PInode}{D:List ByteArray}(h:wOK f i n D){b:Int}(h0:0≤b)(h1:b<56):∃x,D[b.toNat]? =some x∧x.size=32:=by
 have e:D.length=56:=h.w.nd
 have hx:D[b.toNat]? =some D[b.toNat]:=List.getElem?_eq_getElem (by omega)
 exact⟨_,hx,h.w.sz _ (List.mem_of_getElem? hx)⟩
end
end Go.Proofs.YtbpfenmkhapeiaaGreat

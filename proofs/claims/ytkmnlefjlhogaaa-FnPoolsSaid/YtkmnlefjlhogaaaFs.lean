/- The tables, the residual functions and lemmas of this seat: parts of the proof of the law; conditions: those that each names. -/
import Derived.Test.YtkmnlefjlhogaaaIsI
set_option linter.unusedVariables false
set_option linter.unusedSimpArgs false
set_option maxRecDepth 100000
namespace Go.Proofs.Ytkmnlefjlhogaaa
open Go.Eng
abbrev fQ(f:PFS):List PQuota:=f.2.1
abbrev fI(f:PFS):List PInode:=f.2.2.1
abbrev fD(f:PFS):List ByteArray:=f.2.2.2
def zeroS(s:ByteArray):Prop:=∀(i:Nat) (c:UInt8),s[i]? =some c→c=0
def nz(l:List Int):List Int:=l.filter fun b=> !(b== -1)
def usedBs(l:List PInode):List Int:=l.flatMap fun n=>nz (xBlk n)
def ownAt(n:PInode)(b:Int):Prop:=0≤b∧b<56∧b / 14=xUid n
def tailAt(f:PFS)(n:PInode)(i:Nat)(b:Int):Prop:=xSize n-32*i<32→∀s,(fD f)[b.toNat]? =some s→zeroS (s.extract (xSize n-32*i).toNat s.size)
def blocksP(f:PFS)(n:PInode):Prop:=∀(i:Nat) b,(xBlk n)[i]? =some b→b≠ -1→ownAt n b∧tailAt f n i b
def quotaP(q:PQuota):Prop:=0≤q.1∧q.1≤5∧0≤q.2∧q.2≤14
structure fsP (f:PFS):Prop where
 tick:0≤f.1∧f.1≤1000000000
 nq:(fQ f).length=4
 ni:(fI f).length=20
 nd:(fD f).length=56
 q:∀(i:Nat) q,(fQ f)[i]? =some q→quotaP q
 sz:∀(i:Nat) s,(fD f)[i]? =some s→s.size=32
 ino:∀(i:Nat) n,(fI f)[i]? =some n→inodeP n
 blk:∀(i:Nat) n,(fI f)[i]? =some n→blocksP f n
 nodup:(usedBs (fI f)).Nodup
 free:∀(b:Nat) s,(fD f)[b]? =some s→(b:Int)∉usedBs (fI f)→zeroS s
 root:∃n,(fI f)[0]? =some n∧n.1=2
theorem zero_byte(c:UInt8):((c.toNat:Int) != 0)=false↔c=0:=by
 simp only[bne_eq_false_iff_eq]
 constructor
 ·intro h
  have:c.toNat=0:=by omega
  exact UInt8.toNat_inj.1 this
 ·intro h;subst h;rfl
theorem impl_IsZeroes_say(s:ByteArray)(hs:s.size<big):Say (fun k=>c_impl_IsZeroes k s) (zeroS s):=by
 unfold big at hs
 refine Say.run (fun k=>impl_IsZeroes_run k s) (Say.of ?_)
 simp only[impl_IsZeroes]
 refine EvX.upto (L:=fun k _=>impl_IsZeroes_l1 k) s.size (fun(_:Unit) i=>(s,(s.size:Int),(i:Int))) (fun _ i=>∀j c,j<i→s[j]? =some c→c=0) (fun _ i hi inv=> ?_) (fun _ inv=> ?_) () 0 (Nat.zero_le _) (by simp)
 ·have hw:wrapK .i64 ((i:Int)+1)=((i+1:Nat):Int):=by rw[i64w (by omega) (by omega)];omega
  have hx:s[i]? =some s[i]:=getElem?_pos s i hi
  simp only[impl_IsZeroes_l1,Int.ofNat_lt,hi,decide_true,cond_true,Int.natCast_nonneg,if_true,Int.toNat_natCast,hx,Option.map_some,Option.bind_some,hw]
  refine EvX.bif (fun h=>EvX.const _ (GL.ret (GP.no fun hP=> ?_))) (fun h=> ?_)
  ·have:=(zero_byte _).2 (hP i _ hx)
   rw[this]at h;cases h
  ·refine EvX.const _ (GL.self () rfl fun j c hj hc=> ?_)
   by_cases hji:j=i
   ·subst hji;rw[hx]at hc;cases hc;exact(zero_byte _).1 h
   ·exact inv j c (by omega) hc
 ·simp only[impl_IsZeroes_l1,Int.lt_irrefl,decide_false,cond_false]
  refine EvX.const _ (GE.ret (GP.yes fun i c hc=>inv i c ?_ hc))
  rcases Nat.lt_or_ge i s.size with h|h
  ·exact h
  ·rw[getElem?_neg s i (by omega)]at hc;cases hc
theorem spec_IsZeroes_say(s:ByteArray)(hs:s.size<big):Say (fun k=>c_spec_IsZeroes k s) (zeroS s):=by
 unfold big at hs
 refine Say.run (fun k=>spec_IsZeroes_run k s) (Say.of ?_)
 simp only[spec_IsZeroes]
 refine EvX.upto (L:=fun k _=>spec_IsZeroes_l1 k) s.size (fun(_:Unit) i=>(s,(i:Int))) (fun _ i=>∀j c,j<i→s[j]? =some c→c=0) (fun _ i hi inv=> ?_) (fun _ inv=> ?_) () 0 (Nat.zero_le _) (by simp)
 ·have hw:wrapK .i64 ((i:Int)+1)=((i+1:Nat):Int):=by rw[i64w (by omega) (by omega)];omega
  have hx:s[i]? =some s[i]:=getElem?_pos s i hi
  simp only[spec_IsZeroes_l1,Int.ofNat_lt,hi,decide_true,cond_true,Int.natCast_nonneg,if_true,Int.toNat_natCast,hx,Option.map_some,Option.bind_some,hw]
  refine EvX.bif (fun h=>EvX.const _ (GL.ret (GP.no fun hP=> ?_))) (fun h=> ?_)
  ·have:=(zero_byte _).2 (hP i _ hx)
   rw[this]at h;cases h
  ·refine EvX.const _ (GL.self () rfl fun j c hj hc=> ?_)
   by_cases hji:j=i
   ·subst hji;rw[hx]at hc;cases hc;exact(zero_byte _).1 h
   ·exact inv j c (by omega) hc
 ·simp only[spec_IsZeroes_l1,Int.lt_irrefl,decide_false,cond_false]
  refine EvX.const _ (GE.ret (GP.yes fun i c hc=>inv i c ?_ hc))
  rcases Nat.lt_or_ge i s.size with h|h
  ·exact h
  ·rw[getElem?_neg s i (by omega)]at hc;cases hc
def ownI(b:Int):Int:=if 0≤b∧b<56 then b / 14 else-1
theorem impl_BlockOwner_ev(b:Int):Ev (fun k=>c_impl_BlockOwner k b) (ownI b):=by
 refine EvQ.run (fun k=>impl_BlockOwner_run k b) ?_
 simp only[impl_BlockOwner,ownI]
 by_cases h:b<0
 ·simp[h,show ¬(0≤b∧b<56)by omega];exact EvQ.const _
 by_cases h2:56≤b
 ·simp[h,h2,show ¬(0≤b∧b<56)by omega];exact EvQ.const _
 have e1:b.tdiv 14=b / 14:=Int.tdiv_eq_ediv_of_nonneg (by omega)
 have e2:wrapK .i64 (b / 14)=b / 14:=i64w (by omega) (by omega)
 simp only[h,h2,decide_false,cond_false,e1,e2,show(0≤b∧b<56)by omega,if_true,ne_eq,show ¬((14:Int)=0)by decide,not_false_eq_true,and_self]
 exact EvQ.const _
theorem spec_BlockOwner_ev(b:Int):Ev (fun k=>c_spec_BlockOwner k b) (ownI b):=by
 refine EvQ.run (fun k=>spec_BlockOwner_run k b) ?_
 simp only[spec_BlockOwner,ownI]
 refine EvQ.bind (l01In_ev _ _ _) ?_
 by_cases h:0≤b∧b≤55
 ·have e1:b.tdiv 14=b / 14:=Int.tdiv_eq_ediv_of_nonneg (by omega)
  have e2:wrapK .i64 (b / 14)=b / 14:=i64w (by omega) (by omega)
  simp only[h,and_self,decide_true,Bool.not_true,cond_false,e1,e2,show(0≤b∧b<56)by omega,if_true,ne_eq,show ¬((14:Int)=0)by decide,not_false_eq_true]
  exact EvQ.const _
 ·simp only[h,decide_false,Bool.not_false,cond_true,show ¬(0≤b∧b<56)by omega,if_false]
  exact EvQ.const _
theorem own_iff{n:PInode}{b:Int}(hu:0≤xUid n):ownI b=xUid n↔ownAt n b:=by
 unfold ownI ownAt
 split
 ·constructor
  ·intro h;exact⟨by omega,by omega,h⟩
  ·intro h;exact h.2.2
 ·constructor
  ·intro h;omega
  ·intro h;omega
def usedA(u:List Bool)(seen:List Int):Prop:=u.length=56∧∀b:Nat,b<56→u[b]? =some (decide ((b:Int)∈seen))
theorem usedA_nil:usedA (List.replicate 56 false) []:=⟨by simp,fun b hb=>by rw[List.getElem?_replicate,if_pos hb];simp⟩
theorem usedA_set{u:List Bool}{seen:List Int}(h:usedA u seen){b:Int}(h0:0≤b):usedA (u.set b.toNat true) (seen++[b]):=by
 refine⟨by rw[List.length_set];exact h.1,fun c hc=> ?_⟩
 rw[List.getElem?_set]
 by_cases e:b.toNat=c
 ·have hbc:(c:Int)=b:=by omega
  rw[if_pos e,if_pos (by rw[h.1];omega)]
  simp[hbc]
 ·have hbc:¬(c:Int)=b:=by omega
  rw[if_neg e,h.2 c hc]
  simp[hbc]
theorem usedA_get{u:List Bool}{seen:List Int}(h:usedA u seen){b:Int}(h0:0≤b)(h1:b<56):u[b.toNat]? =some (decide (b∈seen)):=by
 have:=h.2 b.toNat (by omega)
 rw[this]
 have:((b.toNat:Nat):Int)=b:=by omega
 rw[this]
def pre(l:List PInode)(i:Nat)(n:PInode)(j:Nat):List Int:=usedBs (l.take i)++nz ((xBlk n).take j)
theorem split_at{α:Type}{l:List α}{i:Nat}{x:α}(h:l[i]? =some x):l=l.take i++x::l.drop (i+1):=by
 have hi:i<l.length:=(List.getElem?_eq_some_iff.1 h).1
 have h2:l[i]=x:=(List.getElem?_eq_some_iff.1 h).2
 rw[←h2,List.getElem_cons_drop,List.take_append_drop]
theorem nz_take{l:List Int}{j:Nat}{b:Int}(h:l[j]? =some b):nz (l.take (j+1))=nz (l.take j)++(if b= -1 then []else [b]):=by
 rw[List.take_add_one,h]
 simp only[nz,List.filter_append,Option.toList_some]
 congr 1
 by_cases hb:b= -1
 ·subst hb;simp
 ·have:(b== -1)=false:=by simpa using hb
  simp[hb,this]
theorem pre_succ{l:List PInode}{i:Nat}{n:PInode}{j:Nat}{b:Int}(h:(xBlk n)[j]? =some b)(hb:b≠ -1):pre l i n (j+1)=pre l i n j++[b]:=by
 simp only[pre,nz_take h,if_neg hb,List.append_assoc]
theorem pre_skip{l:List PInode}{i:Nat}{n:PInode}{j:Nat}(h:(xBlk n)[j]? =some (-1)):pre l i n (j+1)=pre l i n j:=by
 simp only[pre,nz_take h,if_true,List.append_nil]
theorem used_take{l:List PInode}{i:Nat}{n:PInode}(h:l[i]? =some n):usedBs (l.take (i+1))=pre l i n (xBlk n).length:=by
 rw[List.take_add_one,h]
 simp[usedBs,pre]
theorem pre_zero{l:List PInode}{i:Nat}{n:PInode}:pre l i n 0=usedBs (l.take i):=by simp[pre,nz]
theorem used_split{l:List PInode}{i:Nat}{n:PInode}{j:Nat}{b:Int}(h:l[i]? =some n)(hb:(xBlk n)[j]? =some b)(hn:b≠ -1):∃rest,usedBs l=pre l i n j++b::rest:=by
 refine⟨nz ((xBlk n).drop (j+1))++usedBs (l.drop (i+1)), ?_⟩
 have h1:usedBs l=usedBs (l.take i)++(nz (xBlk n)++usedBs (l.drop (i+1))):=by
  conv=>lhs;rw[split_at h]
  simp[usedBs]
 have h2:nz (xBlk n)=nz ((xBlk n).take j)++b::nz ((xBlk n).drop (j+1)):=by
  conv=>lhs;rw[split_at hb]
  have:(b== -1)=false:=by simpa using hn
  simp[nz,this]
 rw[h1,h2]
 simp[pre]
theorem used_fresh{f:PFS}(hP:(usedBs (fI f)).Nodup){i:Nat}{n:PInode}{j:Nat}{b:Int}(h:(fI f)[i]? =some n)(hb:(xBlk n)[j]? =some b)(hn:b≠ -1):b∉pre (fI f) i n j:=fun hm=>by
 obtain⟨rest,h1⟩:=used_split h hb hn
 rw[h1,List.nodup_append]at hP
 exact hP.2.2 b hm b (by simp) rfl
theorem nodup_snoc{l:List Int}{b:Int}(h:l.Nodup)(hb:b∉l):(l++[b]).Nodup:=by
 rw[List.nodup_append]
 exact⟨h,by simp,fun x hx y hy=>by simp at hy;subst hy;exact fun e=>hb (e▸hx)⟩
theorem big_ext{s:ByteArray}{a:Nat}(h:s.size<100):(s.extract a s.size).size<big:=by rw[ByteArray.size_extract];unfold big;omega
structure fs1 (f:PFS):Prop where
 tick:0≤f.1∧f.1≤1000000000
 nq:(fQ f).length=4
 ni:(fI f).length=20
 nd:(fD f).length=56
def fsSmall(f:PFS):Prop:=∀n∈fI f,inoSmall n
theorem pair_not{P Q:Prop}(h:P→Q)(hn:¬Q):¬P:=fun p=>hn (h p)
section
variable {f:PFS} {S:Type}
theorem uid_of{n:PInode}(h:inodeP n){i:Nat}{b:Int}(hb:(xBlk n)[i]? =some b):usedP n:=by
 rcases h with h|h
 ·subst h
  have:(none:Option Int)=some b:=hb
  cases this
 ·exact h
theorem used_len{n:PInode}(h:usedP n):((xBlk n).length:Int)=needI (xSize n):=h.2.1.2.2.2.2.2.2
theorem size_of{n:PInode}(h:usedP n):0≤xSize n∧xSize n≤256:=h.2.1.2.2.2.2.1
theorem tail_pos{n:PInode}(h:usedP n){i:Nat}{b:Int}(hb:(xBlk n)[i]? =some b):0<xSize n-32*i∧i<9:=by
 have hi:=(List.getElem?_eq_some_iff.1 hb).1
 have h1:=used_len h
 have h2:=size_of h
 unfold needI at h1
 split at h1<;>omega
theorem impl_L2(H:fs1 f)(hq:∀(i:Nat) q,(fQ f)[i]? =some q→quotaP q)(hz:∀(i:Nat) s,(fD f)[i]? =some s→s.size=32)(hi:∀(i:Nat) n,(fI f)[i]? =some n→inodeP n∧blocksP f n)(hn:(usedBs (fI f)).Nodup)
  {u:List Bool} (hu:usedA u (usedBs (fI f))):EvX (fun k (_:S)=>iter k (impl_IsFS_l2 k) ((),(),fD f,((fD f).length:Int),(0:Int),u,f)) (GP (fsP f)):=by
 have hnd:=H.nd
 refine EvX.list (L:=fun k _=>impl_IsFS_l2 k) (fD f) (fun(_:Unit) i=>((),(),fD f,((fD f).length:Int),(i:Int),u,f)) (fun _ i=>∀b s,b<i→(fD f)[b]? =some s→(b:Int)∉usedBs (fI f)→zeroS s) (fun _ i s hx hi inv=> ?_) (fun _ inv=> ?_) () (by simp)
 ·have hw:wrapK .i64 ((i:Int)+1)=((i+1:Nat):Int):=by rw[i64w (by omega) (by omega)];omega
  have h56:(i:Int)<56:=by omega
  have hui:=hu.2 i (by omega)
  simp only[impl_IsFS_l2,Int.ofNat_lt,hi,decide_true,cond_true,Int.natCast_nonneg,if_true,Int.toNat_natCast,hx,Option.bind_some,hw,h56,hui]
  have next:((i:Int)∉usedBs (fI f)→zeroS s)→∀b s,b<i+1→(fD f)[b]? =some s→(b:Int)∉usedBs (fI f)→zeroS s:=fun ho b s' hb hs hm=>by
   by_cases e:b=i
   ·subst e;rw[hx]at hs;cases hs;exact ho hm
   ·exact inv b s' (by omega) hs hm
  refine EvX.bif (fun h1=> ?_) (fun h1=> ?_)
  ·simp at h1
   refine EvX.say (impl_IsZeroes_say s (by rw[hz i s hx];unfold big;omega)) fun b hb=>EvX.bif (fun h2=>EvX.const _ (GL.ret (GP.no fun hP=> ?_))) (fun h2=> ?_)
   ·have:=hb.2 (hP.free i s hx h1);rw[this]at h2;cases h2
   ·exact EvX.const _ (GL.self () rfl (next fun _=>hb.1 (by simpa using h2)))
  ·simp at h1
   exact EvX.const _ (GL.self () rfl (next fun h=>absurd h1 h))
 ·obtain⟨n0,h0⟩:∃n,(fI f)[0]? =some n:=⟨_,List.getElem?_eq_getElem (show 0<(fI f).length by rw[H.ni];omega)⟩
  simp only[impl_IsFS_l2,Int.lt_irrefl,decide_false,cond_false,Int.le_refl,if_true,Int.toNat_zero,h0,Option.bind_some]
  refine EvX.const _ (GE.ret (GP.ret ?_))
  rw[beq_iff_eq]
  constructor
  ·intro h
   exact⟨H.tick,H.nq,H.ni,H.nd,hq,hz,fun i n hn=>(hi i n hn).1,fun i n hn=>(hi i n hn).2,hn,fun b s hs hm=>inv b s (List.getElem?_eq_some_iff.1 hs).1 hs hm,⟨_,h0,h⟩⟩
  ·intro hP
   obtain⟨n,h1,h2⟩:=hP.root
   rw[h0]at h1;cases h1;exact h2
def inv3(f:PFS)(u:List Bool)(i:Nat):Prop:=usedA u (usedBs ((fI f).take i))∧(usedBs ((fI f).take i)).Nodup∧∀(m:Nat) n,m<i→(fI f)[m]? =some n→inodeP n∧blocksP f n
def inv1(f:PFS)(i:Nat)(n:PInode)(u:List Bool)(j:Nat):Prop:=usedA u (pre (fI f) i n j)∧(pre (fI f) i n j).Nodup∧∀(m:Nat) b,m<j→(xBlk n)[m]? =some b→b≠ -1→ownAt n b∧tailAt f n m b
set_option maxHeartbeats 2000000 in
theorem impl_L1(H:fs1 f)(hs:fsSmall f)(hz:∀(i:Nat) s,(fD f)[i]? =some s→s.size=32){i:Nat}{n:PInode}(hx:(fI f)[i]? =some n)(hin:inodeP n)(h3:∀(m:Nat) n,m<i→(fI f)[m]? =some n→inodeP n∧blocksP f n){u:List Bool}(hu:usedA u (usedBs ((fI f).take i)))(hnd:(usedBs ((fI f).take i)).Nodup)
  {G:(S→Option Bool)→Prop} (hG:¬fsP f→G fun _=>some false):
  EvX (fun k (p:S×((Unit×Unit×List PInode×Int×Int×List Bool×PFS)→Option Bool))=>iter k (impl_IsFS_l1 k p.2) ((),(),(),fI f,((fI f).length:Int),(i:Int),xBlk n,((xBlk n).length:Int),(0:Int),n,u,f))
   (GL (fun u i=>((),(),fI f,((fI f).length:Int),((i:Nat):Int),u,f)) (inv3 f) i G):=by
 have hlen:(xBlk n).length<4611686018427387904:=(hs n (List.mem_of_getElem? hx)).1
 have hni:=H.ni
 have hil:=(List.getElem?_eq_some_iff.1 hx).1
 refine EvX.list (L:=fun k (p:S×((Unit×Unit×List PInode×Int×Int×List Bool×PFS)→Option Bool))=>impl_IsFS_l1 k p.2) (xBlk n) (fun u j=>((),(),(),fI f,((fI f).length:Int),(i:Int),xBlk n,((xBlk n).length:Int),(j:Int),n,u,f)) (inv1 f i n) (fun u j b hb hj inv=> ?_) (fun u inv=> ?_) u ⟨by rw[pre_zero];exact hu,by rw[pre_zero];exact hnd,by simp⟩
 ·have hw:wrapK .i64 ((j:Int)+1)=((j+1:Nat):Int):=by rw[i64w (by omega) (by omega)];omega
  simp only[impl_IsFS_l1,Int.ofNat_lt,hj,decide_true,cond_true,Int.natCast_nonneg,if_true,Int.toNat_natCast,hb,Option.bind_some,hw]
  have hup:=uid_of hin hb
  have huid:0≤xUid n:=hup.2.1.2.1.1
  obtain⟨v1,v2,v3⟩:=inv
  have next:(b≠ -1→ownAt n b∧tailAt f n j b)→∀m c,m<j+1→(xBlk n)[m]? =some c→c≠ -1→ownAt n c∧tailAt f n m c:=fun ho m c hm hc=>by
   by_cases e:m=j
   ·subst e;rw[hb]at hc;cases hc;exact ho
   ·exact v3 m c (by omega) hc
  refine EvX.bif (fun h1=> ?_) (fun h1=> ?_)
  ·have h1:b= -1:=by simpa using h1
   subst h1
   exact EvX.const _ (GL.self u rfl ⟨by rw[pre_skip hb];exact v1,by rw[pre_skip hb];exact v2,next fun h=>absurd rfl h⟩)
  ·have h1':b≠ -1:=by simpa using h1
   refine EvX.bind (impl_BlockOwner_ev b) (EvX.bif (fun h2=>EvX.const _ (GL.ret (GL.ret (hG fun hP=> ?_)))) (fun h2=> ?_))
   ·have:=(own_iff huid).2 ((hP.blk i n hx) j b hb h1').1
    rw[this]at h2;simp at h2
   have hown:ownAt n b:=(own_iff huid).1 (by simpa using h2)
   have b0:=hown.1
   have b1:=hown.2.1
   simp only[b0,b1,if_true,usedA_get v1 b0 b1,Option.bind_some]
   refine EvX.bif (fun h3=>EvX.const _ (GL.ret (GL.ret (hG fun hP=> ?_)))) (fun h3=> ?_)
   ·exact used_fresh hP.nodup hx hb h1' (of_decide_eq_true h3)
   replace h3:=of_decide_eq_false h3
   have hpre:=pre_succ (l:=fI f) (i:=i) hb h1'
   have u1:usedA (u.set b.toNat true) (pre (fI f) i n (j+1)):=by rw[hpre];exact usedA_set v1 b0
   have u2:(pre (fI f) i n (j+1)).Nodup:=by rw[hpre];exact nodup_snoc v2 h3
   obtain⟨t1,t2⟩:=tail_pos hup hb
   have t3:=(size_of hup).2
   have w1:wrapK .i64 ((j:Int)*32)=32*j:=by rw[i64w (by omega) (by omega)];omega
   have w2:wrapK .i64 (xSize n-32*j)=xSize n-32*j:=i64w (by omega) (by omega)
   have w1':wrapK .i64 (n.2.2.2.2.2.1-wrapK .i64 ((j:Int)*32))=xSize n-32*j:=by rw[w1];exact w2
   simp only[w1']
   refine EvX.bif (fun h4=> ?_) (fun h4=> ?_)
   ·replace h4:=of_decide_eq_true h4
    obtain⟨sd,hd⟩:∃s,(fD f)[b.toNat]? =some s:=⟨_,List.getElem?_eq_getElem (show b.toNat<(fD f).length by rw[H.nd];omega)⟩
    have hsz:=hz _ _ hd
    have c1:0≤xSize n-32*(j:Int):=by omega
    have c2:xSize n-32*(j:Int)≤((sd.size:Nat):Int):=by rw[hsz];omega
    simp only[hd,Option.bind_some,c1,c2,if_true]
    refine EvX.say (impl_IsZeroes_say _ (big_ext (by omega))) fun c hc=>EvX.bif (fun h5=>EvX.const _ (GL.ret (GL.ret (hG fun hP=> ?_)))) (fun h5=> ?_)
    ·have:=hc.2 (((hP.blk i n hx) j b hb h1').2 h4 _ hd)
     rw[this]at h5;cases h5
    ·refine EvX.const _ (GL.self (u.set b.toNat true) rfl ⟨u1,u2,next fun _=>⟨hown,fun _ s hs=> ?_⟩⟩)
     rw[hd]at hs;cases hs
     exact hc.1 (by simpa using h5)
   ·replace h4:=of_decide_eq_false h4
    exact EvX.const _ (GL.self (u.set b.toNat true) rfl ⟨u1,u2,next fun _=>⟨hown,fun h=>by omega⟩⟩)
 ·have hw:wrapK .i64 ((i:Int)+1)=((i+1:Nat):Int):=by rw[i64w (by omega) (by omega)];omega
  simp only[impl_IsFS_l1,Int.lt_irrefl,decide_false,cond_false,hw]
  obtain⟨v1,v2,v3⟩:=inv
  rw[←used_take hx]at v1 v2
  refine EvX.const _ (GE.up (S:=S×((Unit×Unit×List PInode×Int×Int×List Bool×PFS)→Option Bool)) (fun p=>p.2 ((),(),fI f,((fI f).length:Int),((i+1:Nat):Int),u,f)) ?_)
  refine GL.self u rfl ⟨v1,v2,fun m n' hm hn'=> ?_⟩
  by_cases e:m=i
  ·subst e;rw[hx]at hn';cases hn'
   exact⟨hin,fun m b hb h=>v3 m b (List.getElem?_eq_some_iff.1 hb).1 hb h⟩
  ·exact h3 m n' (by omega) hn'
theorem impl_L3(H:fs1 f)(hs:fsSmall f)(hq:∀(i:Nat) q,(fQ f)[i]? =some q→quotaP q)(hz:∀(i:Nat) s,(fD f)[i]? =some s→s.size=32):
  EvX (fun k (_:S)=>iter k (impl_IsFS_l3 k) ((),(),fI f,((fI f).length:Int),(0:Int),List.replicate 56 false,f)) (GP (fsP f)):=by
 refine EvX.list (L:=fun k _=>impl_IsFS_l3 k) (fI f) (fun u i=>((),(),fI f,((fI f).length:Int),((i:Nat):Int),u,f)) (inv3 f) (fun u i n hx hi inv=> ?_) (fun u inv=> ?_) _ ⟨usedA_nil,by simp[usedBs],by simp⟩
 ·simp only[impl_IsFS_l3,Int.ofNat_lt,hi,decide_true,cond_true,Int.natCast_nonneg,if_true,Int.toNat_natCast,hx,Option.bind_some]
  refine EvX.say (impl_IsInode_say n (hs n (List.mem_of_getElem? hx))) fun b hb=>EvX.bif (fun h1=>EvX.const _ (GL.ret (GP.no fun hP=> ?_))) (fun h1=> ?_)
  ·have:=hb.2 (hP.ino i n hx);rw[this]at h1;cases h1
  exact impl_L1 H hs hz hx (hb.1 (by simpa using h1)) inv.2.2 inv.1 inv.2.1 (fun h=>GP.no h)
 ·simp only[impl_IsFS_l3,Int.lt_irrefl,decide_false,cond_false]
  obtain⟨v1,v2,v3⟩:=inv
  rw[List.take_length]at v1 v2
  exact EvX.out (F:=fun k _=>iter k (impl_IsFS_l2 k) ((),(),fD f,((fD f).length:Int),(0:Int),u,f)) (impl_L2 H hq hz (fun i n hn=>v3 i n (List.getElem?_eq_some_iff.1 hn).1 hn) v2 v1)
end
theorem impl_IsFS_say(f:PFS)(hs:fsSmall f):Say (fun k=>c_impl_IsFS k f) (fsP f):=by
 refine Say.run (fun k=>impl_IsFS_run k f) (Say.of ?_)
 simp only[impl_IsFS]
 refine EvX.bif (fun h=>EvX.const _ (GP.no fun hP=>by have:=hP.tick;simp at h;omega)) (fun h1=> ?_)
 refine EvX.bif (fun h=>EvX.const _ (GP.no fun hP=>by have:=hP.tick;simp at h;omega)) (fun h2=> ?_)
 refine EvX.bif (fun h=>EvX.const _ (GP.no fun hP=>by have this:f.2.1.length=4:=hP.nq;simp at h;omega)) (fun h3=> ?_)
 refine EvX.bif (fun h=>EvX.const _ (GP.no fun hP=>by have this:f.2.2.1.length=20:=hP.ni;simp at h;omega)) (fun h4=> ?_)
 refine EvX.bif (fun h=>EvX.const _ (GP.no fun hP=>by have this:f.2.2.2.length=56:=hP.nd;simp at h;omega)) (fun h5=> ?_)
 simp at h1 h2 h3 h4 h5
 have H:fs1 f:=⟨⟨by omega,by omega⟩,by show f.2.1.length=4;omega,by show f.2.2.1.length=20;omega,by show f.2.2.2.length=56;omega⟩
 have nq:=H.nq
 have nd:=H.nd
 refine EvX.list (L:=fun k _=>impl_IsFS_l5 k) (fQ f) (fun(_:Unit) i=>((),fQ f,((fQ f).length:Int),((i:Nat):Int),f)) (fun _ i=>∀j q,j<i→(fQ f)[j]? =some q→quotaP q) (fun _ i q hx hi inv=> ?_) (fun _ inv=> ?_) () (by simp)
 ·have hw:wrapK .i64 ((i:Int)+1)=((i+1:Nat):Int):=by rw[i64w (by omega) (by omega)];omega
  simp only[impl_IsFS_l5,Int.ofNat_lt,hi,decide_true,cond_true,Int.natCast_nonneg,if_true,Int.toNat_natCast,hx,Option.bind_some,hw]
  refine EvX.bif (fun h=>EvX.const _ (GL.ret (GP.no fun hP=>by have:=hP.q i q hx;unfold quotaP at this;simp at h;omega))) (fun h6=> ?_)
  refine EvX.bif (fun h=>EvX.const _ (GL.ret (GP.no fun hP=>by have:=hP.q i q hx;unfold quotaP at this;simp at h;omega))) (fun h7=> ?_)
  refine EvX.bif (fun h=>EvX.const _ (GL.ret (GP.no fun hP=>by have:=hP.q i q hx;unfold quotaP at this;simp at h;omega))) (fun h8=> ?_)
  refine EvX.bif (fun h=>EvX.const _ (GL.ret (GP.no fun hP=>by have:=hP.q i q hx;unfold quotaP at this;simp at h;omega))) (fun h9=> ?_)
  simp at h6 h7 h8 h9
  refine EvX.const _ (GL.self () rfl fun j q' hj hq'=> ?_)
  by_cases e:j=i
  ·subst e;rw[hx]at hq';cases hq';exact⟨h6,h7,h8,h9⟩
  ·exact inv j q' (by omega) hq'
 ·simp only[impl_IsFS_l5,Int.lt_irrefl,decide_false,cond_false]
  refine EvX.out (F:=fun k _=>iter k (impl_IsFS_l4 k) ((),fD f,((fD f).length:Int),(0:Int),f)) ?_
  refine EvX.list (L:=fun k _=>impl_IsFS_l4 k) (fD f) (fun(_:Unit) i=>((),fD f,((fD f).length:Int),((i:Nat):Int),f)) (fun _ i=>∀j s,j<i→(fD f)[j]? =some s→s.size=32) (fun _ i s hx hi inv2=> ?_) (fun _ inv2=> ?_) () (by simp)
  ·have hw:wrapK .i64 ((i:Int)+1)=((i+1:Nat):Int):=by rw[i64w (by omega) (by omega)];omega
   simp only[impl_IsFS_l4,Int.ofNat_lt,hi,decide_true,cond_true,Int.natCast_nonneg,if_true,Int.toNat_natCast,hx,Option.bind_some,hw]
   refine EvX.bif (fun h=>EvX.const _ (GL.ret (GP.no fun hP=>by have:=hP.sz i s hx;simp at h;omega))) (fun h6=> ?_)
   simp at h6
   refine EvX.const _ (GL.self () rfl fun j s' hj hs'=> ?_)
   by_cases e:j=i
   ·subst e;rw[hx]at hs';cases hs';omega
   ·exact inv2 j s' (by omega) hs'
  ·simp only[impl_IsFS_l4,Int.lt_irrefl,decide_false,cond_false]
   exact EvX.out (F:=fun k _=>iter k (impl_IsFS_l3 k) ((),(),fI f,((fI f).length:Int),(0:Int),List.replicate 56 false,f)) (impl_L3 H hs (fun i q hq=>inv i q (List.getElem?_eq_some_iff.1 hq).1 hq) (fun i s hs'=>inv2 i s (List.getElem?_eq_some_iff.1 hs').1 hs'))
end Go.Proofs.Ytkmnlefjlhogaaa

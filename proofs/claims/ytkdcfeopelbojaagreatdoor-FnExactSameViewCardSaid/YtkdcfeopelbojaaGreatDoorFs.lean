/- The tables, the residual functions and lemmas of this seat: parts of the proof of the law; conditions: those that each names. -/
import Derived.Test.YtkdcfeopelbojaaGreatDoorIsI
set_option linter.unusedVariables false
set_option linter.unusedSimpArgs false
set_option maxRecDepth 100000
namespace Go.Proofs.YtkdcfeopelbojaaGreatDoor
open Go.Eng
abbrev fQ(f:dV):List LJ:=f.2.1
abbrev fI(f:dV):List az:=f.2.2.1
abbrev fD(f:dV):List ByteArray:=f.2.2.2
def ru(s:ByteArray):Prop:=∀(i:Nat) (c:UInt8),s[i]? =some c→c=0
def nz(l:List Int):List Int:=l.filter fun b=> !(b== -1)
def aU(l:List az):List Int:=l.flatMap fun n=>nz (aK n)
def tH(n:az)(b:Int):Prop:=0≤b∧b<56∧b / 14=Oy n
def EY(f:dV)(n:az)(i:Nat)(b:Int):Prop:=dF n-32*i<32→∀s,(fD f)[b.toNat]? =some s→ru (s.extract (dF n-32*i).toNat s.size)
def D8(f:dV)(n:az):Prop:=∀(i:Nat) b,(aK n)[i]? =some b→b≠ -1→tH n b∧EY f n i b
def jC(q:LJ):Prop:=0≤q.1∧q.1≤5∧0≤q.2∧q.2≤14
structure qv (f:dV):Prop where
 tick:0≤f.1∧f.1≤1000000000
 nq:(fQ f).length=4
 ni:(fI f).length=20
 nd:(fD f).length=56
 q:∀(i:Nat) q,(fQ f)[i]? =some q→jC q
 sz:∀(i:Nat) s,(fD f)[i]? =some s→s.size=32
 ino:∀(i:Nat) n,(fI f)[i]? =some n→dy n
 bj:∀(i:Nat) n,(fI f)[i]? =some n→D8 f n
 nodup:(aU (fI f)).Nodup
 free:∀(b:Nat) s,(fD f)[b]? =some s→(b:Int)∉aU (fI f)→ru s
 root:∃n,(fI f)[0]? =some n∧n.1=2
theorem wa(c:UInt8):((c.toNat:Int) != 0)=false↔c=0:=by
 simp only[bne_eq_false_iff_eq]
 constructor
 ·intro h
  have:c.toNat=0:=by omega
  exact UInt8.toNat_inj.1 this
 ·intro h;subst h;rfl
theorem o6(s:ByteArray)(hs:s.size<fu):dB (fun k=>jk k s) (ru s):=by
 unfold fu at hs
 refine dB.run (fun k=>zV k s) (dB.of ?_)
 simp only[yb]
 refine ak.upto (L:=fun k _=>il k) s.size (fun(_:Unit) i=>(s,(s.size:Int),(i:Int))) (fun _ i=>∀j c,j<i→s[j]? =some c→c=0) (fun _ i hi inv=> ?_) (fun _ inv=> ?_) () 0 (Nat.zero_le _) (by simp)
 ·have hw:aa .i64 ((i:Int)+1)=((i+1:Nat):Int):=by rw[aV (by omega) (by omega)];omega
  have hx:s[i]? =some s[i]:=getElem?_pos s i hi
  simp only[il,Int.ofNat_lt,hi,decide_true,cond_true,Int.natCast_nonneg,if_true,Int.toNat_natCast,hx,Option.map_some,Option.bind_some,hw]
  refine ak.bif (fun h=>ak.const _ (GL.ret (GP.no fun hP=> ?_))) (fun h=> ?_)
  ·have:=(wa _).2 (hP i _ hx)
   rw[this]at h;cases h
  ·refine ak.const _ (GL.self () rfl fun j c hj hc=> ?_)
   by_cases hji:j=i
   ·subst hji;rw[hx]at hc;cases hc;exact(wa _).1 h
   ·exact inv j c (by omega) hc
 ·simp only[il,Int.lt_irrefl,decide_false,cond_false]
  refine ak.const _ (GE.ret (GP.yes fun i c hc=>inv i c ?_ hc))
  rcases Nat.lt_or_ge i s.size with h|h
  ·exact h
  ·rw[getElem?_neg s i (by omega)]at hc;cases hc
theorem pj(s:ByteArray)(hs:s.size<fu):dB (fun k=>jt k s) (ru s):=by
 unfold fu at hs
 refine dB.run (fun k=>AY k s) (dB.of ?_)
 simp only[xX]
 refine ak.upto (L:=fun k _=>iP k) s.size (fun(_:Unit) i=>(s,(i:Int))) (fun _ i=>∀j c,j<i→s[j]? =some c→c=0) (fun _ i hi inv=> ?_) (fun _ inv=> ?_) () 0 (Nat.zero_le _) (by simp)
 ·have hw:aa .i64 ((i:Int)+1)=((i+1:Nat):Int):=by rw[aV (by omega) (by omega)];omega
  have hx:s[i]? =some s[i]:=getElem?_pos s i hi
  simp only[iP,Int.ofNat_lt,hi,decide_true,cond_true,Int.natCast_nonneg,if_true,Int.toNat_natCast,hx,Option.map_some,Option.bind_some,hw]
  refine ak.bif (fun h=>ak.const _ (GL.ret (GP.no fun hP=> ?_))) (fun h=> ?_)
  ·have:=(wa _).2 (hP i _ hx)
   rw[this]at h;cases h
  ·refine ak.const _ (GL.self () rfl fun j c hj hc=> ?_)
   by_cases hji:j=i
   ·subst hji;rw[hx]at hc;cases hc;exact(wa _).1 h
   ·exact inv j c (by omega) hc
 ·simp only[iP,Int.lt_irrefl,decide_false,cond_false]
  refine ak.const _ (GE.ret (GP.yes fun i c hc=>inv i c ?_ hc))
  rcases Nat.lt_or_ge i s.size with h|h
  ·exact h
  ·rw[getElem?_neg s i (by omega)]at hc;cases hc
def DN(b:Int):Int:=if 0≤b∧b<56 then b / 14 else-1
theorem zo(b:Int):Ev (fun k=>kb k b) (DN b):=by
 refine ax.run (fun k=>wT k b) ?_
 simp only[tE,DN]
 by_cases h:b<0
 ·simp[h,show ¬(0≤b∧b<56)by omega];exact ax.const _
 by_cases h2:56≤b
 ·simp[h,h2,show ¬(0≤b∧b<56)by omega];exact ax.const _
 have e1:b.tdiv 14=b / 14:=Int.tdiv_eq_ediv_of_nonneg (by omega)
 have e2:aa .i64 (b / 14)=b / 14:=aV (by omega) (by omega)
 simp only[h,h2,decide_false,cond_false,e1,e2,show(0≤b∧b<56)by omega,if_true,ne_eq,show ¬((14:Int)=0)by decide,not_false_eq_true,and_self]
 exact ax.const _
theorem nN(b:Int):Ev (fun k=>gE k b) (DN b):=by
 refine ax.run (fun k=>wW k b) ?_
 simp only[s8,DN]
 refine ax.bind (cA _ _ _) ?_
 by_cases h:0≤b∧b≤55
 ·have e1:b.tdiv 14=b / 14:=Int.tdiv_eq_ediv_of_nonneg (by omega)
  have e2:aa .i64 (b / 14)=b / 14:=aV (by omega) (by omega)
  simp only[h,and_self,decide_true,Bool.not_true,cond_false,e1,e2,show(0≤b∧b<56)by omega,if_true,ne_eq,show ¬((14:Int)=0)by decide,not_false_eq_true]
  exact ax.const _
 ·simp only[h,decide_false,Bool.not_false,cond_true,show ¬(0≤b∧b<56)by omega,if_false]
  exact ax.const _
theorem D5{n:az}{b:Int}(hu:0≤Oy n):DN b=Oy n↔tH n b:=by
 unfold DN tH
 split
 ·constructor
  ·intro h;exact⟨by omega,by omega,h⟩
  ·intro h;exact h.2.2
 ·constructor
  ·intro h;omega
  ·intro h;omega
def kY(u:List Bool)(seen:List Int):Prop:=u.length=56∧∀b:Nat,b<56→u[b]? =some (decide ((b:Int)∈seen))
theorem BT:kY (List.replicate 56 false) []:=⟨by simp,fun b hb=>by rw[List.getElem?_replicate,if_pos hb];simp⟩
theorem Cj{u:List Bool}{seen:List Int}(h:kY u seen){b:Int}(h0:0≤b):kY (u.set b.toNat true) (seen++[b]):=by
 refine⟨by rw[List.length_set];exact h.1,fun c hc=> ?_⟩
 rw[List.getElem?_set]
 by_cases e:b.toNat=c
 ·have hbc:(c:Int)=b:=by omega
  rw[if_pos e,if_pos (by rw[h.1];omega)]
  simp[hbc]
 ·have hbc:¬(c:Int)=b:=by omega
  rw[if_neg e,h.2 c hc]
  simp[hbc]
theorem B3{u:List Bool}{seen:List Int}(h:kY u seen){b:Int}(h0:0≤b)(h1:b<56):u[b.toNat]? =some (decide (b∈seen)):=by
 have:=h.2 b.toNat (by omega)
 rw[this]
 have:((b.toNat:Nat):Int)=b:=by omega
 rw[this]
def pre(l:List az)(i:Nat)(n:az)(j:Nat):List Int:=aU (l.take i)++nz ((aK n).take j)
theorem jh{α:Type}{l:List α}{i:Nat}{x:α}(h:l[i]? =some x):l=l.take i++x::l.drop (i+1):=by
 have hi:i<l.length:=(List.getElem?_eq_some_iff.1 h).1
 have h2:l[i]=x:=(List.getElem?_eq_some_iff.1 h).2
 rw[←h2,List.getElem_cons_drop,List.take_append_drop]
theorem DX{l:List Int}{j:Nat}{b:Int}(h:l[j]? =some b):nz (l.take (j+1))=nz (l.take j)++(if b= -1 then []else [b]):=by
 rw[List.take_add_one,h]
 simp only[nz,List.filter_append,Option.toList_some]
 congr 1
 by_cases hb:b= -1
 ·subst hb;simp
 ·have:(b== -1)=false:=by simpa using hb
  simp[hb,this]
theorem EB{l:List az}{i:Nat}{n:az}{j:Nat}{b:Int}(h:(aK n)[j]? =some b)(hb:b≠ -1):pre l i n (j+1)=pre l i n j++[b]:=by
 simp only[pre,DX h,if_neg hb,List.append_assoc]
theorem u9{l:List az}{i:Nat}{n:az}{j:Nat}(h:(aK n)[j]? =some (-1)):pre l i n (j+1)=pre l i n j:=by
 simp only[pre,DX h,if_true,List.append_nil]
theorem wF{l:List az}{i:Nat}{n:az}(h:l[i]? =some n):aU (l.take (i+1))=pre l i n (aK n).length:=by
 rw[List.take_add_one,h]
 simp[aU,pre]
theorem uJ{l:List az}{i:Nat}{n:az}:pre l i n 0=aU (l.take i):=by simp[pre,nz]
theorem L7{l:List az}{i:Nat}{n:az}{j:Nat}{b:Int}(h:l[i]? =some n)(hb:(aK n)[j]? =some b)(hn:b≠ -1):∃rest,aU l=pre l i n j++b::rest:=by
 refine⟨nz ((aK n).drop (j+1))++aU (l.drop (i+1)), ?_⟩
 have h1:aU l=aU (l.take i)++(nz (aK n)++aU (l.drop (i+1))):=by
  conv=>lhs;rw[jh h]
  simp[aU]
 have h2:nz (aK n)=nz ((aK n).take j)++b::nz ((aK n).drop (j+1)):=by
  conv=>lhs;rw[jh hb]
  have:(b== -1)=false:=by simpa using hn
  simp[nz,this]
 rw[h1,h2]
 simp[pre]
theorem Fj{f:dV}(hP:(aU (fI f)).Nodup){i:Nat}{n:az}{j:Nat}{b:Int}(h:(fI f)[i]? =some n)(hb:(aK n)[j]? =some b)(hn:b≠ -1):b∉pre (fI f) i n j:=fun hm=>by
 obtain⟨rest,h1⟩:=L7 h hb hn
 rw[h1,List.nodup_append]at hP
 exact hP.2.2 b hm b (by simp) rfl
theorem E6{l:List Int}{b:Int}(h:l.Nodup)(hb:b∉l):(l++[b]).Nodup:=by
 rw[List.nodup_append]
 exact⟨h,by simp,fun x hx y hy=>by simp at hy;subst hy;exact fun e=>hb (e▸hx)⟩
theorem MK{s:ByteArray}{a:Nat}(h:s.size<100):(s.extract a s.size).size<fu:=by rw[ByteArray.size_extract];unfold fu;omega
structure Rb (f:dV):Prop where
 tick:0≤f.1∧f.1≤1000000000
 nq:(fQ f).length=4
 ni:(fI f).length=20
 nd:(fD f).length=56
def cJ(f:dV):Prop:=∀n∈fI f,qd n
theorem Sx{P Q:Prop}(h:P→Q)(hn:¬Q):¬P:=fun p=>hn (h p)
section
variable {f:dV} {S:Type}
theorem I0{n:az}(h:dy n){i:Nat}{b:Int}(hb:(aK n)[i]? =some b):mB n:=by
 rcases h with h|h
 ·subst h
  have:(none:Option Int)=some b:=hb
  cases this
 ·exact h
theorem uA{n:az}(h:mB n):((aK n).length:Int)=qE (dF n):=h.2.1.2.2.2.2.2.2
theorem wc{n:az}(h:mB n):0≤dF n∧dF n≤256:=h.2.1.2.2.2.2.1
theorem J7{n:az}(h:mB n){i:Nat}{b:Int}(hb:(aK n)[i]? =some b):0<dF n-32*i∧i<9:=by
 have hi:=(List.getElem?_eq_some_iff.1 hb).1
 have h1:=uA h
 have h2:=wc h
 unfold qE at h1
 split at h1<;>omega
theorem Qg(H:Rb f)(hq:∀(i:Nat) q,(fQ f)[i]? =some q→jC q)(hz:∀(i:Nat) s,(fD f)[i]? =some s→s.size=32)(hi:∀(i:Nat) n,(fI f)[i]? =some n→dy n∧D8 f n)(hn:(aU (fI f)).Nodup)
  {u:List Bool} (hu:kY u (aU (fI f))):ak (fun k (_:S)=>iter k (ij k) ((),(),fD f,((fD f).length:Int),(0:Int),u,f)) (GP (qv f)):=by
 have hnd:=H.nd
 refine ak.list (L:=fun k _=>ij k) (fD f) (fun(_:Unit) i=>((),(),fD f,((fD f).length:Int),(i:Int),u,f)) (fun _ i=>∀b s,b<i→(fD f)[b]? =some s→(b:Int)∉aU (fI f)→ru s) (fun _ i s hx hi inv=> ?_) (fun _ inv=> ?_) () (by simp)
 ·have hw:aa .i64 ((i:Int)+1)=((i+1:Nat):Int):=by rw[aV (by omega) (by omega)];omega
  have h56:(i:Int)<56:=by omega
  have hui:=hu.2 i (by omega)
  simp only[ij,Int.ofNat_lt,hi,decide_true,cond_true,Int.natCast_nonneg,if_true,Int.toNat_natCast,hx,Option.bind_some,hw,h56,hui]
  have next:((i:Int)∉aU (fI f)→ru s)→∀b s,b<i+1→(fD f)[b]? =some s→(b:Int)∉aU (fI f)→ru s:=fun ho b s' hb hs hm=>by
   by_cases e:b=i
   ·subst e;rw[hx]at hs;cases hs;exact ho hm
   ·exact inv b s' (by omega) hs hm
  refine ak.bif (fun h1=> ?_) (fun h1=> ?_)
  ·simp at h1
   refine ak.CB (o6 s (by rw[hz i s hx];unfold fu;omega)) fun b hb=>ak.bif (fun h2=>ak.const _ (GL.ret (GP.no fun hP=> ?_))) (fun h2=> ?_)
   ·have:=hb.2 (hP.free i s hx h1);rw[this]at h2;cases h2
   ·exact ak.const _ (GL.self () rfl (next fun _=>hb.1 (by simpa using h2)))
  ·simp at h1
   exact ak.const _ (GL.self () rfl (next fun h=>absurd h1 h))
 ·obtain⟨n0,h0⟩:∃n,(fI f)[0]? =some n:=⟨_,List.getElem?_eq_getElem (show 0<(fI f).length by rw[H.ni];omega)⟩
  simp only[ij,Int.lt_irrefl,decide_false,cond_false,Int.le_refl,if_true,Int.toNat_zero,h0,Option.bind_some]
  refine ak.const _ (GE.ret (GP.ret ?_))
  rw[beq_iff_eq]
  constructor
  ·intro h
   exact⟨H.tick,H.nq,H.ni,H.nd,hq,hz,fun i n hn=>(hi i n hn).1,fun i n hn=>(hi i n hn).2,hn,fun b s hs hm=>inv b s (List.getElem?_eq_some_iff.1 hs).1 hs hm,⟨_,h0,h⟩⟩
  ·intro hP
   obtain⟨n,h1,h2⟩:=hP.root
   rw[h0]at h1;cases h1;exact h2
def Sy(f:dV)(u:List Bool)(i:Nat):Prop:=kY u (aU ((fI f).take i))∧(aU ((fI f).take i)).Nodup∧∀(m:Nat) n,m<i→(fI f)[m]? =some n→dy n∧D8 f n
def inv1(f:dV)(i:Nat)(n:az)(u:List Bool)(j:Nat):Prop:=kY u (pre (fI f) i n j)∧(pre (fI f) i n j).Nodup∧∀(m:Nat) b,m<j→(aK n)[m]? =some b→b≠ -1→tH n b∧EY f n m b
set_option maxHeartbeats 2000000 in
theorem Qa(H:Rb f)(hs:cJ f)(hz:∀(i:Nat) s,(fD f)[i]? =some s→s.size=32){i:Nat}{n:az}(hx:(fI f)[i]? =some n)(hin:dy n)(h3:∀(m:Nat) n,m<i→(fI f)[m]? =some n→dy n∧D8 f n){u:List Bool}(hu:kY u (aU ((fI f).take i)))(hnd:(aU ((fI f).take i)).Nodup)
  {G:(S→Option Bool)→Prop} (hG:¬qv f→G fun _=>some false):
  ak (fun k (p:S×((Unit×Unit×List az×Int×Int×List Bool×dV)→Option Bool))=>iter k (km k p.2) ((),(),(),fI f,((fI f).length:Int),(i:Int),aK n,((aK n).length:Int),(0:Int),n,u,f))
   (GL (fun u i=>((),(),fI f,((fI f).length:Int),((i:Nat):Int),u,f)) (Sy f) i G):=by
 have hlen:(aK n).length<4611686018427387904:=(hs n (List.mem_of_getElem? hx)).1
 have hni:=H.ni
 have hil:=(List.getElem?_eq_some_iff.1 hx).1
 refine ak.list (L:=fun k (p:S×((Unit×Unit×List az×Int×Int×List Bool×dV)→Option Bool))=>km k p.2) (aK n) (fun u j=>((),(),(),fI f,((fI f).length:Int),(i:Int),aK n,((aK n).length:Int),(j:Int),n,u,f)) (inv1 f i n) (fun u j b hb hj inv=> ?_) (fun u inv=> ?_) u ⟨by rw[uJ];exact hu,by rw[uJ];exact hnd,by simp⟩
 ·have hw:aa .i64 ((j:Int)+1)=((j+1:Nat):Int):=by rw[aV (by omega) (by omega)];omega
  simp only[km,Int.ofNat_lt,hj,decide_true,cond_true,Int.natCast_nonneg,if_true,Int.toNat_natCast,hb,Option.bind_some,hw]
  have hup:=I0 hin hb
  have huid:0≤Oy n:=hup.2.1.2.1.1
  obtain⟨v1,v2,v3⟩:=inv
  have next:(b≠ -1→tH n b∧EY f n j b)→∀m c,m<j+1→(aK n)[m]? =some c→c≠ -1→tH n c∧EY f n m c:=fun ho m c hm hc=>by
   by_cases e:m=j
   ·subst e;rw[hb]at hc;cases hc;exact ho
   ·exact v3 m c (by omega) hc
  refine ak.bif (fun h1=> ?_) (fun h1=> ?_)
  ·have h1:b= -1:=by simpa using h1
   subst h1
   exact ak.const _ (GL.self u rfl ⟨by rw[u9 hb];exact v1,by rw[u9 hb];exact v2,next fun h=>absurd rfl h⟩)
  ·have h1':b≠ -1:=by simpa using h1
   refine ak.bind (zo b) (ak.bif (fun h2=>ak.const _ (GL.ret (GL.ret (hG fun hP=> ?_)))) (fun h2=> ?_))
   ·have:=(D5 huid).2 ((hP.bj i n hx) j b hb h1').1
    rw[this]at h2;simp at h2
   have hown:tH n b:=(D5 huid).1 (by simpa using h2)
   have b0:=hown.1
   have b1:=hown.2.1
   simp only[b0,b1,if_true,B3 v1 b0 b1,Option.bind_some]
   refine ak.bif (fun h3=>ak.const _ (GL.ret (GL.ret (hG fun hP=> ?_)))) (fun h3=> ?_)
   ·exact Fj hP.nodup hx hb h1' (of_decide_eq_true h3)
   replace h3:=of_decide_eq_false h3
   have hpre:=EB (l:=fI f) (i:=i) hb h1'
   have u1:kY (u.set b.toNat true) (pre (fI f) i n (j+1)):=by rw[hpre];exact Cj v1 b0
   have u2:(pre (fI f) i n (j+1)).Nodup:=by rw[hpre];exact E6 v2 h3
   obtain⟨t1,t2⟩:=J7 hup hb
   have t3:=(wc hup).2
   have w1:aa .i64 ((j:Int)*32)=32*j:=by rw[aV (by omega) (by omega)];omega
   have w2:aa .i64 (dF n-32*j)=dF n-32*j:=aV (by omega) (by omega)
   have w1':aa .i64 (n.2.2.2.2.2.1-aa .i64 ((j:Int)*32))=dF n-32*j:=by rw[w1];exact w2
   simp only[w1']
   refine ak.bif (fun h4=> ?_) (fun h4=> ?_)
   ·replace h4:=of_decide_eq_true h4
    obtain⟨sd,hd⟩:∃s,(fD f)[b.toNat]? =some s:=⟨_,List.getElem?_eq_getElem (show b.toNat<(fD f).length by rw[H.nd];omega)⟩
    have hsz:=hz _ _ hd
    have c1:0≤dF n-32*(j:Int):=by omega
    have c2:dF n-32*(j:Int)≤((sd.size:Nat):Int):=by rw[hsz];omega
    simp only[hd,Option.bind_some,c1,c2,if_true]
    refine ak.CB (o6 _ (MK (by omega))) fun c hc=>ak.bif (fun h5=>ak.const _ (GL.ret (GL.ret (hG fun hP=> ?_)))) (fun h5=> ?_)
    ·have:=hc.2 (((hP.bj i n hx) j b hb h1').2 h4 _ hd)
     rw[this]at h5;cases h5
    ·refine ak.const _ (GL.self (u.set b.toNat true) rfl ⟨u1,u2,next fun _=>⟨hown,fun _ s hs=> ?_⟩⟩)
     rw[hd]at hs;cases hs
     exact hc.1 (by simpa using h5)
   ·replace h4:=of_decide_eq_false h4
    exact ak.const _ (GL.self (u.set b.toNat true) rfl ⟨u1,u2,next fun _=>⟨hown,fun h=>by omega⟩⟩)
 ·have hw:aa .i64 ((i:Int)+1)=((i+1:Nat):Int):=by rw[aV (by omega) (by omega)];omega
  simp only[km,Int.lt_irrefl,decide_false,cond_false,hw]
  obtain⟨v1,v2,v3⟩:=inv
  rw[←wF hx]at v1 v2
  refine ak.const _ (GE.up (S:=S×((Unit×Unit×List az×Int×Int×List Bool×dV)→Option Bool)) (fun p=>p.2 ((),(),fI f,((fI f).length:Int),((i+1:Nat):Int),u,f)) ?_)
  refine GL.self u rfl ⟨v1,v2,fun m n' hm hn'=> ?_⟩
  by_cases e:m=i
  ·subst e;rw[hx]at hn';cases hn'
   exact⟨hin,fun m b hb h=>v3 m b (List.getElem?_eq_some_iff.1 hb).1 hb h⟩
  ·exact h3 m n' (by omega) hn'
theorem QX(H:Rb f)(hs:cJ f)(hq:∀(i:Nat) q,(fQ f)[i]? =some q→jC q)(hz:∀(i:Nat) s,(fD f)[i]? =some s→s.size=32):
  ak (fun k (_:S)=>iter k (iJ k) ((),(),fI f,((fI f).length:Int),(0:Int),List.replicate 56 false,f)) (GP (qv f)):=by
 refine ak.list (L:=fun k _=>iJ k) (fI f) (fun u i=>((),(),fI f,((fI f).length:Int),((i:Nat):Int),u,f)) (Sy f) (fun u i n hx hi inv=> ?_) (fun u inv=> ?_) _ ⟨BT,by simp[aU],by simp⟩
 ·simp only[iJ,Int.ofNat_lt,hi,decide_true,cond_true,Int.natCast_nonneg,if_true,Int.toNat_natCast,hx,Option.bind_some]
  refine ak.CB (B1 n (hs n (List.mem_of_getElem? hx))) fun b hb=>ak.bif (fun h1=>ak.const _ (GL.ret (GP.no fun hP=> ?_))) (fun h1=> ?_)
  ·have:=hb.2 (hP.ino i n hx);rw[this]at h1;cases h1
  exact Qa H hs hz hx (hb.1 (by simpa using h1)) inv.2.2 inv.1 inv.2.1 (fun h=>GP.no h)
 ·simp only[iJ,Int.lt_irrefl,decide_false,cond_false]
  obtain⟨v1,v2,v3⟩:=inv
  rw[List.take_length]at v1 v2
  exact ak.out (F:=fun k _=>iter k (ij k) ((),(),fD f,((fD f).length:Int),(0:Int),u,f)) (Qg H hq hz (fun i n hn=>v3 i n (List.getElem?_eq_some_iff.1 hn).1 hn) v2 v1)
end
theorem lW(f:dV)(hs:cJ f):dB (fun k=>fy k f) (qv f):=by
 refine dB.run (fun k=>Gg k f) (dB.of ?_)
 simp only[Hw]
 refine ak.bif (fun h=>ak.const _ (GP.no fun hP=>by have:=hP.tick;simp at h;omega)) (fun h1=> ?_)
 refine ak.bif (fun h=>ak.const _ (GP.no fun hP=>by have:=hP.tick;simp at h;omega)) (fun h2=> ?_)
 refine ak.bif (fun h=>ak.const _ (GP.no fun hP=>by have this:f.2.1.length=4:=hP.nq;simp at h;omega)) (fun h3=> ?_)
 refine ak.bif (fun h=>ak.const _ (GP.no fun hP=>by have this:f.2.2.1.length=20:=hP.ni;simp at h;omega)) (fun h4=> ?_)
 refine ak.bif (fun h=>ak.const _ (GP.no fun hP=>by have this:f.2.2.2.length=56:=hP.nd;simp at h;omega)) (fun h5=> ?_)
 simp at h1 h2 h3 h4 h5
 have H:Rb f:=⟨⟨by omega,by omega⟩,by show f.2.1.length=4;omega,by show f.2.2.1.length=20;omega,by show f.2.2.2.length=56;omega⟩
 have nq:=H.nq
 have nd:=H.nd
 refine ak.list (L:=fun k _=>nE k) (fQ f) (fun(_:Unit) i=>((),fQ f,((fQ f).length:Int),((i:Nat):Int),f)) (fun _ i=>∀j q,j<i→(fQ f)[j]? =some q→jC q) (fun _ i q hx hi inv=> ?_) (fun _ inv=> ?_) () (by simp)
 ·have hw:aa .i64 ((i:Int)+1)=((i+1:Nat):Int):=by rw[aV (by omega) (by omega)];omega
  simp only[nE,Int.ofNat_lt,hi,decide_true,cond_true,Int.natCast_nonneg,if_true,Int.toNat_natCast,hx,Option.bind_some,hw]
  refine ak.bif (fun h=>ak.const _ (GL.ret (GP.no fun hP=>by have:=hP.q i q hx;unfold jC at this;simp at h;omega))) (fun h6=> ?_)
  refine ak.bif (fun h=>ak.const _ (GL.ret (GP.no fun hP=>by have:=hP.q i q hx;unfold jC at this;simp at h;omega))) (fun h7=> ?_)
  refine ak.bif (fun h=>ak.const _ (GL.ret (GP.no fun hP=>by have:=hP.q i q hx;unfold jC at this;simp at h;omega))) (fun h8=> ?_)
  refine ak.bif (fun h=>ak.const _ (GL.ret (GP.no fun hP=>by have:=hP.q i q hx;unfold jC at this;simp at h;omega))) (fun h9=> ?_)
  simp at h6 h7 h8 h9
  refine ak.const _ (GL.self () rfl fun j q' hj hq'=> ?_)
  by_cases e:j=i
  ·subst e;rw[hx]at hq';cases hq';exact⟨h6,h7,h8,h9⟩
  ·exact inv j q' (by omega) hq'
 ·simp only[nE,Int.lt_irrefl,decide_false,cond_false]
  refine ak.out (F:=fun k _=>iter k (kr k) ((),fD f,((fD f).length:Int),(0:Int),f)) ?_
  refine ak.list (L:=fun k _=>kr k) (fD f) (fun(_:Unit) i=>((),fD f,((fD f).length:Int),((i:Nat):Int),f)) (fun _ i=>∀j s,j<i→(fD f)[j]? =some s→s.size=32) (fun _ i s hx hi inv2=> ?_) (fun _ inv2=> ?_) () (by simp)
  ·have hw:aa .i64 ((i:Int)+1)=((i+1:Nat):Int):=by rw[aV (by omega) (by omega)];omega
   simp only[kr,Int.ofNat_lt,hi,decide_true,cond_true,Int.natCast_nonneg,if_true,Int.toNat_natCast,hx,Option.bind_some,hw]
   refine ak.bif (fun h=>ak.const _ (GL.ret (GP.no fun hP=>by have:=hP.sz i s hx;simp at h;omega))) (fun h6=> ?_)
   simp at h6
   refine ak.const _ (GL.self () rfl fun j s' hj hs'=> ?_)
   by_cases e:j=i
   ·subst e;rw[hx]at hs';cases hs';omega
   ·exact inv2 j s' (by omega) hs'
  ·simp only[kr,Int.lt_irrefl,decide_false,cond_false]
   exact ak.out (F:=fun k _=>iter k (iJ k) ((),(),fI f,((fI f).length:Int),(0:Int),List.replicate 56 false,f)) (QX H hs (fun i q hq=>inv i q (List.getElem?_eq_some_iff.1 hq).1 hq) (fun i s hs'=>inv2 i s (List.getElem?_eq_some_iff.1 hs').1 hs'))
end Go.Proofs.YtkdcfeopelbojaaGreatDoor

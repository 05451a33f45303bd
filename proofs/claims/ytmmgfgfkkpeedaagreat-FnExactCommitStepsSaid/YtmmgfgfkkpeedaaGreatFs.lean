/- The tables, the residual functions and lemmas of this seat: parts of the proof of the law; conditions: those that each names. -/
import Derived.Test.YtmmgfgfkkpeedaaGreatIsI
set_option linter.unusedVariables false
set_option linter.unusedSimpArgs false
set_option maxRecDepth 100000
namespace Go.Proofs.YtmmgfgfkkpeedaaGreat
open Go.Eng
abbrev fQ(f:jB):List JL:=f.2.1
abbrev fI(f:jB):List aN:=f.2.2.1
abbrev fD(f:jB):List ByteArray:=f.2.2.2
def uS(s:ByteArray):Prop:=∀(i:Nat) (c:UInt8),s[i]? =some c→c=0
def nz(l:List Int):List Int:=l.filter fun b=> !(b== -1)
def cr(l:List aN):List Int:=l.flatMap fun n=>nz (bK n)
def we(n:aN)(b:Int):Prop:=0≤b∧b<56∧b / 14=Ts n
def JM(f:jB)(n:aN)(i:Nat)(b:Int):Prop:=l6 n-32*i<32→∀s,(fD f)[b.toNat]? =some s→uS (s.extract (l6 n-32*i).toNat s.size)
def IG(f:jB)(n:aN):Prop:=∀(i:Nat) b,(bK n)[i]? =some b→b≠ -1→we n b∧JM f n i b
def mE(q:JL):Prop:=0≤q.1∧q.1≤5∧0≤q.2∧q.2≤14
structure Fa (f:jB):Prop where
 tick:0≤f.1∧f.1≤1000000000
 nq:(fQ f).length=4
 ni:(fI f).length=20
 nd:(fD f).length=56
 q:∀(i:Nat) q,(fQ f)[i]? =some q→mE q
 sz:∀(i:Nat) s,(fD f)[i]? =some s→s.size=32
 ino:∀(i:Nat) n,(fI f)[i]? =some n→cN n
 bA:∀(i:Nat) n,(fI f)[i]? =some n→IG f n
 nodup:(cr (fI f)).Nodup
 free:∀(b:Nat) s,(fD f)[b]? =some s→(b:Int)∉cr (fI f)→uS s
 root:∃n,(fI f)[0]? =some n∧n.1=2
theorem Ae(c:UInt8):((c.toNat:Int) != 0)=false↔c=0:=by
 simp only[bne_eq_false_iff_eq]
 constructor
 ·intro h
  have:c.toNat=0:=by omega
  exact UInt8.toNat_inj.1 this
 ·intro h;subst h;rfl
theorem sj(s:ByteArray)(hs:s.size<m6):cA (fun k=>kS k s) (uS s):=by
 unfold m6 at hs
 refine cA.run (fun k=>Ew k s) (cA.of ?_)
 simp only[AV]
 refine aj.upto (L:=fun k _=>jz k) s.size (fun(_:Unit) i=>(s,(s.size:Int),(i:Int))) (fun _ i=>∀j c,j<i→s[j]? =some c→c=0) (fun _ i hi inv=> ?_) (fun _ inv=> ?_) () 0 (Nat.zero_le _) (by simp)
 ·have hw:aa .i64 ((i:Int)+1)=((i+1:Nat):Int):=by rw[aR (by omega) (by omega)];omega
  have hx:s[i]? =some s[i]:=getElem?_pos s i hi
  simp only[jz,Int.ofNat_lt,hi,decide_true,cond_true,Int.natCast_nonneg,if_true,Int.toNat_natCast,hx,Option.map_some,Option.bind_some,hw]
  refine aj.bif (fun h=>aj.const _ (GL.ret (GP.no fun hP=> ?_))) (fun h=> ?_)
  ·have:=(Ae _).2 (hP i _ hx)
   rw[this]at h;cases h
  ·refine aj.const _ (GL.self () rfl fun j c hj hc=> ?_)
   by_cases hji:j=i
   ·subst hji;rw[hx]at hc;cases hc;exact(Ae _).1 h
   ·exact inv j c (by omega) hc
 ·simp only[jz,Int.lt_irrefl,decide_false,cond_false]
  refine aj.const _ (GE.ret (GP.yes fun i c hc=>inv i c ?_ hc))
  rcases Nat.lt_or_ge i s.size with h|h
  ·exact h
  ·rw[getElem?_neg s i (by omega)]at hc;cases hc
theorem sM(s:ByteArray)(hs:s.size<m6):cA (fun k=>kW k s) (uS s):=by
 unfold m6 at hs
 refine cA.run (fun k=>C2 k s) (cA.of ?_)
 simp only[AY]
 refine aj.upto (L:=fun k _=>jO k) s.size (fun(_:Unit) i=>(s,(i:Int))) (fun _ i=>∀j c,j<i→s[j]? =some c→c=0) (fun _ i hi inv=> ?_) (fun _ inv=> ?_) () 0 (Nat.zero_le _) (by simp)
 ·have hw:aa .i64 ((i:Int)+1)=((i+1:Nat):Int):=by rw[aR (by omega) (by omega)];omega
  have hx:s[i]? =some s[i]:=getElem?_pos s i hi
  simp only[jO,Int.ofNat_lt,hi,decide_true,cond_true,Int.natCast_nonneg,if_true,Int.toNat_natCast,hx,Option.map_some,Option.bind_some,hw]
  refine aj.bif (fun h=>aj.const _ (GL.ret (GP.no fun hP=> ?_))) (fun h=> ?_)
  ·have:=(Ae _).2 (hP i _ hx)
   rw[this]at h;cases h
  ·refine aj.const _ (GL.self () rfl fun j c hj hc=> ?_)
   by_cases hji:j=i
   ·subst hji;rw[hx]at hc;cases hc;exact(Ae _).1 h
   ·exact inv j c (by omega) hc
 ·simp only[jO,Int.lt_irrefl,decide_false,cond_false]
  refine aj.const _ (GE.ret (GP.yes fun i c hc=>inv i c ?_ hc))
  rcases Nat.lt_or_ge i s.size with h|h
  ·exact h
  ·rw[getElem?_neg s i (by omega)]at hc;cases hc
def Su(b:Int):Int:=if 0≤b∧b<56 then b / 14 else-1
theorem Cv(b:Int):Ev (fun k=>mC k b) (Su b):=by
 refine au.run (fun k=>Az k b) ?_
 simp only[wA,Su]
 by_cases h:b<0
 ·simp[h,show ¬(0≤b∧b<56)by omega];exact au.const _
 by_cases h2:56≤b
 ·simp[h,h2,show ¬(0≤b∧b<56)by omega];exact au.const _
 have e1:b.tdiv 14=b / 14:=Int.tdiv_eq_ediv_of_nonneg (by omega)
 have e2:aa .i64 (b / 14)=b / 14:=aR (by omega) (by omega)
 simp only[h,h2,decide_false,cond_false,e1,e2,show(0≤b∧b<56)by omega,if_true,ne_eq,show ¬((14:Int)=0)by decide,not_false_eq_true,and_self]
 exact au.const _
theorem Cr(b:Int):Ev (fun k=>lV k b) (Su b):=by
 refine au.run (fun k=>Ax k b) ?_
 simp only[wi,Su]
 refine au.bind (bH _ _ _) ?_
 by_cases h:0≤b∧b≤55
 ·have e1:b.tdiv 14=b / 14:=Int.tdiv_eq_ediv_of_nonneg (by omega)
  have e2:aa .i64 (b / 14)=b / 14:=aR (by omega) (by omega)
  simp only[h,and_self,decide_true,Bool.not_true,cond_false,e1,e2,show(0≤b∧b<56)by omega,if_true,ne_eq,show ¬((14:Int)=0)by decide,not_false_eq_true]
  exact au.const _
 ·simp only[h,decide_false,Bool.not_false,cond_true,show ¬(0≤b∧b<56)by omega,if_false]
  exact au.const _
theorem IV{n:aN}{b:Int}(hu:0≤Ts n):Su b=Ts n↔we n b:=by
 unfold Su we
 split
 ·constructor
  ·intro h;exact⟨by omega,by omega,h⟩
  ·intro h;exact h.2.2
 ·constructor
  ·intro h;omega
  ·intro h;omega
def rZ(u:List Bool)(seen:List Int):Prop:=u.length=56∧∀b:Nat,b<56→u[b]? =some (decide ((b:Int)∈seen))
theorem LX:rZ (List.replicate 56 false) []:=⟨by simp,fun b hb=>by rw[List.getElem?_replicate,if_pos hb];simp⟩
theorem LK{u:List Bool}{seen:List Int}(h:rZ u seen){b:Int}(h0:0≤b):rZ (u.set b.toNat true) (seen++[b]):=by
 refine⟨by rw[List.length_set];exact h.1,fun c hc=> ?_⟩
 rw[List.getElem?_set]
 by_cases e:b.toNat=c
 ·have hbc:(c:Int)=b:=by omega
  rw[if_pos e,if_pos (by rw[h.1];omega)]
  simp[hbc]
 ·have hbc:¬(c:Int)=b:=by omega
  rw[if_neg e,h.2 c hc]
  simp[hbc]
theorem MC{u:List Bool}{seen:List Int}(h:rZ u seen){b:Int}(h0:0≤b)(h1:b<56):u[b.toNat]? =some (decide (b∈seen)):=by
 have:=h.2 b.toNat (by omega)
 rw[this]
 have:((b.toNat:Nat):Int)=b:=by omega
 rw[this]
def pre(l:List aN)(i:Nat)(n:aN)(j:Nat):List Int:=cr (l.take i)++nz ((bK n).take j)
theorem kv{α:Type}{l:List α}{i:Nat}{x:α}(h:l[i]? =some x):l=l.take i++x::l.drop (i+1):=by
 have hi:i<l.length:=(List.getElem?_eq_some_iff.1 h).1
 have h2:l[i]=x:=(List.getElem?_eq_some_iff.1 h).2
 rw[←h2,List.getElem_cons_drop,List.take_append_drop]
theorem RC{l:List Int}{j:Nat}{b:Int}(h:l[j]? =some b):nz (l.take (j+1))=nz (l.take j)++(if b= -1 then []else [b]):=by
 rw[List.take_add_one,h]
 simp only[nz,List.filter_append,Option.toList_some]
 congr 1
 by_cases hb:b= -1
 ·subst hb;simp
 ·have:(b== -1)=false:=by simpa using hb
  simp[hb,this]
theorem Ob{l:List aN}{i:Nat}{n:aN}{j:Nat}{b:Int}(h:(bK n)[j]? =some b)(hb:b≠ -1):pre l i n (j+1)=pre l i n j++[b]:=by
 simp only[pre,RC h,if_neg hb,List.append_assoc]
theorem D6{l:List aN}{i:Nat}{n:aN}{j:Nat}(h:(bK n)[j]? =some (-1)):pre l i n (j+1)=pre l i n j:=by
 simp only[pre,RC h,if_true,List.append_nil]
theorem MD{l:List aN}{i:Nat}{n:aN}(h:l[i]? =some n):cr (l.take (i+1))=pre l i n (bK n).length:=by
 rw[List.take_add_one,h]
 simp[cr,pre]
theorem DU{l:List aN}{i:Nat}{n:aN}:pre l i n 0=cr (l.take i):=by simp[pre,nz]
theorem Qz{l:List aN}{i:Nat}{n:aN}{j:Nat}{b:Int}(h:l[i]? =some n)(hb:(bK n)[j]? =some b)(hn:b≠ -1):∃rest,cr l=pre l i n j++b::rest:=by
 refine⟨nz ((bK n).drop (j+1))++cr (l.drop (i+1)), ?_⟩
 have h1:cr l=cr (l.take i)++(nz (bK n)++cr (l.drop (i+1))):=by
  conv=>lhs;rw[kv h]
  simp[cr]
 have h2:nz (bK n)=nz ((bK n).take j)++b::nz ((bK n).drop (j+1)):=by
  conv=>lhs;rw[kv hb]
  have:(b== -1)=false:=by simpa using hn
  simp[nz,this]
 rw[h1,h2]
 simp[pre]
theorem J7{f:jB}(hP:(cr (fI f)).Nodup){i:Nat}{n:aN}{j:Nat}{b:Int}(h:(fI f)[i]? =some n)(hb:(bK n)[j]? =some b)(hn:b≠ -1):b∉pre (fI f) i n j:=fun hm=>by
 obtain⟨rest,h1⟩:=Qz h hb hn
 rw[h1,List.nodup_append]at hP
 exact hP.2.2 b hm b (by simp) rfl
theorem KQ{l:List Int}{b:Int}(h:l.Nodup)(hb:b∉l):(l++[b]).Nodup:=by
 rw[List.nodup_append]
 exact⟨h,by simp,fun x hx y hy=>by simp at hy;subst hy;exact fun e=>hb (e▸hx)⟩
theorem Rg{s:ByteArray}{a:Nat}(h:s.size<100):(s.extract a s.size).size<m6:=by rw[ByteArray.size_extract];unfold m6;omega
structure V9 (f:jB):Prop where
 tick:0≤f.1∧f.1≤1000000000
 nq:(fQ f).length=4
 ni:(fI f).length=20
 nd:(fD f).length=56
def eR(f:jB):Prop:=∀n∈fI f,gV n
theorem Xn{P Q:Prop}(h:P→Q)(hn:¬Q):¬P:=fun p=>hn (h p)
section
variable {f:jB} {S:Type}
theorem NY{n:aN}(h:cN n){i:Nat}{b:Int}(hb:(bK n)[i]? =some b):yV n:=by
 rcases h with h|h
 ·subst h
  have:(none:Option Int)=some b:=hb
  cases this
 ·exact h
theorem KI{n:aN}(h:yV n):((bK n).length:Int)=lM (l6 n):=h.2.1.2.2.2.2.2.2
theorem IJ{n:aN}(h:yV n):0≤l6 n∧l6 n≤256:=h.2.1.2.2.2.2.1
theorem N0{n:aN}(h:yV n){i:Nat}{b:Int}(hb:(bK n)[i]? =some b):0<l6 n-32*i∧i<9:=by
 have hi:=(List.getElem?_eq_some_iff.1 hb).1
 have h1:=KI h
 have h2:=IJ h
 unfold lM at h1
 split at h1<;>omega
theorem VJ(H:V9 f)(hq:∀(i:Nat) q,(fQ f)[i]? =some q→mE q)(hz:∀(i:Nat) s,(fD f)[i]? =some s→s.size=32)(hi:∀(i:Nat) n,(fI f)[i]? =some n→cN n∧IG f n)(hn:(cr (fI f)).Nodup)
  {u:List Bool} (hu:rZ u (cr (fI f))):aj (fun k (_:S)=>iter k (jW k) ((),(),fD f,((fD f).length:Int),(0:Int),u,f)) (GP (Fa f)):=by
 have hnd:=H.nd
 refine aj.list (L:=fun k _=>jW k) (fD f) (fun(_:Unit) i=>((),(),fD f,((fD f).length:Int),(i:Int),u,f)) (fun _ i=>∀b s,b<i→(fD f)[b]? =some s→(b:Int)∉cr (fI f)→uS s) (fun _ i s hx hi inv=> ?_) (fun _ inv=> ?_) () (by simp)
 ·have hw:aa .i64 ((i:Int)+1)=((i+1:Nat):Int):=by rw[aR (by omega) (by omega)];omega
  have h56:(i:Int)<56:=by omega
  have hui:=hu.2 i (by omega)
  simp only[jW,Int.ofNat_lt,hi,decide_true,cond_true,Int.natCast_nonneg,if_true,Int.toNat_natCast,hx,Option.bind_some,hw,h56,hui]
  have next:((i:Int)∉cr (fI f)→uS s)→∀b s,b<i+1→(fD f)[b]? =some s→(b:Int)∉cr (fI f)→uS s:=fun ho b s' hb hs hm=>by
   by_cases e:b=i
   ·subst e;rw[hx]at hs;cases hs;exact ho hm
   ·exact inv b s' (by omega) hs hm
  refine aj.bif (fun h1=> ?_) (fun h1=> ?_)
  ·simp at h1
   refine aj.pX (sj s (by rw[hz i s hx];unfold m6;omega)) fun b hb=>aj.bif (fun h2=>aj.const _ (GL.ret (GP.no fun hP=> ?_))) (fun h2=> ?_)
   ·have:=hb.2 (hP.free i s hx h1);rw[this]at h2;cases h2
   ·exact aj.const _ (GL.self () rfl (next fun _=>hb.1 (by simpa using h2)))
  ·simp at h1
   exact aj.const _ (GL.self () rfl (next fun h=>absurd h1 h))
 ·obtain⟨n0,h0⟩:∃n,(fI f)[0]? =some n:=⟨_,List.getElem?_eq_getElem (show 0<(fI f).length by rw[H.ni];omega)⟩
  simp only[jW,Int.lt_irrefl,decide_false,cond_false,Int.le_refl,if_true,Int.toNat_zero,h0,Option.bind_some]
  refine aj.const _ (GE.ret (GP.ret ?_))
  rw[beq_iff_eq]
  constructor
  ·intro h
   exact⟨H.tick,H.nq,H.ni,H.nd,hq,hz,fun i n hn=>(hi i n hn).1,fun i n hn=>(hi i n hn).2,hn,fun b s hs hm=>inv b s (List.getElem?_eq_some_iff.1 hs).1 hs hm,⟨_,h0,h⟩⟩
  ·intro hP
   obtain⟨n,h1,h2⟩:=hP.root
   rw[h0]at h1;cases h1;exact h2
def Xk(f:jB)(u:List Bool)(i:Nat):Prop:=rZ u (cr ((fI f).take i))∧(cr ((fI f).take i)).Nodup∧∀(m:Nat) n,m<i→(fI f)[m]? =some n→cN n∧IG f n
def inv1(f:jB)(i:Nat)(n:aN)(u:List Bool)(j:Nat):Prop:=rZ u (pre (fI f) i n j)∧(pre (fI f) i n j).Nodup∧∀(m:Nat) b,m<j→(bK n)[m]? =some b→b≠ -1→we n b∧JM f n m b
set_option maxHeartbeats 2000000 in
theorem Vk(H:V9 f)(hs:eR f)(hz:∀(i:Nat) s,(fD f)[i]? =some s→s.size=32){i:Nat}{n:aN}(hx:(fI f)[i]? =some n)(hin:cN n)(h3:∀(m:Nat) n,m<i→(fI f)[m]? =some n→cN n∧IG f n){u:List Bool}(hu:rZ u (cr ((fI f).take i)))(hnd:(cr ((fI f).take i)).Nodup)
  {G:(S→Option Bool)→Prop} (hG:¬Fa f→G fun _=>some false):
  aj (fun k (p:S×((Unit×Unit×List aN×Int×Int×List Bool×jB)→Option Bool))=>iter k (mP k p.2) ((),(),(),fI f,((fI f).length:Int),(i:Int),bK n,((bK n).length:Int),(0:Int),n,u,f))
   (GL (fun u i=>((),(),fI f,((fI f).length:Int),((i:Nat):Int),u,f)) (Xk f) i G):=by
 have hlen:(bK n).length<4611686018427387904:=(hs n (List.mem_of_getElem? hx)).1
 have hni:=H.ni
 have hil:=(List.getElem?_eq_some_iff.1 hx).1
 refine aj.list (L:=fun k (p:S×((Unit×Unit×List aN×Int×Int×List Bool×jB)→Option Bool))=>mP k p.2) (bK n) (fun u j=>((),(),(),fI f,((fI f).length:Int),(i:Int),bK n,((bK n).length:Int),(j:Int),n,u,f)) (inv1 f i n) (fun u j b hb hj inv=> ?_) (fun u inv=> ?_) u ⟨by rw[DU];exact hu,by rw[DU];exact hnd,by simp⟩
 ·have hw:aa .i64 ((j:Int)+1)=((j+1:Nat):Int):=by rw[aR (by omega) (by omega)];omega
  simp only[mP,Int.ofNat_lt,hj,decide_true,cond_true,Int.natCast_nonneg,if_true,Int.toNat_natCast,hb,Option.bind_some,hw]
  have hup:=NY hin hb
  have huid:0≤Ts n:=hup.2.1.2.1.1
  obtain⟨v1,v2,v3⟩:=inv
  have next:(b≠ -1→we n b∧JM f n j b)→∀m c,m<j+1→(bK n)[m]? =some c→c≠ -1→we n c∧JM f n m c:=fun ho m c hm hc=>by
   by_cases e:m=j
   ·subst e;rw[hb]at hc;cases hc;exact ho
   ·exact v3 m c (by omega) hc
  refine aj.bif (fun h1=> ?_) (fun h1=> ?_)
  ·have h1:b= -1:=by simpa using h1
   subst h1
   exact aj.const _ (GL.self u rfl ⟨by rw[D6 hb];exact v1,by rw[D6 hb];exact v2,next fun h=>absurd rfl h⟩)
  ·have h1':b≠ -1:=by simpa using h1
   refine aj.bind (Cv b) (aj.bif (fun h2=>aj.const _ (GL.ret (GL.ret (hG fun hP=> ?_)))) (fun h2=> ?_))
   ·have:=(IV huid).2 ((hP.bA i n hx) j b hb h1').1
    rw[this]at h2;simp at h2
   have hown:we n b:=(IV huid).1 (by simpa using h2)
   have b0:=hown.1
   have b1:=hown.2.1
   simp only[b0,b1,if_true,MC v1 b0 b1,Option.bind_some]
   refine aj.bif (fun h3=>aj.const _ (GL.ret (GL.ret (hG fun hP=> ?_)))) (fun h3=> ?_)
   ·exact J7 hP.nodup hx hb h1' (of_decide_eq_true h3)
   replace h3:=of_decide_eq_false h3
   have hpre:=Ob (l:=fI f) (i:=i) hb h1'
   have u1:rZ (u.set b.toNat true) (pre (fI f) i n (j+1)):=by rw[hpre];exact LK v1 b0
   have u2:(pre (fI f) i n (j+1)).Nodup:=by rw[hpre];exact KQ v2 h3
   obtain⟨t1,t2⟩:=N0 hup hb
   have t3:=(IJ hup).2
   have w1:aa .i64 ((j:Int)*32)=32*j:=by rw[aR (by omega) (by omega)];omega
   have w2:aa .i64 (l6 n-32*j)=l6 n-32*j:=aR (by omega) (by omega)
   have w1':aa .i64 (n.2.2.2.2.2.1-aa .i64 ((j:Int)*32))=l6 n-32*j:=by rw[w1];exact w2
   simp only[w1']
   refine aj.bif (fun h4=> ?_) (fun h4=> ?_)
   ·replace h4:=of_decide_eq_true h4
    obtain⟨sd,hd⟩:∃s,(fD f)[b.toNat]? =some s:=⟨_,List.getElem?_eq_getElem (show b.toNat<(fD f).length by rw[H.nd];omega)⟩
    have hsz:=hz _ _ hd
    have c1:0≤l6 n-32*(j:Int):=by omega
    have c2:l6 n-32*(j:Int)≤((sd.size:Nat):Int):=by rw[hsz];omega
    simp only[hd,Option.bind_some,c1,c2,if_true]
    refine aj.pX (sj _ (Rg (by omega))) fun c hc=>aj.bif (fun h5=>aj.const _ (GL.ret (GL.ret (hG fun hP=> ?_)))) (fun h5=> ?_)
    ·have:=hc.2 (((hP.bA i n hx) j b hb h1').2 h4 _ hd)
     rw[this]at h5;cases h5
    ·refine aj.const _ (GL.self (u.set b.toNat true) rfl ⟨u1,u2,next fun _=>⟨hown,fun _ s hs=> ?_⟩⟩)
     rw[hd]at hs;cases hs
     exact hc.1 (by simpa using h5)
   ·replace h4:=of_decide_eq_false h4
    exact aj.const _ (GL.self (u.set b.toNat true) rfl ⟨u1,u2,next fun _=>⟨hown,fun h=>by omega⟩⟩)
 ·have hw:aa .i64 ((i:Int)+1)=((i+1:Nat):Int):=by rw[aR (by omega) (by omega)];omega
  simp only[mP,Int.lt_irrefl,decide_false,cond_false,hw]
  obtain⟨v1,v2,v3⟩:=inv
  rw[←MD hx]at v1 v2
  refine aj.const _ (GE.up (S:=S×((Unit×Unit×List aN×Int×Int×List Bool×jB)→Option Bool)) (fun p=>p.2 ((),(),fI f,((fI f).length:Int),((i+1:Nat):Int),u,f)) ?_)
  refine GL.self u rfl ⟨v1,v2,fun m n' hm hn'=> ?_⟩
  by_cases e:m=i
  ·subst e;rw[hx]at hn';cases hn'
   exact⟨hin,fun m b hb h=>v3 m b (List.getElem?_eq_some_iff.1 hb).1 hb h⟩
  ·exact h3 m n' (by omega) hn'
theorem VD(H:V9 f)(hs:eR f)(hq:∀(i:Nat) q,(fQ f)[i]? =some q→mE q)(hz:∀(i:Nat) s,(fD f)[i]? =some s→s.size=32):
  aj (fun k (_:S)=>iter k (jV k) ((),(),fI f,((fI f).length:Int),(0:Int),List.replicate 56 false,f)) (GP (Fa f)):=by
 refine aj.list (L:=fun k _=>jV k) (fI f) (fun u i=>((),(),fI f,((fI f).length:Int),((i:Nat):Int),u,f)) (Xk f) (fun u i n hx hi inv=> ?_) (fun u inv=> ?_) _ ⟨LX,by simp[cr],by simp⟩
 ·simp only[jV,Int.ofNat_lt,hi,decide_true,cond_true,Int.natCast_nonneg,if_true,Int.toNat_natCast,hx,Option.bind_some]
  refine aj.pX (nF n (hs n (List.mem_of_getElem? hx))) fun b hb=>aj.bif (fun h1=>aj.const _ (GL.ret (GP.no fun hP=> ?_))) (fun h1=> ?_)
  ·have:=hb.2 (hP.ino i n hx);rw[this]at h1;cases h1
  exact Vk H hs hz hx (hb.1 (by simpa using h1)) inv.2.2 inv.1 inv.2.1 (fun h=>GP.no h)
 ·simp only[jV,Int.lt_irrefl,decide_false,cond_false]
  obtain⟨v1,v2,v3⟩:=inv
  rw[List.take_length]at v1 v2
  exact aj.out (F:=fun k _=>iter k (jW k) ((),(),fD f,((fD f).length:Int),(0:Int),u,f)) (VJ H hq hz (fun i n hn=>v3 i n (List.getElem?_eq_some_iff.1 hn).1 hn) v2 v1)
end
theorem kB(f:jB)(hs:eR f):cA (fun k=>jc k f) (Fa f):=by
 refine cA.run (fun k=>Lj k f) (cA.of ?_)
 simp only[L3]
 refine aj.bif (fun h=>aj.const _ (GP.no fun hP=>by have:=hP.tick;simp at h;omega)) (fun h1=> ?_)
 refine aj.bif (fun h=>aj.const _ (GP.no fun hP=>by have:=hP.tick;simp at h;omega)) (fun h2=> ?_)
 refine aj.bif (fun h=>aj.const _ (GP.no fun hP=>by have this:f.2.1.length=4:=hP.nq;simp at h;omega)) (fun h3=> ?_)
 refine aj.bif (fun h=>aj.const _ (GP.no fun hP=>by have this:f.2.2.1.length=20:=hP.ni;simp at h;omega)) (fun h4=> ?_)
 refine aj.bif (fun h=>aj.const _ (GP.no fun hP=>by have this:f.2.2.2.length=56:=hP.nd;simp at h;omega)) (fun h5=> ?_)
 simp at h1 h2 h3 h4 h5
 have H:V9 f:=⟨⟨by omega,by omega⟩,by show f.2.1.length=4;omega,by show f.2.2.1.length=20;omega,by show f.2.2.2.length=56;omega⟩
 have nq:=H.nq
 have nd:=H.nd
 refine aj.list (L:=fun k _=>pM k) (fQ f) (fun(_:Unit) i=>((),fQ f,((fQ f).length:Int),((i:Nat):Int),f)) (fun _ i=>∀j q,j<i→(fQ f)[j]? =some q→mE q) (fun _ i q hx hi inv=> ?_) (fun _ inv=> ?_) () (by simp)
 ·have hw:aa .i64 ((i:Int)+1)=((i+1:Nat):Int):=by rw[aR (by omega) (by omega)];omega
  simp only[pM,Int.ofNat_lt,hi,decide_true,cond_true,Int.natCast_nonneg,if_true,Int.toNat_natCast,hx,Option.bind_some,hw]
  refine aj.bif (fun h=>aj.const _ (GL.ret (GP.no fun hP=>by have:=hP.q i q hx;unfold mE at this;simp at h;omega))) (fun h6=> ?_)
  refine aj.bif (fun h=>aj.const _ (GL.ret (GP.no fun hP=>by have:=hP.q i q hx;unfold mE at this;simp at h;omega))) (fun h7=> ?_)
  refine aj.bif (fun h=>aj.const _ (GL.ret (GP.no fun hP=>by have:=hP.q i q hx;unfold mE at this;simp at h;omega))) (fun h8=> ?_)
  refine aj.bif (fun h=>aj.const _ (GL.ret (GP.no fun hP=>by have:=hP.q i q hx;unfold mE at this;simp at h;omega))) (fun h9=> ?_)
  simp at h6 h7 h8 h9
  refine aj.const _ (GL.self () rfl fun j q' hj hq'=> ?_)
  by_cases e:j=i
  ·subst e;rw[hx]at hq';cases hq';exact⟨h6,h7,h8,h9⟩
  ·exact inv j q' (by omega) hq'
 ·simp only[pM,Int.lt_irrefl,decide_false,cond_false]
  refine aj.out (F:=fun k _=>iter k (mS k) ((),fD f,((fD f).length:Int),(0:Int),f)) ?_
  refine aj.list (L:=fun k _=>mS k) (fD f) (fun(_:Unit) i=>((),fD f,((fD f).length:Int),((i:Nat):Int),f)) (fun _ i=>∀j s,j<i→(fD f)[j]? =some s→s.size=32) (fun _ i s hx hi inv2=> ?_) (fun _ inv2=> ?_) () (by simp)
  ·have hw:aa .i64 ((i:Int)+1)=((i+1:Nat):Int):=by rw[aR (by omega) (by omega)];omega
   simp only[mS,Int.ofNat_lt,hi,decide_true,cond_true,Int.natCast_nonneg,if_true,Int.toNat_natCast,hx,Option.bind_some,hw]
   refine aj.bif (fun h=>aj.const _ (GL.ret (GP.no fun hP=>by have:=hP.sz i s hx;simp at h;omega))) (fun h6=> ?_)
   simp at h6
   refine aj.const _ (GL.self () rfl fun j s' hj hs'=> ?_)
   by_cases e:j=i
   ·subst e;rw[hx]at hs';cases hs';omega
   ·exact inv2 j s' (by omega) hs'
  ·simp only[mS,Int.lt_irrefl,decide_false,cond_false]
   exact aj.out (F:=fun k _=>iter k (jV k) ((),(),fI f,((fI f).length:Int),(0:Int),List.replicate 56 false,f)) (VD H hs (fun i q hq=>inv i q (List.getElem?_eq_some_iff.1 hq).1 hq) (fun i s hs'=>inv2 i s (List.getElem?_eq_some_iff.1 hs').1 hs'))
end Go.Proofs.YtmmgfgfkkpeedaaGreat

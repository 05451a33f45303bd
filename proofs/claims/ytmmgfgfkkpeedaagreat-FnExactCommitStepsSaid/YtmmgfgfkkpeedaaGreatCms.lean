/- The tables, the residual functions and lemmas of this seat: parts of the proof of the law; conditions: those that each names. -/
import Derived.Test.YtmmgfgfkkpeedaaGreatTxs
import Derived.Test.YtmmgfgfkkpeedaaGreatMac
import Derived.Test.YtmmgfgfkkpeedaaGreatMrk
set_option linter.unusedVariables false
set_option linter.unusedSimpArgs false
set_option maxRecDepth 100000
namespace Go.Proofs.YtmmgfgfkkpeedaaGreat
open Go.Eng
noncomputable def oq(x:bL)(m:Int):bL×Int:=
 (((m,m+1,ep Jm 1 x.1.2.2 (m+2)),ep IY 3 x.2 (m+2+1*x.1.2.2.length)),m+2+1*x.1.2.2.length+3*x.2.length)
abbrev VX(x:bL):Nat:=2+x.1.2.2.length+3*x.2.length
theorem JA:∀(x:bL) (m:Int),m≤(oq x m).2∧(oq x m).2≤m+((VX x:Nat):Int):=fun x m=>by
 simp only[oq,VX];omega
theorem No(l0:List bL)(m0:Int)(h0:0≤m0)(h1:m0+((l0.map VX).sum:Nat)<4611686018427387800)(hlen:l0.length<4611686018427387800):
  Ev (fun k=>nJ k (l0,m0)) ((gi oq l0 m0).2,(gi oq l0 m0).1):=by
 refine au.run (fun k=>CU k l0 m0) ?_
 simp only[zA]
 refine bS.ev ?_
 refine OE (L:=iG) oq VX 4611686018427387800 l0 m0 (fun m l=>(m,l)) h0 h1 (fun x _ m _ _=>JA x m) (fun pre x post m hx hm hB hl=> ?_) (fun m l hl=> ?_)
 ·simp only[VX]at hB
  have w1:aa .i64 (m+1)=m+1:=by rw[aa,wrap_i64 (by omega) (by omega)]
  have w2:aa .i64 (m+1+1)=m+2:=by rw[aa,wrap_i64 (by omega) (by omega)];omega
  have w3:aa .i64 ((pre.length:Int)+1)=((pre.length+1:Nat):Int):=by rw[aa,wrap_i64 (by omega) (by omega)];omega
  have hI:=Hz x.1.2.2 (m+2) (by omega) (by omega)
  have hO:=MN x.2 (m+2+1*x.1.2.2.length) (by omega) (by omega)
  simp only[m7,iG,I2,decide_true,cond_true,Int.natCast_nonneg,if_true,Int.toNat_natCast,z8,vH,Option.bind_some,w1,w2]
  refine au.bD hI ?_
  simp only[I2,if_true,z8,vH,Option.bind_some]
  refine au.bD hO ?_
  simp only[vH,w3,oq]
  exact au.const _
 ·refine bS.stop ?_
  have:¬(l0.length:Int)<(l.length:Int):=by omega
  simp only[iG,this,decide_false,cond_false]
  exact au.const _
theorem Rw:∀l:List bL,(l.map VX).sum≤2*l.length+4*(l.map ea).sum
 |[]=>by simp
 |x::l=>by
  have:=Rw l
  have h:ea x=x.1.2.2.length+x.2.length:=rfl
  simp only[List.map_cons,List.sum_cons,List.length_cons,h,VX]at this ⊢
  omega
theorem L0(x:cQ)(m:Int)(h0:0≤m)(h1:m≤1000000000)(hs:eg x≤1048576):∃q,Ev (fun k=>nZ k (x,m)) q∧0≤q∧q≤m+100000000:=by
 have e2:eg x=x.2.1.length+cB x.2.2.1+aW x.2.2.2:=rfl
 have e3:cB x.2.2.1=x.2.2.1.length+(x.2.2.1.map ck).sum:=rfl
 have e4:aW x.2.2.2=x.2.2.2.length+(x.2.2.2.map fun y=>y.size).sum:=rfl
 have s1:=JN x.2.2.1
 have hQ:=Lo x.2.1 m (by omega) (by omega)
 have hI:=Ls x.2.2.1 (m+2*x.2.1.length) (by omega) (by omega) (by omega)
 have bI:=zK (e:=kz) (c:=fun x=>7+(PO x).length+3*(R9 x).length+3*(To x).length) (B:=4611686018427387800) (l:=x.2.2.1) (m:=m+2*x.2.1.length) (by omega) (by omega) (fun x _ m _ _=>G1 x m)
 have hT:=za x.2.2.2 (gi kz x.2.2.1 (m+2*x.2.1.length)).2 (by omega) (by omega)
 refine⟨(gi kz x.2.2.1 (m+2*x.2.1.length)).2+1*x.2.2.2.length,au.run (fun k=>Ig k _ _) ?_,by omega,by omega⟩
 simp only[G4]
 exact au.bind hQ (au.bind hI (au.bind hT (au.const _)))
theorem Ji(x:aY)(hs:c5 x≤1048576):∃q,Ev (fun k=>lx k (x,(1:Int))) q∧0≤q∧q≤900000000:=by
 have e:c5 x=fq x.1+da x.2.2:=rfl
 have e1:fq x.1=(x.1.1.length+(x.1.1.map fun y=>y.size).sum)+(x.1.2.length+(x.1.2.map eC).sum):=rfl
 have e2:da x.2.2=eg x.2.2.1+ew x.2.2.2:=rfl
 have e3:ew x.2.2.2=x.2.2.2.length+(x.2.2.2.map ea).sum:=rfl
 have mD:Ev (fun k=>o9 k (x.1,(1:Int))) ((1:Int)+1*x.1.1.length+2*x.1.2.length):=by
  refine au.run (fun k=>Dd k _ _) ?_
  simp only[Bu]
  exact au.bind (za _ _ (by omega) (by omega)) (au.bind (K6 _ _ (by omega) (by omega)) (au.const _))
 obtain⟨q,f1,f2,f3⟩:=L0 x.2.2.1 ((1:Int)+1*x.1.1.length+2*x.1.2.length) (by omega) (by omega) (by omega)
 have hp:=Rw x.2.2.2
 have hP:=No x.2.2.2 q f2 (by omega) (by omega)
 have bP:=zK (e:=oq) (c:=VX) (B:=4611686018427387800) (l:=x.2.2.2) (m:=q) f2 (by omega) (fun x _ m _ _=>JA x m)
 refine⟨(gi oq x.2.2.2 q).2,au.run (fun k=>yv k _ _) ?_,by omega,by omega⟩
 simp only[tU]
 refine au.bind mD (au.bind (a:=(gi oq x.2.2.2 q).2) (au.run (fun k=>Ay k _ _) ?_) (au.const _))
 simp only[vW]
 exact au.bind f1 (au.bind hP (au.const _))
noncomputable def mH(_:DStep)(m:Int):DStep:=(m.tmod 3==0,m+1,N6 (m+1+1))
theorem Oz:(3:Int)≠0:=by decide
theorem M8(l0:List DStep)(m0:Int)(h0:0≤m0)(h1:m0+3*l0.length<4611686018427387900):Ev (fun k=>nk k (l0,m0)) (m0+3*l0.length,ep mH 3 l0 m0):=by
 refine au.run (fun k=>CS k l0 m0) ?_
 simp only[yd]
 refine bS.ev ?_
 refine qk (L:=iN) mH 3 l0 m0 (fun a b=>(a,b)) ?_ ?_
 ·intro i l x hl hx hi
  have hil:i<l.length:=by omega
  have hM:0≤m0+3*(i:Int)∧m0+3*(i:Int)+3<4611686018427387904:=by omega
  have hM2:m0+3*((i+1:Nat):Int)=(m0+3*(i:Int))+1+1+1:=by omega
  simp only[hM2]
  generalize hMd:m0+3*(i:Int)=M at*
  have w1:aa .i64 (M+1)=M+1:=wrap_i64 (by omega) (by omega)
  have w2:aa .i64 (M+1+1)=M+1+1:=wrap_i64 (by omega) (by omega)
  have w3:aa .i64 (M+1+1+1)=M+1+1+1:=wrap_i64 (by omega) (by omega)
  simp only[m7,iN,Int.toNat_natCast,hx,Option.bind_some,Int.natCast_nonneg,if_true,Int.ofNat_lt,hil,decide_true,cond_true,List.length_set,List.getElem?_set_self hil,List.set_set,eH hil (by omega),mH,w1,w2,w3,if_pos Oz]
  refine au.bD (rS _ (by omega) (by omega)) ?_
  try simp only[Int.toNat_natCast,hx,Option.bind_some,Int.natCast_nonneg,if_true,Int.ofNat_lt,hil,decide_true,cond_true,List.length_set,List.getElem?_set_self hil,List.set_set,w1,w2]
  exact au.const _
 ·intro l hl
  refine bS.stop ?_
  simp only[iN,hl,Int.ofNat_lt,Nat.lt_irrefl,decide_false,cond_false]
  exact au.const _
theorem MR(l0:List DStep)(m0:Int)(h0:0≤m0)(h1:m0+3*l0.length<4611686018427387900):Ev (fun k=>jC k (ep mH 3 l0 m0,m0)) (m0+3*l0.length):=by
 refine au.run (fun k=>CM k (ep mH 3 l0 m0) m0) ?_
 simp only[xY]
 refine bS.ev ?_
 have hlen:=gR mH 3 l0 m0
 refine Tq (L:=iA) (fun m i=>(ep mH 3 l0 m0,m,i)) mH 3 l0 m0 ?_ ?_
 ·intro i x hx hi
  have hil:i<(ep mH 3 l0 m0).length:=by omega
  generalize hG:ep mH 3 l0 m0=G at*
  have hM:0≤m0+3*(i:Int)∧m0+3*(i:Int)+3<4611686018427387904:=by omega
  have hM2:m0+3*((i+1:Nat):Int)=(m0+3*(i:Int))+1+1+1:=by omega
  simp only[hM2]
  generalize hMd:m0+3*(i:Int)=M at*
  have w1:aa .i64 (M+1)=M+1:=wrap_i64 (by omega) (by omega)
  have w2:aa .i64 (M+1+1)=M+1+1:=wrap_i64 (by omega) (by omega)
  have w3:aa .i64 (M+1+1+1)=M+1+1+1:=wrap_i64 (by omega) (by omega)
  simp only[mH]at hx
  simp only[m7,iA,Int.toNat_natCast,hx,Option.bind_some,Int.natCast_nonneg,if_true,Int.ofNat_lt,hil,decide_true,cond_true,bne_self_eq_false,cond_false,eH hil (by omega),w1,w2,w3,if_pos Oz]
  refine au.bD (rS _ (by omega) (by omega)) ?_
  simp only[gb,Bool.not_true,cond_false]
  exact au.const _
 ·refine bS.stop ?_
  simp only[iA,hlen,Int.ofNat_lt,Nat.lt_irrefl,decide_false,cond_false]
  exact au.const _
theorem Lv{s:EH}(h:da s≤1048576):yD s:=by
 have e:da s=eg s.1+ew s.2:=rfl
 have e2:ew s.2=s.2.length+(s.2.map ea).sum:=rfl
 obtain⟨h1,h2,h3⟩:=J2 (x:=s.1) (by omega)
 refine⟨⟨by omega,fun p hp=> ?_⟩,h1,h2⟩
 have h4:=dU ea hp
 have e3:ea p=p.1.2.2.length+p.2.length:=rfl
 omega
theorem TZ{α:Type}(f:α→Nat)(c:Nat):∀{l:List α},(∀x∈l,f x≤c)→(l.map f).sum≤c*l.length
 |[],_=>by simp
 |x::l,h=>by
  have h1:=h x (List.mem_cons_self ..)
  have h2:=TZ f c (l:=l) fun y hy=>h y (List.mem_cons_of_mem _ hy)
  simp only[List.map_cons,List.sum_cons,List.length_cons,Nat.mul_succ]
  omega
theorem Pd(seq:Int)(l:List bt):(de seq l).size≤32:=by
 unfold de
 split
 ·have p1:=aB seq 4
  have p2:=aB (l.length:Int) 2
  have p3:=aB (Tc (wy l l.length):Int) 4
  rw[Rk,p9,aM,aM,aM,VE];omega
 ·exact Nat.zero_le _
theorem FV(L:List ByteArray)(hL:∀x∈L,x.size≤32):∀i,∀w∈EM L i,w.2.size≤32
 |0,w,h=>by cases h
 |i+1,w,h=>by
  simp only[EM]at h
  cases hx:L[i]? with
  |none=>rw[hx]at h;exact FV L hL i w h
  |some s=>
   rw[hx]at h
   have:=hL s (List.mem_of_getElem? hx)
   rcases List.mem_append.1 h with h|h
   ·exact FV L hL i w h
   ·rw[List.mem_singleton.1 h];show(xE s 32).size≤32;rw[p9];omega
theorem Gp(l:List bt)(hl:Fx l):∀i,∀w∈CK l i,w.2.size≤32
 |0,w,h=>by cases h
 |i+1,w,h=>by
  simp only[CK]at h
  cases hx:l[i]? with
  |none=>rw[hx]at h;exact Gp l hl i w h
  |some s=>
   rw[hx]at h
   have:=hl i s hx
   rcases List.mem_append.1 h with h|h
   ·exact Gp l hl i w h
   ·rw[List.mem_singleton.1 h];show s.2.size≤32;omega
theorem Uh(seq:Int)(l:List bt)(hl:l.length≤200)(hz:Fx l):(O7 seq l).length≤1000∧zT (O7 seq l)≤100000:=by
 have hj:=Qs l hl
 have key:∀s∈O7 seq l,lY s≤32:=by
  have hst:∀L:List bt,(∀w∈L,w.2.size≤32)→∀s∈Td L,lY s≤32:=fun L hL s hs=>by
   obtain⟨w,hw,rfl⟩:=List.mem_map.1 hs
   exact hL w hw
  have hsx:∀c:ByteArray,c.size≤32→∀s∈sX c,lY s≤32:=fun c hc s hs=>by
   simp only[sX,List.mem_cons,List.not_mem_nil,or_false]at hs
   rcases hs with rfl|rfl|rfl
   ·exact Nat.zero_le _
   ·exact hc
   ·exact Nat.zero_le _
  intro s hs
  unfold O7 at hs
  split at hs
  ·cases hs
  ·rcases List.mem_append.1 hs with hs|hs
   ·rcases List.mem_append.1 hs with hs|hs
    ·refine hst _ (fun w hw=> ?_) s hs
     unfold PA at hw
     split at hw
     ·rcases List.mem_append.1 hw with hw|hw
      ·exact FV _ (IQ l hl).2 _ w hw
      ·exact Gp l hz _ w hw
     ·cases hw
    ·exact hsx _ (Pd seq l) s hs
   ·rcases List.mem_append.1 hs with hs|hs
    ·refine hst _ (fun w hw=> ?_) s hs
     obtain⟨i,hi⟩:=List.mem_iff_getElem?.1 hw
     have:=hz i w hi;omega
    ·exact hsx _ (by rw[xX];omega) s hs
 have hlen:(O7 seq l).length≤1000:=by
  unfold O7
  split
  ·exact Nat.zero_le _
  ·rw[List.length_append,List.length_append,List.length_append,jA,jA]
   show(_+3)+(_+3)≤_;omega
 refine⟨hlen, ?_⟩
 have:=TZ lY 32 key
 show(O7 seq l).length+((O7 seq l).map lY).sum≤_
 omega
open Classical in
noncomputable def QZ(m:Mh)(f:jB):List Jf:=if Wm m∧Fa f then O7 (m.2.1+1) (Bb (gj m.2.2.1) (gj f))else []
theorem CN{a:List ByteArray}{f:jB}(h:Fa f):(Bb a (gj f)).length≤200∧Fx (Bb a (gj f)):=by
 obtain⟨h1,h2⟩:=Ur a (gj f) (R2 h)
 exact⟨by omega,fun i w hw=>h2 w (List.mem_of_getElem? hw)⟩
theorem Tu(m:Mh)(f:jB):(QZ m f).length≤1000∧zT (QZ m f)≤100000:=by
 unfold QZ
 split
 ·rename_i h
  obtain⟨h1,h2⟩:=CN (a:=gj m.2.2.1) h.2
  exact Uh _ _ h1 h2
 ·exact⟨Nat.zero_le _,Nat.zero_le _⟩
theorem OC(m:Mh)(f:jB)(hm:c5 m≤1048576)(hf:eg f≤1048576):Ev (fun k=>ln k (m,f)) (QZ m f)∧Ev (fun k=>gT k (m,f)) (QZ m f):=by
 have e:c5 m=fq m.1+da m.2.2:=rfl
 have e1:fq m.1=(m.1.1.length+(m.1.1.map fun y=>y.size).sum)+(m.1.2.length+(m.1.2.map eC).sum):=rfl
 have e2:da m.2.2=eg m.2.2.1+ew m.2.2.2:=rfl
 have hs:It m.1:=⟨by omega,by omega⟩
 obtain⟨b,s1,s2,s3⟩:=(Cc m (Lv (by omega)) hs).same (Ch m (Lv (by omega)) hs)
 obtain⟨h1,h2,h3⟩:=J2 hf
 obtain⟨g1,g2,g3⟩:=J2 (x:=m.2.2.1) (by omega)
 obtain⟨b2,t1,t2,t3⟩:=(ou f h1 h2).same (kB f h1)
 refine⟨au.run (fun k=>yJ k _ _) ?_,au.run (fun k=>zL k _ _) ?_⟩
 ·simp only[uB]
  refine au.bind s1 ?_
  cases b with
  |false=>rw[QZ,if_neg fun h=>by have:=s3.2 h.1;cases this];exact au.const _
  |true=>
   simp only[Bool.not_true,cond_false]
   refine au.bind t1 ?_
   cases b2 with
   |false=>rw[QZ,if_neg fun h=>by have:=t3.2 h.2;cases this];exact au.const _
   |true=>
    have hM:=s3.1 rfl
    have hF:=t3.1 rfl
    have hFm:Fa m.2.2.1:=hM.sys.fs
    obtain⟨d1,d2⟩:=CN (a:=gj m.2.2.1) hF
    have hq:=hM.seq
    have w1:aa .i64 (m.2.1+1)=m.2.1+1:=aR (by omega) (by omega)
    simp only[Bool.not_true,cond_false,w1]
    rw[QZ,if_pos ⟨hM,hF⟩]
    refine au.bind (au.run (fun k=>DF k _ _ _) ?_) (au.const _)
    simp only[BI]
    exact au.bind (vn hFm g1) (au.bind (vn hF h1) (au.bind (Cw _ _) (au.bind (Qb _ _ d1 d2) (au.const _))))
 ·simp only[tY]
  refine au.bind s2 ?_
  cases b with
  |false=>rw[QZ,if_neg fun h=>by have:=s3.2 h.1;cases this];exact au.const _
  |true=>
   simp only[Bool.not_true,cond_false]
   refine au.bind t2 ?_
   cases b2 with
   |false=>rw[QZ,if_neg fun h=>by have:=t3.2 h.2;cases this];exact au.const _
   |true=>
    have hM:=s3.1 rfl
    have hF:=t3.1 rfl
    have hFm:Fa m.2.2.1:=hM.sys.fs
    obtain⟨d1,d2⟩:=CN (a:=gj m.2.2.1) hF
    have hq:=hM.seq
    have w1:aa .i64 (m.2.1+1)=m.2.1+1:=aR (by omega) (by omega)
    obtain⟨b3,u1,u2⟩:=kB m.2.2.1 g1
    rw[u2.2 hFm]at u1
    rw[QZ,if_pos ⟨hM,hF⟩]
    simp only[Bool.not_true,cond_false]
    refine au.bind (au.run (fun k=>vA k _ _) ?_) (au.const _)
    simp only[qW,Option.bind_some,w1]
    exact au.bind (vT hFm g1 u1) (au.bind (vT hF h1 t2) (au.bind (B6 _ _) (au.bind (Qc _ _ d1 d2) (au.const _))))
theorem qN(x0:aY)(x1:cQ)(hx0:Dy (dC) x0)(hx1:Dy (lP) x1):Ev (fun k=>kh k (x0,x1)) true:=by
 refine au.run (fun k=>pK k x0 x1) ?_
 simp only[lF]
 refine au.bind (Ng x0 hx0 (left:=1048576) (by omega) (by omega)) ?_
 by_cases c0:dX (c5 x0) 1048576<0
 ·simp only[c0,decide_true,cond_true];exact au.const _
 obtain⟨d0,e0⟩:=cn c0
 simp only[c0,decide_false,cond_false]
 try simp only[e0]
 refine au.bind (Ri x1 hx1 (left:=1048576-((c5 x0):Int)) (by omega) (by omega)) ?_
 by_cases c1:dX (eg x1) (1048576-((c5 x0):Int))<0
 ·simp only[c1,decide_true,cond_true];exact au.const _
 obtain⟨d1,e1⟩:=cn c1
 simp only[c1,decide_false,cond_false]
 try simp only[e1]
 have tM:=Nk x0 (by omega)
 have tF:=Rr x1 (by omega)
 obtain⟨hS,hI⟩:=OC x0 x1 (by omega) (by omega)
 obtain⟨q1,q2⟩:=Tu x0 x1
 have hE:=Qo (QZ x0 x1) (by omega)
 obtain⟨q,k1,k2,k3⟩:=Ji x0 (by omega)
 obtain⟨r,k4,k5,k6⟩:=L0 x1 q k2 (by omega) (by omega)
 have n1:decide (r<0)=false:=decide_eq_false (by omega)
 have hK:=M8 (QZ x0 x1) 1 (by omega) (by omega)
 have hH:=MR (QZ x0 x1) 1 (by omega) (by omega)
 have n2:decide ((1:Int)+3*((QZ x0 x1).length:Int)<0)=false:=decide_eq_false (by omega)
 refine au.bind tM (au.bind tF (au.bind hS (au.bind tM (au.bind tF (au.bind hI (au.bind hE ?_))))))
 simp only[Bool.not_true,cond_false]
 refine au.bind tM (au.bind (MQ x0 (by omega)) ?_)
 simp only[Bool.not_true,cond_false]
 refine au.bind tF (au.bind (Q5 x1 (by omega)) ?_)
 simp only[Bool.not_true,cond_false]
 refine au.bind k1 (au.bind k4 ?_)
 simp only[n1,cond_false]
 refine au.bind hE ?_
 simp only[Bool.not_true,cond_false]
 refine au.bind hK (au.bind hH ?_)
 simp only[n2,cond_false,bne_self_eq_false]
 refine au.bind tM (au.bind tF (au.bind hI (au.bind hE ?_)))
 simp only[Bool.not_true,cond_false]
 refine au.bind hH ?_
 simp only[n2,cond_false,bne_self_eq_false]
 exact au.const _
end Go.Proofs.YtmmgfgfkkpeedaaGreat

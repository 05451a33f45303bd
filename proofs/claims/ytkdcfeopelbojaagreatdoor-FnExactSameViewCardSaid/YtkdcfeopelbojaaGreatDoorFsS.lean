/- The tables, the residual functions and lemmas of this seat: parts of the proof of the law; conditions: those that each names. -/
import Derived.Test.YtkdcfeopelbojaaGreatDoorFs
set_option linter.unusedVariables false
set_option linter.unusedSimpArgs false
set_option maxRecDepth 100000
namespace Go.Proofs.YtkdcfeopelbojaaGreatDoor
open Go.Eng
def PB(n:az):Prop:=∀(i:Nat) b,(aK n)[i]? =some b→b≠ -1→tH n b
def Q2(f:dV):Prop:=(∀(i:Nat) n,(fI f)[i]? =some n→PB n)∧(aU (fI f)).Nodup
def Qm(f:dV)(r:List Bool×Bool):Prop:=(r.2=true↔Q2 f)∧(r.2=true→kY r.1 (aU (fI f)))
theorem M4{f:dV}(h:¬Q2 f):Qm f ([],false):=⟨by simp[h],by simp⟩
def Se(f:dV)(u:List Bool)(i:Nat):Prop:=kY u (aU ((fI f).take i))∧(aU ((fI f).take i)).Nodup∧∀(m:Nat) n,m<i→(fI f)[m]? =some n→PB n
def Sb(f:dV)(i:Nat)(n:az)(u:List Bool)(j:Nat):Prop:=kY u (pre (fI f) i n j)∧(pre (fI f) i n j).Nodup∧∀(m:Nat) b,m<j→(aK n)[m]? =some b→b≠ -1→tH n b
section
variable {f:dV} {S:Type}
theorem PX(hl:(fI f).length=20)(hs:cJ f){i:Nat}{n:az}(hx:(fI f)[i]? =some n)(hin:dy n)(h3:∀(m:Nat) n,m<i→(fI f)[m]? =some n→PB n){u:List Bool}(hu:kY u (aU ((fI f).take i)))(hnd:(aU ((fI f).take i)).Nodup):
  ak (fun k (p:S×((List Bool×List az×Int×Int)→Option (List Bool×Bool)))=>iter k (fW k p.2) (u,(),fI f,((fI f).length:Int),(i:Int),aK n,((aK n).length:Int),(0:Int),n))
   (GL (fun u i=>(u,fI f,((fI f).length:Int),((i:Nat):Int))) (Se f) i (GR (Qm f))):=by
 have hlen:(aK n).length<4611686018427387904:=(hs n (List.mem_of_getElem? hx)).1
 have hil:=(List.getElem?_eq_some_iff.1 hx).1
 refine ak.list (L:=fun k (p:S×((List Bool×List az×Int×Int)→Option (List Bool×Bool)))=>fW k p.2) (aK n) (fun u j=>(u,(),fI f,((fI f).length:Int),(i:Int),aK n,((aK n).length:Int),(j:Int),n)) (Sb f i n) (fun u j b hb hj inv=> ?_) (fun u inv=> ?_) u ⟨by rw[uJ];exact hu,by rw[uJ];exact hnd,by simp⟩
 ·have hw:aa .i64 ((j:Int)+1)=((j+1:Nat):Int):=by rw[aV (by omega) (by omega)];omega
  simp only[fW,Int.ofNat_lt,hj,decide_true,cond_true,Int.natCast_nonneg,if_true,Int.toNat_natCast,hb,Option.bind_some,hw]
  have hup:=I0 hin hb
  have huid:0≤Oy n:=hup.2.1.2.1.1
  obtain⟨v1,v2,v3⟩:=inv
  have next:(b≠ -1→tH n b)→∀(m:Nat) c,m<j+1→(aK n)[m]? =some c→c≠ -1→tH n c:=fun ho m c hm hc=>by
   by_cases e:m=j
   ·subst e;rw[hb]at hc;cases hc;exact ho
   ·exact v3 m c (by omega) hc
  refine ak.bif (fun h1=> ?_) (fun h1=> ?_)
  ·have h1:b= -1:=by simpa using h1
   subst h1
   exact ak.const _ (GL.self u rfl ⟨by rw[u9 hb];exact v1,by rw[u9 hb];exact v2,next fun h=>absurd rfl h⟩)
  ·have h1':b≠ -1:=by simpa using h1
   refine ak.bind (nN b) (ak.bif (fun h2=>ak.const _ (GL.ret (GL.ret (GR.ret (M4 fun hP=> ?_))))) (fun h2=> ?_))
   ·have:=(D5 huid).2 (hP.1 i n hx j b hb h1')
    rw[this]at h2;simp at h2
   have hown:tH n b:=(D5 huid).1 (by simpa using h2)
   have b0:=hown.1
   have b1:=hown.2.1
   have b2:b<((u.length:Nat):Int):=by rw[v1.1];omega
   simp only[b0,b2,if_true,B3 v1 b0 b1,Option.bind_some]
   refine ak.bif (fun h3=>ak.const _ (GL.ret (GL.ret (GR.ret (M4 fun hP=> ?_))))) (fun h3=> ?_)
   ·exact Fj hP.2 hx hb h1' (of_decide_eq_true h3)
   replace h3:=of_decide_eq_false h3
   have hpre:=EB (l:=fI f) (i:=i) hb h1'
   exact ak.const _ (GL.self (u.set b.toNat true) rfl ⟨by rw[hpre];exact Cj v1 b0,by rw[hpre];exact E6 v2 h3,next fun _=>hown⟩)
 ·have hw:aa .i64 ((i:Int)+1)=((i+1:Nat):Int):=by rw[aV (by omega) (by omega)];omega
  simp only[fW,Int.lt_irrefl,decide_false,cond_false,hw]
  obtain⟨v1,v2,v3⟩:=inv
  rw[←wF hx]at v1 v2
  refine ak.const _ (GE.up (S:=S×((List Bool×List az×Int×Int)→Option (List Bool×Bool))) (fun p=>p.2 (u,fI f,((fI f).length:Int),((i+1:Nat):Int))) ?_)
  refine GL.self u rfl ⟨v1,v2,fun m n' hm hn'=> ?_⟩
  by_cases e:m=i
  ·subst e;rw[hx]at hn';cases hn'
   exact fun m b hb h=>v3 m b (List.getElem?_eq_some_iff.1 hb).1 hb h
  ·exact h3 m n' (by omega) hn'
theorem Io(hl:(fI f).length=20)(hs:cJ f)(hi:∀(i:Nat) n,(fI f)[i]? =some n→dy n):∃r,Ev (fun k=>od k f) r∧Qm f r:=by
 refine Ev.of (Q:=Qm f) ?_ |>.imp fun n h=>⟨ax.run (fun k=>Bw k f) h.1,h.2⟩
 have c1:(0:Int)≤56:=by omega
 have c2:(56:Int)≤56:=by omega
 have c3:(56:Int)*1≤(au:Int):=by unfold au;omega
 simp only[Av,c1,c2,c3,if_true]
 refine ak.list (L:=fun k _=>jo k) (fI f) (fun u i=>(u,fI f,((fI f).length:Int),((i:Nat):Int))) (Se f) (fun u i n hx hi' inv=> ?_) (fun u inv=> ?_) _ ⟨BT,by simp[aU],by simp⟩
 ·simp only[jo,Int.ofNat_lt,hi',decide_true,cond_true,Int.natCast_nonneg,if_true,Int.toNat_natCast,hx,Option.bind_some]
  exact PX hl hs hx (hi i n hx) inv.2.2 inv.1 inv.2.1
 ·simp only[jo,Int.lt_irrefl,decide_false,cond_false]
  obtain⟨v1,v2,v3⟩:=inv
  rw[List.take_length]at v1 v2
  exact ak.const _ (GE.ret (GR.ret ⟨⟨fun _=>⟨fun i n hn=>v3 i n (List.getElem?_eq_some_iff.1 hn).1 hn,v2⟩,fun _=>rfl⟩,fun _=>v1⟩))
theorem L4{s:ByteArray}{a:Nat}(h:s.size≤a):ru (s.extract a s.size):=fun i c hc=>by
 have:(s.extract a s.size).size=0:=by rw[ByteArray.size_extract];omega
 rw[getElem?_neg _ _ (by omega)]at hc
 cases hc
def MC(f:dV)(n:az):Prop:=∀b,(aK n)[(aK n).length-1]? =some b→b≠ -1→∀s,(fD f)[b.toNat]? =some s→ru (s.extract (dF n-32*((aK n).length-1:Nat)).toNat s.size)
theorem Kj(hz:∀(i:Nat) s,(fD f)[i]? =some s→s.size=32){n:az}(hin:dy n):(∀(i:Nat) b,(aK n)[i]? =some b→b≠ -1→EY f n i b)↔MC f n:=by
 constructor
 ·intro h b hb hn s hs
  by_cases hlt:dF n-32*(((aK n).length-1:Nat):Int)<32
  ·exact h _ b hb hn hlt s hs
  ·exact L4 (by rw[hz _ s hs];omega)
 ·intro h i b hb hn hlt s hs
  have hu:=I0 hin hb
  have hi:=(List.getElem?_eq_some_iff.1 hb).1
  have h1:=uA hu
  have h2:=wc hu
  have:i=(aK n).length-1:=by
   unfold qE at h1
   split at h1<;>omega
  subst this
  exact h b hb hn s hs
theorem Qq(H:Rb f)(hs:cJ f)(hq:∀(i:Nat) q,(fQ f)[i]? =some q→jC q)(hz:∀(i:Nat) s,(fD f)[i]? =some s→s.size=32)(hi:∀(i:Nat) n,(fI f)[i]? =some n→dy n)(hu:Q2 f)
  (hf:∀(b:Nat) s,(fD f)[b]? =some s→(b:Int)∉aU (fI f)→ru s) (hr:∃n,(fI f)[0]? =some n∧n.1=2):
  ak (fun k (_:S)=>iter k (ig k) ((),fI f,((fI f).length:Int),(0:Int),f)) (GP (qv f)):=by
 have hni:=H.ni
 refine ak.list (L:=fun k _=>ig k) (fI f) (fun(_:Unit) i=>((),fI f,((fI f).length:Int),((i:Nat):Int),f)) (fun _ i=>∀(m:Nat) n,m<i→(fI f)[m]? =some n→MC f n) (fun _ i n hx hil inv=> ?_) (fun _ inv=> ?_) () (by simp)
 ·have hw:aa .i64 ((i:Int)+1)=((i+1:Nat):Int):=by rw[aV (by omega) (by omega)];omega
  have hlen:(aK n).length<4611686018427387904:=(hs n (List.mem_of_getElem? hx)).1
  have w1:aa .i64 (((aK n).length:Int)-1)=((aK n).length:Int)-1:=aV (by omega) (by omega)
  simp only[ig,Int.ofNat_lt,hil,decide_true,cond_true,Int.natCast_nonneg,if_true,Int.toNat_natCast,hx,Option.bind_some,hw,w1]
  have next:MC f n→∀(m:Nat) n,m<i+1→(fI f)[m]? =some n→MC f n:=fun ho m n' hm hn'=>by
   by_cases e:m=i
   ·subst e;rw[hx]at hn';cases hn';exact ho
   ·exact inv m n' (by omega) hn'
  refine ak.bif (fun h1=> ?_) (fun h1=> ?_)
  ·replace h1:=of_decide_eq_true h1
   have hpos:0<(aK n).length:=by omega
   have e1:(((aK n).length:Int)-1).toNat=(aK n).length-1:=by omega
   obtain⟨b,hb⟩:∃b,(aK n)[(aK n).length-1]? =some b:=⟨_,List.getElem?_eq_getElem (show(aK n).length-1<(aK n).length by omega)⟩
   simp only[h1,if_true,e1,hb,Option.bind_some]
   refine ak.bif (fun h2=> ?_) (fun h2=> ?_)
   ·have h2:b≠ -1:=by simpa using h2
    have hown:=hu.1 i n hx _ b hb h2
    have b0:=hown.1
    have b1:=hown.2.1
    obtain⟨sd,hd⟩:∃s,(fD f)[b.toNat]? =some s:=⟨_,List.getElem?_eq_getElem (show b.toNat<(fD f).length by rw[H.nd];omega)⟩
    have hsz:=hz _ _ hd
    have hup:=I0 (hi i n hx) hb
    obtain⟨t1,t2⟩:=J7 hup hb
    have t3:=wc hup
    have hl:=uA hup
    have w2:aa .i64 ((((aK n).length:Int)-1)*32)=32*(((aK n).length-1:Nat):Int):=by rw[aV (by omega) (by omega)];omega
    have w3:aa .i64 (n.2.2.2.2.2.1-32*(((aK n).length-1:Nat):Int))=dF n-32*(((aK n).length-1:Nat):Int):=aV (show _≤dF n-_ by omega) (show dF n-_<_ by omega)
    have c1:0≤dF n-32*(((aK n).length-1:Nat):Int):=by omega
    have c2:dF n-32*(((aK n).length-1:Nat):Int)≤((sd.size:Nat):Int):=by
     rw[hsz]
     unfold qE at hl
     split at hl<;>omega
    simp only[w2,w3,b0,if_true,hd,Option.bind_some,c1,c2]
    refine ak.CB (pj _ (MK (by omega))) fun c hc=>ak.bif (fun h5=>ak.const _ (GL.ret (GP.no fun hP=> ?_))) (fun h5=> ?_)
    ·have:=hc.2 ((Kj hz (hi i n hx)).1 (fun j b hb h=>((hP.bj i n hx) j b hb h).2) b hb h2 sd hd)
     rw[this]at h5;cases h5
    ·refine ak.const _ (GL.self () rfl (next fun b' hb' _ s hs=> ?_))
     rw[hb]at hb';cases hb'
     rw[hd]at hs;cases hs
     exact hc.1 (by simpa using h5)
   ·have h2:b= -1:=by simpa using h2
    refine ak.const _ (GL.self () rfl (next fun b' hb' hn=> ?_))
    rw[hb]at hb';cases hb'
    exact absurd h2 hn
  ·replace h1:=of_decide_eq_false h1
   refine ak.const _ (GL.self () rfl (next fun b' hb' _=> ?_))
   have:=(List.getElem?_eq_some_iff.1 hb').1
   omega
 ·simp only[ig,Int.lt_irrefl,decide_false,cond_false]
  refine ak.const _ (GE.ret (GP.yes ⟨H.tick,H.nq,H.ni,H.nd,hq,hz,hi,fun i n hn j b hb h=>⟨hu.1 i n hn j b hb h, ?_⟩,hu.2,hf,hr⟩))
  exact(Kj hz (hi i n hn)).2 (inv i n (List.getElem?_eq_some_iff.1 hn).1 hn) j b hb h
theorem QF(H:Rb f)(hs:cJ f)(hq:∀(i:Nat) q,(fQ f)[i]? =some q→jC q)(hb:∀s∈fD f,s.size<fu)(hi:∀(i:Nat) n,(fI f)[i]? =some n→dy n)(hu:Q2 f)
  {u:List Bool} (hua:kY u (aU (fI f))) (hr:∃n,(fI f)[0]? =some n∧n.1=2):
  ak (fun k (_:S)=>iter k (iD k) ((),u,fD f,((fD f).length:Int),(0:Int),f)) (GP (qv f)):=by
 have hnd:=H.nd
 refine ak.list (L:=fun k _=>iD k) (fD f) (fun(_:Unit) i=>((),u,fD f,((fD f).length:Int),((i:Nat):Int),f)) (fun _ i=>∀(b:Nat) s,b<i→(fD f)[b]? =some s→s.size=32∧((b:Int)∉aU (fI f)→ru s)) (fun _ i s hx hil inv=> ?_) (fun _ inv=> ?_) () (by simp)
 ·have hw:aa .i64 ((i:Int)+1)=((i+1:Nat):Int):=by rw[aV (by omega) (by omega)];omega
  have h56:(i:Int)<((u.length:Nat):Int):=by rw[hua.1];omega
  have hui:=hua.2 i (by omega)
  simp only[iD,Int.ofNat_lt,hil,decide_true,cond_true,Int.natCast_nonneg,if_true,Int.toNat_natCast,hx,Option.bind_some,hw]
  have next:s.size=32→((i:Int)∉aU (fI f)→ru s)→∀(b:Nat) s,b<i+1→(fD f)[b]? =some s→s.size=32∧((b:Int)∉aU (fI f)→ru s):=fun hz ho b s' hb hs=>by
   by_cases e:b=i
   ·subst e;rw[hx]at hs;cases hs;exact⟨hz,ho⟩
   ·exact inv b s' (by omega) hs
  refine ak.bif (fun h=>ak.const _ (GL.ret (GP.no fun hP=>by have:=hP.sz i s hx;simp at h;omega))) (fun h6=> ?_)
  have h6:s.size=32:=by simp at h6;omega
  have h56':i<u.length:=by omega
  simp only[h56',if_true,hui,Option.bind_some]
  refine ak.bif (fun h1=> ?_) (fun h1=> ?_)
  ·simp at h1
   refine ak.CB (pj s (by rw[h6];unfold fu;omega)) fun b hb=>ak.bif (fun h2=>ak.const _ (GL.ret (GP.no fun hP=> ?_))) (fun h2=> ?_)
   ·have:=hb.2 (hP.free i s hx h1);rw[this]at h2;cases h2
   ·exact ak.const _ (GL.self () rfl (next h6 fun _=>hb.1 (by simpa using h2)))
  ·simp at h1
   exact ak.const _ (GL.self () rfl (next h6 fun h=>absurd h1 h))
 ·simp only[iD,Int.lt_irrefl,decide_false,cond_false]
  have all:=fun(b:Nat) s (hs:(fD f)[b]? =some s)=>inv b s (List.getElem?_eq_some_iff.1 hs).1 hs
  exact ak.out (F:=fun k _=>iter k (ig k) ((),fI f,((fI f).length:Int),(0:Int),f)) (Qq H hs hq (fun i s h=>(all i s h).1) hi hu (fun i s h=>(all i s h).2) hr)
theorem Qb(H:Rb f)(hs:cJ f)(hq:∀(i:Nat) q,(fQ f)[i]? =some q→jC q)(hb:∀s∈fD f,s.size<fu):
  ak (fun k (_:S)=>iter k (iG k) ((),fI f,((fI f).length:Int),(0:Int),f)) (GP (qv f)):=by
 have hni:=H.ni
 refine ak.list (L:=fun k _=>iG k) (fI f) (fun(_:Unit) i=>((),fI f,((fI f).length:Int),((i:Nat):Int),f)) (fun _ i=>∀(m:Nat) n,m<i→(fI f)[m]? =some n→dy n) (fun _ i n hx hil inv=> ?_) (fun _ inv=> ?_) () (by simp)
 ·have hw:aa .i64 ((i:Int)+1)=((i+1:Nat):Int):=by rw[aV (by omega) (by omega)];omega
  simp only[iG,Int.ofNat_lt,hil,decide_true,cond_true,Int.natCast_nonneg,if_true,Int.toNat_natCast,hx,Option.bind_some,hw]
  refine ak.CB (Bz n (hs n (List.mem_of_getElem? hx))) fun b hb=>ak.bif (fun h1=>ak.const _ (GL.ret (GP.no fun hP=> ?_))) (fun h1=> ?_)
  ·have:=hb.2 (hP.ino i n hx);rw[this]at h1;cases h1
  refine ak.const _ (GL.self () rfl fun m n' hm hn'=> ?_)
  by_cases e:m=i
  ·subst e;rw[hx]at hn';cases hn';exact hb.1 (by simpa using h1)
  ·exact inv m n' (by omega) hn'
 ·obtain⟨n0,h0⟩:∃n,(fI f)[0]? =some n:=⟨_,List.getElem?_eq_getElem (show 0<(fI f).length by rw[H.ni];omega)⟩
  simp only[iG,Int.lt_irrefl,decide_false,cond_false,Int.le_refl,if_true,Int.toNat_zero,h0,Option.bind_some]
  have all:=fun(b:Nat) s (hs:(fI f)[b]? =some s)=>inv b s (List.getElem?_eq_some_iff.1 hs).1 hs
  refine ak.bif (fun h1=>ak.const _ (GE.ret (GP.no fun hP=> ?_))) (fun h1=> ?_)
  ·obtain⟨n,k1,k2⟩:=hP.root
   rw[h0]at k1;cases k1
   rw[k2]at h1;cases h1
  have h1:n0.1=2:=by simpa using h1
  obtain⟨r,e1,e2,e3⟩:=Io H.ni hs all
  refine ak.bind e1 (ak.bif (fun h2=>ak.const _ (GE.ret (GP.no fun hP=> ?_))) (fun h2=> ?_))
  ·have:=e2.2 ⟨fun i n hn j b hb h=>((hP.bj i n hn) j b hb h).1,hP.nodup⟩
   rw[this]at h2;cases h2
  have h2:r.2=true:=by simpa using h2
  exact ak.out (F:=fun k _=>iter k (iD k) ((),r.1,fD f,((fD f).length:Int),(0:Int),f)) (QF H hs hq hb all (e2.1 h2) (e3 h2) ⟨n0,h0,h1⟩)
end
theorem mc(f:dV)(hs:cJ f)(hb:∀s∈fD f,s.size<fu):dB (fun k=>jY k f) (qv f):=by
 refine dB.run (fun k=>Gz k f) (dB.of ?_)
 simp only[Hc]
 refine ak.bind (cA _ _ _) (ak.bif (fun h=>ak.const _ (GP.no fun hP=>by have:=hP.tick;simp at h;omega)) (fun h1=> ?_))
 refine ak.bif (fun h=>ak.const _ (GP.no fun hP=>by have this:f.2.1.length=4:=hP.nq;simp at h;omega)) (fun h3=> ?_)
 refine ak.bif (fun h=>ak.const _ (GP.no fun hP=>by have this:f.2.2.1.length=20:=hP.ni;simp at h;omega)) (fun h4=> ?_)
 refine ak.bif (fun h=>ak.const _ (GP.no fun hP=>by have this:f.2.2.2.length=56:=hP.nd;simp at h;omega)) (fun h5=> ?_)
 simp at h1 h3 h4 h5
 have H:Rb f:=⟨⟨by omega,by omega⟩,by show f.2.1.length=4;omega,by show f.2.2.1.length=20;omega,by show f.2.2.2.length=56;omega⟩
 have nq:=H.nq
 refine ak.list (L:=fun k _=>nF k) (fQ f) (fun(_:Unit) i=>((),fQ f,((fQ f).length:Int),((i:Nat):Int),f)) (fun _ i=>∀(j:Nat) q,j<i→(fQ f)[j]? =some q→jC q) (fun _ i q hx hi inv=> ?_) (fun _ inv=> ?_) () (by simp)
 ·have hw:aa .i64 ((i:Int)+1)=((i+1:Nat):Int):=by rw[aV (by omega) (by omega)];omega
  simp only[nF,Int.ofNat_lt,hi,decide_true,cond_true,Int.natCast_nonneg,if_true,Int.toNat_natCast,hx,Option.bind_some,hw]
  refine ak.bind (cA _ _ _) (ak.bif (fun h=>ak.const _ (GL.ret (GP.no fun hP=>by have:=hP.q i q hx;unfold jC at this;simp at h;omega))) (fun h6=> ?_))
  refine ak.bind (cA _ _ _) (ak.bif (fun h=>ak.const _ (GL.ret (GP.no fun hP=>by have:=hP.q i q hx;unfold jC at this;simp at h;omega))) (fun h7=> ?_))
  simp at h6 h7
  refine ak.const _ (GL.self () rfl fun j q' hj hq'=> ?_)
  by_cases e:j=i
  ·subst e;rw[hx]at hq';cases hq';exact⟨h6.1,h6.2,h7.1,h7.2⟩
  ·exact inv j q' (by omega) hq'
 ·simp only[nF,Int.lt_irrefl,decide_false,cond_false]
  exact ak.out (F:=fun k _=>iter k (iG k) ((),fI f,((fI f).length:Int),(0:Int),f)) (Qb H hs (fun i q hq=>inv i q (List.getElem?_eq_some_iff.1 hq).1 hq) hb)
end Go.Proofs.YtkdcfeopelbojaaGreatDoor

/- The tables, the residual functions and lemmas of this seat: parts of the proof of the law; conditions: those that each names. -/
import Derived.Test.YtmmgfgfkkpeedaaGreatFs
set_option linter.unusedVariables false
set_option linter.unusedSimpArgs false
set_option maxRecDepth 100000
namespace Go.Proofs.YtmmgfgfkkpeedaaGreat
open Go.Eng
def Ua(n:aN):Prop:=∀(i:Nat) b,(bK n)[i]? =some b→b≠ -1→we n b
def U3(f:jB):Prop:=(∀(i:Nat) n,(fI f)[i]? =some n→Ua n)∧(cr (fI f)).Nodup
def Vs(f:jB)(r:List Bool×Bool):Prop:=(r.2=true↔U3 f)∧(r.2=true→rZ r.1 (cr (fI f)))
theorem RO{f:jB}(h:¬U3 f):Vs f ([],false):=⟨by simp[h],by simp⟩
def Xl(f:jB)(u:List Bool)(i:Nat):Prop:=rZ u (cr ((fI f).take i))∧(cr ((fI f).take i)).Nodup∧∀(m:Nat) n,m<i→(fI f)[m]? =some n→Ua n
def Xo(f:jB)(i:Nat)(n:aN)(u:List Bool)(j:Nat):Prop:=rZ u (pre (fI f) i n j)∧(pre (fI f) i n j).Nodup∧∀(m:Nat) b,m<j→(bK n)[m]? =some b→b≠ -1→we n b
section
variable {f:jB} {S:Type}
theorem Vd(hl:(fI f).length=20)(hs:eR f){i:Nat}{n:aN}(hx:(fI f)[i]? =some n)(hin:cN n)(h3:∀(m:Nat) n,m<i→(fI f)[m]? =some n→Ua n){u:List Bool}(hu:rZ u (cr ((fI f).take i)))(hnd:(cr ((fI f).take i)).Nodup):
  aj (fun k (p:S×((List Bool×List aN×Int×Int)→Option (List Bool×Bool)))=>iter k (hY k p.2) (u,(),fI f,((fI f).length:Int),(i:Int),bK n,((bK n).length:Int),(0:Int),n))
   (GL (fun u i=>(u,fI f,((fI f).length:Int),((i:Nat):Int))) (Xl f) i (GR (Vs f))):=by
 have hlen:(bK n).length<4611686018427387904:=(hs n (List.mem_of_getElem? hx)).1
 have hil:=(List.getElem?_eq_some_iff.1 hx).1
 refine aj.list (L:=fun k (p:S×((List Bool×List aN×Int×Int)→Option (List Bool×Bool)))=>hY k p.2) (bK n) (fun u j=>(u,(),fI f,((fI f).length:Int),(i:Int),bK n,((bK n).length:Int),(j:Int),n)) (Xo f i n) (fun u j b hb hj inv=> ?_) (fun u inv=> ?_) u ⟨by rw[DU];exact hu,by rw[DU];exact hnd,by simp⟩
 ·have hw:aa .i64 ((j:Int)+1)=((j+1:Nat):Int):=by rw[aR (by omega) (by omega)];omega
  simp only[hY,Int.ofNat_lt,hj,decide_true,cond_true,Int.natCast_nonneg,if_true,Int.toNat_natCast,hb,Option.bind_some,hw]
  have hup:=NY hin hb
  have huid:0≤Ts n:=hup.2.1.2.1.1
  obtain⟨v1,v2,v3⟩:=inv
  have next:(b≠ -1→we n b)→∀(m:Nat) c,m<j+1→(bK n)[m]? =some c→c≠ -1→we n c:=fun ho m c hm hc=>by
   by_cases e:m=j
   ·subst e;rw[hb]at hc;cases hc;exact ho
   ·exact v3 m c (by omega) hc
  refine aj.bif (fun h1=> ?_) (fun h1=> ?_)
  ·have h1:b= -1:=by simpa using h1
   subst h1
   exact aj.const _ (GL.self u rfl ⟨by rw[D6 hb];exact v1,by rw[D6 hb];exact v2,next fun h=>absurd rfl h⟩)
  ·have h1':b≠ -1:=by simpa using h1
   refine aj.bind (Cr b) (aj.bif (fun h2=>aj.const _ (GL.ret (GL.ret (GR.ret (RO fun hP=> ?_))))) (fun h2=> ?_))
   ·have:=(IV huid).2 (hP.1 i n hx j b hb h1')
    rw[this]at h2;simp at h2
   have hown:we n b:=(IV huid).1 (by simpa using h2)
   have b0:=hown.1
   have b1:=hown.2.1
   have b2:b<((u.length:Nat):Int):=by rw[v1.1];omega
   simp only[b0,b2,if_true,MC v1 b0 b1,Option.bind_some]
   refine aj.bif (fun h3=>aj.const _ (GL.ret (GL.ret (GR.ret (RO fun hP=> ?_))))) (fun h3=> ?_)
   ·exact J7 hP.2 hx hb h1' (of_decide_eq_true h3)
   replace h3:=of_decide_eq_false h3
   have hpre:=Ob (l:=fI f) (i:=i) hb h1'
   exact aj.const _ (GL.self (u.set b.toNat true) rfl ⟨by rw[hpre];exact LK v1 b0,by rw[hpre];exact KQ v2 h3,next fun _=>hown⟩)
 ·have hw:aa .i64 ((i:Int)+1)=((i+1:Nat):Int):=by rw[aR (by omega) (by omega)];omega
  simp only[hY,Int.lt_irrefl,decide_false,cond_false,hw]
  obtain⟨v1,v2,v3⟩:=inv
  rw[←MD hx]at v1 v2
  refine aj.const _ (GE.up (S:=S×((List Bool×List aN×Int×Int)→Option (List Bool×Bool))) (fun p=>p.2 (u,fI f,((fI f).length:Int),((i+1:Nat):Int))) ?_)
  refine GL.self u rfl ⟨v1,v2,fun m n' hm hn'=> ?_⟩
  by_cases e:m=i
  ·subst e;rw[hx]at hn';cases hn'
   exact fun m b hb h=>v3 m b (List.getElem?_eq_some_iff.1 hb).1 hb h
  ·exact h3 m n' (by omega) hn'
theorem Ni(hl:(fI f).length=20)(hs:eR f)(hi:∀(i:Nat) n,(fI f)[i]? =some n→cN n):∃r,Ev (fun k=>rm k f) r∧Vs f r:=by
 refine Ev.of (Q:=Vs f) ?_ |>.imp fun n h=>⟨au.run (fun k=>F4 k f) h.1,h.2⟩
 have c1:(0:Int)≤56:=by omega
 have c2:(56:Int)≤56:=by omega
 have c3:(56:Int)*1≤(af:Int):=by unfold af;omega
 simp only[Dv,c1,c2,c3,if_true]
 refine aj.list (L:=fun k _=>kE k) (fI f) (fun u i=>(u,fI f,((fI f).length:Int),((i:Nat):Int))) (Xl f) (fun u i n hx hi' inv=> ?_) (fun u inv=> ?_) _ ⟨LX,by simp[cr],by simp⟩
 ·simp only[kE,Int.ofNat_lt,hi',decide_true,cond_true,Int.natCast_nonneg,if_true,Int.toNat_natCast,hx,Option.bind_some]
  exact Vd hl hs hx (hi i n hx) inv.2.2 inv.1 inv.2.1
 ·simp only[kE,Int.lt_irrefl,decide_false,cond_false]
  obtain⟨v1,v2,v3⟩:=inv
  rw[List.take_length]at v1 v2
  exact aj.const _ (GE.ret (GR.ret ⟨⟨fun _=>⟨fun i n hn=>v3 i n (List.getElem?_eq_some_iff.1 hn).1 hn,v2⟩,fun _=>rfl⟩,fun _=>v1⟩))
theorem Qf{s:ByteArray}{a:Nat}(h:s.size≤a):uS (s.extract a s.size):=fun i c hc=>by
 have:(s.extract a s.size).size=0:=by rw[ByteArray.size_extract];omega
 rw[getElem?_neg _ _ (by omega)]at hc
 cases hc
def RM(f:jB)(n:aN):Prop:=∀b,(bK n)[(bK n).length-1]? =some b→b≠ -1→∀s,(fD f)[b.toNat]? =some s→uS (s.extract (l6 n-32*((bK n).length-1:Nat)).toNat s.size)
theorem N2(hz:∀(i:Nat) s,(fD f)[i]? =some s→s.size=32){n:aN}(hin:cN n):(∀(i:Nat) b,(bK n)[i]? =some b→b≠ -1→JM f n i b)↔RM f n:=by
 constructor
 ·intro h b hb hn s hs
  by_cases hlt:l6 n-32*(((bK n).length-1:Nat):Int)<32
  ·exact h _ b hb hn hlt s hs
  ·exact Qf (by rw[hz _ s hs];omega)
 ·intro h i b hb hn hlt s hs
  have hu:=NY hin hb
  have hi:=(List.getElem?_eq_some_iff.1 hb).1
  have h1:=KI hu
  have h2:=IJ hu
  have:i=(bK n).length-1:=by
   unfold lM at h1
   split at h1<;>omega
  subst this
  exact h b hb hn s hs
theorem U6(H:V9 f)(hs:eR f)(hq:∀(i:Nat) q,(fQ f)[i]? =some q→mE q)(hz:∀(i:Nat) s,(fD f)[i]? =some s→s.size=32)(hi:∀(i:Nat) n,(fI f)[i]? =some n→cN n)(hu:U3 f)
  (hf:∀(b:Nat) s,(fD f)[b]? =some s→(b:Int)∉cr (fI f)→uS s) (hr:∃n,(fI f)[0]? =some n∧n.1=2):
  aj (fun k (_:S)=>iter k (j9 k) ((),fI f,((fI f).length:Int),(0:Int),f)) (GP (Fa f)):=by
 have hni:=H.ni
 refine aj.list (L:=fun k _=>j9 k) (fI f) (fun(_:Unit) i=>((),fI f,((fI f).length:Int),((i:Nat):Int),f)) (fun _ i=>∀(m:Nat) n,m<i→(fI f)[m]? =some n→RM f n) (fun _ i n hx hil inv=> ?_) (fun _ inv=> ?_) () (by simp)
 ·have hw:aa .i64 ((i:Int)+1)=((i+1:Nat):Int):=by rw[aR (by omega) (by omega)];omega
  have hlen:(bK n).length<4611686018427387904:=(hs n (List.mem_of_getElem? hx)).1
  have w1:aa .i64 (((bK n).length:Int)-1)=((bK n).length:Int)-1:=aR (by omega) (by omega)
  simp only[j9,Int.ofNat_lt,hil,decide_true,cond_true,Int.natCast_nonneg,if_true,Int.toNat_natCast,hx,Option.bind_some,hw,w1]
  have next:RM f n→∀(m:Nat) n,m<i+1→(fI f)[m]? =some n→RM f n:=fun ho m n' hm hn'=>by
   by_cases e:m=i
   ·subst e;rw[hx]at hn';cases hn';exact ho
   ·exact inv m n' (by omega) hn'
  refine aj.bif (fun h1=> ?_) (fun h1=> ?_)
  ·replace h1:=of_decide_eq_true h1
   have hpos:0<(bK n).length:=by omega
   have e1:(((bK n).length:Int)-1).toNat=(bK n).length-1:=by omega
   obtain⟨b,hb⟩:∃b,(bK n)[(bK n).length-1]? =some b:=⟨_,List.getElem?_eq_getElem (show(bK n).length-1<(bK n).length by omega)⟩
   simp only[h1,if_true,e1,hb,Option.bind_some]
   refine aj.bif (fun h2=> ?_) (fun h2=> ?_)
   ·have h2:b≠ -1:=by simpa using h2
    have hown:=hu.1 i n hx _ b hb h2
    have b0:=hown.1
    have b1:=hown.2.1
    obtain⟨sd,hd⟩:∃s,(fD f)[b.toNat]? =some s:=⟨_,List.getElem?_eq_getElem (show b.toNat<(fD f).length by rw[H.nd];omega)⟩
    have hsz:=hz _ _ hd
    have hup:=NY (hi i n hx) hb
    obtain⟨t1,t2⟩:=N0 hup hb
    have t3:=IJ hup
    have hl:=KI hup
    have w2:aa .i64 ((((bK n).length:Int)-1)*32)=32*(((bK n).length-1:Nat):Int):=by rw[aR (by omega) (by omega)];omega
    have w3:aa .i64 (n.2.2.2.2.2.1-32*(((bK n).length-1:Nat):Int))=l6 n-32*(((bK n).length-1:Nat):Int):=aR (show _≤l6 n-_ by omega) (show l6 n-_<_ by omega)
    have c1:0≤l6 n-32*(((bK n).length-1:Nat):Int):=by omega
    have c2:l6 n-32*(((bK n).length-1:Nat):Int)≤((sd.size:Nat):Int):=by
     rw[hsz]
     unfold lM at hl
     split at hl<;>omega
    simp only[w2,w3,b0,if_true,hd,Option.bind_some,c1,c2]
    refine aj.pX (sM _ (Rg (by omega))) fun c hc=>aj.bif (fun h5=>aj.const _ (GL.ret (GP.no fun hP=> ?_))) (fun h5=> ?_)
    ·have:=hc.2 ((N2 hz (hi i n hx)).1 (fun j b hb h=>((hP.bA i n hx) j b hb h).2) b hb h2 sd hd)
     rw[this]at h5;cases h5
    ·refine aj.const _ (GL.self () rfl (next fun b' hb' _ s hs=> ?_))
     rw[hb]at hb';cases hb'
     rw[hd]at hs;cases hs
     exact hc.1 (by simpa using h5)
   ·have h2:b= -1:=by simpa using h2
    refine aj.const _ (GL.self () rfl (next fun b' hb' hn=> ?_))
    rw[hb]at hb';cases hb'
    exact absurd h2 hn
  ·replace h1:=of_decide_eq_false h1
   refine aj.const _ (GL.self () rfl (next fun b' hb' _=> ?_))
   have:=(List.getElem?_eq_some_iff.1 hb').1
   omega
 ·simp only[j9,Int.lt_irrefl,decide_false,cond_false]
  refine aj.const _ (GE.ret (GP.yes ⟨H.tick,H.nq,H.ni,H.nd,hq,hz,hi,fun i n hn j b hb h=>⟨hu.1 i n hn j b hb h, ?_⟩,hu.2,hf,hr⟩))
  exact(N2 hz (hi i n hn)).2 (inv i n (List.getElem?_eq_some_iff.1 hn).1 hn) j b hb h
theorem VO(H:V9 f)(hs:eR f)(hq:∀(i:Nat) q,(fQ f)[i]? =some q→mE q)(hb:∀s∈fD f,s.size<m6)(hi:∀(i:Nat) n,(fI f)[i]? =some n→cN n)(hu:U3 f)
  {u:List Bool} (hua:rZ u (cr (fI f))) (hr:∃n,(fI f)[0]? =some n∧n.1=2):
  aj (fun k (_:S)=>iter k (jy k) ((),u,fD f,((fD f).length:Int),(0:Int),f)) (GP (Fa f)):=by
 have hnd:=H.nd
 refine aj.list (L:=fun k _=>jy k) (fD f) (fun(_:Unit) i=>((),u,fD f,((fD f).length:Int),((i:Nat):Int),f)) (fun _ i=>∀(b:Nat) s,b<i→(fD f)[b]? =some s→s.size=32∧((b:Int)∉cr (fI f)→uS s)) (fun _ i s hx hil inv=> ?_) (fun _ inv=> ?_) () (by simp)
 ·have hw:aa .i64 ((i:Int)+1)=((i+1:Nat):Int):=by rw[aR (by omega) (by omega)];omega
  have h56:(i:Int)<((u.length:Nat):Int):=by rw[hua.1];omega
  have hui:=hua.2 i (by omega)
  simp only[jy,Int.ofNat_lt,hil,decide_true,cond_true,Int.natCast_nonneg,if_true,Int.toNat_natCast,hx,Option.bind_some,hw]
  have next:s.size=32→((i:Int)∉cr (fI f)→uS s)→∀(b:Nat) s,b<i+1→(fD f)[b]? =some s→s.size=32∧((b:Int)∉cr (fI f)→uS s):=fun hz ho b s' hb hs=>by
   by_cases e:b=i
   ·subst e;rw[hx]at hs;cases hs;exact⟨hz,ho⟩
   ·exact inv b s' (by omega) hs
  refine aj.bif (fun h=>aj.const _ (GL.ret (GP.no fun hP=>by have:=hP.sz i s hx;simp at h;omega))) (fun h6=> ?_)
  have h6:s.size=32:=by simp at h6;omega
  have h56':i<u.length:=by omega
  simp only[h56',if_true,hui,Option.bind_some]
  refine aj.bif (fun h1=> ?_) (fun h1=> ?_)
  ·simp at h1
   refine aj.pX (sM s (by rw[h6];unfold m6;omega)) fun b hb=>aj.bif (fun h2=>aj.const _ (GL.ret (GP.no fun hP=> ?_))) (fun h2=> ?_)
   ·have:=hb.2 (hP.free i s hx h1);rw[this]at h2;cases h2
   ·exact aj.const _ (GL.self () rfl (next h6 fun _=>hb.1 (by simpa using h2)))
  ·simp at h1
   exact aj.const _ (GL.self () rfl (next h6 fun h=>absurd h1 h))
 ·simp only[jy,Int.lt_irrefl,decide_false,cond_false]
  have all:=fun(b:Nat) s (hs:(fD f)[b]? =some s)=>inv b s (List.getElem?_eq_some_iff.1 hs).1 hs
  exact aj.out (F:=fun k _=>iter k (j9 k) ((),fI f,((fI f).length:Int),(0:Int),f)) (U6 H hs hq (fun i s h=>(all i s h).1) hi hu (fun i s h=>(all i s h).2) hr)
theorem Vt(H:V9 f)(hs:eR f)(hq:∀(i:Nat) q,(fQ f)[i]? =some q→mE q)(hb:∀s∈fD f,s.size<m6):
  aj (fun k (_:S)=>iter k (jM k) ((),fI f,((fI f).length:Int),(0:Int),f)) (GP (Fa f)):=by
 have hni:=H.ni
 refine aj.list (L:=fun k _=>jM k) (fI f) (fun(_:Unit) i=>((),fI f,((fI f).length:Int),((i:Nat):Int),f)) (fun _ i=>∀(m:Nat) n,m<i→(fI f)[m]? =some n→cN n) (fun _ i n hx hil inv=> ?_) (fun _ inv=> ?_) () (by simp)
 ·have hw:aa .i64 ((i:Int)+1)=((i+1:Nat):Int):=by rw[aR (by omega) (by omega)];omega
  simp only[jM,Int.ofNat_lt,hil,decide_true,cond_true,Int.natCast_nonneg,if_true,Int.toNat_natCast,hx,Option.bind_some,hw]
  refine aj.pX (nr n (hs n (List.mem_of_getElem? hx))) fun b hb=>aj.bif (fun h1=>aj.const _ (GL.ret (GP.no fun hP=> ?_))) (fun h1=> ?_)
  ·have:=hb.2 (hP.ino i n hx);rw[this]at h1;cases h1
  refine aj.const _ (GL.self () rfl fun m n' hm hn'=> ?_)
  by_cases e:m=i
  ·subst e;rw[hx]at hn';cases hn';exact hb.1 (by simpa using h1)
  ·exact inv m n' (by omega) hn'
 ·obtain⟨n0,h0⟩:∃n,(fI f)[0]? =some n:=⟨_,List.getElem?_eq_getElem (show 0<(fI f).length by rw[H.ni];omega)⟩
  simp only[jM,Int.lt_irrefl,decide_false,cond_false,Int.le_refl,if_true,Int.toNat_zero,h0,Option.bind_some]
  have all:=fun(b:Nat) s (hs:(fI f)[b]? =some s)=>inv b s (List.getElem?_eq_some_iff.1 hs).1 hs
  refine aj.bif (fun h1=>aj.const _ (GE.ret (GP.no fun hP=> ?_))) (fun h1=> ?_)
  ·obtain⟨n,k1,k2⟩:=hP.root
   rw[h0]at k1;cases k1
   rw[k2]at h1;cases h1
  have h1:n0.1=2:=by simpa using h1
  obtain⟨r,e1,e2,e3⟩:=Ni H.ni hs all
  refine aj.bind e1 (aj.bif (fun h2=>aj.const _ (GE.ret (GP.no fun hP=> ?_))) (fun h2=> ?_))
  ·have:=e2.2 ⟨fun i n hn j b hb h=>((hP.bA i n hn) j b hb h).1,hP.nodup⟩
   rw[this]at h2;cases h2
  have h2:r.2=true:=by simpa using h2
  exact aj.out (F:=fun k _=>iter k (jy k) ((),r.1,fD f,((fD f).length:Int),(0:Int),f)) (VO H hs hq hb all (e2.1 h2) (e3 h2) ⟨n0,h0,h1⟩)
end
theorem ou(f:jB)(hs:eR f)(hb:∀s∈fD f,s.size<m6):cA (fun k=>oH k f) (Fa f):=by
 refine cA.run (fun k=>K3 k f) (cA.of ?_)
 simp only[Lx]
 refine aj.bind (bH _ _ _) (aj.bif (fun h=>aj.const _ (GP.no fun hP=>by have:=hP.tick;simp at h;omega)) (fun h1=> ?_))
 refine aj.bif (fun h=>aj.const _ (GP.no fun hP=>by have this:f.2.1.length=4:=hP.nq;simp at h;omega)) (fun h3=> ?_)
 refine aj.bif (fun h=>aj.const _ (GP.no fun hP=>by have this:f.2.2.1.length=20:=hP.ni;simp at h;omega)) (fun h4=> ?_)
 refine aj.bif (fun h=>aj.const _ (GP.no fun hP=>by have this:f.2.2.2.length=56:=hP.nd;simp at h;omega)) (fun h5=> ?_)
 simp at h1 h3 h4 h5
 have H:V9 f:=⟨⟨by omega,by omega⟩,by show f.2.1.length=4;omega,by show f.2.2.1.length=20;omega,by show f.2.2.2.length=56;omega⟩
 have nq:=H.nq
 refine aj.list (L:=fun k _=>pQ k) (fQ f) (fun(_:Unit) i=>((),fQ f,((fQ f).length:Int),((i:Nat):Int),f)) (fun _ i=>∀(j:Nat) q,j<i→(fQ f)[j]? =some q→mE q) (fun _ i q hx hi inv=> ?_) (fun _ inv=> ?_) () (by simp)
 ·have hw:aa .i64 ((i:Int)+1)=((i+1:Nat):Int):=by rw[aR (by omega) (by omega)];omega
  simp only[pQ,Int.ofNat_lt,hi,decide_true,cond_true,Int.natCast_nonneg,if_true,Int.toNat_natCast,hx,Option.bind_some,hw]
  refine aj.bind (bH _ _ _) (aj.bif (fun h=>aj.const _ (GL.ret (GP.no fun hP=>by have:=hP.q i q hx;unfold mE at this;simp at h;omega))) (fun h6=> ?_))
  refine aj.bind (bH _ _ _) (aj.bif (fun h=>aj.const _ (GL.ret (GP.no fun hP=>by have:=hP.q i q hx;unfold mE at this;simp at h;omega))) (fun h7=> ?_))
  simp at h6 h7
  refine aj.const _ (GL.self () rfl fun j q' hj hq'=> ?_)
  by_cases e:j=i
  ·subst e;rw[hx]at hq';cases hq';exact⟨h6.1,h6.2,h7.1,h7.2⟩
  ·exact inv j q' (by omega) hq'
 ·simp only[pQ,Int.lt_irrefl,decide_false,cond_false]
  exact aj.out (F:=fun k _=>iter k (jM k) ((),fI f,((fI f).length:Int),(0:Int),f)) (Vt H hs (fun i q hq=>inv i q (List.getElem?_eq_some_iff.1 hq).1 hq) hb)
end Go.Proofs.YtmmgfgfkkpeedaaGreat

/- The tables, the residual functions and lemmas of this seat: parts of the proof of the law; conditions: those that each names. -/
import Derived.Test.YtkmnlefjlhogaaaFs
set_option linter.unusedVariables false
set_option linter.unusedSimpArgs false
set_option maxRecDepth 100000
namespace Go.Proofs.Ytkmnlefjlhogaaa
open Go.Eng
def ownsP(n:PInode):Prop:=∀(i:Nat) b,(xBlk n)[i]? =some b→b≠ -1→ownAt n b
def useP(f:PFS):Prop:=(∀(i:Nat) n,(fI f)[i]? =some n→ownsP n)∧(usedBs (fI f)).Nodup
def useQ(f:PFS)(r:List Bool×Bool):Prop:=(r.2=true↔useP f)∧(r.2=true→usedA r.1 (usedBs (fI f)))
theorem useQ_no{f:PFS}(h:¬useP f):useQ f ([],false):=⟨by simp[h],by simp⟩
def invS(f:PFS)(u:List Bool)(i:Nat):Prop:=usedA u (usedBs ((fI f).take i))∧(usedBs ((fI f).take i)).Nodup∧∀(m:Nat) n,m<i→(fI f)[m]? =some n→ownsP n
def invS1(f:PFS)(i:Nat)(n:PInode)(u:List Bool)(j:Nat):Prop:=usedA u (pre (fI f) i n j)∧(pre (fI f) i n j).Nodup∧∀(m:Nat) b,m<j→(xBlk n)[m]? =some b→b≠ -1→ownAt n b
section
variable {f:PFS} {S:Type}
theorem spec_U1(hl:(fI f).length=20)(hs:fsSmall f){i:Nat}{n:PInode}(hx:(fI f)[i]? =some n)(hin:inodeP n)(h3:∀(m:Nat) n,m<i→(fI f)[m]? =some n→ownsP n){u:List Bool}(hu:usedA u (usedBs ((fI f).take i)))(hnd:(usedBs ((fI f).take i)).Nodup):
  EvX (fun k (p:S×((List Bool×List PInode×Int×Int)→Option (List Bool×Bool)))=>iter k (spec_l08Used_l1 k p.2) (u,(),fI f,((fI f).length:Int),(i:Int),xBlk n,((xBlk n).length:Int),(0:Int),n))
   (GL (fun u i=>(u,fI f,((fI f).length:Int),((i:Nat):Int))) (invS f) i (GR (useQ f))):=by
 have hlen:(xBlk n).length<4611686018427387904:=(hs n (List.mem_of_getElem? hx)).1
 have hil:=(List.getElem?_eq_some_iff.1 hx).1
 refine EvX.list (L:=fun k (p:S×((List Bool×List PInode×Int×Int)→Option (List Bool×Bool)))=>spec_l08Used_l1 k p.2) (xBlk n) (fun u j=>(u,(),fI f,((fI f).length:Int),(i:Int),xBlk n,((xBlk n).length:Int),(j:Int),n)) (invS1 f i n) (fun u j b hb hj inv=> ?_) (fun u inv=> ?_) u ⟨by rw[pre_zero];exact hu,by rw[pre_zero];exact hnd,by simp⟩
 ·have hw:wrapK .i64 ((j:Int)+1)=((j+1:Nat):Int):=by rw[i64w (by omega) (by omega)];omega
  simp only[spec_l08Used_l1,Int.ofNat_lt,hj,decide_true,cond_true,Int.natCast_nonneg,if_true,Int.toNat_natCast,hb,Option.bind_some,hw]
  have hup:=uid_of hin hb
  have huid:0≤xUid n:=hup.2.1.2.1.1
  obtain⟨v1,v2,v3⟩:=inv
  have next:(b≠ -1→ownAt n b)→∀(m:Nat) c,m<j+1→(xBlk n)[m]? =some c→c≠ -1→ownAt n c:=fun ho m c hm hc=>by
   by_cases e:m=j
   ·subst e;rw[hb]at hc;cases hc;exact ho
   ·exact v3 m c (by omega) hc
  refine EvX.bif (fun h1=> ?_) (fun h1=> ?_)
  ·have h1:b= -1:=by simpa using h1
   subst h1
   exact EvX.const _ (GL.self u rfl ⟨by rw[pre_skip hb];exact v1,by rw[pre_skip hb];exact v2,next fun h=>absurd rfl h⟩)
  ·have h1':b≠ -1:=by simpa using h1
   refine EvX.bind (spec_BlockOwner_ev b) (EvX.bif (fun h2=>EvX.const _ (GL.ret (GL.ret (GR.ret (useQ_no fun hP=> ?_))))) (fun h2=> ?_))
   ·have:=(own_iff huid).2 (hP.1 i n hx j b hb h1')
    rw[this]at h2;simp at h2
   have hown:ownAt n b:=(own_iff huid).1 (by simpa using h2)
   have b0:=hown.1
   have b1:=hown.2.1
   have b2:b<((u.length:Nat):Int):=by rw[v1.1];omega
   simp only[b0,b2,if_true,usedA_get v1 b0 b1,Option.bind_some]
   refine EvX.bif (fun h3=>EvX.const _ (GL.ret (GL.ret (GR.ret (useQ_no fun hP=> ?_))))) (fun h3=> ?_)
   ·exact used_fresh hP.2 hx hb h1' (of_decide_eq_true h3)
   replace h3:=of_decide_eq_false h3
   have hpre:=pre_succ (l:=fI f) (i:=i) hb h1'
   exact EvX.const _ (GL.self (u.set b.toNat true) rfl ⟨by rw[hpre];exact usedA_set v1 b0,by rw[hpre];exact nodup_snoc v2 h3,next fun _=>hown⟩)
 ·have hw:wrapK .i64 ((i:Int)+1)=((i+1:Nat):Int):=by rw[i64w (by omega) (by omega)];omega
  simp only[spec_l08Used_l1,Int.lt_irrefl,decide_false,cond_false,hw]
  obtain⟨v1,v2,v3⟩:=inv
  rw[←used_take hx]at v1 v2
  refine EvX.const _ (GE.up (S:=S×((List Bool×List PInode×Int×Int)→Option (List Bool×Bool))) (fun p=>p.2 (u,fI f,((fI f).length:Int),((i+1:Nat):Int))) ?_)
  refine GL.self u rfl ⟨v1,v2,fun m n' hm hn'=> ?_⟩
  by_cases e:m=i
  ·subst e;rw[hx]at hn';cases hn'
   exact fun m b hb h=>v3 m b (List.getElem?_eq_some_iff.1 hb).1 hb h
  ·exact h3 m n' (by omega) hn'
theorem spec_Used_ev(hl:(fI f).length=20)(hs:fsSmall f)(hi:∀(i:Nat) n,(fI f)[i]? =some n→inodeP n):∃r,Ev (fun k=>c_spec_l08Used k f) r∧useQ f r:=by
 refine Ev.of (Q:=useQ f) ?_ |>.imp fun n h=>⟨EvQ.run (fun k=>spec_l08Used_run k f) h.1,h.2⟩
 have c1:(0:Int)≤56:=by omega
 have c2:(56:Int)≤56:=by omega
 have c3:(56:Int)*1≤(capBytes:Int):=by unfold capBytes;omega
 simp only[spec_l08Used,c1,c2,c3,if_true]
 refine EvX.list (L:=fun k _=>spec_l08Used_l2 k) (fI f) (fun u i=>(u,fI f,((fI f).length:Int),((i:Nat):Int))) (invS f) (fun u i n hx hi' inv=> ?_) (fun u inv=> ?_) _ ⟨usedA_nil,by simp[usedBs],by simp⟩
 ·simp only[spec_l08Used_l2,Int.ofNat_lt,hi',decide_true,cond_true,Int.natCast_nonneg,if_true,Int.toNat_natCast,hx,Option.bind_some]
  exact spec_U1 hl hs hx (hi i n hx) inv.2.2 inv.1 inv.2.1
 ·simp only[spec_l08Used_l2,Int.lt_irrefl,decide_false,cond_false]
  obtain⟨v1,v2,v3⟩:=inv
  rw[List.take_length]at v1 v2
  exact EvX.const _ (GE.ret (GR.ret ⟨⟨fun _=>⟨fun i n hn=>v3 i n (List.getElem?_eq_some_iff.1 hn).1 hn,v2⟩,fun _=>rfl⟩,fun _=>v1⟩))
theorem zero_empty{s:ByteArray}{a:Nat}(h:s.size≤a):zeroS (s.extract a s.size):=fun i c hc=>by
 have:(s.extract a s.size).size=0:=by rw[ByteArray.size_extract];omega
 rw[getElem?_neg _ _ (by omega)]at hc
 cases hc
def lastP(f:PFS)(n:PInode):Prop:=∀b,(xBlk n)[(xBlk n).length-1]? =some b→b≠ -1→∀s,(fD f)[b.toNat]? =some s→zeroS (s.extract (xSize n-32*((xBlk n).length-1:Nat)).toNat s.size)
theorem last_iff(hz:∀(i:Nat) s,(fD f)[i]? =some s→s.size=32){n:PInode}(hin:inodeP n):(∀(i:Nat) b,(xBlk n)[i]? =some b→b≠ -1→tailAt f n i b)↔lastP f n:=by
 constructor
 ·intro h b hb hn s hs
  by_cases hlt:xSize n-32*(((xBlk n).length-1:Nat):Int)<32
  ·exact h _ b hb hn hlt s hs
  ·exact zero_empty (by rw[hz _ s hs];omega)
 ·intro h i b hb hn hlt s hs
  have hu:=uid_of hin hb
  have hi:=(List.getElem?_eq_some_iff.1 hb).1
  have h1:=used_len hu
  have h2:=size_of hu
  have:i=(xBlk n).length-1:=by
   unfold needI at h1
   split at h1<;>omega
  subst this
  exact h b hb hn s hs
theorem spec_S1(H:fs1 f)(hs:fsSmall f)(hq:∀(i:Nat) q,(fQ f)[i]? =some q→quotaP q)(hz:∀(i:Nat) s,(fD f)[i]? =some s→s.size=32)(hi:∀(i:Nat) n,(fI f)[i]? =some n→inodeP n)(hu:useP f)
  (hf:∀(b:Nat) s,(fD f)[b]? =some s→(b:Int)∉usedBs (fI f)→zeroS s) (hr:∃n,(fI f)[0]? =some n∧n.1=2):
  EvX (fun k (_:S)=>iter k (spec_IsFS_l1 k) ((),fI f,((fI f).length:Int),(0:Int),f)) (GP (fsP f)):=by
 have hni:=H.ni
 refine EvX.list (L:=fun k _=>spec_IsFS_l1 k) (fI f) (fun(_:Unit) i=>((),fI f,((fI f).length:Int),((i:Nat):Int),f)) (fun _ i=>∀(m:Nat) n,m<i→(fI f)[m]? =some n→lastP f n) (fun _ i n hx hil inv=> ?_) (fun _ inv=> ?_) () (by simp)
 ·have hw:wrapK .i64 ((i:Int)+1)=((i+1:Nat):Int):=by rw[i64w (by omega) (by omega)];omega
  have hlen:(xBlk n).length<4611686018427387904:=(hs n (List.mem_of_getElem? hx)).1
  have w1:wrapK .i64 (((xBlk n).length:Int)-1)=((xBlk n).length:Int)-1:=i64w (by omega) (by omega)
  simp only[spec_IsFS_l1,Int.ofNat_lt,hil,decide_true,cond_true,Int.natCast_nonneg,if_true,Int.toNat_natCast,hx,Option.bind_some,hw,w1]
  have next:lastP f n→∀(m:Nat) n,m<i+1→(fI f)[m]? =some n→lastP f n:=fun ho m n' hm hn'=>by
   by_cases e:m=i
   ·subst e;rw[hx]at hn';cases hn';exact ho
   ·exact inv m n' (by omega) hn'
  refine EvX.bif (fun h1=> ?_) (fun h1=> ?_)
  ·replace h1:=of_decide_eq_true h1
   have hpos:0<(xBlk n).length:=by omega
   have e1:(((xBlk n).length:Int)-1).toNat=(xBlk n).length-1:=by omega
   obtain⟨b,hb⟩:∃b,(xBlk n)[(xBlk n).length-1]? =some b:=⟨_,List.getElem?_eq_getElem (show(xBlk n).length-1<(xBlk n).length by omega)⟩
   simp only[h1,if_true,e1,hb,Option.bind_some]
   refine EvX.bif (fun h2=> ?_) (fun h2=> ?_)
   ·have h2:b≠ -1:=by simpa using h2
    have hown:=hu.1 i n hx _ b hb h2
    have b0:=hown.1
    have b1:=hown.2.1
    obtain⟨sd,hd⟩:∃s,(fD f)[b.toNat]? =some s:=⟨_,List.getElem?_eq_getElem (show b.toNat<(fD f).length by rw[H.nd];omega)⟩
    have hsz:=hz _ _ hd
    have hup:=uid_of (hi i n hx) hb
    obtain⟨t1,t2⟩:=tail_pos hup hb
    have t3:=size_of hup
    have hl:=used_len hup
    have w2:wrapK .i64 ((((xBlk n).length:Int)-1)*32)=32*(((xBlk n).length-1:Nat):Int):=by rw[i64w (by omega) (by omega)];omega
    have w3:wrapK .i64 (n.2.2.2.2.2.1-32*(((xBlk n).length-1:Nat):Int))=xSize n-32*(((xBlk n).length-1:Nat):Int):=i64w (show _≤xSize n-_ by omega) (show xSize n-_<_ by omega)
    have c1:0≤xSize n-32*(((xBlk n).length-1:Nat):Int):=by omega
    have c2:xSize n-32*(((xBlk n).length-1:Nat):Int)≤((sd.size:Nat):Int):=by
     rw[hsz]
     unfold needI at hl
     split at hl<;>omega
    simp only[w2,w3,b0,if_true,hd,Option.bind_some,c1,c2]
    refine EvX.say (spec_IsZeroes_say _ (big_ext (by omega))) fun c hc=>EvX.bif (fun h5=>EvX.const _ (GL.ret (GP.no fun hP=> ?_))) (fun h5=> ?_)
    ·have:=hc.2 ((last_iff hz (hi i n hx)).1 (fun j b hb h=>((hP.blk i n hx) j b hb h).2) b hb h2 sd hd)
     rw[this]at h5;cases h5
    ·refine EvX.const _ (GL.self () rfl (next fun b' hb' _ s hs=> ?_))
     rw[hb]at hb';cases hb'
     rw[hd]at hs;cases hs
     exact hc.1 (by simpa using h5)
   ·have h2:b= -1:=by simpa using h2
    refine EvX.const _ (GL.self () rfl (next fun b' hb' hn=> ?_))
    rw[hb]at hb';cases hb'
    exact absurd h2 hn
  ·replace h1:=of_decide_eq_false h1
   refine EvX.const _ (GL.self () rfl (next fun b' hb' _=> ?_))
   have:=(List.getElem?_eq_some_iff.1 hb').1
   omega
 ·simp only[spec_IsFS_l1,Int.lt_irrefl,decide_false,cond_false]
  refine EvX.const _ (GE.ret (GP.yes ⟨H.tick,H.nq,H.ni,H.nd,hq,hz,hi,fun i n hn j b hb h=>⟨hu.1 i n hn j b hb h, ?_⟩,hu.2,hf,hr⟩))
  exact(last_iff hz (hi i n hn)).2 (inv i n (List.getElem?_eq_some_iff.1 hn).1 hn) j b hb h
theorem spec_S2(H:fs1 f)(hs:fsSmall f)(hq:∀(i:Nat) q,(fQ f)[i]? =some q→quotaP q)(hb:∀s∈fD f,s.size<big)(hi:∀(i:Nat) n,(fI f)[i]? =some n→inodeP n)(hu:useP f)
  {u:List Bool} (hua:usedA u (usedBs (fI f))) (hr:∃n,(fI f)[0]? =some n∧n.1=2):
  EvX (fun k (_:S)=>iter k (spec_IsFS_l2 k) ((),u,fD f,((fD f).length:Int),(0:Int),f)) (GP (fsP f)):=by
 have hnd:=H.nd
 refine EvX.list (L:=fun k _=>spec_IsFS_l2 k) (fD f) (fun(_:Unit) i=>((),u,fD f,((fD f).length:Int),((i:Nat):Int),f)) (fun _ i=>∀(b:Nat) s,b<i→(fD f)[b]? =some s→s.size=32∧((b:Int)∉usedBs (fI f)→zeroS s)) (fun _ i s hx hil inv=> ?_) (fun _ inv=> ?_) () (by simp)
 ·have hw:wrapK .i64 ((i:Int)+1)=((i+1:Nat):Int):=by rw[i64w (by omega) (by omega)];omega
  have h56:(i:Int)<((u.length:Nat):Int):=by rw[hua.1];omega
  have hui:=hua.2 i (by omega)
  simp only[spec_IsFS_l2,Int.ofNat_lt,hil,decide_true,cond_true,Int.natCast_nonneg,if_true,Int.toNat_natCast,hx,Option.bind_some,hw]
  have next:s.size=32→((i:Int)∉usedBs (fI f)→zeroS s)→∀(b:Nat) s,b<i+1→(fD f)[b]? =some s→s.size=32∧((b:Int)∉usedBs (fI f)→zeroS s):=fun hz ho b s' hb hs=>by
   by_cases e:b=i
   ·subst e;rw[hx]at hs;cases hs;exact⟨hz,ho⟩
   ·exact inv b s' (by omega) hs
  refine EvX.bif (fun h=>EvX.const _ (GL.ret (GP.no fun hP=>by have:=hP.sz i s hx;simp at h;omega))) (fun h6=> ?_)
  have h6:s.size=32:=by simp at h6;omega
  have h56':i<u.length:=by omega
  simp only[h56',if_true,hui,Option.bind_some]
  refine EvX.bif (fun h1=> ?_) (fun h1=> ?_)
  ·simp at h1
   refine EvX.say (spec_IsZeroes_say s (by rw[h6];unfold big;omega)) fun b hb=>EvX.bif (fun h2=>EvX.const _ (GL.ret (GP.no fun hP=> ?_))) (fun h2=> ?_)
   ·have:=hb.2 (hP.free i s hx h1);rw[this]at h2;cases h2
   ·exact EvX.const _ (GL.self () rfl (next h6 fun _=>hb.1 (by simpa using h2)))
  ·simp at h1
   exact EvX.const _ (GL.self () rfl (next h6 fun h=>absurd h1 h))
 ·simp only[spec_IsFS_l2,Int.lt_irrefl,decide_false,cond_false]
  have all:=fun(b:Nat) s (hs:(fD f)[b]? =some s)=>inv b s (List.getElem?_eq_some_iff.1 hs).1 hs
  exact EvX.out (F:=fun k _=>iter k (spec_IsFS_l1 k) ((),fI f,((fI f).length:Int),(0:Int),f)) (spec_S1 H hs hq (fun i s h=>(all i s h).1) hi hu (fun i s h=>(all i s h).2) hr)
theorem spec_S3(H:fs1 f)(hs:fsSmall f)(hq:∀(i:Nat) q,(fQ f)[i]? =some q→quotaP q)(hb:∀s∈fD f,s.size<big):
  EvX (fun k (_:S)=>iter k (spec_IsFS_l3 k) ((),fI f,((fI f).length:Int),(0:Int),f)) (GP (fsP f)):=by
 have hni:=H.ni
 refine EvX.list (L:=fun k _=>spec_IsFS_l3 k) (fI f) (fun(_:Unit) i=>((),fI f,((fI f).length:Int),((i:Nat):Int),f)) (fun _ i=>∀(m:Nat) n,m<i→(fI f)[m]? =some n→inodeP n) (fun _ i n hx hil inv=> ?_) (fun _ inv=> ?_) () (by simp)
 ·have hw:wrapK .i64 ((i:Int)+1)=((i+1:Nat):Int):=by rw[i64w (by omega) (by omega)];omega
  simp only[spec_IsFS_l3,Int.ofNat_lt,hil,decide_true,cond_true,Int.natCast_nonneg,if_true,Int.toNat_natCast,hx,Option.bind_some,hw]
  refine EvX.say (spec_IsInode_say n (hs n (List.mem_of_getElem? hx))) fun b hb=>EvX.bif (fun h1=>EvX.const _ (GL.ret (GP.no fun hP=> ?_))) (fun h1=> ?_)
  ·have:=hb.2 (hP.ino i n hx);rw[this]at h1;cases h1
  refine EvX.const _ (GL.self () rfl fun m n' hm hn'=> ?_)
  by_cases e:m=i
  ·subst e;rw[hx]at hn';cases hn';exact hb.1 (by simpa using h1)
  ·exact inv m n' (by omega) hn'
 ·obtain⟨n0,h0⟩:∃n,(fI f)[0]? =some n:=⟨_,List.getElem?_eq_getElem (show 0<(fI f).length by rw[H.ni];omega)⟩
  simp only[spec_IsFS_l3,Int.lt_irrefl,decide_false,cond_false,Int.le_refl,if_true,Int.toNat_zero,h0,Option.bind_some]
  have all:=fun(b:Nat) s (hs:(fI f)[b]? =some s)=>inv b s (List.getElem?_eq_some_iff.1 hs).1 hs
  refine EvX.bif (fun h1=>EvX.const _ (GE.ret (GP.no fun hP=> ?_))) (fun h1=> ?_)
  ·obtain⟨n,k1,k2⟩:=hP.root
   rw[h0]at k1;cases k1
   rw[k2]at h1;cases h1
  have h1:n0.1=2:=by simpa using h1
  obtain⟨r,e1,e2,e3⟩:=spec_Used_ev H.ni hs all
  refine EvX.bind e1 (EvX.bif (fun h2=>EvX.const _ (GE.ret (GP.no fun hP=> ?_))) (fun h2=> ?_))
  ·have:=e2.2 ⟨fun i n hn j b hb h=>((hP.blk i n hn) j b hb h).1,hP.nodup⟩
   rw[this]at h2;cases h2
  have h2:r.2=true:=by simpa using h2
  exact EvX.out (F:=fun k _=>iter k (spec_IsFS_l2 k) ((),r.1,fD f,((fD f).length:Int),(0:Int),f)) (spec_S2 H hs hq hb all (e2.1 h2) (e3 h2) ⟨n0,h0,h1⟩)
end
theorem spec_IsFS_say(f:PFS)(hs:fsSmall f)(hb:∀s∈fD f,s.size<big):Say (fun k=>c_spec_IsFS k f) (fsP f):=by
 refine Say.run (fun k=>spec_IsFS_run k f) (Say.of ?_)
 simp only[spec_IsFS]
 refine EvX.bind (l01In_ev _ _ _) (EvX.bif (fun h=>EvX.const _ (GP.no fun hP=>by have:=hP.tick;simp at h;omega)) (fun h1=> ?_))
 refine EvX.bif (fun h=>EvX.const _ (GP.no fun hP=>by have this:f.2.1.length=4:=hP.nq;simp at h;omega)) (fun h3=> ?_)
 refine EvX.bif (fun h=>EvX.const _ (GP.no fun hP=>by have this:f.2.2.1.length=20:=hP.ni;simp at h;omega)) (fun h4=> ?_)
 refine EvX.bif (fun h=>EvX.const _ (GP.no fun hP=>by have this:f.2.2.2.length=56:=hP.nd;simp at h;omega)) (fun h5=> ?_)
 simp at h1 h3 h4 h5
 have H:fs1 f:=⟨⟨by omega,by omega⟩,by show f.2.1.length=4;omega,by show f.2.2.1.length=20;omega,by show f.2.2.2.length=56;omega⟩
 have nq:=H.nq
 refine EvX.list (L:=fun k _=>spec_IsFS_l4 k) (fQ f) (fun(_:Unit) i=>((),fQ f,((fQ f).length:Int),((i:Nat):Int),f)) (fun _ i=>∀(j:Nat) q,j<i→(fQ f)[j]? =some q→quotaP q) (fun _ i q hx hi inv=> ?_) (fun _ inv=> ?_) () (by simp)
 ·have hw:wrapK .i64 ((i:Int)+1)=((i+1:Nat):Int):=by rw[i64w (by omega) (by omega)];omega
  simp only[spec_IsFS_l4,Int.ofNat_lt,hi,decide_true,cond_true,Int.natCast_nonneg,if_true,Int.toNat_natCast,hx,Option.bind_some,hw]
  refine EvX.bind (l01In_ev _ _ _) (EvX.bif (fun h=>EvX.const _ (GL.ret (GP.no fun hP=>by have:=hP.q i q hx;unfold quotaP at this;simp at h;omega))) (fun h6=> ?_))
  refine EvX.bind (l01In_ev _ _ _) (EvX.bif (fun h=>EvX.const _ (GL.ret (GP.no fun hP=>by have:=hP.q i q hx;unfold quotaP at this;simp at h;omega))) (fun h7=> ?_))
  simp at h6 h7
  refine EvX.const _ (GL.self () rfl fun j q' hj hq'=> ?_)
  by_cases e:j=i
  ·subst e;rw[hx]at hq';cases hq';exact⟨h6.1,h6.2,h7.1,h7.2⟩
  ·exact inv j q' (by omega) hq'
 ·simp only[spec_IsFS_l4,Int.lt_irrefl,decide_false,cond_false]
  exact EvX.out (F:=fun k _=>iter k (spec_IsFS_l3 k) ((),fI f,((fI f).length:Int),(0:Int),f)) (spec_S3 H hs (fun i q hq=>inv i q (List.getElem?_eq_some_iff.1 hq).1 hq) hb)
end Go.Proofs.Ytkmnlefjlhogaaa

/- The tables, the residual functions and lemmas of this seat: parts of the proof of the law; conditions: those that each names. -/
import Derived.Test.YtmmgfgfkkpeedaaGreatSys
set_option linter.unusedVariables false
set_option linter.unusedSimpArgs false
set_option maxRecDepth 100000
namespace Go.Proofs.YtmmgfgfkkpeedaaGreat
open Go.Eng
def LI(s:EH)(i:Int)(a:Nat):Prop:=∃(a' b:Nat) (p:Kg) (o:GN),a'<a∧s.2[a']? =some p∧p.2[b]? =some o∧o.2.2≠0∧o.1=i
def PE(p:Kg)(i:Int)(b:Nat):Prop:=∃(b':Nat) (o:GN),b'<b∧p.2[b']? =some o∧o.2.2≠0∧o.1=i
theorem SU{s:EH}{i:Int}:LI s i s.2.length↔xN s i:=
 ⟨fun⟨a,b,p,o,_,h⟩=>⟨a,b,p,o,h⟩,fun⟨a,b,p,o,h⟩=>⟨a,b,p,o,(List.getElem?_eq_some_iff.1 h.1).1,h⟩⟩
theorem QY{s:EH}{i:Int}{a:Nat}{p:Kg}(hx:s.2[a]? =some p):LI s i (a+1)↔LI s i a∨PE p i p.2.length:=by
 constructor
 ·rintro⟨a',b,p',o,h0,h1,h2,h3⟩
  by_cases e:a'=a
  ·subst e;rw[hx]at h1;cases h1
   exact .inr ⟨b,o,(List.getElem?_eq_some_iff.1 h2).1,h2,h3⟩
  ·exact .inl ⟨a',b,p',o,by omega,h1,h2,h3⟩
 ·rintro(⟨a',b,p',o,h0,h⟩|⟨b,o,h0,h2,h3⟩)
  ·exact⟨a',b,p',o,by omega,h⟩
  ·exact⟨a,b,p,o,by omega,hx,h2,h3⟩
theorem Cy{p:Kg}{i:Int}{b:Nat}{o:GN}(hb:p.2[b]? =some o):PE p i (b+1)↔PE p i b∨(o.2.2≠0∧o.1=i):=by
 constructor
 ·rintro⟨b',o',h0,h2,h3⟩
  by_cases e:b'=b
  ·subst e;rw[hb]at h2;cases h2;exact .inr h3
  ·exact .inl ⟨b',o',by omega,h2,h3⟩
 ·rintro(⟨b',o',h0,h⟩|h)
  ·exact⟨b',o',by omega,h⟩
  ·exact⟨b,o,by omega,hb,h⟩
def VS(s:EH)(r:List Int):Prop:=r.length≤20∧∀j:Nat,j<20→((j:Int)∈r↔xN s j)
theorem NR{s:EH}(hl:Us s):∃r,Ev (fun k=>rA k s) r∧VS s r:=by
 refine Ev.of (Q:=VS s) ?_ |>.imp fun n h=>⟨au.run (fun k=>FD k s) h.1,h.2⟩
 have hsl:=hl.1
 simp only[EJ]
 refine aj.upto (L:=fun k _=>kL k) 20 (fun(st:List Int) i=>((),st,(i:Int),s)) (fun st i=>st.length≤i∧(∀x∈st,x<(i:Int))∧∀j:Nat,j<i→((j:Int)∈st↔xN s j)) (fun st i hi inv=> ?_) (fun st inv=> ?_) [] 0 (by omega) ⟨by simp,by simp,by omega⟩
 ·simp only[kL,show(i:Int)<20 by omega,decide_true,cond_true]
  refine aj.list (L:=fun k (p:Unit×(_→Option (List Int)))=>kR k p.2) s.2 (fun(fd:Bool) a=>((),st,(i:Int),fd,s.2,(s.2.length:Int),(a:Int),s)) (fun fd a=>fd=true↔LI s i a) (fun fd a p hx ha inv1=> ?_) (fun fd inv1=> ?_) false ⟨by simp,fun⟨a',b,p,o,h,_⟩=>by omega⟩
  ·have hpl:=(hl.2 p (List.mem_of_getElem? hx)).1
   simp only[kR,Int.ofNat_lt,ha,decide_true,cond_true,Int.natCast_nonneg,if_true,Int.toNat_natCast,hx,Option.bind_some]
   refine aj.list (L:=fun k (p:(Unit×(_→Option (List Int)))×(_→Option (List Int)))=>kT k p.2) p.2 (fun(fd:Bool) b=>((),st,(i:Int),fd,s.2,(s.2.length:Int),(a:Int),p.2,(p.2.length:Int),(b:Int),s)) (fun fd b=>fd=true↔LI s i a∨PE p i b) (fun fd b o hb hbl inv2=> ?_) (fun fd inv2=> ?_) fd ⟨fun h=> .inl (inv1.1 h),fun h=>inv1.2 (h.resolve_right fun⟨b',o,h,_⟩=>by omega)⟩
   ·have hw:aa .i64 ((b:Int)+1)=((b+1:Nat):Int):=by rw[aR (by omega) (by omega)];omega
    simp only[kT,Int.ofNat_lt,hbl,decide_true,cond_true,Int.natCast_nonneg,if_true,Int.toNat_natCast,hb,Option.bind_some,hw]
    refine aj.bif (fun h1=>aj.const _ (GL.self true rfl ⟨fun _=> ?_,fun _=>rfl⟩)) (fun h1=> ?_)
    ·rw[Cy hb]
     exact(inv2.1 h1).imp id .inl
    ·have hno:¬(LI s i a∨PE p i b):=fun h=>by rw[inv2.2 h]at h1;cases h1
     refine aj.bif (fun h2=>aj.const _ (GL.self (o.1==(i:Int)) rfl ?_)) (fun h2=>aj.const _ (GL.self false rfl ?_))
     ·have h2:o.2.2≠0:=by simpa using h2
      rw[Cy hb,beq_iff_eq]
      constructor
      ·intro h;exact .inr (.inr ⟨h2,h⟩)
      ·rintro(h|h|h)
       ·exact absurd (.inl h) hno
       ·exact absurd (.inr h) hno
       ·exact h.2
     ·have h2:o.2.2=0:=by simpa using h2
      rw[Cy hb]
      constructor
      ·intro h;cases h
      ·rintro(h|h|h)
       ·exact absurd (.inl h) hno
       ·exact absurd (.inr h) hno
       ·exact absurd h2 h.1
   ·have hw:aa .i64 ((a:Int)+1)=((a+1:Nat):Int):=by rw[aR (by omega) (by omega)];omega
    simp only[kT,Int.lt_irrefl,decide_false,cond_false,hw]
    refine aj.const _ (GE.up (S:=(Unit×(_→Option (List Int)))×(_→Option (List Int))) (fun p=>p.2 ((),st,(i:Int),fd,s.2,(s.2.length:Int),((a+1:Nat):Int),s)) ?_)
    exact GL.self fd rfl (inv2.trans (QY hx).symm)
  ·have hw:aa .i64 ((i:Int)+1)=((i+1:Nat):Int):=by rw[aR (by omega) (by omega)];omega
   obtain⟨v1,v2,v3⟩:=inv
   simp only[kR,Int.lt_irrefl,decide_false,cond_false,hw]
   rw[SU]at inv1
   refine aj.bif (fun h1=> ?_) (fun h1=> ?_)
   ·refine aj.nA (by show(st.length+1)*8≤af;unfold af;omega) ?_
    refine aj.const _ (GE.up (S:=Unit×(_→Option (List Int))) (fun p=>p.2 ((),st++[(i:Int)],((i+1:Nat):Int),s)) ?_)
    refine GL.self (st++[(i:Int)]) rfl ⟨by rw[List.length_append];show st.length+1≤i+1;omega,fun x hx=> ?_,fun j hj=> ?_⟩
    ·rcases List.mem_append.1 hx with h|h
     ·have:=v2 x h;omega
     ·rw[List.mem_singleton.1 h];omega
    ·by_cases e:j=i
     ·subst e
      exact⟨fun _=>inv1.1 h1,fun _=>by simp⟩
     ·rw[List.mem_append,List.mem_singleton]
      exact⟨fun h=>(v3 j (by omega)).1 (h.resolve_right (by omega)),fun h=> .inl ((v3 j (by omega)).2 h)⟩
   ·refine aj.const _ (GE.up (S:=Unit×(_→Option (List Int))) (fun p=>p.2 ((),st,((i+1:Nat):Int),s)) ?_)
    refine GL.self st rfl ⟨by omega,fun x hx=>by have:=v2 x hx;omega,fun j hj=> ?_⟩
    by_cases e:j=i
    ·subst e
     exact⟨fun h=>by have:=v2 _ h;omega,fun h=>by rw[inv1.2 h]at h1;cases h1⟩
    ·exact v3 j (by omega)
 ·simp only[kL,show ¬((20:Nat):Int)<20 by omega,decide_false,cond_false]
  exact aj.const _ (GE.ret (GR.ret ⟨inv.1,inv.2.2⟩))
def TS(f:jB)(p:Kg):Prop:=Rd p.1∧p.2.length=3∧∀(b:Nat) o,p.2[b]? =some o→Ka f o
structure U4 (s:EH):Prop where
 fs:Fa s.1
 np:s.2.length=4
 pr:∀(a:Nat) p,s.2[a]? =some p→TS s.1 p
 or:∀(i:Nat) n,(fI s.1)[i]? =some n→n.1=1→n.2.2.2.2.1=0→xN s i
def yD(s:EH):Prop:=Us s∧eR s.1∧∀x∈fD s.1,x.size<m6
theorem Eb(s:EH)(hs:yD s):cA (fun k=>oR k s) (U4 s):=by
 obtain⟨hl,hsm,hb⟩:=hs
 refine cA.run (fun k=>Dn k s) (cA.of ?_)
 simp only[BA]
 refine aj.pX (kB s.1 hsm) fun y hy=>aj.bif (fun h=>aj.const _ (GP.no fun hP=>by rw[hy.2 hP.fs]at h;cases h)) (fun h=> ?_)
 have hf:Fa s.1:=hy.1 (by simpa using h)
 refine aj.bif (fun h=>aj.const _ (GP.no fun hP=>by have:=hP.np;simp at h;omega)) (fun h=> ?_)
 have hn:s.2.length=4:=by simp at h;omega
 refine aj.list (L:=fun k _=>jL k) s.2 (fun(_:Unit) a=>((),s.2,(s.2.length:Int),(a:Int),s)) (fun _ a=>∀(a':Nat) p,a'<a→s.2[a']? =some p→TS s.1 p) (fun _ a p hx ha inv=> ?_) (fun _ inv=> ?_) () (by simp)
 ·have hpl:=(hl.2 p (List.mem_of_getElem? hx)).2
  have hw:aa .i64 ((a:Int)+1)=((a+1:Nat):Int):=by rw[aR (by omega) (by omega)];omega
  simp only[jL,Int.ofNat_lt,ha,decide_true,cond_true,Int.natCast_nonneg,if_true,Int.toNat_natCast,hx,Option.bind_some]
  refine aj.pX (Il p.1 hpl) fun z hz=>aj.bif (fun h1=>aj.const _ (GL.ret (GP.no fun hP=>by rw[hz.2 (hP.pr a p hx).1]at h1;cases h1))) (fun h1=> ?_)
  have h1:=hz.1 (by simpa using h1)
  refine aj.bif (fun h2=>aj.const _ (GL.ret (GP.no fun hP=>by have:=(hP.pr a p hx).2.1;simp at h2;omega))) (fun h2=> ?_)
  have h2:p.2.length=3:=by simp at h2;omega
  refine aj.list (L:=fun k (p:Unit×(_→Option Bool))=>jS k p.2) p.2 (fun(_:Unit) b=>((),s.2,(s.2.length:Int),(a:Int),p.2,(p.2.length:Int),(b:Int),s)) (fun _ b=>∀(b':Nat) o,b'<b→p.2[b']? =some o→Ka s.1 o) (fun _ b o hbo hbl inv2=> ?_) (fun _ inv2=> ?_) () (by simp)
  ·have hw:aa .i64 ((b:Int)+1)=((b+1:Nat):Int):=by rw[aR (by omega) (by omega)];omega
   have step:Ka s.1 o→∀(b':Nat) o',b'<b+1→p.2[b']? =some o'→Ka s.1 o':=fun ho b' o' hb' ho'=>by
    by_cases e:b'=b
    ·subst e;rw[hbo]at ho';cases ho';exact ho
    ·exact inv2 b' o' (by omega) ho'
   have no:¬Ka s.1 o→¬U4 s:=fun hno hP=>hno ((hP.pr a p hx).2.2 b o hbo)
   simp only[jS,Int.ofNat_lt,hbl,decide_true,cond_true,Int.natCast_nonneg,if_true,Int.toNat_natCast,hbo,Option.bind_some,hw]
   refine aj.bif (fun h3=>aj.const _ (GL.self () rfl (step (.inl ((Gx o).1 h3))))) (fun h3=> ?_)
   have hz0:o≠(0,0,0):=fun e=>by rw[(Gx o).2 e]at h3;cases h3
   refine aj.bif (fun h4=>aj.const _ (GL.ret (GL.ret (GP.no (no fun hP=>by have:=(hP.resolve_left hz0).1;have:=of_decide_eq_true h4;omega))))) (fun h4=> ?_)
   refine aj.bif (fun h5=>aj.const _ (GL.ret (GL.ret (GP.no (no fun hP=>by have:=(hP.resolve_left hz0).1;have:=of_decide_eq_true h5;omega))))) (fun h5=> ?_)
   refine aj.bif (fun h6=>aj.const _ (GL.ret (GL.ret (GP.no (no fun hP=>(hP.resolve_left hz0).2.1 (by simpa using h6)))))) (fun h6=> ?_)
   refine aj.pX (RX hf o.1) fun w hw2=>aj.bif (fun h7=>aj.const _ (GL.ret (GL.ret (GP.no (no fun hP=> ?_))))) (fun h7=> ?_)
   ·obtain⟨_,_,q1,⟨n,q2,q3⟩,_⟩:=hP.resolve_left hz0
    rw[hw2.2 ⟨q1,n,q2,by omega⟩]at h7;cases h7
   obtain⟨q1,n,q2,q3⟩:=hw2.1 (by simpa using h7)
   refine aj.bind (SH hf q1 q2 q3) (aj.bif (fun h8=>aj.const _ (GL.ret (GL.ret (GP.no (no fun hP=> ?_))))) (fun h8=> ?_))
   ·obtain⟨_,_,_,⟨n',q2',q3'⟩,_⟩:=hP.resolve_left hz0
    rw[q2]at q2';cases q2'
    have:n.1=2:=by simpa using h8
    omega
   refine aj.bif (fun h9=>aj.const _ (GL.ret (GL.ret (GP.no (no fun hP=>by have:=(hP.resolve_left hz0).2.2.2.2;have:=of_decide_eq_true h9;omega))))) (fun h9=> ?_)
   refine aj.bif (fun h10=>aj.const _ (GL.ret (GL.ret (GP.no (no fun hP=>by have:=(hP.resolve_left hz0).2.2.2.2;have:=of_decide_eq_true h10;omega))))) (fun h10=> ?_)
   have h4:=of_decide_eq_false h4
   have h5:=of_decide_eq_false h5
   have h9:=of_decide_eq_false h9
   have h10:=of_decide_eq_false h10
   have h8:¬n.1=2:=by simpa using h8
   have:=kinds hf q2
   exact aj.const _ (GL.self () rfl (step (.inr ⟨by omega,by simpa using h6,q1,⟨n,q2,by omega⟩,by omega⟩)))
  ·simp only[jS,Int.lt_irrefl,decide_false,cond_false,hw]
   refine aj.const _ (GE.up (S:=Unit×(_→Option Bool)) (fun p=>p.2 ((),s.2,(s.2.length:Int),((a+1:Nat):Int),s)) ?_)
   refine GL.self () rfl fun a' p' ha' hp'=> ?_
   by_cases e:a'=a
   ·subst e;rw[hx]at hp';cases hp'
    exact⟨h1,h2,fun b o ho=>inv2 b o (List.getElem?_eq_some_iff.1 ho).1 ho⟩
   ·exact inv a' p' (by omega) hp'
 ·simp only[jL,Int.lt_irrefl,decide_false,cond_false]
  refine aj.out (F:=fun k _=>iter k (fU k) ((),fI s.1,((fI s.1).length:Int),(0:Int),s)) ?_
  have hni:=hf.ni
  refine aj.list (L:=fun k _=>fU k) (fI s.1) (fun(_:Unit) i=>((),fI s.1,((fI s.1).length:Int),(i:Int),s)) (fun _ i=>∀(i':Nat) n,i'<i→(fI s.1)[i']? =some n→n.1=1→n.2.2.2.2.1=0→xN s i') (fun _ i n hx hi inv2=> ?_) (fun _ inv2=> ?_) () (by simp)
  ·have hw:aa .i64 ((i:Int)+1)=((i+1:Nat):Int):=by rw[aR (by omega) (by omega)];omega
   have step:(n.1=1→n.2.2.2.2.1=0→xN s i)→∀(i':Nat) n,i'<i+1→(fI s.1)[i']? =some n→n.1=1→n.2.2.2.2.1=0→xN s i':=fun ho i' n' hi' hn'=>by
    by_cases e:i'=i
    ·subst e;rw[hx]at hn';cases hn';exact ho
    ·exact inv2 i' n' (by omega) hn'
   simp only[fU,Int.ofNat_lt,hi,decide_true,cond_true,Int.natCast_nonneg,if_true,Int.toNat_natCast,hx,Option.bind_some,hw]
   refine aj.bif (fun h1=> ?_) (fun h1=>aj.const _ (GL.self () rfl (step fun h=>by rw[h]at h1;simp at h1)))
   refine aj.bif (fun h2=> ?_) (fun h2=>aj.const _ (GL.self () rfl (step fun _ h=>by rw[h]at h2;simp at h2)))
   refine aj.pX (Qm hl (i:Int)) fun z hz=>aj.bif (fun h3=>aj.const _ (GL.ret (GP.no fun hP=>by
    rw[hz.2 (hP.or i n hx (by simpa using h1) (by simpa using h2))]at h3;cases h3))) (fun h3=>aj.const _ (GL.self () rfl (step fun _ _=>hz.1 (by simpa using h3))))
  ·simp only[fU,Int.lt_irrefl,decide_false,cond_false]
   exact aj.const _ (GE.ret (GP.yes ⟨hf,hn,fun a p hp=>inv a p (List.getElem?_eq_some_iff.1 hp).1 hp,fun i n hn=>inv2 i n (List.getElem?_eq_some_iff.1 hn).1 hn⟩))
theorem ES(s:EH)(hs:yD s):cA (fun k=>pq k s) (U4 s):=by
 obtain⟨hl,hsm,hb⟩:=hs
 obtain⟨r,r1,r2,r3⟩:=NR hl
 refine cA.run (fun k=>EX k s) (cA.of ?_)
 simp only[BN]
 refine aj.pX (ou s.1 hsm hb) fun y hy=>aj.bif (fun h=>aj.const _ (GP.no fun hP=>by rw[hy.2 hP.fs]at h;cases h)) (fun h=> ?_)
 have hf:Fa s.1:=hy.1 (by simpa using h)
 refine aj.bif (fun h=>aj.const _ (GP.no fun hP=>by have:=hP.np;simp at h;omega)) (fun h=> ?_)
 have hn:s.2.length=4:=by simp at h;omega
 refine aj.list (L:=fun k _=>j8 k) s.2 (fun(_:Unit) a=>((),s.2,(s.2.length:Int),(a:Int),s)) (fun _ a=>∀(a':Nat) p,a'<a→s.2[a']? =some p→TS s.1 p) (fun _ a p hx ha inv=> ?_) (fun _ inv=> ?_) () (by simp)
 ·have hpl:=(hl.2 p (List.mem_of_getElem? hx)).2
  have hw:aa .i64 ((a:Int)+1)=((a+1:Nat):Int):=by rw[aR (by omega) (by omega)];omega
  simp only[j8,Int.ofNat_lt,ha,decide_true,cond_true,Int.natCast_nonneg,if_true,Int.toNat_natCast,hx,Option.bind_some]
  refine aj.pX (H6 p.1 hpl) fun z hz=>aj.bif (fun h1=>aj.const _ (GL.ret (GP.no fun hP=>by rw[hz.2 (hP.pr a p hx).1]at h1;cases h1))) (fun h1=> ?_)
  have h1:=hz.1 (by simpa using h1)
  refine aj.bif (fun h2=>aj.const _ (GL.ret (GP.no fun hP=>by have:=(hP.pr a p hx).2.1;simp at h2;omega))) (fun h2=> ?_)
  have h2:p.2.length=3:=by simp at h2;omega
  refine aj.list (L:=fun k (p:Unit×(_→Option Bool))=>jP k p.2) p.2 (fun(_:Unit) b=>((),s.2,(s.2.length:Int),(a:Int),p.2,(p.2.length:Int),(b:Int),s)) (fun _ b=>∀(b':Nat) o,b'<b→p.2[b']? =some o→Ka s.1 o) (fun _ b o hbo hbl inv2=> ?_) (fun _ inv2=> ?_) () (by simp)
  ·have hw:aa .i64 ((b:Int)+1)=((b+1:Nat):Int):=by rw[aR (by omega) (by omega)];omega
   simp only[jP,Int.ofNat_lt,hbl,decide_true,cond_true,Int.natCast_nonneg,if_true,Int.toNat_natCast,hbo,Option.bind_some,hw]
   refine aj.pX (Lt hf o) fun w hw2=>aj.bif (fun h7=>aj.const _ (GL.ret (GL.ret (GP.no fun hP=>by rw[hw2.2 ((hP.pr a p hx).2.2 b o hbo)]at h7;cases h7)))) (fun h7=>aj.const _ (GL.self () rfl fun b' o' hb' ho'=> ?_))
   by_cases e:b'=b
   ·subst e;rw[hbo]at ho';cases ho';exact hw2.1 (by simpa using h7)
   ·exact inv2 b' o' (by omega) ho'
  ·simp only[jP,Int.lt_irrefl,decide_false,cond_false,hw]
   refine aj.const _ (GE.up (S:=Unit×(_→Option Bool)) (fun p=>p.2 ((),s.2,(s.2.length:Int),((a+1:Nat):Int),s)) ?_)
   refine GL.self () rfl fun a' p' ha' hp'=> ?_
   by_cases e:a'=a
   ·subst e;rw[hx]at hp';cases hp'
    exact⟨h1,h2,fun b o ho=>inv2 b o (List.getElem?_eq_some_iff.1 ho).1 ho⟩
   ·exact inv a' p' (by omega) hp'
 ·simp only[j8,Int.lt_irrefl,decide_false,cond_false]
  refine aj.bind r1 ?_
  refine aj.out (F:=fun k _=>iter k (ga k) (r,fI s.1,((fI s.1).length:Int),(0:Int))) ?_
  have hni:=hf.ni
  refine aj.list (L:=fun k _=>ga k) (fI s.1) (fun(_:Unit) i=>(r,fI s.1,((fI s.1).length:Int),(i:Int))) (fun _ i=>∀(i':Nat) n,i'<i→(fI s.1)[i']? =some n→n.1=1→n.2.2.2.2.1=0→xN s i') (fun _ i n hx hi inv2=> ?_) (fun _ inv2=> ?_) () (by simp)
  ·have hw:aa .i64 ((i:Int)+1)=((i+1:Nat):Int):=by rw[aR (by omega) (by omega)];omega
   have step:(n.1=1→n.2.2.2.2.1=0→xN s i)→∀(i':Nat) n,i'<i+1→(fI s.1)[i']? =some n→n.1=1→n.2.2.2.2.1=0→xN s i':=fun ho i' n' hi' hn'=>by
    by_cases e:i'=i
    ·subst e;rw[hx]at hn';cases hn';exact ho
    ·exact inv2 i' n' (by omega) hn'
   have hr:=r3 i (by omega)
   simp only[ga,Int.ofNat_lt,hi,decide_true,cond_true,Int.natCast_nonneg,if_true,Int.toNat_natCast,hx,Option.bind_some,hw]
   refine aj.bif (fun h1=> ?_) (fun h1=>aj.const _ (GL.self () rfl (step fun h=>by rw[h]at h1;simp at h1)))
   refine aj.bif (fun h2=> ?_) (fun h2=>aj.const _ (GL.self () rfl (step fun _ h=>by rw[h]at h2;simp at h2)))
   refine aj.pX (Rx r (i:Int) (by unfold m6;omega)) fun z hz=>aj.bif (fun h3=>aj.const _ (GL.ret (GP.no fun hP=>by
    rw[hz.2 (hr.2 (hP.or i n hx (by simpa using h1) (by simpa using h2)))]at h3;cases h3))) (fun h3=>aj.const _ (GL.self () rfl (step fun _ _=>hr.1 (hz.1 (by simpa using h3)))))
  ·simp only[ga,Int.lt_irrefl,decide_false,cond_false]
   exact aj.const _ (GE.ret (GP.yes ⟨hf,hn,fun a p hp=>inv a p (List.getElem?_eq_some_iff.1 hp).1 hp,fun i n hn=>inv2 i n (List.getElem?_eq_some_iff.1 hn).1 hn⟩))
end Go.Proofs.YtmmgfgfkkpeedaaGreat

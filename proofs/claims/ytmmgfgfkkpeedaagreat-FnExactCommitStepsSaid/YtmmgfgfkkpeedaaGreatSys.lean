/- The tables, the residual functions and lemmas of this seat: parts of the proof of the law; conditions: those that each names. -/
import Derived.Test.YtmmgfgfkkpeedaaGreatDk0
set_option linter.unusedVariables false
set_option linter.unusedSimpArgs false
set_option maxRecDepth 100000
namespace Go.Proofs.YtmmgfgfkkpeedaaGreat
open Go.Eng
abbrev GN:=Int×Int×Int
abbrev GV:=Int×Int×List Int
abbrev Kg:=GV×List GN
abbrev EH:=jB×List Kg
def Rd(c:GV):Prop:=(∀(i:Nat) g,c.2.2[i]? =some g→(0≤g∧g≤3)∧∀p,0<i→c.2.2[i-1]? =some p→p<g)∧(0≤c.1∧c.1≤3)∧(0≤c.2.1∧c.2.1≤3)
def XK(c:GV)(i:Nat)(g:Int):Prop:=(0≤g∧g≤3)∧∀p,0<i→c.2.2[i-1]? =some p→p<g
theorem MF{L:Nat→((Unit×(List Int×(Int×(Int×GV))))→Option Bool)→(Unit×(List Int×(Int×(Int×GV))))→Option Bool}{user:Nat→Int→Option Bool}(hu:∀a,Ev (fun k=>user k a) (decide (0≤a∧a≤3)))(c:GV)(hl:c.2.2.length<4611686018427387904)
  (hs:∀k self (i:Nat) g,c.2.2[i]? =some g→i<c.2.2.length→aa .i64 ((i:Int)+1)=((i+1:Nat):Int)→L k self ((),c.2.2,(c.2.2.length:Int),(i:Int),c)=(user k g).bind fun v1=>bif !v1 then some false else(bif (decide ((0:Int)<(i:Int)))then(if 0≤(aa .i64 ((i:Int)-(1:Int)))then(c.2.2[(aa .i64 ((i:Int)-(1:Int))).toNat]?).bind fun v2=>bif (decide (g≤v2))then some false else self ((),c.2.2,(c.2.2.length:Int),((i+1:Nat):Int),c)else none)else self ((),c.2.2,(c.2.2.length:Int),((i+1:Nat):Int),c)))
  (he:∀k self,L k self ((),c.2.2,(c.2.2.length:Int),(c.2.2.length:Int),c)=(user k c.1).bind fun v3=>bif v3 then(user k c.2.1).bind fun v4=>some v4 else some false):cA (fun k=>iter k (L k) ((),c.2.2,(c.2.2.length:Int),(0:Int),c)) (Rd c):=by
 refine cA.of ?_
 refine aj.list (L:=fun k _=>L k) c.2.2 (fun(_:Unit) i=>((),c.2.2,(c.2.2.length:Int),(i:Int),c)) (fun _ i=>∀(j:Nat) g,j<i→c.2.2[j]? =some g→XK c j g) (fun _ i g hx hi inv=> ?_) (fun _ inv=> ?_) () (by simp)
 ·refine aj.congr (fun k p=>hs k _ i g hx hi (by rw[aR (by omega) (by omega)];omega)) ?_
  refine aj.bind (hu g) (aj.bif (fun h1=>aj.const _ (GL.ret (GP.no fun hP=> ?_))) (fun h1=> ?_))
  ·have:=(hP.1 i g hx).1
   simp[this]at h1
  have h1:0≤g∧g≤3:=by simpa using h1
  refine aj.bif (fun h2=> ?_) (fun h2=> ?_)
  ·have h2:0<i:=by have:=of_decide_eq_true h2;omega
   have w:aa .i64 ((i:Int)-1)=((i-1:Nat):Int):=by rw[aR (by omega) (by omega)];omega
   have hp:c.2.2[i-1]? =some (c.2.2[i-1]'(by omega)):=List.getElem?_eq_getElem (by omega)
   simp only[w,Int.natCast_nonneg,if_true,Int.toNat_natCast,hp,Option.bind_some]
   refine aj.bif (fun h3=>aj.const _ (GL.ret (GP.no fun hP=> ?_))) (fun h3=>aj.const _ (GL.self () rfl fun j g' hj hg=> ?_))
   ·have:=(hP.1 i g hx).2 _ h2 hp
    have:=of_decide_eq_true h3
    omega
   ·by_cases e:j=i
    ·subst e;rw[hx]at hg;cases hg
     refine⟨h1,fun p _ hp'=> ?_⟩
     rw[hp]at hp';cases hp'
     have:=of_decide_eq_false h3
     omega
    ·exact inv j g' (by omega) hg
  ·have h2:i=0:=by have:=of_decide_eq_false h2;omega
   refine aj.const _ (GL.self () rfl fun j g' hj hg=> ?_)
   by_cases e:j=i
   ·subst e;rw[hx]at hg;cases hg
    exact⟨h1,fun p h0=>by omega⟩
   ·exact inv j g' (by omega) hg
 ·refine aj.congr (fun k p=>he k _) ?_
  refine aj.bind (hu c.1) (aj.bif (fun h1=> ?_) (fun h1=>aj.const _ (GE.ret (GP.no fun hP=> ?_))))
  ·refine aj.bind (hu c.2.1) (aj.const _ (GE.ret (GP.ret ?_)))
   rw[decide_eq_true_eq]
   exact⟨fun h=>⟨fun i g hg=>inv i g (List.getElem?_eq_some_iff.1 hg).1 hg,of_decide_eq_true h1,h⟩,fun h=>h.2.2⟩
  ·simp[hP.2.1]at h1
theorem Il(c:GV)(hl:c.2.2.length<4611686018427387904):cA (fun k=>s9 k c) (Rd c):=by
 refine cA.run (fun k=>Ia k c) ?_
 simp only[GQ]
 exact MF (L:=mn) Ad c hl (fun k self i g hx hi hw=>by
  simp only[mn,Int.ofNat_lt,hi,decide_true,cond_true,Int.natCast_nonneg,if_true,Int.toNat_natCast,hx,Option.bind_some,hw]) (fun k self=>by
  simp only[mn,Int.lt_irrefl,decide_false,cond_false])
theorem H6(c:GV)(hl:c.2.2.length<4611686018427387904):cA (fun k=>tv k c) (Rd c):=by
 refine cA.run (fun k=>Ih k c) ?_
 simp only[HM]
 exact MF (L:=lW) CJ c hl (fun k self i g hx hi hw=>by
  simp only[lW,Int.ofNat_lt,hi,decide_true,cond_true,Int.natCast_nonneg,if_true,Int.toNat_natCast,hx,Option.bind_some,hw]) (fun k self=>by
  simp only[lW,Int.lt_irrefl,decide_false,cond_false])
def Ka(f:jB)(o:GN):Prop:=o=(0,0,0)∨(1≤o.2.2∧o.2.2≤63)∧intBits .and .i64 o.2.2 6≠0∧(0≤o.1∧o.1≤19)∧(∃n,(fI f)[o.1.toNat]? =some n∧n.1=1)∧0≤o.2.1∧o.2.1≤1000000
theorem Gx(o:GN):((o.1==(0:Int))&&((o.2.1==(0:Int))&&(o.2.2==(0:Int))))=true↔o=(0,0,0):=by
 rw[Bool.and_eq_true,Bool.and_eq_true,beq_iff_eq,beq_iff_eq,beq_iff_eq]
 exact⟨fun h=>Prod.ext h.1 (Prod.ext h.2.1 h.2.2),fun h=>by subst h;exact⟨rfl,rfl,rfl⟩⟩
theorem kinds{f:jB}(h:Fa f){i:Nat}{n:aN}(hn:(fI f)[i]? =some n):n.1=0∨n.1=1∨n.1=2:=by
 rcases h.ino i n hn with e|e
 ·left;rw[e];rfl
 ·exact .inr e.1
theorem Lt{f:jB}(h:Fa f)(o:GN):cA (fun k=>qV k (f,o)) (Ka f o):=by
 refine cA.run (fun k=>Fk k f o) (cA.of ?_)
 simp only[EA]
 refine aj.bif (fun h1=> ?_) (fun h1=> ?_)
 ·have h1:o.2.2=0:=by simpa using h1
  refine aj.const _ (GP.ret ((Gx o).trans ⟨.inl,fun hP=>hP.resolve_right fun hP=>by have:=hP.1;omega⟩))
 have h1:o.2.2≠0:=by simpa using h1
 have hz:o≠(0,0,0):=fun e=>h1 (by rw[e])
 refine aj.bind (bH _ _ _) (aj.bif (fun h2=> ?_) (fun h2=>aj.const _ (GP.no fun hP=>by
  have:=(hP.resolve_left hz).1
  simp[this]at h2)))
 have h2:=of_decide_eq_true h2
 refine aj.bif (fun h3=> ?_) (fun h3=>aj.const _ (GP.no fun hP=>by
  have:=(hP.resolve_left hz).2.1
  simp[this]at h3))
 have h3:intBits .and .i64 o.2.2 6≠0:=by simpa using h3
 refine aj.bind (bH _ _ _) (aj.bif (fun h4=> ?_) (fun h4=>aj.const _ (GP.no fun hP=>by
  have:=(hP.resolve_left hz).2.2.1
  simp[this]at h4)))
 have h4:=of_decide_eq_true h4
 have hi:(fI f)[o.1.toNat]? =some ((fI f)[o.1.toNat]'(by have:=h.ni;omega)):=List.getElem?_eq_getElem (by have:=h.ni;omega)
 simp only[h4.1,if_true,hi,Option.bind_some]
 refine aj.bif (fun h5=> ?_) (fun h5=>aj.const _ (GP.no fun hP=>by
  obtain⟨n,hn,hk⟩:=(hP.resolve_left hz).2.2.2.1
  rw[hi]at hn;cases hn
  rw[hk]at h5;simp at h5))
 have h5:((fI f)[o.1.toNat]'(by have:=h.ni;omega)).1=1:=by simpa using h5
 refine aj.bind (bH _ _ _) (aj.const _ (GP.ret ?_))
 rw[decide_eq_true_eq]
 exact⟨fun h6=> .inr ⟨h2,h3,h4,⟨_,hi,h5⟩,h6⟩,fun hP=>(hP.resolve_left hz).2.2.2.2⟩
def XU(f:jB)(i:Int):Prop:=(0≤i∧i≤19)∧∃n,(fI f)[i.toNat]? =some n∧n.1≠0
theorem RX{f:jB}(h:Fa f)(i:Int):cA (fun k=>oc k (some f,i)) (XU f i):=by
 refine cA.run (fun k=>HU k _ _) (cA.of ?_)
 simp only[GA]
 refine aj.bif (fun h1=> ?_) (fun h1=>aj.const _ (GP.no fun hP=>of_decide_eq_false h1 hP.1.1))
 refine aj.bif (fun h2=> ?_) (fun h2=>aj.const _ (GP.no fun hP=>of_decide_eq_false h2 (by have:=hP.1;omega)))
 have h1:=of_decide_eq_true h1
 have h2:=of_decide_eq_true h2
 have hi:(fI f)[i.toNat]? =some ((fI f)[i.toNat]'(by have:=h.ni;omega)):=List.getElem?_eq_getElem (by have:=h.ni;omega)
 simp only[h1,Option.bind_some,if_true,hi]
 refine aj.const _ (GP.ret ?_)
 rw[bne_iff_ne]
 exact⟨fun hk=>⟨⟨h1,by omega⟩,_,hi,hk⟩,fun⟨_,n,hn,hk⟩=>by rw[hi]at hn;cases hn;exact hk⟩
theorem SH{f:jB}(h:Fa f){i:Int}{n:aN}(h1:0≤i∧i≤19)(hn:(fI f)[i.toNat]? =some n)(h0:n.1≠0):Ev (fun k=>px k (some f,i)) (n.1==2):=by
 refine au.run (fun k=>DD k _ _) ?_
 simp only[A9]
 refine au.bind (ya (RX h i) ⟨h1,n,hn,h0⟩) ?_
 simp only[cond_true,Option.bind_some,h1.1,if_true,hn]
 exact au.const _
def xN(s:EH)(i:Int):Prop:=∃(a b:Nat) (p:Kg) (o:GN),s.2[a]? =some p∧p.2[b]? =some o∧o.2.2≠0∧o.1=i
def Us(s:EH):Prop:=s.2.length<4611686018427387904∧∀p∈s.2,p.2.length<4611686018427387904∧p.1.2.2.length<4611686018427387904
theorem Qm{s:EH}(hl:Us s)(i:Int):cA (fun k=>je k (some s,i)) (xN s i):=by
 refine cA.run (fun k=>vO k _ _) (cA.of ?_)
 simp only[qG,Option.bind_some]
 refine aj.list (L:=fun k _=>eS k) s.2 (fun(_:Unit) a=>(i,s.2,(s.2.length:Int),(a:Int))) (fun _ a=>∀(a' b:Nat) p o,a'<a→s.2[a']? =some p→p.2[b]? =some o→¬(o.2.2≠0∧o.1=i)) (fun _ a p hx ha inv=> ?_) (fun _ inv=> ?_) () (by simp)
 ·have hpl:=(hl.2 p (List.mem_of_getElem? hx)).1
  have hsl:=hl.1
  simp only[eS,Int.ofNat_lt,ha,decide_true,cond_true,Int.natCast_nonneg,if_true,Int.toNat_natCast,hx,Option.bind_some]
  refine aj.list (L:=fun k (p:Unit×(_→Option Bool))=>eT k p.2) p.2 (fun(_:Unit) b=>(i,s.2,(s.2.length:Int),(a:Int),p.2,(p.2.length:Int),(b:Int))) (fun _ b=>∀(b':Nat) o,b'<b→p.2[b']? =some o→¬(o.2.2≠0∧o.1=i)) (fun _ b o hb hbl inv2=> ?_) (fun _ inv2=> ?_) () (by simp)
  ·have hw:aa .i64 ((b:Int)+1)=((b+1:Nat):Int):=by rw[aR (by omega) (by omega)];omega
   have step:¬(o.2.2≠0∧o.1=i)→∀(b':Nat) o',b'<b+1→p.2[b']? =some o'→¬(o'.2.2≠0∧o'.1=i):=fun hno b' o' hb' ho'=>by
    by_cases e:b'=b
    ·subst e;rw[hb]at ho';cases ho';exact hno
    ·exact inv2 b' o' (by omega) ho'
   simp only[eT,Int.ofNat_lt,hbl,decide_true,cond_true,Int.natCast_nonneg,if_true,Int.toNat_natCast,hb,Option.bind_some,hw]
   refine aj.bif (fun h1=> ?_) (fun h1=> ?_)
   ·have h1:o.2.2≠0:=by simpa using h1
    refine aj.bif (fun h2=> ?_) (fun h2=> ?_)
    ·have h2:o.1=i:=by simpa using h2
     exact aj.const _ (GL.ret (GL.ret (GP.yes ⟨a,b,p,o,hx,hb,h1,h2⟩)))
    ·have h2:¬o.1=i:=by simpa using h2
     exact aj.const _ (GL.self () rfl (step fun h=>h2 h.2))
   ·have h1:o.2.2=0:=by simpa using h1
    exact aj.const _ (GL.self () rfl (step fun h=>h.1 h1))
  ·have hw:aa .i64 ((a:Int)+1)=((a+1:Nat):Int):=by rw[aR (by omega) (by omega)];omega
   simp only[eT,Int.lt_irrefl,decide_false,cond_false,hw]
   refine aj.const _ (GE.up (S:=Unit×(_→Option Bool)) (fun p=>p.2 (i,s.2,(s.2.length:Int),((a+1:Nat):Int))) ?_)
   refine GL.self () rfl fun a' b p' o ha' hp' ho=> ?_
   by_cases e:a'=a
   ·subst e;rw[hx]at hp';cases hp'
    exact inv2 b o (List.getElem?_eq_some_iff.1 ho).1 ho
   ·exact inv a' b p' o (by omega) hp' ho
 ·simp only[eS,Int.lt_irrefl,decide_false,cond_false]
  refine aj.const _ (GE.ret (GP.no fun⟨a,b,p,o,h1,h2,h3,h4⟩=> ?_))
  exact inv a b p o (List.getElem?_eq_some_iff.1 h1).1 h1 h2 ⟨h3,h4⟩
end Go.Proofs.YtmmgfgfkkpeedaaGreat

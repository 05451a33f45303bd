/- The tables, the residual functions and lemmas of this seat: parts of the proof of the law; conditions: those that each names. -/
import Derived.Test.YtmmgfgfkkpeedaaGreatIno
set_option linter.unusedVariables false
set_option linter.unusedSimpArgs false
set_option maxRecDepth 100000
namespace Go.Proofs.YtmmgfgfkkpeedaaGreat
open Go.Eng
def lM(n:Int):Int:=if n≤0 then 0 else(n-1) / 32+1
theorem oC(n:Int)(h:n≤4611686018427387904):Ev (fun k=>fM k n) (lM n):=by
 refine au.run (fun k=>xq k n) ?_
 simp only[rQ]
 by_cases h0:n≤0
 ·simp[h0,lM];exact au.const _
 ·have e1:aa .i64 (n-1)=n-1:=aR (by omega) (by omega)
  have e2:(n-1).tdiv 32=(n-1) / 32:=Int.tdiv_eq_ediv_of_nonneg (by omega)
  have e3:aa .i64 ((n-1) / 32)=(n-1) / 32:=aR (by omega) (by omega)
  have e4:aa .i64 ((n-1) / 32+1)=(n-1) / 32+1:=aR (by omega) (by omega)
  simp only[h0,decide_false,cond_false,e1,e2,e3,e4,lM,if_false,ne_eq,show ¬((32:Int)=0)by decide,not_false_eq_true,if_true]
  exact au.const _
theorem jk(n:Int)(h:n≤4611686018427387904):Ev (fun k=>di k n) (lM n):=by
 refine au.run (fun k=>xC k n) ?_
 simp only[rO]
 by_cases h0:n≤0
 ·simp[h0,lM];exact au.const _
 ·have e1:aa .i64 (n-1)=n-1:=aR (by omega) (by omega)
  have e2:(n-1).tdiv 32=(n-1) / 32:=Int.tdiv_eq_ediv_of_nonneg (by omega)
  have e3:aa .i64 ((n-1) / 32)=(n-1) / 32:=aR (by omega) (by omega)
  have e4:aa .i64 ((n-1) / 32+1)=(n-1) / 32+1:=aR (by omega) (by omega)
  simp only[h0,decide_false,cond_false,e1,e2,e3,e4,lM,if_false,ne_eq,show ¬((32:Int)=0)by decide,not_false_eq_true,if_true]
  exact au.const _
def Kd:aN:=(0,0,0,0,0,0,0,[],[],[])
def Ns(l:List Int)(i:Nat)(b:Int):Prop:=b≠ -1→0≤b∧b≤999∧b∉l.take i
def TU(l:List Int):Prop:=∀i b,l[i]? =some b→Ns l i b
abbrev bK(x:aN):List Int:=x.2.2.2.2.2.2.2.1
abbrev FE(x:aN):List dK:=x.2.2.2.2.2.2.2.2.1
abbrev FN(x:aN):List dK:=x.2.2.2.2.2.2.2.2.2
abbrev Ts(x:aN):Int:=x.2.2.1
abbrev l6(x:aN):Int:=x.2.2.2.2.2.1
def Ww(x:aN):Prop:=x.1=2∨FN x=[]∧intBits .and .i64 x.2.1 512=0
def Q9(x:aN):Prop:=(0≤x.2.1∧x.2.1≤2047)∧(0≤x.2.2.1∧x.2.2.1≤3)∧(0≤x.2.2.2.1∧x.2.2.2.1≤3)∧(0≤x.2.2.2.2.1∧x.2.2.2.2.1≤1000)∧(0≤x.2.2.2.2.2.1∧x.2.2.2.2.2.1≤256)∧
 (0≤x.2.2.2.2.2.2.1∧x.2.2.2.2.2.2.1≤1000000000)∧((bK x).length:Int)=lM (l6 x)
def yV(x:aN):Prop:=(x.1=1∨x.1=2)∧Q9 x∧yb (FE x)∧yb (FN x)∧TU (bK x)∧Ww x
def cN(x:aN):Prop:=x=Kd∨yV x
theorem not_zero{x:aN}(h:x.1≠0):¬(x=Kd):=fun e=>h (by rw[e];rfl)
theorem nb{x:aN}(h:x.1≠0):cN x↔yV x:=⟨fun h'=>h'.resolve_left (not_zero h),.inr⟩
theorem Ku{x:aN}(h:x.1=0):cN x↔x=Kd:=⟨fun h'=>h'.resolve_right fun h2=>by have:=h2.1;omega,.inl⟩
theorem nF(x:aN)(hs:gV x):cA (fun k=>l9 k x) (cN x):=by
 refine cA.run (fun k=>Gs k x) (cA.of ?_)
 simp only[Du]
 refine aj.oO ((),x) (x.1=1∨x.1=2) ?_ fun hk=> ?_
 ·refine aj.bif (fun h=> ?_) (fun h=> ?_)
  ·simp only[beq_iff_eq]at h
   refine aj.pX (ru x _ hs) fun b hb=> ?_
   simp only[Option.map_some]
   exact aj.const _ (GT.inr (GP.ret (hb.trans (Ku h).symm)))
  simp at h
  refine aj.bif (fun h1=> ?_) (fun h1=> ?_)
  ·refine aj.bif (fun h2=>aj.const _ (GT.inl (.inl (by simpa using h1)))) (fun h2=> ?_)
   rw[h1]at h2;cases h2
  ·refine aj.bif (fun h2=>aj.const _ (GT.inl (.inr (by simpa using h2)))) (fun h2=> ?_)
   simp only[Option.map_some]
   refine aj.const _ (GT.inr (GP.no fun hP=> ?_))
   have:=((nb h).1 hP).1
   simp at h1 h2;omega
 dsimp only
 have hn:x.1≠0:=by omega
 have no:∀{S:Type},¬yV x→GP (S:=S) (cN x) fun _=>some false:=fun h=>GP.no fun h'=>h ((nb hn).1 h')
 refine aj.bind (SI _) (aj.bif (fun h=>aj.const _ (no fun hP=> ?_)) (fun h1=> ?_))
 ·have:=hP.2.1.1;simp at h;omega
 refine aj.bind (Ad _) (aj.bif (fun h=>aj.const _ (no fun hP=> ?_)) (fun h2=> ?_))
 ·have:=hP.2.1.2.1;simp at h;omega
 refine aj.bind (Ad _) (aj.bif (fun h=>aj.const _ (no fun hP=> ?_)) (fun h3=> ?_))
 ·have:=hP.2.1.2.2.1;simp at h;omega
 refine aj.bif (fun h=>aj.const _ (no fun hP=> ?_)) (fun h4=> ?_)
 ·have:=hP.2.1.2.2.2.1;simp at h;omega
 refine aj.bif (fun h=>aj.const _ (no fun hP=> ?_)) (fun h5=> ?_)
 ·have:=hP.2.1.2.2.2.1;simp at h;omega
 refine aj.bif (fun h=>aj.const _ (no fun hP=> ?_)) (fun h6=> ?_)
 ·have:=hP.2.1.2.2.2.2.1;simp at h;omega
 refine aj.bif (fun h=>aj.const _ (no fun hP=> ?_)) (fun h7=> ?_)
 ·have:=hP.2.1.2.2.2.2.1;simp at h;omega
 refine aj.bif (fun h=>aj.const _ (no fun hP=> ?_)) (fun h8=> ?_)
 ·have:=hP.2.1.2.2.2.2.2.1;simp at h;omega
 refine aj.bif (fun h=>aj.const _ (no fun hP=> ?_)) (fun h9=> ?_)
 ·have:=hP.2.1.2.2.2.2.2.1;simp at h;omega
 simp at h1 h2 h3 h4 h5 h6 h7 h8 h9
 refine aj.bind (oC _ (by omega)) (aj.bif (fun h=>aj.const _ (no fun hP=> ?_)) (fun h10=> ?_))
 ·have:=hP.2.1.2.2.2.2.2.2;simp at h;exact h this
 simp at h10
 refine aj.pX (mI _) fun b1 e1=>aj.bif (fun h=>aj.const _ (no fun hP=> ?_)) (fun h11=> ?_)
 ·have:=e1.2 hP.2.2.1;rw[this]at h;cases h
 refine aj.pX (mI _) fun b2 e2=>aj.bif (fun h=>aj.const _ (no fun hP=> ?_)) (fun h12=> ?_)
 ·have:=e2.2 hP.2.2.2.1;rw[this]at h;cases h
 have a1:=e1.1 (by simpa using h11)
 have a2:=e2.1 (by simpa using h12)
 have hh:Q9 x:=⟨⟨h1.1,h1.2⟩,⟨h2.1,h2.2⟩,⟨h3.1,h3.2⟩,⟨by omega,by omega⟩,⟨by omega,by omega⟩,⟨by omega,by omega⟩,h10⟩
 have hlen:(bK x).length<4611686018427387904:=hs.1
 refine aj.list (L:=fun k _=>kX k) (bK x) (fun(_:Unit) i=>((),bK x,((bK x).length:Int),(i:Int),x)) (fun _ i=>∀j b,j<i→(bK x)[j]? =some b→Ns (bK x) j b) (fun _ i b hx hi inv=> ?_) (fun _ inv=> ?_) () (by simp)
 ·have hw:aa .i64 ((i:Int)+1)=((i+1:Nat):Int):=by rw[aR (by omega) (by omega)];omega
  have hle:(i:Int)≤((bK x).length:Int):=by omega
  simp only[kX,Int.ofNat_lt,hi,decide_true,cond_true,Int.natCast_nonneg,if_true,Int.toNat_natCast,hx,Option.bind_some,hw,hle,List.drop_zero]
  have next:Ns (bK x) i b→∀j c,j<i+1→(bK x)[j]? =some c→Ns (bK x) j c:=fun ho j c hj hje=>by
   by_cases hji:j=i
   ·subst hji;rw[hx]at hje;cases hje;exact ho
   ·exact inv j c (by omega) hje
  have bad:¬Ns (bK x) i b→¬yV x:=fun h hP=>h (hP.2.2.2.2.1 i b hx)
  refine aj.bif (fun h13=> ?_) (fun h13=> ?_)
  ·simp at h13
   refine aj.bif (fun h=>aj.const _ (GL.ret (no (bad fun hb=> ?_)))) (fun h14=> ?_)
   ·have:=hb h13;simp at h;omega
   refine aj.bif (fun h=>aj.const _ (GL.ret (no (bad fun hb=> ?_)))) (fun h15=> ?_)
   ·have:=hb h13;simp at h;omega
   refine aj.pX (Nt _ _ (by rw[List.length_take];unfold m6;omega)) fun c hc=>aj.bif (fun h=>aj.const _ (GL.ret (no (bad fun hb=> ?_)))) (fun h16=> ?_)
   ·exact(hb h13).2.2 (hc.1 h)
   ·refine aj.const _ (GL.self () rfl (next fun _=> ?_))
    simp at h14 h15
    exact⟨by omega,by omega,fun h=>by rw[hc.2 h]at h16;cases h16⟩
  ·simp at h13
   exact aj.const _ (GL.self () rfl (next fun h=>absurd h13 h))
 ·have hall:TU (bK x):=fun i b hb=>inv i b (List.getElem?_eq_some_iff.1 hb).1 hb
  simp only[kX,Int.lt_irrefl,decide_false,cond_false]
  have fin:∀b:Bool,(b=true↔Ww x)→(b=true↔cN x):=fun b hb=>hb.trans ⟨fun h=>(nb hn).2 ⟨hk,hh,a1,a2,hall,h⟩,fun h=>((nb hn).1 h).2.2.2.2.2⟩
  refine aj.bif (fun h=> ?_) (fun h13=> ?_)
  ·simp at h
   exact aj.const _ (GE.ret (GP.ret (fin _ ⟨fun _=> .inl h,fun _=>rfl⟩)))
  simp at h13
  refine aj.bif (fun h=> ?_) (fun h14=> ?_)
  ·simp at h
   refine aj.const _ (GE.ret (GP.ret (fin _ ?_)))
   rw[beq_iff_eq]
   exact⟨fun h2=> .inr ⟨h,h2⟩,fun h2=>(h2.resolve_left h13).2⟩
  ·simp at h14
   refine aj.const _ (GE.ret (GP.ret (fin _ (by simp;intro h;exact h14 (h.resolve_left h13).1))))
theorem LJ{x:aN}{S:Type}{G:(S→Option Bool)→Prop}(no:¬yV x→G fun _=>some false)(hk:x.1=1∨x.1=2):
  aj (fun k (_:S)=>(ju k x.2.1).bind fun y3=>
   (bif (!y3)then(some (.inr false):Option ((Unit×aN)⊕ Bool))else(cu k x.2.2.1).bind fun y4=>
   (bif (!y4)then(some (.inr false))else(cu k x.2.2.2.1).bind fun y5=>
   (bif (!y5)then(some (.inr false))else(aE k (x.2.2.2.2.1,(0:Int),(1000:Int))).bind fun y6=>
   (bif (!y6)then(some (.inr false))else(aE k (x.2.2.2.2.2.1,(0:Int),(256:Int))).bind fun y7=>
   (bif (!y7)then(some (.inr false))else(aE k (x.2.2.2.2.2.2.1,(0:Int),(1000000000:Int))).bind fun y8=>
   (bif (!y8)then(some (.inr false))else(di k x.2.2.2.2.2.1).bind fun y9=>
   (bif ((x.2.2.2.2.2.2.2.1.length:Int) != y9)then(some (.inr false))else some (.inl ((),x)))))))))) (GT ((),x) ((x.1=1∨x.1=2)∧Q9 x) G):=by
 refine aj.bind (Qe _) (aj.bif (fun h=>aj.const _ (GT.inr (no fun hP=> ?_))) (fun h1=> ?_))
 ·have:=hP.2.1.1;simp at h;omega
 refine aj.bind (CJ _) (aj.bif (fun h=>aj.const _ (GT.inr (no fun hP=> ?_))) (fun h2=> ?_))
 ·have:=hP.2.1.2.1;simp at h;omega
 refine aj.bind (CJ _) (aj.bif (fun h=>aj.const _ (GT.inr (no fun hP=> ?_))) (fun h3=> ?_))
 ·have:=hP.2.1.2.2.1;simp at h;omega
 refine aj.bind (bH _ _ _) (aj.bif (fun h=>aj.const _ (GT.inr (no fun hP=> ?_))) (fun h4=> ?_))
 ·have:=hP.2.1.2.2.2.1;simp at h;omega
 refine aj.bind (bH _ _ _) (aj.bif (fun h=>aj.const _ (GT.inr (no fun hP=> ?_))) (fun h5=> ?_))
 ·have:=hP.2.1.2.2.2.2.1;simp at h;omega
 refine aj.bind (bH _ _ _) (aj.bif (fun h=>aj.const _ (GT.inr (no fun hP=> ?_))) (fun h6=> ?_))
 ·have:=hP.2.1.2.2.2.2.2.1;simp at h;omega
 simp at h1 h2 h3 h4 h5 h6
 refine aj.bind (jk _ (by omega)) (aj.bif (fun h=>aj.const _ (GT.inr (no fun hP=> ?_))) (fun h7=> ?_))
 ·have:=hP.2.1.2.2.2.2.2.2;simp at h;exact h this
 simp at h7
 exact aj.const _ (GT.inl ⟨hk,h1,h2,h3,h4,h5,h6,h7⟩)
theorem nr(x:aN)(hs:gV x):cA (fun k=>mR k x) (cN x):=by
 refine cA.run (fun k=>FI k x) (cA.of ?_)
 simp only[EW]
 refine aj.bif (fun h=> ?_) (fun h=> ?_)
 ·simp only[beq_iff_eq]at h
  refine aj.pX (qB x _ hs) fun b hb=> ?_
  exact aj.const _ (GP.ret (hb.trans (Ku h).symm))
 simp at h
 have no:∀{S:Type},¬yV x→GP (S:=S) (cN x) fun _=>some false:=fun h'=>GP.no fun h2=>h' ((nb h).1 h2)
 refine aj.oO ((),x) ((x.1=1∨x.1=2)∧Q9 x) ?_ fun hk=> ?_
 ·rcases Decidable.em (x.1=1)with t|t
  rotate_left
  ·rcases Decidable.em (x.1=2)with t2|t2
   rotate_left
   ·have b1:(x.1 != 1)=true:=by simpa using t
    have b2:(x.1 != 2)=true:=by simpa using t2
    simp only[b1,b2,cond_true,Option.map_some]
    exact aj.const _ (GT.inr (no fun hP=>by have:=hP.1;omega))
   have b1:(x.1 != 1)=true:=by rw[t2];rfl
   have b2:(x.1 != 2)=false:=by rw[t2];rfl
   simp only[b1,b2,cond_true,cond_false,Option.map_some]
   exact LJ (no) (.inr t2)
  have b1:(x.1 != 1)=false:=by rw[t];rfl
  simp only[b1,cond_false,Option.map_some]
  exact LJ (no) (.inl t)
 dsimp only
 have hlen:(bK x).length<4611686018427387904:=hs.1
 refine aj.list (L:=fun k _=>kP k) (bK x) (fun(_:Unit) i=>((),bK x,((bK x).length:Int),(i:Int),x)) (fun _ i=>∀j b,j<i→(bK x)[j]? =some b→Ns (bK x) j b) (fun _ i b hx hi inv=> ?_) (fun _ inv=> ?_) () (by simp)
 ·have hw:aa .i64 ((i:Int)+1)=((i+1:Nat):Int):=by rw[aR (by omega) (by omega)];omega
  have hle:(i:Int)≤((bK x).length:Int):=by omega
  simp only[kP,Int.ofNat_lt,hi,decide_true,cond_true,Int.natCast_nonneg,if_true,Int.toNat_natCast,hx,Option.bind_some,hw,hle,List.drop_zero]
  have next:Ns (bK x) i b→∀j c,j<i+1→(bK x)[j]? =some c→Ns (bK x) j c:=fun ho j c hj hje=>by
   by_cases hji:j=i
   ·subst hji;rw[hx]at hje;cases hje;exact ho
   ·exact inv j c (by omega) hje
  have bad:¬Ns (bK x) i b→¬yV x:=fun h hP=>h (hP.2.2.2.2.1 i b hx)
  refine aj.bind (bH _ _ _) (aj.bif (fun h=>aj.const _ (GL.ret (no (bad fun hb=> ?_)))) (fun h12=> ?_))
  ·simp at h
   by_cases hb1:b= -1
   ·omega
   ·have:=hb hb1;omega
  simp at h12
  refine aj.bif (fun h13=> ?_) (fun h13=> ?_)
  ·simp at h13
   refine aj.pX (Rx _ _ (by rw[List.length_take];unfold m6;omega)) fun c hc=>aj.bif (fun h=>aj.const _ (GL.ret (no (bad fun hb=> ?_)))) (fun h16=> ?_)
   ·exact(hb h13).2.2 (hc.1 h)
   ·refine aj.const _ (GL.self () rfl (next fun _=> ?_))
    exact⟨by omega,by omega,fun h=>by rw[hc.2 h]at h16;cases h16⟩
  ·simp at h13
   exact aj.const _ (GL.self () rfl (next fun h=>absurd h13 h))
 ·have hall:TU (bK x):=fun i b hb=>inv i b (List.getElem?_eq_some_iff.1 hb).1 hb
  simp only[kP,Int.lt_irrefl,decide_false,cond_false]
  refine aj.oO ((),x) (Ww x) ?_ fun hf=> ?_
  ·refine aj.bif (fun h1=> ?_) (fun h1=> ?_)
   ·simp at h1
    refine aj.bif (fun h2=> ?_) (fun h2=> ?_)
    ·refine aj.const _ (GT.inr (GE.ret (no fun hP=> ?_)))
     rcases hP.2.2.2.2.2 with h3|h3
     ·omega
     ·have h4:FN x=[]:=h3.1
      simp only[h4]at h2;simp at h2
    simp at h2
    refine aj.bif (fun h3=> ?_) (fun h3=> ?_)
    ·refine aj.const _ (GT.inr (GE.ret (no fun hP=> ?_)))
     rcases hP.2.2.2.2.2 with h4|h4
     ·omega
     ·rw[h4.2]at h3;simp at h3
    ·simp at h3
     exact aj.const _ (GT.inl (.inr ⟨h2,h3⟩))
   ·simp at h1
    exact aj.const _ (GT.inl (.inl (hk.1.resolve_left h1)))
  dsimp only
  refine aj.pX (mU _ hs.2.1) fun b1 e1=>aj.bif (fun h11=> ?_) (fun h=>aj.const _ (GE.ret (no fun hP=> ?_)))
  ·refine aj.pX (mU _ hs.2.2) fun b2 e2=>aj.const _ (GE.ret (GP.ret ?_))
   exact e2.trans ⟨fun h2=>(nb h).2 ⟨hk.1,hk.2,e1.1 h11,h2,hall,hf⟩,fun h2=>((nb h).1 h2).2.2.2.1⟩
  ·have:=e1.2 hP.2.2.1;rw[this]at h;cases h
end Go.Proofs.YtmmgfgfkkpeedaaGreat

/- The tables, the residual functions and lemmas of this seat: parts of the proof of the law; conditions: those that each names. -/
import Derived.Test.YtkdcfeopelbojaaGreatDoorIno
set_option linter.unusedVariables false
set_option linter.unusedSimpArgs false
set_option maxRecDepth 100000
namespace Go.Proofs.YtkdcfeopelbojaaGreatDoor
open Go.Eng
def qE(n:Int):Int:=if n≤0 then 0 else(n-1) / 32+1
theorem vm(n:Int)(h:n≤4611686018427387904):Ev (fun k=>iU k n) (qE n):=by
 refine ax.run (fun k=>tZ k n) ?_
 simp only[pc]
 by_cases h0:n≤0
 ·simp[h0,qE];exact ax.const _
 ·have e1:aa .i64 (n-1)=n-1:=aV (by omega) (by omega)
  have e2:(n-1).tdiv 32=(n-1) / 32:=Int.tdiv_eq_ediv_of_nonneg (by omega)
  have e3:aa .i64 ((n-1) / 32)=(n-1) / 32:=aV (by omega) (by omega)
  have e4:aa .i64 ((n-1) / 32+1)=(n-1) / 32+1:=aV (by omega) (by omega)
  simp only[h0,decide_false,cond_false,e1,e2,e3,e4,qE,if_false,ne_eq,show ¬((32:Int)=0)by decide,not_false_eq_true,if_true]
  exact ax.const _
theorem vR(n:Int)(h:n≤4611686018427387904):Ev (fun k=>dD k n) (qE n):=by
 refine ax.run (fun k=>tX k n) ?_
 simp only[pq]
 by_cases h0:n≤0
 ·simp[h0,qE];exact ax.const _
 ·have e1:aa .i64 (n-1)=n-1:=aV (by omega) (by omega)
  have e2:(n-1).tdiv 32=(n-1) / 32:=Int.tdiv_eq_ediv_of_nonneg (by omega)
  have e3:aa .i64 ((n-1) / 32)=(n-1) / 32:=aV (by omega) (by omega)
  have e4:aa .i64 ((n-1) / 32+1)=(n-1) / 32+1:=aV (by omega) (by omega)
  simp only[h0,decide_false,cond_false,e1,e2,e3,e4,qE,if_false,ne_eq,show ¬((32:Int)=0)by decide,not_false_eq_true,if_true]
  exact ax.const _
def MH:az:=(0,0,0,0,0,0,0,[],[],[])
def IZ(l:List Int)(i:Nat)(b:Int):Prop:=b≠ -1→0≤b∧b≤999∧b∉l.take i
def Ot(l:List Int):Prop:=∀i b,l[i]? =some b→IZ l i b
abbrev aK(x:az):List Int:=x.2.2.2.2.2.2.2.1
abbrev SK(x:az):List fe:=x.2.2.2.2.2.2.2.2.1
abbrev QC(x:az):List fe:=x.2.2.2.2.2.2.2.2.2
abbrev Oy(x:az):Int:=x.2.2.1
abbrev dF(x:az):Int:=x.2.2.2.2.2.1
def RW(x:az):Prop:=x.1=2∨QC x=[]∧intBits .and .i64 x.2.1 512=0
def Ms(x:az):Prop:=(0≤x.2.1∧x.2.1≤2047)∧(0≤x.2.2.1∧x.2.2.1≤3)∧(0≤x.2.2.2.1∧x.2.2.2.1≤3)∧(0≤x.2.2.2.2.1∧x.2.2.2.2.1≤1000)∧(0≤x.2.2.2.2.2.1∧x.2.2.2.2.2.1≤256)∧
 (0≤x.2.2.2.2.2.2.1∧x.2.2.2.2.2.2.1≤1000000000)∧((aK x).length:Int)=qE (dF x)
def mB(x:az):Prop:=(x.1=1∨x.1=2)∧Ms x∧BU (SK x)∧BU (QC x)∧Ot (aK x)∧RW x
def dy(x:az):Prop:=x=MH∨mB x
theorem not_zero{x:az}(h:x.1≠0):¬(x=MH):=fun e=>h (by rw[e];rfl)
theorem jV{x:az}(h:x.1≠0):dy x↔mB x:=⟨fun h'=>h'.resolve_left (not_zero h),.inr⟩
theorem El{x:az}(h:x.1=0):dy x↔x=MH:=⟨fun h'=>h'.resolve_right fun h2=>by have:=h2.1;omega,.inl⟩
theorem B1(x:az)(hs:qd x):dB (fun k=>nL k x) (dy x):=by
 refine dB.run (fun k=>Cq k x) (dB.of ?_)
 simp only[zR]
 refine ak.jd ((),x) (x.1=1∨x.1=2) ?_ fun hk=> ?_
 ·refine ak.bif (fun h=> ?_) (fun h=> ?_)
  ·simp only[beq_iff_eq]at h
   refine ak.CB (yO x _ hs) fun b hb=> ?_
   simp only[Option.map_some]
   exact ak.const _ (GT.inr (GP.ret (hb.trans (El h).symm)))
  simp at h
  refine ak.bif (fun h1=> ?_) (fun h1=> ?_)
  ·refine ak.bif (fun h2=>ak.const _ (GT.inl (.inl (by simpa using h1)))) (fun h2=> ?_)
   rw[h1]at h2;cases h2
  ·refine ak.bif (fun h2=>ak.const _ (GT.inl (.inr (by simpa using h2)))) (fun h2=> ?_)
   simp only[Option.map_some]
   refine ak.const _ (GT.inr (GP.no fun hP=> ?_))
   have:=((jV h).1 hP).1
   simp at h1 h2;omega
 dsimp only
 have hn:x.1≠0:=by omega
 have no:∀{S:Type},¬mB x→GP (S:=S) (dy x) fun _=>some false:=fun h=>GP.no fun h'=>h ((jV hn).1 h')
 refine ak.bind (wB _) (ak.bif (fun h=>ak.const _ (no fun hP=> ?_)) (fun h1=> ?_))
 ·have:=hP.2.1.1;simp at h;omega
 refine ak.bind (ez _) (ak.bif (fun h=>ak.const _ (no fun hP=> ?_)) (fun h2=> ?_))
 ·have:=hP.2.1.2.1;simp at h;omega
 refine ak.bind (ez _) (ak.bif (fun h=>ak.const _ (no fun hP=> ?_)) (fun h3=> ?_))
 ·have:=hP.2.1.2.2.1;simp at h;omega
 refine ak.bif (fun h=>ak.const _ (no fun hP=> ?_)) (fun h4=> ?_)
 ·have:=hP.2.1.2.2.2.1;simp at h;omega
 refine ak.bif (fun h=>ak.const _ (no fun hP=> ?_)) (fun h5=> ?_)
 ·have:=hP.2.1.2.2.2.1;simp at h;omega
 refine ak.bif (fun h=>ak.const _ (no fun hP=> ?_)) (fun h6=> ?_)
 ·have:=hP.2.1.2.2.2.2.1;simp at h;omega
 refine ak.bif (fun h=>ak.const _ (no fun hP=> ?_)) (fun h7=> ?_)
 ·have:=hP.2.1.2.2.2.2.1;simp at h;omega
 refine ak.bif (fun h=>ak.const _ (no fun hP=> ?_)) (fun h8=> ?_)
 ·have:=hP.2.1.2.2.2.2.2.1;simp at h;omega
 refine ak.bif (fun h=>ak.const _ (no fun hP=> ?_)) (fun h9=> ?_)
 ·have:=hP.2.1.2.2.2.2.2.1;simp at h;omega
 simp at h1 h2 h3 h4 h5 h6 h7 h8 h9
 refine ak.bind (vm _ (by omega)) (ak.bif (fun h=>ak.const _ (no fun hP=> ?_)) (fun h10=> ?_))
 ·have:=hP.2.1.2.2.2.2.2.2;simp at h;exact h this
 simp at h10
 refine ak.CB (kd _) fun b1 e1=>ak.bif (fun h=>ak.const _ (no fun hP=> ?_)) (fun h11=> ?_)
 ·have:=e1.2 hP.2.2.1;rw[this]at h;cases h
 refine ak.CB (kd _) fun b2 e2=>ak.bif (fun h=>ak.const _ (no fun hP=> ?_)) (fun h12=> ?_)
 ·have:=e2.2 hP.2.2.2.1;rw[this]at h;cases h
 have a1:=e1.1 (by simpa using h11)
 have a2:=e2.1 (by simpa using h12)
 have hh:Ms x:=⟨⟨h1.1,h1.2⟩,⟨h2.1,h2.2⟩,⟨h3.1,h3.2⟩,⟨by omega,by omega⟩,⟨by omega,by omega⟩,⟨by omega,by omega⟩,h10⟩
 have hlen:(aK x).length<4611686018427387904:=hs.1
 refine ak.list (L:=fun k _=>jw k) (aK x) (fun(_:Unit) i=>((),aK x,((aK x).length:Int),(i:Int),x)) (fun _ i=>∀j b,j<i→(aK x)[j]? =some b→IZ (aK x) j b) (fun _ i b hx hi inv=> ?_) (fun _ inv=> ?_) () (by simp)
 ·have hw:aa .i64 ((i:Int)+1)=((i+1:Nat):Int):=by rw[aV (by omega) (by omega)];omega
  have hle:(i:Int)≤((aK x).length:Int):=by omega
  simp only[jw,Int.ofNat_lt,hi,decide_true,cond_true,Int.natCast_nonneg,if_true,Int.toNat_natCast,hx,Option.bind_some,hw,hle,List.drop_zero]
  have next:IZ (aK x) i b→∀j c,j<i+1→(aK x)[j]? =some c→IZ (aK x) j c:=fun ho j c hj hje=>by
   by_cases hji:j=i
   ·subst hji;rw[hx]at hje;cases hje;exact ho
   ·exact inv j c (by omega) hje
  have bad:¬IZ (aK x) i b→¬mB x:=fun h hP=>h (hP.2.2.2.2.1 i b hx)
  refine ak.bif (fun h13=> ?_) (fun h13=> ?_)
  ·simp at h13
   refine ak.bif (fun h=>ak.const _ (GL.ret (no (bad fun hb=> ?_)))) (fun h14=> ?_)
   ·have:=hb h13;simp at h;omega
   refine ak.bif (fun h=>ak.const _ (GL.ret (no (bad fun hb=> ?_)))) (fun h15=> ?_)
   ·have:=hb h13;simp at h;omega
   refine ak.CB (A6 _ _ (by rw[List.length_take];unfold fu;omega)) fun c hc=>ak.bif (fun h=>ak.const _ (GL.ret (no (bad fun hb=> ?_)))) (fun h16=> ?_)
   ·exact(hb h13).2.2 (hc.1 h)
   ·refine ak.const _ (GL.self () rfl (next fun _=> ?_))
    simp at h14 h15
    exact⟨by omega,by omega,fun h=>by rw[hc.2 h]at h16;cases h16⟩
  ·simp at h13
   exact ak.const _ (GL.self () rfl (next fun h=>absurd h13 h))
 ·have hall:Ot (aK x):=fun i b hb=>inv i b (List.getElem?_eq_some_iff.1 hb).1 hb
  simp only[jw,Int.lt_irrefl,decide_false,cond_false]
  have fin:∀b:Bool,(b=true↔RW x)→(b=true↔dy x):=fun b hb=>hb.trans ⟨fun h=>(jV hn).2 ⟨hk,hh,a1,a2,hall,h⟩,fun h=>((jV hn).1 h).2.2.2.2.2⟩
  refine ak.bif (fun h=> ?_) (fun h13=> ?_)
  ·simp at h
   exact ak.const _ (GE.ret (GP.ret (fin _ ⟨fun _=> .inl h,fun _=>rfl⟩)))
  simp at h13
  refine ak.bif (fun h=> ?_) (fun h14=> ?_)
  ·simp at h
   refine ak.const _ (GE.ret (GP.ret (fin _ ?_)))
   rw[beq_iff_eq]
   exact⟨fun h2=> .inr ⟨h,h2⟩,fun h2=>(h2.resolve_left h13).2⟩
  ·simp at h14
   refine ak.const _ (GE.ret (GP.ret (fin _ (by simp;intro h;exact h14 (h.resolve_left h13).1))))
theorem H7{x:az}{S:Type}{G:(S→Option Bool)→Prop}(no:¬mB x→G fun _=>some false)(hk:x.1=1∨x.1=2):
  ak (fun k (_:S)=>(de k x.2.1).bind fun y3=>
   (bif (!y3)then(some (.inr false):Option ((Unit×az)⊕ Bool))else(bD k x.2.2.1).bind fun y4=>
   (bif (!y4)then(some (.inr false))else(bD k x.2.2.2.1).bind fun y5=>
   (bif (!y5)then(some (.inr false))else(aQ k (x.2.2.2.2.1,(0:Int),(1000:Int))).bind fun y6=>
   (bif (!y6)then(some (.inr false))else(aQ k (x.2.2.2.2.2.1,(0:Int),(256:Int))).bind fun y7=>
   (bif (!y7)then(some (.inr false))else(aQ k (x.2.2.2.2.2.2.1,(0:Int),(1000000000:Int))).bind fun y8=>
   (bif (!y8)then(some (.inr false))else(dD k x.2.2.2.2.2.1).bind fun y9=>
   (bif ((x.2.2.2.2.2.2.2.1.length:Int) != y9)then(some (.inr false))else some (.inl ((),x)))))))))) (GT ((),x) ((x.1=1∨x.1=2)∧Ms x) G):=by
 refine ak.bind (ll _) (ak.bif (fun h=>ak.const _ (GT.inr (no fun hP=> ?_))) (fun h1=> ?_))
 ·have:=hP.2.1.1;simp at h;omega
 refine ak.bind (dZ _) (ak.bif (fun h=>ak.const _ (GT.inr (no fun hP=> ?_))) (fun h2=> ?_))
 ·have:=hP.2.1.2.1;simp at h;omega
 refine ak.bind (dZ _) (ak.bif (fun h=>ak.const _ (GT.inr (no fun hP=> ?_))) (fun h3=> ?_))
 ·have:=hP.2.1.2.2.1;simp at h;omega
 refine ak.bind (cA _ _ _) (ak.bif (fun h=>ak.const _ (GT.inr (no fun hP=> ?_))) (fun h4=> ?_))
 ·have:=hP.2.1.2.2.2.1;simp at h;omega
 refine ak.bind (cA _ _ _) (ak.bif (fun h=>ak.const _ (GT.inr (no fun hP=> ?_))) (fun h5=> ?_))
 ·have:=hP.2.1.2.2.2.2.1;simp at h;omega
 refine ak.bind (cA _ _ _) (ak.bif (fun h=>ak.const _ (GT.inr (no fun hP=> ?_))) (fun h6=> ?_))
 ·have:=hP.2.1.2.2.2.2.2.1;simp at h;omega
 simp at h1 h2 h3 h4 h5 h6
 refine ak.bind (vR _ (by omega)) (ak.bif (fun h=>ak.const _ (GT.inr (no fun hP=> ?_))) (fun h7=> ?_))
 ·have:=hP.2.1.2.2.2.2.2.2;simp at h;exact h this
 simp at h7
 exact ak.const _ (GT.inl ⟨hk,h1,h2,h3,h4,h5,h6,h7⟩)
theorem Bz(x:az)(hs:qd x):dB (fun k=>og k x) (dy x):=by
 refine dB.run (fun k=>Bl k x) (dB.of ?_)
 simp only[Bi]
 refine ak.bif (fun h=> ?_) (fun h=> ?_)
 ·simp only[beq_iff_eq]at h
  refine ak.CB (zd x _ hs) fun b hb=> ?_
  exact ak.const _ (GP.ret (hb.trans (El h).symm))
 simp at h
 have no:∀{S:Type},¬mB x→GP (S:=S) (dy x) fun _=>some false:=fun h'=>GP.no fun h2=>h' ((jV h).1 h2)
 refine ak.jd ((),x) ((x.1=1∨x.1=2)∧Ms x) ?_ fun hk=> ?_
 ·rcases Decidable.em (x.1=1)with t|t
  rotate_left
  ·rcases Decidable.em (x.1=2)with t2|t2
   rotate_left
   ·have b1:(x.1 != 1)=true:=by simpa using t
    have b2:(x.1 != 2)=true:=by simpa using t2
    simp only[b1,b2,cond_true,Option.map_some]
    exact ak.const _ (GT.inr (no fun hP=>by have:=hP.1;omega))
   have b1:(x.1 != 1)=true:=by rw[t2];rfl
   have b2:(x.1 != 2)=false:=by rw[t2];rfl
   simp only[b1,b2,cond_true,cond_false,Option.map_some]
   exact H7 (no) (.inr t2)
  have b1:(x.1 != 1)=false:=by rw[t];rfl
  simp only[b1,cond_false,Option.map_some]
  exact H7 (no) (.inl t)
 dsimp only
 have hlen:(aK x).length<4611686018427387904:=hs.1
 refine ak.list (L:=fun k _=>jq k) (aK x) (fun(_:Unit) i=>((),aK x,((aK x).length:Int),(i:Int),x)) (fun _ i=>∀j b,j<i→(aK x)[j]? =some b→IZ (aK x) j b) (fun _ i b hx hi inv=> ?_) (fun _ inv=> ?_) () (by simp)
 ·have hw:aa .i64 ((i:Int)+1)=((i+1:Nat):Int):=by rw[aV (by omega) (by omega)];omega
  have hle:(i:Int)≤((aK x).length:Int):=by omega
  simp only[jq,Int.ofNat_lt,hi,decide_true,cond_true,Int.natCast_nonneg,if_true,Int.toNat_natCast,hx,Option.bind_some,hw,hle,List.drop_zero]
  have next:IZ (aK x) i b→∀j c,j<i+1→(aK x)[j]? =some c→IZ (aK x) j c:=fun ho j c hj hje=>by
   by_cases hji:j=i
   ·subst hji;rw[hx]at hje;cases hje;exact ho
   ·exact inv j c (by omega) hje
  have bad:¬IZ (aK x) i b→¬mB x:=fun h hP=>h (hP.2.2.2.2.1 i b hx)
  refine ak.bind (cA _ _ _) (ak.bif (fun h=>ak.const _ (GL.ret (no (bad fun hb=> ?_)))) (fun h12=> ?_))
  ·simp at h
   by_cases hb1:b= -1
   ·omega
   ·have:=hb hb1;omega
  simp at h12
  refine ak.bif (fun h13=> ?_) (fun h13=> ?_)
  ·simp at h13
   refine ak.CB (Mn _ _ (by rw[List.length_take];unfold fu;omega)) fun c hc=>ak.bif (fun h=>ak.const _ (GL.ret (no (bad fun hb=> ?_)))) (fun h16=> ?_)
   ·exact(hb h13).2.2 (hc.1 h)
   ·refine ak.const _ (GL.self () rfl (next fun _=> ?_))
    exact⟨by omega,by omega,fun h=>by rw[hc.2 h]at h16;cases h16⟩
  ·simp at h13
   exact ak.const _ (GL.self () rfl (next fun h=>absurd h13 h))
 ·have hall:Ot (aK x):=fun i b hb=>inv i b (List.getElem?_eq_some_iff.1 hb).1 hb
  simp only[jq,Int.lt_irrefl,decide_false,cond_false]
  refine ak.jd ((),x) (RW x) ?_ fun hf=> ?_
  ·refine ak.bif (fun h1=> ?_) (fun h1=> ?_)
   ·simp at h1
    refine ak.bif (fun h2=> ?_) (fun h2=> ?_)
    ·refine ak.const _ (GT.inr (GE.ret (no fun hP=> ?_)))
     rcases hP.2.2.2.2.2 with h3|h3
     ·omega
     ·have h4:QC x=[]:=h3.1
      simp only[h4]at h2;simp at h2
    simp at h2
    refine ak.bif (fun h3=> ?_) (fun h3=> ?_)
    ·refine ak.const _ (GT.inr (GE.ret (no fun hP=> ?_)))
     rcases hP.2.2.2.2.2 with h4|h4
     ·omega
     ·rw[h4.2]at h3;simp at h3
    ·simp at h3
     exact ak.const _ (GT.inl (.inr ⟨h2,h3⟩))
   ·simp at h1
    exact ak.const _ (GT.inl (.inl (hk.1.resolve_left h1)))
  dsimp only
  refine ak.CB (kC _ hs.2.1) fun b1 e1=>ak.bif (fun h11=> ?_) (fun h=>ak.const _ (GE.ret (no fun hP=> ?_)))
  ·refine ak.CB (kC _ hs.2.2) fun b2 e2=>ak.const _ (GE.ret (GP.ret ?_))
   exact e2.trans ⟨fun h2=>(jV h).2 ⟨hk.1,hk.2,e1.1 h11,h2,hall,hf⟩,fun h2=>((jV h).1 h2).2.2.2.1⟩
  ·have:=e1.2 hP.2.2.1;rw[this]at h;cases h
end Go.Proofs.YtkdcfeopelbojaaGreatDoor

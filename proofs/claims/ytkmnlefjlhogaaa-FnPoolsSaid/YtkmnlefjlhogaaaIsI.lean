/- The tables, the residual functions and lemmas of this seat: parts of the proof of the law; conditions: those that each names. -/
import Derived.Test.YtkmnlefjlhogaaaIno
set_option linter.unusedVariables false
set_option linter.unusedSimpArgs false
set_option maxRecDepth 100000
namespace Go.Proofs.Ytkmnlefjlhogaaa
open Go.Eng
def needI(n:Int):Int:=if n≤0 then 0 else(n-1) / 32+1
theorem impl_BlocksNeeded_ev(n:Int)(h:n≤4611686018427387904):Ev (fun k=>c_impl_BlocksNeeded k n) (needI n):=by
 refine EvQ.run (fun k=>impl_BlocksNeeded_run k n) ?_
 simp only[impl_BlocksNeeded]
 by_cases h0:n≤0
 ·simp[h0,needI];exact EvQ.const _
 ·have e1:wrapK .i64 (n-1)=n-1:=i64w (by omega) (by omega)
  have e2:(n-1).tdiv 32=(n-1) / 32:=Int.tdiv_eq_ediv_of_nonneg (by omega)
  have e3:wrapK .i64 ((n-1) / 32)=(n-1) / 32:=i64w (by omega) (by omega)
  have e4:wrapK .i64 ((n-1) / 32+1)=(n-1) / 32+1:=i64w (by omega) (by omega)
  simp only[h0,decide_false,cond_false,e1,e2,e3,e4,needI,if_false,ne_eq,show ¬((32:Int)=0)by decide,not_false_eq_true,if_true]
  exact EvQ.const _
theorem spec_BlocksNeeded_ev(n:Int)(h:n≤4611686018427387904):Ev (fun k=>c_spec_BlocksNeeded k n) (needI n):=by
 refine EvQ.run (fun k=>spec_BlocksNeeded_run k n) ?_
 simp only[spec_BlocksNeeded]
 by_cases h0:n≤0
 ·simp[h0,needI];exact EvQ.const _
 ·have e1:wrapK .i64 (n-1)=n-1:=i64w (by omega) (by omega)
  have e2:(n-1).tdiv 32=(n-1) / 32:=Int.tdiv_eq_ediv_of_nonneg (by omega)
  have e3:wrapK .i64 ((n-1) / 32)=(n-1) / 32:=i64w (by omega) (by omega)
  have e4:wrapK .i64 ((n-1) / 32+1)=(n-1) / 32+1:=i64w (by omega) (by omega)
  simp only[h0,decide_false,cond_false,e1,e2,e3,e4,needI,if_false,ne_eq,show ¬((32:Int)=0)by decide,not_false_eq_true,if_true]
  exact EvQ.const _
def zeroI:PInode:=(0,0,0,0,0,0,0,[],[],[])
def blkP(l:List Int)(i:Nat)(b:Int):Prop:=b≠ -1→0≤b∧b≤999∧b∉l.take i
def blksP(l:List Int):Prop:=∀i b,l[i]? =some b→blkP l i b
abbrev xBlk(x:PInode):List Int:=x.2.2.2.2.2.2.2.1
abbrev xAcl(x:PInode):List PAcl:=x.2.2.2.2.2.2.2.2.1
abbrev xDef(x:PInode):List PAcl:=x.2.2.2.2.2.2.2.2.2
abbrev xUid(x:PInode):Int:=x.2.2.1
abbrev xSize(x:PInode):Int:=x.2.2.2.2.2.1
def fitP(x:PInode):Prop:=x.1=2∨xDef x=[]∧intBits .and .i64 x.2.1 512=0
def headP(x:PInode):Prop:=(0≤x.2.1∧x.2.1≤2047)∧(0≤x.2.2.1∧x.2.2.1≤3)∧(0≤x.2.2.2.1∧x.2.2.2.1≤3)∧(0≤x.2.2.2.2.1∧x.2.2.2.2.1≤1000)∧(0≤x.2.2.2.2.2.1∧x.2.2.2.2.2.1≤256)∧
 (0≤x.2.2.2.2.2.2.1∧x.2.2.2.2.2.2.1≤1000000000)∧((xBlk x).length:Int)=needI (xSize x)
def usedP(x:PInode):Prop:=(x.1=1∨x.1=2)∧headP x∧aclP (xAcl x)∧aclP (xDef x)∧blksP (xBlk x)∧fitP x
def inodeP(x:PInode):Prop:=x=zeroI∨usedP x
theorem not_zero{x:PInode}(h:x.1≠0):¬(x=zeroI):=fun e=>h (by rw[e];rfl)
theorem inode_iff{x:PInode}(h:x.1≠0):inodeP x↔usedP x:=⟨fun h'=>h'.resolve_left (not_zero h),.inr⟩
theorem inode_iff0{x:PInode}(h:x.1=0):inodeP x↔x=zeroI:=⟨fun h'=>h'.resolve_right fun h2=>by have:=h2.1;omega,.inl⟩
theorem impl_IsInode_say(x:PInode)(hs:inoSmall x):Say (fun k=>c_impl_IsInode k x) (inodeP x):=by
 refine Say.run (fun k=>impl_IsInode_run k x) (Say.of ?_)
 simp only[impl_IsInode]
 refine EvX.joinT ((),x) (x.1=1∨x.1=2) ?_ fun hk=> ?_
 ·refine EvX.bif (fun h=> ?_) (fun h=> ?_)
  ·simp only[beq_iff_eq]at h
   refine EvX.say (impl_SameInode_say x _ hs) fun b hb=> ?_
   simp only[Option.map_some]
   exact EvX.const _ (GT.inr (GP.ret (hb.trans (inode_iff0 h).symm)))
  simp at h
  refine EvX.bif (fun h1=> ?_) (fun h1=> ?_)
  ·refine EvX.bif (fun h2=>EvX.const _ (GT.inl (.inl (by simpa using h1)))) (fun h2=> ?_)
   rw[h1]at h2;cases h2
  ·refine EvX.bif (fun h2=>EvX.const _ (GT.inl (.inr (by simpa using h2)))) (fun h2=> ?_)
   simp only[Option.map_some]
   refine EvX.const _ (GT.inr (GP.no fun hP=> ?_))
   have:=((inode_iff h).1 hP).1
   simp at h1 h2;omega
 dsimp only
 have hn:x.1≠0:=by omega
 have no:∀{S:Type},¬usedP x→GP (S:=S) (inodeP x) fun _=>some false:=fun h=>GP.no fun h'=>h ((inode_iff hn).1 h')
 refine EvX.bind (isMode_ev _) (EvX.bif (fun h=>EvX.const _ (no fun hP=> ?_)) (fun h1=> ?_))
 ·have:=hP.2.1.1;simp at h;omega
 refine EvX.bind (isUser_ev _) (EvX.bif (fun h=>EvX.const _ (no fun hP=> ?_)) (fun h2=> ?_))
 ·have:=hP.2.1.2.1;simp at h;omega
 refine EvX.bind (isUser_ev _) (EvX.bif (fun h=>EvX.const _ (no fun hP=> ?_)) (fun h3=> ?_))
 ·have:=hP.2.1.2.2.1;simp at h;omega
 refine EvX.bif (fun h=>EvX.const _ (no fun hP=> ?_)) (fun h4=> ?_)
 ·have:=hP.2.1.2.2.2.1;simp at h;omega
 refine EvX.bif (fun h=>EvX.const _ (no fun hP=> ?_)) (fun h5=> ?_)
 ·have:=hP.2.1.2.2.2.1;simp at h;omega
 refine EvX.bif (fun h=>EvX.const _ (no fun hP=> ?_)) (fun h6=> ?_)
 ·have:=hP.2.1.2.2.2.2.1;simp at h;omega
 refine EvX.bif (fun h=>EvX.const _ (no fun hP=> ?_)) (fun h7=> ?_)
 ·have:=hP.2.1.2.2.2.2.1;simp at h;omega
 refine EvX.bif (fun h=>EvX.const _ (no fun hP=> ?_)) (fun h8=> ?_)
 ·have:=hP.2.1.2.2.2.2.2.1;simp at h;omega
 refine EvX.bif (fun h=>EvX.const _ (no fun hP=> ?_)) (fun h9=> ?_)
 ·have:=hP.2.1.2.2.2.2.2.1;simp at h;omega
 simp at h1 h2 h3 h4 h5 h6 h7 h8 h9
 refine EvX.bind (impl_BlocksNeeded_ev _ (by omega)) (EvX.bif (fun h=>EvX.const _ (no fun hP=> ?_)) (fun h10=> ?_))
 ·have:=hP.2.1.2.2.2.2.2.2;simp at h;exact h this
 simp at h10
 refine EvX.say (impl_IsAcl_say _) fun b1 e1=>EvX.bif (fun h=>EvX.const _ (no fun hP=> ?_)) (fun h11=> ?_)
 ·have:=e1.2 hP.2.2.1;rw[this]at h;cases h
 refine EvX.say (impl_IsAcl_say _) fun b2 e2=>EvX.bif (fun h=>EvX.const _ (no fun hP=> ?_)) (fun h12=> ?_)
 ·have:=e2.2 hP.2.2.2.1;rw[this]at h;cases h
 have a1:=e1.1 (by simpa using h11)
 have a2:=e2.1 (by simpa using h12)
 have hh:headP x:=⟨⟨h1.1,h1.2⟩,⟨h2.1,h2.2⟩,⟨h3.1,h3.2⟩,⟨by omega,by omega⟩,⟨by omega,by omega⟩,⟨by omega,by omega⟩,h10⟩
 have hlen:(xBlk x).length<4611686018427387904:=hs.1
 refine EvX.list (L:=fun k _=>impl_IsInode_l1 k) (xBlk x) (fun(_:Unit) i=>((),xBlk x,((xBlk x).length:Int),(i:Int),x)) (fun _ i=>∀j b,j<i→(xBlk x)[j]? =some b→blkP (xBlk x) j b) (fun _ i b hx hi inv=> ?_) (fun _ inv=> ?_) () (by simp)
 ·have hw:wrapK .i64 ((i:Int)+1)=((i+1:Nat):Int):=by rw[i64w (by omega) (by omega)];omega
  have hle:(i:Int)≤((xBlk x).length:Int):=by omega
  simp only[impl_IsInode_l1,Int.ofNat_lt,hi,decide_true,cond_true,Int.natCast_nonneg,if_true,Int.toNat_natCast,hx,Option.bind_some,hw,hle,List.drop_zero]
  have next:blkP (xBlk x) i b→∀j c,j<i+1→(xBlk x)[j]? =some c→blkP (xBlk x) j c:=fun ho j c hj hje=>by
   by_cases hji:j=i
   ·subst hji;rw[hx]at hje;cases hje;exact ho
   ·exact inv j c (by omega) hje
  have bad:¬blkP (xBlk x) i b→¬usedP x:=fun h hP=>h (hP.2.2.2.2.1 i b hx)
  refine EvX.bif (fun h13=> ?_) (fun h13=> ?_)
  ·simp at h13
   refine EvX.bif (fun h=>EvX.const _ (GL.ret (no (bad fun hb=> ?_)))) (fun h14=> ?_)
   ·have:=hb h13;simp at h;omega
   refine EvX.bif (fun h=>EvX.const _ (GL.ret (no (bad fun hb=> ?_)))) (fun h15=> ?_)
   ·have:=hb h13;simp at h;omega
   refine EvX.say (Contains_say _ _ (by rw[List.length_take];unfold big;omega)) fun c hc=>EvX.bif (fun h=>EvX.const _ (GL.ret (no (bad fun hb=> ?_)))) (fun h16=> ?_)
   ·exact(hb h13).2.2 (hc.1 h)
   ·refine EvX.const _ (GL.self () rfl (next fun _=> ?_))
    simp at h14 h15
    exact⟨by omega,by omega,fun h=>by rw[hc.2 h]at h16;cases h16⟩
  ·simp at h13
   exact EvX.const _ (GL.self () rfl (next fun h=>absurd h13 h))
 ·have hall:blksP (xBlk x):=fun i b hb=>inv i b (List.getElem?_eq_some_iff.1 hb).1 hb
  simp only[impl_IsInode_l1,Int.lt_irrefl,decide_false,cond_false]
  have fin:∀b:Bool,(b=true↔fitP x)→(b=true↔inodeP x):=fun b hb=>hb.trans ⟨fun h=>(inode_iff hn).2 ⟨hk,hh,a1,a2,hall,h⟩,fun h=>((inode_iff hn).1 h).2.2.2.2.2⟩
  refine EvX.bif (fun h=> ?_) (fun h13=> ?_)
  ·simp at h
   exact EvX.const _ (GE.ret (GP.ret (fin _ ⟨fun _=> .inl h,fun _=>rfl⟩)))
  simp at h13
  refine EvX.bif (fun h=> ?_) (fun h14=> ?_)
  ·simp at h
   refine EvX.const _ (GE.ret (GP.ret (fin _ ?_)))
   rw[beq_iff_eq]
   exact⟨fun h2=> .inr ⟨h,h2⟩,fun h2=>(h2.resolve_left h13).2⟩
  ·simp at h14
   refine EvX.const _ (GE.ret (GP.ret (fin _ (by simp;intro h;exact h14 (h.resolve_left h13).1))))
theorem spec_head{x:PInode}{S:Type}{G:(S→Option Bool)→Prop}(no:¬usedP x→G fun _=>some false)(hk:x.1=1∨x.1=2):
  EvX (fun k (_:S)=>(c_spec_l06Mode k x.2.1).bind fun y3=>
   (bif (!y3)then(some (.inr false):Option ((Unit×PInode)⊕ Bool))else(c_spec_l06User k x.2.2.1).bind fun y4=>
   (bif (!y4)then(some (.inr false))else(c_spec_l06User k x.2.2.2.1).bind fun y5=>
   (bif (!y5)then(some (.inr false))else(c_spec_l01In k (x.2.2.2.2.1,(0:Int),(1000:Int))).bind fun y6=>
   (bif (!y6)then(some (.inr false))else(c_spec_l01In k (x.2.2.2.2.2.1,(0:Int),(256:Int))).bind fun y7=>
   (bif (!y7)then(some (.inr false))else(c_spec_l01In k (x.2.2.2.2.2.2.1,(0:Int),(1000000000:Int))).bind fun y8=>
   (bif (!y8)then(some (.inr false))else(c_spec_BlocksNeeded k x.2.2.2.2.2.1).bind fun y9=>
   (bif ((x.2.2.2.2.2.2.2.1.length:Int) != y9)then(some (.inr false))else some (.inl ((),x)))))))))) (GT ((),x) ((x.1=1∨x.1=2)∧headP x) G):=by
 refine EvX.bind (l06Mode_ev _) (EvX.bif (fun h=>EvX.const _ (GT.inr (no fun hP=> ?_))) (fun h1=> ?_))
 ·have:=hP.2.1.1;simp at h;omega
 refine EvX.bind (l06User_ev _) (EvX.bif (fun h=>EvX.const _ (GT.inr (no fun hP=> ?_))) (fun h2=> ?_))
 ·have:=hP.2.1.2.1;simp at h;omega
 refine EvX.bind (l06User_ev _) (EvX.bif (fun h=>EvX.const _ (GT.inr (no fun hP=> ?_))) (fun h3=> ?_))
 ·have:=hP.2.1.2.2.1;simp at h;omega
 refine EvX.bind (l01In_ev _ _ _) (EvX.bif (fun h=>EvX.const _ (GT.inr (no fun hP=> ?_))) (fun h4=> ?_))
 ·have:=hP.2.1.2.2.2.1;simp at h;omega
 refine EvX.bind (l01In_ev _ _ _) (EvX.bif (fun h=>EvX.const _ (GT.inr (no fun hP=> ?_))) (fun h5=> ?_))
 ·have:=hP.2.1.2.2.2.2.1;simp at h;omega
 refine EvX.bind (l01In_ev _ _ _) (EvX.bif (fun h=>EvX.const _ (GT.inr (no fun hP=> ?_))) (fun h6=> ?_))
 ·have:=hP.2.1.2.2.2.2.2.1;simp at h;omega
 simp at h1 h2 h3 h4 h5 h6
 refine EvX.bind (spec_BlocksNeeded_ev _ (by omega)) (EvX.bif (fun h=>EvX.const _ (GT.inr (no fun hP=> ?_))) (fun h7=> ?_))
 ·have:=hP.2.1.2.2.2.2.2.2;simp at h;exact h this
 simp at h7
 exact EvX.const _ (GT.inl ⟨hk,h1,h2,h3,h4,h5,h6,h7⟩)
theorem spec_IsInode_say(x:PInode)(hs:inoSmall x):Say (fun k=>c_spec_IsInode k x) (inodeP x):=by
 refine Say.run (fun k=>spec_IsInode_run k x) (Say.of ?_)
 simp only[spec_IsInode]
 refine EvX.bif (fun h=> ?_) (fun h=> ?_)
 ·simp only[beq_iff_eq]at h
  refine EvX.say (spec_SameInode_say x _ hs) fun b hb=> ?_
  exact EvX.const _ (GP.ret (hb.trans (inode_iff0 h).symm))
 simp at h
 have no:∀{S:Type},¬usedP x→GP (S:=S) (inodeP x) fun _=>some false:=fun h'=>GP.no fun h2=>h' ((inode_iff h).1 h2)
 refine EvX.joinT ((),x) ((x.1=1∨x.1=2)∧headP x) ?_ fun hk=> ?_
 ·rcases Decidable.em (x.1=1)with t|t
  rotate_left
  ·rcases Decidable.em (x.1=2)with t2|t2
   rotate_left
   ·have b1:(x.1 != 1)=true:=by simpa using t
    have b2:(x.1 != 2)=true:=by simpa using t2
    simp only[b1,b2,cond_true,Option.map_some]
    exact EvX.const _ (GT.inr (no fun hP=>by have:=hP.1;omega))
   have b1:(x.1 != 1)=true:=by rw[t2];rfl
   have b2:(x.1 != 2)=false:=by rw[t2];rfl
   simp only[b1,b2,cond_true,cond_false,Option.map_some]
   exact spec_head (no) (.inr t2)
  have b1:(x.1 != 1)=false:=by rw[t];rfl
  simp only[b1,cond_false,Option.map_some]
  exact spec_head (no) (.inl t)
 dsimp only
 have hlen:(xBlk x).length<4611686018427387904:=hs.1
 refine EvX.list (L:=fun k _=>spec_IsInode_l1 k) (xBlk x) (fun(_:Unit) i=>((),xBlk x,((xBlk x).length:Int),(i:Int),x)) (fun _ i=>∀j b,j<i→(xBlk x)[j]? =some b→blkP (xBlk x) j b) (fun _ i b hx hi inv=> ?_) (fun _ inv=> ?_) () (by simp)
 ·have hw:wrapK .i64 ((i:Int)+1)=((i+1:Nat):Int):=by rw[i64w (by omega) (by omega)];omega
  have hle:(i:Int)≤((xBlk x).length:Int):=by omega
  simp only[spec_IsInode_l1,Int.ofNat_lt,hi,decide_true,cond_true,Int.natCast_nonneg,if_true,Int.toNat_natCast,hx,Option.bind_some,hw,hle,List.drop_zero]
  have next:blkP (xBlk x) i b→∀j c,j<i+1→(xBlk x)[j]? =some c→blkP (xBlk x) j c:=fun ho j c hj hje=>by
   by_cases hji:j=i
   ·subst hji;rw[hx]at hje;cases hje;exact ho
   ·exact inv j c (by omega) hje
  have bad:¬blkP (xBlk x) i b→¬usedP x:=fun h hP=>h (hP.2.2.2.2.1 i b hx)
  refine EvX.bind (l01In_ev _ _ _) (EvX.bif (fun h=>EvX.const _ (GL.ret (no (bad fun hb=> ?_)))) (fun h12=> ?_))
  ·simp at h
   by_cases hb1:b= -1
   ·omega
   ·have:=hb hb1;omega
  simp at h12
  refine EvX.bif (fun h13=> ?_) (fun h13=> ?_)
  ·simp at h13
   refine EvX.say (Has_say _ _ (by rw[List.length_take];unfold big;omega)) fun c hc=>EvX.bif (fun h=>EvX.const _ (GL.ret (no (bad fun hb=> ?_)))) (fun h16=> ?_)
   ·exact(hb h13).2.2 (hc.1 h)
   ·refine EvX.const _ (GL.self () rfl (next fun _=> ?_))
    exact⟨by omega,by omega,fun h=>by rw[hc.2 h]at h16;cases h16⟩
  ·simp at h13
   exact EvX.const _ (GL.self () rfl (next fun h=>absurd h13 h))
 ·have hall:blksP (xBlk x):=fun i b hb=>inv i b (List.getElem?_eq_some_iff.1 hb).1 hb
  simp only[spec_IsInode_l1,Int.lt_irrefl,decide_false,cond_false]
  refine EvX.joinT ((),x) (fitP x) ?_ fun hf=> ?_
  ·refine EvX.bif (fun h1=> ?_) (fun h1=> ?_)
   ·simp at h1
    refine EvX.bif (fun h2=> ?_) (fun h2=> ?_)
    ·refine EvX.const _ (GT.inr (GE.ret (no fun hP=> ?_)))
     rcases hP.2.2.2.2.2 with h3|h3
     ·omega
     ·have h4:xDef x=[]:=h3.1
      simp only[h4]at h2;simp at h2
    simp at h2
    refine EvX.bif (fun h3=> ?_) (fun h3=> ?_)
    ·refine EvX.const _ (GT.inr (GE.ret (no fun hP=> ?_)))
     rcases hP.2.2.2.2.2 with h4|h4
     ·omega
     ·rw[h4.2]at h3;simp at h3
    ·simp at h3
     exact EvX.const _ (GT.inl (.inr ⟨h2,h3⟩))
   ·simp at h1
    exact EvX.const _ (GT.inl (.inl (hk.1.resolve_left h1)))
  dsimp only
  refine EvX.say (spec_IsAcl_say _ hs.2.1) fun b1 e1=>EvX.bif (fun h11=> ?_) (fun h=>EvX.const _ (GE.ret (no fun hP=> ?_)))
  ·refine EvX.say (spec_IsAcl_say _ hs.2.2) fun b2 e2=>EvX.const _ (GE.ret (GP.ret ?_))
   exact e2.trans ⟨fun h2=>(inode_iff h).2 ⟨hk.1,hk.2,e1.1 h11,h2,hall,hf⟩,fun h2=>((inode_iff h).1 h2).2.2.2.1⟩
  ·have:=e1.2 hP.2.2.1;rw[this]at h;cases h
end Go.Proofs.Ytkmnlefjlhogaaa

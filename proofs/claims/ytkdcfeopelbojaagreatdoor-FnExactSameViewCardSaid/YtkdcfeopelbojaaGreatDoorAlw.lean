/- The tables, the residual functions and lemmas of this seat: parts of the proof of the law; conditions: those that each names. -/
import Derived.Test.YtkdcfeopelbojaaGreatDoorEnts
set_option linter.unusedVariables false
set_option linter.unusedSimpArgs false
set_option maxRecDepth 100000
namespace Go.Proofs.YtkdcfeopelbojaaGreatDoor
open Go.Eng
abbrev cq:=Int×Int×List Int
theorem dB.ev{f:Nat→Option Bool}{P:Prop}[Decidable P](h:dB f P):Ev f (decide P):=by
 obtain⟨b,h1,h2⟩:=h
 have:decide P=b:=by cases b<;>simp_all
 rw[this];exact h1
def mD(a:Int):Prop:=0≤a∧a≤3
def Ia(l:List Int)(i:Nat)(g:Int):Prop:=∀p,0<i→l[i-1]? =some p→p<g
def Rp(c:cq):Prop:=(∀i g,c.2.2[i]? =some g→mD g∧Ia c.2.2 i g)∧mD c.1∧mD c.2.1
theorem mT(c:cq)(hc:c.2.2.length<fu):dB (fun k=>eT k c) (Rp c):=by
 unfold fu at hc
 refine dB.run (fun k=>Dv k c) (dB.of ?_)
 simp only[De]
 refine ak.list (L:=fun k _=>kG k) c.2.2 (fun(_:Unit) i=>((),c.2.2,(c.2.2.length:Int),((i:Nat):Int),c)) (fun _ i=>∀j g,j<i→c.2.2[j]? =some g→mD g∧Ia c.2.2 j g) (fun _ i g hx hi inv=> ?_) (fun _ inv=> ?_) () (by simp)
 ·have hw:aa .i64 ((i:Int)+1)=((i+1:Nat):Int):=by rw[aV (by omega) (by omega)];omega
  simp only[kG,Int.ofNat_lt,hi,decide_true,cond_true,Int.natCast_nonneg,if_true,Int.toNat_natCast,hx,Option.bind_some,hw]
  refine ak.bind (ez g) ?_
  refine ak.bif (fun h=>ak.const _ (GL.ret (GP.no fun hP=> ?_))) (fun h1=> ?_)
  ·have:=(hP.1 i g hx).1;unfold mD at this;simp at h;omega
  have hg:mD g:=by unfold mD;simp at h1;omega
  have next:(Ia c.2.2 i g)→∀j g',j<i+1→c.2.2[j]? =some g'→mD g'∧Ia c.2.2 j g':=fun ho j g' hj hg'=>by
   by_cases e:j=i
   ·subst e;rw[hx]at hg';cases hg';exact⟨hg,ho⟩
   ·exact inv j g' (by omega) hg'
  refine ak.bif (fun h2=> ?_) (fun h=>ak.const _ (GL.self () rfl (next fun p hp=>by simp at h;omega)))
  have hip:0<i:=by simp at h2;omega
  have hw2:aa .i64 ((i:Int)-1)=((i-1:Nat):Int):=by rw[aV (by omega) (by omega)];omega
  have hp:c.2.2[i-1]? =some c.2.2[i-1]:=List.getElem?_eq_getElem (by omega)
  simp only[hw2,Int.natCast_nonneg,if_true,Int.toNat_natCast,hp,Option.bind_some]
  refine ak.bif (fun h=>ak.const _ (GL.ret (GP.no fun hP=> ?_))) (fun h3=> ?_)
  ·have:=(hP.1 i g hx).2 _ hip hp;simp at h;omega
  ·refine ak.const _ (GL.self () rfl (next fun p _ hp'=> ?_))
   rw[hp]at hp';cases hp';simp at h3;omega
 ·simp only[kG,Int.lt_irrefl,decide_false,cond_false]
  have hall:∀i g,c.2.2[i]? =some g→mD g∧Ia c.2.2 i g:=fun i g hg=>inv i g ((List.getElem?_eq_some_iff.1 hg).1) hg
  refine ak.bind (ez c.1) ?_
  refine ak.bif (fun h1=> ?_) (fun h=>ak.const _ (GE.ret (GP.no fun hP=>by have:=hP.2.1;unfold mD at this;simp at h;omega)))
  refine ak.bind (ez c.2.1) ?_
  refine ak.const _ (GE.ret (GP.ret ?_))
  simp only[decide_eq_true_eq]at h1 ⊢
  exact⟨fun h=>⟨hall,h1,h⟩,fun h=>h.2.2⟩
theorem mK(c:cq)(hc:c.2.2.length<fu):dB (fun k=>je k c) (Rp c):=by
 unfold fu at hc
 refine dB.run (fun k=>DG k c) (dB.of ?_)
 simp only[CQ]
 refine ak.list (L:=fun k _=>kt k) c.2.2 (fun(_:Unit) i=>((),c.2.2,(c.2.2.length:Int),((i:Nat):Int),c)) (fun _ i=>∀j g,j<i→c.2.2[j]? =some g→mD g∧Ia c.2.2 j g) (fun _ i g hx hi inv=> ?_) (fun _ inv=> ?_) () (by simp)
 ·have hw:aa .i64 ((i:Int)+1)=((i+1:Nat):Int):=by rw[aV (by omega) (by omega)];omega
  simp only[kt,Int.ofNat_lt,hi,decide_true,cond_true,Int.natCast_nonneg,if_true,Int.toNat_natCast,hx,Option.bind_some,hw]
  refine ak.bind (dZ g) ?_
  refine ak.bif (fun h=>ak.const _ (GL.ret (GP.no fun hP=> ?_))) (fun h1=> ?_)
  ·have:=(hP.1 i g hx).1;unfold mD at this;simp at h;omega
  have hg:mD g:=by unfold mD;simp at h1;omega
  have next:(Ia c.2.2 i g)→∀j g',j<i+1→c.2.2[j]? =some g'→mD g'∧Ia c.2.2 j g':=fun ho j g' hj hg'=>by
   by_cases e:j=i
   ·subst e;rw[hx]at hg';cases hg';exact⟨hg,ho⟩
   ·exact inv j g' (by omega) hg'
  refine ak.bif (fun h2=> ?_) (fun h=>ak.const _ (GL.self () rfl (next fun p hp=>by simp at h;omega)))
  have hip:0<i:=by simp at h2;omega
  have hw2:aa .i64 ((i:Int)-1)=((i-1:Nat):Int):=by rw[aV (by omega) (by omega)];omega
  have hp:c.2.2[i-1]? =some c.2.2[i-1]:=List.getElem?_eq_getElem (by omega)
  simp only[hw2,Int.natCast_nonneg,if_true,Int.toNat_natCast,hp,Option.bind_some]
  refine ak.bif (fun h=>ak.const _ (GL.ret (GP.no fun hP=> ?_))) (fun h3=> ?_)
  ·have:=(hP.1 i g hx).2 _ hip hp;simp at h;omega
  ·refine ak.const _ (GL.self () rfl (next fun p _ hp'=> ?_))
   rw[hp]at hp';cases hp';simp at h3;omega
 ·simp only[kt,Int.lt_irrefl,decide_false,cond_false]
  have hall:∀i g,c.2.2[i]? =some g→mD g∧Ia c.2.2 i g:=fun i g hg=>inv i g ((List.getElem?_eq_some_iff.1 hg).1) hg
  refine ak.bind (dZ c.1) ?_
  refine ak.bif (fun h1=> ?_) (fun h=>ak.const _ (GE.ret (GP.no fun hP=>by have:=hP.2.1;unfold mD at this;simp at h;omega)))
  refine ak.bind (dZ c.2.1) ?_
  refine ak.const _ (GE.ret (GP.ret ?_))
  simp only[decide_eq_true_eq]at h1 ⊢
  exact⟨fun h=>⟨hall,h1,h⟩,fun h=>h.2.2⟩
theorem O0(n:Nat)(h:n<4611686018427387904):intBits .and .i64 (n:Int) 7=((n % 8:Nat):Int):=by
 have h1:intBits .and .i64 (n:Int) 7=IntKind.i64.wrap ((BitVec.ofInt 64 (n:Int)&&& BitVec.ofInt 64 ((7:Nat):Int)).toNat:Nat):=rfl
 rw[h1,BitVec.toNat_and,vZ _ (by omega),vZ _ (by omega)]
 have h2:n&&& 7=n % 8:=Nat.and_two_pow_sub_one_eq_mod n 3
 rw[h2,wrap_i64 (by omega) (by omega)]
def kQ(m:Int)(c:Nat):Int:=(m / 8 ^(2-c)) % 8
theorem rI{m:Int}(h0:0≤m)(h1:m≤2047)(c:Nat)(hc:c≤2):Ev (fun k=>iZ k (m,(c:Int))) (kQ m c):=by
 refine ax.run (fun k=>Dk k _ _) ?_
 simp only[Db]
 refine ax.bind (wB m) ?_
 have a1:¬(c:Int)<0:=by omega
 have a2:¬(2:Int)<c:=by omega
 have a3:aa .i64 ((6:Int)-aa .i64 ((3:Int)*c))=((6-3*c:Nat):Int):=by
  rw[aV (n:=(3:Int)*c) (by omega) (by omega),aV (by omega) (by omega)];omega
 simp only[show 0≤m∧m≤2047 from⟨h0,h1⟩,and_self,decide_true,Bool.not_true,cond_false,a1,a2,a3,decide_false,Int.natCast_nonneg,if_true,Int.toNat_natCast]
 obtain⟨n,rfl⟩:∃n:Nat,m=(n:Int):=⟨m.toNat,by omega⟩
 have key:intBits .and .i64 ((n:Int).fdiv (2 ^(min (6-3*c) (IntKind.bits .i64)))) 7=kQ n c:=by
  have hcc:c=0∨c=1∨c=2:=by omega
  rcases hcc with rfl|rfl|rfl
  ·show intBits .and .i64 ((n:Int).fdiv ((64:Nat):Int)) 7=_
   rw[←Int.ofNat_fdiv,O0 _ (by omega)];unfold kQ;simp only[show(8:Int)^(2-0)=64 from rfl];omega
  ·show intBits .and .i64 ((n:Int).fdiv ((8:Nat):Int)) 7=_
   rw[←Int.ofNat_fdiv,O0 _ (by omega)];unfold kQ;simp only[show(8:Int)^(2-1)=8 from rfl];omega
  ·show intBits .and .i64 ((n:Int).fdiv ((1:Nat):Int)) 7=_
   rw[←Int.ofNat_fdiv,O0 _ (by omega)];unfold kQ;simp only[show(8:Int)^(2-2)=1 from rfl];omega
 rw[key]
 exact ax.const _
theorem RI(m:Nat):(m:Int).tdiv 8=((m / 8:Nat):Int):=(Int.ofNat_tdiv m 8).symm
theorem Rt(m:Nat):(m:Int).tmod 8=((m % 8:Nat):Int):=(Int.ofNat_tmod m 8).symm
theorem rU{m:Int}(h0:0≤m)(h1:m≤2047)(c:Nat)(hc:c≤2):Ev (fun k=>eR k (m,(c:Int))) (kQ m c):=by
 refine ax.run (fun k=>tR k _ _) ?_
 simp only[uE]
 refine ax.bind (ll m) ?_
 simp only[show 0≤m∧m≤2047 from⟨h0,h1⟩,and_self,decide_true,Bool.not_true,cond_false]
 refine ax.bind (cA _ _ _) ?_
 simp only[show(0:Int)≤c∧(c:Int)≤2 by omega,and_self,decide_true,Bool.not_true,cond_false]
 obtain⟨n,rfl⟩:∃n:Nat,m=(n:Int):=⟨m.toNat,by omega⟩
 refine cZ.ev ?_
 have step:∀(a b:Nat),a≤2047→b<2→wK dc ((a:Int),(b:Int)) (((a / 8:Nat):Int),((b+1:Nat):Int)):=fun a b ha hb=>by
  have e1:aa .i64 ((a:Int).tdiv 8)=((a / 8:Nat):Int):=by rw[RI,LW (by omega)]
  have e2:aa .i64 ((b:Int)+1)=((b+1:Nat):Int):=by rw[aV (by omega) (by omega)];omega
  simp only[wK,dc,show(b:Int)<2 by omega,decide_true,cond_true,show(8:Int)≠0 by omega,ne_eq,not_false_eq_true,if_true,e1,e2]
  exact ax.const _
 have fin:∀(a:Nat),cZ dc ((a:Int),((2:Nat):Int)) ((a % 8:Nat):Int):=fun a=>by
  refine cZ.stop ?_
  simp only[dc,show ¬((2:Nat):Int)<2 by omega,decide_false,cond_false,show(8:Int)≠0 by omega,ne_eq,not_false_eq_true,if_true,Rt]
  exact ax.const _
 have hcc:c=0∨c=1∨c=2:=by omega
 rcases hcc with rfl|rfl|rfl
 ·have:kQ n 0=((n / 8 / 8 % 8:Nat):Int):=by unfold kQ;simp only[show(8:Int)^(2-0)=64 from rfl];omega
  rw[this]
  exact cZ.step (step n 0 (by omega) (by omega)) (cZ.step (step (n / 8) 1 (by omega) (by omega)) (fin _))
 ·have:kQ n 1=((n / 8 % 8:Nat):Int):=by unfold kQ;simp only[show(8:Int)^(2-1)=8 from rfl];omega
  rw[this]
  exact cZ.step (step n 1 (by omega) (by omega)) (fin _)
 ·have:kQ n 2=((n % 8:Nat):Int):=by unfold kQ;simp only[show(8:Int)^(2-2)=1 from rfl];omega
  rw[this]
  exact fin _
end Go.Proofs.YtkdcfeopelbojaaGreatDoor

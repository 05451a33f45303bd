/- The tables, the residual functions and lemmas of this seat: parts of the proof of the law; conditions: those that each names. -/
import Derived.Test.YtbpfenmkhapeiaaGreatEnts
set_option linter.unusedVariables false
set_option linter.unusedSimpArgs false
set_option maxRecDepth 100000
namespace Go.Proofs.YtbpfenmkhapeiaaGreat
open Go.Eng
abbrev PCred:=Int×Int×List Int
theorem Say.ev{f:Nat→Option Bool}{P:Prop}[Decidable P](h:Say f P):Ev f (decide P):=by
 obtain⟨b,h1,h2⟩:=h
 have:decide P=b:=by cases b<;>simp_all
 rw[this];exact h1
def userP(a:Int):Prop:=0≤a∧a≤3
def ordG(l:List Int)(i:Nat)(g:Int):Prop:=∀p,0<i→l[i-1]? =some p→p<g
def credP(c:PCred):Prop:=(∀i g,c.2.2[i]? =some g→userP g∧ordG c.2.2 i g)∧userP c.1∧userP c.2.1
theorem impl_IsCred_say(c:PCred)(hc:c.2.2.length<big):Say (fun k=>c_impl_IsCred k c) (credP c):=by
 unfold big at hc
 refine Say.run (fun k=>impl_IsCred_run k c) (Say.of ?_)
 simp only[impl_IsCred]
 refine EvX.list (L:=fun k _=>impl_IsCred_l1 k) c.2.2 (fun(_:Unit) i=>((),c.2.2,(c.2.2.length:Int),((i:Nat):Int),c)) (fun _ i=>∀j g,j<i→c.2.2[j]? =some g→userP g∧ordG c.2.2 j g) (fun _ i g hx hi inv=> ?_) (fun _ inv=> ?_) () (by simp)
 ·have hw:wrapK .i64 ((i:Int)+1)=((i+1:Nat):Int):=by rw[i64w (by omega) (by omega)];omega
  simp only[impl_IsCred_l1,Int.ofNat_lt,hi,decide_true,cond_true,Int.natCast_nonneg,if_true,Int.toNat_natCast,hx,Option.bind_some,hw]
  refine EvX.bind (isUser_ev g) ?_
  refine EvX.bif (fun h=>EvX.const _ (GL.ret (GP.no fun hP=> ?_))) (fun h1=> ?_)
  ·have:=(hP.1 i g hx).1;unfold userP at this;simp at h;omega
  have hg:userP g:=by unfold userP;simp at h1;omega
  have next:(ordG c.2.2 i g)→∀j g',j<i+1→c.2.2[j]? =some g'→userP g'∧ordG c.2.2 j g':=fun ho j g' hj hg'=>by
   by_cases e:j=i
   ·subst e;rw[hx]at hg';cases hg';exact⟨hg,ho⟩
   ·exact inv j g' (by omega) hg'
  refine EvX.bif (fun h2=> ?_) (fun h=>EvX.const _ (GL.self () rfl (next fun p hp=>by simp at h;omega)))
  have hip:0<i:=by simp at h2;omega
  have hw2:wrapK .i64 ((i:Int)-1)=((i-1:Nat):Int):=by rw[i64w (by omega) (by omega)];omega
  have hp:c.2.2[i-1]? =some c.2.2[i-1]:=List.getElem?_eq_getElem (by omega)
  simp only[hw2,Int.natCast_nonneg,if_true,Int.toNat_natCast,hp,Option.bind_some]
  refine EvX.bif (fun h=>EvX.const _ (GL.ret (GP.no fun hP=> ?_))) (fun h3=> ?_)
  ·have:=(hP.1 i g hx).2 _ hip hp;simp at h;omega
  ·refine EvX.const _ (GL.self () rfl (next fun p _ hp'=> ?_))
   rw[hp]at hp';cases hp';simp at h3;omega
 ·simp only[impl_IsCred_l1,Int.lt_irrefl,decide_false,cond_false]
  have hall:∀i g,c.2.2[i]? =some g→userP g∧ordG c.2.2 i g:=fun i g hg=>inv i g ((List.getElem?_eq_some_iff.1 hg).1) hg
  refine EvX.bind (isUser_ev c.1) ?_
  refine EvX.bif (fun h1=> ?_) (fun h=>EvX.const _ (GE.ret (GP.no fun hP=>by have:=hP.2.1;unfold userP at this;simp at h;omega)))
  refine EvX.bind (isUser_ev c.2.1) ?_
  refine EvX.const _ (GE.ret (GP.ret ?_))
  simp only[decide_eq_true_eq]at h1 ⊢
  exact⟨fun h=>⟨hall,h1,h⟩,fun h=>h.2.2⟩
theorem spec_IsCred_say(c:PCred)(hc:c.2.2.length<big):Say (fun k=>c_spec_IsCred k c) (credP c):=by
 unfold big at hc
 refine Say.run (fun k=>spec_IsCred_run k c) (Say.of ?_)
 simp only[spec_IsCred]
 refine EvX.list (L:=fun k _=>spec_IsCred_l1 k) c.2.2 (fun(_:Unit) i=>((),c.2.2,(c.2.2.length:Int),((i:Nat):Int),c)) (fun _ i=>∀j g,j<i→c.2.2[j]? =some g→userP g∧ordG c.2.2 j g) (fun _ i g hx hi inv=> ?_) (fun _ inv=> ?_) () (by simp)
 ·have hw:wrapK .i64 ((i:Int)+1)=((i+1:Nat):Int):=by rw[i64w (by omega) (by omega)];omega
  simp only[spec_IsCred_l1,Int.ofNat_lt,hi,decide_true,cond_true,Int.natCast_nonneg,if_true,Int.toNat_natCast,hx,Option.bind_some,hw]
  refine EvX.bind (l06User_ev g) ?_
  refine EvX.bif (fun h=>EvX.const _ (GL.ret (GP.no fun hP=> ?_))) (fun h1=> ?_)
  ·have:=(hP.1 i g hx).1;unfold userP at this;simp at h;omega
  have hg:userP g:=by unfold userP;simp at h1;omega
  have next:(ordG c.2.2 i g)→∀j g',j<i+1→c.2.2[j]? =some g'→userP g'∧ordG c.2.2 j g':=fun ho j g' hj hg'=>by
   by_cases e:j=i
   ·subst e;rw[hx]at hg';cases hg';exact⟨hg,ho⟩
   ·exact inv j g' (by omega) hg'
  refine EvX.bif (fun h2=> ?_) (fun h=>EvX.const _ (GL.self () rfl (next fun p hp=>by simp at h;omega)))
  have hip:0<i:=by simp at h2;omega
  have hw2:wrapK .i64 ((i:Int)-1)=((i-1:Nat):Int):=by rw[i64w (by omega) (by omega)];omega
  have hp:c.2.2[i-1]? =some c.2.2[i-1]:=List.getElem?_eq_getElem (by omega)
  simp only[hw2,Int.natCast_nonneg,if_true,Int.toNat_natCast,hp,Option.bind_some]
  refine EvX.bif (fun h=>EvX.const _ (GL.ret (GP.no fun hP=> ?_))) (fun h3=> ?_)
  ·have:=(hP.1 i g hx).2 _ hip hp;simp at h;omega
  ·refine EvX.const _ (GL.self () rfl (next fun p _ hp'=> ?_))
   rw[hp]at hp';cases hp';simp at h3;omega
 ·simp only[spec_IsCred_l1,Int.lt_irrefl,decide_false,cond_false]
  have hall:∀i g,c.2.2[i]? =some g→userP g∧ordG c.2.2 i g:=fun i g hg=>inv i g ((List.getElem?_eq_some_iff.1 hg).1) hg
  refine EvX.bind (l06User_ev c.1) ?_
  refine EvX.bif (fun h1=> ?_) (fun h=>EvX.const _ (GE.ret (GP.no fun hP=>by have:=hP.2.1;unfold userP at this;simp at h;omega)))
  refine EvX.bind (l06User_ev c.2.1) ?_
  refine EvX.const _ (GE.ret (GP.ret ?_))
  simp only[decide_eq_true_eq]at h1 ⊢
  exact⟨fun h=>⟨hall,h1,h⟩,fun h=>h.2.2⟩
theorem and_7(n:Nat)(h:n<4611686018427387904):intBits .and .i64 (n:Int) 7=((n % 8:Nat):Int):=by
 have h1:intBits .and .i64 (n:Int) 7=IntKind.i64.wrap ((BitVec.ofInt 64 (n:Int)&&& BitVec.ofInt 64 ((7:Nat):Int)).toNat:Nat):=rfl
 rw[h1,BitVec.toNat_and,ofInt_nat _ (by omega),ofInt_nat _ (by omega)]
 have h2:n&&& 7=n % 8:=Nat.and_two_pow_sub_one_eq_mod n 3
 rw[h2,wrap_i64 (by omega) (by omega)]
def permV(m:Int)(c:Nat):Int:=(m / 8 ^(2-c)) % 8
theorem impl_Perm_ev{m:Int}(h0:0≤m)(h1:m≤2047)(c:Nat)(hc:c≤2):Ev (fun k=>c_impl_PermOf k (m,(c:Int))) (permV m c):=by
 refine EvQ.run (fun k=>impl_PermOf_run k _ _) ?_
 simp only[impl_PermOf]
 refine EvQ.bind (isMode_ev m) ?_
 have a1:¬(c:Int)<0:=by omega
 have a2:¬(2:Int)<c:=by omega
 have a3:wrapK .i64 ((6:Int)-wrapK .i64 ((3:Int)*c))=((6-3*c:Nat):Int):=by
  rw[i64w (n:=(3:Int)*c) (by omega) (by omega),i64w (by omega) (by omega)];omega
 simp only[show 0≤m∧m≤2047 from⟨h0,h1⟩,and_self,decide_true,Bool.not_true,cond_false,a1,a2,a3,decide_false,Int.natCast_nonneg,if_true,Int.toNat_natCast]
 obtain⟨n,rfl⟩:∃n:Nat,m=(n:Int):=⟨m.toNat,by omega⟩
 have key:intBits .and .i64 ((n:Int).fdiv (2 ^(min (6-3*c) (IntKind.bits .i64)))) 7=permV n c:=by
  have hcc:c=0∨c=1∨c=2:=by omega
  rcases hcc with rfl|rfl|rfl
  ·show intBits .and .i64 ((n:Int).fdiv ((64:Nat):Int)) 7=_
   rw[←Int.ofNat_fdiv,and_7 _ (by omega)];unfold permV;simp only[show(8:Int)^(2-0)=64 from rfl];omega
  ·show intBits .and .i64 ((n:Int).fdiv ((8:Nat):Int)) 7=_
   rw[←Int.ofNat_fdiv,and_7 _ (by omega)];unfold permV;simp only[show(8:Int)^(2-1)=8 from rfl];omega
  ·show intBits .and .i64 ((n:Int).fdiv ((1:Nat):Int)) 7=_
   rw[←Int.ofNat_fdiv,and_7 _ (by omega)];unfold permV;simp only[show(8:Int)^(2-2)=1 from rfl];omega
 rw[key]
 exact EvQ.const _
theorem tdiv_8(m:Nat):(m:Int).tdiv 8=((m / 8:Nat):Int):=(Int.ofNat_tdiv m 8).symm
theorem tmod_8(m:Nat):(m:Int).tmod 8=((m % 8:Nat):Int):=(Int.ofNat_tmod m 8).symm
theorem spec_Perm_ev{m:Int}(h0:0≤m)(h1:m≤2047)(c:Nat)(hc:c≤2):Ev (fun k=>c_spec_PermOf k (m,(c:Int))) (permV m c):=by
 refine EvQ.run (fun k=>spec_PermOf_run k _ _) ?_
 simp only[spec_PermOf]
 refine EvQ.bind (l06Mode_ev m) ?_
 simp only[show 0≤m∧m≤2047 from⟨h0,h1⟩,and_self,decide_true,Bool.not_true,cond_false]
 refine EvQ.bind (l01In_ev _ _ _) ?_
 simp only[show(0:Int)≤c∧(c:Int)≤2 by omega,and_self,decide_true,Bool.not_true,cond_false]
 obtain⟨n,rfl⟩:∃n:Nat,m=(n:Int):=⟨m.toNat,by omega⟩
 refine EvL.ev ?_
 have step:∀(a b:Nat),a≤2047→b<2→EvS spec_PermOf_l1 ((a:Int),(b:Int)) (((a / 8:Nat):Int),((b+1:Nat):Int)):=fun a b ha hb=>by
  have e1:wrapK .i64 ((a:Int).tdiv 8)=((a / 8:Nat):Int):=by rw[tdiv_8,wnat (by omega)]
  have e2:wrapK .i64 ((b:Int)+1)=((b+1:Nat):Int):=by rw[i64w (by omega) (by omega)];omega
  simp only[EvS,spec_PermOf_l1,show(b:Int)<2 by omega,decide_true,cond_true,show(8:Int)≠0 by omega,ne_eq,not_false_eq_true,if_true,e1,e2]
  exact EvQ.const _
 have fin:∀(a:Nat),EvL spec_PermOf_l1 ((a:Int),((2:Nat):Int)) ((a % 8:Nat):Int):=fun a=>by
  refine EvL.stop ?_
  simp only[spec_PermOf_l1,show ¬((2:Nat):Int)<2 by omega,decide_false,cond_false,show(8:Int)≠0 by omega,ne_eq,not_false_eq_true,if_true,tmod_8]
  exact EvQ.const _
 have hcc:c=0∨c=1∨c=2:=by omega
 rcases hcc with rfl|rfl|rfl
 ·have:permV n 0=((n / 8 / 8 % 8:Nat):Int):=by unfold permV;simp only[show(8:Int)^(2-0)=64 from rfl];omega
  rw[this]
  exact EvL.step (step n 0 (by omega) (by omega)) (EvL.step (step (n / 8) 1 (by omega) (by omega)) (fin _))
 ·have:permV n 1=((n / 8 % 8:Nat):Int):=by unfold permV;simp only[show(8:Int)^(2-1)=8 from rfl];omega
  rw[this]
  exact EvL.step (step n 1 (by omega) (by omega)) (fin _)
 ·have:permV n 2=((n % 8:Nat):Int):=by unfold permV;simp only[show(8:Int)^(2-2)=1 from rfl];omega
  rw[this]
  exact fin _
end Go.Proofs.YtbpfenmkhapeiaaGreat

/- The tables, the residual functions and lemmas of this seat: parts of the proof of the law; conditions: those that each names. -/
import Derived.Test.YtkdcfeopelbojaaGreatDoorCon
import Derived.Test.YtkdcfeopelbojaaGreatDoorByt
set_option linter.unusedVariables false
set_option linter.unusedSimpArgs false
set_option maxRecDepth 100000
namespace Go.Proofs.YtkdcfeopelbojaaGreatDoor
open Go.Eng
def two(s:ByteArray)(a:Nat):Nat:=bI s a*256+bI s (a+1)
theorem Pw(s:ByteArray)(a:Nat):two s a<65536:=by
 have:=mH s a;have:=mH s (a+1);unfold two;omega
theorem IU(s:ByteArray)(a:Nat)(h:a+2≤s.size)(hs:s.size≤1000000):Ev (fun k=>lf k (s,(a:Int),(2:Int))) ((two s a:Int),true):=by
 refine ax.run (fun k=>zm k _ _ _) ?_
 have a1:¬(2:Int)<1:=by omega
 have a1':¬(6:Int)<2:=by omega
 have a2:¬(a:Int)<0:=by omega
 have a3:aa .i64 ((s.size:Int)-2)=(s.size:Int)-2:=aV (by omega) (by omega)
 have a4:¬(s.size:Int)-2<a:=by omega
 simp only[vu,a1,a1',a2,a3,a4,cond_false,decide_false]
 have b0:=mH s a
 have b1:=mH s (a+1)
 have e0:(2:Int)^(min (8:Int).toNat (IntKind.bits .i64))=256:=rfl
 have w0:aa .i64 ((a:Int)+0)=(a:Int):=by rw[aV (by omega) (by omega)];omega
 have w1:aa .i64 ((a:Int)+1)=((a+1:Nat):Int):=by rw[aV (by omega) (by omega)];omega
 have o0:intBits .or .i64 (aa .i64 ((0:Int)*256)) (bI s a:Int)=(bI s a:Int):=by
  have:aa .i64 ((0:Int)*256)=((0*256:Nat):Int):=by rw[aV (by omega) (by omega)];rfl
  rw[this,PF _ _ (by omega) b0];simp
 have o1:intBits .or .i64 (aa .i64 ((bI s a:Int)*256)) (bI s (a+1):Int)=(two s a:Int):=by
  have:aa .i64 ((bI s a:Int)*256)=((bI s a*256:Nat):Int):=by rw[aV (by omega) (by omega)];omega
  rw[this,PF _ _ (by omega) b1];rfl
 have n1:aa .i64 ((0:Int)+1)=1:=by rw[aV (by omega) (by omega)];rfl
 have n2:aa .i64 ((1:Int)+1)=2:=by rw[aV (by omega) (by omega)];rfl
 refine cZ.ev (cZ.step (d':=(s,(a:Int),(bI s a:Int),(2:Int),(1:Int))) ?_ (cZ.step (d':=(s,(a:Int),(two s a:Int),(2:Int),(2:Int))) ?_ (cZ.stop ?_)))
 ·simp only[wK,gI,show(0:Int)<2 by omega,decide_true,cond_true,show(0:Int)≤8 by omega,e0,w0,Int.natCast_nonneg,if_true,Int.toNat_natCast,byte_at (show a<s.size by omega),Option.bind_some,LW (show bI s a<_ by omega),o0,n1]
  exact ax.const _
 ·simp only[wK,gI,show(1:Int)<2 by omega,decide_true,cond_true,show(0:Int)≤8 by omega,e0,w1,Int.natCast_nonneg,if_true,Int.toNat_natCast,byte_at (show a+1<s.size by omega),Option.bind_some,LW (show bI s (a+1)<_ by omega),o1,n2]
  exact ax.const _
 ·simp only[gI,Int.lt_irrefl,decide_false,cond_false]
  exact ax.const _
theorem IF(s:ByteArray)(a:Nat)(h:a+2≤s.size)(hs:s.size≤1000000):Ev (fun k=>lI k (s,(a:Int),(2:Int))) ((two s a:Int),true):=by
 refine ax.run (fun k=>yT k _ _ _) ?_
 have a2:¬(a:Int)<0:=by omega
 have a3:aa .i64 ((s.size:Int)-2)=(s.size:Int)-2:=aV (by omega) (by omega)
 have a4:¬(s.size:Int)-2<a:=by omega
 simp only[uU]
 refine ax.bind (cA 2 1 6) ?_
 simp only[show(1:Int)≤2∧(2:Int)≤6 by omega,and_self,decide_true,Bool.not_true,a2,a3,a4,cond_false,decide_false]
 have b0:=mH s a
 have b1:=mH s (a+1)
 have w0:aa .i64 ((a:Int)+0)=(a:Int):=by rw[aV (by omega) (by omega)];omega
 have w1:aa .i64 ((a:Int)+1)=((a+1:Nat):Int):=by rw[aV (by omega) (by omega)];omega
 have o0:aa .i64 (aa .i64 ((256:Int)*0)+(bI s a:Int))=(bI s a:Int):=by
  rw[aV (n:=(256:Int)*0) (by omega) (by omega),aV (by omega) (by omega)];omega
 have o1:aa .i64 (aa .i64 ((256:Int)*(bI s a:Int))+(bI s (a+1):Int))=(two s a:Int):=by
  rw[aV (n:=(256:Int)*(bI s a:Int)) (by omega) (by omega),aV (by omega) (by omega)];unfold two;omega
 have n1:aa .i64 ((0:Int)+1)=1:=by rw[aV (by omega) (by omega)];rfl
 have n2:aa .i64 ((1:Int)+1)=2:=by rw[aV (by omega) (by omega)];rfl
 refine cZ.ev (cZ.step (d':=(s,(a:Int),(2:Int),(bI s a:Int),(1:Int))) ?_ (cZ.step (d':=(s,(a:Int),(2:Int),(two s a:Int),(2:Int))) ?_ (cZ.stop ?_)))
 ·simp only[wK,gG,show(0:Int)<2 by omega,decide_true,cond_true,w0,Int.natCast_nonneg,if_true,Int.toNat_natCast,byte_at (show a<s.size by omega),Option.bind_some,LW (show bI s a<_ by omega),o0,n1]
  exact ax.const _
 ·simp only[wK,gG,show(1:Int)<2 by omega,decide_true,cond_true,w1,Int.natCast_nonneg,if_true,Int.toNat_natCast,byte_at (show a+1<s.size by omega),Option.bind_some,LW (show bI s (a+1)<_ by omega),o1,n2]
  exact ax.const _
 ·simp only[gG,Int.lt_irrefl,decide_false,cond_false]
  exact ax.const _
def Ei(s:ByteArray):Prop:=(1≤s.size∧s.size≤12)∧s≠(⟨#[46]⟩:ByteArray)∧s≠(⟨#[46,46]⟩:ByteArray)∧∀(i:Nat) c,s[i]? =some c→c≠0∧c≠47
theorem D4(c:UInt8)(n:Nat)(hn:n<256):((c.toNat:Int)==(n:Int))=true↔c=UInt8.ofNat n:=by
 rw[beq_iff_eq]
 constructor
 ·intro h
  have:c.toNat=n:=by omega
  rw[←this];simp
 ·intro h
  subst h
  simp;omega
theorem Ge(s:ByteArray)(hs:s.size<fu):dB (fun k=>jF k s) (Ei s):=by
 unfold fu at hs
 refine dB.run (fun k=>u4 k s) (dB.of ?_)
 simp only[qT]
 refine ak.bind (cA _ _ _) ?_
 refine ak.bif (fun h=>ak.const _ (GP.no fun hP=>by have:=hP.1;simp at h;omega)) (fun h1=> ?_)
 refine ak.bif (fun h=>ak.const _ (GP.no fun hP=>hP.2.1 ((fg _ _).1 h))) (fun h2=> ?_)
 refine ak.bif (fun h=>ak.const _ (GP.no fun hP=>hP.2.2.1 ((fg _ _).1 h))) (fun h3=> ?_)
 simp at h1
 refine ak.upto (L:=fun k _=>ff k) s.size (fun(_:Unit) i=>(s,(i:Int))) (fun _ i=>∀j c,j<i→s[j]? =some c→c≠0∧c≠47) (fun _ i hi inv=> ?_) (fun _ inv=> ?_) () 0 (Nat.zero_le _) (by simp)
 ·have hw:aa .i64 ((i:Int)+1)=((i+1:Nat):Int):=by rw[aV (by omega) (by omega)];omega
  have hx:s[i]? =some s[i]:=getElem?_pos s i hi
  simp only[ff,Int.ofNat_lt,hi,decide_true,cond_true,Int.natCast_nonneg,if_true,Int.toNat_natCast,hx,Option.map_some,Option.bind_some,hw]
  refine ak.bif (fun h=>ak.const _ (GL.ret (GP.no fun hP=>(hP.2.2.2 i _ hx).1 ((D4 _ 0 (by omega)).1 h)))) (fun h4=> ?_)
  refine ak.bif (fun h=>ak.const _ (GL.ret (GP.no fun hP=>(hP.2.2.2 i _ hx).2 ((D4 _ 47 (by omega)).1 h)))) (fun h5=> ?_)
  refine ak.const _ (GL.self () rfl fun j c hj hc=> ?_)
  by_cases hji:j=i
  ·subst hji;rw[hx]at hc;cases hc
   refine⟨fun e=> ?_,fun e=> ?_⟩
   ·have:=(D4 s[j] 0 (by omega)).2 e;rw[show(((s[j]).toNat:Int)==((0:Nat):Int))=false from h4]at this;cases this
   ·have:=(D4 s[j] 47 (by omega)).2 e;rw[show(((s[j]).toNat:Int)==((47:Nat):Int))=false from h5]at this;cases this
  ·exact inv j c (by omega) hc
 ·simp only[ff,Int.lt_irrefl,decide_false,cond_false]
  refine ak.const _ (GE.ret (GP.yes ⟨⟨by omega,by omega⟩,fun e=> ?_,fun e=> ?_,fun i c hc=>inv i c ?_ hc⟩))
  ·rw[(fg _ _).2 e]at h2;cases h2
  ·rw[(fg _ _).2 e]at h3;cases h3
  ·rcases Nat.lt_or_ge i s.size with h|h
   ·exact h
   ·rw[getElem?_neg s i (by omega)]at hc;cases hc
theorem z6(chars:List UInt8):∀l:List UInt8,0≤Lib.indexAny l chars↔∃b∈l,chars.contains b=true
 |[]=>by simp[Lib.indexAny]
 |b::l=>by
  have ih:=z6 chars l
  have hge:=Lib.indexAny_ge chars l
  unfold Lib.indexAny
  by_cases hb:chars.contains b=true
  ·rw[if_pos hb];exact⟨fun _=>⟨b,List.mem_cons_self ..,hb⟩,fun _=>Int.le_refl _⟩
  ·rw[if_neg hb]
   by_cases hm:Lib.indexAny l chars= -1
   ·rw[if_pos (by simpa using hm)]
    constructor
    ·intro h;omega
    ·rintro⟨c,hc,h⟩
     rcases List.mem_cons.1 hc with rfl|hc
     ·exact absurd h hb
     ·have:=ih.2 ⟨c,hc,h⟩;omega
   ·rw[if_neg (by simpa using hm)]
    constructor
    ·intro _
     obtain⟨c,hc,h⟩:=ih.1 (by omega)
     exact⟨c,List.mem_cons_of_mem _ hc,h⟩
    ·intro _;omega
theorem Kt(s:ByteArray)(hs:s.size<1000):dB (fun k=>gx k (s,(⟨#[0,47]⟩:ByteArray))) (∃(i:Nat) (c:UInt8),s[i]? =some c∧(c=0∨c=47)):=by
 refine⟨Lib.containsAny s.data.toList [0,47],ax.run (fun k=>oK k _) ?_, ?_⟩
 ·have:bK (s,(⟨#[0,47]⟩:ByteArray))=some (Lib.containsAny s.data.toList [0,47]):=by
   unfold bK
   rw[if_pos ⟨by show s.size<_;omega,by show(⟨#[0,47]⟩:ByteArray).size<4294967281;decide,by show((⟨#[0,47]⟩:ByteArray).data.toList.all fun b=>decide (b.toNat<128))=true;decide⟩]
  rw[this];exact ax.const _
 ·unfold Lib.containsAny
  rw[decide_eq_true_eq,z6]
  constructor
  ·rintro⟨b,hb,h⟩
   obtain⟨i,hi⟩:=List.mem_iff_getElem?.1 hb
   refine⟨i,b,by rw[N3];exact hi, ?_⟩
   simpa using h
  ·rintro⟨i,c,hi,h⟩
   rw[N3]at hi
   exact⟨c,List.mem_iff_getElem?.2 ⟨i,hi⟩,by simpa using h⟩
theorem GG(s:ByteArray)(hs:s.size<fu):dB (fun k=>jz k s) (Ei s):=by
 unfold fu at hs
 refine dB.run (fun k=>vp k s) (dB.of ?_)
 simp only[qk]
 refine ak.bif (fun h1=> ?_) (fun h=>ak.const _ (GP.no fun hP=>by have:=hP.1;simp at h;omega))
 refine ak.bif (fun h2=> ?_) (fun h=>ak.const _ (GP.no fun hP=>by have:=hP.1;simp at h;omega))
 simp at h1 h2
 refine ak.CB (Kt s (by omega)) fun b hb=> ?_
 refine ak.bif (fun h3=> ?_) (fun h=>ak.const _ (GP.no fun hP=> ?_))
 ·have hno:∀(i:Nat) c,s[i]? =some c→c≠0∧c≠47:=fun i c hc=>by
   have hbf:b=false:=by simpa using h3
   refine⟨fun e=> ?_,fun e=> ?_⟩
   ·have:=hb.2 ⟨i,c,hc,.inl e⟩;rw[hbf]at this;cases this
   ·have:=hb.2 ⟨i,c,hc,.inr e⟩;rw[hbf]at this;cases this
  refine ak.bif (fun h4=> ?_) (fun h=>ak.const _ (GP.no fun hP=>hP.2.1 ((fg _ _).1 (by simpa using h))))
  refine ak.const _ (GP.ret ?_)
  constructor
  ·intro h5
   refine⟨⟨by omega,by omega⟩,fun e=> ?_,fun e=> ?_,hno⟩
   ·rw[(fg _ _).2 e]at h4;cases h4
   ·rw[(fg _ _).2 e]at h5;cases h5
  ·intro hP
   cases he:Cl s (⟨#[46,46]⟩:ByteArray)with
   |false=>rfl
   |true=>exact absurd ((fg _ _).1 he) hP.2.2.1
 ·have hbt:b=true:=by simpa using h
  obtain⟨i,c,hc,h⟩:=hb.1 hbt
  have:=hP.2.2.2 i c hc
  rcases h with h|h
  ·exact this.1 h
  ·exact this.2 h
def Ov(e:ByteArray×Int):ByteArray:=Ij ((ur (e.2+1) 2++ur (e.1.size:Int) 1)++e.1) 16
theorem Mp(e:ByteArray×Int)(h:e.1.size≤1000):((ur (e.2+1) 2++ur (e.1.size:Int) 1)++e.1).size≤1003:=by
 have h1:=iv (e.2+1) 2
 have h2:=iv (e.1.size:Int) 1
 rw[aF,aF];omega
theorem Eh(e:ByteArray×Int)(h:e.1.size≤1000)(h0:0≤e.2)(h1:e.2<1000000):Ev (fun k=>p8 k e) (Ov e):=by
 obtain⟨s,i⟩:=e
 simp only at h h0 h1
 refine ax.run (fun k=>DF k _) ?_
 have hw:aa .i64 (i+1)=i+1:=aV (by omega) (by omega)
 have hp:=Mp (s,i) h
 have hp1:=iv (i+1) 2
 have hp2:=iv (s.size:Int) 1
 simp only[Cz,hw]
 refine ax.bind (oU (i+1) 2 (by omega) (by omega)) (ax.bind (oU (s.size:Int) 1 (by omega) (by omega)) ?_)
 refine ax.pE (by omega) (ax.pE (by rw[aF];omega) (ax.bind (GQ _ 16 (by omega) (by simp only at hp;omega)) (ax.const _)))
theorem FY(e:ByteArray×Int)(h:e.1.size≤1000)(h0:0≤e.2)(h1:e.2<1000000):Ev (fun k=>lz k e) (Ov e):=by
 obtain⟨s,i⟩:=e
 simp only at h h0 h1
 refine ax.run (fun k=>zh k _) ?_
 have hw:aa .i64 (i+1)=i+1:=aV (by omega) (by omega)
 have hp:=Mp (s,i) h
 have hp1:=iv (i+1) 2
 have hp2:=iv (s.size:Int) 1
 simp only[vk,hw]
 refine ax.bind (pB (i+1) 2 (by omega) (by omega)) (ax.bind (pB (s.size:Int) 1 (by omega) (by omega)) ?_)
 refine ax.pE (by omega) (ax.pE (by rw[aF];omega) (ax.bind (xi _ 16 (by omega) (by simp only at hp;omega)) (ax.const _)))
end Go.Proofs.YtkdcfeopelbojaaGreatDoor

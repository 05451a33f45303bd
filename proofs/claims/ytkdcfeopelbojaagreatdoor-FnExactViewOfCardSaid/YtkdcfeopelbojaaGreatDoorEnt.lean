/- The tables, the residual functions and lemmas of this seat: parts of the proof of the law; conditions: those that each names. -/
import Derived.Test.YtkdcfeopelbojaaGreatDoorCon
import Derived.Test.YtkdcfeopelbojaaGreatDoorByt
set_option linter.unusedVariables false
set_option linter.unusedSimpArgs false
set_option maxRecDepth 100000
namespace Go.Proofs.YtkdcfeopelbojaaGreatDoor
open Go.Eng
def two(s:ByteArray)(a:Nat):Nat:=bJ s a*256+bJ s (a+1)
theorem PY(s:ByteArray)(a:Nat):two s a<65536:=by
 have:=mL s a;have:=mL s (a+1);unfold two;omega
theorem Je(s:ByteArray)(a:Nat)(h:a+2≤s.size)(hs:s.size≤1000000):Ev (fun k=>lN k (s,(a:Int),(2:Int))) ((two s a:Int),true):=by
 refine aw.run (fun k=>zc k _ _ _) ?_
 have a1:¬(2:Int)<1:=by omega
 have a1':¬(6:Int)<2:=by omega
 have a2:¬(a:Int)<0:=by omega
 have a3:aa .i64 ((s.size:Int)-2)=(s.size:Int)-2:=aV (by omega) (by omega)
 have a4:¬(s.size:Int)-2<a:=by omega
 simp only[uR,a1,a1',a2,a3,a4,cond_false,decide_false]
 have b0:=mL s a
 have b1:=mL s (a+1)
 have e0:(2:Int)^(min (8:Int).toNat (IntKind.bits .i64))=256:=rfl
 have w0:aa .i64 ((a:Int)+0)=(a:Int):=by rw[aV (by omega) (by omega)];omega
 have w1:aa .i64 ((a:Int)+1)=((a+1:Nat):Int):=by rw[aV (by omega) (by omega)];omega
 have o0:intBits .or .i64 (aa .i64 ((0:Int)*256)) (bJ s a:Int)=(bJ s a:Int):=by
  have:aa .i64 ((0:Int)*256)=((0*256:Nat):Int):=by rw[aV (by omega) (by omega)];rfl
  rw[this,PF _ _ (by omega) b0];simp
 have o1:intBits .or .i64 (aa .i64 ((bJ s a:Int)*256)) (bJ s (a+1):Int)=(two s a:Int):=by
  have:aa .i64 ((bJ s a:Int)*256)=((bJ s a*256:Nat):Int):=by rw[aV (by omega) (by omega)];omega
  rw[this,PF _ _ (by omega) b1];rfl
 have n1:aa .i64 ((0:Int)+1)=1:=by rw[aV (by omega) (by omega)];rfl
 have n2:aa .i64 ((1:Int)+1)=2:=by rw[aV (by omega) (by omega)];rfl
 refine cI.ev (cI.step (d':=(s,(a:Int),(bJ s a:Int),(2:Int),(1:Int))) ?_ (cI.step (d':=(s,(a:Int),(two s a:Int),(2:Int),(2:Int))) ?_ (cI.stop ?_)))
 ·simp only[rZ,gY,show(0:Int)<2 by omega,decide_true,cond_true,show(0:Int)≤8 by omega,e0,w0,Int.natCast_nonneg,if_true,Int.toNat_natCast,byte_at (show a<s.size by omega),Option.bind_some,MN (show bJ s a<_ by omega),o0,n1]
  exact aw.const _
 ·simp only[rZ,gY,show(1:Int)<2 by omega,decide_true,cond_true,show(0:Int)≤8 by omega,e0,w1,Int.natCast_nonneg,if_true,Int.toNat_natCast,byte_at (show a+1<s.size by omega),Option.bind_some,MN (show bJ s (a+1)<_ by omega),o1,n2]
  exact aw.const _
 ·simp only[gY,Int.lt_irrefl,decide_false,cond_false]
  exact aw.const _
theorem Jb(s:ByteArray)(a:Nat)(h:a+2≤s.size)(hs:s.size≤1000000):Ev (fun k=>lP k (s,(a:Int),(2:Int))) ((two s a:Int),true):=by
 refine aw.run (fun k=>zr k _ _ _) ?_
 have a2:¬(a:Int)<0:=by omega
 have a3:aa .i64 ((s.size:Int)-2)=(s.size:Int)-2:=aV (by omega) (by omega)
 have a4:¬(s.size:Int)-2<a:=by omega
 simp only[vy]
 refine aw.bind (cy 2 1 6) ?_
 simp only[show(1:Int)≤2∧(2:Int)≤6 by omega,and_self,decide_true,Bool.not_true,a2,a3,a4,cond_false,decide_false]
 have b0:=mL s a
 have b1:=mL s (a+1)
 have w0:aa .i64 ((a:Int)+0)=(a:Int):=by rw[aV (by omega) (by omega)];omega
 have w1:aa .i64 ((a:Int)+1)=((a+1:Nat):Int):=by rw[aV (by omega) (by omega)];omega
 have o0:aa .i64 (aa .i64 ((256:Int)*0)+(bJ s a:Int))=(bJ s a:Int):=by
  rw[aV (n:=(256:Int)*0) (by omega) (by omega),aV (by omega) (by omega)];omega
 have o1:aa .i64 (aa .i64 ((256:Int)*(bJ s a:Int))+(bJ s (a+1):Int))=(two s a:Int):=by
  rw[aV (n:=(256:Int)*(bJ s a:Int)) (by omega) (by omega),aV (by omega) (by omega)];unfold two;omega
 have n1:aa .i64 ((0:Int)+1)=1:=by rw[aV (by omega) (by omega)];rfl
 have n2:aa .i64 ((1:Int)+1)=2:=by rw[aV (by omega) (by omega)];rfl
 refine cI.ev (cI.step (d':=(s,(a:Int),(2:Int),(bJ s a:Int),(1:Int))) ?_ (cI.step (d':=(s,(a:Int),(2:Int),(two s a:Int),(2:Int))) ?_ (cI.stop ?_)))
 ·simp only[rZ,gM,show(0:Int)<2 by omega,decide_true,cond_true,w0,Int.natCast_nonneg,if_true,Int.toNat_natCast,byte_at (show a<s.size by omega),Option.bind_some,MN (show bJ s a<_ by omega),o0,n1]
  exact aw.const _
 ·simp only[rZ,gM,show(1:Int)<2 by omega,decide_true,cond_true,w1,Int.natCast_nonneg,if_true,Int.toNat_natCast,byte_at (show a+1<s.size by omega),Option.bind_some,MN (show bJ s (a+1)<_ by omega),o1,n2]
  exact aw.const _
 ·simp only[gM,Int.lt_irrefl,decide_false,cond_false]
  exact aw.const _
def Ge(s:ByteArray):Prop:=(1≤s.size∧s.size≤12)∧s≠(⟨#[46]⟩:ByteArray)∧s≠(⟨#[46,46]⟩:ByteArray)∧∀(i:Nat) c,s[i]? =some c→c≠0∧c≠47
theorem EF(c:UInt8)(n:Nat)(hn:n<256):((c.toNat:Int)==(n:Int))=true↔c=UInt8.ofNat n:=by
 rw[beq_iff_eq]
 constructor
 ·intro h
  have:c.toNat=n:=by omega
  rw[←this];simp
 ·intro h
  subst h
  simp;omega
theorem HJ(s:ByteArray)(hs:s.size<ia):ep (fun k=>jJ k s) (Ge s):=by
 unfold ia at hs
 refine ep.run (fun k=>uV k s) (ep.of ?_)
 simp only[qw]
 refine ak.bind (cy _ _ _) ?_
 refine ak.bif (fun h=>ak.const _ (GP.no fun hP=>by have:=hP.1;simp at h;omega)) (fun h1=> ?_)
 refine ak.bif (fun h=>ak.const _ (GP.no fun hP=>hP.2.1 ((gQ _ _).1 h))) (fun h2=> ?_)
 refine ak.bif (fun h=>ak.const _ (GP.no fun hP=>hP.2.2.1 ((gQ _ _).1 h))) (fun h3=> ?_)
 simp at h1
 refine ak.upto (L:=fun k _=>fh k) s.size (fun(_:Unit) i=>(s,(i:Int))) (fun _ i=>∀j c,j<i→s[j]? =some c→c≠0∧c≠47) (fun _ i hi inv=> ?_) (fun _ inv=> ?_) () 0 (Nat.zero_le _) (by simp)
 ·have hw:aa .i64 ((i:Int)+1)=((i+1:Nat):Int):=by rw[aV (by omega) (by omega)];omega
  have hx:s[i]? =some s[i]:=getElem?_pos s i hi
  simp only[fh,Int.ofNat_lt,hi,decide_true,cond_true,Int.natCast_nonneg,if_true,Int.toNat_natCast,hx,Option.map_some,Option.bind_some,hw]
  refine ak.bif (fun h=>ak.const _ (GL.ret (GP.no fun hP=>(hP.2.2.2 i _ hx).1 ((EF _ 0 (by omega)).1 h)))) (fun h4=> ?_)
  refine ak.bif (fun h=>ak.const _ (GL.ret (GP.no fun hP=>(hP.2.2.2 i _ hx).2 ((EF _ 47 (by omega)).1 h)))) (fun h5=> ?_)
  refine ak.const _ (GL.self () rfl fun j c hj hc=> ?_)
  by_cases hji:j=i
  ·subst hji;rw[hx]at hc;cases hc
   refine⟨fun e=> ?_,fun e=> ?_⟩
   ·have:=(EF s[j] 0 (by omega)).2 e;rw[show(((s[j]).toNat:Int)==((0:Nat):Int))=false from h4]at this;cases this
   ·have:=(EF s[j] 47 (by omega)).2 e;rw[show(((s[j]).toNat:Int)==((47:Nat):Int))=false from h5]at this;cases this
  ·exact inv j c (by omega) hc
 ·simp only[fh,Int.lt_irrefl,decide_false,cond_false]
  refine ak.const _ (GE.ret (GP.yes ⟨⟨by omega,by omega⟩,fun e=> ?_,fun e=> ?_,fun i c hc=>inv i c ?_ hc⟩))
  ·rw[(gQ _ _).2 e]at h2;cases h2
  ·rw[(gQ _ _).2 e]at h3;cases h3
  ·rcases Nat.lt_or_ge i s.size with h|h
   ·exact h
   ·rw[getElem?_neg s i (by omega)]at hc;cases hc
theorem AZ(chars:List UInt8):∀l:List UInt8,0≤Lib.indexAny l chars↔∃b∈l,chars.contains b=true
 |[]=>by simp[Lib.indexAny]
 |b::l=>by
  have ih:=AZ chars l
  have hge:=Lib.indexAny_ge chars l
  unfold Lib.indexAny
  by_cases hb:chars.contains b=true
  ·rw[if_pos hb];exact⟨fun _=>⟨b,List.mem_cons_self ..,hb⟩,fun _=>Int.le_refl _⟩
  ·rw[if_neg hb]
   by_cases hm:Lib.indexAny l chars= -1
   ·rw[if_pos (by simpa using hm)]
    constructor
    ·intro h;omega
    ·rintro⟨c,hc,h⟩
     rcases List.mem_cons.1 hc with rfl|hc
     ·exact absurd h hb
     ·have:=ih.2 ⟨c,hc,h⟩;omega
   ·rw[if_neg (by simpa using hm)]
    constructor
    ·intro _
     obtain⟨c,hc,h⟩:=ih.1 (by omega)
     exact⟨c,List.mem_cons_of_mem _ hc,h⟩
    ·intro _;omega
theorem Ls(s:ByteArray)(hs:s.size<1000):ep (fun k=>gE k (s,(⟨#[0,47]⟩:ByteArray))) (∃(i:Nat) (c:UInt8),s[i]? =some c∧(c=0∨c=47)):=by
 refine⟨Lib.containsAny s.data.toList [0,47],aw.run (fun k=>oX k _) ?_, ?_⟩
 ·have:bL (s,(⟨#[0,47]⟩:ByteArray))=some (Lib.containsAny s.data.toList [0,47]):=by
   unfold bL
   rw[if_pos ⟨by show s.size<_;omega,by show(⟨#[0,47]⟩:ByteArray).size<4294967281;decide,by show((⟨#[0,47]⟩:ByteArray).data.toList.all fun b=>decide (b.toNat<128))=true;decide⟩]
  rw[this];exact aw.const _
 ·unfold Lib.containsAny
  rw[decide_eq_true_eq,AZ]
  constructor
  ·rintro⟨b,hb,h⟩
   obtain⟨i,hi⟩:=List.mem_iff_getElem?.1 hb
   refine⟨i,b,by rw[Of];exact hi, ?_⟩
   simpa using h
  ·rintro⟨i,c,hi,h⟩
   rw[Of]at hi
   exact⟨c,List.mem_iff_getElem?.2 ⟨i,hi⟩,by simpa using h⟩
theorem Ho(s:ByteArray)(hs:s.size<ia):ep (fun k=>jV k s) (Ge s):=by
 unfold ia at hs
 refine ep.run (fun k=>vz k s) (ep.of ?_)
 simp only[rY]
 refine ak.bif (fun h1=> ?_) (fun h=>ak.const _ (GP.no fun hP=>by have:=hP.1;simp at h;omega))
 refine ak.bif (fun h2=> ?_) (fun h=>ak.const _ (GP.no fun hP=>by have:=hP.1;simp at h;omega))
 simp at h1 h2
 refine ak.Ds (Ls s (by omega)) fun b hb=> ?_
 refine ak.bif (fun h3=> ?_) (fun h=>ak.const _ (GP.no fun hP=> ?_))
 ·have hno:∀(i:Nat) c,s[i]? =some c→c≠0∧c≠47:=fun i c hc=>by
   have hbf:b=false:=by simpa using h3
   refine⟨fun e=> ?_,fun e=> ?_⟩
   ·have:=hb.2 ⟨i,c,hc,.inl e⟩;rw[hbf]at this;cases this
   ·have:=hb.2 ⟨i,c,hc,.inr e⟩;rw[hbf]at this;cases this
  refine ak.bif (fun h4=> ?_) (fun h=>ak.const _ (GP.no fun hP=>hP.2.1 ((gQ _ _).1 (by simpa using h))))
  refine ak.const _ (GP.ret ?_)
  constructor
  ·intro h5
   refine⟨⟨by omega,by omega⟩,fun e=> ?_,fun e=> ?_,hno⟩
   ·rw[(gQ _ _).2 e]at h4;cases h4
   ·rw[(gQ _ _).2 e]at h5;cases h5
  ·intro hP
   cases he:EJ s (⟨#[46,46]⟩:ByteArray)with
   |false=>rfl
   |true=>exact absurd ((gQ _ _).1 he) hP.2.2.1
 ·have hbt:b=true:=by simpa using h
  obtain⟨i,c,hc,h⟩:=hb.1 hbt
  have:=hP.2.2.2 i c hc
  rcases h with h|h
  ·exact this.1 h
  ·exact this.2 h
def PX(e:ByteArray×Int):ByteArray:=JT ((vk (e.2+1) 2++vk (e.1.size:Int) 1)++e.1) 16
theorem ND(e:ByteArray×Int)(h:e.1.size≤1000):((vk (e.2+1) 2++vk (e.1.size:Int) 1)++e.1).size≤1003:=by
 have h1:=iI (e.2+1) 2
 have h2:=iI (e.1.size:Int) 1
 rw[aG,aG];omega
theorem E8(e:ByteArray×Int)(h:e.1.size≤1000)(h0:0≤e.2)(h1:e.2<1000000):Ev (fun k=>qb k e) (PX e):=by
 obtain⟨s,i⟩:=e
 simp only at h h0 h1
 refine aw.run (fun k=>Ej k _) ?_
 have hw:aa .i64 (i+1)=i+1:=aV (by omega) (by omega)
 have hp:=ND (s,i) h
 have hp1:=iI (i+1) 2
 have hp2:=iI (s.size:Int) 1
 simp only[DN,hw]
 refine aw.bind (pL (i+1) 2 (by omega) (by omega)) (aw.bind (pL (s.size:Int) 1 (by omega) (by omega)) ?_)
 refine aw.pK (by omega) (aw.pK (by rw[aG];omega) (aw.bind (G7 _ 16 (by omega) (by simp only at hp;omega)) (aw.const _)))
theorem F3(e:ByteArray×Int)(h:e.1.size≤1000)(h0:0≤e.2)(h1:e.2<1000000):Ev (fun k=>lY k e) (PX e):=by
 obtain⟨s,i⟩:=e
 simp only at h h0 h1
 refine aw.run (fun k=>zy k _) ?_
 have hw:aa .i64 (i+1)=i+1:=aV (by omega) (by omega)
 have hp:=ND (s,i) h
 have hp1:=iI (i+1) 2
 have hp2:=iI (s.size:Int) 1
 simp only[u3,hw]
 refine aw.bind (pI (i+1) 2 (by omega) (by omega)) (aw.bind (pI (s.size:Int) 1 (by omega) (by omega)) ?_)
 refine aw.pK (by omega) (aw.pK (by rw[aG];omega) (aw.bind (yd _ 16 (by omega) (by simp only at hp;omega)) (aw.const _)))
end Go.Proofs.YtkdcfeopelbojaaGreatDoor

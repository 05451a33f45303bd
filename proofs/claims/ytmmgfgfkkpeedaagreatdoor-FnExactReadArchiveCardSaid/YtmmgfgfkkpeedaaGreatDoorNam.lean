/- The tables, the residual functions and lemmas of this seat: parts of the proof of the law; conditions: those that each names. -/
import Derived.Test.YtmmgfgfkkpeedaaGreatDoorIac
set_option linter.unusedVariables false
set_option linter.unusedSimpArgs false
set_option maxRecDepth 100000
namespace Go.Proofs.YtmmgfgfkkpeedaaGreatDoor
open Go.Eng
def nameP(s:ByteArray):Prop:=(1≤s.size∧s.size≤12)∧s≠(⟨#[46]⟩:ByteArray)∧s≠(⟨#[46,46]⟩:ByteArray)∧∀(i:Nat) c,s[i]? =some c→c≠0∧c≠47
theorem byte_eq(c:UInt8)(n:Nat)(hn:n<256):((c.toNat:Int)==(n:Int))=true↔c=UInt8.ofNat n:=by
 rw[beq_iff_eq]
 constructor
 ·intro h
  have:c.toNat=n:=by omega
  rw[←this];simp
 ·intro h
  subst h
  simp;omega
theorem spec_name_say(s:ByteArray)(hs:s.size<big):Say (fun k=>c_spec_IsEntryName k s) (nameP s):=by
 unfold big at hs
 refine Say.run (fun k=>spec_IsEntryName_run k s) (Say.of ?_)
 simp only[spec_IsEntryName]
 refine EvX.bind (l01In_ev _ _ _) ?_
 refine EvX.bif (fun h=>EvX.const _ (GP.no fun hP=>by have:=hP.1;simp at h;omega)) (fun h1=> ?_)
 refine EvX.bif (fun h=>EvX.const _ (GP.no fun hP=>hP.2.1 ((eqS_iff _ _).1 h))) (fun h2=> ?_)
 refine EvX.bif (fun h=>EvX.const _ (GP.no fun hP=>hP.2.2.1 ((eqS_iff _ _).1 h))) (fun h3=> ?_)
 simp at h1
 refine EvX.upto (L:=fun k _=>spec_IsEntryName_l1 k) s.size (fun(_:Unit) i=>(s,(i:Int))) (fun _ i=>∀j c,j<i→s[j]? =some c→c≠0∧c≠47) (fun _ i hi inv=> ?_) (fun _ inv=> ?_) () 0 (Nat.zero_le _) (by simp)
 ·have hw:wrapK .i64 ((i:Int)+1)=((i+1:Nat):Int):=by rw[i64w (by omega) (by omega)];omega
  have hx:s[i]? =some s[i]:=getElem?_pos s i hi
  simp only[spec_IsEntryName_l1,Int.ofNat_lt,hi,decide_true,cond_true,Int.natCast_nonneg,if_true,Int.toNat_natCast,hx,Option.map_some,Option.bind_some,hw]
  refine EvX.bif (fun h=>EvX.const _ (GL.ret (GP.no fun hP=>(hP.2.2.2 i _ hx).1 ((byte_eq _ 0 (by omega)).1 h)))) (fun h4=> ?_)
  refine EvX.bif (fun h=>EvX.const _ (GL.ret (GP.no fun hP=>(hP.2.2.2 i _ hx).2 ((byte_eq _ 47 (by omega)).1 h)))) (fun h5=> ?_)
  refine EvX.const _ (GL.self () rfl fun j c hj hc=> ?_)
  by_cases hji:j=i
  ·subst hji;rw[hx]at hc;cases hc
   refine⟨fun e=> ?_,fun e=> ?_⟩
   ·have:=(byte_eq s[j] 0 (by omega)).2 e;rw[show(((s[j]).toNat:Int)==((0:Nat):Int))=false from h4]at this;cases this
   ·have:=(byte_eq s[j] 47 (by omega)).2 e;rw[show(((s[j]).toNat:Int)==((47:Nat):Int))=false from h5]at this;cases this
  ·exact inv j c (by omega) hc
 ·simp only[spec_IsEntryName_l1,Int.lt_irrefl,decide_false,cond_false]
  refine EvX.const _ (GE.ret (GP.yes ⟨⟨by omega,by omega⟩,fun e=> ?_,fun e=> ?_,fun i c hc=>inv i c ?_ hc⟩))
  ·rw[(eqS_iff _ _).2 e]at h2;cases h2
  ·rw[(eqS_iff _ _).2 e]at h3;cases h3
  ·rcases Nat.lt_or_ge i s.size with h|h
   ·exact h
   ·rw[getElem?_neg s i (by omega)]at hc;cases hc
theorem indexAny_ge0(chars:List UInt8):∀l:List UInt8,0≤Lib.indexAny l chars↔∃b∈l,chars.contains b=true
 |[]=>by simp[Lib.indexAny]
 |b::l=>by
  have ih:=indexAny_ge0 chars l
  have hge:=Lib.indexAny_ge chars l
  unfold Lib.indexAny
  by_cases hb:chars.contains b=true
  ·rw[if_pos hb];exact⟨fun _=>⟨b,List.mem_cons_self ..,hb⟩,fun _=>Int.le_refl _⟩
  ·rw[if_neg hb]
   by_cases hm:Lib.indexAny l chars= -1
   ·rw[if_pos (by simpa using hm)]
    constructor
    ·intro h;omega
    ·rintro⟨c,hc,h⟩
     rcases List.mem_cons.1 hc with rfl|hc
     ·exact absurd h hb
     ·have:=ih.2 ⟨c,hc,h⟩;omega
   ·rw[if_neg (by simpa using hm)]
    constructor
    ·intro _
     obtain⟨c,hc,h⟩:=ih.1 (by omega)
     exact⟨c,List.mem_cons_of_mem _ hc,h⟩
    ·intro _;omega
theorem contains_ev(s:ByteArray)(hs:s.size<1000):Say (fun k=>c_strings_ContainsAny k (s,(⟨#[0,47]⟩:ByteArray))) (∃(i:Nat) (c:UInt8),s[i]? =some c∧(c=0∨c=47)):=by
 refine⟨Lib.containsAny s.data.toList [0,47],EvQ.run (fun k=>c_strings_ContainsAny_run k _) ?_, ?_⟩
 ·have:ext_strings_ContainsAny (s,(⟨#[0,47]⟩:ByteArray))=some (Lib.containsAny s.data.toList [0,47]):=by
   unfold ext_strings_ContainsAny
   rw[if_pos ⟨by show s.size<_;omega,by show(⟨#[0,47]⟩:ByteArray).size<4294967281;decide,by show((⟨#[0,47]⟩:ByteArray).data.toList.all fun b=>decide (b.toNat<128))=true;decide⟩]
  rw[this];exact EvQ.const _
 ·unfold Lib.containsAny
  rw[decide_eq_true_eq,indexAny_ge0]
  constructor
  ·rintro⟨b,hb,h⟩
   obtain⟨i,hi⟩:=List.mem_iff_getElem?.1 hb
   refine⟨i,b,by rw[bget];exact hi, ?_⟩
   simpa using h
  ·rintro⟨i,c,hi,h⟩
   rw[bget]at hi
   exact⟨c,List.mem_iff_getElem?.2 ⟨i,hi⟩,by simpa using h⟩
theorem impl_name_say(s:ByteArray)(hs:s.size<big):Say (fun k=>c_impl_IsEntryName k s) (nameP s):=by
 unfold big at hs
 refine Say.run (fun k=>impl_IsEntryName_run k s) (Say.of ?_)
 simp only[impl_IsEntryName]
 refine EvX.bif (fun h1=> ?_) (fun h=>EvX.const _ (GP.no fun hP=>by have:=hP.1;simp at h;omega))
 refine EvX.bif (fun h2=> ?_) (fun h=>EvX.const _ (GP.no fun hP=>by have:=hP.1;simp at h;omega))
 simp at h1 h2
 refine EvX.say (contains_ev s (by omega)) fun b hb=> ?_
 refine EvX.bif (fun h3=> ?_) (fun h=>EvX.const _ (GP.no fun hP=> ?_))
 ·have hno:∀(i:Nat) c,s[i]? =some c→c≠0∧c≠47:=fun i c hc=>by
   have hbf:b=false:=by simpa using h3
   refine⟨fun e=> ?_,fun e=> ?_⟩
   ·have:=hb.2 ⟨i,c,hc,.inl e⟩;rw[hbf]at this;cases this
   ·have:=hb.2 ⟨i,c,hc,.inr e⟩;rw[hbf]at this;cases this
  refine EvX.bif (fun h4=> ?_) (fun h=>EvX.const _ (GP.no fun hP=>hP.2.1 ((eqS_iff _ _).1 (by simpa using h))))
  refine EvX.const _ (GP.ret ?_)
  constructor
  ·intro h5
   refine⟨⟨by omega,by omega⟩,fun e=> ?_,fun e=> ?_,hno⟩
   ·rw[(eqS_iff _ _).2 e]at h4;cases h4
   ·rw[(eqS_iff _ _).2 e]at h5;cases h5
  ·intro hP
   cases he:eqS s (⟨#[46,46]⟩:ByteArray)with
   |false=>rfl
   |true=>exact absurd ((eqS_iff _ _).1 he) hP.2.2.1
 ·have hbt:b=true:=by simpa using h
  obtain⟨i,c,hc,h⟩:=hb.1 hbt
  have:=hP.2.2.2 i c hc
  rcases h with h|h
  ·exact this.1 h
  ·exact this.2 h
end Go.Proofs.YtmmgfgfkkpeedaaGreatDoor

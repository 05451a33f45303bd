/- The tables, the residual functions and lemmas of this seat: parts of the proof of the law; conditions: those that each names. -/
import Derived.Test.YtmmgfgfkkpeedaaGreatDoorNam
import Derived.Test.YtmmgfgfkkpeedaaGreatDoorJoi
set_option linter.unusedVariables false
set_option linter.unusedSimpArgs false
set_option maxRecDepth 100000
namespace Go.Proofs.YtmmgfgfkkpeedaaGreatDoor
open Go.Eng
def spS(s:ByteArray)(c:UInt8):Nat→List ByteArray×Nat
 |0=>([],0)
 |i+1=>match s[i]? with
  |some x=>if x=c then((spS s c i).1++[s.extract (spS s c i).2 i],i+1)else spS s c i
  |none=>spS s c i
def splitV(s:ByteArray)(c:UInt8):List ByteArray:=(spS s c s.size).1++[s.extract (spS s c s.size).2 s.size]
theorem spS_le(s:ByteArray)(c:UInt8):∀i,(spS s c i).2≤i∧(spS s c i).1.length≤i
 |0=>⟨Nat.le_refl _,Nat.le_refl _⟩
 |i+1=>by
  obtain⟨h1,h2⟩:=spS_le s c i
  simp only[spS]
  cases s[i]? with
  |none=>simp only;exact⟨by omega,by omega⟩
  |some x=>
   simp only
   split
   ·exact⟨Nat.le_refl _,by rw[List.length_append];show _+1≤_;omega⟩
   ·exact⟨by omega,by omega⟩
theorem sep_byte(x c:UInt8):((x.toNat:Int)==(c.toNat:Int))=true↔x=c:=by
 rw[beq_iff_eq]
 exact⟨fun h=>UInt8.toNat_inj.1 (by omega),fun h=>by rw[h]⟩
theorem spS_yes{s:ByteArray}{c x:UInt8}{i:Nat}(hx:s[i]? =some x)(h:x=c):spS s c (i+1)=((spS s c i).1++[s.extract (spS s c i).2 i],i+1):=by
 simp only[spS,hx,if_pos h]
theorem spS_no{s:ByteArray}{c x:UInt8}{i:Nat}(hx:s[i]? =some x)(h:¬x=c):spS s c (i+1)=spS s c i:=by
 simp only[spS,hx,if_neg h]
theorem spec_Split_ev(s:ByteArray)(c:UInt8)(hs:s.size≤1048576):Ev (fun k=>c_spec_SplitAny k (s,(⟨#[c]⟩:ByteArray))) (splitV s c):=by
 refine EvQ.run (fun k=>spec_SplitAny_run k _ _) ?_
 simp only[spec_SplitAny]
 refine Ev.eq ?_
 refine EvX.upto (L:=fun k _=>spec_SplitAny_l2 k) s.size (fun(st:List ByteArray×Nat) i=>(s,(⟨#[c]⟩:ByteArray),st.1,(st.2:Int),(i:Int))) (fun st i=>st=spS s c i) (fun st i hi inv=> ?_) (fun st inv=> ?_) ([],0) 0 (Nat.zero_le _) rfl
 ·have hx:s[i]? =some s[i]:=getElem?_pos s i hi
  have hxi:s[((i:Nat):Int).toNat]? =some s[i]:=hx
  obtain⟨b1,b2⟩:=spS_le s c i
  rw[←inv]at b1 b2
  have hc0:(⟨#[c]⟩:ByteArray)[0]? =some c:=rfl
  have z1:(⟨#[c]⟩:ByteArray).size=1:=rfl
  have z2:((0:Nat):Int)<(((⟨#[c]⟩:ByteArray).size:Nat):Int):=by rw[z1];omega
  have z3:¬((1:Nat):Int)<(((⟨#[c]⟩:ByteArray).size:Nat):Int):=by rw[z1];omega
  simp only[spec_SplitAny_l2,Int.ofNat_lt,hi,decide_true,cond_true]
  refine EvX.upto (L:=fun k (p:Unit×(_→Option (List ByteArray)))=>spec_SplitAny_l1 k p.2) 1 (fun(_:Unit) j=>(s,(⟨#[c]⟩:ByteArray),st.1,(st.2:Int),(i:Int),(j:Int))) (fun _ j=>1≤j→¬s[i]=c) (fun _ j hj inv2=> ?_) (fun _ inv2=> ?_) () 0 (Nat.zero_le _) (by omega)
  ·have hj0:j=0:=by omega
   subst hj0
   have hcap:(st.1.length+([s.extract st.2 i]:List ByteArray).length)*16≤capBytes:=by
    show(st.1.length+1)*16≤capBytes;unfold capBytes;omega
   simp only[spec_SplitAny_l1,z2,decide_true,cond_true,Int.natCast_nonneg,if_true,hx,Int.toNat_natCast,hc0,Option.map_some,Option.bind_some,wS i,show(i:Int)≤(s.size:Int)by omega,show(st.2:Int)≤(i:Int)by omega,hcap,show wrapK .i64 (((0:Nat):Int)+1)=((0+1:Nat):Int)from i64w (by omega) (by omega)]
   refine EvX.bif (fun h=> ?_) (fun h=> ?_)
   ·have h:=(sep_byte _ _).1 h
    refine EvX.const _ (GL.up (S:=Unit×(_→Option (List ByteArray))) (fun q=>q.2 (s,(⟨#[c]⟩:ByteArray),st.1++[s.extract st.2 i],((i+1:Nat):Int),((i+1:Nat):Int))) ?_)
    refine GL.self (st.1++[s.extract st.2 i],i+1) rfl ?_
    rw[spS_yes hx h,←inv]
   ·refine EvX.const _ (GL.self () rfl fun _ e=> ?_)
    rw[(sep_byte _ _).2 e]at h;cases h
  ·simp only[spec_SplitAny_l1,z3,decide_false,cond_false,wS i]
   refine EvX.const _ (GE.up (S:=Unit×(_→Option (List ByteArray))) (fun q=>q.2 (s,(⟨#[c]⟩:ByteArray),st.1,(st.2:Int),((i+1:Nat):Int))) ?_)
   refine GL.self st rfl ?_
   rw[spS_no hx (inv2 (Nat.le_refl _)),←inv]
 ·obtain⟨b1,b2⟩:=spS_le s c s.size
  rw[←inv]at b1 b2
  have hcap:(st.1.length+([s.extract st.2 s.size]:List ByteArray).length)*16≤capBytes:=by
   show(st.1.length+1)*16≤capBytes;unfold capBytes;omega
  simp only[spec_SplitAny_l2,Int.lt_irrefl,decide_false,cond_false,Int.natCast_nonneg,if_true,show(st.2:Int)≤(s.size:Int)by omega,Int.toNat_natCast,hcap]
  refine EvX.const _ (GE.ret (GR.ret ?_))
  rw[splitV,←inv]
theorem index_one(b c:UInt8):Lib.indexByte [c] b=if c=b then 0 else-1:=by
 unfold Lib.indexByte
 by_cases h:c=b
 ·simp[h]
 ·simp[h,Lib.indexByte]
theorem impl_Split_ev(s:ByteArray)(c:UInt8)(hs:s.size≤1048576):Ev (fun k=>c_impl_SplitAny k (s,(⟨#[c]⟩:ByteArray))) (splitV s c):=by
 refine EvQ.run (fun k=>impl_SplitAny_run k _ _) ?_
 simp only[impl_SplitAny]
 refine EvL.ev ?_
 refine EvL.count (L:=impl_SplitAny_l1) (r:=splitV s c) (fun i=>(s,(⟨#[c]⟩:ByteArray),(spS s c i).1,((spS s c i).2:Int),(s.size:Int),(i:Int))) s.size (fun i hi=> ?_) (EvL.stop ?_)
 ·have hx:s[i]? =some s[i]:=getElem?_pos s i hi
  obtain⟨b1,b2⟩:=spS_le s c i
  have hcap:((spS s c i).1.length+([s.extract (spS s c i).2 i]:List ByteArray).length)*16≤capBytes:=by
   show(_+1)*16≤capBytes;unfold capBytes;omega
  have hidx:Ev (fun k=>c_strings_IndexByte k ((⟨#[c]⟩:ByteArray),(s[i].toNat:Int))) (if c=s[i]then 0 else-1):=by
   refine EvQ.run (fun k=>c_strings_IndexByte_run k _) ?_
   have e:ext_strings_IndexByte ((⟨#[c]⟩:ByteArray),(s[i].toNat:Int))=some (if c=s[i]then 0 else-1):=by
    show some (Lib.indexByte [c] (((s[i].toNat:Int)).toNat.toUInt8))=_
    rw[Int.toNat_natCast,show(s[i].toNat).toUInt8=s[i]from UInt8.ofNat_toNat,index_one]
   rw[e];exact EvQ.const _
  simp only[EvS,impl_SplitAny_l1,Int.ofNat_lt,hi,decide_true,cond_true,Int.natCast_nonneg,if_true,Int.toNat_natCast,hx,Option.map_some,Option.bind_some,wS i,show(i:Int)≤(s.size:Int)by omega,show((spS s c i).2:Int)≤(i:Int)by omega,hcap]
  refine EvQ.bindS hidx ?_
  by_cases h:s[i]=c
  ·rw[if_pos h.symm,spS_yes hx h]
   exact EvQ.const _
  ·rw[if_neg (Ne.symm h),spS_no hx h]
   exact EvQ.const _
 ·obtain⟨b1,b2⟩:=spS_le s c s.size
  have hcap:((spS s c s.size).1.length+([s.extract (spS s c s.size).2 s.size]:List ByteArray).length)*16≤capBytes:=by
   show(_+1)*16≤capBytes;unfold capBytes;omega
  simp only[impl_SplitAny_l1,Int.lt_irrefl,decide_false,cond_false,Int.natCast_nonneg,if_true,show((spS s c s.size).2:Int)≤(s.size:Int)by omega,Int.toNat_natCast,hcap]
  exact EvQ.const _
theorem spS_mem{s x:ByteArray}{c:UInt8}:∀{i:Nat},x∈(spS s c i).1→x.size≤s.size
 |0,h=>by cases h
 |i+1,h=>by
  simp only[spS]at h
  cases hs:s[i]? with
  |none=>rw[hs]at h;exact spS_mem h
  |some y=>
   rw[hs]at h
   simp only at h
   split at h
   ·rcases List.mem_append.1 h with h|h
    ·exact spS_mem h
    ·rw[List.mem_singleton.1 h,ByteArray.size_extract];omega
   ·exact spS_mem h
theorem splitV_ok(s:ByteArray)(c:UInt8):(splitV s c).length≤s.size+1∧∀x∈splitV s c,x.size≤s.size:=by
 have:=(spS_le s c s.size).2
 refine⟨by rw[splitV,List.length_append];show _+1≤_;omega,fun x hx=> ?_⟩
 rcases List.mem_append.1 hx with h|h
 ·exact spS_mem h
 ·rw[List.mem_singleton.1 h,ByteArray.size_extract];omega
def plainP(s:ByteArray):Prop:=∀(i:Nat) c,s[i]? =some c→c≠32∧c≠10
theorem contains2_ev(s:ByteArray)(hs:s.size<1000):Say (fun k=>c_strings_ContainsAny k (s,(⟨#[32,10]⟩:ByteArray))) (¬plainP s):=by
 refine⟨Lib.containsAny s.data.toList [32,10],EvQ.run (fun k=>c_strings_ContainsAny_run k _) ?_, ?_⟩
 ·have:ext_strings_ContainsAny (s,(⟨#[32,10]⟩:ByteArray))=some (Lib.containsAny s.data.toList [32,10]):=by
   unfold ext_strings_ContainsAny
   rw[if_pos ⟨by show s.size<_;omega,by show(⟨#[32,10]⟩:ByteArray).size<4294967281;decide,by show((⟨#[32,10]⟩:ByteArray).data.toList.all fun b=>decide (b.toNat<128))=true;decide⟩]
  rw[this];exact EvQ.const _
 ·unfold Lib.containsAny
  rw[decide_eq_true_eq,indexAny_ge0]
  constructor
  ·rintro⟨b,hb,h⟩ hP
   obtain⟨i,hi⟩:=List.mem_iff_getElem?.1 hb
   have:=hP i b (by rw[bget];exact hi)
   simp at h
   rcases h with h|h
   ·exact this.1 h
   ·exact this.2 h
  ·intro hn
   apply Classical.byContradiction
   intro hno
   refine hn fun i c hc=>⟨fun e=>hno ⟨c, ?_,by simp[e]⟩,fun e=>hno ⟨c, ?_,by simp[e]⟩⟩
   ·rw[bget]at hc;exact List.mem_iff_getElem?.2 ⟨i,hc⟩
   ·rw[bget]at hc;exact List.mem_iff_getElem?.2 ⟨i,hc⟩
theorem impl_plain_say(s:ByteArray)(hs:s.size<1000):Say (fun k=>c_impl_isPlain k s) (plainP s):=by
 refine Say.run (fun k=>impl_isPlain_run k s) (Say.of ?_)
 simp only[impl_isPlain]
 refine EvX.say (contains2_ev s hs) fun b hb=>EvX.const _ (GP.ret ?_)
 cases b with
 |true=>exact⟨(fun h=>by cases h),fun h=>absurd h (hb.1 rfl)⟩
 |false=>exact⟨fun _=>Classical.byContradiction (fun h=>by have:=hb.2 h;cases this),fun _=>rfl⟩
theorem spec_plain_say(s:ByteArray)(hs:s.size<big):Say (fun k=>c_spec_l23Plain k s) (nameP s∧plainP s):=by
 have hs':=hs
 unfold big at hs
 refine Say.run (fun k=>spec_l23Plain_run k s) (Say.of ?_)
 simp only[spec_l23Plain]
 refine EvX.upto (L:=fun k _=>spec_l23Plain_l1 k) s.size (fun(_:Unit) i=>(s,(i:Int))) (fun _ i=>∀j c,j<i→s[j]? =some c→c≠32∧c≠10) (fun _ i hi inv=> ?_) (fun _ inv=> ?_) () 0 (Nat.zero_le _) (by simp)
 ·have hw:wrapK .i64 ((i:Int)+1)=((i+1:Nat):Int):=by rw[i64w (by omega) (by omega)];omega
  have hx:s[i]? =some s[i]:=getElem?_pos s i hi
  simp only[spec_l23Plain_l1,Int.ofNat_lt,hi,decide_true,cond_true,Int.natCast_nonneg,if_true,Int.toNat_natCast,hx,Option.map_some,Option.bind_some,hw]
  refine EvX.bif (fun h=>EvX.const _ (GL.ret (GP.no fun hP=>(hP.2 i _ hx).1 ((byte_eq _ 32 (by omega)).1 h)))) (fun h4=> ?_)
  refine EvX.bif (fun h=>EvX.const _ (GL.ret (GP.no fun hP=>(hP.2 i _ hx).2 ((byte_eq _ 10 (by omega)).1 h)))) (fun h5=> ?_)
  refine EvX.const _ (GL.self () rfl fun j c hj hc=> ?_)
  by_cases hji:j=i
  ·subst hji;rw[hx]at hc;cases hc
   refine⟨fun e=> ?_,fun e=> ?_⟩
   ·have:=(byte_eq s[j] 32 (by omega)).2 e;rw[show(((s[j]).toNat:Int)==((32:Nat):Int))=false from h4]at this;cases this
   ·have:=(byte_eq s[j] 10 (by omega)).2 e;rw[show(((s[j]).toNat:Int)==((10:Nat):Int))=false from h5]at this;cases this
  ·exact inv j c (by omega) hc
 ·simp only[spec_l23Plain_l1,Int.lt_irrefl,decide_false,cond_false]
  refine EvX.say (spec_name_say s hs') fun b hb=>EvX.const _ (GE.ret (GP.ret ?_))
  rw[hb]
  refine⟨fun h=>⟨h,fun i c hc=>inv i c ?_ hc⟩,fun h=>h.1⟩
  rcases Nat.lt_or_ge i s.size with h|h
  ·exact h
  ·rw[getElem?_neg s i (by omega)]at hc;cases hc
end Go.Proofs.YtmmgfgfkkpeedaaGreatDoor

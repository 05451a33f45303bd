/- The tables, the residual functions and lemmas of this seat: parts of the proof of the law; conditions: those that each names. -/
import Derived.Test.YtmmgfgfkkpeedaaGreatDoorCtt
set_option linter.unusedVariables false
set_option linter.unusedSimpArgs false
set_option maxRecDepth 100000
namespace Go.Proofs.YtmmgfgfkkpeedaaGreatDoor
open Go.Eng
def bitB(t:ByteArray)(i:Nat):Nat:=match t[i]? with
 |some b=>if b=45 then 0 else 1
 |none=>0
def nmT(t:ByteArray):Nat→Nat
 |0=>0
 |i+1=>2*nmT t i+bitB t i
theorem bitB_le(t:ByteArray)(i:Nat):bitB t i≤1:=by unfold bitB;split<;>(try split)<;>omega
theorem nm_lt(t:ByteArray):∀i,nmT t i<2 ^ i
 |0=>Nat.one_pos
 |i+1=>by have:=nm_lt t i;have:=bitB_le t i;rw[nmT,Nat.pow_succ];omega
theorem nm_11(t:ByteArray){i:Nat}(h:i≤11):nmT t i≤2047:=by
 have:=nm_lt t i
 have:2 ^ i≤2 ^ 11:=Nat.pow_le_pow_right (by omega) h
 have e:(2:Nat)^ 11=2048:=rfl
 omega
theorem nm_div(t:ByteArray)(j:Nat):∀d,nmT t (j+d) / 2 ^ d=nmT t j
 |0=>by simp
 |d+1=>by
  have h:=bitB_le t (j+d)
  rw[show j+(d+1)=j+d+1 by omega,nmT,Nat.pow_succ,Nat.mul_comm (2 ^ d) 2,←Nat.div_div_eq_div_mul,show(2*nmT t (j+d)+bitB t (j+d)) / 2=nmT t (j+d)by omega]
  exact nm_div t j d
theorem nm_bit(t:ByteArray){k:Nat}(hk:k<11):modeBit (nmT t 11:Int) k=decide (bitB t k=0):=by
 have h:=nm_div t (k+1) (10-k)
 rw[show k+1+(10-k)=11 by omega]at h
 have hb:=bitB_le t k
 have e:(nmT t 11:Int) / 2 ^(10-k)=((nmT t (k+1):Nat):Int):=by
  rw[←h,Int.natCast_ediv,Int.natCast_pow];rfl
 rw[modeBit,e,nmT,decide_eq_decide]
 omega
def okC(t:ByteArray):Prop:=t.size=11∧∀(i:Nat) b,t[i]? =some b→b=45∨(b.toNat:Int)=letL i
theorem letB_all:∀i:Fin 11,((⟨#[115,116,114,119,120,114,119,120,114,119,120]⟩:ByteArray)[i.val]?.map fun v0=>(v0.toNat:Int))=some (letL i.val)∧letL i.val≠45∧0≤letL i.val∧letL i.val<256:=by decide
theorem modeT_all{m:Int}(h:0≤m∧m≤2047):modeT m=ofBytes ((List.range 11).map (chL m)):=by
 rw[modeT,if_pos (by omega),modeL_all]
theorem modeT_11{m:Int}(h:0≤m∧m≤2047):(modeT m).size=11:=by
 rw[modeT_all h,ofBytes_size,List.length_map,List.length_range]
theorem modeT_get{m:Int}(h:0≤m∧m≤2047){i:Nat}(hi:i<11):(modeT m)[i]? =some (UInt8.ofNat (chL m i).toNat):=by
 rw[modeT_all h,bget,ofBytes_list,List.getElem?_map,List.getElem?_map,List.getElem?_range hi];rfl
theorem ok_of_mode{m:Int}{t:ByteArray}(h:0≤m∧m≤2047)(e:modeT m=t):okC t:=by
 subst e
 refine⟨modeT_11 h,fun i b hb=> ?_⟩
 have hi:i<11:=by
  rcases Nat.lt_or_ge i (modeT m).size with h'|h'
  ·rw[modeT_11 h]at h';exact h'
  ·rw[getElem?_neg _ i (by omega)]at hb;cases hb
 rw[modeT_get h hi]at hb
 injection hb with hb
 obtain⟨_,a1,a2,a3⟩:=letB_all ⟨i,hi⟩
 simp only at a1 a2 a3
 rw[←hb]
 unfold chL
 split
 ·exact .inl rfl
 ·right
  rw[UInt8.toNat_ofNat']
  omega
theorem mode_of_ok{t:ByteArray}(h:okC t):modeT (nmT t 11:Int)=t:=by
 have hm:0≤(nmT t 11:Int)∧(nmT t 11:Int)≤2047:=by have:=nm_11 t (Nat.le_refl 11);omega
 refine bext (List.ext_getElem? fun i=> ?_)
 rw[←bget,←bget]
 have h11:=h.1
 by_cases hi:i<11
 ·have hit:i<t.size:=by omega
  have hx:t[i]? =some t[i]:=getElem?_pos t i hit
  rw[modeT_get hm hi,hx]
  congr 1
  have hc:=h.2 i _ hx
  rw[chL,nm_bit t hi]
  have hb:bitB t i=if t[i]=45 then 0 else 1:=by unfold bitB;rw[hx]
  by_cases h5:t[i]=45
  ·rw[hb,if_pos h5,h5];rfl
  ·rw[hb,if_neg h5]
   rcases hc with hc|hc
   ·exact absurd hc h5
   ·simp only[Nat.one_ne_zero,decide_false,Bool.false_eq_true,if_false]
    rw[←hc,Int.toNat_natCast];exact UInt8.ofNat_toNat
 ·rw[getElem?_neg _ i (by rw[modeT_11 hm];omega),getElem?_neg _ i (by have:=h.1;omega)]
open Classical in
noncomputable def pmV(t:ByteArray):Int×Bool:=if okC t then((nmT t 11:Int),true)else(0,false)
theorem pm_mode{m:Int}(h:0≤m∧m≤2047):(pmV (modeT m)).2=true:=by rw[pmV,if_pos (ok_of_mode h rfl)]
theorem pm_le(t:ByteArray):0≤(pmV t).1∧(pmV t).1≤2047:=by
 unfold pmV;split
 ·have:=nm_11 t (Nat.le_refl 11);exact⟨by show(0:Int)≤_;omega,by show(_:Int)≤2047;omega⟩
 ·exact⟨Int.le_refl _,by show(0:Int)≤2047;omega⟩
theorem nm_step{t:ByteArray}{i:Nat}{b:UInt8}(hx:t[i]? =some b):nmT t (i+1)=2*nmT t i+if b=45 then 0 else 1:=by rw[nmT,bitB,hx]
theorem spec_PMode_ev(t:ByteArray)(ht:t.size≤1048576):Ev (fun k=>c_spec_ParseMode k t) (pmV t):=by
 refine EvQ.run (fun k=>spec_ParseMode_run k t) ?_
 simp only[spec_ParseMode]
 have fin:Ev (fun k=>(c_spec_FormatMode k (nmT t (min t.size 11):Int)).bind fun v3=>(bif (!(eqS v3 t))then some ((0:Int),false)else some ((nmT t (min t.size 11):Int),true))) (pmV t):=by
  have hm:0≤(nmT t (min t.size 11):Int)∧(nmT t (min t.size 11):Int)≤2047:=by have:=nm_11 t (Nat.min_le_right t.size 11);omega
  refine EvQ.bind (spec_Mode_ev hm) ?_
  cases he:eqS (modeT (nmT t (min t.size 11):Int)) t with
  |true=>
   have e:=(eqS_iff _ _).1 he
   have ok:=ok_of_mode hm e
   rw[pmV,if_pos ok,show min t.size 11=11 by have:=ok.1;omega]
   exact EvQ.const _
  |false=>
   rw[pmV,if_neg]
   ·exact EvQ.const _
   ·intro ok
    rw[show min t.size 11=11 by have:=ok.1;omega,(eqS_iff _ _).2 (mode_of_ok ok)]at he;cases he
 refine EvL.ev ?_
 refine EvL.count (L:=spec_ParseMode_l1) (r:=pmV t) (fun i=>(t,(nmT t i:Int),(i:Int))) (min t.size 11) (fun i hi=> ?_) (EvL.stop ?_)
 ·have hx:t[i]? =some t[i]:=getElem?_pos t i (by omega)
  have hn:=nm_11 t (show i≤11 by omega)
  have w1:wrapK .i64 ((2:Int)*(nmT t i:Int))=((2*nmT t i:Nat):Int):=by rw[i64w (by omega) (by omega)];omega
  have w2:wrapK .i64 (((2*nmT t i:Nat):Int)+1)=((2*nmT t i+1:Nat):Int):=by rw[i64w (by omega) (by omega)];omega
  simp only[EvS,spec_ParseMode_l1,show(i:Int)<(t.size:Int)by omega,show(i:Int)<11 by omega,decide_true,cond_true,Int.natCast_nonneg,if_true,Int.toNat_natCast,hx,Option.map_some,Option.bind_some,w1,w2,wS i]
  rw[nm_step hx]
  by_cases h5:t[i]=45
  ·rw[if_pos h5,h5]
   exact EvQ.const _
  ·have:((t[i].toNat:Int) != (45:Int))=true:=by
    rw[bne_iff_ne];intro e
    exact h5 (UInt8.toNat_inj.1 (show t[i].toNat=(45:UInt8).toNat by show _=45;omega))
   rw[if_neg h5,this]
   exact EvQ.const _
 ·simp only[spec_ParseMode_l1]
  by_cases h1:t.size≤11
  ·have e:min t.size 11=t.size:=by omega
   have:¬((min t.size 11:Nat):Int)<(t.size:Int):=by omega
   simp only[this,decide_false,cond_false]
   obtain⟨N,hN⟩:=fin
   exact⟨N,fun k hk=>funext fun _=>hN k hk⟩
  ·have h2:((min t.size 11:Nat):Int)<(t.size:Int):=by omega
   have h3:¬((min t.size 11:Nat):Int)<11:=by omega
   simp only[h2,h3,decide_true,decide_false,cond_true,cond_false]
   obtain⟨N,hN⟩:=fin
   exact⟨N,fun k hk=>funext fun _=>hN k hk⟩
theorem impl_PMode_ev(t:ByteArray)(ht:t.size≤1048576):Ev (fun k=>c_impl_ParseMode k t) (pmV t):=by
 refine EvQ.run (fun k=>impl_ParseMode_run k t) ?_
 simp only[impl_ParseMode]
 by_cases h11:t.size=11
 case neg=>
  rw[show((t.size:Int) != 11)=true by rw[bne_iff_ne];omega,pmV,if_neg fun ok=>h11 ok.1]
  exact EvQ.const _
 rw[show((t.size:Int) != 11)=false by rw[h11];rfl]
 simp only[cond_false]
 refine Ev.eq ?_
 refine EvX.upto (L:=fun k _=>impl_ParseMode_l1 k) t.size (fun(_:Unit) i=>(t,(nmT t i:Int),(t.size:Int),(i:Int))) (fun _ i=>∀(j:Nat) b,j<i→t[j]? =some b→b=45∨(b.toNat:Int)=letL j) (fun _ i hi inv=> ?_) (fun _ inv=> ?_) () 0 (Nat.zero_le _) (by simp)
 ·have hx:t[i]? =some t[i]:=getElem?_pos t i hi
  obtain⟨a0,a1,a2,a3⟩:=letB_all ⟨i,by omega⟩
  simp only at a0 a1 a2 a3
  have hn:=nm_11 t (show i≤11 by omega)
  have w1:wrapK .i64 ((nmT t i:Int)*(2:Int))=((2*nmT t i:Nat):Int):=by rw[i64w (by omega) (by omega)];omega
  have w2:wrapK .i64 (((2*nmT t i:Nat):Int)+1)=((2*nmT t i+1:Nat):Int):=by rw[i64w (by omega) (by omega)];omega
  have hstep:=nm_step hx
  simp only[impl_ParseMode_l1,Int.ofNat_lt,hi,decide_true,cond_true,Int.natCast_nonneg,if_true,Int.toNat_natCast,hx,a0,Option.map_some,Option.bind_some,w1,w2,wS i]
  have nxt:(t[i]=45∨(t[i].toNat:Int)=letL i)→∀(j:Nat) b,j<i+1→t[j]? =some b→b=45∨(b.toNat:Int)=letL j:=fun h j b hj hb=>by
   by_cases e:j=i
   ·subst e;rw[hx]at hb;cases hb;exact h
   ·exact inv j b (by omega) hb
  refine EvX.bif (fun h=> ?_) (fun h=>EvX.bif (fun h2=> ?_) (fun h2=> ?_))
  ·have h:=eq_of_beq h
   have h5:¬t[i]=45:=fun e=>by rw[e]at h;exact a1 h.symm
   rw[if_neg h5]at hstep
   refine EvX.const _ (GL.self () (by rw[hstep]) (nxt (.inr h)))
  ·have h5:t[i]=45:=UInt8.toNat_inj.1 (by have:=eq_of_beq h2;show _=45;omega)
   rw[if_pos h5]at hstep
   refine EvX.const _ (GL.self () (by rw[hstep];rfl) (nxt (.inl h5)))
  ·refine EvX.const _ (GL.ret (GR.ret ?_))
   rw[pmV,if_neg]
   intro ok
   rcases ok.2 i _ hx with e|e
   ·rw[e]at h2;cases h2
   ·rw[e]at h;simp at h
 ·have hno:¬(t.size:Int)<(t.size:Int):=by omega
  simp only[impl_ParseMode_l1,hno,decide_false,cond_false]
  refine EvX.const _ (GE.ret (GR.ret ?_))
  rw[pmV,if_pos ⟨h11,fun i b hb=>inv i b (by
   rcases Nat.lt_or_ge i t.size with h'|h'
   ·exact h'
   ·rw[getElem?_neg _ i (by omega)]at hb;cases hb) hb⟩,h11]
end Go.Proofs.YtmmgfgfkkpeedaaGreatDoor

/- The tables, the residual functions and lemmas of this seat: parts of the proof of the law; conditions: those that each names. -/
import Derived.Test.YtkmnlefjlhogaaaAdl
set_option linter.unusedVariables false
set_option linter.unusedSimpArgs false
set_option maxRecDepth 100000
namespace Go.Proofs.Ytkmnlefjlhogaaa
open Go.Eng
inductive Dir1 (f:PFS) (d:PInode):ByteArray→Prop
 |none:xBlk d=[]→xSize d=0→Dir1 f d ⟨#[]⟩
 |one {b:Int} {s:ByteArray}:xBlk d=[b]→xSize d=16→0≤b→b<56→(fD f)[b.toNat]? =some s→s.size=32→Dir1 f d (s.extract 0 16)
theorem Dir1.size{f:PFS}{d:PInode}{t:ByteArray}(h:Dir1 f d t):(xBlk d=[]∧t.size=0∧xSize d=0)∨∃b,xBlk d=[b]∧t.size=16∧xSize d=16∧0≤b∧b<56:=by
 cases h with
 |none h1 h2=>exact .inl ⟨h1,rfl,h2⟩
 |one h1 h2 h3 h4 h5 h6=>exact .inr ⟨_,h1,by rw[ByteArray.size_extract];omega,h2,h3,h4⟩
theorem text_ev{f:PFS}{d:PInode}{t:ByteArray}(h:Dir1 f d t):Ev (fun k=>c_spec_l09Text k (f,d)) t:=by
 refine EvQ.run (fun k=>spec_l09Text_run k _ _) ?_
 cases h with
 |none h1 h2=>
  have h1':d.2.2.2.2.2.2.2.1=[]:=h1
  have h2':d.2.2.2.2.2.1=0:=h2
  simp only[spec_l09Text,h1']
  refine EvL.ev (EvL.stop ?_)
  simp only[spec_l09Text_l1,List.length_nil,Int.ofNat_zero,Int.lt_irrefl,decide_false,cond_false,h2',show ¬(0:Int)<(((⟨#[]⟩:ByteArray).size:Nat):Int)from by show ¬(0:Int)<0;decide]
  exact EvQ.const _
 |one h1 h2 h3 h4 h5 h6=>
  rename_i b s
  have h1':d.2.2.2.2.2.2.2.1=[b]:=h1
  have h2':d.2.2.2.2.2.1=16:=h2
  have h5':f.2.2.2[b.toNat]? =some s:=h5
  simp only[spec_l09Text,h1']
  have e0:(⟨#[]⟩:ByteArray)++s=s:=bext (by rw[append_list];rfl)
  have hne:(b== -1)=false:=by simp;omega
  have hsz:(⟨#[]⟩:ByteArray).size+s.size≤9223372036854775807:=by rw[h6];decide
  refine EvL.ev (EvL.step (d':=((),(),s,[b],(1:Int),(1:Int),d,f)) ?_ (EvL.stop ?_))
  ·simp only[EvS,spec_l09Text_l1,List.length_singleton,show((0:Int)<((1:Nat):Int))=True by simp,decide_true,cond_true,Int.le_refl,if_true,Int.toNat_zero,List.getElem?_cons_zero,Option.bind_some,hne,cond_false,h3,h5',hsz,e0,show wrapK .i64 ((0:Int)+1)=1 from rfl,show((1:Nat):Int)=1 from rfl]
   exact EvQ.const _
  ·have c1:(16:Int)<(s.size:Int):=by omega
   have c2:(16:Int)≤(s.size:Int):=by omega
   simp only[spec_l09Text_l1,Int.lt_irrefl,decide_false,cond_false,h2',c1,c2,decide_true,cond_true,if_true,show(0:Int)≤16 by decide,show(16:Int).toNat=16 from rfl]
   exact EvQ.const _
theorem Dir1.congr{f g:PFS}{d:PInode}{t:ByteArray}(h:Dir1 f d t)(he:∀b∈xBlk d,(fD g)[b.toNat]? =(fD f)[b.toNat]?):Dir1 g d t:=by
 cases h with
 |none h1 h2=>exact .none h1 h2
 |one h1 h2 h3 h4 h5 h6=>exact .one h1 h2 h3 h4 (by rw[he _ (by rw[h1];simp)];exact h5) h6
def recB(i:Nat)(name:ByteArray):ByteArray:=padB ((putB ((i:Int)+1) 2++putB (name.size:Int) 1)++name) 16
theorem recB_size(i:Nat){name:ByteArray}(h:name.size≤13):(recB i name).size=16:=by
 have h1:=putB_size ((i:Int)+1) 2
 have h2:=putB_size (name.size:Int) 1
 rw[recB,padB_size,app_size,app_size]
 omega
def clearD(L:List Int):Nat→List ByteArray→List ByteArray
 |0,D=>D
 |j+1,D=>match L[j]? with
  |some b=>(clearD L j D).set b.toNat zero32
  |none=>clearD L j D
theorem clearD_len(L:List Int)(D:List ByteArray):∀j,(clearD L j D).length=D.length
 |0=>rfl
 |j+1=>by
  simp only[clearD]
  cases L[j]? with
  |none=>exact clearD_len L D j
  |some b=>simp only[List.length_set];exact clearD_len L D j
theorem clear_loop{T:Type}(L:List Int)(hL:∀b∈L,0≤b∧b<56)(h8:L.length≤1000)(t:Int)(Q:List PQuota)(I:List PInode)(D:List ByteArray)(hD:D.length=56)(n:PInode)(hn:xBlk n=L)(z:PFS):
  EvX (fun k (_:Unit)=>iter k (spec_l08Add_l2 k) ((),(),(),(L.length:Int),(0:Int),(t,Q,I,D),n,z)) (fun o=>∀s,o s=some (.inr (t,Q,I,clearD L L.length D))):=by
 refine EvX.list (L:=fun k (_:Unit)=>spec_l08Add_l2 k) L (fun(st:Unit) m=>((),(),(),(L.length:Int),((m:Nat):Int),(t,Q,I,clearD L m D),n,z)) (fun _ _=>True) (fun st m b hb hm _=> ?_) (fun st _=> ?_) () trivial
 ·have hn':n.2.2.2.2.2.2.2.1=L:=hn
  obtain⟨b0,b1⟩:=hL b (List.mem_of_getElem? hb)
  have hl:=clearD_len L D m
  have hbl:b.toNat<(clearD L m D).length:=by rw[hl,hD];omega
  have hbi:b<(((clearD L m D).length:Nat):Int):=by rw[hl,hD];omega
  simp only[spec_l08Add_l2,Int.ofNat_lt,hm,decide_true,cond_true,Int.natCast_nonneg,if_true,Int.toNat_natCast,hn',hb,Option.bind_some,wS m]
  refine EvX.bind pad32_ev ?_
  simp only[b0,hbi,if_true,List.getElem?_eq_getElem hbl,Option.bind_some]
  refine EvX.const _ (GL.self () ?_ trivial)
  simp only[clearD,hb]
 ·simp only[spec_l08Add_l2,Int.lt_irrefl,decide_false,cond_false]
  exact EvX.const _ ⟨fun _=>some (.inr (t,Q,I,clearD L L.length D)),fun _=>rfl,fun _=>rfl⟩
end Go.Proofs.Ytkmnlefjlhogaaa

/- The tables, the residual functions and lemmas of this seat: parts of the proof of the law; conditions: those that each names. -/
import Derived.Test.YtbpfenmkhapeiaaGreatWsn
set_option linter.unusedVariables false
set_option linter.unusedSimpArgs false
set_option maxRecDepth 100000
namespace Go.Proofs.YtbpfenmkhapeiaaGreat
open Go.Eng
section
variable {f:PFS}
noncomputable def dangB(f:PFS)(e:PEnt):Bool:=e.2==0||match(fI f)[e.2.toNat]? with
 |some m=>m.1==0
 |none=>true
def agL(l:List PEnt)(s:ByteArray):Bool:=l.any fun o=>eqS o.1 s
def againB(l:List PEnt)(j:Nat)(e:PEnt):Bool:=agL (l.take j) e.1
theorem impl_dangling_ev(hP:fsP f){e:PEnt}(h0:0≤e.2)(h1:e.2<20):Ev (fun k=>c_impl_FS_dangling k (some f,e)) (dangB f e):=by
 refine EvQ.run (fun k=>impl_FS_dangling_run k _ _) ?_
 obtain⟨n,hn⟩:=node_at hP h0 h1
 simp only[impl_FS_dangling,dangB,hn]
 cases h:e.2==0 with
 |true=>exact EvQ.const _
 |false=>
  refine EvQ.bind (has_ev e.2 h0 h1 hn) ?_
  have:(!(n.1 != 0))=(n.1==0):=by simp only[bne,Bool.not_not]
  simp only[this,Bool.false_or]
  exact EvQ.const _
theorem agL_take{l:List PEnt}{s:ByteArray}{j:Nat}{o:PEnt}(h:l[j]? =some o):agL (l.take (j+1)) s=(agL (l.take j) s||eqS o.1 s):=by
 have:l.take (j+1)=l.take j++[o]:=by rw[List.take_add_one,h];rfl
 simp[agL,this]
theorem impl_repeated_ev{l:List PEnt}(hl:l.length<1000000){j:Nat}{e:PEnt}(he:l[j]? =some e):Ev (fun k=>c_impl_repeated k (l,(j:Int))) (againB l j e):=by
 refine EvQ.run (fun k=>impl_repeated_run k _ _) ?_
 have hj:j<l.length:=(List.getElem?_eq_some_iff.1 he).1
 simp only[impl_repeated,Int.natCast_nonneg,if_true,Int.ofNat_le,Nat.le_of_lt hj,Int.toNat_natCast,List.drop_zero]
 refine Ev.eq ?_
 refine EvX.list (L:=fun k _=>impl_repeated_l1 k) (l.take j) (fun(_:Unit) i=>(l,(j:Int),l.take j,((l.take j).length:Int),((i:Nat):Int))) (fun _ i=>agL ((l.take j).take i) e.1=false) (fun st i o ho hi inv=> ?_) (fun st inv=> ?_) () rfl
 ·rw[List.length_take]at hi
  have hi':i<(l.take j).length:=by rw[List.length_take];exact hi
  have h2:=agL_take (s:=e.1) ho
  simp only[impl_repeated_l1,Int.ofNat_lt,hi',decide_true,cond_true,Int.natCast_nonneg,if_true,Int.toNat_natCast,ho,he,Option.bind_some,wS i]
  refine EvX.bif (fun h=>EvX.const _ (GL.ret (GR.ret ?_))) (fun h=>EvX.const _ (GL.self () rfl ?_))
  ·symm
   unfold againB agL
   exact List.any_eq_true.2 ⟨o,List.mem_of_getElem? ho,h⟩
  ·rw[h2,inv,h];rfl
 ·rw[List.take_length]at inv
  simp only[impl_repeated_l1,Int.lt_irrefl,decide_false,cond_false]
  exact EvX.const _ (GE.ret (GR.ret inv.symm))
def recsV(l:List PEnt):Nat→ByteArray
 |0=>emptyB
 |j+1=>match l[j]? with
  |some e=>recsV l j++recV e
  |none=>recsV l j
theorem recV_size(e:PEnt):(recV e).size≤16+e.1.size:=by
 have h1:=putB_size (e.2+1) 2
 have h2:=putB_size (e.1.size:Int) 1
 simp only[recV,padB,ofBytes_size,List.length_append,List.length_replicate,bytesOf_len,app_size]
 omega
theorem recsV_size{l:List PEnt}(h:∀e∈l,e.1.size≤12):∀j,(recsV l j).size≤28*j
 |0=>Nat.le_refl _
 |j+1=>by
  have ih:=recsV_size h j
  simp only[recsV]
  split
  ·rename_i e he
   have h1:=recV_size e
   have h2:=h e (List.mem_of_getElem? he)
   rw[app_size];omega
  ·omega
theorem spec_records_ev{l:List PEnt}(h:∀e∈l,e.1.size≤12∧0≤e.2∧e.2<20)(hl:l.length<1000000):Ev (fun k=>c_spec_l22Records k l) (recsV l l.length):=by
 refine EvQ.run (fun k=>spec_l22Records_run k _) ?_
 simp only[spec_l22Records]
 refine Ev.eq ?_
 refine EvX.list (L:=fun k _=>spec_l22Records_l1 k) l (fun(st:ByteArray) i=>(st,l,(l.length:Int),((i:Nat):Int))) (fun st i=>st=recsV l i) (fun st i e he hi inv=> ?_) (fun st inv=> ?_) _ rfl
 ·subst inv
  obtain⟨g1,g2,g3⟩:=h e (List.mem_of_getElem? he)
  have hr:=recV_size e
  have hrs:=recsV_size (fun e he=>(h e he).1) i
  simp only[spec_l22Records_l1,Int.ofNat_lt,hi,decide_true,cond_true,Int.natCast_nonneg,if_true,Int.toNat_natCast,he,Option.bind_some,wS i]
  refine EvX.bind (spec_record_ev e (by omega) g2 (by omega)) (EvX.ifp (by omega) ?_)
  refine EvX.const _ (GL.self _ rfl ?_)
  simp only[recsV,he]
 ·simp only[spec_l22Records_l1,Int.lt_irrefl,decide_false,cond_false]
  exact EvX.const _ (GE.ret (GR.ret inv))
end
end Go.Proofs.YtbpfenmkhapeiaaGreat

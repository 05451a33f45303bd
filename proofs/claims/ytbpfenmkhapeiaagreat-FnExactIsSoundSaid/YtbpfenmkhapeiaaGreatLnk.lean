/- The tables, the residual functions and lemmas of this seat: parts of the proof of the law; conditions: those that each names. -/
import Derived.Test.YtbpfenmkhapeiaaGreatNod
set_option linter.unusedVariables false
set_option linter.unusedSimpArgs false
set_option maxRecDepth 100000
namespace Go.Proofs.YtbpfenmkhapeiaaGreat
open Go.Eng
theorem wS(i:Nat)(h:i<1000000000000:=by omega):wrapK .i64 ((i:Int)+1)=((i+1:Nat):Int):=by rw[i64w (by omega) (by omega)];omega
def cntE(l:List PEnt)(i:Int):Nat:=l.countP fun e=>e.2==i
theorem cntE_take{l:List PEnt}{i:Int}{j:Nat}{e:PEnt}(h:l[j]? =some e):cntE (l.take (j+1)) i=cntE (l.take j) i+(if e.2=i then 1 else 0):=by
 have hj:j<l.length:=(List.getElem?_eq_some_iff.1 h).1
 have:l.take (j+1)=l.take j++[e]:=by rw[List.take_add_one,h];rfl
 simp[cntE,this]
noncomputable def lnkD(f:PFS)(i:Int):Nat→Nat
 |0=>0
 |d+1=>lnkD f i d+match(fI f)[d]? with
  |some n=>if n.1=2 then cntE (entsV f n) i else 0
  |none=>0
section
variable {f:PFS}
theorem cntE_le(l:List PEnt)(i:Int):cntE l i≤l.length:=List.countP_le_length
theorem lnkD_le(hP:fsP f)(i:Int):∀d,lnkD f i d≤16*d
 |0=>Nat.le_refl _
 |d+1=>by
  have ih:=lnkD_le hP i d
  simp only[lnkD]
  split
  ·rename_i n hn
   have h1:=ents_len (blk_ok hP hn) (hP.ino _ _ hn)
   have h2:=cntE_le (entsV f n) i
   split<;>omega
  ·omega
theorem lnkD_succ{i:Int}{d:Nat}{n:PInode}(h:(fI f)[d]? =some n):lnkD f i (d+1)=lnkD f i d+(if n.1=2 then cntE (entsV f n) i else 0):=by simp only[lnkD,h]
theorem nat_at{i:Nat}{n:PInode}(h:(fI f)[i]? =some n):(fI f)[((i:Nat):Int).toNat]? =some n:=by rw[Int.toNat_natCast];exact h
theorem spec_LinksOf_ev(hP:fsP f)(hs:fsSmall f)(hb:∀s∈fD f,s.size<big)(i:Int):Ev (fun k=>c_spec_LinksOf k (f,i)) (lnkD f i 20:Int):=by
 refine EvQ.run (fun k=>spec_LinksOf_run k _ _) ?_
 have hni:=hP.ni
 obtain⟨b,e1,e2⟩:=spec_IsFS_say f hs hb
 have hbt:b=true:=e2.2 hP
 subst hbt
 simp only[spec_LinksOf]
 refine EvQ.bind e1 ?_
 simp only[Bool.not_true,cond_false]
 refine Ev.eq ?_
 refine EvX.list (L:=fun k _=>spec_LinksOf_l2 k) (fI f) (fun(st:Int) d=>(i,(),st,fI f,((fI f).length:Int),((d:Nat):Int),f)) (fun st d=>st=(lnkD f i d:Int)) (fun st d n hx hd inv=> ?_) (fun st inv=> ?_) _ rfl
 ·have hx':=nat_at hx
  have hel:=ents_len (blk_ok hP hx) (hP.ino _ _ hx)
  have hle:=lnkD_le hP i d
  subst inv
  simp only[spec_LinksOf_l2,Int.ofNat_lt,hd,decide_true,cond_true,Int.natCast_nonneg,if_true,Int.toNat_natCast,hx,Option.bind_some,wS d]
  refine EvX.bif (fun h=>EvX.const _ (GL.self _ rfl ?_)) (fun h=> ?_)
  ·have:n.1≠2:=by simpa using h
   rw[lnkD_succ hx,if_neg this];rfl
  ·have h2:n.1=2:=by simpa using h
   refine EvX.bind (spec_entries_ev hP (by omega) hx') ?_
   refine EvX.list (L:=fun k (p:Unit×(_→Option Int))=>spec_LinksOf_l1 k p.2) (entsV f n) (fun(st:Int) j=>(i,(),st,fI f,((fI f).length:Int),((d:Nat):Int),entsV f n,((entsV f n).length:Int),((j:Nat):Int),f)) (fun st j=>st=((lnkD f i d+cntE ((entsV f n).take j) i:Nat):Int)) (fun st j e he hj inv=> ?_) (fun st inv=> ?_) _ (by simp[cntE])
   ·subst inv
    have hc:=cntE_le ((entsV f n).take j) i
    rw[List.length_take]at hc
    have hc2:=cntE_take (i:=i) he
    simp only[spec_LinksOf_l1,Int.ofNat_lt,hj,decide_true,cond_true,Int.natCast_nonneg,if_true,Int.toNat_natCast,he,Option.bind_some,wS j,wS (lnkD f i d+cntE ((entsV f n).take j) i)]
    refine EvX.bif (fun h=>EvX.const _ (GL.self _ rfl ?_)) (fun h=>EvX.const _ (GL.self _ rfl ?_))
    ·have:e.2=i:=by simpa using h
     rw[hc2,if_pos this];rfl
    ·have:¬e.2=i:=by simpa using h
     rw[hc2,if_neg this];rfl
   ·rw[List.take_length]at inv
    simp only[spec_LinksOf_l1,Int.lt_irrefl,decide_false,cond_false,wS d]
    refine EvX.const _ (GE.up (S:=Unit×(_→Option Int)) (fun p=>p.2 (i,(),st,fI f,((fI f).length:Int),((d+1:Nat):Int),f)) ?_)
    refine GL.self st rfl ?_
    rw[inv,lnkD_succ hx,if_pos h2]
 ·simp only[spec_LinksOf_l2,Int.lt_irrefl,decide_false,cond_false]
  rw[hni]at inv
  exact EvX.const _ (GE.ret (GR.ret inv))
theorem impl_links_ev(hP:fsP f)(i:Int):Ev (fun k=>c_impl_FS_links k (some f,i)) (lnkD f i 20:Int):=by
 refine EvQ.run (fun k=>impl_FS_links_run k _ _) ?_
 have hni:=hP.ni
 simp only[impl_FS_links]
 refine Ev.eq ?_
 refine EvX.upto (L:=fun k _=>impl_FS_links_l2 k) 20 (fun(st:Int) d=>(some f,i,st,((d:Nat):Int))) (fun st d=>st=(lnkD f i d:Int)) (fun st d hd inv=> ?_) (fun st inv=> ?_) _ 0 (by omega) rfl
 ·obtain⟨n,hx'⟩:=node_at hP (i:=(d:Int)) (by omega) (by omega)
  have hx:(fI f)[d]? =some n:=by rwa[Int.toNat_natCast]at hx'
  have hel:=ents_len (blk_ok hP hx) (hP.ino _ _ hx)
  have hle:=lnkD_le hP i d
  subst inv
  have hd20:(d:Int)<20:=by omega
  simp only[impl_FS_links_l2,hd20,decide_true,cond_true,wS d]
  refine EvX.bind (isDir_ev (by omega) (by omega) hx') ?_
  refine EvX.bif (fun h=>EvX.const _ (GL.self _ rfl ?_)) (fun h=> ?_)
  ·have:n.1≠2:=by simpa using h
   rw[lnkD_succ hx,if_neg this];rfl
  ·have h2:n.1=2:=by simpa using h
   refine EvX.bind (impl_entries_ev hP (by omega) hx') ?_
   refine EvX.list (L:=fun k (p:Unit×(_→Option Int))=>impl_FS_links_l1 k p.2) (entsV f n) (fun(st:Int) j=>(some f,i,st,((d:Nat):Int),entsV f n,((entsV f n).length:Int),((j:Nat):Int))) (fun st j=>st=((lnkD f i d+cntE ((entsV f n).take j) i:Nat):Int)) (fun st j e he hj inv=> ?_) (fun st inv=> ?_) _ (by simp[cntE])
   ·subst inv
    have hc:=cntE_le ((entsV f n).take j) i
    rw[List.length_take]at hc
    have hc2:=cntE_take (i:=i) he
    simp only[impl_FS_links_l1,Int.ofNat_lt,hj,decide_true,cond_true,Int.natCast_nonneg,if_true,Int.toNat_natCast,he,Option.bind_some,wS j,wS (lnkD f i d+cntE ((entsV f n).take j) i)]
    refine EvX.bif (fun h=>EvX.const _ (GL.self _ rfl ?_)) (fun h=>EvX.const _ (GL.self _ rfl ?_))
    ·have:e.2=i:=by simpa using h
     rw[hc2,if_pos this];rfl
    ·have:¬e.2=i:=by simpa using h
     rw[hc2,if_neg this];rfl
   ·rw[List.take_length]at inv
    simp only[impl_FS_links_l1,Int.lt_irrefl,decide_false,cond_false,wS d]
    refine EvX.const _ (GE.up (S:=Unit×(_→Option Int)) (fun p=>p.2 (some f,i,st,((d+1:Nat):Int))) ?_)
    refine GL.self st rfl ?_
    rw[inv,lnkD_succ hx,if_pos h2]
 ·simp only[impl_FS_links_l2,show ¬((20:Nat):Int)<20 by omega,decide_false,cond_false]
  exact EvX.const _ (GE.ret (GR.ret inv))
noncomputable def dangB(f:PFS)(e:PEnt):Bool:=e.2==0||match(fI f)[e.2.toNat]? with
 |some m=>m.1==0
 |none=>true
def agL(l:List PEnt)(s:ByteArray):Bool:=l.any fun o=>eqS o.1 s
def againB(l:List PEnt)(j:Nat)(e:PEnt):Bool:=agL (l.take j) e.1
theorem impl_dangling_ev(hP:fsP f){e:PEnt}(h0:0≤e.2)(h1:e.2<20):Ev (fun k=>c_impl_FS_dangling k (some f,e)) (dangB f e):=by
 refine EvQ.run (fun k=>impl_FS_dangling_run k _ _) ?_
 obtain⟨n,hn⟩:=node_at hP h0 h1
 simp only[impl_FS_dangling,dangB,hn]
 cases h:e.2==0 with
 |true=>exact EvQ.const _
 |false=>
  refine EvQ.bind (has_ev e.2 h0 h1 hn) ?_
  have:(!(n.1 != 0))=(n.1==0):=by simp only[bne,Bool.not_not]
  simp only[this,Bool.false_or]
  exact EvQ.const _
theorem agL_take{l:List PEnt}{s:ByteArray}{j:Nat}{o:PEnt}(h:l[j]? =some o):agL (l.take (j+1)) s=(agL (l.take j) s||eqS o.1 s):=by
 have:l.take (j+1)=l.take j++[o]:=by rw[List.take_add_one,h];rfl
 simp[agL,this]
theorem impl_repeated_ev{l:List PEnt}(hl:l.length<1000000){j:Nat}{e:PEnt}(he:l[j]? =some e):Ev (fun k=>c_impl_repeated k (l,(j:Int))) (againB l j e):=by
 refine EvQ.run (fun k=>impl_repeated_run k _ _) ?_
 have hj:j<l.length:=(List.getElem?_eq_some_iff.1 he).1
 simp only[impl_repeated,Int.natCast_nonneg,if_true,Int.ofNat_le,Nat.le_of_lt hj,Int.toNat_natCast,List.drop_zero]
 refine Ev.eq ?_
 refine EvX.list (L:=fun k _=>impl_repeated_l1 k) (l.take j) (fun(_:Unit) i=>(l,(j:Int),l.take j,((l.take j).length:Int),((i:Nat):Int))) (fun _ i=>agL ((l.take j).take i) e.1=false) (fun st i o ho hi inv=> ?_) (fun st inv=> ?_) () rfl
 ·rw[List.length_take]at hi
  have hi':i<(l.take j).length:=by rw[List.length_take];exact hi
  have h2:=agL_take (s:=e.1) ho
  simp only[impl_repeated_l1,Int.ofNat_lt,hi',decide_true,cond_true,Int.natCast_nonneg,if_true,Int.toNat_natCast,ho,he,Option.bind_some,wS i]
  refine EvX.bif (fun h=>EvX.const _ (GL.ret (GR.ret ?_))) (fun h=>EvX.const _ (GL.self () rfl ?_))
  ·symm
   unfold againB agL
   exact List.any_eq_true.2 ⟨o,List.mem_of_getElem? ho,h⟩
  ·rw[h2,inv,h];rfl
 ·rw[List.take_length]at inv
  simp only[impl_repeated_l1,Int.lt_irrefl,decide_false,cond_false]
  exact EvX.const _ (GE.ret (GR.ret inv.symm))
def recsV(l:List PEnt):Nat→ByteArray
 |0=>emptyB
 |j+1=>match l[j]? with
  |some e=>recsV l j++recV e
  |none=>recsV l j
theorem recV_size(e:PEnt):(recV e).size≤16+e.1.size:=by
 have h1:=putB_size (e.2+1) 2
 have h2:=putB_size (e.1.size:Int) 1
 simp only[recV,padB,ofBytes_size,List.length_append,List.length_replicate,bytesOf_len,app_size]
 omega
theorem recsV_size{l:List PEnt}(h:∀e∈l,e.1.size≤12):∀j,(recsV l j).size≤28*j
 |0=>Nat.le_refl _
 |j+1=>by
  have ih:=recsV_size h j
  simp only[recsV]
  split
  ·rename_i e he
   have h1:=recV_size e
   have h2:=h e (List.mem_of_getElem? he)
   rw[app_size];omega
  ·omega
theorem spec_records_ev{l:List PEnt}(h:∀e∈l,e.1.size≤12∧0≤e.2∧e.2<20)(hl:l.length<1000000):Ev (fun k=>c_spec_l22Records k l) (recsV l l.length):=by
 refine EvQ.run (fun k=>spec_l22Records_run k _) ?_
 simp only[spec_l22Records]
 refine Ev.eq ?_
 refine EvX.list (L:=fun k _=>spec_l22Records_l1 k) l (fun(st:ByteArray) i=>(st,l,(l.length:Int),((i:Nat):Int))) (fun st i=>st=recsV l i) (fun st i e he hi inv=> ?_) (fun st inv=> ?_) _ rfl
 ·subst inv
  obtain⟨g1,g2,g3⟩:=h e (List.mem_of_getElem? he)
  have hr:=recV_size e
  have hrs:=recsV_size (fun e he=>(h e he).1) i
  simp only[spec_l22Records_l1,Int.ofNat_lt,hi,decide_true,cond_true,Int.natCast_nonneg,if_true,Int.toNat_natCast,he,Option.bind_some,wS i]
  refine EvX.bind (spec_record_ev e (by omega) g2 (by omega)) (EvX.ifp (by omega) ?_)
  refine EvX.const _ (GL.self _ rfl ?_)
  simp only[recsV,he]
 ·simp only[spec_l22Records_l1,Int.lt_irrefl,decide_false,cond_false]
  exact EvX.const _ (GE.ret (GR.ret inv))
end
end Go.Proofs.YtbpfenmkhapeiaaGreat

/- The tables, the residual functions and lemmas of this seat: parts of the proof of the law; conditions: those that each names. -/
import Derived.Test.YtbpfenmkhapeiaaGreatNod
set_option linter.unusedVariables false
set_option linter.unusedSimpArgs false
set_option maxRecDepth 100000
namespace Go.Proofs.YtbpfenmkhapeiaaGreat
open Go.Eng
theorem wS(i:Nat)(h:i<1000000000000:=by omega):wrapK .i64 ((i:Int)+1)=((i+1:Nat):Int):=by rw[i64w (by omega) (by omega)];omega
def cntE(l:List PEnt)(i:Int):Nat:=l.countP fun e=>e.2==i
theorem cntE_take{l:List PEnt}{i:Int}{j:Nat}{e:PEnt}(h:l[j]? =some e):cntE (l.take (j+1)) i=cntE (l.take j) i+(if e.2=i then 1 else 0):=by
 have hj:j<l.length:=(List.getElem?_eq_some_iff.1 h).1
 have:l.take (j+1)=l.take j++[e]:=by rw[List.take_add_one,h];rfl
 simp[cntE,this]
noncomputable def lnkD(f:PFS)(i:Int):Nat→Nat
 |0=>0
 |d+1=>lnkD f i d+match(fI f)[d]? with
  |some n=>if n.1=2 then cntE (entsV f n) i else 0
  |none=>0
section
variable {f:PFS}
theorem cntE_le(l:List PEnt)(i:Int):cntE l i≤l.length:=List.countP_le_length
theorem lnkD_le(hP:fsP f)(i:Int):∀d,lnkD f i d≤16*d
 |0=>Nat.le_refl _
 |d+1=>by
  have ih:=lnkD_le hP i d
  simp only[lnkD]
  split
  ·rename_i n hn
   have h1:=ents_len (blk_ok hP hn) (hP.ino _ _ hn)
   have h2:=cntE_le (entsV f n) i
   split<;>omega
  ·omega
theorem lnkD_succ{i:Int}{d:Nat}{n:PInode}(h:(fI f)[d]? =some n):lnkD f i (d+1)=lnkD f i d+(if n.1=2 then cntE (entsV f n) i else 0):=by simp only[lnkD,h]
theorem nat_at{i:Nat}{n:PInode}(h:(fI f)[i]? =some n):(fI f)[((i:Nat):Int).toNat]? =some n:=by rw[Int.toNat_natCast];exact h
theorem spec_LinksOf_ev(hP:fsP f)(hs:fsSmall f)(hb:∀s∈fD f,s.size<big)(i:Int):Ev (fun k=>c_spec_LinksOf k (f,i)) (lnkD f i 20:Int):=by
 refine EvQ.run (fun k=>spec_LinksOf_run k _ _) ?_
 have hni:=hP.ni
 obtain⟨b,e1,e2⟩:=spec_IsFS_say f hs hb
 have hbt:b=true:=e2.2 hP
 subst hbt
 simp only[spec_LinksOf]
 refine EvQ.bind e1 ?_
 simp only[Bool.not_true,cond_false]
 refine Ev.eq ?_
 refine EvX.list (L:=fun k _=>spec_LinksOf_l2 k) (fI f) (fun(st:Int) d=>(i,(),st,fI f,((fI f).length:Int),((d:Nat):Int),f)) (fun st d=>st=(lnkD f i d:Int)) (fun st d n hx hd inv=> ?_) (fun st inv=> ?_) _ rfl
 ·have hx':=nat_at hx
  have hel:=ents_len (blk_ok hP hx) (hP.ino _ _ hx)
  have hle:=lnkD_le hP i d
  subst inv
  simp only[spec_LinksOf_l2,Int.ofNat_lt,hd,decide_true,cond_true,Int.natCast_nonneg,if_true,Int.toNat_natCast,hx,Option.bind_some,wS d]
  refine EvX.bif (fun h=>EvX.const _ (GL.self _ rfl ?_)) (fun h=> ?_)
  ·have:n.1≠2:=by simpa using h
   rw[lnkD_succ hx,if_neg this];rfl
  ·have h2:n.1=2:=by simpa using h
   refine EvX.bind (spec_entries_ev hP (by omega) hx') ?_
   refine EvX.list (L:=fun k (p:Unit×(_→Option Int))=>spec_LinksOf_l1 k p.2) (entsV f n) (fun(st:Int) j=>(i,(),st,fI f,((fI f).length:Int),((d:Nat):Int),entsV f n,((entsV f n).length:Int),((j:Nat):Int),f)) (fun st j=>st=((lnkD f i d+cntE ((entsV f n).take j) i:Nat):Int)) (fun st j e he hj inv=> ?_) (fun st inv=> ?_) _ (by simp[cntE])
   ·subst inv
    have hc:=cntE_le ((entsV f n).take j) i
    rw[List.length_take]at hc
    have hc2:=cntE_take (i:=i) he
    simp only[spec_LinksOf_l1,Int.ofNat_lt,hj,decide_true,cond_true,Int.natCast_nonneg,if_true,Int.toNat_natCast,he,Option.bind_some,wS j,wS (lnkD f i d+cntE ((entsV f n).take j) i)]
    refine EvX.bif (fun h=>EvX.const _ (GL.self _ rfl ?_)) (fun h=>EvX.const _ (GL.self _ rfl ?_))
    ·have:e.2=i:=by simpa using h
     rw[hc2,if_pos this];rfl
    ·have:¬e.2=i:=by simpa using h
     rw[hc2,if_neg this];rfl
   ·rw[List.take_length]at inv
    simp only[spec_LinksOf_l1,Int.lt_irrefl,decide_false,cond_false,wS d]
    refine EvX.const _ (GE.up (S:=Unit×(_→Option Int)) (fun p=>p.2 (i,(),st,fI f,((fI f).length:Int),((d+1:Nat):Int),f)) ?_)
    refine GL.self st rfl ?_
    rw[inv,lnkD_succ hx,if_pos h2]
 ·simp only[spec_LinksOf_l2,Int.lt_irrefl,decide_false,cond_false]
  rw[hni]at inv
  exact EvX.const _ (GE.ret (GR.ret inv))
theorem impl_links_ev(hP:fsP f)(i:Int):Ev (fun k=>c_impl_FS_links k (some f,i)) (lnkD f i 20:Int):=by
 refine EvQ.run (fun k=>impl_FS_links_run k _ _) ?_
 have hni:=hP.ni
 simp only[impl_FS_links]
 refine Ev.eq ?_
 refine EvX.upto (L:=fun k _=>impl_FS_links_l2 k) 20 (fun(st:Int) d=>(some f,i,st,((d:Nat):Int))) (fun st d=>st=(lnkD f i d:Int)) (fun st d hd inv=> ?_) (fun st inv=> ?_) _ 0 (by omega) rfl
 ·obtain⟨n,hx'⟩:=node_at hP (i:=(d:Int)) (by omega) (by omega)
  have hx:(fI f)[d]? =some n:=by rwa[Int.toNat_natCast]at hx'
  have hel:=ents_len (blk_ok hP hx) (hP.ino _ _ hx)
  have hle:=lnkD_le hP i d
  subst inv
  have hd20:(d:Int)<20:=by omega
  simp only[impl_FS_links_l2,hd20,decide_true,cond_true,wS d]
  refine EvX.bind (isDir_ev (by omega) (by omega) hx') ?_
  refine EvX.bif (fun h=>EvX.const _ (GL.self _ rfl ?_)) (fun h=> ?_)
  ·have:n.1≠2:=by simpa using h
   rw[lnkD_succ hx,if_neg this];rfl
  ·have h2:n.1=2:=by simpa using h
   refine EvX.bind (impl_entries_ev hP (by omega) hx') ?_
   refine EvX.list (L:=fun k (p:Unit×(_→Option Int))=>impl_FS_links_l1 k p.2) (entsV f n) (fun(st:Int) j=>(some f,i,st,((d:Nat):Int),entsV f n,((entsV f n).length:Int),((j:Nat):Int))) (fun st j=>st=((lnkD f i d+cntE ((entsV f n).take j) i:Nat):Int)) (fun st j e he hj inv=> ?_) (fun st inv=> ?_) _ (by simp[cntE])
   ·subst inv
    have hc:=cntE_le ((entsV f n).take j) i
    rw[List.length_take]at hc
    have hc2:=cntE_take (i:=i) he
    simp only[impl_FS_links_l1,Int.ofNat_lt,hj,decide_true,cond_true,Int.natCast_nonneg,if_true,Int.toNat_natCast,he,Option.bind_some,wS j,wS (lnkD f i d+cntE ((entsV f n).take j) i)]
    refine EvX.bif (fun h=>EvX.const _ (GL.self _ rfl ?_)) (fun h=>EvX.const _ (GL.self _ rfl ?_))
    ·have:e.2=i:=by simpa using h
     rw[hc2,if_pos this];rfl
    ·have:¬e.2=i:=by simpa using h
     rw[hc2,if_neg this];rfl
   ·rw[List.take_length]at inv
    simp only[impl_FS_links_l1,Int.lt_irrefl,decide_false,cond_false,wS d]
    refine EvX.const _ (GE.up (S:=Unit×(_→Option Int)) (fun p=>p.2 (some f,i,st,((d+1:Nat):Int))) ?_)
    refine GL.self st rfl ?_
    rw[inv,lnkD_succ hx,if_pos h2]
 ·simp only[impl_FS_links_l2,show ¬((20:Nat):Int)<20 by omega,decide_false,cond_false]
  exact EvX.const _ (GE.ret (GR.ret inv))
end
end Go.Proofs.YtbpfenmkhapeiaaGreat

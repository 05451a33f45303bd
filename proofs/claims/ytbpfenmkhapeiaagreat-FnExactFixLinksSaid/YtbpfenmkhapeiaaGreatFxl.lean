/- The tables, the residual functions and lemmas of this seat: parts of the proof of the law; conditions: those that each names. -/
import Derived.Test.YtbpfenmkhapeiaaGreatLnk
import Derived.Test.YtbpfenmkhapeiaaGreatCpy
set_option linter.unusedVariables false
set_option linter.unusedSimpArgs false
set_option maxRecDepth 100000
namespace Go.Proofs.YtbpfenmkhapeiaaGreat
open Go.Eng
section
variable {f:PFS}
noncomputable def fixN(f:PFS)(i:Nat)(n:PInode):PInode:=bif decide (0<i)&&(n.1 != 0)then(n.1,n.2.1,n.2.2.1,n.2.2.2.1,min (1000:Int) (lnkD f i 20:Int),n.2.2.2.2.2)else n
noncomputable def fixL(f:PFS)(j:Nat):List PInode:=(fI f).mapIdx fun i n=>bif decide (i<j)then fixN f i n else n
theorem fixL_get{j i:Nat}{n:PInode}(h:(fI f)[i]? =some n):(fixL f j)[i]? =some (bif decide (i<j)then fixN f i n else n):=by
 rw[fixL,List.getElem?_mapIdx,h];rfl
theorem fixL_len(j:Nat):(fixL f j).length=(fI f).length:=by simp[fixL]
theorem fixL_zero:fixL f 0=fI f:=by
 refine List.ext_getElem? fun i=> ?_
 cases h:(fI f)[i]? with
 |none=>rw[List.getElem?_eq_none];rw[fixL_len];exact List.getElem?_eq_none_iff.1 h
 |some n=>rw[fixL_get h];simp
theorem fixL_succ{j:Nat}{n:PInode}(h:(fI f)[j]? =some n):fixL f (j+1)=(fixL f j).set j (fixN f j n):=by
 have hj:j<(fI f).length:=(List.getElem?_eq_some_iff.1 h).1
 refine List.ext_getElem? fun i=> ?_
 rw[List.getElem?_set]
 by_cases e:j=i
 ·subst e
  rw[if_pos rfl,if_pos (by rw[fixL_len];exact hj),fixL_get h]
  simp
 ·rw[if_neg e]
  cases hi:(fI f)[i]? with
  |none=>rw[List.getElem?_eq_none (by rw[fixL_len];exact List.getElem?_eq_none_iff.1 hi),List.getElem?_eq_none (by rw[fixL_len];exact List.getElem?_eq_none_iff.1 hi)]
  |some m=>
   rw[fixL_get hi,fixL_get hi]
   have:decide (i<j+1)=decide (i<j):=decide_eq_decide.2 (by omega)
   rw[this]
theorem fixL_same{j:Nat}{n:PInode}(h:(fI f)[j]? =some n)(e:fixN f j n=n):fixL f (j+1)=fixL f j:=by
 rw[fixL_succ h,e]
 have:(fixL f j)[j]? =some n:=by rw[fixL_get h];simp
 refine List.ext_getElem? fun i=> ?_
 rw[List.getElem?_set]
 by_cases hij:j=i
 ·subst hij
  rw[if_pos rfl,if_pos (by rw[fixL_len];exact(List.getElem?_eq_some_iff.1 h).1),this]
 ·rw[if_neg hij]
noncomputable def fixF(f:PFS)(j:Nat):PFS:=(f.1,f.2.1,fixL f j,f.2.2.2)
theorem min_ev(a b:Int):Ev (fun k=>c_spec_l02Min k (a,b)) (min b a):=by
 refine EvQ.run (fun k=>spec_l02Min_run k _ _) ?_
 simp only[spec_l02Min]
 by_cases h:a<b
 ·simp only[h,decide_true,cond_true]
  rw[show min b a=a by omega];exact EvQ.const _
 ·simp only[h,decide_false,cond_false]
  rw[show min b a=b by omega];exact EvQ.const _
theorem fix_same(x:PFS)(hs:fsSmall x)(hb:∀s∈fD x,s.size<big)(hc:fsCap x):∃r:PFS,Ev (fun k=>c_spec_FixLinks k x) r∧Ev (fun k=>c_impl_FixLinks k x) r∧∃j,r=x∨r=fixF x j:=by
 obtain⟨b,e1,e2,e3⟩:=(impl_IsFS_say x hs).same (spec_IsFS_say x hs hb)
 cases b with
 |false=>
  refine⟨x,EvQ.run (fun k=>spec_FixLinks_run k _) ?_,EvQ.run (fun k=>impl_FixLinks_run k _) ?_,0,.inl rfl⟩
  ·simp only[spec_FixLinks];exact EvQ.bind (spec_copyFS_ev x hc) (EvQ.bind e2 (EvQ.const _))
  ·simp only[impl_FixLinks];exact EvQ.bind (impl_copyFS_ev x hc) (EvQ.bind e1 (EvQ.const _))
 |true=>
  have hP:=e3.1 rfl
  have hni:=hP.ni
  refine⟨fixF x 20,EvQ.run (fun k=>spec_FixLinks_run k _) ?_,EvQ.run (fun k=>impl_FixLinks_run k _) ?_,20,.inr rfl⟩
  ·simp only[spec_FixLinks]
   refine EvQ.bind (spec_copyFS_ev x hc) (EvQ.bind e2 ?_)
   simp only[Bool.not_true,cond_false]
   refine Ev.eq ?_
   refine EvX.list (L:=fun k _=>spec_FixLinks_l1 k) (fI x) (fun(st:PFS) i=>((),(),(),fI x,((fI x).length:Int),((i:Nat):Int),st,((0:Int),([]:List DQuota),([]:List DInode),([]:List ByteArray)),x)) (fun st i=>st=fixF x i) (fun st i n hx hi inv=> ?_) (fun st inv=> ?_) x ?_
   ·have hg:(fixF x i).2.2.1[i]? =some n:=by
     show(fixL x i)[i]? =_
     rw[fixL_get hx];simp
    have hl:(fixF x i).2.2.1.length=20:=by show(fixL x i).length=20;rw[fixL_len,hni]
    subst inv
    have c2:(i:Int)<(((fixF x i).2.2.1.length:Nat):Int):=by rw[hl];omega
    simp only[spec_FixLinks_l1,Int.ofNat_lt,hi,decide_true,cond_true,Int.natCast_nonneg,if_true,Int.toNat_natCast,hx,Option.bind_some,wS i]
    by_cases h0:(0:Int)<(i:Int)
    case neg=>
     simp only[h0,decide_false,cond_false]
     refine EvX.const _ (GL.self _ rfl ?_)
     have:fixN x i n=n:=by simp[fixN,show ¬0<i by omega]
     rw[fixF,fixF,fixL_same hx this]
    case pos=>
     simp only[h0,decide_true,cond_true]
     refine EvX.bif (fun h=> ?_) (fun h=> ?_)
     ·simp only[hl]at c2
      simp only[hl,show i<20 by omega,if_true,hg,Option.bind_some]
      refine EvX.bind (spec_LinksOf_ev hP hs hb _) ?_
      refine EvX.bind (min_ev _ _) ?_
      refine EvX.const _ (GL.self _ rfl ?_)
      have:fixN x i n=(n.1,n.2.1,n.2.2.1,n.2.2.2.1,min (1000:Int) (lnkD x i 20:Int),n.2.2.2.2.2):=by simp[fixN,show 0<i by omega,h]
      rw[fixF,fixF,fixL_succ hx,this]
     ·refine EvX.const _ (GL.self _ rfl ?_)
      have:fixN x i n=n:=by simp only[fixN,h,Bool.and_false,cond_false]
      rw[fixF,fixF,fixL_same hx this]
   ·simp only[spec_FixLinks_l1,Int.lt_irrefl,decide_false,cond_false]
    rw[hni]at inv
    exact EvX.const _ (GE.ret (GR.ret inv))
   ·rw[fixF,fixL_zero]
  ·simp only[impl_FixLinks]
   refine EvQ.bind (impl_copyFS_ev x hc) (EvQ.bind e1 ?_)
   simp only[Bool.not_true,cond_false]
   refine Ev.eq ?_
   refine EvX.upto (L:=fun k _=>impl_FixLinks_l1 k) 20 (fun(st:PFS) i=>((),(),(),((i:Nat):Int),st,((0:Int),([]:List DQuota),([]:List DInode),([]:List ByteArray)),x)) (fun st i=>1≤i∧st=fixF x i) (fun st i hi inv=> ?_) (fun st inv=> ?_) x 1 (by omega) ?_
   ·obtain⟨hi1,inv⟩:=inv
    have h00:0<i:=hi1
    obtain⟨n,hx'⟩:=node_at hP (i:=(i:Int)) (by omega) (by omega)
    have hx:(fI x)[i]? =some n:=by rwa[Int.toNat_natCast]at hx'
    have hg:(fixF x i).2.2.1[i]? =some n:=by
     show(fixL x i)[i]? =_
     rw[fixL_get hx];simp
    have hl:(fixF x i).2.2.1.length=20:=by show(fixL x i).length=20;rw[fixL_len,hni]
    subst inv
    have c1:(i:Int)<20:=by omega
    simp only[impl_FixLinks_l1,c1,decide_true,cond_true,wS i]
    refine EvX.bind (has_ev _ (by omega) (by omega) hx') ?_
    refine EvX.bif (fun h=> ?_) (fun h=> ?_)
    ·simp only[Int.natCast_nonneg,hl,show((i:Int)<((20:Nat):Int))by omega,if_true,Int.toNat_natCast,hg,Option.bind_some]
     refine EvX.bind (impl_links_ev hP _) ?_
     refine EvX.const _ (GL.self _ rfl ⟨by omega, ?_⟩)
     have:fixN x i n=(n.1,n.2.1,n.2.2.1,n.2.2.2.1,min (1000:Int) (lnkD x i 20:Int),n.2.2.2.2.2):=by simp[fixN,h00,h]
     rw[fixF,fixF,fixL_succ hx,this]
    ·refine EvX.const _ (GL.self _ rfl ⟨by omega, ?_⟩)
     have:fixN x i n=n:=by simp only[fixN,h,Bool.and_false,cond_false]
     rw[fixF,fixF,fixL_same hx this]
   ·simp only[impl_FixLinks_l1,show ¬((20:Nat):Int)<20 by omega,decide_false,cond_false]
    exact EvX.const _ (GE.ret (GR.ret inv.2))
   ·obtain⟨n,hx'⟩:=node_at hP (i:=0) (by omega) (by omega)
    have hx:(fI x)[0]? =some n:=hx'
    refine⟨by omega, ?_⟩
    rw[fixF,fixL_same hx (by simp[fixN]),fixL_zero]
theorem fix_size{x:PFS}(j:Nat):szM_FS (fixF x j)=szM_FS x:=by
 have key:∀(l:List PInode) (g:Nat→PInode→PInode),(∀i n,szM_Inode (g i n)=szM_Inode n)→((l.mapIdx g).map szM_Inode)=l.map szM_Inode:=by
  intro l g hg
  refine List.ext_getElem? fun i=> ?_
  rw[List.getElem?_map,List.getElem?_mapIdx,List.getElem?_map]
  cases l[i]? with
  |none=>rfl
  |some n=>simp[hg]
 have hf:∀i n,szM_Inode (bif decide (i<j)then fixN x i n else n)=szM_Inode n:=fun i n=>by
  cases decide (i<j)with
  |false=>rfl
  |true=>
   simp only[cond_true,fixN]
   cases decide (0<i)&&(n.1 != 0)<;>rfl
 have e1:((fixF x j).2.2.1.map szM_Inode)=(x.2.2.1.map szM_Inode):=key _ _ hf
 have e2:(fixF x j).2.2.1.length=x.2.2.1.length:=fixL_len j
 show(fixF x j).2.1.length+((fixF x j).2.2.1.length+((fixF x j).2.2.1.map szM_Inode).sum)+szM_StringS (fixF x j).2.2.2=_
 rw[e1,e2]
 rfl
end
end Go.Proofs.YtbpfenmkhapeiaaGreat

/- The tables, the residual functions and lemmas of this seat: parts of the proof of the law; conditions: those that each names. -/
import Derived.Test.YtbpfenmkhapeiaaGreatFxe
set_option linter.unusedVariables false
set_option linter.unusedSimpArgs false
set_option maxRecDepth 100000
namespace Go.Proofs.YtbpfenmkhapeiaaGreat
open Go.Eng
section
variable {f:PFS}
theorem keep_succ{l:List PEnt}{t:Nat}{e:PEnt}(h:l[t]? =some e):keepL f l (t+1)=bif !dangB f e&& !againB l t e then keepL f l t++[e]else keepL f l t:=by simp only[keepL,h]
theorem fx_spec_loop(hP:fsP f):EvX (fun k (_:Unit)=>iter k (spec_FixEntries_l2 k) ((),(),(),fI f,((fI f).length:Int),(0:Int),f,zF,f)) (GR fun x=>x=fxE f 20):=by
 have hni:=hP.ni
 refine EvX.list (L:=fun k _=>spec_FixEntries_l2 k) (fI f) (fun(st:PFS) i=>((),(),(),fI f,((fI f).length:Int),((i:Nat):Int),st,zF,f)) (fun st i=>st=fxE f i) (fun st i n hx hi inv=> ?_) (fun st inv=> ?_) f rfl
 ·have hO:=fxE_ok hP i
  rw[←inv]at hO
  simp only[spec_FixEntries_l2,Int.ofNat_lt,hi,decide_true,cond_true,Int.natCast_nonneg,if_true,Int.toNat_natCast,hx,Option.bind_some,wS i]
  refine EvX.bif (fun h=> ?_) (fun h=> ?_)
  ·have h2:n.1≠2:=by simpa using h
   refine EvX.const _ (GL.self st rfl ?_)
   rw[inv,fxE,fxStep,hx]
   simp only[if_neg h2]
  ·have h2:n.1=2:=by simpa using h
   have hel:=ents_len (blk_ok hP hx) (hP.ino _ _ hx)
   refine EvX.bind (spec_Bad_ev hP hx) (EvX.bind (spec_entries_ev hP (by omega) (nat_at hx)) ?_)
   obtain⟨g,c,r1,r2,r3⟩:=fxRun_spec hP hO hx h2
   generalize hl:entsV f n=l at*
   have hd:=dgL_len (f:=f) (Nat.le_refl l.length)
   have ha:=agnL_len l l.length
   refine EvX.list (L:=fun k (p:Unit×(_→Option PFS))=>spec_FixEntries_l1 k p.2) l (fun(q:List PEnt) t=>((),(),(),((i:Nat):Int),q,dgL f l l.length,agnL l l.length,fI f,((fI f).length:Int),((i:Nat):Int),l,(l.length:Int),((t:Nat):Int),st,zF,f)) (fun q t=>q=keepL f l t) (fun q t e he ht inv'=> ?_) (fun q inv'=> ?_) [] rfl
   ·have hdt:(dgL f l l.length)[t]? =some (dangB f e):=by simp[dgL,he]
    have hat:(agnL l l.length)[t]? =some (againB l t e):=by
     rw[agnL,List.getElem?_map,List.getElem?_range ht]
     simp only[Option.map_some,agAt,he]
    have hks:=keep_succ (f:=f) he
    have hkl:=keepL_len (f:=f) l t
    have cap:∀x:PEnt,(q.length+([x]:List PEnt).length)*24≤capBytes:=fun x=>by rw[inv'];simp only[List.length_singleton];exact cap_small
    have d1:t<(dgL f l l.length).length:=by rw[hd];exact ht
    have d2:t<(agnL l l.length).length:=by rw[ha];exact ht
    simp only[spec_FixEntries_l1,Int.ofNat_lt,ht,d1,d2,decide_true,cond_true,Int.natCast_nonneg,if_true,Int.toNat_natCast,he,hdt,hat,Option.bind_some,wS t]
    refine EvX.bif (fun h3=> ?_) (fun h3=> ?_)
    ·refine EvX.bif (fun h4=> ?_) (fun h4=> ?_)
     ·refine EvX.ifp (cap _) ?_
      refine EvX.const _ (GL.self _ rfl ?_)
      rw[hks,h3,h4,inv'];rfl
     ·refine EvX.const _ (GL.self _ rfl ?_)
      rw[hks,h3,h4,inv'];rfl
    ·refine EvX.const _ (GL.self _ rfl ?_)
     rw[hks,h3,inv'];rfl
   ·have hkl:=keepL_len (f:=f) l l.length
    have hkt:recsV q q.length=keepT f n:=by rw[inv',keepT,hl]
    have hrec:=spec_records_ev (l:=q) (fun e he=>by
     rw[inv']at he
     have hm:=keepL_mem he
     rw[←hl]at hm
     obtain⟨g1,g2,g3⟩:=ents_mem hm
     exact⟨g1.1.2,g2,g3⟩) (by rw[inv'];omega)
    rw[hkt]at hrec
    simp only[spec_FixEntries_l1,Int.lt_irrefl,decide_false,cond_false,wS i]
    refine EvX.bind hrec (EvX.bind r1 (EvX.bind r2 ?_))
    refine EvX.bif (fun h=> ?_) (fun h=> ?_)
    ·have hc:c.2=0:=by simpa using h
     refine EvX.const _ (GE.up (S:=Unit×(_→Option PFS)) (fun p=>p.2 ((),(),(),fI f,((fI f).length:Int),((i+1:Nat):Int),c.1,zF,f)) ?_)
     refine GL.self c.1 rfl ?_
     rw[fxE,←inv,r3,if_pos hc]
    ·have hc:¬c.2=0:=by simpa using h
     refine EvX.const _ (GE.up (S:=Unit×(_→Option PFS)) (fun p=>p.2 ((),(),(),fI f,((fI f).length:Int),((i+1:Nat):Int),st,zF,f)) ?_)
     refine GL.self st rfl ?_
     rw[fxE,←inv,r3,if_neg hc]
 ·simp only[spec_FixEntries_l2,Int.lt_irrefl,decide_false,cond_false]
  rw[hni]at inv
  exact EvX.const _ (GE.ret (GR.ret inv))
theorem fx_impl_loop(hP:fsP f):EvX (fun k (_:Unit)=>iter k (impl_FixEntries_l2 k) ((),(),(),(0:Int),f,zF,f)) (GR fun x=>x=fxE f 20):=by
 have hni:=hP.ni
 refine EvX.upto (L:=fun k _=>impl_FixEntries_l2 k) 20 (fun(st:PFS) i=>((),(),(),((i:Nat):Int),st,zF,f)) (fun st i=>st=fxE f i) (fun st i hi inv=> ?_) (fun st inv=> ?_) f 0 (by omega) rfl
 ·obtain⟨n,hx'⟩:=node_at hP (i:=(i:Int)) (by omega) (by omega)
  have hx:(fI f)[i]? =some n:=by rwa[Int.toNat_natCast]at hx'
  have hO:=fxE_ok hP i
  rw[←inv]at hO
  have c1:(i:Int)<20:=by omega
  simp only[impl_FixEntries_l2,c1,decide_true,cond_true,wS i]
  refine EvX.bind (isDir_ev (by omega) (by omega) hx') ?_
  refine EvX.bif (fun h=> ?_) (fun h=> ?_)
  ·have h2:n.1≠2:=by simpa using h
   refine EvX.const _ (GL.self st rfl ?_)
   rw[inv,fxE,fxStep,hx]
   simp only[if_neg h2]
  ·have h2:n.1=2:=by simpa using h
   have hel:=ents_len (blk_ok hP hx) (hP.ino _ _ hx)
   refine EvX.bind (impl_entries_ev hP (by omega) hx') ?_
   obtain⟨g,c,r1,r2,r3⟩:=fxRun_impl hP hO hx h2
   have hkt:keepT f n=recsV (keepL f (entsV f n) (entsV f n).length) (keepL f (entsV f n) (entsV f n).length).length:=rfl
   have hmem:∀e∈entsV f n,e.1.size≤12∧0≤e.2∧e.2<20:=fun e he=>by
    obtain⟨g1,g2,g3⟩:=ents_mem he
    exact⟨g1.1.2,g2,g3⟩
   generalize entsV f n=l at*
   refine EvX.list (L:=fun k (p:Unit×(_→Option PFS))=>impl_FixEntries_l1 k p.2) l (fun(q:ByteArray) t=>((),(),(),((i:Nat):Int),q,l,((i:Nat):Int),(),(l.length:Int),((t:Nat):Int),st,zF,f)) (fun q t=>q=recsV (keepL f l t) (keepL f l t).length) (fun q t e he ht inv'=> ?_) (fun q inv'=> ?_) _ rfl
   ·have hks:=keep_succ (f:=f) he
    have hkl:=keepL_len (f:=f) l t
    obtain⟨m1,m2,m3⟩:=hmem e (List.mem_of_getElem? he)
    have hsz:=recs16 (l:=keepL f l t) (fun e he=>(hmem e (keepL_mem he)).1) (keepL f l t).length
    have hr:=rec16 m1
    simp only[impl_FixEntries_l1,Int.ofNat_lt,ht,decide_true,cond_true,Int.natCast_nonneg,if_true,Int.toNat_natCast,he,Option.bind_some,wS t]
    refine EvX.bind (impl_dangling_ev hP m2 m3) ?_
    refine EvX.bif (fun h3=> ?_) (fun h3=> ?_)
    ·refine EvX.bind (impl_repeated_ev (by omega) he) ?_
     refine EvX.bif (fun h4=> ?_) (fun h4=> ?_)
     ·refine EvX.bind (impl_record_ev e (by omega) m2 (by omega)) (EvX.ifp (by rw[inv'];omega) ?_)
      refine EvX.const _ (GL.self _ rfl ?_)
      rw[hks,h3,h4]
      simp only[Bool.and_self,cond_true]
      rw[recs_snoc,inv']
     ·refine EvX.const _ (GL.self _ rfl ?_)
      rw[hks,h3,h4,inv'];rfl
    ·refine EvX.const _ (GL.self _ rfl ?_)
     rw[hks,h3,inv'];rfl
   ·rw[←hkt]at inv'
    subst inv'
    simp only[impl_FixEntries_l1,Int.lt_irrefl,decide_false,cond_false,wS i]
    refine EvX.bind (impl_copyFS_ev st (hO.cap hP)) (EvX.bind r1 (EvX.bind r2 ?_))
    refine EvX.bif (fun h=> ?_) (fun h=> ?_)
    ·have hc:c.1=0:=by simpa using h
     refine EvX.const _ (GE.up (S:=Unit×(_→Option PFS)) (fun p=>p.2 ((),(),(),((i+1:Nat):Int),c.2,zF,f)) ?_)
     refine GL.self c.2 rfl ?_
     rw[fxE,←inv,r3,if_pos hc]
    ·have hc:¬c.1=0:=by simpa using h
     refine EvX.const _ (GE.up (S:=Unit×(_→Option PFS)) (fun p=>p.2 ((),(),(),((i+1:Nat):Int),st,zF,f)) ?_)
     refine GL.self st rfl ?_
     rw[fxE,←inv,r3,if_neg hc]
 ·simp only[impl_FixEntries_l2,show ¬((20:Nat):Int)<20 by omega,decide_false,cond_false]
  exact EvX.const _ (GE.ret (GR.ret inv))
theorem fx_same(x:PFS)(hs:fsSmall x)(hb:∀s∈fD x,s.size<big)(hc:fsCap x):∃r:PFS,Ev (fun k=>c_spec_FixEntries k x) r∧Ev (fun k=>c_impl_FixEntries k x) r∧(r=x∨szM_FS r≤10000):=by
 obtain⟨b,e1,e2,e3⟩:=(impl_IsFS_say x hs).same (spec_IsFS_say x hs hb)
 cases b with
 |false=>
  refine⟨x,EvQ.run (fun k=>spec_FixEntries_run k _) ?_,EvQ.run (fun k=>impl_FixEntries_run k _) ?_,.inl rfl⟩
  ·simp only[spec_FixEntries];exact EvQ.bind (spec_copyFS_ev x hc) (EvQ.bind e2 (EvQ.const _))
  ·simp only[impl_FixEntries];exact EvQ.bind (impl_copyFS_ev x hc) (EvQ.bind e1 (EvQ.const _))
 |true=>
  have hP:=e3.1 rfl
  refine⟨fxE x 20,EvQ.run (fun k=>spec_FixEntries_run k _) ?_,EvQ.run (fun k=>impl_FixEntries_run k _) ?_,.inr ((fxE_ok hP 20).size hP)⟩
  ·simp only[spec_FixEntries]
   refine EvQ.bind (spec_copyFS_ev x hc) (EvQ.bind e2 ?_)
   simp only[Bool.not_true,cond_false]
   exact Ev.eq (fx_spec_loop hP)
  ·simp only[impl_FixEntries]
   refine EvQ.bind (impl_copyFS_ev x hc) (EvQ.bind e1 ?_)
   simp only[Bool.not_true,cond_false]
   exact Ev.eq (fx_impl_loop hP)
end
theorem laws_FnExactFixEntries_ev(x0:DFS)(hx0:okD (TFSk) x0):Ev (fun k=>c_laws_FnExactFixEntries k x0) true:=by
 refine EvQ.run (fun k=>laws_FnExactFixEntries_run k x0) ?_
 simp only[laws_FnExactFixEntries]
 refine EvQ.bind (szFS_ev x0 hx0 (left:=1048576) (by omega) (by omega)) ?_
 by_cases c0:szR (szM_FS x0) 1048576<0
 ·simp only[c0,decide_true,cond_true];exact EvQ.const _
 obtain⟨d0,e0⟩:=szR_nonneg c0
 simp only[c0,decide_false,cond_false]
 have hS:szM_FS x0≤1048576:=by omega
 have tF:=toFS_ev x0 (by omega)
 obtain⟨h1,h2,h3⟩:=fs_small hS
 obtain⟨r,s1,s2,hr⟩:=fx_same x0 h1 h2 (cap_of hS)
 have hR:szM_FS r≤1048576:=by
  rcases hr with rfl|hr
  ·exact hS
  ·omega
 have eqR:=eqFS_ev r (by omega)
 obtain⟨a1,a2,a3,a4,a5⟩:=markParts x0 (by omega)
 obtain⟨b1,b2,b3,b4,b5⟩:=markParts r (by omega)
 have n1:decide (m3 x0<0)=false:=decide_eq_false (by omega)
 have n2:decide (m3 r<0)=false:=decide_eq_false (by omega)
 refine EvQ.bind tF (EvQ.bind s1 (EvQ.bind tF (EvQ.bind s2 (EvQ.bind eqR ?_))))
 simp only[Bool.not_true,cond_false]
 refine EvQ.bind tF (EvQ.bind (eqFS_ev x0 (by omega)) ?_)
 simp only[Bool.not_true,cond_false]
 refine EvQ.bind a1 (EvQ.bind a2 (EvQ.bind a3 ?_))
 simp only[n1,cond_false]
 refine EvQ.bind eqR ?_
 simp only[Bool.not_true,cond_false]
 refine EvQ.bind b1 (EvQ.bind b2 (EvQ.bind b3 (EvQ.bind b4 ?_)))
 simp only[n2,cond_false,bne_self_eq_false]
 refine EvQ.bind tF (EvQ.bind s2 (EvQ.bind eqR ?_))
 simp only[Bool.not_true,cond_false]
 refine EvQ.bind b4 ?_
 simp only[n2,cond_false,bne_self_eq_false]
 exact EvQ.const _
end Go.Proofs.YtbpfenmkhapeiaaGreat

/- The tables, the residual functions and lemmas of this seat: parts of the proof of the law; conditions: those that each names. -/
import Derived.Test.YtbpfenmkhapeiaaGreatNod
set_option linter.unusedVariables false
set_option linter.unusedSimpArgs false
set_option maxRecDepth 100000
namespace Go.Proofs.YtbpfenmkhapeiaaGreat
open Go.Eng
theorem find_loop(l:List PEnt)(s:ByteArray)(hl:l.length<big)(hr:∀e∈l,0≤e.2∧e.2<20):∃r:Int×Bool,Ev (fun k=>iter k (impl_FS_find_l1 k) (s,l,(l.length:Int),(0:Int))) r∧(0≤r.1∧r.1<20):=by
 unfold big at hl
 refine Ev.of ?_
 refine EvX.list (L:=fun k _=>impl_FS_find_l1 k) l (fun(_:Unit) i=>(s,l,(l.length:Int),((i:Nat):Int))) (fun _ _=>True) (fun _ i e hx hi _=> ?_) (fun _ _=> ?_) () trivial
 ·have hw:wrapK .i64 ((i:Int)+1)=((i+1:Nat):Int):=by rw[i64w (by omega) (by omega)];omega
  simp only[impl_FS_find_l1,Int.ofNat_lt,hi,decide_true,cond_true,Int.natCast_nonneg,if_true,Int.toNat_natCast,hx,Option.bind_some,hw]
  exact EvX.bif (fun h=>EvX.const _ (GL.ret (GR.ret (hr e (List.mem_of_getElem? hx))))) (fun h=>EvX.const _ (GL.self () rfl trivial))
 ·simp only[impl_FS_find_l1,Int.lt_irrefl,decide_false,cond_false]
  exact EvX.const _ (GE.ret (GR.ret ⟨Int.le_refl _,by omega⟩))
noncomputable def findV(l:List PEnt)(s:ByteArray):Int×Bool:=open Classical in if h:∃r,Ev (fun k=>iter k (impl_FS_find_l1 k) (s,l,(l.length:Int),(0:Int))) r then h.choose else(0,false)
theorem findV_ev(l:List PEnt)(s:ByteArray)(hl:l.length<big)(hr:∀e∈l,0≤e.2∧e.2<20):Ev (fun k=>iter k (impl_FS_find_l1 k) (s,l,(l.length:Int),(0:Int))) (findV l s)∧0≤(findV l s).1∧(findV l s).1<20:=by
 obtain⟨r,h1,h2⟩:=find_loop l s hl hr
 have h:∃r,Ev (fun k=>iter k (impl_FS_find_l1 k) (s,l,(l.length:Int),(0:Int))) r:=⟨r,h1⟩
 have e:findV l s=r:=by
  unfold findV
  rw[dif_pos h]
  exact ev_unique h.choose_spec h1
 rw[e];exact⟨h1,h2⟩
section
variable {f:PFS}
theorem find_facts(hP:fsP f){i:Int}{n:PInode}(hn:(fI f)[i.toNat]? =some n)(s:ByteArray):Ev (fun k=>iter k (impl_FS_find_l1 k) (s,entsV f n,((entsV f n).length:Int),(0:Int))) (findV (entsV f n) s)∧0≤(findV (entsV f n) s).1∧(findV (entsV f n) s).1<20:=by
 have h:=ents_len (blk_ok hP hn) (hP.ino _ _ hn)
 exact findV_ev _ _ (by unfold big;omega) fun e he=>(ents_mem he).2
theorem impl_find_ev(hP:fsP f){i:Int}{n:PInode}(h0:0≤i)(hn:(fI f)[i.toNat]? =some n)(s:ByteArray):Ev (fun k=>c_impl_FS_find k (some f,i,s)) (findV (entsV f n) s):=by
 refine EvQ.run (fun k=>impl_FS_find_run k _ _ _) ?_
 simp only[impl_FS_find]
 exact EvQ.bind (impl_entries_ev hP h0 hn) (find_facts hP hn s).1
theorem spec_find_ev(hP:fsP f){i:Int}{n:PInode}(h0:0≤i)(hn:(fI f)[i.toNat]? =some n)(s:ByteArray):Ev (fun k=>c_spec_l10Find k (f,i,s)) (findV (entsV f n) s):=by
 refine EvQ.run (fun k=>spec_l10Find_run k _ _ _) ?_
 simp only[spec_l10Find]
 exact EvQ.bind (spec_entries_ev hP h0 hn) (EvQ.congr (fun k=>rfl) (find_facts hP hn s).1)
end
end Go.Proofs.YtbpfenmkhapeiaaGreat

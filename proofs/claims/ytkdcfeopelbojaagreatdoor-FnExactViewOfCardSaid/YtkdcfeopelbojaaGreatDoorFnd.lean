/- The tables, the residual functions and lemmas of this seat: parts of the proof of the law; conditions: those that each names. -/
import Derived.Test.YtkdcfeopelbojaaGreatDoorNod
set_option linter.unusedVariables false
set_option linter.unusedSimpArgs false
set_option maxRecDepth 100000
namespace Go.Proofs.YtkdcfeopelbojaaGreatDoor
open Go.Eng
theorem OH(l:List uE)(s:ByteArray)(hl:l.length<ia)(hr:∀e∈l,0≤e.2∧e.2<20):∃r:Int×Bool,Ev (fun k=>iter k (cE k) (s,l,(l.length:Int),(0:Int))) r∧(0≤r.1∧r.1<20):=by
 unfold ia at hl
 refine Ev.of ?_
 refine ak.list (L:=fun k _=>cE k) l (fun(_:Unit) i=>(s,l,(l.length:Int),((i:Nat):Int))) (fun _ _=>True) (fun _ i e hx hi _=> ?_) (fun _ _=> ?_) () trivial
 ·have hw:aa .i64 ((i:Int)+1)=((i+1:Nat):Int):=by rw[aV (by omega) (by omega)];omega
  simp only[cE,Int.ofNat_lt,hi,decide_true,cond_true,Int.natCast_nonneg,if_true,Int.toNat_natCast,hx,Option.bind_some,hw]
  exact ak.bif (fun h=>ak.const _ (GL.ret (GR.ret (hr e (List.mem_of_getElem? hx))))) (fun h=>ak.const _ (GL.self () rfl trivial))
 ·simp only[cE,Int.lt_irrefl,decide_false,cond_false]
  exact ak.const _ (GE.ret (GR.ret ⟨Int.le_refl _,by omega⟩))
noncomputable def mw(l:List uE)(s:ByteArray):Int×Bool:=open Classical in if h:∃r,Ev (fun k=>iter k (cE k) (s,l,(l.length:Int),(0:Int))) r then h.choose else(0,false)
theorem Qz(l:List uE)(s:ByteArray)(hl:l.length<ia)(hr:∀e∈l,0≤e.2∧e.2<20):Ev (fun k=>iter k (cE k) (s,l,(l.length:Int),(0:Int))) (mw l s)∧0≤(mw l s).1∧(mw l s).1<20:=by
 obtain⟨r,h1,h2⟩:=OH l s hl hr
 have h:∃r,Ev (fun k=>iter k (cE k) (s,l,(l.length:Int),(0:Int))) r:=⟨r,h1⟩
 have e:mw l s=r:=by
  unfold mw
  rw[dif_pos h]
  exact HZ h.choose_spec h1
 rw[e];exact⟨h1,h2⟩
section
variable {f:eh}
theorem sD(hP:rN f){i:Int}{n:az}(hn:(fI f)[i.toNat]? =some n)(s:ByteArray):Ev (fun k=>iter k (cE k) (s,bT f n,((bT f n).length:Int),(0:Int))) (mw (bT f n) s)∧0≤(mw (bT f n) s).1∧(mw (bT f n) s).1<20:=by
 have h:=rU (oz hP hn) (hP.ino _ _ hn)
 exact Qz _ _ (by unfold ia;omega) fun e he=>(Ln he).2
theorem Ju(hP:rN f){i:Int}{n:az}(h0:0≤i)(hn:(fI f)[i.toNat]? =some n)(s:ByteArray):Ev (fun k=>oh k (some f,i,s)) (mw (bT f n) s):=by
 refine aw.run (fun k=>B2 k _ _ _) ?_
 simp only[Ad]
 exact aw.bind (nj hP h0 hn) (sD hP hn s).1
theorem JS(hP:rN f){i:Int}{n:az}(h0:0≤i)(hn:(fI f)[i.toNat]? =some n)(s:ByteArray):Ev (fun k=>oM k (f,i,s)) (mw (bT f n) s):=by
 refine aw.run (fun k=>Cc k _ _ _) ?_
 simp only[BS]
 exact aw.bind (nw hP h0 hn) (aw.congr (fun k=>rfl) (sD hP hn s).1)
end
end Go.Proofs.YtkdcfeopelbojaaGreatDoor

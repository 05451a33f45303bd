/- The tables, the residual functions and lemmas of this seat: parts of the proof of the law; conditions: those that each names. -/
import Derived.Test.YtkdcfeopelbojaaGreatDoorNod
set_option linter.unusedVariables false
set_option linter.unusedSimpArgs false
set_option maxRecDepth 100000
namespace Go.Proofs.YtkdcfeopelbojaaGreatDoor
open Go.Eng
theorem Nt(l:List tU)(s:ByteArray)(hl:l.length<fu)(hr:∀e∈l,0≤e.2∧e.2<20):∃r:Int×Bool,Ev (fun k=>iter k (cE k) (s,l,(l.length:Int),(0:Int))) r∧(0≤r.1∧r.1<20):=by
 unfold fu at hl
 refine Ev.of ?_
 refine ak.list (L:=fun k _=>cE k) l (fun(_:Unit) i=>(s,l,(l.length:Int),((i:Nat):Int))) (fun _ _=>True) (fun _ i e hx hi _=> ?_) (fun _ _=> ?_) () trivial
 ·have hw:aa .i64 ((i:Int)+1)=((i+1:Nat):Int):=by rw[aV (by omega) (by omega)];omega
  simp only[cE,Int.ofNat_lt,hi,decide_true,cond_true,Int.natCast_nonneg,if_true,Int.toNat_natCast,hx,Option.bind_some,hw]
  exact ak.bif (fun h=>ak.const _ (GL.ret (GR.ret (hr e (List.mem_of_getElem? hx))))) (fun h=>ak.const _ (GL.self () rfl trivial))
 ·simp only[cE,Int.lt_irrefl,decide_false,cond_false]
  exact ak.const _ (GE.ret (GR.ret ⟨Int.le_refl _,by omega⟩))
noncomputable def mm(l:List tU)(s:ByteArray):Int×Bool:=open Classical in if h:∃r,Ev (fun k=>iter k (cE k) (s,l,(l.length:Int),(0:Int))) r then h.choose else(0,false)
theorem Pj(l:List tU)(s:ByteArray)(hl:l.length<fu)(hr:∀e∈l,0≤e.2∧e.2<20):Ev (fun k=>iter k (cE k) (s,l,(l.length:Int),(0:Int))) (mm l s)∧0≤(mm l s).1∧(mm l s).1<20:=by
 obtain⟨r,h1,h2⟩:=Nt l s hl hr
 have h:∃r,Ev (fun k=>iter k (cE k) (s,l,(l.length:Int),(0:Int))) r:=⟨r,h1⟩
 have e:mm l s=r:=by
  unfold mm
  rw[dif_pos h]
  exact Hr h.choose_spec h1
 rw[e];exact⟨h1,h2⟩
section
variable {f:dV}
theorem rR(hP:qv f){i:Int}{n:az}(hn:(fI f)[i.toNat]? =some n)(s:ByteArray):Ev (fun k=>iter k (cE k) (s,bR f n,((bR f n).length:Int),(0:Int))) (mm (bR f n) s)∧0≤(mm (bR f n) s).1∧(mm (bR f n) s).1<20:=by
 have h:=rm (oy hP hn) (hP.ino _ _ hn)
 exact Pj _ _ (by unfold fu;omega) fun e he=>(KB he).2
theorem I3(hP:qv f){i:Int}{n:az}(h0:0≤i)(hn:(fI f)[i.toNat]? =some n)(s:ByteArray):Ev (fun k=>oF k (some f,i,s)) (mm (bR f n) s):=by
 refine ax.run (fun k=>Bv k _ _ _) ?_
 simp only[zK]
 exact ax.bind (mV hP h0 hn) (rR hP hn s).1
theorem Jd(hP:qv f){i:Int}{n:az}(h0:0≤i)(hn:(fI f)[i.toNat]? =some n)(s:ByteArray):Ev (fun k=>ot k (f,i,s)) (mm (bR f n) s):=by
 refine ax.run (fun k=>Cf k _ _ _) ?_
 simp only[Bj]
 exact ax.bind (mO hP h0 hn) (ax.congr (fun k=>rfl) (rR hP hn s).1)
end
end Go.Proofs.YtkdcfeopelbojaaGreatDoor

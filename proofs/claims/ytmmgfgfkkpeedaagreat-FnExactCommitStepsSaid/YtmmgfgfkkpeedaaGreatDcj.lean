/- The tables, the residual functions and lemmas of this seat: parts of the proof of the law; conditions: those that each names. -/
import Derived.Test.YtmmgfgfkkpeedaaGreatDci
set_option linter.unusedVariables false
set_option linter.unusedSimpArgs false
set_option maxRecDepth 100000
namespace Go.Proofs.YtmmgfgfkkpeedaaGreat
open Go.Eng
theorem TP{D:Type}(s:ByteArray)(h:s.size=96):au (fun k (self:D→Option (aN×Bool))=>(eD k (s.extract 29 48)).bind fun v2=>(eD k (s.extract 48 67)).bind fun v3=>
  (bif (!v2.2)then some (((0:Int),(0:Int),(0:Int),(0:Int),(0:Int),(0:Int),(0:Int),([]:List Int),([]:List dK),([]:List dK)),false)else(bif (!v3.2)then some (((0:Int),(0:Int),(0:Int),(0:Int),(0:Int),(0:Int),(0:Int),([]:List Int),([]:List dK),([]:List dK)),false)else(eu k ((br s 0 1:Int),(br s 1 2:Int),(br s 3 1:Int),(br s 4 1:Int),(br s 5 2:Int),(br s 7 2:Int),(br s 9 4:Int),kC s 8,v2.1,v3.1)).bind fun v4=>
  (bif (!(lB v4 s))then some (((0:Int),(0:Int),(0:Int),(0:Int),(0:Int),(0:Int),(0:Int),([]:List Int),([]:List dK),([]:List dK)),false)else some (((br s 0 1:Int),(br s 1 2:Int),(br s 3 1:Int),(br s 4 1:Int),(br s 5 2:Int),(br s 7 2:Int),(br s 9 4:Int),kC s 8,v2.1,v3.1),true))))) (fun _=>some (lO s)):=by
 refine au.bD (sf _) (au.bD (sf _) ?_)
 cases q1:(lQ (s.extract 29 48)).2 with
 |false=>
  simp only[Bool.not_false,cond_true]
  rw[lO,if_neg fun h'=>by rw[(My h h'.2).1]at q1;cases q1]
  exact au.const _
 |true=>
  simp only[Bool.not_true,cond_false]
  cases q2:(lQ (s.extract 48 67)).2 with
  |false=>
   simp only[Bool.not_false,cond_true]
   rw[lO,if_neg fun h'=>by rw[(My h h'.2).2]at q2;cases q2]
   exact au.const _
  |true=>
   simp only[Bool.not_true,cond_false]
   refine au.bD (CE (ino s) (zU s)) ?_
   cases hr:lB (mQ (ino s)) s with
   |true=>
    simp only[Bool.not_true,cond_false]
    rw[lO,if_pos ⟨h,(cS _ _).1 hr⟩]
    exact au.const _
   |false=>
    simp only[Bool.not_false,cond_true]
    rw[lO,if_neg fun h'=>by rw[(cS _ _).2 h'.2]at hr;cases hr]
    exact au.const _
theorem Ar(s:ByteArray)(hs:s.size≤10000000):Ev (fun k=>lg k s) (lO s):=by
 refine au.run (fun k=>yH k _) ?_
 simp only[ua]
 by_cases h:s.size=96
 case neg=>
  rw[show((s.size:Int) != (96:Int))=true by simp;omega]
  simp only[cond_true]
  rw[lO,if_neg fun h'=>h h'.1];exact au.const _
 rw[show((s.size:Int) != (96:Int))=false by simp;omega]
 have e1:aa .i64 ((0:Int)+1)=1:=aR (by omega) (by omega)
 have e2:aa .i64 ((1:Int)+2)=3:=aR (by omega) (by omega)
 have e3:aa .i64 ((3:Int)+1)=4:=aR (by omega) (by omega)
 have e4:aa .i64 ((4:Int)+1)=5:=aR (by omega) (by omega)
 have e5:aa .i64 ((5:Int)+2)=7:=aR (by omega) (by omega)
 have e6:aa .i64 ((7:Int)+2)=9:=aR (by omega) (by omega)
 have e7:aa .i64 ((9:Int)+4)=13:=aR (by omega) (by omega)
 simp only[cond_false,e1,e2,e3,e4,e5,e6,e7]
 have g:∀a w:Nat,1≤w→w≤6→a+w≤96→Ev (fun k=>aU k (s,(a:Int),(w:Int))) ((br s a w:Int),true):=fun a w h1 h2 h3=>by
  have:=zq s a w h1 h2 (by omega) hs
  rw[M0 (by omega)]at this;exact this
 refine au.bind (g 0 1 (by omega) (by omega) (by omega)) (au.bind (g 1 2 (by omega) (by omega) (by omega)) (au.bind (g 3 1 (by omega) (by omega) (by omega)) (au.bind (g 4 1 (by omega) (by omega) (by omega)) (au.bind (g 5 2 (by omega) (by omega) (by omega)) (au.bind (g 7 2 (by omega) (by omega) (by omega)) (au.bind (g 9 4 (by omega) (by omega) (by omega)) (bS.ev ?_)))))))
 have hz:=I1 s 7 (show 2≤4 by omega)
 refine bS.count (L:=fN) (r:=lO s) (fun i=>((),(),(),(),(),(i:Int),((br s 0 1:Int),(br s 1 2:Int),(br s 3 1:Int),(br s 4 1:Int),(br s 5 2:Int),(br s 7 2:Int),(br s 9 4:Int),kC s i,[],[]),((13+2*i:Nat):Int),Kd,s)) 8 (fun i hi=> ?_) (bS.stop ?_)
 ·have w4:aa .i64 (((13+2*i:Nat):Int)+2)=((13+2*(i+1):Nat):Int):=by rw[aR (by omega) (by omega)];omega
  have w5:aa .i64 ((i:Int)+1)=((i+1:Nat):Int):=by rw[aR (by omega) (by omega)];omega
  have hb:=zj s i
  have hv:=I1 s (13+2*i) (show 2≤4 by omega)
  have w6:aa .i64 ((br s (13+2*i) 2:Int)-1)=(br s (13+2*i) 2:Int)-1:=aR (by omega) (by omega)
  simp only[m7,fN,show(i:Int)<8 by omega,decide_true,cond_true,w4,w5]
  refine au.bD (g (13+2*i) 2 (by omega) (by omega) (by omega)) (au.bD (oC _ (by omega)) ?_)
  by_cases hn:(i:Int)<lM (br s 7 2:Int)
  ·have hc:((kC s i).length+[aa .i64 ((br s (13+2*i) 2:Int)-1)].length)*8≤af:=by
    show((kC s i).length+1)*8≤af;unfold af;omega
   have he:kC s (i+1)=kC s i++[aa .i64 ((br s (13+2*i) 2:Int)-1)]:=by rw[kC,if_pos hn,w6]
   simp only[hn,decide_true,cond_true]
   refine au.congr (fun k=> ?_) (au.const _)
   funext self
   rw[he]
   exact if_pos hc
  ·have he:kC s (i+1)=kC s i:=by rw[kC,if_neg hn]
   simp only[hn,decide_false,cond_false]
   rw[he]
   exact au.const _
 ·have f1:aa .i64 (((13+2*8:Nat):Int)+19)=48:=aR (by omega) (by omega)
  have f2:aa .i64 (((13+2*8:Nat):Int)+38)=67:=aR (by omega) (by omega)
  have c1:(48:Int)≤(s.size:Int):=by omega
  have c2:(67:Int)≤(s.size:Int):=by omega
  have k1:(0:Int)≤48∧(0:Int)≤((13+2*8:Nat):Int)∧(0:Int)≤67∧((13+2*8:Nat):Int)≤((48:Nat):Int)∧(48:Int)≤((67:Nat):Int):=by omega
  simp only[fN,show ¬((8:Nat):Int)<8 by omega,decide_false,cond_false,f1,f2,k1,c1,c2,if_true,show((48:Int).toNat)=48 from rfl,show(((13+2*8:Nat):Int).toNat)=29 from rfl,show((67:Int).toNat)=67 from rfl]
  exact TP s h
end Go.Proofs.YtmmgfgfkkpeedaaGreat

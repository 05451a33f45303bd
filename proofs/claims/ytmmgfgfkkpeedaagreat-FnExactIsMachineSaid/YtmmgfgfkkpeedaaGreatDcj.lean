/- The tables, the residual functions and lemmas of this seat: parts of the proof of the law; conditions: those that each names. -/
import Derived.Test.YtmmgfgfkkpeedaaGreatDci
set_option linter.unusedVariables false
set_option linter.unusedSimpArgs false
set_option maxRecDepth 100000
namespace Go.Proofs.YtmmgfgfkkpeedaaGreat
open Go.Eng
theorem impI_fin{D:Type}(s:ByteArray)(h:s.size=96):EvQ (fun k (self:D→Option (PInode×Bool))=>(c_impl_UnpackAcl k (s.extract 29 48)).bind fun v2=>(c_impl_UnpackAcl k (s.extract 48 67)).bind fun v3=>
  (bif (!v2.2)then some (((0:Int),(0:Int),(0:Int),(0:Int),(0:Int),(0:Int),(0:Int),([]:List Int),([]:List PAcl),([]:List PAcl)),false)else(bif (!v3.2)then some (((0:Int),(0:Int),(0:Int),(0:Int),(0:Int),(0:Int),(0:Int),([]:List Int),([]:List PAcl),([]:List PAcl)),false)else(c_impl_PackInode k ((numB s 0 1:Int),(numB s 1 2:Int),(numB s 3 1:Int),(numB s 4 1:Int),(numB s 5 2:Int),(numB s 7 2:Int),(numB s 9 4:Int),blkL s 8,v2.1,v3.1)).bind fun v4=>
  (bif (!(eqS v4 s))then some (((0:Int),(0:Int),(0:Int),(0:Int),(0:Int),(0:Int),(0:Int),([]:List Int),([]:List PAcl),([]:List PAcl)),false)else some (((numB s 0 1:Int),(numB s 1 2:Int),(numB s 3 1:Int),(numB s 4 1:Int),(numB s 5 2:Int),(numB s 7 2:Int),(numB s 9 4:Int),blkL s 8,v2.1,v3.1),true))))) (fun _=>some (decI s)):=by
 refine EvQ.bindS (impl_UnpackAcl_ev _) (EvQ.bindS (impl_UnpackAcl_ev _) ?_)
 cases q1:(decA (s.extract 29 48)).2 with
 |false=>
  simp only[Bool.not_false,cond_true]
  rw[decI,if_neg fun h'=>by rw[(decI_both h h'.2).1]at q1;cases q1]
  exact EvQ.const _
 |true=>
  simp only[Bool.not_true,cond_false]
  cases q2:(decA (s.extract 48 67)).2 with
  |false=>
   simp only[Bool.not_false,cond_true]
   rw[decI,if_neg fun h'=>by rw[(decI_both h h'.2).2]at q2;cases q2]
   exact EvQ.const _
  |true=>
   simp only[Bool.not_true,cond_false]
   refine EvQ.bindS (impl_PackInodeX_ev (ino s) (ino_small s)) ?_
   cases hr:eqS (packIX (ino s)) s with
   |true=>
    simp only[Bool.not_true,cond_false]
    rw[decI,if_pos ⟨h,(eqS_iff _ _).1 hr⟩]
    exact EvQ.const _
   |false=>
    simp only[Bool.not_false,cond_true]
    rw[decI,if_neg fun h'=>by rw[(eqS_iff _ _).2 h'.2]at hr;cases hr]
    exact EvQ.const _
theorem impl_UnpackInode_ev(s:ByteArray)(hs:s.size≤10000000):Ev (fun k=>c_impl_UnpackInode k s) (decI s):=by
 refine EvQ.run (fun k=>impl_UnpackInode_run k _) ?_
 simp only[impl_UnpackInode]
 by_cases h:s.size=96
 case neg=>
  rw[show((s.size:Int) != (96:Int))=true by simp;omega]
  simp only[cond_true]
  rw[decI,if_neg fun h'=>h h'.1];exact EvQ.const _
 rw[show((s.size:Int) != (96:Int))=false by simp;omega]
 have e1:wrapK .i64 ((0:Int)+1)=1:=i64w (by omega) (by omega)
 have e2:wrapK .i64 ((1:Int)+2)=3:=i64w (by omega) (by omega)
 have e3:wrapK .i64 ((3:Int)+1)=4:=i64w (by omega) (by omega)
 have e4:wrapK .i64 ((4:Int)+1)=5:=i64w (by omega) (by omega)
 have e5:wrapK .i64 ((5:Int)+2)=7:=i64w (by omega) (by omega)
 have e6:wrapK .i64 ((7:Int)+2)=9:=i64w (by omega) (by omega)
 have e7:wrapK .i64 ((9:Int)+4)=13:=i64w (by omega) (by omega)
 simp only[cond_false,e1,e2,e3,e4,e5,e6,e7]
 have g:∀a w:Nat,1≤w→w≤6→a+w≤96→Ev (fun k=>c_impl_GetNumber k (s,(a:Int),(w:Int))) ((numB s a w:Int),true):=fun a w h1 h2 h3=>by
  have:=impl_Get_ev s a w h1 h2 (by omega) hs
  rw[getR_ok (by omega)]at this;exact this
 refine EvQ.bind (g 0 1 (by omega) (by omega) (by omega)) (EvQ.bind (g 1 2 (by omega) (by omega) (by omega)) (EvQ.bind (g 3 1 (by omega) (by omega) (by omega)) (EvQ.bind (g 4 1 (by omega) (by omega) (by omega)) (EvQ.bind (g 5 2 (by omega) (by omega) (by omega)) (EvQ.bind (g 7 2 (by omega) (by omega) (by omega)) (EvQ.bind (g 9 4 (by omega) (by omega) (by omega)) (EvL.ev ?_)))))))
 have hz:=numB_le s 7 (show 2≤4 by omega)
 refine EvL.count (L:=impl_UnpackInode_l1) (r:=decI s) (fun i=>((),(),(),(),(),(i:Int),((numB s 0 1:Int),(numB s 1 2:Int),(numB s 3 1:Int),(numB s 4 1:Int),(numB s 5 2:Int),(numB s 7 2:Int),(numB s 9 4:Int),blkL s i,[],[]),((13+2*i:Nat):Int),zeroI,s)) 8 (fun i hi=> ?_) (EvL.stop ?_)
 ·have w4:wrapK .i64 (((13+2*i:Nat):Int)+2)=((13+2*(i+1):Nat):Int):=by rw[i64w (by omega) (by omega)];omega
  have w5:wrapK .i64 ((i:Int)+1)=((i+1:Nat):Int):=by rw[i64w (by omega) (by omega)];omega
  have hb:=blkL_len s i
  have hv:=numB_le s (13+2*i) (show 2≤4 by omega)
  have w6:wrapK .i64 ((numB s (13+2*i) 2:Int)-1)=(numB s (13+2*i) 2:Int)-1:=i64w (by omega) (by omega)
  simp only[EvS,impl_UnpackInode_l1,show(i:Int)<8 by omega,decide_true,cond_true,w4,w5]
  refine EvQ.bindS (g (13+2*i) 2 (by omega) (by omega) (by omega)) (EvQ.bindS (impl_BlocksNeeded_ev _ (by omega)) ?_)
  by_cases hn:(i:Int)<needI (numB s 7 2:Int)
  ·have hc:((blkL s i).length+[wrapK .i64 ((numB s (13+2*i) 2:Int)-1)].length)*8≤capBytes:=by
    show((blkL s i).length+1)*8≤capBytes;unfold capBytes;omega
   have he:blkL s (i+1)=blkL s i++[wrapK .i64 ((numB s (13+2*i) 2:Int)-1)]:=by rw[blkL,if_pos hn,w6]
   simp only[hn,decide_true,cond_true]
   refine EvQ.congr (fun k=> ?_) (EvQ.const _)
   funext self
   rw[he]
   exact if_pos hc
  ·have he:blkL s (i+1)=blkL s i:=by rw[blkL,if_neg hn]
   simp only[hn,decide_false,cond_false]
   rw[he]
   exact EvQ.const _
 ·have f1:wrapK .i64 (((13+2*8:Nat):Int)+19)=48:=i64w (by omega) (by omega)
  have f2:wrapK .i64 (((13+2*8:Nat):Int)+38)=67:=i64w (by omega) (by omega)
  have c1:(48:Int)≤(s.size:Int):=by omega
  have c2:(67:Int)≤(s.size:Int):=by omega
  have k1:(0:Int)≤48∧(0:Int)≤((13+2*8:Nat):Int)∧(0:Int)≤67∧((13+2*8:Nat):Int)≤((48:Nat):Int)∧(48:Int)≤((67:Nat):Int):=by omega
  simp only[impl_UnpackInode_l1,show ¬((8:Nat):Int)<8 by omega,decide_false,cond_false,f1,f2,k1,c1,c2,if_true,show((48:Int).toNat)=48 from rfl,show(((13+2*8:Nat):Int).toNat)=29 from rfl,show((67:Int).toNat)=67 from rfl]
  exact impI_fin s h
end Go.Proofs.YtmmgfgfkkpeedaaGreat

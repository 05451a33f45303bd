/- The tables, the residual functions and lemmas of this seat: parts of the proof of the law; conditions: those that each names. -/
import Derived.Test.YtmmgfgfkkpeedaaGreatSec
import Derived.Test.YtmmgfgfkkpeedaaGreatUnz
set_option linter.unusedVariables false
set_option linter.unusedSimpArgs false
set_option maxRecDepth 100000
namespace Go.Proofs.YtmmgfgfkkpeedaaGreat
open Go.Eng
open Classical in
noncomputable def eX(d:cO):jB×Bool:=if mj d∧d.1.length=186 then pV (O4 d d.1.length)else(KT,false)
theorem Kp(d:cO)(hs:It d):Ev (fun k=>tL k d) (eX d):=by
 refine au.run (fun k=>ID k _) ?_
 simp only[HC]
 by_cases hP:mj d
 case neg=>
  refine au.bind (Af (ik d hs) hP) ?_
  simp only[Bool.not_false,cond_true]
  rw[eX,if_neg fun h=>hP h.1];exact au.const _
 refine au.bind (ya (ik d hs) hP) ?_
 simp only[Bool.not_true,cond_false]
 by_cases hl:d.1.length=186
 case neg=>
  rw[show((d.1.length:Int) != (186:Int))=true by simp;omega]
  simp only[cond_true]
  rw[eX,if_neg fun h=>hl h.2];exact au.const _
 rw[show((d.1.length:Int) != (186:Int))=false by simp;omega]
 simp only[cond_false]
 refine au.bind (Im hP) (au.bind (HF (Na hP)).1 ?_)
 rw[eX,if_pos ⟨hP,hl⟩]
 exact au.const _
theorem Jl(d:cO)(hs:It d):Ev (fun k=>s6 k d) (eX d):=by
 refine au.run (fun k=>Iu k _) ?_
 simp only[Hc]
 by_cases hP:mj d
 case neg=>
  refine au.bind (Af (ie d hs) hP) ?_
  simp only[Bool.not_false,cond_true]
  rw[eX,if_neg fun h=>hP h.1];exact au.const _
 refine au.bind (ya (ie d hs) hP) ?_
 simp only[Bool.not_true,cond_false]
 by_cases hl:d.1.length=186
 case neg=>
  rw[show((d.1.length:Int) != (186:Int))=true by simp;omega]
  simp only[cond_true]
  rw[eX,if_neg fun h=>hl h.2];exact au.const _
 rw[show((d.1.length:Int) != (186:Int))=false by simp;omega]
 simp only[cond_false]
 rw[eX,if_pos ⟨hP,hl⟩]
 refine bS.ev ?_
 refine bS.count (L:=m5) (r:=pV (O4 d d.1.length)) (fun i=>((),(),O4 d i,(d.1.length:Int),(i:Int),KT,d)) d.1.length (fun i hi=> ?_) (bS.stop ?_)
 ·have hc:((O4 d i).length+[xH d i].length)*16≤af:=by
   rw[vo];show(i+1)*16≤af;unfold af;omega
  simp only[m7,m5,Int.ofNat_lt,hi,decide_true,cond_true,iM (show i<_ by omega)]
  refine au.bD (pT d hP i hi) ?_
  refine au.congr (fun k=> ?_) (au.const _)
  funext self
  exact if_pos hc
 ·simp only[m5,Int.lt_irrefl,decide_false,cond_false]
  refine au.bD (HF (Na hP)).2 ?_
  exact au.const _
theorem Sp(d:cO):eg (eX d).1≤2000000:=by
 unfold eX
 split
 ·rename_i h
  exact Tz (Na h.1)
 ·exact(by decide:eg KT≤2000000)
end Go.Proofs.YtmmgfgfkkpeedaaGreat

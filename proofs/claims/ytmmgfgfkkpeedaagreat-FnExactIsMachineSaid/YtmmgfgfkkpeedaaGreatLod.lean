/- The tables, the residual functions and lemmas of this seat: parts of the proof of the law; conditions: those that each names. -/
import Derived.Test.YtmmgfgfkkpeedaaGreatSec
import Derived.Test.YtmmgfgfkkpeedaaGreatUnz
set_option linter.unusedVariables false
set_option linter.unusedSimpArgs false
set_option maxRecDepth 100000
namespace Go.Proofs.YtmmgfgfkkpeedaaGreat
open Go.Eng
open Classical in
noncomputable def loadV(d:PDisk):PFS×Bool:=if diskP d∧d.1.length=186 then unpV (rdL d d.1.length)else(zFS,false)
theorem spec_LoadFS_ev(d:PDisk)(hs:dskS d):Ev (fun k=>c_spec_LoadFS k d) (loadV d):=by
 refine EvQ.run (fun k=>spec_LoadFS_run k _) ?_
 simp only[spec_LoadFS]
 by_cases hP:diskP d
 case neg=>
  refine EvQ.bind (say_false (spec_IsDisk_say d hs) hP) ?_
  simp only[Bool.not_false,cond_true]
  rw[loadV,if_neg fun h=>hP h.1];exact EvQ.const _
 refine EvQ.bind (say_true (spec_IsDisk_say d hs) hP) ?_
 simp only[Bool.not_true,cond_false]
 by_cases hl:d.1.length=186
 case neg=>
  rw[show((d.1.length:Int) != (186:Int))=true by simp;omega]
  simp only[cond_true]
  rw[loadV,if_neg fun h=>hl h.2];exact EvQ.const _
 rw[show((d.1.length:Int) != (186:Int))=false by simp;omega]
 simp only[cond_false]
 refine EvQ.bind (spec_Sectors_ev hP) (EvQ.bind (unpack_same (rdL_szM hP)).1 ?_)
 rw[loadV,if_pos ⟨hP,hl⟩]
 exact EvQ.const _
theorem impl_LoadFS_ev(d:PDisk)(hs:dskS d):Ev (fun k=>c_impl_LoadFS k d) (loadV d):=by
 refine EvQ.run (fun k=>impl_LoadFS_run k _) ?_
 simp only[impl_LoadFS]
 by_cases hP:diskP d
 case neg=>
  refine EvQ.bind (say_false (impl_IsDisk_say d hs) hP) ?_
  simp only[Bool.not_false,cond_true]
  rw[loadV,if_neg fun h=>hP h.1];exact EvQ.const _
 refine EvQ.bind (say_true (impl_IsDisk_say d hs) hP) ?_
 simp only[Bool.not_true,cond_false]
 by_cases hl:d.1.length=186
 case neg=>
  rw[show((d.1.length:Int) != (186:Int))=true by simp;omega]
  simp only[cond_true]
  rw[loadV,if_neg fun h=>hl h.2];exact EvQ.const _
 rw[show((d.1.length:Int) != (186:Int))=false by simp;omega]
 simp only[cond_false]
 rw[loadV,if_pos ⟨hP,hl⟩]
 refine EvL.ev ?_
 refine EvL.count (L:=impl_LoadFS_l1) (r:=unpV (rdL d d.1.length)) (fun i=>((),(),rdL d i,(d.1.length:Int),(i:Int),zFS,d)) d.1.length (fun i hi=> ?_) (EvL.stop ?_)
 ·have hc:((rdL d i).length+[readD d i].length)*16≤capBytes:=by
   rw[rdL_len];show(i+1)*16≤capBytes;unfold capBytes;omega
  simp only[EvS,impl_LoadFS_l1,Int.ofNat_lt,hi,decide_true,cond_true,wsucc (show i<_ by omega)]
  refine EvQ.bindS (impl_Read_ev d hP i hi) ?_
  refine EvQ.congr (fun k=> ?_) (EvQ.const _)
  funext self
  exact if_pos hc
 ·simp only[impl_LoadFS_l1,Int.lt_irrefl,decide_false,cond_false]
  refine EvQ.bindS (unpack_same (rdL_szM hP)).2 ?_
  exact EvQ.const _
theorem load_size(d:PDisk):szM_FS (loadV d).1≤2000000:=by
 unfold loadV
 split
 ·rename_i h
  exact unp_size (rdL_szM h.1)
 ·exact(by decide:szM_FS zFS≤2000000)
end Go.Proofs.YtmmgfgfkkpeedaaGreat

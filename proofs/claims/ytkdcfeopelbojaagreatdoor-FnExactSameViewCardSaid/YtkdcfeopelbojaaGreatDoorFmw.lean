/- The tables, the residual functions and lemmas of this seat: parts of the proof of the law; conditions: those that each names. -/
import Derived.Test.YtkdcfeopelbojaaGreatDoorProg
import Derived.Laws.CopyOwn
import Derived.Laws.MakeOwn
import Derived.Deep.RegionLaw
import Derived.Deep.LoopGhost
import Derived.StillTailTactics
import Derived.WalkKit
import Derived.BigRegion
import Derived.Lib.SlBytesConst
import Derived.Test.YtkdcfeopelbojaaGreatDoorEng6
set_option linter.unusedVariables false
set_option maxRecDepth 1000000
namespace Go.Proofs
open Go.RowKit Go.Lib
open Go.Eng (ofBytes rO fS gM o7 j7 qF)
theorem Hk(m:Int)(h1: -9223372036854775808≤m)(h2:m≤9223372036854775807)(w:World):
  Calls Tryz.prog 166 #[.int .i64 m] w fun e w'=>e= .returned (.bool (decide (0≤m∧m≤2047)))∧w'=w:=by
 go_enter Tryz.func166,Tryz.ntmps166
 go_wp2
 ·go_ret
  refine⟨?_,rfl⟩
  congr 2
  simp;omega
 ·go_ret
  refine⟨?_,rfl⟩
  congr 2
  simp;omega
theorem Lu(x:Int)(h0:0≤x)(h1:x≤2047):bits BinOp.and .i64 x 1=x % 2:=by
 obtain⟨n,rfl⟩:=Int.eq_ofNat_of_zero_le h0
 have key:∀n:Fin 2048,bits BinOp.and .i64 ((n.val:Nat):Int) 1=((n.val:Nat):Int) % 2:=by decide+kernel
 exact key ⟨n,by omega⟩
theorem NM(m:Int)(h:0≤m∧m≤2047)(k:Nat):0≤m / 2 ^ k∧m / 2 ^ k≤2047:=by
 have hp:(0:Int)<2 ^ k:=Int.pow_pos (by decide)
 refine⟨Int.ediv_nonneg h.1 (Int.le_of_lt hp), ?_⟩
 exact Int.le_trans (Int.ediv_le_self _ h.1) h.2
def eU(m:Int)(i:Nat):Array Value:=((o7 m i).map (Value.int .u8)).toArray
set_option maxHeartbeats 4000000 in
theorem Qp(m:Int)(h1: -9223372036854775808≤m)(h2:m≤9223372036854775807)(w:World):
  Calls Tryz.prog 107 #[.int .i64 m] w fun e w'=>e= .returned (.string (qF m))∧Below w.heap.size w w':=by
 unfold qF
 by_cases hq:0≤m∧m≤2047
 ·rw[if_pos hq]
  have hdec:decide (0≤m∧m≤2047)=true:=decide_eq_true hq
  go_enter Tryz.func107,Tryz.ntmps107
  go_wp2_with (go_at_call 166;refine(Hk m h1 h2 _).mono ?_;rintro e w' ⟨rfl,hw⟩;rw[hw,hdec])
  rw[run_convert_bytes_const (P:=Tryz.prog) w 118 5 _ 11 11 Tryz.underlying118 Tryz.underlying5]
  simp only[Result.andThen]
  have HR:Aside ((w.alloc (.cells (eU m 0) 5 (11,12))).heap[w.heap.size]? =some (.cells (eU m 0) 5 (11,12))∧Below w.heap.size w (w.alloc (.cells (eU m 0) 5 (11,12)))):=⟨by show(w.heap.push _)[w.heap.size]? =_;rw[Array.getElem?_push];exact if_pos rfl,(Below.refl _ _).alloc (Nat.le_refl _) _⟩
  obtain⟨w1,hw1⟩:∃w1,w.alloc (.cells (eU m 0) 5 (11,12))=w1:=⟨_,rfl⟩
  have e1:w.alloc (Obj.cells
       #[Value.int IntKind.u8 115,Value.int IntKind.u8 116,Value.int IntKind.u8 114,Value.int IntKind.u8 119,
        Value.int IntKind.u8 120,Value.int IntKind.u8 114,Value.int IntKind.u8 119,Value.int IntKind.u8 120,
        Value.int IntKind.u8 114,Value.int IntKind.u8 119,Value.int IntKind.u8 120] 5 (11,12))=w1:=hw1
  rw[hw1]at HR
  obtain⟨G,hG⟩:∃G,w.heap.size=G:=⟨_,rfl⟩
  show Oper.upon _ _ _ _ _ (.ok (.value (.slice (some {block:=w.heap.size,off:=0}) 11 11)) (w.alloc (Obj.cells
       #[Value.int IntKind.u8 115,Value.int IntKind.u8 116,Value.int IntKind.u8 114,Value.int IntKind.u8 119,
        Value.int IntKind.u8 120,Value.int IntKind.u8 114,Value.int IntKind.u8 119,Value.int IntKind.u8 120,
        Value.int IntKind.u8 114,Value.int IntKind.u8 119,Value.int IntKind.u8 120] 5 (11,12))))
  rw[e1,hG]
  rw[hG]at HR
  clear hw1 e1
  go_wp2
  go_loopg [12] 11 (fun g t12 wx=>∃i:Nat,i≤11∧11≤i+g∧t12= .int .i64 (i:Int)∧Hid (wx.heap[G]? =some (.cells (eU m i) 5 (11,12)))∧Below G w wx)
  case atStart=>exact⟨0,by omega,by omega,rfl,HR.out.1,HR.out.2⟩
  case round=>
   obtain⟨i,hi,hig,rfl,hrow,hbel⟩:=hrel
   have HB:Aside (Below G w wr):=hbel
   clear hbel
   by_cases hlt:i<11
   ·have hltI:(i:Int)<11:=by omega
    have hfz:wr.frozen? ⟨G,i,none⟩=false:=by
     have h0:wr.heap[G]? =some (.cells (eU m i) 5 (11,12)):=hrow.out
     simp only[World.frozen?,h0]
     simp;omega
    obtain⟨v,hcl⟩:∃v,wr.cell? ⟨G,i,none⟩=some v:=by
     have h0:wr.heap[G]? =some (.cells (eU m i) 5 (11,12)):=hrow.out
     have h3:=j7 m i
     refine⟨(eU m i)[i]'(by simp[eU,h3];omega), ?_⟩
     simp only[World.cell?,h0]
     exact Array.getElem?_eq_getElem _
    obtain⟨hs0,hs1⟩:=NM m hq (10-i)
    have hb:=Lu _ hs0 hs1
    by_cases hbit:(m / 2 ^(10-i)) % 2=0
    ·rw[hbit]at hb
     have hst:(wr.setCell ⟨G,i,none⟩ (.int .u8 45)).heap[G]? =some (.cells (eU m (i+1)) 5 (11,12))∧Below G w (wr.setCell ⟨G,i,none⟩ (.int .u8 45)):=by
      have h0:wr.heap[G]? =some (.cells (eU m i) 5 (11,12)):=hrow.out
      refine⟨?_,HB.out.setCell (Nat.le_refl _) _⟩
      have hm:eU m (i+1)=(eU m i).setIfInBounds i (.int .u8 45):=by
       simp only[eU,o7,gM,hbit,decide_true,if_true,List.map_set,List.setIfInBounds_toArray]
      rw[hm]
      simp only[World.setCell,Array.getElem?_modify,h0,if_true,Option.map_some]
      rfl
     have HS:Aside ((wr.setCell ⟨G,i,none⟩ (.int .u8 45)).heap[G]? =some (.cells (eU m (i+1)) 5 (11,12))∧Below G w (wr.setCell ⟨G,i,none⟩ (.int .u8 45))):=hst
     clear hst
     go_wp2
     go_roundg (gk-1)
     case measure=>omega
     case rel=>exact⟨i+1,by omega,by omega,by go_num,HS.out.1,HS.out.2⟩
    ·have hb1:(m / 2 ^(10-i)) % 2=1:=by omega
     rw[hb1]at hb
     have hrow':Aside (wr.heap[G]? =some (.cells (eU m (i+1)) 5 (11,12))):=by
      have hm:eU m (i+1)=eU m i:=by
       simp only[eU,o7,gM,hb1,show ¬((1:Int)=0)by decide,decide_false,Bool.false_eq_true,if_false]
      rw[hm];exact hrow.out
     go_wp2
     go_roundg (gk-1)
     case measure=>omega
     case rel=>exact⟨i+1,by omega,by omega,by go_num,hrow'.out,HB.out⟩
   ·obtain rfl:i=11:=by omega
    have hload:=run_loadCells_list (P:=Tryz.prog) wr ⟨G,0,none⟩ ((o7 m 11).map (Value.int .u8)) (fun j v hj=>by
     have h0:wr.heap[G]? =some (.cells (eU m 11) 5 (11,12)):=hrow.out
     rw[fS rfl]
     simp only[Addr.plus,Nat.zero_add,World.cell?,h0]
     simpa[eU]using hj)
    rw[List.length_map,j7]at hload
    have hconv:=(run_convert_bytes_string (P:=Tryz.prog) wr 118 9 5 (some ⟨G,0,none⟩) 11 11 Tryz.underlying118 Tryz.underlying5 Tryz.underlying9).trans (run_bytesToString wr ⟨G,0,none⟩ 11 11 (o7 m 11) hload)
    rw[rO]at hconv
    go_wp2
    go_ret
    exact⟨rfl,by rw[hG];exact HB.out⟩
 ·rw[if_neg hq]
  have hdec:decide (0≤m∧m≤2047)=false:=decide_eq_false hq
  go_enter Tryz.func107,Tryz.ntmps107
  go_wp2_with (go_at_call 166;refine(Hk m h1 h2 _).mono ?_;rintro e w' ⟨rfl,hw⟩;rw[hw,hdec])
  go_ret
  exact⟨rfl,Below.refl _ _⟩
end Go.Proofs

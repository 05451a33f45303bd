/- The tables, the residual functions and lemmas of this seat: parts of the proof of the law; conditions: those that each names. -/
import Derived.Test.YtmmgfgfkkpeedaaDoorRes
set_option linter.unusedVariables false
set_option linter.unusedSimpArgs false
set_option maxRecDepth 100000
namespace Go.Proofs.YtmmgfgfkkpeedaaDoor
open Go.Eng
theorem szAclEntryS_ev(x:(List DAclEntry))(hx:okD ((.list false TAclEntryk)) x){left:Int}(h0:0≤left)(h1:left≤1048576):Ev (fun k=>c_laws_szAclEntryS k (x,left)) (szR x.length left):=by
 refine EvQ.run (fun k=>laws_szAclEntryS_run k x left) ?_
 simp only[laws_szAclEntryS]
 have b0:x.length≤9223372036854775807:=hx.1
 have e0:wrapK .i64 (left-(x.length:Int))=left-x.length:=wrap_i64 (by omega) (by omega)
 simp only[e0]
 by_cases c0:left-(x.length:Int)<0
 ·simp only[c0,decide_true,cond_true];exact⟨0,fun k _=>by rw[szR,if_neg (by omega)]⟩
 simp only[c0,decide_false,cond_false]
 exact⟨0,fun k _=>by rw[szR,if_pos (by omega)]⟩
def szM_ArchiveItem(x:DArchiveItem):Nat:=x.2.1.size+x.2.2.2.1.length+x.2.2.2.2.size
theorem szArchiveItem_ev(x:DArchiveItem)(hx:okD (TArchiveItemk) x){left:Int}(h0:0≤left)(h1:left≤1048576):Ev (fun k=>c_laws_szArchiveItem k (x,left)) (szR (szM_ArchiveItem x) left):=by
 refine EvQ.run (fun k=>laws_szArchiveItem_run k x left) ?_
 simp only[laws_szArchiveItem,szM_ArchiveItem]
 have b0:x.2.1.size≤9223372036854775807:=hx.2.1
 have e0:wrapK .i64 (left-(x.2.1.size:Int))=left-x.2.1.size:=wrap_i64 (by omega) (by omega)
 simp only[e0]
 by_cases c0:left-(x.2.1.size:Int)<0
 ·simp only[c0,decide_true,cond_true];exact⟨0,fun k _=>by rw[szR,if_neg (by omega)]⟩
 simp only[c0,decide_false,cond_false]
 refine EvQ.bind (szAclEntryS_ev x.2.2.2.1 hx.2.2.2.1 (left:=left-(x.2.1.size:Int)) (by omega) (by omega)) ?_
 by_cases c1:szR x.2.2.2.1.length (left-(x.2.1.size:Int))<0
 ·simp only[c1,decide_true,cond_true];exact⟨0,fun k _=>by rw[szR,if_neg (by have:=szR_neg c1;omega)]⟩
 obtain⟨d1,e1⟩:=szR_nonneg c1
 simp only[c1,decide_false,cond_false]
 simp only[e1]
 have b2:x.2.2.2.2.size≤9223372036854775807:=hx.2.2.2.2
 have e2:wrapK .i64 (left-(x.2.1.size:Int)-(x.2.2.2.1.length:Int)-(x.2.2.2.2.size:Int))=left-(x.2.1.size:Int)-(x.2.2.2.1.length:Int)-x.2.2.2.2.size:=wrap_i64 (by omega) (by omega)
 simp only[e2]
 by_cases c2:left-(x.2.1.size:Int)-(x.2.2.2.1.length:Int)-(x.2.2.2.2.size:Int)<0
 ·simp only[c2,decide_true,cond_true];exact⟨0,fun k _=>by rw[szR,if_neg (by omega)]⟩
 simp only[c2,decide_false,cond_false]
 exact⟨0,fun k _=>by first|rfl|(rw[szR,if_pos (by omega)];done)|(rw[szR,if_pos (by omega)];simp only[Option.some.injEq];omega)⟩
theorem toAclEntry_ev(x:DAclEntry):Ev (fun k=>c_laws_toAclEntry k x) x:=by
 refine EvQ.run (fun k=>laws_toAclEntry_run k x) ?_
 simp only[laws_toAclEntry]
 exact EvQ.const _
theorem toAclEntryS_ev(x:(List DAclEntry))(hx:x.length≤1073741824):Ev (fun k=>c_laws_toAclEntryS k x) x:=by
 refine EvQ.run (fun k=>laws_toAclEntryS_run k x) ?_
 simp only[laws_toAclEntryS]
 simp only[if_pos (show(0:Int)≤(x.length:Int)by omega),if_pos (Int.le_refl (x.length:Int)),if_pos (show(x.length:Int)*24≤(capBytes:Int)by simp only[capBytes];omega)]
 have hl:laws_toAclEntryS_l1=copyL c_laws_toAclEntry:=rfl
 rw[hl]
 exact copyL_ev (fun y hy=>toAclEntry_ev y) (by omega) _ (by simp)
theorem toArchiveItem_ev(x:DArchiveItem)(hx:(szM_ArchiveItem x)≤1073741824):Ev (fun k=>c_laws_toArchiveItem k x) x:=by
 refine EvQ.run (fun k=>laws_toArchiveItem_run k x) ?_
 simp only[laws_toArchiveItem]
 simp only[szM_ArchiveItem]at hx
 refine EvQ.bind (toAclEntryS_ev x.2.2.2.1 (by omega)) ?_
 exact EvQ.const _
theorem eqAclEntry_ev(x:DAclEntry):Ev (fun k=>c_laws_eqAclEntry k (x,x)) true:=by
 refine EvQ.run (fun k=>laws_eqAclEntry_run k x x) ?_
 simp only[laws_eqAclEntry]
 simp only[bne_self_eq_false,eqS_refl,Bool.not_true,cond_false]
 exact EvQ.const _
theorem eqAclEntryS_ev(x:(List DAclEntry))(hx:x.length≤1073741824):Ev (fun k=>c_laws_eqAclEntryS k (x,x)) true:=by
 refine EvQ.run (fun k=>laws_eqAclEntryS_run k x x) ?_
 simp only[laws_eqAclEntryS]
 simp only[bne_self_eq_false,cond_false]
 have hl:laws_eqAclEntryS_l1=eqL c_laws_eqAclEntry:=rfl
 rw[hl]
 exact eqL_ev (fun y hy=>eqAclEntry_ev y) (by omega)
theorem eqArchiveItem_ev(x:DArchiveItem)(hx:(szM_ArchiveItem x)≤1073741824):Ev (fun k=>c_laws_eqArchiveItem k (x,x)) true:=by
 refine EvQ.run (fun k=>laws_eqArchiveItem_run k x x) ?_
 simp only[laws_eqArchiveItem]
 simp only[szM_ArchiveItem]at hx
 simp only[bne_self_eq_false,eqS_refl,Bool.not_true,cond_false]
 refine EvQ.bind (eqAclEntryS_ev x.2.2.2.1 (by omega)) ?_
 simp only[Bool.not_true,cond_false]
 exact EvQ.const _
end Go.Proofs.YtmmgfgfkkpeedaaDoor

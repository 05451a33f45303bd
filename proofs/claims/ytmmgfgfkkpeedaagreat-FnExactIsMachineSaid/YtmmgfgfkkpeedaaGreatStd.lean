/- The tables, the residual functions and lemmas of this seat: parts of the proof of the law; conditions: those that each names. -/
import Derived.Test.YtmmgfgfkkpeedaaGreatRes
set_option linter.unusedVariables false
set_option linter.unusedSimpArgs false
set_option maxRecDepth 100000
namespace Go.Proofs.YtmmgfgfkkpeedaaGreat
open Go.Eng
def szM_StringS(x:List ByteArray):Nat:=x.length+(x.map fun y=>y.size).sum
theorem eqStringS_ev(x:(List ByteArray))(hx:(szM_StringS x)≤1073741824):Ev (fun k=>c_laws_eqStringS k (x,x)) true:=by
 refine EvQ.run (fun k=>laws_eqStringS_run k x x) ?_
 simp only[laws_eqStringS]
 have hx0:=hx
 simp only[szM_StringS]at hx
 simp only[bne_self_eq_false,cond_false]
 have hl:laws_eqStringS_l1=eqL (fun _ p=>some (eqS p.1 p.2)):=rfl
 rw[hl]
 exact eqL_ev (fun y _=>by simp only[eqS_refl];exact EvQ.const _) (by omega)
def szM_Write(x:DWrite):Nat:=x.2.size
theorem eqWrite_ev(x:DWrite)(hx:(szM_Write x)≤1073741824):Ev (fun k=>c_laws_eqWrite k (x,x)) true:=by
 refine EvQ.run (fun k=>laws_eqWrite_run k x x) ?_
 simp only[laws_eqWrite]
 simp only[szM_Write]at hx
 simp only[bne_self_eq_false,eqS_refl,Bool.not_true,cond_false]
 exact EvQ.const _
def szM_WriteS(x:List DWrite):Nat:=x.length+(x.map szM_Write).sum
theorem eqWriteS_ev(x:(List DWrite))(hx:(szM_WriteS x)≤1073741824):Ev (fun k=>c_laws_eqWriteS k (x,x)) true:=by
 refine EvQ.run (fun k=>laws_eqWriteS_run k x x) ?_
 simp only[laws_eqWriteS]
 have hx0:=hx
 simp only[szM_WriteS]at hx
 simp only[bne_self_eq_false,cond_false]
 have hl:laws_eqWriteS_l1=eqL c_laws_eqWrite:=rfl
 rw[hl]
 exact eqL_ev (fun y hy=>eqWrite_ev y (by have:=le_sum_map szM_Write hy;omega)) (by omega)
def szM_Disk(x:DDisk):Nat:=(szM_StringS x.1)+(szM_WriteS x.2)
theorem eqDisk_ev(x:DDisk)(hx:(szM_Disk x)≤1073741824):Ev (fun k=>c_laws_eqDisk k (x,x)) true:=by
 refine EvQ.run (fun k=>laws_eqDisk_run k x x) ?_
 simp only[laws_eqDisk]
 simp only[szM_Disk]at hx
 refine EvQ.bind (eqStringS_ev x.1 (by omega)) ?_
 simp only[Bool.not_true,cond_false]
 refine EvQ.bind (eqWriteS_ev x.2 (by omega)) ?_
 simp only[Bool.not_true,cond_false]
 exact EvQ.const _
theorem eqQuota_ev(x:DQuota):Ev (fun k=>c_laws_eqQuota k (x,x)) true:=by
 refine EvQ.run (fun k=>laws_eqQuota_run k x x) ?_
 simp only[laws_eqQuota]
 simp only[bne_self_eq_false,eqS_refl,Bool.not_true,cond_false]
 exact EvQ.const _
theorem eqQuotaS_ev(x:(List DQuota))(hx:x.length≤1073741824):Ev (fun k=>c_laws_eqQuotaS k (x,x)) true:=by
 refine EvQ.run (fun k=>laws_eqQuotaS_run k x x) ?_
 simp only[laws_eqQuotaS]
 simp only[bne_self_eq_false,cond_false]
 have hl:laws_eqQuotaS_l1=eqL c_laws_eqQuota:=rfl
 rw[hl]
 exact eqL_ev (fun y hy=>eqQuota_ev y) (by omega)
theorem eqIntS_ev(x:(List Int))(hx:x.length≤1073741824):Ev (fun k=>c_laws_eqIntS k (x,x)) true:=by
 refine EvQ.run (fun k=>laws_eqIntS_run k x x) ?_
 simp only[laws_eqIntS]
 simp only[bne_self_eq_false,cond_false]
 have hl:laws_eqIntS_l1=eqL (fun _ p=>some (p.1==p.2)):=rfl
 rw[hl]
 exact eqL_ev (fun y _=>by simp only[beq_self_eq_true];exact EvQ.const _) (by omega)
theorem eqAclEntry_ev(x:DOpen):Ev (fun k=>c_laws_eqAclEntry k (x,x)) true:=by
 refine EvQ.run (fun k=>laws_eqAclEntry_run k x x) ?_
 simp only[laws_eqAclEntry]
 simp only[bne_self_eq_false,eqS_refl,Bool.not_true,cond_false]
 exact EvQ.const _
theorem eqAclEntryS_ev(x:(List DOpen))(hx:x.length≤1073741824):Ev (fun k=>c_laws_eqAclEntryS k (x,x)) true:=by
 refine EvQ.run (fun k=>laws_eqAclEntryS_run k x x) ?_
 simp only[laws_eqAclEntryS]
 simp only[bne_self_eq_false,cond_false]
 have hl:laws_eqAclEntryS_l1=eqL c_laws_eqAclEntry:=rfl
 rw[hl]
 exact eqL_ev (fun y hy=>eqAclEntry_ev y) (by omega)
def szM_Inode(x:DInode):Nat:=x.2.2.2.2.2.2.2.1.length+x.2.2.2.2.2.2.2.2.1.length+x.2.2.2.2.2.2.2.2.2.length
theorem eqInode_ev(x:DInode)(hx:(szM_Inode x)≤1073741824):Ev (fun k=>c_laws_eqInode k (x,x)) true:=by
 refine EvQ.run (fun k=>laws_eqInode_run k x x) ?_
 simp only[laws_eqInode]
 simp only[szM_Inode]at hx
 simp only[bne_self_eq_false,eqS_refl,Bool.not_true,cond_false]
 refine EvQ.bind (eqIntS_ev x.2.2.2.2.2.2.2.1 (by omega)) ?_
 simp only[Bool.not_true,cond_false]
 refine EvQ.bind (eqAclEntryS_ev x.2.2.2.2.2.2.2.2.1 (by omega)) ?_
 simp only[Bool.not_true,cond_false]
 refine EvQ.bind (eqAclEntryS_ev x.2.2.2.2.2.2.2.2.2 (by omega)) ?_
 simp only[Bool.not_true,cond_false]
 exact EvQ.const _
def szM_InodeS(x:List DInode):Nat:=x.length+(x.map szM_Inode).sum
theorem eqInodeS_ev(x:(List DInode))(hx:(szM_InodeS x)≤1073741824):Ev (fun k=>c_laws_eqInodeS k (x,x)) true:=by
 refine EvQ.run (fun k=>laws_eqInodeS_run k x x) ?_
 simp only[laws_eqInodeS]
 have hx0:=hx
 simp only[szM_InodeS]at hx
 simp only[bne_self_eq_false,cond_false]
 have hl:laws_eqInodeS_l1=eqL c_laws_eqInode:=rfl
 rw[hl]
 exact eqL_ev (fun y hy=>eqInode_ev y (by have:=le_sum_map szM_Inode hy;omega)) (by omega)
def szM_FS(x:DFS):Nat:=x.2.1.length+(szM_InodeS x.2.2.1)+(szM_StringS x.2.2.2)
theorem eqFS_ev(x:DFS)(hx:(szM_FS x)≤1073741824):Ev (fun k=>c_laws_eqFS k (x,x)) true:=by
 refine EvQ.run (fun k=>laws_eqFS_run k x x) ?_
 simp only[laws_eqFS]
 simp only[szM_FS]at hx
 simp only[bne_self_eq_false,eqS_refl,Bool.not_true,cond_false]
 refine EvQ.bind (eqQuotaS_ev x.2.1 (by omega)) ?_
 simp only[Bool.not_true,cond_false]
 refine EvQ.bind (eqInodeS_ev x.2.2.1 (by omega)) ?_
 simp only[Bool.not_true,cond_false]
 refine EvQ.bind (eqStringS_ev x.2.2.2 (by omega)) ?_
 simp only[Bool.not_true,cond_false]
 exact EvQ.const _
def szM_Cred(x:DCred):Nat:=x.2.2.length
theorem eqCred_ev(x:DCred)(hx:(szM_Cred x)≤1073741824):Ev (fun k=>c_laws_eqCred k (x,x)) true:=by
 refine EvQ.run (fun k=>laws_eqCred_run k x x) ?_
 simp only[laws_eqCred]
 simp only[szM_Cred]at hx
 simp only[bne_self_eq_false,eqS_refl,Bool.not_true,cond_false]
 refine EvQ.bind (eqIntS_ev x.2.2 (by omega)) ?_
 simp only[Bool.not_true,cond_false]
 exact EvQ.const _
theorem eqOpen_ev(x:DOpen):Ev (fun k=>c_laws_eqOpen k (x,x)) true:=by
 refine EvQ.run (fun k=>laws_eqOpen_run k x x) ?_
 simp only[laws_eqOpen]
 simp only[bne_self_eq_false,eqS_refl,Bool.not_true,cond_false]
 exact EvQ.const _
theorem eqOpenS_ev(x:(List DOpen))(hx:x.length≤1073741824):Ev (fun k=>c_laws_eqOpenS k (x,x)) true:=by
 refine EvQ.run (fun k=>laws_eqOpenS_run k x x) ?_
 simp only[laws_eqOpenS]
 simp only[bne_self_eq_false,cond_false]
 have hl:laws_eqOpenS_l1=eqL c_laws_eqOpen:=rfl
 rw[hl]
 exact eqL_ev (fun y hy=>eqOpen_ev y) (by omega)
def szM_Proc(x:DProc):Nat:=(szM_Cred x.1)+x.2.length
theorem eqProc_ev(x:DProc)(hx:(szM_Proc x)≤1073741824):Ev (fun k=>c_laws_eqProc k (x,x)) true:=by
 refine EvQ.run (fun k=>laws_eqProc_run k x x) ?_
 simp only[laws_eqProc]
 simp only[szM_Proc]at hx
 refine EvQ.bind (eqCred_ev x.1 (by omega)) ?_
 simp only[Bool.not_true,cond_false]
 refine EvQ.bind (eqOpenS_ev x.2 (by omega)) ?_
 simp only[Bool.not_true,cond_false]
 exact EvQ.const _
def szM_ProcS(x:List DProc):Nat:=x.length+(x.map szM_Proc).sum
theorem eqProcS_ev(x:(List DProc))(hx:(szM_ProcS x)≤1073741824):Ev (fun k=>c_laws_eqProcS k (x,x)) true:=by
 refine EvQ.run (fun k=>laws_eqProcS_run k x x) ?_
 simp only[laws_eqProcS]
 have hx0:=hx
 simp only[szM_ProcS]at hx
 simp only[bne_self_eq_false,cond_false]
 have hl:laws_eqProcS_l1=eqL c_laws_eqProc:=rfl
 rw[hl]
 exact eqL_ev (fun y hy=>eqProc_ev y (by have:=le_sum_map szM_Proc hy;omega)) (by omega)
def szM_System(x:DSystem):Nat:=(szM_FS x.1)+(szM_ProcS x.2)
theorem eqSystem_ev(x:DSystem)(hx:(szM_System x)≤1073741824):Ev (fun k=>c_laws_eqSystem k (x,x)) true:=by
 refine EvQ.run (fun k=>laws_eqSystem_run k x x) ?_
 simp only[laws_eqSystem]
 simp only[szM_System]at hx
 refine EvQ.bind (eqFS_ev x.1 (by omega)) ?_
 simp only[Bool.not_true,cond_false]
 refine EvQ.bind (eqProcS_ev x.2 (by omega)) ?_
 simp only[Bool.not_true,cond_false]
 exact EvQ.const _
def szM_Machine(x:DMachine):Nat:=(szM_Disk x.1)+(szM_System x.2.2)
theorem eqMachine_ev(x:DMachine)(hx:(szM_Machine x)≤1073741824):Ev (fun k=>c_laws_eqMachine k (x,x)) true:=by
 refine EvQ.run (fun k=>laws_eqMachine_run k x x) ?_
 simp only[laws_eqMachine]
 simp only[szM_Machine]at hx
 simp only[bne_self_eq_false,eqS_refl,Bool.not_true,cond_false]
 refine EvQ.bind (eqDisk_ev x.1 (by omega)) ?_
 simp only[Bool.not_true,cond_false]
 refine EvQ.bind (eqSystem_ev x.2.2 (by omega)) ?_
 simp only[Bool.not_true,cond_false]
 exact EvQ.const _
theorem szStringS_ev(x:(List ByteArray))(hx:okD ((.list false .str)) x){left:Int}(h0:0≤left)(h1:left≤1048576):Ev (fun k=>c_laws_szStringS k (x,left)) (szR (szM_StringS x) left):=by
 refine EvQ.run (fun k=>laws_szStringS_run k x left) ?_
 simp only[laws_szStringS]
 have b0:x.length≤9223372036854775807:=hx.1
 have e0:wrapK .i64 (left-(x.length:Int))=left-x.length:=wrap_i64 (by omega) (by omega)
 simp only[e0]
 by_cases c0:left-(x.length:Int)<0
 ·simp only[c0,decide_true,cond_true];exact⟨0,fun k _=>by rw[szR,if_neg (by simp only[szM_StringS];omega)]⟩
 simp only[c0,decide_false,cond_false]
 have hl2:laws_szStringS_l1=szL szStrC:=by funext k self d;rw[←szStr_eq k self d];rfl
 rw[hl2]
 have:=szL_ev (c:=szStrC) (sz:=fun(y:ByteArray)=>y.size) (l:=x) (fun y hy l h0 h1=>szStr_ev y (hx.2 y hy) h0 h1) (by omega) (left:=left-x.length) (by omega) (by omega)
 rw[szR_add (by omega)]at this
 exact this
theorem szWrite_ev(x:DWrite)(hx:okD (TWritek) x){left:Int}(h0:0≤left)(h1:left≤1048576):Ev (fun k=>c_laws_szWrite k (x,left)) (szR (szM_Write x) left):=by
 refine EvQ.run (fun k=>laws_szWrite_run k x left) ?_
 simp only[laws_szWrite,szM_Write]
 have b0:x.2.size≤9223372036854775807:=hx.2
 have e0:wrapK .i64 (left-(x.2.size:Int))=left-x.2.size:=wrap_i64 (by omega) (by omega)
 simp only[e0]
 by_cases c0:left-(x.2.size:Int)<0
 ·simp only[c0,decide_true,cond_true];exact⟨0,fun k _=>by rw[szR,if_neg (by omega)]⟩
 simp only[c0,decide_false,cond_false]
 exact⟨0,fun k _=>by first|rfl|(rw[szR,if_pos (by omega)];done)|(rw[szR,if_pos (by omega)];simp only[Option.some.injEq];omega)⟩
theorem szWriteS_ev(x:(List DWrite))(hx:okD ((.list false TWritek)) x){left:Int}(h0:0≤left)(h1:left≤1048576):Ev (fun k=>c_laws_szWriteS k (x,left)) (szR (szM_WriteS x) left):=by
 refine EvQ.run (fun k=>laws_szWriteS_run k x left) ?_
 simp only[laws_szWriteS]
 have b0:x.length≤9223372036854775807:=hx.1
 have e0:wrapK .i64 (left-(x.length:Int))=left-x.length:=wrap_i64 (by omega) (by omega)
 simp only[e0]
 by_cases c0:left-(x.length:Int)<0
 ·simp only[c0,decide_true,cond_true];exact⟨0,fun k _=>by rw[szR,if_neg (by simp only[szM_WriteS];omega)]⟩
 simp only[c0,decide_false,cond_false]
 have hl2:laws_szWriteS_l1=szL c_laws_szWrite:=rfl
 rw[hl2]
 have:=szL_ev (c:=c_laws_szWrite) (sz:=szM_Write) (l:=x) (fun y hy l h0 h1=>szWrite_ev y (hx.2 y hy) h0 h1) (by omega) (left:=left-x.length) (by omega) (by omega)
 rw[szR_add (by omega)]at this
 exact this
theorem szDisk_ev(x:DDisk)(hx:okD (TDiskk) x){left:Int}(h0:0≤left)(h1:left≤1048576):Ev (fun k=>c_laws_szDisk k (x,left)) (szR (szM_Disk x) left):=by
 refine EvQ.run (fun k=>laws_szDisk_run k x left) ?_
 simp only[laws_szDisk,szM_Disk]
 refine EvQ.bind (szStringS_ev x.1 hx.1 (left:=left) (by omega) (by omega)) ?_
 by_cases c0:szR (szM_StringS x.1) (left)<0
 ·simp only[c0,decide_true,cond_true];exact⟨0,fun k _=>by rw[szR,if_neg (by have:=szR_neg c0;omega)]⟩
 obtain⟨d0,e0⟩:=szR_nonneg c0
 simp only[c0,decide_false,cond_false]
 simp only[e0]
 refine EvQ.bind (szWriteS_ev x.2 hx.2 (left:=left-((szM_StringS x.1):Int)) (by omega) (by omega)) ?_
 by_cases c1:szR (szM_WriteS x.2) (left-((szM_StringS x.1):Int))<0
 ·simp only[c1,decide_true,cond_true];exact⟨0,fun k _=>by rw[szR,if_neg (by have:=szR_neg c1;omega)]⟩
 obtain⟨d1,e1⟩:=szR_nonneg c1
 simp only[c1,decide_false,cond_false]
 simp only[e1]
 exact⟨0,fun k _=>by first|rfl|(rw[szR,if_pos (by omega)];done)|(rw[szR,if_pos (by omega)];simp only[Option.some.injEq];omega)⟩
theorem szQuotaS_ev(x:(List DQuota))(hx:okD ((.list false TQuotak)) x){left:Int}(h0:0≤left)(h1:left≤1048576):Ev (fun k=>c_laws_szQuotaS k (x,left)) (szR x.length left):=by
 refine EvQ.run (fun k=>laws_szQuotaS_run k x left) ?_
 simp only[laws_szQuotaS]
 have b0:x.length≤9223372036854775807:=hx.1
 have e0:wrapK .i64 (left-(x.length:Int))=left-x.length:=wrap_i64 (by omega) (by omega)
 simp only[e0]
 by_cases c0:left-(x.length:Int)<0
 ·simp only[c0,decide_true,cond_true];exact⟨0,fun k _=>by rw[szR,if_neg (by omega)]⟩
 simp only[c0,decide_false,cond_false]
 exact⟨0,fun k _=>by rw[szR,if_pos (by omega)]⟩
theorem szIntS_ev(x:(List Int))(hx:okD ((.list false (.int .i64))) x){left:Int}(h0:0≤left)(h1:left≤1048576):Ev (fun k=>c_laws_szIntS k (x,left)) (szR x.length left):=by
 refine EvQ.run (fun k=>laws_szIntS_run k x left) ?_
 simp only[laws_szIntS]
 have b0:x.length≤9223372036854775807:=hx.1
 have e0:wrapK .i64 (left-(x.length:Int))=left-x.length:=wrap_i64 (by omega) (by omega)
 simp only[e0]
 by_cases c0:left-(x.length:Int)<0
 ·simp only[c0,decide_true,cond_true];exact⟨0,fun k _=>by rw[szR,if_neg (by omega)]⟩
 simp only[c0,decide_false,cond_false]
 exact⟨0,fun k _=>by rw[szR,if_pos (by omega)]⟩
theorem szAclEntryS_ev(x:(List DOpen))(hx:okD ((.list false TOpenk)) x){left:Int}(h0:0≤left)(h1:left≤1048576):Ev (fun k=>c_laws_szAclEntryS k (x,left)) (szR x.length left):=by
 refine EvQ.run (fun k=>laws_szAclEntryS_run k x left) ?_
 simp only[laws_szAclEntryS]
 have b0:x.length≤9223372036854775807:=hx.1
 have e0:wrapK .i64 (left-(x.length:Int))=left-x.length:=wrap_i64 (by omega) (by omega)
 simp only[e0]
 by_cases c0:left-(x.length:Int)<0
 ·simp only[c0,decide_true,cond_true];exact⟨0,fun k _=>by rw[szR,if_neg (by omega)]⟩
 simp only[c0,decide_false,cond_false]
 exact⟨0,fun k _=>by rw[szR,if_pos (by omega)]⟩
theorem szInode_ev(x:DInode)(hx:okD (TInodek) x){left:Int}(h0:0≤left)(h1:left≤1048576):Ev (fun k=>c_laws_szInode k (x,left)) (szR (szM_Inode x) left):=by
 refine EvQ.run (fun k=>laws_szInode_run k x left) ?_
 simp only[laws_szInode,szM_Inode]
 refine EvQ.bind (szIntS_ev x.2.2.2.2.2.2.2.1 hx.2.2.2.2.2.2.2.1 (left:=left) (by omega) (by omega)) ?_
 by_cases c0:szR x.2.2.2.2.2.2.2.1.length (left)<0
 ·simp only[c0,decide_true,cond_true];exact⟨0,fun k _=>by rw[szR,if_neg (by have:=szR_neg c0;omega)]⟩
 obtain⟨d0,e0⟩:=szR_nonneg c0
 simp only[c0,decide_false,cond_false]
 simp only[e0]
 refine EvQ.bind (szAclEntryS_ev x.2.2.2.2.2.2.2.2.1 hx.2.2.2.2.2.2.2.2.1 (left:=left-(x.2.2.2.2.2.2.2.1.length:Int)) (by omega) (by omega)) ?_
 by_cases c1:szR x.2.2.2.2.2.2.2.2.1.length (left-(x.2.2.2.2.2.2.2.1.length:Int))<0
 ·simp only[c1,decide_true,cond_true];exact⟨0,fun k _=>by rw[szR,if_neg (by have:=szR_neg c1;omega)]⟩
 obtain⟨d1,e1⟩:=szR_nonneg c1
 simp only[c1,decide_false,cond_false]
 simp only[e1]
 refine EvQ.bind (szAclEntryS_ev x.2.2.2.2.2.2.2.2.2 hx.2.2.2.2.2.2.2.2.2 (left:=left-(x.2.2.2.2.2.2.2.1.length:Int)-(x.2.2.2.2.2.2.2.2.1.length:Int)) (by omega) (by omega)) ?_
 by_cases c2:szR x.2.2.2.2.2.2.2.2.2.length (left-(x.2.2.2.2.2.2.2.1.length:Int)-(x.2.2.2.2.2.2.2.2.1.length:Int))<0
 ·simp only[c2,decide_true,cond_true];exact⟨0,fun k _=>by rw[szR,if_neg (by have:=szR_neg c2;omega)]⟩
 obtain⟨d2,e2⟩:=szR_nonneg c2
 simp only[c2,decide_false,cond_false]
 simp only[e2]
 exact⟨0,fun k _=>by first|rfl|(rw[szR,if_pos (by omega)];done)|(rw[szR,if_pos (by omega)];simp only[Option.some.injEq];omega)⟩
theorem szInodeS_ev(x:(List DInode))(hx:okD ((.list false TInodek)) x){left:Int}(h0:0≤left)(h1:left≤1048576):Ev (fun k=>c_laws_szInodeS k (x,left)) (szR (szM_InodeS x) left):=by
 refine EvQ.run (fun k=>laws_szInodeS_run k x left) ?_
 simp only[laws_szInodeS]
 have b0:x.length≤9223372036854775807:=hx.1
 have e0:wrapK .i64 (left-(x.length:Int))=left-x.length:=wrap_i64 (by omega) (by omega)
 simp only[e0]
 by_cases c0:left-(x.length:Int)<0
 ·simp only[c0,decide_true,cond_true];exact⟨0,fun k _=>by rw[szR,if_neg (by simp only[szM_InodeS];omega)]⟩
 simp only[c0,decide_false,cond_false]
 have hl2:laws_szInodeS_l1=szL c_laws_szInode:=rfl
 rw[hl2]
 have:=szL_ev (c:=c_laws_szInode) (sz:=szM_Inode) (l:=x) (fun y hy l h0 h1=>szInode_ev y (hx.2 y hy) h0 h1) (by omega) (left:=left-x.length) (by omega) (by omega)
 rw[szR_add (by omega)]at this
 exact this
theorem szFS_ev(x:DFS)(hx:okD (TFSk) x){left:Int}(h0:0≤left)(h1:left≤1048576):Ev (fun k=>c_laws_szFS k (x,left)) (szR (szM_FS x) left):=by
 refine EvQ.run (fun k=>laws_szFS_run k x left) ?_
 simp only[laws_szFS,szM_FS]
 refine EvQ.bind (szQuotaS_ev x.2.1 hx.2.1 (left:=left) (by omega) (by omega)) ?_
 by_cases c0:szR x.2.1.length (left)<0
 ·simp only[c0,decide_true,cond_true];exact⟨0,fun k _=>by rw[szR,if_neg (by have:=szR_neg c0;omega)]⟩
 obtain⟨d0,e0⟩:=szR_nonneg c0
 simp only[c0,decide_false,cond_false]
 simp only[e0]
 refine EvQ.bind (szInodeS_ev x.2.2.1 hx.2.2.1 (left:=left-(x.2.1.length:Int)) (by omega) (by omega)) ?_
 by_cases c1:szR (szM_InodeS x.2.2.1) (left-(x.2.1.length:Int))<0
 ·simp only[c1,decide_true,cond_true];exact⟨0,fun k _=>by rw[szR,if_neg (by have:=szR_neg c1;omega)]⟩
 obtain⟨d1,e1⟩:=szR_nonneg c1
 simp only[c1,decide_false,cond_false]
 simp only[e1]
 refine EvQ.bind (szStringS_ev x.2.2.2 hx.2.2.2 (left:=left-(x.2.1.length:Int)-((szM_InodeS x.2.2.1):Int)) (by omega) (by omega)) ?_
 by_cases c2:szR (szM_StringS x.2.2.2) (left-(x.2.1.length:Int)-((szM_InodeS x.2.2.1):Int))<0
 ·simp only[c2,decide_true,cond_true];exact⟨0,fun k _=>by rw[szR,if_neg (by have:=szR_neg c2;omega)]⟩
 obtain⟨d2,e2⟩:=szR_nonneg c2
 simp only[c2,decide_false,cond_false]
 simp only[e2]
 exact⟨0,fun k _=>by first|rfl|(rw[szR,if_pos (by omega)];done)|(rw[szR,if_pos (by omega)];simp only[Option.some.injEq];omega)⟩
theorem szCred_ev(x:DCred)(hx:okD (TCredk) x){left:Int}(h0:0≤left)(h1:left≤1048576):Ev (fun k=>c_laws_szCred k (x,left)) (szR (szM_Cred x) left):=by
 refine EvQ.run (fun k=>laws_szCred_run k x left) ?_
 simp only[laws_szCred,szM_Cred]
 refine EvQ.bind (szIntS_ev x.2.2 hx.2.2 (left:=left) (by omega) (by omega)) ?_
 by_cases c0:szR x.2.2.length (left)<0
 ·simp only[c0,decide_true,cond_true];exact⟨0,fun k _=>by rw[szR,if_neg (by have:=szR_neg c0;omega)]⟩
 obtain⟨d0,e0⟩:=szR_nonneg c0
 simp only[c0,decide_false,cond_false]
 simp only[e0]
 exact⟨0,fun k _=>by first|rfl|(rw[szR,if_pos (by omega)];done)|(rw[szR,if_pos (by omega)];simp only[Option.some.injEq];omega)⟩
theorem szOpenS_ev(x:(List DOpen))(hx:okD ((.list false TOpenk)) x){left:Int}(h0:0≤left)(h1:left≤1048576):Ev (fun k=>c_laws_szOpenS k (x,left)) (szR x.length left):=by
 refine EvQ.run (fun k=>laws_szOpenS_run k x left) ?_
 simp only[laws_szOpenS]
 have b0:x.length≤9223372036854775807:=hx.1
 have e0:wrapK .i64 (left-(x.length:Int))=left-x.length:=wrap_i64 (by omega) (by omega)
 simp only[e0]
 by_cases c0:left-(x.length:Int)<0
 ·simp only[c0,decide_true,cond_true];exact⟨0,fun k _=>by rw[szR,if_neg (by omega)]⟩
 simp only[c0,decide_false,cond_false]
 exact⟨0,fun k _=>by rw[szR,if_pos (by omega)]⟩
theorem szProc_ev(x:DProc)(hx:okD (TProck) x){left:Int}(h0:0≤left)(h1:left≤1048576):Ev (fun k=>c_laws_szProc k (x,left)) (szR (szM_Proc x) left):=by
 refine EvQ.run (fun k=>laws_szProc_run k x left) ?_
 simp only[laws_szProc,szM_Proc]
 refine EvQ.bind (szCred_ev x.1 hx.1 (left:=left) (by omega) (by omega)) ?_
 by_cases c0:szR (szM_Cred x.1) (left)<0
 ·simp only[c0,decide_true,cond_true];exact⟨0,fun k _=>by rw[szR,if_neg (by have:=szR_neg c0;omega)]⟩
 obtain⟨d0,e0⟩:=szR_nonneg c0
 simp only[c0,decide_false,cond_false]
 simp only[e0]
 refine EvQ.bind (szOpenS_ev x.2 hx.2 (left:=left-((szM_Cred x.1):Int)) (by omega) (by omega)) ?_
 by_cases c1:szR x.2.length (left-((szM_Cred x.1):Int))<0
 ·simp only[c1,decide_true,cond_true];exact⟨0,fun k _=>by rw[szR,if_neg (by have:=szR_neg c1;omega)]⟩
 obtain⟨d1,e1⟩:=szR_nonneg c1
 simp only[c1,decide_false,cond_false]
 simp only[e1]
 exact⟨0,fun k _=>by first|rfl|(rw[szR,if_pos (by omega)];done)|(rw[szR,if_pos (by omega)];simp only[Option.some.injEq];omega)⟩
theorem szProcS_ev(x:(List DProc))(hx:okD ((.list false TProck)) x){left:Int}(h0:0≤left)(h1:left≤1048576):Ev (fun k=>c_laws_szProcS k (x,left)) (szR (szM_ProcS x) left):=by
 refine EvQ.run (fun k=>laws_szProcS_run k x left) ?_
 simp only[laws_szProcS]
 have b0:x.length≤9223372036854775807:=hx.1
 have e0:wrapK .i64 (left-(x.length:Int))=left-x.length:=wrap_i64 (by omega) (by omega)
 simp only[e0]
 by_cases c0:left-(x.length:Int)<0
 ·simp only[c0,decide_true,cond_true];exact⟨0,fun k _=>by rw[szR,if_neg (by simp only[szM_ProcS];omega)]⟩
 simp only[c0,decide_false,cond_false]
 have hl2:laws_szProcS_l1=szL c_laws_szProc:=rfl
 rw[hl2]
 have:=szL_ev (c:=c_laws_szProc) (sz:=szM_Proc) (l:=x) (fun y hy l h0 h1=>szProc_ev y (hx.2 y hy) h0 h1) (by omega) (left:=left-x.length) (by omega) (by omega)
 rw[szR_add (by omega)]at this
 exact this
theorem szSystem_ev(x:DSystem)(hx:okD (TSystemk) x){left:Int}(h0:0≤left)(h1:left≤1048576):Ev (fun k=>c_laws_szSystem k (x,left)) (szR (szM_System x) left):=by
 refine EvQ.run (fun k=>laws_szSystem_run k x left) ?_
 simp only[laws_szSystem,szM_System]
 refine EvQ.bind (szFS_ev x.1 hx.1 (left:=left) (by omega) (by omega)) ?_
 by_cases c0:szR (szM_FS x.1) (left)<0
 ·simp only[c0,decide_true,cond_true];exact⟨0,fun k _=>by rw[szR,if_neg (by have:=szR_neg c0;omega)]⟩
 obtain⟨d0,e0⟩:=szR_nonneg c0
 simp only[c0,decide_false,cond_false]
 simp only[e0]
 refine EvQ.bind (szProcS_ev x.2 hx.2 (left:=left-((szM_FS x.1):Int)) (by omega) (by omega)) ?_
 by_cases c1:szR (szM_ProcS x.2) (left-((szM_FS x.1):Int))<0
 ·simp only[c1,decide_true,cond_true];exact⟨0,fun k _=>by rw[szR,if_neg (by have:=szR_neg c1;omega)]⟩
 obtain⟨d1,e1⟩:=szR_nonneg c1
 simp only[c1,decide_false,cond_false]
 simp only[e1]
 exact⟨0,fun k _=>by first|rfl|(rw[szR,if_pos (by omega)];done)|(rw[szR,if_pos (by omega)];simp only[Option.some.injEq];omega)⟩
theorem szMachine_ev(x:DMachine)(hx:okD (TMachinek) x){left:Int}(h0:0≤left)(h1:left≤1048576):Ev (fun k=>c_laws_szMachine k (x,left)) (szR (szM_Machine x) left):=by
 refine EvQ.run (fun k=>laws_szMachine_run k x left) ?_
 simp only[laws_szMachine,szM_Machine]
 refine EvQ.bind (szDisk_ev x.1 hx.1 (left:=left) (by omega) (by omega)) ?_
 by_cases c0:szR (szM_Disk x.1) (left)<0
 ·simp only[c0,decide_true,cond_true];exact⟨0,fun k _=>by rw[szR,if_neg (by have:=szR_neg c0;omega)]⟩
 obtain⟨d0,e0⟩:=szR_nonneg c0
 simp only[c0,decide_false,cond_false]
 simp only[e0]
 refine EvQ.bind (szSystem_ev x.2.2 hx.2.2 (left:=left-((szM_Disk x.1):Int)) (by omega) (by omega)) ?_
 by_cases c1:szR (szM_System x.2.2) (left-((szM_Disk x.1):Int))<0
 ·simp only[c1,decide_true,cond_true];exact⟨0,fun k _=>by rw[szR,if_neg (by have:=szR_neg c1;omega)]⟩
 obtain⟨d1,e1⟩:=szR_nonneg c1
 simp only[c1,decide_false,cond_false]
 simp only[e1]
 exact⟨0,fun k _=>by first|rfl|(rw[szR,if_pos (by omega)];done)|(rw[szR,if_pos (by omega)];simp only[Option.some.injEq];omega)⟩
theorem toStringS_ev(x:(List ByteArray))(hx:(szM_StringS x)≤1073741824):Ev (fun k=>c_laws_toStringS k x) x:=by
 refine EvQ.run (fun k=>laws_toStringS_run k x) ?_
 simp only[laws_toStringS]
 have hx0:=hx
 simp only[szM_StringS]at hx
 simp only[if_pos (show(0:Int)≤(x.length:Int)by omega),if_pos (Int.le_refl (x.length:Int)),if_pos (show(x.length:Int)*16≤(capBytes:Int)by simp only[capBytes];omega)]
 have hl:laws_toStringS_l1=copyL fun _ y=>some y:=(show laws_toStringS_l1=copyL0 from rfl).trans copyL0_eq
 rw[hl]
 exact copyL_ev (fun y _=>EvQ.const _) (by omega) _ (by simp)
theorem toWrite_ev(x:DWrite)(hx:(szM_Write x)≤1073741824):Ev (fun k=>c_laws_toWrite k x) x:=by
 refine EvQ.run (fun k=>laws_toWrite_run k x) ?_
 simp only[laws_toWrite]
 simp only[szM_Write]at hx
 exact EvQ.const _
theorem toWriteS_ev(x:(List DWrite))(hx:(szM_WriteS x)≤1073741824):Ev (fun k=>c_laws_toWriteS k x) x:=by
 refine EvQ.run (fun k=>laws_toWriteS_run k x) ?_
 simp only[laws_toWriteS]
 have hx0:=hx
 simp only[szM_WriteS]at hx
 simp only[if_pos (show(0:Int)≤(x.length:Int)by omega),if_pos (Int.le_refl (x.length:Int)),if_pos (show(x.length:Int)*24≤(capBytes:Int)by simp only[capBytes];omega)]
 have hl:laws_toWriteS_l1=copyL c_laws_toWrite:=rfl
 rw[hl]
 exact copyL_ev (fun y hy=>toWrite_ev y (by have:=le_sum_map szM_Write hy;omega)) (by omega) _ (by simp)
theorem toDisk_ev(x:DDisk)(hx:(szM_Disk x)≤1073741824):Ev (fun k=>c_laws_toDisk k x) x:=by
 refine EvQ.run (fun k=>laws_toDisk_run k x) ?_
 simp only[laws_toDisk]
 simp only[szM_Disk]at hx
 refine EvQ.bind (toStringS_ev x.1 (by omega)) ?_
 refine EvQ.bind (toWriteS_ev x.2 (by omega)) ?_
 exact EvQ.const _
theorem toQuota_ev(x:DQuota):Ev (fun k=>c_laws_toQuota k x) x:=by
 refine EvQ.run (fun k=>laws_toQuota_run k x) ?_
 simp only[laws_toQuota]
 exact EvQ.const _
theorem toQuotaS_ev(x:(List DQuota))(hx:x.length≤1073741824):Ev (fun k=>c_laws_toQuotaS k x) x:=by
 refine EvQ.run (fun k=>laws_toQuotaS_run k x) ?_
 simp only[laws_toQuotaS]
 simp only[if_pos (show(0:Int)≤(x.length:Int)by omega),if_pos (Int.le_refl (x.length:Int)),if_pos (show(x.length:Int)*16≤(capBytes:Int)by simp only[capBytes];omega)]
 have hl:laws_toQuotaS_l1=copyL c_laws_toQuota:=rfl
 rw[hl]
 exact copyL_ev (fun y hy=>toQuota_ev y) (by omega) _ (by simp)
theorem toIntS_ev(x:(List Int))(hx:x.length≤1073741824):Ev (fun k=>c_laws_toIntS k x) x:=by
 refine EvQ.run (fun k=>laws_toIntS_run k x) ?_
 simp only[laws_toIntS]
 simp only[if_pos (show(0:Int)≤(x.length:Int)by omega),if_pos (Int.le_refl (x.length:Int)),if_pos (show(x.length:Int)*8≤(capBytes:Int)by simp only[capBytes];omega)]
 have hl:laws_toIntS_l1=copyL fun _ y=>some y:=(show laws_toIntS_l1=copyL0 from rfl).trans copyL0_eq
 rw[hl]
 exact copyL_ev (fun y _=>EvQ.const _) (by omega) _ (by simp)
theorem toAclEntry_ev(x:DOpen):Ev (fun k=>c_laws_toAclEntry k x) x:=by
 refine EvQ.run (fun k=>laws_toAclEntry_run k x) ?_
 simp only[laws_toAclEntry]
 exact EvQ.const _
theorem toAclEntryS_ev(x:(List DOpen))(hx:x.length≤1073741824):Ev (fun k=>c_laws_toAclEntryS k x) x:=by
 refine EvQ.run (fun k=>laws_toAclEntryS_run k x) ?_
 simp only[laws_toAclEntryS]
 simp only[if_pos (show(0:Int)≤(x.length:Int)by omega),if_pos (Int.le_refl (x.length:Int)),if_pos (show(x.length:Int)*24≤(capBytes:Int)by simp only[capBytes];omega)]
 have hl:laws_toAclEntryS_l1=copyL c_laws_toAclEntry:=rfl
 rw[hl]
 exact copyL_ev (fun y hy=>toAclEntry_ev y) (by omega) _ (by simp)
theorem toInode_ev(x:DInode)(hx:(szM_Inode x)≤1073741824):Ev (fun k=>c_laws_toInode k x) x:=by
 refine EvQ.run (fun k=>laws_toInode_run k x) ?_
 simp only[laws_toInode]
 simp only[szM_Inode]at hx
 refine EvQ.bind (toIntS_ev x.2.2.2.2.2.2.2.1 (by omega)) ?_
 refine EvQ.bind (toAclEntryS_ev x.2.2.2.2.2.2.2.2.1 (by omega)) ?_
 refine EvQ.bind (toAclEntryS_ev x.2.2.2.2.2.2.2.2.2 (by omega)) ?_
 exact EvQ.const _
theorem toInodeS_ev(x:(List DInode))(hx:(szM_InodeS x)≤1073741824):Ev (fun k=>c_laws_toInodeS k x) x:=by
 refine EvQ.run (fun k=>laws_toInodeS_run k x) ?_
 simp only[laws_toInodeS]
 have hx0:=hx
 simp only[szM_InodeS]at hx
 simp only[if_pos (show(0:Int)≤(x.length:Int)by omega),if_pos (Int.le_refl (x.length:Int)),if_pos (show(x.length:Int)*128≤(capBytes:Int)by simp only[capBytes];omega)]
 have hl:laws_toInodeS_l1=copyL c_laws_toInode:=rfl
 rw[hl]
 exact copyL_ev (fun y hy=>toInode_ev y (by have:=le_sum_map szM_Inode hy;omega)) (by omega) _ (by simp)
theorem toFS_ev(x:DFS)(hx:(szM_FS x)≤1073741824):Ev (fun k=>c_laws_toFS k x) x:=by
 refine EvQ.run (fun k=>laws_toFS_run k x) ?_
 simp only[laws_toFS]
 simp only[szM_FS]at hx
 refine EvQ.bind (toQuotaS_ev x.2.1 (by omega)) ?_
 refine EvQ.bind (toInodeS_ev x.2.2.1 (by omega)) ?_
 refine EvQ.bind (toStringS_ev x.2.2.2 (by omega)) ?_
 exact EvQ.const _
theorem toCred_ev(x:DCred)(hx:(szM_Cred x)≤1073741824):Ev (fun k=>c_laws_toCred k x) x:=by
 refine EvQ.run (fun k=>laws_toCred_run k x) ?_
 simp only[laws_toCred]
 simp only[szM_Cred]at hx
 refine EvQ.bind (toIntS_ev x.2.2 (by omega)) ?_
 exact EvQ.const _
theorem toOpen_ev(x:DOpen):Ev (fun k=>c_laws_toOpen k x) x:=by
 refine EvQ.run (fun k=>laws_toOpen_run k x) ?_
 simp only[laws_toOpen]
 exact EvQ.const _
theorem toOpenS_ev(x:(List DOpen))(hx:x.length≤1073741824):Ev (fun k=>c_laws_toOpenS k x) x:=by
 refine EvQ.run (fun k=>laws_toOpenS_run k x) ?_
 simp only[laws_toOpenS]
 simp only[if_pos (show(0:Int)≤(x.length:Int)by omega),if_pos (Int.le_refl (x.length:Int)),if_pos (show(x.length:Int)*24≤(capBytes:Int)by simp only[capBytes];omega)]
 have hl:laws_toOpenS_l1=copyL c_laws_toOpen:=rfl
 rw[hl]
 exact copyL_ev (fun y hy=>toOpen_ev y) (by omega) _ (by simp)
theorem toProc_ev(x:DProc)(hx:(szM_Proc x)≤1073741824):Ev (fun k=>c_laws_toProc k x) x:=by
 refine EvQ.run (fun k=>laws_toProc_run k x) ?_
 simp only[laws_toProc]
 simp only[szM_Proc]at hx
 refine EvQ.bind (toCred_ev x.1 (by omega)) ?_
 refine EvQ.bind (toOpenS_ev x.2 (by omega)) ?_
 exact EvQ.const _
theorem toProcS_ev(x:(List DProc))(hx:(szM_ProcS x)≤1073741824):Ev (fun k=>c_laws_toProcS k x) x:=by
 refine EvQ.run (fun k=>laws_toProcS_run k x) ?_
 simp only[laws_toProcS]
 have hx0:=hx
 simp only[szM_ProcS]at hx
 simp only[if_pos (show(0:Int)≤(x.length:Int)by omega),if_pos (Int.le_refl (x.length:Int)),if_pos (show(x.length:Int)*64≤(capBytes:Int)by simp only[capBytes];omega)]
 have hl:laws_toProcS_l1=copyL c_laws_toProc:=rfl
 rw[hl]
 exact copyL_ev (fun y hy=>toProc_ev y (by have:=le_sum_map szM_Proc hy;omega)) (by omega) _ (by simp)
theorem toSystem_ev(x:DSystem)(hx:(szM_System x)≤1073741824):Ev (fun k=>c_laws_toSystem k x) x:=by
 refine EvQ.run (fun k=>laws_toSystem_run k x) ?_
 simp only[laws_toSystem]
 simp only[szM_System]at hx
 refine EvQ.bind (toFS_ev x.1 (by omega)) ?_
 refine EvQ.bind (toProcS_ev x.2 (by omega)) ?_
 exact EvQ.const _
theorem toMachine_ev(x:DMachine)(hx:(szM_Machine x)≤1073741824):Ev (fun k=>c_laws_toMachine k x) x:=by
 refine EvQ.run (fun k=>laws_toMachine_run k x) ?_
 simp only[laws_toMachine]
 simp only[szM_Machine]at hx
 refine EvQ.bind (toDisk_ev x.1 (by omega)) ?_
 refine EvQ.bind (toSystem_ev x.2.2 (by omega)) ?_
 exact EvQ.const _
end Go.Proofs.YtmmgfgfkkpeedaaGreat

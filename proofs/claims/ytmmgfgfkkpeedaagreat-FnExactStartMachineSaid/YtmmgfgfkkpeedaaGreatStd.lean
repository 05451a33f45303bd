/- The tables, the residual functions and lemmas of this seat: parts of the proof of the law; conditions: those that each names. -/
import Derived.Test.YtmmgfgfkkpeedaaGreatRes
set_option linter.unusedVariables false
set_option linter.unusedSimpArgs false
set_option maxRecDepth 100000
namespace Go.Proofs.YtmmgfgfkkpeedaaGreat
open Go.Eng
theorem markText_ex:∀(n:Nat) (s:ByteArray),s.size+n<9223372036854775000→∃r,EvL laws_markText_l1 ((n:Int),s) r:=by
 intro n
 induction n using Nat.strongRecOn with
 |_ n ih=>
  intro s hs
  by_cases h0:n=0
  ·subst h0
   refine⟨(⟨#[109]⟩:ByteArray)++s,EvL.stop ?_⟩
   have h1:(⟨#[109]⟩:ByteArray).size+s.size≤9223372036854775807:=by
    have:(⟨#[109]⟩:ByteArray).size=1:=rfl
    omega
   simp only[laws_markText_l1,Int.ofNat_zero,Int.lt_irrefl,decide_false,cond_false,if_pos h1]
   exact EvQ.const _
  ·have hc:(ofBytes [(wrapK .u8 (wrapK .i64 ((48:Int)+((n:Int).tmod (10:Int)))))]).size=1:=rfl
   obtain⟨r,hr⟩:=ih (n / 10) (by omega) (ofBytes [(wrapK .u8 (wrapK .i64 ((48:Int)+((n:Int).tmod (10:Int)))))]++s) (by rw[ByteArray.size_append,hc];omega)
   refine⟨r,EvL.step (d':=(((n / 10:Nat):Int),ofBytes [(wrapK .u8 (wrapK .i64 ((48:Int)+((n:Int).tmod (10:Int)))))]++s)) ?_ hr⟩
   have h1:(0:Int)<(n:Int):=by omega
   have h2:wrapK .i64 ((n:Int).tdiv 10)=((n / 10:Nat):Int):=by
    have e:(n:Int).tdiv 10=((n / 10:Nat):Int):=by rw[Int.tdiv_eq_ediv_of_nonneg (by omega)];omega
    rw[e];exact wrap_i64 (by omega) (by omega)
   have h3:(ofBytes [(wrapK .u8 (wrapK .i64 ((48:Int)+((n:Int).tmod (10:Int)))))]).size+s.size≤9223372036854775807:=by rw[hc];omega
   have h4:(10:Int)≠0:=by decide
   simp only[EvS,laws_markText_l1,h1,decide_true,cond_true,if_pos h4,if_pos h3,h2]
   exact EvQ.const _
open Classical in
noncomputable def mtext(m:Int):ByteArray:=if h:∃s,Ev (fun k=>c_laws_markText k m) s then h.choose else ByteArray.empty
theorem markText_ev(m:Int)(h0:0≤m)(h1:m<4611686018427387904):Ev (fun k=>c_laws_markText k m) (mtext m):=by
 have hex:∃s,Ev (fun k=>c_laws_markText k m) s:=by
  by_cases hm:m≤0
  ·refine⟨(⟨#[109,48]⟩:ByteArray),EvQ.run (fun k=>laws_markText_run k m) ?_⟩
   simp only[laws_markText,hm,decide_true,cond_true]
   exact EvQ.const _
  ·obtain⟨n,rfl⟩:∃n:Nat,m=n:=⟨m.toNat,by omega⟩
   obtain⟨r,hr⟩:=markText_ex n ByteArray.empty (by have:ByteArray.empty.size=0:=rfl;omega)
   refine⟨r,EvQ.run (fun k=>laws_markText_run k n) ?_⟩
   simp only[laws_markText,hm,decide_false,cond_false]
   exact EvL.ev hr
 unfold mtext
 rw[dif_pos hex]
 exact hex.choose_spec
theorem szQuotaS_ev(x:(List DQuota))(hx:okD ((.list false TQuotak)) x){left:Int}(h0:0≤left)(h1:left≤1048576):Ev (fun k=>c_laws_szQuotaS k (x,left)) (szR x.length left):=by
 refine EvQ.run (fun k=>laws_szQuotaS_run k x left) ?_
 simp only[laws_szQuotaS]
 have b0:x.length≤9223372036854775807:=hx.1
 have e0:wrapK .i64 (left-(x.length:Int))=left-x.length:=wrap_i64 (by omega) (by omega)
 simp only[e0]
 by_cases c0:left-(x.length:Int)<0
 ·simp only[c0,decide_true,cond_true];exact⟨0,fun k _=>by rw[szR,if_neg (by omega)]⟩
 simp only[c0,decide_false,cond_false]
 exact⟨0,fun k _=>by rw[szR,if_pos (by omega)]⟩
theorem szIntS_ev(x:(List Int))(hx:okD ((.list false (.int .i64))) x){left:Int}(h0:0≤left)(h1:left≤1048576):Ev (fun k=>c_laws_szIntS k (x,left)) (szR x.length left):=by
 refine EvQ.run (fun k=>laws_szIntS_run k x left) ?_
 simp only[laws_szIntS]
 have b0:x.length≤9223372036854775807:=hx.1
 have e0:wrapK .i64 (left-(x.length:Int))=left-x.length:=wrap_i64 (by omega) (by omega)
 simp only[e0]
 by_cases c0:left-(x.length:Int)<0
 ·simp only[c0,decide_true,cond_true];exact⟨0,fun k _=>by rw[szR,if_neg (by omega)]⟩
 simp only[c0,decide_false,cond_false]
 exact⟨0,fun k _=>by rw[szR,if_pos (by omega)]⟩
theorem szAclEntryS_ev(x:(List DOpen))(hx:okD ((.list false TOpenk)) x){left:Int}(h0:0≤left)(h1:left≤1048576):Ev (fun k=>c_laws_szAclEntryS k (x,left)) (szR x.length left):=by
 refine EvQ.run (fun k=>laws_szAclEntryS_run k x left) ?_
 simp only[laws_szAclEntryS]
 have b0:x.length≤9223372036854775807:=hx.1
 have e0:wrapK .i64 (left-(x.length:Int))=left-x.length:=wrap_i64 (by omega) (by omega)
 simp only[e0]
 by_cases c0:left-(x.length:Int)<0
 ·simp only[c0,decide_true,cond_true];exact⟨0,fun k _=>by rw[szR,if_neg (by omega)]⟩
 simp only[c0,decide_false,cond_false]
 exact⟨0,fun k _=>by rw[szR,if_pos (by omega)]⟩
def szM_Inode(x:DInode):Nat:=x.2.2.2.2.2.2.2.1.length+x.2.2.2.2.2.2.2.2.1.length+x.2.2.2.2.2.2.2.2.2.length
theorem szInode_ev(x:DInode)(hx:okD (TInodek) x){left:Int}(h0:0≤left)(h1:left≤1048576):Ev (fun k=>c_laws_szInode k (x,left)) (szR (szM_Inode x) left):=by
 refine EvQ.run (fun k=>laws_szInode_run k x left) ?_
 simp only[laws_szInode,szM_Inode]
 refine EvQ.bind (szIntS_ev x.2.2.2.2.2.2.2.1 hx.2.2.2.2.2.2.2.1 (left:=left) (by omega) (by omega)) ?_
 by_cases c0:szR x.2.2.2.2.2.2.2.1.length (left)<0
 ·simp only[c0,decide_true,cond_true];exact⟨0,fun k _=>by rw[szR,if_neg (by have:=szR_neg c0;omega)]⟩
 obtain⟨d0,e0⟩:=szR_nonneg c0
 simp only[c0,decide_false,cond_false]
 simp only[e0]
 refine EvQ.bind (szAclEntryS_ev x.2.2.2.2.2.2.2.2.1 hx.2.2.2.2.2.2.2.2.1 (left:=left-(x.2.2.2.2.2.2.2.1.length:Int)) (by omega) (by omega)) ?_
 by_cases c1:szR x.2.2.2.2.2.2.2.2.1.length (left-(x.2.2.2.2.2.2.2.1.length:Int))<0
 ·simp only[c1,decide_true,cond_true];exact⟨0,fun k _=>by rw[szR,if_neg (by have:=szR_neg c1;omega)]⟩
 obtain⟨d1,e1⟩:=szR_nonneg c1
 simp only[c1,decide_false,cond_false]
 simp only[e1]
 refine EvQ.bind (szAclEntryS_ev x.2.2.2.2.2.2.2.2.2 hx.2.2.2.2.2.2.2.2.2 (left:=left-(x.2.2.2.2.2.2.2.1.length:Int)-(x.2.2.2.2.2.2.2.2.1.length:Int)) (by omega) (by omega)) ?_
 by_cases c2:szR x.2.2.2.2.2.2.2.2.2.length (left-(x.2.2.2.2.2.2.2.1.length:Int)-(x.2.2.2.2.2.2.2.2.1.length:Int))<0
 ·simp only[c2,decide_true,cond_true];exact⟨0,fun k _=>by rw[szR,if_neg (by have:=szR_neg c2;omega)]⟩
 obtain⟨d2,e2⟩:=szR_nonneg c2
 simp only[c2,decide_false,cond_false]
 simp only[e2]
 exact⟨0,fun k _=>by first|rfl|(rw[szR,if_pos (by omega)];done)|(rw[szR,if_pos (by omega)];simp only[Option.some.injEq];omega)⟩
def szM_InodeS(x:List DInode):Nat:=x.length+(x.map szM_Inode).sum
theorem szInodeS_ev(x:(List DInode))(hx:okD ((.list false TInodek)) x){left:Int}(h0:0≤left)(h1:left≤1048576):Ev (fun k=>c_laws_szInodeS k (x,left)) (szR (szM_InodeS x) left):=by
 refine EvQ.run (fun k=>laws_szInodeS_run k x left) ?_
 simp only[laws_szInodeS]
 have b0:x.length≤9223372036854775807:=hx.1
 have e0:wrapK .i64 (left-(x.length:Int))=left-x.length:=wrap_i64 (by omega) (by omega)
 simp only[e0]
 by_cases c0:left-(x.length:Int)<0
 ·simp only[c0,decide_true,cond_true];exact⟨0,fun k _=>by rw[szR,if_neg (by simp only[szM_InodeS];omega)]⟩
 simp only[c0,decide_false,cond_false]
 have hl2:laws_szInodeS_l1=szL c_laws_szInode:=rfl
 rw[hl2]
 have:=szL_ev (c:=c_laws_szInode) (sz:=szM_Inode) (l:=x) (fun y hy l h0 h1=>szInode_ev y (hx.2 y hy) h0 h1) (by omega) (left:=left-x.length) (by omega) (by omega)
 rw[szR_add (by omega)]at this
 exact this
def szM_StringS(x:List ByteArray):Nat:=x.length+(x.map fun y=>y.size).sum
theorem szStringS_ev(x:(List ByteArray))(hx:okD ((.list false .str)) x){left:Int}(h0:0≤left)(h1:left≤1048576):Ev (fun k=>c_laws_szStringS k (x,left)) (szR (szM_StringS x) left):=by
 refine EvQ.run (fun k=>laws_szStringS_run k x left) ?_
 simp only[laws_szStringS]
 have b0:x.length≤9223372036854775807:=hx.1
 have e0:wrapK .i64 (left-(x.length:Int))=left-x.length:=wrap_i64 (by omega) (by omega)
 simp only[e0]
 by_cases c0:left-(x.length:Int)<0
 ·simp only[c0,decide_true,cond_true];exact⟨0,fun k _=>by rw[szR,if_neg (by simp only[szM_StringS];omega)]⟩
 simp only[c0,decide_false,cond_false]
 have hl2:laws_szStringS_l1=szL szStrC:=by funext k self d;rw[←szStr_eq k self d];rfl
 rw[hl2]
 have:=szL_ev (c:=szStrC) (sz:=fun(y:ByteArray)=>y.size) (l:=x) (fun y hy l h0 h1=>szStr_ev y (hx.2 y hy) h0 h1) (by omega) (left:=left-x.length) (by omega) (by omega)
 rw[szR_add (by omega)]at this
 exact this
def szM_FS(x:DFS):Nat:=x.2.1.length+(szM_InodeS x.2.2.1)+(szM_StringS x.2.2.2)
theorem szFS_ev(x:DFS)(hx:okD (TFSk) x){left:Int}(h0:0≤left)(h1:left≤1048576):Ev (fun k=>c_laws_szFS k (x,left)) (szR (szM_FS x) left):=by
 refine EvQ.run (fun k=>laws_szFS_run k x left) ?_
 simp only[laws_szFS,szM_FS]
 refine EvQ.bind (szQuotaS_ev x.2.1 hx.2.1 (left:=left) (by omega) (by omega)) ?_
 by_cases c0:szR x.2.1.length (left)<0
 ·simp only[c0,decide_true,cond_true];exact⟨0,fun k _=>by rw[szR,if_neg (by have:=szR_neg c0;omega)]⟩
 obtain⟨d0,e0⟩:=szR_nonneg c0
 simp only[c0,decide_false,cond_false]
 simp only[e0]
 refine EvQ.bind (szInodeS_ev x.2.2.1 hx.2.2.1 (left:=left-(x.2.1.length:Int)) (by omega) (by omega)) ?_
 by_cases c1:szR (szM_InodeS x.2.2.1) (left-(x.2.1.length:Int))<0
 ·simp only[c1,decide_true,cond_true];exact⟨0,fun k _=>by rw[szR,if_neg (by have:=szR_neg c1;omega)]⟩
 obtain⟨d1,e1⟩:=szR_nonneg c1
 simp only[c1,decide_false,cond_false]
 simp only[e1]
 refine EvQ.bind (szStringS_ev x.2.2.2 hx.2.2.2 (left:=left-(x.2.1.length:Int)-((szM_InodeS x.2.2.1):Int)) (by omega) (by omega)) ?_
 by_cases c2:szR (szM_StringS x.2.2.2) (left-(x.2.1.length:Int)-((szM_InodeS x.2.2.1):Int))<0
 ·simp only[c2,decide_true,cond_true];exact⟨0,fun k _=>by rw[szR,if_neg (by have:=szR_neg c2;omega)]⟩
 obtain⟨d2,e2⟩:=szR_nonneg c2
 simp only[c2,decide_false,cond_false]
 simp only[e2]
 exact⟨0,fun k _=>by first|rfl|(rw[szR,if_pos (by omega)];done)|(rw[szR,if_pos (by omega)];simp only[Option.some.injEq];omega)⟩
def szM_Cred(x:DCred):Nat:=x.2.2.length
theorem szCred_ev(x:DCred)(hx:okD (TCredk) x){left:Int}(h0:0≤left)(h1:left≤1048576):Ev (fun k=>c_laws_szCred k (x,left)) (szR (szM_Cred x) left):=by
 refine EvQ.run (fun k=>laws_szCred_run k x left) ?_
 simp only[laws_szCred,szM_Cred]
 refine EvQ.bind (szIntS_ev x.2.2 hx.2.2 (left:=left) (by omega) (by omega)) ?_
 by_cases c0:szR x.2.2.length (left)<0
 ·simp only[c0,decide_true,cond_true];exact⟨0,fun k _=>by rw[szR,if_neg (by have:=szR_neg c0;omega)]⟩
 obtain⟨d0,e0⟩:=szR_nonneg c0
 simp only[c0,decide_false,cond_false]
 simp only[e0]
 exact⟨0,fun k _=>by first|rfl|(rw[szR,if_pos (by omega)];done)|(rw[szR,if_pos (by omega)];simp only[Option.some.injEq];omega)⟩
def szM_CredS(x:List DCred):Nat:=x.length+(x.map szM_Cred).sum
theorem szCredS_ev(x:(List DCred))(hx:okD ((.list false TCredk)) x){left:Int}(h0:0≤left)(h1:left≤1048576):Ev (fun k=>c_laws_szCredS k (x,left)) (szR (szM_CredS x) left):=by
 refine EvQ.run (fun k=>laws_szCredS_run k x left) ?_
 simp only[laws_szCredS]
 have b0:x.length≤9223372036854775807:=hx.1
 have e0:wrapK .i64 (left-(x.length:Int))=left-x.length:=wrap_i64 (by omega) (by omega)
 simp only[e0]
 by_cases c0:left-(x.length:Int)<0
 ·simp only[c0,decide_true,cond_true];exact⟨0,fun k _=>by rw[szR,if_neg (by simp only[szM_CredS];omega)]⟩
 simp only[c0,decide_false,cond_false]
 have hl2:laws_szCredS_l1=szL c_laws_szCred:=rfl
 rw[hl2]
 have:=szL_ev (c:=c_laws_szCred) (sz:=szM_Cred) (l:=x) (fun y hy l h0 h1=>szCred_ev y (hx.2 y hy) h0 h1) (by omega) (left:=left-x.length) (by omega) (by omega)
 rw[szR_add (by omega)]at this
 exact this
theorem toQuota_ev(x:DQuota):Ev (fun k=>c_laws_toQuota k x) x:=by
 refine EvQ.run (fun k=>laws_toQuota_run k x) ?_
 simp only[laws_toQuota]
 exact EvQ.const _
theorem toQuotaS_ev(x:(List DQuota))(hx:x.length≤1073741824):Ev (fun k=>c_laws_toQuotaS k x) x:=by
 refine EvQ.run (fun k=>laws_toQuotaS_run k x) ?_
 simp only[laws_toQuotaS]
 simp only[if_pos (show(0:Int)≤(x.length:Int)by omega),if_pos (Int.le_refl (x.length:Int)),if_pos (show(x.length:Int)*16≤(capBytes:Int)by simp only[capBytes];omega)]
 have hl:laws_toQuotaS_l1=copyL c_laws_toQuota:=rfl
 rw[hl]
 exact copyL_ev (fun y hy=>toQuota_ev y) (by omega) _ (by simp)
theorem toIntS_ev(x:(List Int))(hx:x.length≤1073741824):Ev (fun k=>c_laws_toIntS k x) x:=by
 refine EvQ.run (fun k=>laws_toIntS_run k x) ?_
 simp only[laws_toIntS]
 simp only[if_pos (show(0:Int)≤(x.length:Int)by omega),if_pos (Int.le_refl (x.length:Int)),if_pos (show(x.length:Int)*8≤(capBytes:Int)by simp only[capBytes];omega)]
 have hl:laws_toIntS_l1=copyL fun _ y=>some y:=(show laws_toIntS_l1=copyL0 from rfl).trans copyL0_eq
 rw[hl]
 exact copyL_ev (fun y _=>EvQ.const _) (by omega) _ (by simp)
theorem toAclEntry_ev(x:DOpen):Ev (fun k=>c_laws_toAclEntry k x) x:=by
 refine EvQ.run (fun k=>laws_toAclEntry_run k x) ?_
 simp only[laws_toAclEntry]
 exact EvQ.const _
theorem toAclEntryS_ev(x:(List DOpen))(hx:x.length≤1073741824):Ev (fun k=>c_laws_toAclEntryS k x) x:=by
 refine EvQ.run (fun k=>laws_toAclEntryS_run k x) ?_
 simp only[laws_toAclEntryS]
 simp only[if_pos (show(0:Int)≤(x.length:Int)by omega),if_pos (Int.le_refl (x.length:Int)),if_pos (show(x.length:Int)*24≤(capBytes:Int)by simp only[capBytes];omega)]
 have hl:laws_toAclEntryS_l1=copyL c_laws_toAclEntry:=rfl
 rw[hl]
 exact copyL_ev (fun y hy=>toAclEntry_ev y) (by omega) _ (by simp)
theorem toInode_ev(x:DInode)(hx:(szM_Inode x)≤1073741824):Ev (fun k=>c_laws_toInode k x) x:=by
 refine EvQ.run (fun k=>laws_toInode_run k x) ?_
 simp only[laws_toInode]
 simp only[szM_Inode]at hx
 refine EvQ.bind (toIntS_ev x.2.2.2.2.2.2.2.1 (by omega)) ?_
 refine EvQ.bind (toAclEntryS_ev x.2.2.2.2.2.2.2.2.1 (by omega)) ?_
 refine EvQ.bind (toAclEntryS_ev x.2.2.2.2.2.2.2.2.2 (by omega)) ?_
 exact EvQ.const _
theorem toInodeS_ev(x:(List DInode))(hx:(szM_InodeS x)≤1073741824):Ev (fun k=>c_laws_toInodeS k x) x:=by
 refine EvQ.run (fun k=>laws_toInodeS_run k x) ?_
 simp only[laws_toInodeS]
 have hx0:=hx
 simp only[szM_InodeS]at hx
 simp only[if_pos (show(0:Int)≤(x.length:Int)by omega),if_pos (Int.le_refl (x.length:Int)),if_pos (show(x.length:Int)*128≤(capBytes:Int)by simp only[capBytes];omega)]
 have hl:laws_toInodeS_l1=copyL c_laws_toInode:=rfl
 rw[hl]
 exact copyL_ev (fun y hy=>toInode_ev y (by have:=le_sum_map szM_Inode hy;omega)) (by omega) _ (by simp)
theorem toStringS_ev(x:(List ByteArray))(hx:(szM_StringS x)≤1073741824):Ev (fun k=>c_laws_toStringS k x) x:=by
 refine EvQ.run (fun k=>laws_toStringS_run k x) ?_
 simp only[laws_toStringS]
 have hx0:=hx
 simp only[szM_StringS]at hx
 simp only[if_pos (show(0:Int)≤(x.length:Int)by omega),if_pos (Int.le_refl (x.length:Int)),if_pos (show(x.length:Int)*16≤(capBytes:Int)by simp only[capBytes];omega)]
 have hl:laws_toStringS_l1=copyL fun _ y=>some y:=(show laws_toStringS_l1=copyL0 from rfl).trans copyL0_eq
 rw[hl]
 exact copyL_ev (fun y _=>EvQ.const _) (by omega) _ (by simp)
theorem toFS_ev(x:DFS)(hx:(szM_FS x)≤1073741824):Ev (fun k=>c_laws_toFS k x) x:=by
 refine EvQ.run (fun k=>laws_toFS_run k x) ?_
 simp only[laws_toFS]
 simp only[szM_FS]at hx
 refine EvQ.bind (toQuotaS_ev x.2.1 (by omega)) ?_
 refine EvQ.bind (toInodeS_ev x.2.2.1 (by omega)) ?_
 refine EvQ.bind (toStringS_ev x.2.2.2 (by omega)) ?_
 exact EvQ.const _
theorem toCred_ev(x:DCred)(hx:(szM_Cred x)≤1073741824):Ev (fun k=>c_laws_toCred k x) x:=by
 refine EvQ.run (fun k=>laws_toCred_run k x) ?_
 simp only[laws_toCred]
 simp only[szM_Cred]at hx
 refine EvQ.bind (toIntS_ev x.2.2 (by omega)) ?_
 exact EvQ.const _
theorem toCredS_ev(x:(List DCred))(hx:(szM_CredS x)≤1073741824):Ev (fun k=>c_laws_toCredS k x) x:=by
 refine EvQ.run (fun k=>laws_toCredS_run k x) ?_
 simp only[laws_toCredS]
 have hx0:=hx
 simp only[szM_CredS]at hx
 simp only[if_pos (show(0:Int)≤(x.length:Int)by omega),if_pos (Int.le_refl (x.length:Int)),if_pos (show(x.length:Int)*40≤(capBytes:Int)by simp only[capBytes];omega)]
 have hl:laws_toCredS_l1=copyL c_laws_toCred:=rfl
 rw[hl]
 exact copyL_ev (fun y hy=>toCred_ev y (by have:=le_sum_map szM_Cred hy;omega)) (by omega) _ (by simp)
theorem eqStringS_ev(x:(List ByteArray))(hx:(szM_StringS x)≤1073741824):Ev (fun k=>c_laws_eqStringS k (x,x)) true:=by
 refine EvQ.run (fun k=>laws_eqStringS_run k x x) ?_
 simp only[laws_eqStringS]
 have hx0:=hx
 simp only[szM_StringS]at hx
 simp only[bne_self_eq_false,cond_false]
 have hl:laws_eqStringS_l1=eqL (fun _ p=>some (eqS p.1 p.2)):=rfl
 rw[hl]
 exact eqL_ev (fun y _=>by simp only[eqS_refl];exact EvQ.const _) (by omega)
def szM_Write(x:DWrite):Nat:=x.2.size
theorem eqWrite_ev(x:DWrite)(hx:(szM_Write x)≤1073741824):Ev (fun k=>c_laws_eqWrite k (x,x)) true:=by
 refine EvQ.run (fun k=>laws_eqWrite_run k x x) ?_
 simp only[laws_eqWrite]
 simp only[szM_Write]at hx
 simp only[bne_self_eq_false,eqS_refl,Bool.not_true,cond_false]
 exact EvQ.const _
def szM_WriteS(x:List DWrite):Nat:=x.length+(x.map szM_Write).sum
theorem eqWriteS_ev(x:(List DWrite))(hx:(szM_WriteS x)≤1073741824):Ev (fun k=>c_laws_eqWriteS k (x,x)) true:=by
 refine EvQ.run (fun k=>laws_eqWriteS_run k x x) ?_
 simp only[laws_eqWriteS]
 have hx0:=hx
 simp only[szM_WriteS]at hx
 simp only[bne_self_eq_false,cond_false]
 have hl:laws_eqWriteS_l1=eqL c_laws_eqWrite:=rfl
 rw[hl]
 exact eqL_ev (fun y hy=>eqWrite_ev y (by have:=le_sum_map szM_Write hy;omega)) (by omega)
def szM_Disk(x:DDisk):Nat:=(szM_StringS x.1)+(szM_WriteS x.2)
theorem eqDisk_ev(x:DDisk)(hx:(szM_Disk x)≤1073741824):Ev (fun k=>c_laws_eqDisk k (x,x)) true:=by
 refine EvQ.run (fun k=>laws_eqDisk_run k x x) ?_
 simp only[laws_eqDisk]
 simp only[szM_Disk]at hx
 refine EvQ.bind (eqStringS_ev x.1 (by omega)) ?_
 simp only[Bool.not_true,cond_false]
 refine EvQ.bind (eqWriteS_ev x.2 (by omega)) ?_
 simp only[Bool.not_true,cond_false]
 exact EvQ.const _
theorem eqQuota_ev(x:DQuota):Ev (fun k=>c_laws_eqQuota k (x,x)) true:=by
 refine EvQ.run (fun k=>laws_eqQuota_run k x x) ?_
 simp only[laws_eqQuota]
 simp only[bne_self_eq_false,eqS_refl,Bool.not_true,cond_false]
 exact EvQ.const _
theorem eqQuotaS_ev(x:(List DQuota))(hx:x.length≤1073741824):Ev (fun k=>c_laws_eqQuotaS k (x,x)) true:=by
 refine EvQ.run (fun k=>laws_eqQuotaS_run k x x) ?_
 simp only[laws_eqQuotaS]
 simp only[bne_self_eq_false,cond_false]
 have hl:laws_eqQuotaS_l1=eqL c_laws_eqQuota:=rfl
 rw[hl]
 exact eqL_ev (fun y hy=>eqQuota_ev y) (by omega)
theorem eqIntS_ev(x:(List Int))(hx:x.length≤1073741824):Ev (fun k=>c_laws_eqIntS k (x,x)) true:=by
 refine EvQ.run (fun k=>laws_eqIntS_run k x x) ?_
 simp only[laws_eqIntS]
 simp only[bne_self_eq_false,cond_false]
 have hl:laws_eqIntS_l1=eqL (fun _ p=>some (p.1==p.2)):=rfl
 rw[hl]
 exact eqL_ev (fun y _=>by simp only[beq_self_eq_true];exact EvQ.const _) (by omega)
theorem eqAclEntry_ev(x:DOpen):Ev (fun k=>c_laws_eqAclEntry k (x,x)) true:=by
 refine EvQ.run (fun k=>laws_eqAclEntry_run k x x) ?_
 simp only[laws_eqAclEntry]
 simp only[bne_self_eq_false,eqS_refl,Bool.not_true,cond_false]
 exact EvQ.const _
theorem eqAclEntryS_ev(x:(List DOpen))(hx:x.length≤1073741824):Ev (fun k=>c_laws_eqAclEntryS k (x,x)) true:=by
 refine EvQ.run (fun k=>laws_eqAclEntryS_run k x x) ?_
 simp only[laws_eqAclEntryS]
 simp only[bne_self_eq_false,cond_false]
 have hl:laws_eqAclEntryS_l1=eqL c_laws_eqAclEntry:=rfl
 rw[hl]
 exact eqL_ev (fun y hy=>eqAclEntry_ev y) (by omega)
theorem eqInode_ev(x:DInode)(hx:(szM_Inode x)≤1073741824):Ev (fun k=>c_laws_eqInode k (x,x)) true:=by
 refine EvQ.run (fun k=>laws_eqInode_run k x x) ?_
 simp only[laws_eqInode]
 simp only[szM_Inode]at hx
 simp only[bne_self_eq_false,eqS_refl,Bool.not_true,cond_false]
 refine EvQ.bind (eqIntS_ev x.2.2.2.2.2.2.2.1 (by omega)) ?_
 simp only[Bool.not_true,cond_false]
 refine EvQ.bind (eqAclEntryS_ev x.2.2.2.2.2.2.2.2.1 (by omega)) ?_
 simp only[Bool.not_true,cond_false]
 refine EvQ.bind (eqAclEntryS_ev x.2.2.2.2.2.2.2.2.2 (by omega)) ?_
 simp only[Bool.not_true,cond_false]
 exact EvQ.const _
theorem eqInodeS_ev(x:(List DInode))(hx:(szM_InodeS x)≤1073741824):Ev (fun k=>c_laws_eqInodeS k (x,x)) true:=by
 refine EvQ.run (fun k=>laws_eqInodeS_run k x x) ?_
 simp only[laws_eqInodeS]
 have hx0:=hx
 simp only[szM_InodeS]at hx
 simp only[bne_self_eq_false,cond_false]
 have hl:laws_eqInodeS_l1=eqL c_laws_eqInode:=rfl
 rw[hl]
 exact eqL_ev (fun y hy=>eqInode_ev y (by have:=le_sum_map szM_Inode hy;omega)) (by omega)
theorem eqFS_ev(x:DFS)(hx:(szM_FS x)≤1073741824):Ev (fun k=>c_laws_eqFS k (x,x)) true:=by
 refine EvQ.run (fun k=>laws_eqFS_run k x x) ?_
 simp only[laws_eqFS]
 simp only[szM_FS]at hx
 simp only[bne_self_eq_false,eqS_refl,Bool.not_true,cond_false]
 refine EvQ.bind (eqQuotaS_ev x.2.1 (by omega)) ?_
 simp only[Bool.not_true,cond_false]
 refine EvQ.bind (eqInodeS_ev x.2.2.1 (by omega)) ?_
 simp only[Bool.not_true,cond_false]
 refine EvQ.bind (eqStringS_ev x.2.2.2 (by omega)) ?_
 simp only[Bool.not_true,cond_false]
 exact EvQ.const _
theorem eqCred_ev(x:DCred)(hx:(szM_Cred x)≤1073741824):Ev (fun k=>c_laws_eqCred k (x,x)) true:=by
 refine EvQ.run (fun k=>laws_eqCred_run k x x) ?_
 simp only[laws_eqCred]
 simp only[szM_Cred]at hx
 simp only[bne_self_eq_false,eqS_refl,Bool.not_true,cond_false]
 refine EvQ.bind (eqIntS_ev x.2.2 (by omega)) ?_
 simp only[Bool.not_true,cond_false]
 exact EvQ.const _
theorem eqOpen_ev(x:DOpen):Ev (fun k=>c_laws_eqOpen k (x,x)) true:=by
 refine EvQ.run (fun k=>laws_eqOpen_run k x x) ?_
 simp only[laws_eqOpen]
 simp only[bne_self_eq_false,eqS_refl,Bool.not_true,cond_false]
 exact EvQ.const _
theorem eqOpenS_ev(x:(List DOpen))(hx:x.length≤1073741824):Ev (fun k=>c_laws_eqOpenS k (x,x)) true:=by
 refine EvQ.run (fun k=>laws_eqOpenS_run k x x) ?_
 simp only[laws_eqOpenS]
 simp only[bne_self_eq_false,cond_false]
 have hl:laws_eqOpenS_l1=eqL c_laws_eqOpen:=rfl
 rw[hl]
 exact eqL_ev (fun y hy=>eqOpen_ev y) (by omega)
def szM_Proc(x:DProc):Nat:=(szM_Cred x.1)+x.2.length
theorem eqProc_ev(x:DProc)(hx:(szM_Proc x)≤1073741824):Ev (fun k=>c_laws_eqProc k (x,x)) true:=by
 refine EvQ.run (fun k=>laws_eqProc_run k x x) ?_
 simp only[laws_eqProc]
 simp only[szM_Proc]at hx
 refine EvQ.bind (eqCred_ev x.1 (by omega)) ?_
 simp only[Bool.not_true,cond_false]
 refine EvQ.bind (eqOpenS_ev x.2 (by omega)) ?_
 simp only[Bool.not_true,cond_false]
 exact EvQ.const _
def szM_ProcS(x:List DProc):Nat:=x.length+(x.map szM_Proc).sum
theorem eqProcS_ev(x:(List DProc))(hx:(szM_ProcS x)≤1073741824):Ev (fun k=>c_laws_eqProcS k (x,x)) true:=by
 refine EvQ.run (fun k=>laws_eqProcS_run k x x) ?_
 simp only[laws_eqProcS]
 have hx0:=hx
 simp only[szM_ProcS]at hx
 simp only[bne_self_eq_false,cond_false]
 have hl:laws_eqProcS_l1=eqL c_laws_eqProc:=rfl
 rw[hl]
 exact eqL_ev (fun y hy=>eqProc_ev y (by have:=le_sum_map szM_Proc hy;omega)) (by omega)
def szM_System(x:DSystem):Nat:=(szM_FS x.1)+(szM_ProcS x.2)
theorem eqSystem_ev(x:DSystem)(hx:(szM_System x)≤1073741824):Ev (fun k=>c_laws_eqSystem k (x,x)) true:=by
 refine EvQ.run (fun k=>laws_eqSystem_run k x x) ?_
 simp only[laws_eqSystem]
 simp only[szM_System]at hx
 refine EvQ.bind (eqFS_ev x.1 (by omega)) ?_
 simp only[Bool.not_true,cond_false]
 refine EvQ.bind (eqProcS_ev x.2 (by omega)) ?_
 simp only[Bool.not_true,cond_false]
 exact EvQ.const _
def szM_Machine(x:DMachine):Nat:=(szM_Disk x.1)+(szM_System x.2.2)
theorem eqMachine_ev(x:DMachine)(hx:(szM_Machine x)≤1073741824):Ev (fun k=>c_laws_eqMachine k (x,x)) true:=by
 refine EvQ.run (fun k=>laws_eqMachine_run k x x) ?_
 simp only[laws_eqMachine]
 simp only[szM_Machine]at hx
 simp only[bne_self_eq_false,eqS_refl,Bool.not_true,cond_false]
 refine EvQ.bind (eqDisk_ev x.1 (by omega)) ?_
 simp only[Bool.not_true,cond_false]
 refine EvQ.bind (eqSystem_ev x.2.2 (by omega)) ?_
 simp only[Bool.not_true,cond_false]
 exact EvQ.const _
theorem eqCredS_ev(x:(List DCred))(hx:(szM_CredS x)≤1073741824):Ev (fun k=>c_laws_eqCredS k (x,x)) true:=by
 refine EvQ.run (fun k=>laws_eqCredS_run k x x) ?_
 simp only[laws_eqCredS]
 have hx0:=hx
 simp only[szM_CredS]at hx
 simp only[bne_self_eq_false,cond_false]
 have hl:laws_eqCredS_l1=eqL c_laws_eqCred:=rfl
 rw[hl]
 exact eqL_ev (fun y hy=>eqCred_ev y (by have:=le_sum_map szM_Cred hy;omega)) (by omega)
noncomputable def mkIntS(_:Int)(m:Int):Int:=m
theorem markIntS_ev(l0:List Int)(m0:Int)(h0:0≤m0)(h1:m0+1*l0.length<4611686018427387900):Ev (fun k=>c_laws_markIntS k (l0,m0)) (m0+1*l0.length,markF mkIntS 1 l0 m0):=by
 refine EvQ.run (fun k=>laws_markIntS_run k l0 m0) ?_
 simp only[laws_markIntS]
 refine EvL.ev ?_
 refine markL_ev (L:=laws_markIntS_l1) mkIntS 1 l0 m0 (fun a b=>(a,b)) ?_ ?_
 ·intro i l x hl hx hi
  have hil:i<l.length:=by omega
  have hM:0≤m0+1*(i:Int)∧m0+1*(i:Int)+1<4611686018427387904:=by omega
  have hM2:m0+1*((i+1:Nat):Int)=(m0+1*(i:Int))+1:=by omega
  simp only[hM2]
  generalize hMd:m0+1*(i:Int)=M at*
  have w1:wrapK .i64 (M+1)=M+1:=wrap_i64 (by omega) (by omega)
  simp only[EvS,laws_markIntS_l1,Int.toNat_natCast,hx,Option.bind_some,Int.natCast_nonneg,if_true,Int.ofNat_lt,hil,decide_true,cond_true,List.length_set,List.getElem?_set_self hil,List.set_set,wrap_succ hil (by omega),mkIntS,w1]
  exact EvQ.const _
 ·intro l hl
  refine EvL.stop ?_
  simp only[laws_markIntS_l1,hl,Int.ofNat_lt,Nat.lt_irrefl,decide_false,cond_false]
  exact EvQ.const _
noncomputable def mkQuotaS(_:DQuota)(m:Int):DQuota:=(m,m+1)
theorem markQuotaS_ev(l0:List DQuota)(m0:Int)(h0:0≤m0)(h1:m0+2*l0.length<4611686018427387900):Ev (fun k=>c_laws_markQuotaS k (l0,m0)) (m0+2*l0.length,markF mkQuotaS 2 l0 m0):=by
 refine EvQ.run (fun k=>laws_markQuotaS_run k l0 m0) ?_
 simp only[laws_markQuotaS]
 refine EvL.ev ?_
 refine markL_ev (L:=laws_markQuotaS_l1) mkQuotaS 2 l0 m0 (fun a b=>(a,b)) ?_ ?_
 ·intro i l x hl hx hi
  have hil:i<l.length:=by omega
  have hM:0≤m0+2*(i:Int)∧m0+2*(i:Int)+2<4611686018427387904:=by omega
  have hM2:m0+2*((i+1:Nat):Int)=(m0+2*(i:Int))+1+1:=by omega
  simp only[hM2]
  generalize hMd:m0+2*(i:Int)=M at*
  have w1:wrapK .i64 (M+1)=M+1:=wrap_i64 (by omega) (by omega)
  have w2:wrapK .i64 (M+1+1)=M+1+1:=wrap_i64 (by omega) (by omega)
  simp only[EvS,laws_markQuotaS_l1,Int.toNat_natCast,hx,Option.bind_some,Int.natCast_nonneg,if_true,Int.ofNat_lt,hil,decide_true,cond_true,List.length_set,List.getElem?_set_self hil,List.set_set,wrap_succ hil (by omega),mkQuotaS,w1,w2]
  exact EvQ.const _
 ·intro l hl
  refine EvL.stop ?_
  simp only[laws_markQuotaS_l1,hl,Int.ofNat_lt,Nat.lt_irrefl,decide_false,cond_false]
  exact EvQ.const _
noncomputable def mkAclEntryS(_:DOpen)(m:Int):DOpen:=(m,m+1,m+1+1)
theorem markAclEntryS_ev(l0:List DOpen)(m0:Int)(h0:0≤m0)(h1:m0+3*l0.length<4611686018427387900):Ev (fun k=>c_laws_markAclEntryS k (l0,m0)) (m0+3*l0.length,markF mkAclEntryS 3 l0 m0):=by
 refine EvQ.run (fun k=>laws_markAclEntryS_run k l0 m0) ?_
 simp only[laws_markAclEntryS]
 refine EvL.ev ?_
 refine markL_ev (L:=laws_markAclEntryS_l1) mkAclEntryS 3 l0 m0 (fun a b=>(a,b)) ?_ ?_
 ·intro i l x hl hx hi
  have hil:i<l.length:=by omega
  have hM:0≤m0+3*(i:Int)∧m0+3*(i:Int)+3<4611686018427387904:=by omega
  have hM2:m0+3*((i+1:Nat):Int)=(m0+3*(i:Int))+1+1+1:=by omega
  simp only[hM2]
  generalize hMd:m0+3*(i:Int)=M at*
  have w1:wrapK .i64 (M+1)=M+1:=wrap_i64 (by omega) (by omega)
  have w2:wrapK .i64 (M+1+1)=M+1+1:=wrap_i64 (by omega) (by omega)
  have w3:wrapK .i64 (M+1+1+1)=M+1+1+1:=wrap_i64 (by omega) (by omega)
  simp only[EvS,laws_markAclEntryS_l1,Int.toNat_natCast,hx,Option.bind_some,Int.natCast_nonneg,if_true,Int.ofNat_lt,hil,decide_true,cond_true,List.length_set,List.getElem?_set_self hil,List.set_set,wrap_succ hil (by omega),mkAclEntryS,w1,w2,w3]
  exact EvQ.const _
 ·intro l hl
  refine EvL.stop ?_
  simp only[laws_markAclEntryS_l1,hl,Int.ofNat_lt,Nat.lt_irrefl,decide_false,cond_false]
  exact EvQ.const _
noncomputable def mkStringS(_:ByteArray)(m:Int):ByteArray:=mtext (m)
theorem markStringS_ev(l0:List ByteArray)(m0:Int)(h0:0≤m0)(h1:m0+1*l0.length<4611686018427387900):Ev (fun k=>c_laws_markStringS k (l0,m0)) (m0+1*l0.length,markF mkStringS 1 l0 m0):=by
 refine EvQ.run (fun k=>laws_markStringS_run k l0 m0) ?_
 simp only[laws_markStringS]
 refine EvL.ev ?_
 refine markL_ev (L:=laws_markStringS_l1) mkStringS 1 l0 m0 (fun a b=>(a,b)) ?_ ?_
 ·intro i l x hl hx hi
  have hil:i<l.length:=by omega
  have hM:0≤m0+1*(i:Int)∧m0+1*(i:Int)+1<4611686018427387904:=by omega
  have hM2:m0+1*((i+1:Nat):Int)=(m0+1*(i:Int))+1:=by omega
  simp only[hM2]
  generalize hMd:m0+1*(i:Int)=M at*
  have w1:wrapK .i64 (M+1)=M+1:=wrap_i64 (by omega) (by omega)
  simp only[EvS,laws_markStringS_l1,Int.toNat_natCast,hx,Option.bind_some,Int.natCast_nonneg,if_true,Int.ofNat_lt,hil,decide_true,cond_true,List.length_set,List.getElem?_set_self hil,List.set_set,wrap_succ hil (by omega),mkStringS,w1]
  refine EvQ.bindS (markText_ev _ (by omega) (by omega)) ?_
  try simp only[Int.toNat_natCast,hx,Option.bind_some,Int.natCast_nonneg,if_true,Int.ofNat_lt,hil,decide_true,cond_true,List.length_set,List.getElem?_set_self hil,List.set_set,w1]
  exact EvQ.const _
 ·intro l hl
  refine EvL.stop ?_
  simp only[laws_markStringS_l1,hl,Int.ofNat_lt,Nat.lt_irrefl,decide_false,cond_false]
  exact EvQ.const _
noncomputable def mkWriteS(_:DWrite)(m:Int):DWrite:=(m,mtext (m+1))
theorem markWriteS_ev(l0:List DWrite)(m0:Int)(h0:0≤m0)(h1:m0+2*l0.length<4611686018427387900):Ev (fun k=>c_laws_markWriteS k (l0,m0)) (m0+2*l0.length,markF mkWriteS 2 l0 m0):=by
 refine EvQ.run (fun k=>laws_markWriteS_run k l0 m0) ?_
 simp only[laws_markWriteS]
 refine EvL.ev ?_
 refine markL_ev (L:=laws_markWriteS_l1) mkWriteS 2 l0 m0 (fun a b=>(a,b)) ?_ ?_
 ·intro i l x hl hx hi
  have hil:i<l.length:=by omega
  have hM:0≤m0+2*(i:Int)∧m0+2*(i:Int)+2<4611686018427387904:=by omega
  have hM2:m0+2*((i+1:Nat):Int)=(m0+2*(i:Int))+1+1:=by omega
  simp only[hM2]
  generalize hMd:m0+2*(i:Int)=M at*
  have w1:wrapK .i64 (M+1)=M+1:=wrap_i64 (by omega) (by omega)
  have w2:wrapK .i64 (M+1+1)=M+1+1:=wrap_i64 (by omega) (by omega)
  simp only[EvS,laws_markWriteS_l1,Int.toNat_natCast,hx,Option.bind_some,Int.natCast_nonneg,if_true,Int.ofNat_lt,hil,decide_true,cond_true,List.length_set,List.getElem?_set_self hil,List.set_set,wrap_succ hil (by omega),mkWriteS,w1,w2]
  refine EvQ.bindS (markText_ev _ (by omega) (by omega)) ?_
  try simp only[Int.toNat_natCast,hx,Option.bind_some,Int.natCast_nonneg,if_true,Int.ofNat_lt,hil,decide_true,cond_true,List.length_set,List.getElem?_set_self hil,List.set_set,w1,w2]
  exact EvQ.const _
 ·intro l hl
  refine EvL.stop ?_
  simp only[laws_markWriteS_l1,hl,Int.ofNat_lt,Nat.lt_irrefl,decide_false,cond_false]
  exact EvQ.const _
noncomputable def mkOpenS(_:DOpen)(m:Int):DOpen:=(m,m+1,m+1+1)
theorem markOpenS_ev(l0:List DOpen)(m0:Int)(h0:0≤m0)(h1:m0+3*l0.length<4611686018427387900):Ev (fun k=>c_laws_markOpenS k (l0,m0)) (m0+3*l0.length,markF mkOpenS 3 l0 m0):=by
 refine EvQ.run (fun k=>laws_markOpenS_run k l0 m0) ?_
 simp only[laws_markOpenS]
 refine EvL.ev ?_
 refine markL_ev (L:=laws_markOpenS_l1) mkOpenS 3 l0 m0 (fun a b=>(a,b)) ?_ ?_
 ·intro i l x hl hx hi
  have hil:i<l.length:=by omega
  have hM:0≤m0+3*(i:Int)∧m0+3*(i:Int)+3<4611686018427387904:=by omega
  have hM2:m0+3*((i+1:Nat):Int)=(m0+3*(i:Int))+1+1+1:=by omega
  simp only[hM2]
  generalize hMd:m0+3*(i:Int)=M at*
  have w1:wrapK .i64 (M+1)=M+1:=wrap_i64 (by omega) (by omega)
  have w2:wrapK .i64 (M+1+1)=M+1+1:=wrap_i64 (by omega) (by omega)
  have w3:wrapK .i64 (M+1+1+1)=M+1+1+1:=wrap_i64 (by omega) (by omega)
  simp only[EvS,laws_markOpenS_l1,Int.toNat_natCast,hx,Option.bind_some,Int.natCast_nonneg,if_true,Int.ofNat_lt,hil,decide_true,cond_true,List.length_set,List.getElem?_set_self hil,List.set_set,wrap_succ hil (by omega),mkOpenS,w1,w2,w3]
  exact EvQ.const _
 ·intro l hl
  refine EvL.stop ?_
  simp only[laws_markOpenS_l1,hl,Int.ofNat_lt,Nat.lt_irrefl,decide_false,cond_false]
  exact EvQ.const _
theorem heldStringS_ev(l0:List ByteArray)(m0:Int)(h0:0≤m0)(h1:m0+1*l0.length<4611686018427387900):Ev (fun k=>c_laws_heldStringS k (markF mkStringS 1 l0 m0,m0)) (m0+1*l0.length):=by
 refine EvQ.run (fun k=>laws_heldStringS_run k (markF mkStringS 1 l0 m0) m0) ?_
 simp only[laws_heldStringS]
 refine EvL.ev ?_
 have hlen:=markF_length mkStringS 1 l0 m0
 refine heldL_ev (L:=laws_heldStringS_l1) (fun m i=>(markF mkStringS 1 l0 m0,m,i)) mkStringS 1 l0 m0 ?_ ?_
 ·intro i x hx hi
  have hil:i<(markF mkStringS 1 l0 m0).length:=by omega
  generalize hG:markF mkStringS 1 l0 m0=G at*
  have hM:0≤m0+1*(i:Int)∧m0+1*(i:Int)+1<4611686018427387904:=by omega
  have hM2:m0+1*((i+1:Nat):Int)=(m0+1*(i:Int))+1:=by omega
  simp only[hM2]
  generalize hMd:m0+1*(i:Int)=M at*
  have w1:wrapK .i64 (M+1)=M+1:=wrap_i64 (by omega) (by omega)
  simp only[mkStringS]at hx
  simp only[EvS,laws_heldStringS_l1,Int.toNat_natCast,hx,Option.bind_some,Int.natCast_nonneg,if_true,Int.ofNat_lt,hil,decide_true,cond_true,bne_self_eq_false,cond_false,wrap_succ hil (by omega),w1]
  refine EvQ.bindS (markText_ev _ (by omega) (by omega)) ?_
  try simp only[Int.toNat_natCast,hx,Option.bind_some,Int.natCast_nonneg,if_true,bne_self_eq_false,eqS_refl,Bool.not_true,cond_false,w1]
  exact EvQ.const _
 ·refine EvL.stop ?_
  simp only[laws_heldStringS_l1,hlen,Int.ofNat_lt,Nat.lt_irrefl,decide_false,cond_false]
  exact EvQ.const _
theorem heldWriteS_ev(l0:List DWrite)(m0:Int)(h0:0≤m0)(h1:m0+2*l0.length<4611686018427387900):Ev (fun k=>c_laws_heldWriteS k (markF mkWriteS 2 l0 m0,m0)) (m0+2*l0.length):=by
 refine EvQ.run (fun k=>laws_heldWriteS_run k (markF mkWriteS 2 l0 m0) m0) ?_
 simp only[laws_heldWriteS]
 refine EvL.ev ?_
 have hlen:=markF_length mkWriteS 2 l0 m0
 refine heldL_ev (L:=laws_heldWriteS_l1) (fun m i=>(markF mkWriteS 2 l0 m0,m,i)) mkWriteS 2 l0 m0 ?_ ?_
 ·intro i x hx hi
  have hil:i<(markF mkWriteS 2 l0 m0).length:=by omega
  generalize hG:markF mkWriteS 2 l0 m0=G at*
  have hM:0≤m0+2*(i:Int)∧m0+2*(i:Int)+2<4611686018427387904:=by omega
  have hM2:m0+2*((i+1:Nat):Int)=(m0+2*(i:Int))+1+1:=by omega
  simp only[hM2]
  generalize hMd:m0+2*(i:Int)=M at*
  have w1:wrapK .i64 (M+1)=M+1:=wrap_i64 (by omega) (by omega)
  have w2:wrapK .i64 (M+1+1)=M+1+1:=wrap_i64 (by omega) (by omega)
  simp only[mkWriteS]at hx
  simp only[EvS,laws_heldWriteS_l1,Int.toNat_natCast,hx,Option.bind_some,Int.natCast_nonneg,if_true,Int.ofNat_lt,hil,decide_true,cond_true,bne_self_eq_false,cond_false,wrap_succ hil (by omega),w1,w2]
  refine EvQ.bindS (markText_ev _ (by omega) (by omega)) ?_
  try simp only[Int.toNat_natCast,hx,Option.bind_some,Int.natCast_nonneg,if_true,bne_self_eq_false,eqS_refl,Bool.not_true,cond_false,w1,w2]
  exact EvQ.const _
 ·refine EvL.stop ?_
  simp only[laws_heldWriteS_l1,hlen,Int.ofNat_lt,Nat.lt_irrefl,decide_false,cond_false]
  exact EvQ.const _
theorem heldQuotaS_ev(l0:List DQuota)(m0:Int)(h0:0≤m0)(h1:m0+2*l0.length<4611686018427387900):Ev (fun k=>c_laws_heldQuotaS k (markF mkQuotaS 2 l0 m0,m0)) (m0+2*l0.length):=by
 refine EvQ.run (fun k=>laws_heldQuotaS_run k (markF mkQuotaS 2 l0 m0) m0) ?_
 simp only[laws_heldQuotaS]
 refine EvL.ev ?_
 have hlen:=markF_length mkQuotaS 2 l0 m0
 refine heldL_ev (L:=laws_heldQuotaS_l1) (fun m i=>(markF mkQuotaS 2 l0 m0,m,i)) mkQuotaS 2 l0 m0 ?_ ?_
 ·intro i x hx hi
  have hil:i<(markF mkQuotaS 2 l0 m0).length:=by omega
  generalize hG:markF mkQuotaS 2 l0 m0=G at*
  have hM:0≤m0+2*(i:Int)∧m0+2*(i:Int)+2<4611686018427387904:=by omega
  have hM2:m0+2*((i+1:Nat):Int)=(m0+2*(i:Int))+1+1:=by omega
  simp only[hM2]
  generalize hMd:m0+2*(i:Int)=M at*
  have w1:wrapK .i64 (M+1)=M+1:=wrap_i64 (by omega) (by omega)
  have w2:wrapK .i64 (M+1+1)=M+1+1:=wrap_i64 (by omega) (by omega)
  simp only[mkQuotaS]at hx
  simp only[EvS,laws_heldQuotaS_l1,Int.toNat_natCast,hx,Option.bind_some,Int.natCast_nonneg,if_true,Int.ofNat_lt,hil,decide_true,cond_true,bne_self_eq_false,cond_false,wrap_succ hil (by omega),w1,w2]
  exact EvQ.const _
 ·refine EvL.stop ?_
  simp only[laws_heldQuotaS_l1,hlen,Int.ofNat_lt,Nat.lt_irrefl,decide_false,cond_false]
  exact EvQ.const _
theorem heldIntS_ev(l0:List Int)(m0:Int)(h0:0≤m0)(h1:m0+1*l0.length<4611686018427387900):Ev (fun k=>c_laws_heldIntS k (markF mkIntS 1 l0 m0,m0)) (m0+1*l0.length):=by
 refine EvQ.run (fun k=>laws_heldIntS_run k (markF mkIntS 1 l0 m0) m0) ?_
 simp only[laws_heldIntS]
 refine EvL.ev ?_
 have hlen:=markF_length mkIntS 1 l0 m0
 refine heldL_ev (L:=laws_heldIntS_l1) (fun m i=>(markF mkIntS 1 l0 m0,m,i)) mkIntS 1 l0 m0 ?_ ?_
 ·intro i x hx hi
  have hil:i<(markF mkIntS 1 l0 m0).length:=by omega
  generalize hG:markF mkIntS 1 l0 m0=G at*
  have hM:0≤m0+1*(i:Int)∧m0+1*(i:Int)+1<4611686018427387904:=by omega
  have hM2:m0+1*((i+1:Nat):Int)=(m0+1*(i:Int))+1:=by omega
  simp only[hM2]
  generalize hMd:m0+1*(i:Int)=M at*
  have w1:wrapK .i64 (M+1)=M+1:=wrap_i64 (by omega) (by omega)
  simp only[mkIntS]at hx
  simp only[EvS,laws_heldIntS_l1,Int.toNat_natCast,hx,Option.bind_some,Int.natCast_nonneg,if_true,Int.ofNat_lt,hil,decide_true,cond_true,bne_self_eq_false,cond_false,wrap_succ hil (by omega),w1]
  exact EvQ.const _
 ·refine EvL.stop ?_
  simp only[laws_heldIntS_l1,hlen,Int.ofNat_lt,Nat.lt_irrefl,decide_false,cond_false]
  exact EvQ.const _
theorem heldAclEntryS_ev(l0:List DOpen)(m0:Int)(h0:0≤m0)(h1:m0+3*l0.length<4611686018427387900):Ev (fun k=>c_laws_heldAclEntryS k (markF mkAclEntryS 3 l0 m0,m0)) (m0+3*l0.length):=by
 refine EvQ.run (fun k=>laws_heldAclEntryS_run k (markF mkAclEntryS 3 l0 m0) m0) ?_
 simp only[laws_heldAclEntryS]
 refine EvL.ev ?_
 have hlen:=markF_length mkAclEntryS 3 l0 m0
 refine heldL_ev (L:=laws_heldAclEntryS_l1) (fun m i=>(markF mkAclEntryS 3 l0 m0,m,i)) mkAclEntryS 3 l0 m0 ?_ ?_
 ·intro i x hx hi
  have hil:i<(markF mkAclEntryS 3 l0 m0).length:=by omega
  generalize hG:markF mkAclEntryS 3 l0 m0=G at*
  have hM:0≤m0+3*(i:Int)∧m0+3*(i:Int)+3<4611686018427387904:=by omega
  have hM2:m0+3*((i+1:Nat):Int)=(m0+3*(i:Int))+1+1+1:=by omega
  simp only[hM2]
  generalize hMd:m0+3*(i:Int)=M at*
  have w1:wrapK .i64 (M+1)=M+1:=wrap_i64 (by omega) (by omega)
  have w2:wrapK .i64 (M+1+1)=M+1+1:=wrap_i64 (by omega) (by omega)
  have w3:wrapK .i64 (M+1+1+1)=M+1+1+1:=wrap_i64 (by omega) (by omega)
  simp only[mkAclEntryS]at hx
  simp only[EvS,laws_heldAclEntryS_l1,Int.toNat_natCast,hx,Option.bind_some,Int.natCast_nonneg,if_true,Int.ofNat_lt,hil,decide_true,cond_true,bne_self_eq_false,cond_false,wrap_succ hil (by omega),w1,w2,w3]
  exact EvQ.const _
 ·refine EvL.stop ?_
  simp only[laws_heldAclEntryS_l1,hlen,Int.ofNat_lt,Nat.lt_irrefl,decide_false,cond_false]
  exact EvQ.const _
theorem heldOpenS_ev(l0:List DOpen)(m0:Int)(h0:0≤m0)(h1:m0+3*l0.length<4611686018427387900):Ev (fun k=>c_laws_heldOpenS k (markF mkOpenS 3 l0 m0,m0)) (m0+3*l0.length):=by
 refine EvQ.run (fun k=>laws_heldOpenS_run k (markF mkOpenS 3 l0 m0) m0) ?_
 simp only[laws_heldOpenS]
 refine EvL.ev ?_
 have hlen:=markF_length mkOpenS 3 l0 m0
 refine heldL_ev (L:=laws_heldOpenS_l1) (fun m i=>(markF mkOpenS 3 l0 m0,m,i)) mkOpenS 3 l0 m0 ?_ ?_
 ·intro i x hx hi
  have hil:i<(markF mkOpenS 3 l0 m0).length:=by omega
  generalize hG:markF mkOpenS 3 l0 m0=G at*
  have hM:0≤m0+3*(i:Int)∧m0+3*(i:Int)+3<4611686018427387904:=by omega
  have hM2:m0+3*((i+1:Nat):Int)=(m0+3*(i:Int))+1+1+1:=by omega
  simp only[hM2]
  generalize hMd:m0+3*(i:Int)=M at*
  have w1:wrapK .i64 (M+1)=M+1:=wrap_i64 (by omega) (by omega)
  have w2:wrapK .i64 (M+1+1)=M+1+1:=wrap_i64 (by omega) (by omega)
  have w3:wrapK .i64 (M+1+1+1)=M+1+1+1:=wrap_i64 (by omega) (by omega)
  simp only[mkOpenS]at hx
  simp only[EvS,laws_heldOpenS_l1,Int.toNat_natCast,hx,Option.bind_some,Int.natCast_nonneg,if_true,Int.ofNat_lt,hil,decide_true,cond_true,bne_self_eq_false,cond_false,wrap_succ hil (by omega),w1,w2,w3]
  exact EvQ.const _
 ·refine EvL.stop ?_
  simp only[laws_heldOpenS_l1,hlen,Int.ofNat_lt,Nat.lt_irrefl,decide_false,cond_false]
  exact EvQ.const _
end Go.Proofs.YtmmgfgfkkpeedaaGreat

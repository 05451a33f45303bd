/- The tables, the residual functions and lemmas of this seat: parts of the proof of the law; conditions: those that each names. -/
import Derived.Test.YtnaipddflhjmfaaRes
set_option linter.unusedVariables false
set_option linter.unusedSimpArgs false
set_option maxRecDepth 100000
namespace Go.Proofs.Ytnaipddflhjmfaa
open Go.Eng
theorem markText_ex:∀(n:Nat) (s:ByteArray),s.size+n<9223372036854775000→∃r,EvL laws_markText_l1 ((n:Int),s) r:=by
 intro n
 induction n using Nat.strongRecOn with
 |_ n ih=>
  intro s hs
  by_cases h0:n=0
  ·subst h0
   refine⟨(⟨#[109]⟩:ByteArray)++s,EvL.stop ?_⟩
   have h1:(⟨#[109]⟩:ByteArray).size+s.size≤9223372036854775807:=by
    have:(⟨#[109]⟩:ByteArray).size=1:=rfl
    omega
   simp only[laws_markText_l1,Int.ofNat_zero,Int.lt_irrefl,decide_false,cond_false,if_pos h1]
   exact EvQ.const _
  ·have hc:(ofBytes [(wrapK .u8 (wrapK .i64 ((48:Int)+((n:Int).tmod (10:Int)))))]).size=1:=rfl
   obtain⟨r,hr⟩:=ih (n / 10) (by omega) (ofBytes [(wrapK .u8 (wrapK .i64 ((48:Int)+((n:Int).tmod (10:Int)))))]++s) (by rw[ByteArray.size_append,hc];omega)
   refine⟨r,EvL.step (d':=(((n / 10:Nat):Int),ofBytes [(wrapK .u8 (wrapK .i64 ((48:Int)+((n:Int).tmod (10:Int)))))]++s)) ?_ hr⟩
   have h1:(0:Int)<(n:Int):=by omega
   have h2:wrapK .i64 ((n:Int).tdiv 10)=((n / 10:Nat):Int):=by
    have e:(n:Int).tdiv 10=((n / 10:Nat):Int):=by rw[Int.tdiv_eq_ediv_of_nonneg (by omega)];omega
    rw[e];exact wrap_i64 (by omega) (by omega)
   have h3:(ofBytes [(wrapK .u8 (wrapK .i64 ((48:Int)+((n:Int).tmod (10:Int)))))]).size+s.size≤9223372036854775807:=by rw[hc];omega
   have h4:(10:Int)≠0:=by decide
   simp only[EvS,laws_markText_l1,h1,decide_true,cond_true,if_pos h4,if_pos h3,h2]
   exact EvQ.const _
open Classical in
noncomputable def mtext(m:Int):ByteArray:=if h:∃s,Ev (fun k=>c_laws_markText k m) s then h.choose else ByteArray.empty
theorem markText_ev(m:Int)(h0:0≤m)(h1:m<4611686018427387904):Ev (fun k=>c_laws_markText k m) (mtext m):=by
 have hex:∃s,Ev (fun k=>c_laws_markText k m) s:=by
  by_cases hm:m≤0
  ·refine⟨(⟨#[109,48]⟩:ByteArray),EvQ.run (fun k=>laws_markText_run k m) ?_⟩
   simp only[laws_markText,hm,decide_true,cond_true]
   exact EvQ.const _
  ·obtain⟨n,rfl⟩:∃n:Nat,m=n:=⟨m.toNat,by omega⟩
   obtain⟨r,hr⟩:=markText_ex n ByteArray.empty (by have:ByteArray.empty.size=0:=rfl;omega)
   refine⟨r,EvQ.run (fun k=>laws_markText_run k n) ?_⟩
   simp only[laws_markText,hm,decide_false,cond_false]
   exact EvL.ev hr
 unfold mtext
 rw[dif_pos hex]
 exact hex.choose_spec
def szM_StringS(x:List ByteArray):Nat:=x.length+(x.map fun y=>y.size).sum
theorem eqStringS_ev(x:(List ByteArray))(hx:(szM_StringS x)≤1073741824):Ev (fun k=>c_laws_eqStringS k (x,x)) true:=by
 refine EvQ.run (fun k=>laws_eqStringS_run k x x) ?_
 simp only[laws_eqStringS]
 have hx0:=hx
 simp only[szM_StringS]at hx
 simp only[bne_self_eq_false,cond_false]
 have hl:laws_eqStringS_l1=eqL (fun _ p=>some (eqS p.1 p.2)):=rfl
 rw[hl]
 exact eqL_ev (fun y _=>by simp only[eqS_refl];exact EvQ.const _) (by omega)
theorem eqQuota_ev(x:DQuota):Ev (fun k=>c_laws_eqQuota k (x,x)) true:=by
 refine EvQ.run (fun k=>laws_eqQuota_run k x x) ?_
 simp only[laws_eqQuota]
 simp only[bne_self_eq_false,eqS_refl,Bool.not_true,cond_false]
 exact EvQ.const _
theorem eqQuotaS_ev(x:(List DQuota))(hx:x.length≤1073741824):Ev (fun k=>c_laws_eqQuotaS k (x,x)) true:=by
 refine EvQ.run (fun k=>laws_eqQuotaS_run k x x) ?_
 simp only[laws_eqQuotaS]
 simp only[bne_self_eq_false,cond_false]
 have hl:laws_eqQuotaS_l1=eqL c_laws_eqQuota:=rfl
 rw[hl]
 exact eqL_ev (fun y hy=>eqQuota_ev y) (by omega)
theorem eqIntS_ev(x:(List Int))(hx:x.length≤1073741824):Ev (fun k=>c_laws_eqIntS k (x,x)) true:=by
 refine EvQ.run (fun k=>laws_eqIntS_run k x x) ?_
 simp only[laws_eqIntS]
 simp only[bne_self_eq_false,cond_false]
 have hl:laws_eqIntS_l1=eqL (fun _ p=>some (p.1==p.2)):=rfl
 rw[hl]
 exact eqL_ev (fun y _=>by simp only[beq_self_eq_true];exact EvQ.const _) (by omega)
theorem eqAclEntry_ev(x:DAclEntry):Ev (fun k=>c_laws_eqAclEntry k (x,x)) true:=by
 refine EvQ.run (fun k=>laws_eqAclEntry_run k x x) ?_
 simp only[laws_eqAclEntry]
 simp only[bne_self_eq_false,eqS_refl,Bool.not_true,cond_false]
 exact EvQ.const _
theorem eqAclEntryS_ev(x:(List DAclEntry))(hx:x.length≤1073741824):Ev (fun k=>c_laws_eqAclEntryS k (x,x)) true:=by
 refine EvQ.run (fun k=>laws_eqAclEntryS_run k x x) ?_
 simp only[laws_eqAclEntryS]
 simp only[bne_self_eq_false,cond_false]
 have hl:laws_eqAclEntryS_l1=eqL c_laws_eqAclEntry:=rfl
 rw[hl]
 exact eqL_ev (fun y hy=>eqAclEntry_ev y) (by omega)
def szM_Inode(x:DInode):Nat:=x.2.2.2.2.2.2.2.1.length+x.2.2.2.2.2.2.2.2.1.length+x.2.2.2.2.2.2.2.2.2.length
theorem eqInode_ev(x:DInode)(hx:(szM_Inode x)≤1073741824):Ev (fun k=>c_laws_eqInode k (x,x)) true:=by
 refine EvQ.run (fun k=>laws_eqInode_run k x x) ?_
 simp only[laws_eqInode]
 simp only[szM_Inode]at hx
 simp only[bne_self_eq_false,eqS_refl,Bool.not_true,cond_false]
 refine EvQ.bind (eqIntS_ev x.2.2.2.2.2.2.2.1 (by omega)) ?_
 simp only[Bool.not_true,cond_false]
 refine EvQ.bind (eqAclEntryS_ev x.2.2.2.2.2.2.2.2.1 (by omega)) ?_
 simp only[Bool.not_true,cond_false]
 refine EvQ.bind (eqAclEntryS_ev x.2.2.2.2.2.2.2.2.2 (by omega)) ?_
 simp only[Bool.not_true,cond_false]
 exact EvQ.const _
def szM_InodeS(x:List DInode):Nat:=x.length+(x.map szM_Inode).sum
theorem eqInodeS_ev(x:(List DInode))(hx:(szM_InodeS x)≤1073741824):Ev (fun k=>c_laws_eqInodeS k (x,x)) true:=by
 refine EvQ.run (fun k=>laws_eqInodeS_run k x x) ?_
 simp only[laws_eqInodeS]
 have hx0:=hx
 simp only[szM_InodeS]at hx
 simp only[bne_self_eq_false,cond_false]
 have hl:laws_eqInodeS_l1=eqL c_laws_eqInode:=rfl
 rw[hl]
 exact eqL_ev (fun y hy=>eqInode_ev y (by have:=le_sum_map szM_Inode hy;omega)) (by omega)
def szM_FS(x:DFS):Nat:=x.2.1.length+(szM_InodeS x.2.2.1)+(szM_StringS x.2.2.2)
theorem eqFS_ev(x:DFS)(hx:(szM_FS x)≤1073741824):Ev (fun k=>c_laws_eqFS k (x,x)) true:=by
 refine EvQ.run (fun k=>laws_eqFS_run k x x) ?_
 simp only[laws_eqFS]
 simp only[szM_FS]at hx
 simp only[bne_self_eq_false,eqS_refl,Bool.not_true,cond_false]
 refine EvQ.bind (eqQuotaS_ev x.2.1 (by omega)) ?_
 simp only[Bool.not_true,cond_false]
 refine EvQ.bind (eqInodeS_ev x.2.2.1 (by omega)) ?_
 simp only[Bool.not_true,cond_false]
 refine EvQ.bind (eqStringS_ev x.2.2.2 (by omega)) ?_
 simp only[Bool.not_true,cond_false]
 exact EvQ.const _
noncomputable def mkStringS(_:ByteArray)(m:Int):ByteArray:=mtext (m)
theorem markStringS_ev(l0:List ByteArray)(m0:Int)(h0:0≤m0)(h1:m0+1*l0.length<4611686018427387900):Ev (fun k=>c_laws_markStringS k (l0,m0)) (m0+1*l0.length,markF mkStringS 1 l0 m0):=by
 refine EvQ.run (fun k=>laws_markStringS_run k l0 m0) ?_
 simp only[laws_markStringS]
 refine EvL.ev ?_
 refine markL_ev (L:=laws_markStringS_l1) mkStringS 1 l0 m0 (fun a b=>(a,b)) ?_ ?_
 ·intro i l x hl hx hi
  have hil:i<l.length:=by omega
  have hM:0≤m0+1*(i:Int)∧m0+1*(i:Int)+1<4611686018427387904:=by omega
  have hM2:m0+1*((i+1:Nat):Int)=(m0+1*(i:Int))+1:=by omega
  simp only[hM2]
  generalize hMd:m0+1*(i:Int)=M at*
  have w1:wrapK .i64 (M+1)=M+1:=wrap_i64 (by omega) (by omega)
  simp only[EvS,laws_markStringS_l1,Int.toNat_natCast,hx,Option.bind_some,Int.natCast_nonneg,if_true,Int.ofNat_lt,hil,decide_true,cond_true,List.length_set,List.getElem?_set_self hil,List.set_set,wrap_succ hil (by omega),mkStringS,w1]
  refine EvQ.bindS (markText_ev _ (by omega) (by omega)) ?_
  try simp only[Int.toNat_natCast,hx,Option.bind_some,Int.natCast_nonneg,if_true,Int.ofNat_lt,hil,decide_true,cond_true,List.length_set,List.getElem?_set_self hil,List.set_set,w1]
  exact EvQ.const _
 ·intro l hl
  refine EvL.stop ?_
  simp only[laws_markStringS_l1,hl,Int.ofNat_lt,Nat.lt_irrefl,decide_false,cond_false]
  exact EvQ.const _
theorem szStringS_ev(x:(List ByteArray))(hx:okD ((.list false .str)) x){left:Int}(h0:0≤left)(h1:left≤1048576):Ev (fun k=>c_laws_szStringS k (x,left)) (szR (szM_StringS x) left):=by
 refine EvQ.run (fun k=>laws_szStringS_run k x left) ?_
 simp only[laws_szStringS]
 have b0:x.length≤9223372036854775807:=hx.1
 have e0:wrapK .i64 (left-(x.length:Int))=left-x.length:=wrap_i64 (by omega) (by omega)
 simp only[e0]
 by_cases c0:left-(x.length:Int)<0
 ·simp only[c0,decide_true,cond_true];exact⟨0,fun k _=>by rw[szR,if_neg (by simp only[szM_StringS];omega)]⟩
 simp only[c0,decide_false,cond_false]
 have hl2:laws_szStringS_l1=szL szStrC:=by funext k self d;rw[←szStr_eq k self d];rfl
 rw[hl2]
 have:=szL_ev (c:=szStrC) (sz:=fun(y:ByteArray)=>y.size) (l:=x) (fun y hy l h0 h1=>szStr_ev y (hx.2 y hy) h0 h1) (by omega) (left:=left-x.length) (by omega) (by omega)
 rw[szR_add (by omega)]at this
 exact this
theorem toStringS_ev(x:(List ByteArray))(hx:(szM_StringS x)≤1073741824):Ev (fun k=>c_laws_toStringS k x) x:=by
 refine EvQ.run (fun k=>laws_toStringS_run k x) ?_
 simp only[laws_toStringS]
 have hx0:=hx
 simp only[szM_StringS]at hx
 simp only[if_pos (show(0:Int)≤(x.length:Int)by omega),if_pos (Int.le_refl (x.length:Int)),if_pos (show(x.length:Int)*16≤(capBytes:Int)by simp only[capBytes];omega)]
 have hl:laws_toStringS_l1=copyL fun _ y=>some y:=(show laws_toStringS_l1=copyL0 from rfl).trans copyL0_eq
 rw[hl]
 exact copyL_ev (fun y _=>EvQ.const _) (by omega) _ (by simp)
noncomputable def mkQuotaS(_:DQuota)(m:Int):DQuota:=(m,m+1)
theorem markQuotaS_ev(l0:List DQuota)(m0:Int)(h0:0≤m0)(h1:m0+2*l0.length<4611686018427387900):Ev (fun k=>c_laws_markQuotaS k (l0,m0)) (m0+2*l0.length,markF mkQuotaS 2 l0 m0):=by
 refine EvQ.run (fun k=>laws_markQuotaS_run k l0 m0) ?_
 simp only[laws_markQuotaS]
 refine EvL.ev ?_
 refine markL_ev (L:=laws_markQuotaS_l1) mkQuotaS 2 l0 m0 (fun a b=>(a,b)) ?_ ?_
 ·intro i l x hl hx hi
  have hil:i<l.length:=by omega
  have hM:0≤m0+2*(i:Int)∧m0+2*(i:Int)+2<4611686018427387904:=by omega
  have hM2:m0+2*((i+1:Nat):Int)=(m0+2*(i:Int))+1+1:=by omega
  simp only[hM2]
  generalize hMd:m0+2*(i:Int)=M at*
  have w1:wrapK .i64 (M+1)=M+1:=wrap_i64 (by omega) (by omega)
  have w2:wrapK .i64 (M+1+1)=M+1+1:=wrap_i64 (by omega) (by omega)
  simp only[EvS,laws_markQuotaS_l1,Int.toNat_natCast,hx,Option.bind_some,Int.natCast_nonneg,if_true,Int.ofNat_lt,hil,decide_true,cond_true,List.length_set,List.getElem?_set_self hil,List.set_set,wrap_succ hil (by omega),mkQuotaS,w1,w2]
  exact EvQ.const _
 ·intro l hl
  refine EvL.stop ?_
  simp only[laws_markQuotaS_l1,hl,Int.ofNat_lt,Nat.lt_irrefl,decide_false,cond_false]
  exact EvQ.const _
noncomputable def mkIntS(_:Int)(m:Int):Int:=m
theorem markIntS_ev(l0:List Int)(m0:Int)(h0:0≤m0)(h1:m0+1*l0.length<4611686018427387900):Ev (fun k=>c_laws_markIntS k (l0,m0)) (m0+1*l0.length,markF mkIntS 1 l0 m0):=by
 refine EvQ.run (fun k=>laws_markIntS_run k l0 m0) ?_
 simp only[laws_markIntS]
 refine EvL.ev ?_
 refine markL_ev (L:=laws_markIntS_l1) mkIntS 1 l0 m0 (fun a b=>(a,b)) ?_ ?_
 ·intro i l x hl hx hi
  have hil:i<l.length:=by omega
  have hM:0≤m0+1*(i:Int)∧m0+1*(i:Int)+1<4611686018427387904:=by omega
  have hM2:m0+1*((i+1:Nat):Int)=(m0+1*(i:Int))+1:=by omega
  simp only[hM2]
  generalize hMd:m0+1*(i:Int)=M at*
  have w1:wrapK .i64 (M+1)=M+1:=wrap_i64 (by omega) (by omega)
  simp only[EvS,laws_markIntS_l1,Int.toNat_natCast,hx,Option.bind_some,Int.natCast_nonneg,if_true,Int.ofNat_lt,hil,decide_true,cond_true,List.length_set,List.getElem?_set_self hil,List.set_set,wrap_succ hil (by omega),mkIntS,w1]
  exact EvQ.const _
 ·intro l hl
  refine EvL.stop ?_
  simp only[laws_markIntS_l1,hl,Int.ofNat_lt,Nat.lt_irrefl,decide_false,cond_false]
  exact EvQ.const _
noncomputable def mkAclEntryS(_:DAclEntry)(m:Int):DAclEntry:=(m,m+1,m+1+1)
theorem markAclEntryS_ev(l0:List DAclEntry)(m0:Int)(h0:0≤m0)(h1:m0+3*l0.length<4611686018427387900):Ev (fun k=>c_laws_markAclEntryS k (l0,m0)) (m0+3*l0.length,markF mkAclEntryS 3 l0 m0):=by
 refine EvQ.run (fun k=>laws_markAclEntryS_run k l0 m0) ?_
 simp only[laws_markAclEntryS]
 refine EvL.ev ?_
 refine markL_ev (L:=laws_markAclEntryS_l1) mkAclEntryS 3 l0 m0 (fun a b=>(a,b)) ?_ ?_
 ·intro i l x hl hx hi
  have hil:i<l.length:=by omega
  have hM:0≤m0+3*(i:Int)∧m0+3*(i:Int)+3<4611686018427387904:=by omega
  have hM2:m0+3*((i+1:Nat):Int)=(m0+3*(i:Int))+1+1+1:=by omega
  simp only[hM2]
  generalize hMd:m0+3*(i:Int)=M at*
  have w1:wrapK .i64 (M+1)=M+1:=wrap_i64 (by omega) (by omega)
  have w2:wrapK .i64 (M+1+1)=M+1+1:=wrap_i64 (by omega) (by omega)
  have w3:wrapK .i64 (M+1+1+1)=M+1+1+1:=wrap_i64 (by omega) (by omega)
  simp only[EvS,laws_markAclEntryS_l1,Int.toNat_natCast,hx,Option.bind_some,Int.natCast_nonneg,if_true,Int.ofNat_lt,hil,decide_true,cond_true,List.length_set,List.getElem?_set_self hil,List.set_set,wrap_succ hil (by omega),mkAclEntryS,w1,w2,w3]
  exact EvQ.const _
 ·intro l hl
  refine EvL.stop ?_
  simp only[laws_markAclEntryS_l1,hl,Int.ofNat_lt,Nat.lt_irrefl,decide_false,cond_false]
  exact EvQ.const _
theorem heldStringS_ev(l0:List ByteArray)(m0:Int)(h0:0≤m0)(h1:m0+1*l0.length<4611686018427387900):Ev (fun k=>c_laws_heldStringS k (markF mkStringS 1 l0 m0,m0)) (m0+1*l0.length):=by
 refine EvQ.run (fun k=>laws_heldStringS_run k (markF mkStringS 1 l0 m0) m0) ?_
 simp only[laws_heldStringS]
 refine EvL.ev ?_
 have hlen:=markF_length mkStringS 1 l0 m0
 refine heldL_ev (L:=laws_heldStringS_l1) (fun m i=>(markF mkStringS 1 l0 m0,m,i)) mkStringS 1 l0 m0 ?_ ?_
 ·intro i x hx hi
  have hil:i<(markF mkStringS 1 l0 m0).length:=by omega
  generalize hG:markF mkStringS 1 l0 m0=G at*
  have hM:0≤m0+1*(i:Int)∧m0+1*(i:Int)+1<4611686018427387904:=by omega
  have hM2:m0+1*((i+1:Nat):Int)=(m0+1*(i:Int))+1:=by omega
  simp only[hM2]
  generalize hMd:m0+1*(i:Int)=M at*
  have w1:wrapK .i64 (M+1)=M+1:=wrap_i64 (by omega) (by omega)
  simp only[mkStringS]at hx
  simp only[EvS,laws_heldStringS_l1,Int.toNat_natCast,hx,Option.bind_some,Int.natCast_nonneg,if_true,Int.ofNat_lt,hil,decide_true,cond_true,bne_self_eq_false,cond_false,wrap_succ hil (by omega),w1]
  refine EvQ.bindS (markText_ev _ (by omega) (by omega)) ?_
  try simp only[Int.toNat_natCast,hx,Option.bind_some,Int.natCast_nonneg,if_true,bne_self_eq_false,eqS_refl,Bool.not_true,cond_false,w1]
  exact EvQ.const _
 ·refine EvL.stop ?_
  simp only[laws_heldStringS_l1,hlen,Int.ofNat_lt,Nat.lt_irrefl,decide_false,cond_false]
  exact EvQ.const _
theorem heldQuotaS_ev(l0:List DQuota)(m0:Int)(h0:0≤m0)(h1:m0+2*l0.length<4611686018427387900):Ev (fun k=>c_laws_heldQuotaS k (markF mkQuotaS 2 l0 m0,m0)) (m0+2*l0.length):=by
 refine EvQ.run (fun k=>laws_heldQuotaS_run k (markF mkQuotaS 2 l0 m0) m0) ?_
 simp only[laws_heldQuotaS]
 refine EvL.ev ?_
 have hlen:=markF_length mkQuotaS 2 l0 m0
 refine heldL_ev (L:=laws_heldQuotaS_l1) (fun m i=>(markF mkQuotaS 2 l0 m0,m,i)) mkQuotaS 2 l0 m0 ?_ ?_
 ·intro i x hx hi
  have hil:i<(markF mkQuotaS 2 l0 m0).length:=by omega
  generalize hG:markF mkQuotaS 2 l0 m0=G at*
  have hM:0≤m0+2*(i:Int)∧m0+2*(i:Int)+2<4611686018427387904:=by omega
  have hM2:m0+2*((i+1:Nat):Int)=(m0+2*(i:Int))+1+1:=by omega
  simp only[hM2]
  generalize hMd:m0+2*(i:Int)=M at*
  have w1:wrapK .i64 (M+1)=M+1:=wrap_i64 (by omega) (by omega)
  have w2:wrapK .i64 (M+1+1)=M+1+1:=wrap_i64 (by omega) (by omega)
  simp only[mkQuotaS]at hx
  simp only[EvS,laws_heldQuotaS_l1,Int.toNat_natCast,hx,Option.bind_some,Int.natCast_nonneg,if_true,Int.ofNat_lt,hil,decide_true,cond_true,bne_self_eq_false,cond_false,wrap_succ hil (by omega),w1,w2]
  exact EvQ.const _
 ·refine EvL.stop ?_
  simp only[laws_heldQuotaS_l1,hlen,Int.ofNat_lt,Nat.lt_irrefl,decide_false,cond_false]
  exact EvQ.const _
theorem heldIntS_ev(l0:List Int)(m0:Int)(h0:0≤m0)(h1:m0+1*l0.length<4611686018427387900):Ev (fun k=>c_laws_heldIntS k (markF mkIntS 1 l0 m0,m0)) (m0+1*l0.length):=by
 refine EvQ.run (fun k=>laws_heldIntS_run k (markF mkIntS 1 l0 m0) m0) ?_
 simp only[laws_heldIntS]
 refine EvL.ev ?_
 have hlen:=markF_length mkIntS 1 l0 m0
 refine heldL_ev (L:=laws_heldIntS_l1) (fun m i=>(markF mkIntS 1 l0 m0,m,i)) mkIntS 1 l0 m0 ?_ ?_
 ·intro i x hx hi
  have hil:i<(markF mkIntS 1 l0 m0).length:=by omega
  generalize hG:markF mkIntS 1 l0 m0=G at*
  have hM:0≤m0+1*(i:Int)∧m0+1*(i:Int)+1<4611686018427387904:=by omega
  have hM2:m0+1*((i+1:Nat):Int)=(m0+1*(i:Int))+1:=by omega
  simp only[hM2]
  generalize hMd:m0+1*(i:Int)=M at*
  have w1:wrapK .i64 (M+1)=M+1:=wrap_i64 (by omega) (by omega)
  simp only[mkIntS]at hx
  simp only[EvS,laws_heldIntS_l1,Int.toNat_natCast,hx,Option.bind_some,Int.natCast_nonneg,if_true,Int.ofNat_lt,hil,decide_true,cond_true,bne_self_eq_false,cond_false,wrap_succ hil (by omega),w1]
  exact EvQ.const _
 ·refine EvL.stop ?_
  simp only[laws_heldIntS_l1,hlen,Int.ofNat_lt,Nat.lt_irrefl,decide_false,cond_false]
  exact EvQ.const _
theorem heldAclEntryS_ev(l0:List DAclEntry)(m0:Int)(h0:0≤m0)(h1:m0+3*l0.length<4611686018427387900):Ev (fun k=>c_laws_heldAclEntryS k (markF mkAclEntryS 3 l0 m0,m0)) (m0+3*l0.length):=by
 refine EvQ.run (fun k=>laws_heldAclEntryS_run k (markF mkAclEntryS 3 l0 m0) m0) ?_
 simp only[laws_heldAclEntryS]
 refine EvL.ev ?_
 have hlen:=markF_length mkAclEntryS 3 l0 m0
 refine heldL_ev (L:=laws_heldAclEntryS_l1) (fun m i=>(markF mkAclEntryS 3 l0 m0,m,i)) mkAclEntryS 3 l0 m0 ?_ ?_
 ·intro i x hx hi
  have hil:i<(markF mkAclEntryS 3 l0 m0).length:=by omega
  generalize hG:markF mkAclEntryS 3 l0 m0=G at*
  have hM:0≤m0+3*(i:Int)∧m0+3*(i:Int)+3<4611686018427387904:=by omega
  have hM2:m0+3*((i+1:Nat):Int)=(m0+3*(i:Int))+1+1+1:=by omega
  simp only[hM2]
  generalize hMd:m0+3*(i:Int)=M at*
  have w1:wrapK .i64 (M+1)=M+1:=wrap_i64 (by omega) (by omega)
  have w2:wrapK .i64 (M+1+1)=M+1+1:=wrap_i64 (by omega) (by omega)
  have w3:wrapK .i64 (M+1+1+1)=M+1+1+1:=wrap_i64 (by omega) (by omega)
  simp only[mkAclEntryS]at hx
  simp only[EvS,laws_heldAclEntryS_l1,Int.toNat_natCast,hx,Option.bind_some,Int.natCast_nonneg,if_true,Int.ofNat_lt,hil,decide_true,cond_true,bne_self_eq_false,cond_false,wrap_succ hil (by omega),w1,w2,w3]
  exact EvQ.const _
 ·refine EvL.stop ?_
  simp only[laws_heldAclEntryS_l1,hlen,Int.ofNat_lt,Nat.lt_irrefl,decide_false,cond_false]
  exact EvQ.const _
end Go.Proofs.Ytnaipddflhjmfaa

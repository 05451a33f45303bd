/- The tables, the residual functions and lemmas of this seat: parts of the proof of the law; conditions: those that each names. -/
import Derived.Test.YtmmgfgfkkpeedaaGreatDoorRes
set_option linter.unusedVariables false
set_option linter.unusedSimpArgs false
set_option maxRecDepth 100000
namespace Go.Proofs.YtmmgfgfkkpeedaaGreatDoor
open Go.Eng
theorem markText_ex:∀(n:Nat) (s:ByteArray),s.size+n<9223372036854775000→∃r,EvL laws_markText_l1 ((n:Int),s) r:=by
 intro n
 induction n using Nat.strongRecOn with
 |_ n ih=>
  intro s hs
  by_cases h0:n=0
  ·subst h0
   refine⟨(⟨#[109]⟩:ByteArray)++s,EvL.stop ?_⟩
   have h1:(⟨#[109]⟩:ByteArray).size+s.size≤9223372036854775807:=by
    have:(⟨#[109]⟩:ByteArray).size=1:=rfl
    omega
   simp only[laws_markText_l1,Int.ofNat_zero,Int.lt_irrefl,decide_false,cond_false,if_pos h1]
   exact EvQ.const _
  ·have hc:(ofBytes [(wrapK .u8 (wrapK .i64 ((48:Int)+((n:Int).tmod (10:Int)))))]).size=1:=rfl
   obtain⟨r,hr⟩:=ih (n / 10) (by omega) (ofBytes [(wrapK .u8 (wrapK .i64 ((48:Int)+((n:Int).tmod (10:Int)))))]++s) (by rw[ByteArray.size_append,hc];omega)
   refine⟨r,EvL.step (d':=(((n / 10:Nat):Int),ofBytes [(wrapK .u8 (wrapK .i64 ((48:Int)+((n:Int).tmod (10:Int)))))]++s)) ?_ hr⟩
   have h1:(0:Int)<(n:Int):=by omega
   have h2:wrapK .i64 ((n:Int).tdiv 10)=((n / 10:Nat):Int):=by
    have e:(n:Int).tdiv 10=((n / 10:Nat):Int):=by rw[Int.tdiv_eq_ediv_of_nonneg (by omega)];omega
    rw[e];exact wrap_i64 (by omega) (by omega)
   have h3:(ofBytes [(wrapK .u8 (wrapK .i64 ((48:Int)+((n:Int).tmod (10:Int)))))]).size+s.size≤9223372036854775807:=by rw[hc];omega
   have h4:(10:Int)≠0:=by decide
   simp only[EvS,laws_markText_l1,h1,decide_true,cond_true,if_pos h4,if_pos h3,h2]
   exact EvQ.const _
open Classical in
noncomputable def mtext(m:Int):ByteArray:=if h:∃s,Ev (fun k=>c_laws_markText k m) s then h.choose else ByteArray.empty
theorem markText_ev(m:Int)(h0:0≤m)(h1:m<4611686018427387904):Ev (fun k=>c_laws_markText k m) (mtext m):=by
 have hex:∃s,Ev (fun k=>c_laws_markText k m) s:=by
  by_cases hm:m≤0
  ·refine⟨(⟨#[109,48]⟩:ByteArray),EvQ.run (fun k=>laws_markText_run k m) ?_⟩
   simp only[laws_markText,hm,decide_true,cond_true]
   exact EvQ.const _
  ·obtain⟨n,rfl⟩:∃n:Nat,m=n:=⟨m.toNat,by omega⟩
   obtain⟨r,hr⟩:=markText_ex n ByteArray.empty (by have:ByteArray.empty.size=0:=rfl;omega)
   refine⟨r,EvQ.run (fun k=>laws_markText_run k n) ?_⟩
   simp only[laws_markText,hm,decide_false,cond_false]
   exact EvL.ev hr
 unfold mtext
 rw[dif_pos hex]
 exact hex.choose_spec
theorem eqAclEntry_ev(x:DAclEntry):Ev (fun k=>c_laws_eqAclEntry k (x,x)) true:=by
 refine EvQ.run (fun k=>laws_eqAclEntry_run k x x) ?_
 simp only[laws_eqAclEntry]
 simp only[bne_self_eq_false,eqS_refl,Bool.not_true,cond_false]
 exact EvQ.const _
theorem eqAclEntryS_ev(x:(List DAclEntry))(hx:x.length≤1073741824):Ev (fun k=>c_laws_eqAclEntryS k (x,x)) true:=by
 refine EvQ.run (fun k=>laws_eqAclEntryS_run k x x) ?_
 simp only[laws_eqAclEntryS]
 simp only[bne_self_eq_false,cond_false]
 have hl:laws_eqAclEntryS_l1=eqL c_laws_eqAclEntry:=rfl
 rw[hl]
 exact eqL_ev (fun y hy=>eqAclEntry_ev y) (by omega)
def szM_ArchiveItem(x:DArchiveItem):Nat:=x.2.1.size+x.2.2.2.1.length+x.2.2.2.2.size
theorem eqArchiveItem_ev(x:DArchiveItem)(hx:(szM_ArchiveItem x)≤1073741824):Ev (fun k=>c_laws_eqArchiveItem k (x,x)) true:=by
 refine EvQ.run (fun k=>laws_eqArchiveItem_run k x x) ?_
 simp only[laws_eqArchiveItem]
 simp only[szM_ArchiveItem]at hx
 simp only[bne_self_eq_false,eqS_refl,Bool.not_true,cond_false]
 refine EvQ.bind (eqAclEntryS_ev x.2.2.2.1 (by omega)) ?_
 simp only[Bool.not_true,cond_false]
 exact EvQ.const _
def szM_ArchiveItemS(x:List DArchiveItem):Nat:=x.length+(x.map szM_ArchiveItem).sum
theorem eqArchiveItemS_ev(x:(List DArchiveItem))(hx:(szM_ArchiveItemS x)≤1073741824):Ev (fun k=>c_laws_eqArchiveItemS k (x,x)) true:=by
 refine EvQ.run (fun k=>laws_eqArchiveItemS_run k x x) ?_
 simp only[laws_eqArchiveItemS]
 have hx0:=hx
 simp only[szM_ArchiveItemS]at hx
 simp only[bne_self_eq_false,cond_false]
 have hl:laws_eqArchiveItemS_l1=eqL c_laws_eqArchiveItem:=rfl
 rw[hl]
 exact eqL_ev (fun y hy=>eqArchiveItem_ev y (by have:=le_sum_map szM_ArchiveItem hy;omega)) (by omega)
noncomputable def mkAclEntryS(_:DAclEntry)(m:Int):DAclEntry:=(m,m+1,m+1+1)
theorem markAclEntryS_ev(l0:List DAclEntry)(m0:Int)(h0:0≤m0)(h1:m0+3*l0.length<4611686018427387900):Ev (fun k=>c_laws_markAclEntryS k (l0,m0)) (m0+3*l0.length,markF mkAclEntryS 3 l0 m0):=by
 refine EvQ.run (fun k=>laws_markAclEntryS_run k l0 m0) ?_
 simp only[laws_markAclEntryS]
 refine EvL.ev ?_
 refine markL_ev (L:=laws_markAclEntryS_l1) mkAclEntryS 3 l0 m0 (fun a b=>(a,b)) ?_ ?_
 ·intro i l x hl hx hi
  have hil:i<l.length:=by omega
  have hM:0≤m0+3*(i:Int)∧m0+3*(i:Int)+3<4611686018427387904:=by omega
  have hM2:m0+3*((i+1:Nat):Int)=(m0+3*(i:Int))+1+1+1:=by omega
  simp only[hM2]
  generalize hMd:m0+3*(i:Int)=M at*
  have w1:wrapK .i64 (M+1)=M+1:=wrap_i64 (by omega) (by omega)
  have w2:wrapK .i64 (M+1+1)=M+1+1:=wrap_i64 (by omega) (by omega)
  have w3:wrapK .i64 (M+1+1+1)=M+1+1+1:=wrap_i64 (by omega) (by omega)
  simp only[EvS,laws_markAclEntryS_l1,Int.toNat_natCast,hx,Option.bind_some,Int.natCast_nonneg,if_true,Int.ofNat_lt,hil,decide_true,cond_true,List.length_set,List.getElem?_set_self hil,List.set_set,wrap_succ hil (by omega),mkAclEntryS,w1,w2,w3]
  exact EvQ.const _
 ·intro l hl
  refine EvL.stop ?_
  simp only[laws_markAclEntryS_l1,hl,Int.ofNat_lt,Nat.lt_irrefl,decide_false,cond_false]
  exact EvQ.const _
theorem heldAclEntryS_ev(l0:List DAclEntry)(m0:Int)(h0:0≤m0)(h1:m0+3*l0.length<4611686018427387900):Ev (fun k=>c_laws_heldAclEntryS k (markF mkAclEntryS 3 l0 m0,m0)) (m0+3*l0.length):=by
 refine EvQ.run (fun k=>laws_heldAclEntryS_run k (markF mkAclEntryS 3 l0 m0) m0) ?_
 simp only[laws_heldAclEntryS]
 refine EvL.ev ?_
 have hlen:=markF_length mkAclEntryS 3 l0 m0
 refine heldL_ev (L:=laws_heldAclEntryS_l1) (fun m i=>(markF mkAclEntryS 3 l0 m0,m,i)) mkAclEntryS 3 l0 m0 ?_ ?_
 ·intro i x hx hi
  have hil:i<(markF mkAclEntryS 3 l0 m0).length:=by omega
  generalize hG:markF mkAclEntryS 3 l0 m0=G at*
  have hM:0≤m0+3*(i:Int)∧m0+3*(i:Int)+3<4611686018427387904:=by omega
  have hM2:m0+3*((i+1:Nat):Int)=(m0+3*(i:Int))+1+1+1:=by omega
  simp only[hM2]
  generalize hMd:m0+3*(i:Int)=M at*
  have w1:wrapK .i64 (M+1)=M+1:=wrap_i64 (by omega) (by omega)
  have w2:wrapK .i64 (M+1+1)=M+1+1:=wrap_i64 (by omega) (by omega)
  have w3:wrapK .i64 (M+1+1+1)=M+1+1+1:=wrap_i64 (by omega) (by omega)
  simp only[mkAclEntryS]at hx
  simp only[EvS,laws_heldAclEntryS_l1,Int.toNat_natCast,hx,Option.bind_some,Int.natCast_nonneg,if_true,Int.ofNat_lt,hil,decide_true,cond_true,bne_self_eq_false,cond_false,wrap_succ hil (by omega),w1,w2,w3]
  exact EvQ.const _
 ·refine EvL.stop ?_
  simp only[laws_heldAclEntryS_l1,hlen,Int.ofNat_lt,Nat.lt_irrefl,decide_false,cond_false]
  exact EvQ.const _
end Go.Proofs.YtmmgfgfkkpeedaaGreatDoor

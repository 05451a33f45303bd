/- The tables, the residual functions and lemmas of this seat: parts of the proof of the law; conditions: those that each names. -/
import Derived.Test.YtmmgfgfkkpeedaaGreatDca
set_option linter.unusedVariables false
set_option linter.unusedSimpArgs false
set_option maxRecDepth 100000
namespace Go.Proofs.YtmmgfgfkkpeedaaGreat
open Go.Eng
open Classical in
noncomputable def packIX(n:PInode):ByteArray:=if inodeP n then packI n else⟨#[]⟩
theorem impl_PackInodeX_ev(n:PInode)(hs:inoSmall n):Ev (fun k=>c_impl_PackInode k n) (packIX n):=by
 by_cases h:inodeP n
 ·rw[packIX,if_pos h];exact impl_PackInode_ev h hs
 ·rw[packIX,if_neg h]
  obtain⟨b,e1,e2⟩:=impl_IsInode_say n hs
  have hb:b=false:=by
   cases b with
   |false=>rfl
   |true=>exact absurd (e2.1 rfl) h
  subst hb
  refine EvQ.run (fun k=>impl_PackInode_run k _) ?_
  simp only[impl_PackInode]
  refine EvQ.bind e1 ?_
  simp only[Bool.not_false,cond_true]
  exact EvQ.const _
theorem spec_PackInodeX_ev(n:PInode)(hs:inoSmall n):Ev (fun k=>c_spec_PackInode k n) (packIX n):=by
 by_cases h:inodeP n
 ·rw[packIX,if_pos h];exact spec_PackInode_ev h hs
 ·rw[packIX,if_neg h]
  obtain⟨b,e1,e2⟩:=spec_IsInode_say n hs
  have hb:b=false:=by
   cases b with
   |false=>rfl
   |true=>exact absurd (e2.1 rfl) h
  subst hb
  refine EvQ.run (fun k=>spec_PackInode_run k _) ?_
  simp only[spec_PackInode]
  refine EvQ.bind e1 ?_
  simp only[Bool.not_false,cond_true]
  exact EvQ.const _
theorem putB_full{n:Int}{w:Nat}(h0:0≤n)(h1:n<256 ^ w):(putB n w).size=w:=by
 rw[putB,if_pos ⟨h0,h1⟩,ofBytes_size,lowB_len]
theorem headB_full{n:PInode}(h:inodeP n):(headB n).size=13:=by
 have key:(0≤n.1∧n.1≤2)∧(0≤n.2.1∧n.2.1≤2047)∧(0≤n.2.2.1∧n.2.2.1≤3)∧(0≤n.2.2.2.1∧n.2.2.2.1≤3)∧(0≤n.2.2.2.2.1∧n.2.2.2.2.1≤1000)∧(0≤n.2.2.2.2.2.1∧n.2.2.2.2.2.1≤256)∧(0≤n.2.2.2.2.2.2.1∧n.2.2.2.2.2.2.1≤1000000000):=by
  rcases h with rfl|h
  ·simp[zeroI]
  ·obtain⟨h1,⟨a1,a2,a3,a4,a5,a6,_⟩,_⟩:=h
   exact⟨by omega,a1,a2,a3,a4,a5,a6⟩
 obtain⟨k1,k2,k3,k4,k5,k6,k7⟩:=key
 have h1:(putB n.1 1).size=1:=putB_full k1.1 (by show n.1<256;omega)
 have h2:(putB n.2.1 2).size=2:=putB_full k2.1 (by show n.2.1<65536;omega)
 have h3:(putB n.2.2.1 1).size=1:=putB_full k3.1 (by show n.2.2.1<256;omega)
 have h4:(putB n.2.2.2.1 1).size=1:=putB_full k4.1 (by show n.2.2.2.1<256;omega)
 have h5:(putB n.2.2.2.2.1 2).size=2:=putB_full k5.1 (by show n.2.2.2.2.1<65536;omega)
 have h6:(putB n.2.2.2.2.2.1 2).size=2:=putB_full k6.1 (by show n.2.2.2.2.2.1<65536;omega)
 have h7:(putB n.2.2.2.2.2.2.1 4).size=4:=putB_full k7.1 (by show n.2.2.2.2.2.2.1<4294967296;omega)
 simp only[headB,app_size,h1,h2,h3,h4,h5,h6,h7]
theorem inoS_full{n:PInode}(h:inodeP n):∀i,(inoS n i).size=13+2*i
 |0=>headB_full h
 |i+1=>by
  have h1:=inoS_full h i
  obtain⟨b1,b2⟩:=blkAt_ok h i
  have h2:(putB (blkAt n i+1) 2).size=2:=putB_full (by omega) (by show blkAt n i+1<65536;omega)
  simp only[inoS,app_size,h1,h2];omega
theorem ext_list(s:ByteArray)(a b:Nat):(s.extract a b).data.toList=(s.data.toList.take b).drop a:=by
 rw[ByteArray.data_extract,Array.toList_extract,List.extract_eq_take_drop,List.drop_take]
theorem extA{n:PInode}(h:inodeP n):(packI n).extract 29 48=packA (xAcl n)∧(packI n).extract 48 67=packA (xDef n):=by
 obtain⟨a1,a2⟩:=ino_acl h
 have h1:=packA_size a1.1
 have h2:=packA_size a2.1
 have h3:=inoS_full h 8
 constructor
 ·refine bext ?_
  rw[ext_list,packI,padB_list,append_list,append_list]
  rw[List.append_assoc,List.append_assoc,List.take_append,List.drop_append]
  simp[blen,h1,h2,h3]
 ·refine bext ?_
  rw[ext_list,packI,padB_list,append_list,append_list]
  simp[blen,h1,h2,h3,List.take_append,List.drop_append]
theorem aclP_nil:aclP []:=⟨by simp,(fun i e he=>by simp at he),.inl rfl⟩
theorem decA_packed:decA (packA [])=([],true):=by
 have h1:(packA []).size=19:=packA_size (by simp)
 have h2:byteN (packA []) 0=0:=packA_first (by simp)
 have h3:packX (decL (packA []) (byteN (packA []) 0))=packA []:=by rw[h2];exact if_pos aclP_nil
 rw[decA,if_pos ⟨h1,by omega,h3⟩,h2];rfl
theorem decA_false{s:ByteArray}(h:(decA s).2=false):(decA s).1=[]:=by
 unfold decA at h ⊢
 split at h
 ·cases h
 ·rename_i hn;rw[if_neg hn]
theorem decA_len(s:ByteArray):(decA s).1.length≤6:=by
 unfold decA
 split
 ·rename_i h;rw[decL_len];exact h.2.1
 ·exact Nat.zero_le _
def blkL(s:ByteArray):Nat→List Int
 |0=>[]
 |i+1=>if(i:Int)<needI (numB s 7 2:Int)then blkL s i++[(numB s (13+2*i) 2:Int)-1]else blkL s i
theorem blkL_len(s:ByteArray):∀i,(blkL s i).length≤i
 |0=>Nat.le_refl _
 |i+1=>by
  have:=blkL_len s i
  rw[blkL];split
  ·rw[List.length_append];show _+1≤_;omega
  ·omega
theorem blkL_stop(s:ByteArray){m:Nat}(h:needI (numB s 7 2:Int)≤m):∀j,blkL s (m+j)=blkL s m
 |0=>rfl
 |j+1=>by
  show blkL s (m+j+1)=_
  rw[blkL,if_neg (by omega),blkL_stop s h j]
noncomputable def ino(s:ByteArray):PInode:=((numB s 0 1:Int),(numB s 1 2:Int),(numB s 3 1:Int),(numB s 4 1:Int),(numB s 5 2:Int),(numB s 7 2:Int),(numB s 9 4:Int),blkL s 8,(decA (s.extract 29 48)).1,(decA (s.extract 48 67)).1)
theorem ino_blk(s:ByteArray):xBlk (ino s)=blkL s 8:=by rw[ino]
theorem ino_acl1(s:ByteArray):xAcl (ino s)=(decA (s.extract 29 48)).1:=by rw[ino]
theorem ino_acl2(s:ByteArray):xDef (ino s)=(decA (s.extract 48 67)).1:=by rw[ino]
theorem big_lt{n:Nat}(h:n≤100):n<big:=by unfold big;omega
theorem ino_small(s:ByteArray):inoSmall (ino s):=by
 have h1:=blkL_len s 8
 have h2:=decA_len (s.extract 29 48)
 have h3:=decA_len (s.extract 48 67)
 rw[←ino_blk]at h1
 rw[←ino_acl1]at h2
 rw[←ino_acl2]at h3
 exact⟨big_lt (Nat.le_trans h1 (by omega)),big_lt (Nat.le_trans h2 (by omega)),big_lt (Nat.le_trans h3 (by omega))⟩
open Classical in
noncomputable def decI(s:ByteArray):PInode×Bool:=if s.size=96∧packIX (ino s)=s then(ino s,true)else(zeroI,false)
theorem decI_ok{s:ByteArray}(h:(decI s).2=true):decI s=(ino s,true)∧inodeP (ino s):=by
 unfold decI at h ⊢
 split at h
 ·rename_i hc
  rw[if_pos hc]
  refine⟨rfl, ?_⟩
  apply Classical.byContradiction
  intro hn
  have:=hc.2
  rw[packIX,if_neg hn]at this
  have h2:=hc.1
  rw[←this]at h2
  exact absurd h2 (by decide)
 ·cases h
theorem decI_both{s:ByteArray}(h:s.size=96)(hp:packIX (ino s)=s):(decA (s.extract 29 48)).2=true∧(decA (s.extract 48 67)).2=true:=by
 have hP:inodeP (ino s):=by
  apply Classical.byContradiction
  intro hn
  rw[packIX,if_neg hn]at hp
  rw[←hp]at h
  exact absurd h (by decide)
 rw[packIX,if_pos hP]at hp
 obtain⟨e1,e2⟩:=extA hP
 rw[hp]at e1 e2
 constructor
 ·cases hq:(decA (s.extract 29 48)).2 with
  |true=>rfl
  |false=>
   have hx:xAcl (ino s)=[]:=by rw[ino_acl1];exact decA_false hq
   rw[e1,hx,decA_packed]at hq
   cases hq
 ·cases hq:(decA (s.extract 48 67)).2 with
  |true=>rfl
  |false=>
   have hx:xDef (ino s)=[]:=by rw[ino_acl2];exact decA_false hq
   rw[e2,hx,decA_packed]at hq
   cases hq
theorem getR_ok{s:ByteArray}{a w:Nat}(h:a+w≤s.size):getR s a w=((numB s a w:Int),true):=if_pos h
theorem numB_le(s:ByteArray)(a:Nat){w:Nat}(hw:w≤4):(numB s a w:Int)<4294967296:=by
 have h1:=numB_lt s a w
 have h2:256 ^ w≤256 ^ 4:=Nat.pow_le_pow_right (by omega) hw
 have h3:256 ^ 4=4294967296:=rfl
 omega
theorem unpI_fin{D:Type}(s:ByteArray)(h:s.size=96):EvQ (fun k (self:D→Option (PInode×Bool))=>(c_spec_UnpackAcl k (s.extract 29 48)).bind fun v2=>(c_spec_UnpackAcl k (s.extract 48 67)).bind fun v3=>
  (c_spec_PackInode k ((numB s 0 1:Int),(numB s 1 2:Int),(numB s 3 1:Int),(numB s 4 1:Int),(numB s 5 2:Int),(numB s 7 2:Int),(numB s 9 4:Int),blkL s 8,v2.1,v3.1)).bind fun v4=>
  (bif (eqS v4 (⟨#[]⟩:ByteArray))then some (((0:Int),(0:Int),(0:Int),(0:Int),(0:Int),(0:Int),(0:Int),([]:List Int),([]:List PAcl),([]:List PAcl)),false)else(c_spec_PackInode k ((numB s 0 1:Int),(numB s 1 2:Int),(numB s 3 1:Int),(numB s 4 1:Int),(numB s 5 2:Int),(numB s 7 2:Int),(numB s 9 4:Int),blkL s 8,v2.1,v3.1)).bind fun v5=>
  (bif (!(eqS v5 s))then some (((0:Int),(0:Int),(0:Int),(0:Int),(0:Int),(0:Int),(0:Int),([]:List Int),([]:List PAcl),([]:List PAcl)),false)else some (((numB s 0 1:Int),(numB s 1 2:Int),(numB s 3 1:Int),(numB s 4 1:Int),(numB s 5 2:Int),(numB s 7 2:Int),(numB s 9 4:Int),blkL s 8,v2.1,v3.1),true)))) (fun _=>some (decI s)):=by
 refine EvQ.bindS (spec_UnpackAcl_ev _) (EvQ.bindS (spec_UnpackAcl_ev _) (EvQ.bindS (spec_PackInodeX_ev (ino s) (ino_small s)) ?_))
 cases hq:eqS (packIX (ino s)) ⟨#[]⟩with
 |true=>
  have e:=(eqS_iff _ _).1 hq
  simp only[cond_true]
  rw[decI,if_neg fun h'=>by rw[e]at h';rw[←h'.2]at h;exact absurd h (by decide)]
  exact EvQ.const _
 |false=>
  simp only[cond_false]
  refine EvQ.bindS (spec_PackInodeX_ev (ino s) (ino_small s)) ?_
  cases hr:eqS (packIX (ino s)) s with
  |true=>
   simp only[Bool.not_true,cond_false]
   rw[decI,if_pos ⟨h,(eqS_iff _ _).1 hr⟩]
   exact EvQ.const _
  |false=>
   simp only[Bool.not_false,cond_true]
   rw[decI,if_neg fun h'=>by rw[(eqS_iff _ _).2 h'.2]at hr;cases hr]
   exact EvQ.const _
theorem spec_UnpackInode_ev(s:ByteArray)(hs:s.size≤10000000):Ev (fun k=>c_spec_UnpackInode k s) (decI s):=by
 refine EvQ.run (fun k=>spec_UnpackInode_run k _) ?_
 simp only[spec_UnpackInode]
 by_cases h:s.size=96
 case neg=>
  rw[show((s.size:Int) != (96:Int))=true by simp;omega]
  simp only[cond_true]
  rw[decI,if_neg fun h'=>h h'.1];exact EvQ.const _
 rw[show((s.size:Int) != (96:Int))=false by simp;omega]
 simp only[cond_false]
 have g:∀a w:Nat,1≤w→w≤6→a+w≤96→Ev (fun k=>c_spec_GetNumber k (s,(a:Int),(w:Int))) ((numB s a w:Int),true):=fun a w h1 h2 h3=>by
  have:=spec_Get_ev s a w h1 h2 (by omega) hs
  rw[getR_ok (by omega)]at this;exact this
 refine EvQ.bind (g 0 1 (by omega) (by omega) (by omega)) (EvQ.bind (g 1 2 (by omega) (by omega) (by omega)) (EvQ.bind (g 3 1 (by omega) (by omega) (by omega)) (EvQ.bind (g 4 1 (by omega) (by omega) (by omega)) (EvQ.bind (g 5 2 (by omega) (by omega) (by omega)) (EvQ.bind (g 7 2 (by omega) (by omega) (by omega)) (EvQ.bind (g 9 4 (by omega) (by omega) (by omega)) (EvL.ev ?_)))))))
 have hz:=numB_le s 7 (show 2≤4 by omega)
 have hn0:0≤needI (numB s 7 2:Int):=by unfold needI;split<;>omega
 obtain⟨m,hm⟩:∃m:Nat,(m:Int)=min (needI (numB s 7 2:Int)) 8:=⟨(min (needI (numB s 7 2:Int)) 8).toNat,by omega⟩
 have hm8:m≤8:=by omega
 have hmb:blkL s m=blkL s 8:=by
  by_cases h8:m=8
  ·rw[h8]
  ·have:=blkL_stop s (m:=m) (by omega) (8-m)
   rw[show m+(8-m)=8 by omega]at this;exact this.symm
 refine EvL.count (L:=spec_UnpackInode_l1) (r:=decI s) (fun i=>(s,(),(),(i:Int),((numB s 0 1:Int),(numB s 1 2:Int),(numB s 3 1:Int),(numB s 4 1:Int),(numB s 5 2:Int),(numB s 7 2:Int),(numB s 9 4:Int),blkL s i,[],[]),zeroI)) m (fun i hi=> ?_) (EvL.stop ?_)
 ·have w1:wrapK .i64 ((2:Int)*(i:Int))=((2*i:Nat):Int):=by rw[i64w (by omega) (by omega)];omega
  have w2:wrapK .i64 ((13:Int)+((2*i:Nat):Int))=((13+2*i:Nat):Int):=by rw[i64w (by omega) (by omega)];omega
  have w5:wrapK .i64 ((i:Int)+1)=((i+1:Nat):Int):=by rw[i64w (by omega) (by omega)];omega
  have hb:=blkL_len s i
  have hv:=numB_le s (13+2*i) (show 2≤4 by omega)
  have w6:wrapK .i64 ((numB s (13+2*i) 2:Int)-1)=(numB s (13+2*i) 2:Int)-1:=i64w (by omega) (by omega)
  have hc:((blkL s i).length+[wrapK .i64 ((numB s (13+2*i) 2:Int)-1)].length)*8≤capBytes:=by
   show((blkL s i).length+1)*8≤capBytes;unfold capBytes;omega
  have he:blkL s (i+1)=blkL s i++[wrapK .i64 ((numB s (13+2*i) 2:Int)-1)]:=by rw[blkL,if_pos (by omega),w6]
  simp only[EvS,spec_UnpackInode_l1]
  refine EvQ.bindS (spec_BlocksNeeded_ev _ (by omega)) ?_
  simp only[show(i:Int)<needI (numB s 7 2:Int)by omega,show(i:Int)<8 by omega,decide_true,cond_true,w1,w2,w5]
  refine EvQ.bindS (g (13+2*i) 2 (by omega) (by omega) (by omega)) ?_
  refine EvQ.congr (fun k=> ?_) (EvQ.const _)
  funext self
  rw[he]
  exact if_pos hc
 ·simp only[spec_UnpackInode_l1]
  refine EvQ.bindS (spec_BlocksNeeded_ev _ (by omega)) ?_
  rw[hmb]
  have c1:(48:Int)≤(s.size:Int):=by omega
  have c2:(67:Int)≤(s.size:Int):=by omega
  have k1:(0:Int)≤48∧(0:Int)≤29∧(0:Int)≤67∧(29:Int)≤((48:Nat):Int)∧(48:Int)≤((67:Nat):Int):=by omega
  by_cases hmn:(m:Int)<needI (numB s 7 2:Int)
  ·have h8:¬(m:Int)<8:=by omega
   simp only[hmn,h8,decide_true,decide_false,cond_true,cond_false,k1,c1,c2,if_true,show((48:Int).toNat)=48 from rfl,show((29:Int).toNat)=29 from rfl,show((67:Int).toNat)=67 from rfl]
   exact unpI_fin s h
  ·simp only[hmn,decide_true,decide_false,cond_true,cond_false,k1,c1,c2,if_true,show((48:Int).toNat)=48 from rfl,show((29:Int).toNat)=29 from rfl,show((67:Int).toNat)=67 from rfl]
   exact unpI_fin s h
end Go.Proofs.YtmmgfgfkkpeedaaGreat

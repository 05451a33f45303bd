/- The tables, the residual functions and lemmas of this seat: parts of the proof of the law; conditions: those that each names. -/
import Derived.Test.YtmmgfgfkkpeedaaGreatZro
import Derived.Test.YtmmgfgfkkpeedaaGreatSux
set_option linter.unusedVariables false
set_option linter.unusedSimpArgs false
set_option maxRecDepth 100000
namespace Go.Proofs.YtmmgfgfkkpeedaaGreat
open Go.Eng
theorem padB_size(s:ByteArray)(n:Nat):(padB s n).size=s.size+(n-s.size):=by
 rw[padB,ofBytes_size,List.length_append,bytesOf_len,List.length_replicate]
def entB(e:PAcl):ByteArray:=(putB e.1 1++putB e.2.1 1)++putB e.2.2 1
theorem entB_size(e:PAcl):(entB e).size≤3:=by
 have h1:=putB_size e.1 1
 have h2:=putB_size e.2.1 1
 have h3:=putB_size e.2.2 1
 simp only[entB,app_size];omega
def aclS(l:List PAcl):Nat→ByteArray
 |0=>putB (l.length:Int) 1
 |i+1=>match l[i]? with
  |some e=>aclS l i++entB e
  |none=>aclS l i
theorem aclS_size(l:List PAcl):∀i,(aclS l i).size≤1+3*i
 |0=>putB_size _ _
 |i+1=>by
  have h:=aclS_size l i
  simp only[aclS]
  cases l[i]? with
  |none=>simp only;omega
  |some e=>have:=entB_size e;simp only[app_size];omega
def packA(l:List PAcl):ByteArray:=padB (aclS l l.length) 19
theorem packA_size{l:List PAcl}(h:l.length≤6):(packA l).size=19:=by
 have:=aclS_size l l.length
 rw[packA,padB_size];omega
theorem impl_PackAcl_ev{l:List PAcl}(h:aclP l):Ev (fun k=>c_impl_PackAcl k l) (packA l):=by
 have hl:l.length≤6:=h.1
 obtain⟨b,e1,e2⟩:=impl_IsAcl_say l
 have hb:b=true:=e2.2 h
 subst hb
 refine EvQ.run (fun k=>impl_PackAcl_run k _) ?_
 simp only[impl_PackAcl]
 refine EvQ.bind e1 ?_
 simp only[Bool.not_true,cond_false]
 refine EvQ.bind (impl_PutNumber_ev (l.length:Int) 1 (by omega) (by omega)) (EvL.ev ?_)
 refine EvL.count (L:=impl_PackAcl_l1) (r:=packA l) (fun i=>(aclS l i,l,(l.length:Int),(i:Int))) l.length (fun i hi=> ?_) (EvL.stop ?_)
 ·have hx:l[i]? =some l[i]:=List.getElem?_eq_getElem hi
  have hw:wrapK .i64 ((i:Int)+1)=((i+1:Nat):Int):=by rw[i64w (by omega) (by omega)];omega
  have hs:=aclS_size l i
  have h1:=putB_size l[i].1 1
  have h2:=putB_size l[i].2.1 1
  have h3:=putB_size l[i].2.2 1
  have e:aclS l (i+1)=aclS l i++entB l[i]:=by simp only[aclS,hx]
  have he:=entB_size l[i]
  simp only[EvS,impl_PackAcl_l1,Int.ofNat_lt,hi,decide_true,cond_true,Int.natCast_nonneg,if_true,Int.toNat_natCast,hx,Option.bind_some,hw,e]
  refine EvQ.bindS (impl_PutNumber_ev _ 1 (by omega) (by omega)) (EvQ.bindS (impl_PutNumber_ev _ 1 (by omega) (by omega)) ?_)
  simp only[show(putB l[i].1 1).size+(putB l[i].2.1 1).size≤9223372036854775807 by omega,if_true]
  refine EvQ.bindS (impl_PutNumber_ev _ 1 (by omega) (by omega)) ?_
  simp only[show(putB l[i].1 1++putB l[i].2.1 1).size+(putB l[i].2.2 1).size≤9223372036854775807 by rw[app_size];omega,show(aclS l i).size+((putB l[i].1 1++putB l[i].2.1 1)++putB l[i].2.2 1).size≤9223372036854775807 by simp only[app_size];omega,if_true]
  exact EvQ.const _
 ·have hs:=aclS_size l l.length
  simp only[impl_PackAcl_l1,Int.lt_irrefl,decide_false,cond_false]
  exact EvQ.bindS (impl_PadTo_ev _ 19 (by omega) (by omega)) (EvQ.const _)
theorem spec_PackAcl_ev{l:List PAcl}(h:aclP l):Ev (fun k=>c_spec_PackAcl k l) (packA l):=by
 have hl:l.length≤6:=h.1
 obtain⟨b,e1,e2⟩:=spec_IsAcl_say l (by unfold big;omega)
 have hb:b=true:=e2.2 h
 subst hb
 refine EvQ.run (fun k=>spec_PackAcl_run k _) ?_
 simp only[spec_PackAcl]
 refine EvQ.bind e1 ?_
 simp only[Bool.not_true,cond_false]
 refine EvQ.bind (spec_PutNumber_ev (l.length:Int) 1 (by omega) (by omega)) (EvL.ev ?_)
 refine EvL.count (L:=spec_PackAcl_l1) (r:=packA l) (fun i=>(aclS l i,l,(l.length:Int),(i:Int))) l.length (fun i hi=> ?_) (EvL.stop ?_)
 ·have hx:l[i]? =some l[i]:=List.getElem?_eq_getElem hi
  have hw:wrapK .i64 ((i:Int)+1)=((i+1:Nat):Int):=by rw[i64w (by omega) (by omega)];omega
  have hs:=aclS_size l i
  have h1:=putB_size l[i].1 1
  have h2:=putB_size l[i].2.1 1
  have h3:=putB_size l[i].2.2 1
  have e:aclS l (i+1)=((aclS l i++putB l[i].1 1)++putB l[i].2.1 1)++putB l[i].2.2 1:=by simp only[aclS,hx,entB,app_assoc]
  simp only[EvS,spec_PackAcl_l1,Int.ofNat_lt,hi,decide_true,cond_true,Int.natCast_nonneg,if_true,Int.toNat_natCast,hx,Option.bind_some,hw,e]
  refine EvQ.bindS (spec_PutNumber_ev _ 1 (by omega) (by omega)) ?_
  simp only[show(aclS l i).size+(putB l[i].1 1).size≤9223372036854775807 by omega,if_true]
  refine EvQ.bindS (spec_PutNumber_ev _ 1 (by omega) (by omega)) ?_
  simp only[show(aclS l i++putB l[i].1 1).size+(putB l[i].2.1 1).size≤9223372036854775807 by rw[app_size];omega,if_true]
  refine EvQ.bindS (spec_PutNumber_ev _ 1 (by omega) (by omega)) ?_
  simp only[show((aclS l i++putB l[i].1 1)++putB l[i].2.1 1).size+(putB l[i].2.2 1).size≤9223372036854775807 by simp only[app_size];omega,if_true]
  exact EvQ.const _
 ·have hs:=aclS_size l l.length
  simp only[spec_PackAcl_l1,Int.lt_irrefl,decide_false,cond_false]
  exact EvQ.bindS (spec_PadTo_ev _ 19 (by omega) (by omega)) (EvQ.const _)
def headB(n:PInode):ByteArray:=(((((putB n.1 1++putB n.2.1 2)++putB n.2.2.1 1)++putB n.2.2.2.1 1)++putB n.2.2.2.2.1 2)++putB n.2.2.2.2.2.1 2)++putB n.2.2.2.2.2.2.1 4
theorem headB_size(n:PInode):(headB n).size≤13:=by
 have h1:=putB_size n.1 1
 have h2:=putB_size n.2.1 2
 have h3:=putB_size n.2.2.1 1
 have h4:=putB_size n.2.2.2.1 1
 have h5:=putB_size n.2.2.2.2.1 2
 have h6:=putB_size n.2.2.2.2.2.1 2
 have h7:=putB_size n.2.2.2.2.2.2.1 4
 simp only[headB,app_size];omega
def blkAt(n:PInode)(i:Nat):Int:=((xBlk n)[i]?).getD (-1)
def inoS(n:PInode):Nat→ByteArray
 |0=>headB n
 |i+1=>inoS n i++putB (blkAt n i+1) 2
theorem inoS_size(n:PInode):∀i,(inoS n i).size≤13+2*i
 |0=>headB_size n
 |i+1=>by
  have h:=inoS_size n i
  have h2:=putB_size (blkAt n i+1) 2
  simp only[inoS,app_size];omega
def packI(n:PInode):ByteArray:=padB ((inoS n 8++packA (xAcl n))++packA (xDef n)) 96
theorem ino_acl{n:PInode}(h:inodeP n):aclP (xAcl n)∧aclP (xDef n):=by
 rcases h with rfl|h
 ·have:aclP []:=⟨by simp,(fun i e he=>by simp at he),.inl rfl⟩
  exact⟨this,this⟩
 ·exact⟨h.2.2.1,h.2.2.2.1⟩
theorem blkAt_ok{n:PInode}(h:inodeP n)(i:Nat): -1≤blkAt n i∧blkAt n i≤999:=by
 unfold blkAt
 cases hb:(xBlk n)[i]? with
 |none=>simp
 |some b=>
  rcases h with rfl|h
  ·exact absurd hb (by show([]:List Int)[i]? ≠some b;simp)
  ·have:=h.2.2.2.2.1 i b hb
   simp only[Option.getD_some]
   by_cases e:b= -1
   ·omega
   ·have:=this e;omega
theorem packI_size{n:PInode}(h:inodeP n):(packI n).size=96:=by
 obtain⟨a1,a2⟩:=ino_acl h
 have h1:=packA_size a1.1
 have h2:=packA_size a2.1
 have h3:=inoS_size n 8
 rw[packI,padB_size]
 simp only[app_size];omega
theorem impl_PackInode_ev{n:PInode}(h:inodeP n)(hs:inoSmall n):Ev (fun k=>c_impl_PackInode k n) (packI n):=by
 obtain⟨b,e1,e2⟩:=impl_IsInode_say n hs
 have hb:b=true:=e2.2 h
 subst hb
 obtain⟨a1,a2⟩:=ino_acl h
 have hA1:=packA_size a1.1
 have hA2:=packA_size a2.1
 have h1:=putB_size n.1 1
 have h2:=putB_size n.2.1 2
 have h3:=putB_size n.2.2.1 1
 have h4:=putB_size n.2.2.2.1 1
 have h5:=putB_size n.2.2.2.2.1 2
 have h6:=putB_size n.2.2.2.2.2.1 2
 have h7:=putB_size n.2.2.2.2.2.2.1 4
 refine EvQ.run (fun k=>impl_PackInode_run k _) ?_
 simp only[impl_PackInode]
 refine EvQ.bind e1 ?_
 simp only[Bool.not_true,cond_false]
 refine EvQ.bind (impl_PutNumber_ev _ 1 (by omega) (by omega)) (EvQ.bind (impl_PutNumber_ev _ 2 (by omega) (by omega)) ?_)
 refine EvQ.ifp (by omega) (EvQ.bind (impl_PutNumber_ev _ 1 (by omega) (by omega)) ?_)
 refine EvQ.ifp (by simp only[app_size];omega) (EvQ.bind (impl_PutNumber_ev _ 1 (by omega) (by omega)) ?_)
 refine EvQ.ifp (by simp only[app_size];omega) (EvQ.bind (impl_PutNumber_ev _ 2 (by omega) (by omega)) ?_)
 refine EvQ.ifp (by simp only[app_size];omega) (EvQ.bind (impl_PutNumber_ev _ 2 (by omega) (by omega)) ?_)
 refine EvQ.ifp (by simp only[app_size];omega) (EvQ.bind (impl_PutNumber_ev _ 4 (by omega) (by omega)) ?_)
 refine EvQ.ifp (by simp only[app_size];omega) (EvL.ev ?_)
 refine EvL.count (L:=impl_PackInode_l1) (r:=packI n) (fun i=>((),inoS n i,((i:Nat):Int),n)) 8 (fun i hi=> ?_) (EvL.stop ?_)
 ·have hw:wrapK .i64 ((i:Int)+1)=((i+1:Nat):Int):=by rw[i64w (by omega) (by omega)];omega
  have hbl:=blkAt_ok h i
  have hwb:wrapK .i64 (blkAt n i+1)=blkAt n i+1:=i64w (by omega) (by omega)
  have hi2:=inoS_size n i
  have hp:=putB_size (blkAt n i+1) 2
  have hl:n.2.2.2.2.2.2.2.1=xBlk n:=rfl
  simp only[EvS,impl_PackInode_l1,show(i:Int)<8 by omega,decide_true,cond_true,hl,Int.ofNat_lt]
  refine EvQ.congr (g:=fun k self=>(c_impl_PutNumber k (wrapK .i64 (blkAt n i+1),(2:Int))).bind fun v2=>if(inoS n i).size+v2.size≤9223372036854775807 then self ((),(inoS n i++v2),(wrapK .i64 ((i:Int)+1)),n)else none) (fun k=>funext fun self=> ?_) ?_
  ·by_cases hlt:i<(xBlk n).length
   ·have hx:(xBlk n)[i]? =some (xBlk n)[i]:=List.getElem?_eq_getElem hlt
    have hv:blkAt n i=(xBlk n)[i]:=by simp only[blkAt,hx,Option.getD_some]
    simp only[hlt,decide_true,cond_true,Int.natCast_nonneg,if_true,Int.toNat_natCast,hx,Option.bind_some,joinK,hv]
   ·have hv:blkAt n i= -1:=by simp only[blkAt,List.getElem?_eq_none (show(xBlk n).length≤i by omega),Option.getD_none]
    simp only[hlt,decide_false,cond_false,joinK,hv]
  ·simp only[hwb]
   refine EvQ.bindS (impl_PutNumber_ev _ 2 (by omega) (by omega)) ?_
   simp only[show(inoS n i).size+(putB (blkAt n i+1) 2).size≤9223372036854775807 by omega,if_true,hw]
   exact EvQ.const _
 ·have hi2:=inoS_size n 8
  have q1:(inoS n 8).size+(packA (xAcl n)).size≤9223372036854775807:=by omega
  have q2:(inoS n 8++packA (xAcl n)).size+(packA (xDef n)).size≤9223372036854775807:=by rw[app_size];omega
  have q3:((inoS n 8++packA (xAcl n))++packA (xDef n)).size≤1073741824:=by simp only[app_size];omega
  simp only[impl_PackInode_l1,show ¬((8:Nat):Int)<8 by omega,decide_false,cond_false]
  refine EvQ.bindS (impl_PackAcl_ev a1) ?_
  simp only[q1,if_true]
  refine EvQ.bindS (impl_PackAcl_ev a2) ?_
  simp only[q2,if_true]
  exact EvQ.bindS (impl_PadTo_ev _ 96 (by omega) q3) (EvQ.const _)
theorem spec_PackInode_ev{n:PInode}(h:inodeP n)(hs:inoSmall n):Ev (fun k=>c_spec_PackInode k n) (packI n):=by
 obtain⟨b,e1,e2⟩:=spec_IsInode_say n hs
 have hb:b=true:=e2.2 h
 subst hb
 obtain⟨a1,a2⟩:=ino_acl h
 have hA1:=packA_size a1.1
 have hA2:=packA_size a2.1
 have h1:=putB_size n.1 1
 have h2:=putB_size n.2.1 2
 have h3:=putB_size n.2.2.1 1
 have h4:=putB_size n.2.2.2.1 1
 have h5:=putB_size n.2.2.2.2.1 2
 have h6:=putB_size n.2.2.2.2.2.1 2
 have h7:=putB_size n.2.2.2.2.2.2.1 4
 refine EvQ.run (fun k=>spec_PackInode_run k _) ?_
 simp only[spec_PackInode]
 refine EvQ.bind e1 ?_
 simp only[Bool.not_true,cond_false]
 refine EvQ.bind (spec_PutNumber_ev _ 1 (by omega) (by omega)) (EvQ.bind (spec_PutNumber_ev _ 2 (by omega) (by omega)) ?_)
 refine EvQ.ifp (by omega) (EvQ.bind (spec_PutNumber_ev _ 1 (by omega) (by omega)) ?_)
 refine EvQ.ifp (by simp only[app_size];omega) (EvQ.bind (spec_PutNumber_ev _ 1 (by omega) (by omega)) ?_)
 refine EvQ.ifp (by simp only[app_size];omega) (EvQ.bind (spec_PutNumber_ev _ 2 (by omega) (by omega)) ?_)
 refine EvQ.ifp (by simp only[app_size];omega) (EvQ.bind (spec_PutNumber_ev _ 2 (by omega) (by omega)) ?_)
 refine EvQ.ifp (by simp only[app_size];omega) (EvQ.bind (spec_PutNumber_ev _ 4 (by omega) (by omega)) ?_)
 refine EvQ.ifp (by simp only[app_size];omega) (EvL.ev ?_)
 refine EvL.count (L:=spec_PackInode_l1) (r:=packI n) (fun i=>((),inoS n i,((i:Nat):Int),n)) 8 (fun i hi=> ?_) (EvL.stop ?_)
 ·have hw:wrapK .i64 ((i:Int)+1)=((i+1:Nat):Int):=by rw[i64w (by omega) (by omega)];omega
  have hbl:=blkAt_ok h i
  have hwb:wrapK .i64 (blkAt n i+1)=blkAt n i+1:=i64w (by omega) (by omega)
  have hi2:=inoS_size n i
  have hp:=putB_size (blkAt n i+1) 2
  have hl:n.2.2.2.2.2.2.2.1=xBlk n:=rfl
  simp only[EvS,spec_PackInode_l1,show(i:Int)<8 by omega,decide_true,cond_true,hl,Int.ofNat_lt]
  refine EvQ.congr (g:=fun k self=>(c_spec_PutNumber k (wrapK .i64 (blkAt n i+1),(2:Int))).bind fun v2=>if(inoS n i).size+v2.size≤9223372036854775807 then self ((),(inoS n i++v2),(wrapK .i64 ((i:Int)+1)),n)else none) (fun k=>funext fun self=> ?_) ?_
  ·by_cases hlt:i<(xBlk n).length
   ·have hx:(xBlk n)[i]? =some (xBlk n)[i]:=List.getElem?_eq_getElem hlt
    have hv:blkAt n i=(xBlk n)[i]:=by simp only[blkAt,hx,Option.getD_some]
    simp only[hlt,decide_true,cond_true,Int.natCast_nonneg,if_true,Int.toNat_natCast,hx,Option.bind_some,joinK,hv]
   ·have hv:blkAt n i= -1:=by simp only[blkAt,List.getElem?_eq_none (show(xBlk n).length≤i by omega),Option.getD_none]
    simp only[hlt,decide_false,cond_false,joinK,hv]
  ·simp only[hwb]
   refine EvQ.bindS (spec_PutNumber_ev _ 2 (by omega) (by omega)) ?_
   simp only[show(inoS n i).size+(putB (blkAt n i+1) 2).size≤9223372036854775807 by omega,if_true,hw]
   exact EvQ.const _
 ·have hi2:=inoS_size n 8
  have q1:(inoS n 8).size+(packA (xAcl n)).size≤9223372036854775807:=by omega
  have q2:(inoS n 8++packA (xAcl n)).size+(packA (xDef n)).size≤9223372036854775807:=by rw[app_size];omega
  have q3:((inoS n 8++packA (xAcl n))++packA (xDef n)).size≤1073741824:=by simp only[app_size];omega
  simp only[spec_PackInode_l1,show ¬((8:Nat):Int)<8 by omega,decide_false,cond_false]
  refine EvQ.bindS (spec_PackAcl_ev a1) ?_
  simp only[q1,if_true]
  refine EvQ.bindS (spec_PackAcl_ev a2) ?_
  simp only[q2,if_true]
  exact EvQ.bindS (spec_PadTo_ev _ 96 (by omega) q3) (EvQ.const _)
def cut3(s:ByteArray):List ByteArray:=[s.extract 0 32,s.extract 32 64,s.extract 64 96]
theorem impl_cut_ev{s:ByteArray}(h:s.size=96):Ev (fun k=>c_impl_CutAll k (s,(32:Int))) (cut3 s):=by
 refine EvQ.run (fun k=>impl_CutAll_run k _ _) ?_
 simp only[impl_CutAll,show ¬(32:Int)<1 by omega,show ¬(1000:Int)<32 by omega,decide_false,cond_false]
 have s1:(s.extract 32 96).size=64:=by rw[ByteArray.size_extract];omega
 have s2:(s.extract 64 96).size=32:=by rw[ByteArray.size_extract];omega
 have s3:(s.extract 96 96).size=0:=by rw[ByteArray.size_extract];omega
 have x1:(s.extract 32 96).extract 0 32=s.extract 32 64:=by rw[ByteArray.extract_extract,show 32+0=32 from rfl,show min (32+32) 96=64 from rfl]
 have x2:(s.extract 32 96).extract 32 64=s.extract 64 96:=by rw[ByteArray.extract_extract,show 32+32=64 from rfl,show min (32+64) 96=96 from rfl]
 have x3:(s.extract 64 96).extract 0 32=s.extract 64 96:=by rw[ByteArray.extract_extract,show 64+0=64 from rfl,show min (64+32) 96=96 from rfl]
 have x4:(s.extract 64 96).extract 32 32=s.extract 96 96:=by rw[ByteArray.extract_extract,show 64+32=96 from rfl,show min (64+32) 96=96 from rfl]
 have m1:min (32:Int) ((96:Nat):Int)=32:=by omega
 have m2:min (32:Int) ((64:Nat):Int)=32:=by omega
 have m3:min (32:Int) ((32:Nat):Int)=32:=by omega
 have t32:(32:Int).toNat=32:=rfl
 refine EvL.ev (EvL.step (d':=(s.extract 32 96,(32:Int),[s.extract 0 32])) ?_ (EvL.step (d':=(s.extract 64 96,(32:Int),[s.extract 0 32,s.extract 32 64])) ?_ (EvL.step (d':=(s.extract 96 96,(32:Int),cut3 s)) ?_ (EvL.stop ?_))))
 ·simp only[EvS,impl_CutAll_l1,h,m1,t32,show(0:Int)<((96:Nat):Int)by omega,decide_true,cond_true,show(0:Int)≤32 by omega,show(32:Int)≤((96:Nat):Int)by omega,if_true,show(([]:List ByteArray).length+[s.extract 0 32].length)*16≤capBytes by simp[capBytes]]
  exact EvQ.const _
 ·simp only[EvS,impl_CutAll_l1,s1,m2,t32,x1,x2,show(0:Int)<((64:Nat):Int)by omega,decide_true,cond_true,show(0:Int)≤32 by omega,show(32:Int)≤((64:Nat):Int)by omega,if_true,show(([s.extract 0 32]:List ByteArray).length+[s.extract 32 64].length)*16≤capBytes by simp[capBytes]]
  exact EvQ.const _
 ·simp only[EvS,impl_CutAll_l1,s2,m3,t32,x3,x4,show(0:Int)<((32:Nat):Int)by omega,decide_true,cond_true,show(0:Int)≤32 by omega,show(32:Int)≤((32:Nat):Int)by omega,if_true,show(([s.extract 0 32,s.extract 32 64]:List ByteArray).length+[s.extract 64 96].length)*16≤capBytes by simp[capBytes]]
  exact EvQ.const _
 ·simp only[impl_CutAll_l1,s3,show ¬(0:Int)<((0:Nat):Int)by omega,decide_false,cond_false]
  exact EvQ.const _
theorem spec_cut_ev{s:ByteArray}(h:s.size=96):Ev (fun k=>c_spec_CutAll k (s,(32:Int))) (cut3 s):=by
 refine EvQ.run (fun k=>spec_CutAll_run k _ _) ?_
 simp only[spec_CutAll]
 refine EvQ.bind (l01In_ev _ _ _) ?_
 simp only[show(1:Int)≤32∧(32:Int)≤1000 by omega,and_self,decide_true,Bool.not_true,cond_false]
 have s1:(s.extract 32 96).size=64:=by rw[ByteArray.size_extract];omega
 have s2:(s.extract 64 96).size=32:=by rw[ByteArray.size_extract];omega
 have x1:(s.extract 32 96).extract 0 32=s.extract 32 64:=by rw[ByteArray.extract_extract,show 32+0=32 from rfl,show min (32+32) 96=64 from rfl]
 have x2:(s.extract 32 96).extract 32 64=s.extract 64 96:=by rw[ByteArray.extract_extract,show 32+32=64 from rfl,show min (32+64) 96=96 from rfl]
 have t32:(32:Int).toNat=32:=rfl
 refine EvL.ev (EvL.step (d':=(s.extract 32 96,(32:Int),[s.extract 0 32])) ?_ (EvL.step (d':=(s.extract 64 96,(32:Int),[s.extract 0 32,s.extract 32 64])) ?_ (EvL.stop ?_)))
 ·simp only[EvS,spec_CutAll_l1,h,t32,show(32:Int)<((96:Nat):Int)by omega,decide_true,cond_true,show(0:Int)≤32 by omega,show(32:Int)≤((96:Nat):Int)by omega,if_true,show(([]:List ByteArray).length+[s.extract 0 32].length)*16≤capBytes by simp[capBytes]]
  exact EvQ.const _
 ·simp only[EvS,spec_CutAll_l1,s1,t32,x1,x2,show(32:Int)<((64:Nat):Int)by omega,decide_true,cond_true,show(0:Int)≤32 by omega,show(32:Int)≤((64:Nat):Int)by omega,if_true,show(([s.extract 0 32]:List ByteArray).length+[s.extract 32 64].length)*16≤capBytes by simp[capBytes]]
  exact EvQ.const _
 ·have hne:eqS (s.extract 64 96) (⟨#[]⟩:ByteArray)=false:=by
   cases he:eqS (s.extract 64 96) (⟨#[]⟩:ByteArray)with
   |false=>rfl
   |true=>rw[(eqS_iff _ _).1 he]at s2;cases s2
  simp only[spec_CutAll_l1,s2,show ¬(32:Int)<((32:Nat):Int)by omega,decide_false,cond_false,hne,Bool.not_false,cond_true,show(([s.extract 0 32,s.extract 32 64]:List ByteArray).length+[s.extract 64 96].length)*16≤capBytes by simp[capBytes],if_true]
  exact EvQ.const _
def frontL(f:PFS):List ByteArray:=[superB f]++List.replicate 69 zero32
def packL(f:PFS):Nat→List ByteArray
 |0=>frontL f
 |i+1=>match(fI f)[i]? with
  |some n=>packL f i++cut3 (packI n)
  |none=>packL f i
theorem packL_len(f:PFS):∀i,(packL f i).length≤70+3*i
 |0=>by simp[packL,frontL]
 |i+1=>by
  have h:=packL_len f i
  simp only[packL]
  cases(fI f)[i]? with
  |none=>simp only;omega
  |some n=>simp only[List.length_append,cut3,List.length_cons,List.length_nil];omega
def packV(f:PFS):List ByteArray:=packL f 20++fD f
theorem packL_mem(f:PFS)(hq:(superB f).size≤1000):∀i,∀s∈packL f i,s.size≤1000
 |0,s,h=>by
  simp only[packL,frontL,List.mem_append,List.mem_singleton]at h
  rcases h with rfl|h
  ·exact hq
  ·rw[List.eq_of_mem_replicate h,zero32_size];omega
 |i+1,s,h=>by
  have ih:=packL_mem f hq i s
  simp only[packL]at h
  cases hn:(fI f)[i]? with
  |none=>rw[hn]at h;exact ih h
  |some n=>
   rw[hn]at h
   rcases List.mem_append.1 h with h|h
   ·exact ih h
   ·simp only[cut3,List.mem_cons,List.not_mem_nil,or_false]at h
    rcases h with rfl|rfl|rfl<;>rw[ByteArray.size_extract]<;>omega
theorem super_size{f:PFS}(hP:fsP f):(superB f).size≤1000:=by
 have h1:=sup_size f (fQ f).length
 have h2:=hP.nq
 rw[superB,padB_size];omega
theorem packV_ok{f:PFS}(hP:fsP f):(packV f).length≤186∧∀s∈packV f,s.size≤1000:=by
 have h1:=packL_len f 20
 have h2:=hP.nd
 refine⟨by rw[packV,List.length_append];omega,fun s hs=> ?_⟩
 rcases List.mem_append.1 hs with hs|hs
 ·exact packL_mem f (super_size hP) 20 s hs
 ·obtain⟨i,hi⟩:=List.mem_iff_getElem?.1 hs
  rw[hP.sz i s hi];omega
theorem spec_Pack_ev{f:PFS}(hP:fsP f)(hs:fsSmall f):Ev (fun k=>c_spec_l18Pack k f) (packV f):=by
 refine EvQ.run (fun k=>spec_l18Pack_run k _) ?_
 simp only[spec_l18Pack]
 refine EvQ.bind (spec_super_ev f (by have:=hP.nq;omega)) (EvL.ev ?_)
 have hni:=hP.ni
 have:=EvL.count (L:=spec_l18Pack_l2) (r:=packV f) (fun j=>((),[superB f]++List.replicate j zero32,f)) 69 (fun j hj=> ?_) (EvL.stop ?_)
 ·simpa using this
 ·have hl:(([superB f]++List.replicate j zero32).length:Int)<70:=by simp;omega
  have hcap:(([superB f]++List.replicate j zero32).length+([zero32]:List ByteArray).length)*16≤capBytes:=by simp[capBytes];omega
  simp only[EvS,spec_l18Pack_l2,hl,decide_true,cond_true]
  refine EvQ.bindS pad32_ev ?_
  simp only[hcap,if_true,List.append_assoc]
  rw[←List.replicate_succ']
  exact EvQ.const _
 ·have hl:¬(([superB f]++List.replicate 69 zero32).length:Int)<70:=by simp
  simp only[spec_l18Pack_l2,hl,decide_false,cond_false]
  refine EvQ.lift (EvL.ev ?_)
  refine EvL.count (L:=spec_l18Pack_l1) (r:=packV f) (fun i=>((),packL f i,fI f,((fI f).length:Int),(i:Int),f)) 20 (fun i hi=> ?_) (EvL.stop ?_)
  ·have hx:(fI f)[i]? =some (fI f)[i]:=List.getElem?_eq_getElem (by omega)
   have hw:wrapK .i64 ((i:Int)+1)=((i+1:Nat):Int):=by rw[i64w (by omega) (by omega)];omega
   have hin:=hP.ino i _ hx
   have hsm:=hs _ (List.mem_of_getElem? hx)
   have hpl:=packL_len f i
   have hcap:((packL f i).length+(cut3 (packI (fI f)[i])).length)*16≤capBytes:=by simp only[cut3,List.length_cons,List.length_nil,capBytes];omega
   have e:packL f (i+1)=packL f i++cut3 (packI (fI f)[i]):=by simp only[packL,hx]
   simp only[EvS,spec_l18Pack_l1,show(i:Int)<((fI f).length:Int)by omega,decide_true,cond_true,Int.natCast_nonneg,if_true,Int.toNat_natCast,hx,Option.bind_some,hw,e]
   refine EvQ.bindS (spec_PackInode_ev hin hsm) (EvQ.bindS (spec_cut_ev (packI_size hin)) ?_)
   simp only[hcap,if_true]
   exact EvQ.const _
  ·have hpl:=packL_len f 20
   have hd:f.2.2.2.length=56:=hP.nd
   simp only[spec_l18Pack_l1,show ¬((20:Nat):Int)<((fI f).length:Int)by omega,decide_false,cond_false,show((packL f 20).length+f.2.2.2.length)*16≤capBytes by unfold capBytes;omega,if_true]
   exact EvQ.const _
theorem rep_ev(z:ByteArray):Ev (fun k=>c_slices_Repeat_string_string k ([z],(69:Int))) (List.replicate 69 z):=by
 refine EvQ.run (fun k=>c_slices_Repeat_string_string_run k _) ?_
 simp only[ext_slices_Repeat_string_string]
 exact EvQ.ifp (by omega) (EvQ.const _)
theorem impl_Pack_ev{f:PFS}(hP:fsP f)(hs:fsSmall f)(e1:Ev (fun k=>c_impl_IsFS k f) true):Ev (fun k=>c_impl_PackFS k f) (packV f):=by
 refine EvQ.run (fun k=>impl_PackFS_run k _) ?_
 simp only[impl_PackFS]
 refine EvQ.bind e1 ?_
 simp only[Bool.not_true,cond_false]
 refine EvQ.bind (impl_super_ev f (by have:=hP.nq;omega)) (EvQ.bind zeros_ev (EvQ.bind (rep_ev zero32) ?_))
 have hni:=hP.ni
 refine EvQ.ifp (by simp[capBytes]) (EvL.ev ?_)
 refine EvL.count (L:=impl_PackFS_l1) (r:=packV f) (fun i=>((),packL f i,fI f,((fI f).length:Int),(i:Int),f)) 20 (fun i hi=> ?_) (EvL.stop ?_)
 ·have hx:(fI f)[i]? =some (fI f)[i]:=List.getElem?_eq_getElem (by omega)
  have hw:wrapK .i64 ((i:Int)+1)=((i+1:Nat):Int):=by rw[i64w (by omega) (by omega)];omega
  have hin:=hP.ino i _ hx
  have hsm:=hs _ (List.mem_of_getElem? hx)
  have hpl:=packL_len f i
  have hcap:((packL f i).length+(cut3 (packI (fI f)[i])).length)*16≤capBytes:=by simp only[cut3,List.length_cons,List.length_nil,capBytes];omega
  have e:packL f (i+1)=packL f i++cut3 (packI (fI f)[i]):=by simp only[packL,hx]
  simp only[EvS,impl_PackFS_l1,show(i:Int)<((fI f).length:Int)by omega,decide_true,cond_true,Int.natCast_nonneg,if_true,Int.toNat_natCast,hx,Option.bind_some,hw,e]
  refine EvQ.bindS (impl_PackInode_ev hin hsm) (EvQ.bindS (impl_cut_ev (packI_size hin)) ?_)
  simp only[hcap,if_true]
  exact EvQ.const _
 ·have hpl:=packL_len f 20
  have hd:f.2.2.2.length=56:=hP.nd
  simp only[impl_PackFS_l1,show ¬((20:Nat):Int)<((fI f).length:Int)by omega,decide_false,cond_false,show((packL f 20).length+f.2.2.2.length)*16≤capBytes by unfold capBytes;omega,if_true]
  exact EvQ.const _
theorem szM_small{r:List ByteArray}(h1:r.length≤186)(h2:∀s∈r,s.size≤1000):szM_StringS r≤1000000:=by
 have key:∀l:List ByteArray,(∀s∈l,s.size≤1000)→(l.map fun y=>y.size).sum≤1000*l.length:=by
  intro l
  induction l with
  |nil=>intro _;simp
  |cons a l ih=>
   intro hl
   have:=ih fun s hs=>hl s (List.mem_cons_of_mem _ hs)
   have:=hl a (List.mem_cons_self ..)
   simp only[List.map_cons,List.sum_cons,List.length_cons];omega
 have:=key r h2
 have e:szM_StringS r=r.length+(r.map fun y=>y.size).sum:=rfl
 omega
end Go.Proofs.YtmmgfgfkkpeedaaGreat

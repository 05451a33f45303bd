/- The tables, the residual functions and lemmas of this seat: parts of the proof of the law; conditions: those that each names. -/
import Derived.Test.YtmmgfgfkkpeedaaGreatHld
set_option linter.unusedVariables false
set_option linter.unusedSimpArgs false
set_option maxRecDepth 100000
namespace Go.Proofs.YtmmgfgfkkpeedaaGreat
open Go.Eng
theorem sc(n m:Nat)(h:n≤100000000:=by omega)(hm:m≤1000:=by omega):n*m≤capBytes:=by
 have:n*m≤100000000*1000:=Nat.mul_le_mul h hm
 unfold capBytes;omega
theorem clone_ok{te:Ty}{b:Nat}(l:List te.D)(h:l.length≤100000000)(hb:b≤1000):ext_Clone te b l=some l:=by
 have:l.length*b≤100000000*1000:=Nat.mul_le_mul h hb
 unfold ext_Clone
 rw[if_pos ⟨by unfold maxLen;omega,by omega⟩]
def inoCap(n:DInode):Prop:=(inB n).length≤100000000∧(inA n).length≤100000000∧(inD n).length≤100000000
theorem cl_int(l:List Int)(h:l.length≤100000000):Ev (fun k=>c_slices_Clone_int_int k l) l:=
 EvQ.run (fun k=>c_slices_Clone_int_int_run k l) (by rw[show ext_slices_Clone_int_int l=some l from clone_ok (te:= .int .i64) l h (by omega)];exact EvQ.const _)
theorem cl_acl(l:List PAcl)(h:l.length≤100000000):Ev (fun k=>c_slices_Clone_impl_AclEntry_impl_AclEntry k l) l:=
 EvQ.run (fun k=>c_slices_Clone_impl_AclEntry_impl_AclEntry_run k l) (by rw[show ext_slices_Clone_impl_AclEntry_impl_AclEntry l=some l from clone_ok (te:= .pair (.int .i64) (.pair (.int .i64) (.int .i64))) l h (by omega)];exact EvQ.const _)
theorem cl_quota(l:List PQuota)(h:l.length≤100000000):Ev (fun k=>c_slices_Clone_impl_Quota_impl_Quota k l) l:=
 EvQ.run (fun k=>c_slices_Clone_impl_Quota_impl_Quota_run k l) (by rw[show ext_slices_Clone_impl_Quota_impl_Quota l=some l from clone_ok (te:= .pair (.int .i64) (.int .i64)) l h (by omega)];exact EvQ.const _)
theorem cl_str(l:List ByteArray)(h:l.length≤100000000):Ev (fun k=>c_slices_Clone_string_string k l) l:=
 EvQ.run (fun k=>c_slices_Clone_string_string_run k l) (by rw[show ext_slices_Clone_string_string l=some l from clone_ok (te:= .str) l h (by omega)];exact EvQ.const _)
theorem impl_copyInode_ev(n:DInode)(h:inoCap n):Ev (fun k=>c_impl_copyInode k n) n:=by
 refine EvQ.run (fun k=>impl_copyInode_run k n) ?_
 simp only[impl_copyInode]
 exact EvQ.bind (cl_int _ h.1) (EvQ.bind (cl_acl _ h.2.1) (EvQ.bind (cl_acl _ h.2.2) (EvQ.const _)))
theorem spec_aclCopy_ev(l:List PAcl)(h:l.length≤100000000):Ev (fun k=>c_spec_l05Copy k l) l:=by
 refine EvQ.run (fun k=>spec_l05Copy_run k l) ?_
 simp only[spec_l05Copy,List.length_nil,Nat.zero_add,if_pos (sc l.length 24),List.nil_append]
 exact EvQ.const _
theorem spec_copyInode_ev(n:DInode)(h:inoCap n):Ev (fun k=>c_spec_l07Copy k n) n:=by
 refine EvQ.run (fun k=>spec_l07Copy_run k n) ?_
 have h1:n.2.2.2.2.2.2.2.1.length≤100000000:=h.1
 simp only[spec_l07Copy,List.length_nil,Nat.zero_add,if_pos (sc n.2.2.2.2.2.2.2.1.length 8),List.nil_append]
 exact EvQ.bind (spec_aclCopy_ev _ h.2.1) (EvQ.bind (spec_aclCopy_ev _ h.2.2) (EvQ.const _))
def fsCap(x:DFS):Prop:=(fQ x).length≤1048576∧(fI x).length≤1048576∧(fD x).length≤1048576∧∀n∈fI x,inoCap n
theorem cap_of{x:DFS}(h:szM_FS x≤1048576):fsCap x:=by
 have e2:szM_FS x=x.2.1.length+szM_InodeS x.2.2.1+szM_StringS x.2.2.2:=rfl
 have e3:szM_InodeS x.2.2.1=x.2.2.1.length+(x.2.2.1.map szM_Inode).sum:=rfl
 have e4:szM_StringS x.2.2.2=x.2.2.2.length+(x.2.2.2.map fun y=>y.size).sum:=rfl
 refine⟨by show x.2.1.length≤_;omega,by show x.2.2.1.length≤_;omega,by show x.2.2.2.length≤_;omega,fun n hn=> ?_⟩
 have h1:=le_sum_map szM_Inode (show n∈x.2.2.1 from hn)
 have h2:szM_Inode n=(inB n).length+(inA n).length+(inD n).length:=rfl
 exact⟨by omega,by omega,by omega⟩
theorem impl_copyFS_ev(f:DFS)(h:fsCap f):Ev (fun k=>c_impl_copyFS k f) f:=by
 refine EvQ.run (fun k=>impl_copyFS_run k f) ?_
 obtain⟨h1,h2,h3,h4⟩:=h
 simp only[impl_copyFS]
 refine EvQ.bind (cl_quota (fQ f) (by omega)) (EvQ.bind (cl_str (fD f) (by omega)) ?_)
 refine Ev.eq ?_
 refine EvX.list (L:=fun k _=>impl_copyFS_l1 k) (fI f) (fun(_:Unit) i=>((),(),fI f,((fI f).length:Int),((i:Nat):Int),(f.1,f.2.1,(fI f).take i,f.2.2.2),((0:Int),([]:List DQuota),([]:List DInode),([]:List ByteArray)))) (fun _ _=>True) (fun st i n hx hi _=> ?_) (fun st _=> ?_) () trivial
 ·have hw:wrapK .i64 ((i:Int)+1)=((i+1:Nat):Int):=by rw[i64w (by omega) (by omega)];omega
  have ht:(fI f).take (i+1)=(fI f).take i++[n]:=by rw[List.take_add_one,hx];rfl
  have hc:(((fI f).take i).length+([n]:List DInode).length)*128≤capBytes:=by
   have:((fI f).take i).length≤1048576:=by rw[List.length_take];omega
   simp only[List.length_singleton];exact sc _ _
  simp only[impl_copyFS_l1,Int.ofNat_lt,hi,decide_true,cond_true,Int.natCast_nonneg,if_true,Int.toNat_natCast,hx,Option.bind_some,hw]
  refine EvX.bind (impl_copyInode_ev n (h4 n (List.mem_of_getElem? hx))) (EvX.ifp hc (EvX.const _ (GL.self () ?_ trivial)))
  rw[ht]
 ·simp only[impl_copyFS_l1,Int.lt_irrefl,decide_false,cond_false]
  refine EvX.const _ (GE.ret (GR.ret ?_))
  rw[List.take_length]
theorem spec_copyFS_ev(f:DFS)(h:fsCap f):Ev (fun k=>c_spec_l08Copy k f) f:=by
 refine EvQ.run (fun k=>spec_l08Copy_run k f) ?_
 obtain⟨h1,h2,h3,h4⟩:=h
 have c1:f.2.1.length*16≤capBytes:=sc _ _ (show(fQ f).length≤_ by omega)
 have c2:f.2.2.2.length*16≤capBytes:=sc _ _ (show(fD f).length≤_ by omega)
 simp only[spec_l08Copy,List.length_nil,Nat.zero_add,if_pos c1,if_pos c2,List.nil_append]
 refine Ev.eq ?_
 refine EvX.list (L:=fun k _=>spec_l08Copy_l1 k) (fI f) (fun(_:Unit) i=>((),(),fI f,((fI f).length:Int),((i:Nat):Int),(f.1,f.2.1,(fI f).take i,f.2.2.2),((0:Int),([]:List DQuota),([]:List DInode),([]:List ByteArray)))) (fun _ _=>True) (fun st i n hx hi _=> ?_) (fun st _=> ?_) () trivial
 ·have hw:wrapK .i64 ((i:Int)+1)=((i+1:Nat):Int):=by rw[i64w (by omega) (by omega)];omega
  have ht:(fI f).take (i+1)=(fI f).take i++[n]:=by rw[List.take_add_one,hx];rfl
  have hc:(((fI f).take i).length+([n]:List DInode).length)*128≤capBytes:=by
   have:((fI f).take i).length≤1048576:=by rw[List.length_take];omega
   simp only[List.length_singleton];exact sc _ _
  simp only[spec_l08Copy_l1,Int.ofNat_lt,hi,decide_true,cond_true,Int.natCast_nonneg,if_true,Int.toNat_natCast,hx,Option.bind_some,hw]
  refine EvX.bind (spec_copyInode_ev n (h4 n (List.mem_of_getElem? hx))) (EvX.ifp hc (EvX.const _ (GL.self () ?_ trivial)))
  rw[ht]
 ·simp only[spec_l08Copy_l1,Int.lt_irrefl,decide_false,cond_false]
  refine EvX.const _ (GE.ret (GR.ret ?_))
  rw[List.take_length]
end Go.Proofs.YtmmgfgfkkpeedaaGreat

/- The tables, the residual functions and lemmas of this seat: parts of the proof of the law; conditions: those that each names. -/
import Derived.Test.YtmmgfgfkkpeedaaGreatGet
import Derived.Test.YtmmgfgfkkpeedaaGreatPck
set_option linter.unusedVariables false
set_option linter.unusedSimpArgs false
set_option maxRecDepth 100000
namespace Go.Proofs.YtmmgfgfkkpeedaaGreat
open Go.Eng
theorem byteN_list(s:ByteArray)(i:Nat):byteN s i=match s.data.toList[i]? with|some c=>c.toNat|none=>0:=by
 unfold byteN
 by_cases h:i<s.size
 ·have h1:s[i]? =some s[i]:=getElem?_pos s i h
  have h2:s.data.toList[i]? =some (s.data.toList[i]'(by rw[blen];exact h)):=List.getElem?_eq_getElem (by rw[blen];exact h)
  rw[h1,h2]
  rfl
 ·have h1:s[i]? =none:=getElem?_neg s i h
  have h2:s.data.toList[i]? =none:=List.getElem?_eq_none (by rw[blen];omega)
  rw[h1,h2]
theorem first_app{a b:ByteArray}{i:Nat}(h:i<a.size):byteN (a++b) i=byteN a i:=by
 rw[byteN_list,byteN_list,append_list,List.getElem?_append_left (by rw[blen];exact h)]
theorem second_app{a b:ByteArray}{i:Nat}:byteN (a++b) (a.size+i)=byteN b i:=by
 rw[byteN_list,byteN_list,append_list,List.getElem?_append_right (by rw[blen];omega),blen,Nat.add_sub_cancel_left]
theorem padB_list(s:ByteArray)(n:Nat):(padB s n).data.toList=s.data.toList++List.replicate (n-s.size) 0:=by
 rw[padB,ofBytes_list,List.map_append,bytes_id,List.map_replicate]
 rfl
theorem first_pad{s:ByteArray}{n i:Nat}(h:i<s.size):byteN (padB s n) i=byteN s i:=by
 rw[byteN_list,byteN_list,padB_list,List.getElem?_append_left (by rw[blen];exact h)]
theorem first_put{x:Nat}(h:x<256):byteN (putB (x:Int) 1) 0=x:=by
 rw[byteN_list,putB,if_pos ⟨by omega,by show(x:Int)<256;omega⟩,ofBytes_list]
 have e:lowB (x:Int) 1=[(x:Int)]:=by
  simp only[lowB,List.append_nil,List.nil_append,Int.pow_zero,Int.ediv_one]
  rw[Int.emod_eq_of_lt (by omega) (by omega)]
 rw[e]
 simp only[List.map_cons,List.map_nil,List.getElem?_cons_zero,Int.toNat_natCast]
 rw[UInt8.toNat_ofNat']
 exact Nat.mod_eq_of_lt h
theorem aclS_first{l:List PAcl}(h:l.length≤6):∀i,byteN (aclS l i) 0=l.length∧0<(aclS l i).size
 |0=>by
  refine⟨first_put (by omega), ?_⟩
  rw[aclS,putB,if_pos ⟨by omega,by show(l.length:Int)<256;omega⟩,ofBytes_size,lowB_len];omega
 |i+1=>by
  obtain⟨h1,h2⟩:=aclS_first h i
  simp only[aclS]
  cases l[i]? with
  |none=>exact⟨h1,h2⟩
  |some e=>exact⟨by show byteN (aclS l i++entB e) 0=_;rw[first_app h2,h1],by show 0<(aclS l i++entB e).size;rw[app_size];omega⟩
theorem packA_first{l:List PAcl}(h:l.length≤6):byteN (packA l) 0=l.length:=by
 obtain⟨h1,h2⟩:=aclS_first h l.length
 rw[packA,first_pad h2,h1]
open Classical in
noncomputable def packX(l:List PAcl):ByteArray:=if aclP l then packA l else⟨#[]⟩
theorem impl_PackAclX_ev(l:List PAcl):Ev (fun k=>c_impl_PackAcl k l) (packX l):=by
 by_cases h:aclP l
 ·rw[packX,if_pos h];exact impl_PackAcl_ev h
 ·rw[packX,if_neg h]
  obtain⟨b,e1,e2⟩:=impl_IsAcl_say l
  have hb:b=false:=by
   cases b with
   |false=>rfl
   |true=>exact absurd (e2.1 rfl) h
  subst hb
  refine EvQ.run (fun k=>impl_PackAcl_run k _) ?_
  simp only[impl_PackAcl]
  refine EvQ.bind e1 ?_
  simp only[Bool.not_false,cond_true]
  exact EvQ.const _
theorem spec_PackAclX_ev(l:List PAcl)(hl:l.length<big):Ev (fun k=>c_spec_PackAcl k l) (packX l):=by
 by_cases h:aclP l
 ·rw[packX,if_pos h];exact spec_PackAcl_ev h
 ·rw[packX,if_neg h]
  obtain⟨b,e1,e2⟩:=spec_IsAcl_say l hl
  have hb:b=false:=by
   cases b with
   |false=>rfl
   |true=>exact absurd (e2.1 rfl) h
  subst hb
  refine EvQ.run (fun k=>spec_PackAcl_run k _) ?_
  simp only[spec_PackAcl]
  refine EvQ.bind e1 ?_
  simp only[Bool.not_false,cond_true]
  exact EvQ.const _
def entN(s:ByteArray)(i:Nat):PAcl:=((byteN s (3*i+1):Int),(byteN s (3*i+2):Int),(byteN s (3*i+3):Int))
def decL(s:ByteArray):Nat→List PAcl
 |0=>[]
 |n+1=>decL s n++[entN s n]
theorem decL_len(s:ByteArray):∀n,(decL s n).length=n
 |0=>rfl
 |n+1=>by rw[decL,List.length_append,decL_len s n];rfl
open Classical in
noncomputable def decA(s:ByteArray):List PAcl×Bool:=if s.size=19∧byteN s 0≤6∧packX (decL s (byteN s 0))=s then(decL s (byteN s 0),true)else([],false)
theorem decA_size{s:ByteArray}(h:¬s.size=19):decA s=([],false):=by
 rw[decA,if_neg fun h'=>h h'.1]
theorem decA_big{s:ByteArray}(h:6<byteN s 0):decA s=([],false):=by
 rw[decA,if_neg fun h'=>by omega]
theorem impl_UnpackAcl_ev(s:ByteArray):Ev (fun k=>c_impl_UnpackAcl k s) (decA s):=by
 refine EvQ.run (fun k=>impl_UnpackAcl_run k _) ?_
 simp only[impl_UnpackAcl]
 by_cases h:s.size=19
 case neg=>
  rw[show((s.size:Int) != (19:Int))=true by simp;omega]
  simp only[cond_true]
  rw[decA_size h];exact EvQ.const _
 rw[show((s.size:Int) != (19:Int))=false by simp;omega]
 have b0:=byteN_lt s 0
 simp only[cond_false,Int.le_refl,if_true,show(0:Int).toNat=0 from rfl,byte_at (show 0<s.size by omega),Option.bind_some]
 by_cases h6:byteN s 0≤6
 case neg=>
  rw[show decide ((6:Int)<(byteN s 0:Int))=true by simp;omega]
  simp only[cond_true]
  rw[decA_big (by omega)];exact EvQ.const _
 rw[show decide ((6:Int)<(byteN s 0:Int))=false by simp;omega]
 simp only[cond_false,wnat (show byteN s 0<4611686018427387904 by omega)]
 refine EvL.ev ?_
 refine EvL.count (L:=impl_UnpackAcl_l1) (r:=decA s) (fun i=>(s,decL s i,(byteN s 0:Int),(i:Int))) (byteN s 0) (fun i hi=> ?_) (EvL.stop ?_)
 ·have w1:wrapK .i64 ((3:Int)*(i:Int))=((3*i:Nat):Int):=by rw[i64w (by omega) (by omega)];omega
  have w2:wrapK .i64 ((1:Int)+((3*i:Nat):Int))=((3*i+1:Nat):Int):=by rw[i64w (by omega) (by omega)];omega
  have w3:wrapK .i64 ((2:Int)+((3*i:Nat):Int))=((3*i+2:Nat):Int):=by rw[i64w (by omega) (by omega)];omega
  have w4:wrapK .i64 ((3:Int)+((3*i:Nat):Int))=((3*i+3:Nat):Int):=by rw[i64w (by omega) (by omega)];omega
  have w5:wrapK .i64 ((i:Int)+1)=((i+1:Nat):Int):=by rw[i64w (by omega) (by omega)];omega
  have q1:=byteN_lt s (3*i+1)
  have q2:=byteN_lt s (3*i+2)
  have q3:=byteN_lt s (3*i+3)
  have hc:((decL s i).length+[entN s i].length)*24≤capBytes:=by
   rw[decL_len];show(i+1)*24≤capBytes;unfold capBytes;omega
  simp only[EvS,impl_UnpackAcl_l1,Int.ofNat_lt,hi,decide_true,cond_true,w1,w2,w3,w4,w5,Int.natCast_nonneg,if_true,Int.toNat_natCast,byte_at (show 3*i+1<s.size by omega),byte_at (show 3*i+2<s.size by omega),byte_at (show 3*i+3<s.size by omega),Option.bind_some,wnat (show byteN s (3*i+1)<4611686018427387904 by omega),wnat (show byteN s (3*i+2)<4611686018427387904 by omega),wnat (show byteN s (3*i+3)<4611686018427387904 by omega)]
  refine EvQ.congr (fun k=> ?_) (EvQ.const _)
  funext self
  exact if_pos hc
 ·simp only[impl_UnpackAcl_l1,Int.lt_irrefl,decide_false,cond_false]
  refine EvQ.bindS (impl_PackAclX_ev _) ?_
  cases hq:eqS (packX (decL s (byteN s 0))) s with
  |true=>
   simp only[Bool.not_true,cond_false]
   rw[decA,if_pos ⟨h,h6,(eqS_iff _ _).1 hq⟩]
   exact EvQ.const _
  |false=>
   simp only[Bool.not_false,cond_true]
   rw[decA,if_neg fun h'=>by rw[(eqS_iff _ _).2 h'.2.2]at hq;cases hq]
   exact EvQ.const _
theorem packX_ne{s:ByteArray}{l:List PAcl}(h1:l.length≤6)(h2:0<s.size)(h3:byteN s 0≠l.length):eqS (packX l) s=false:=by
 cases hq:eqS (packX l) s with
 |false=>rfl
 |true=>
  have e:=(eqS_iff _ _).1 hq
  unfold packX at e
  split at e
  ·rw[←e,packA_first h1]at h3;exact absurd rfl h3
  ·rw[←e]at h2;exact absurd h2 (Nat.lt_irrefl 0)
theorem spec_UnpackAcl_ev(s:ByteArray):Ev (fun k=>c_spec_UnpackAcl k s) (decA s):=by
 refine EvQ.run (fun k=>spec_UnpackAcl_run k _) ?_
 simp only[spec_UnpackAcl]
 by_cases h:s.size=19
 case neg=>
  rw[show((s.size:Int) != (19:Int))=true by simp;omega]
  simp only[cond_true]
  rw[decA_size h];exact EvQ.const _
 rw[show((s.size:Int) != (19:Int))=false by simp;omega]
 have b0:=byteN_lt s 0
 simp only[cond_false]
 refine EvL.ev ?_
 obtain⟨m,hm⟩:∃m,m=min (byteN s 0) 6:=⟨_,rfl⟩
 have hm6:m≤6:=by omega
 have h0:wrapK .i64 (byteN s 0:Int)=(byteN s 0:Int):=wnat (by omega)
 refine EvL.count (L:=spec_UnpackAcl_l1) (r:=decA s) (fun i=>(s,decL s i,(i:Int))) m (fun i hi=> ?_) (EvL.stop ?_)
 ·have w1:wrapK .i64 ((3:Int)*(i:Int))=((3*i:Nat):Int):=by rw[i64w (by omega) (by omega)];omega
  have w2:wrapK .i64 (((3*i:Nat):Int)+1)=((3*i+1:Nat):Int):=by rw[i64w (by omega) (by omega)];omega
  have w3:wrapK .i64 (((3*i:Nat):Int)+2)=((3*i+2:Nat):Int):=by rw[i64w (by omega) (by omega)];omega
  have w4:wrapK .i64 (((3*i:Nat):Int)+3)=((3*i+3:Nat):Int):=by rw[i64w (by omega) (by omega)];omega
  have w5:wrapK .i64 ((i:Int)+1)=((i+1:Nat):Int):=by rw[i64w (by omega) (by omega)];omega
  have q1:=byteN_lt s (3*i+1)
  have q2:=byteN_lt s (3*i+2)
  have q3:=byteN_lt s (3*i+3)
  have hc:((decL s i).length+[entN s i].length)*24≤capBytes:=by
   rw[decL_len];show(i+1)*24≤capBytes;unfold capBytes;omega
  simp only[EvS,spec_UnpackAcl_l1,Int.le_refl,if_true,show(0:Int).toNat=0 from rfl,byte_at (show 0<s.size by omega),Option.bind_some,h0,Int.ofNat_lt,show i<byteN s 0 by omega,show(i:Int)<6 by omega,decide_true,cond_true,w1,w2,w3,w4,w5,Int.natCast_nonneg,Int.toNat_natCast,byte_at (show 3*i+1<s.size by omega),byte_at (show 3*i+2<s.size by omega),byte_at (show 3*i+3<s.size by omega),wnat (show byteN s (3*i+1)<4611686018427387904 by omega),wnat (show byteN s (3*i+2)<4611686018427387904 by omega),wnat (show byteN s (3*i+3)<4611686018427387904 by omega)]
  refine EvQ.congr (fun k=> ?_) (EvQ.const _)
  funext self
  exact if_pos hc
 ·have fin:EvQ (fun k (self:(ByteArray×((List PAcl)×Int))→Option (List PAcl×Bool))=>(c_spec_PackAcl k (decL s m)).bind fun v5=>bif (!(eqS v5 s))then some (([]:List PAcl),false)else some (decL s m,true)) (fun _=>some (decA s)):=by
   refine EvQ.bindS (spec_PackAclX_ev _ (by rw[decL_len];unfold big;omega)) ?_
   by_cases h6:byteN s 0≤6
   ·have e:m=byteN s 0:=by omega
    rw[e]
    cases hq:eqS (packX (decL s (byteN s 0))) s with
    |true=>
     simp only[Bool.not_true,cond_false]
     rw[decA,if_pos ⟨h,h6,(eqS_iff _ _).1 hq⟩]
     exact EvQ.const _
    |false=>
     simp only[Bool.not_false,cond_true]
     rw[decA,if_neg fun h'=>by rw[(eqS_iff _ _).2 h'.2.2]at hq;cases hq]
     exact EvQ.const _
   ·rw[packX_ne (l:=decL s m) (by rw[decL_len];omega) (by omega) (by rw[decL_len];omega)]
    simp only[Bool.not_false,cond_true]
    rw[decA_big (by omega)]
    exact EvQ.const _
  simp only[spec_UnpackAcl_l1,Int.le_refl,if_true,show(0:Int).toNat=0 from rfl,byte_at (show 0<s.size by omega),Option.bind_some,h0]
  by_cases h6:byteN s 0≤6
  ·rw[show decide ((m:Int)<(byteN s 0:Int))=false by simp;omega]
   simp only[cond_false]
   exact fin
  ·rw[show decide ((m:Int)<(byteN s 0:Int))=true by simp;omega,show decide ((m:Int)<(6:Int))=false by simp;omega]
   simp only[cond_false,cond_true]
   exact fin
end Go.Proofs.YtmmgfgfkkpeedaaGreat

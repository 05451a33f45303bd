/- The tables, the residual functions and lemmas of this seat: parts of the proof of the law; conditions: those that each names. -/
import Derived.Test.YtmmgfgfkkpeedaaGreatUnp
set_option linter.unusedVariables false
set_option linter.unusedSimpArgs false
set_option maxRecDepth 100000
namespace Go.Proofs.YtmmgfgfkkpeedaaGreat
open Go.Eng
theorem clS(l:List ByteArray)(h:l.length≤1000):Ev (fun k=>c_slices_Clone_string_string k l) l:=
 EvQ.run (fun k=>c_slices_Clone_string_string_run k l) (by
  show EvQ (fun _=>ext_Clone .str 16 l) (some l)
  rw[show ext_Clone .str 16 l=some l from if_pos ⟨by unfold maxLen;omega,by omega⟩];exact EvQ.const _)
variable {l:List ByteArray}
theorem impl_l2(hl:l.length=186)(hs:∀i,(atB l i).size≤1048576):EvL impl_UnpackFS_l2 (l,(),okI l 0,(),(0:Int),((getR (atB l 0) 4 4).1,qL l 4,iL l 0,[]),zFS) (unpV l):=by
 refine EvL.count (L:=impl_UnpackFS_l2) (r:=unpV l) (fun i=>(l,(),okI l i,(),(i:Int),((getR (atB l 0) 4 4).1,qL l 4,iL l i,[]),zFS)) 20 (fun i hi=> ?_) (EvL.stop ?_)
 ·have w1:wrapK .i64 ((3:Int)*(i:Int))=((3*i:Nat):Int):=by rw[i64w (by omega) (by omega)];omega
  have w2:wrapK .i64 ((70:Int)+((3*i:Nat):Int))=((70+3*i:Nat):Int):=by rw[i64w (by omega) (by omega)];omega
  have w3:wrapK .i64 (((70+3*i:Nat):Int)+3)=((70+3*i+3:Nat):Int):=by rw[i64w (by omega) (by omega)];omega
  have w5:wrapK .i64 ((i:Int)+1)=((i+1:Nat):Int):=by rw[i64w (by omega) (by omega)];omega
  have c1:((70+3*i+3:Nat):Int)≤(l.length:Int):=by omega
  have c2:((70+3*i:Nat):Int)≤((70+3*i+3:Nat):Int):=by omega
  have hsz:(sI l i).size≤10000000:=by
   have h1:=hs (70+3*i);have h2:=hs (71+3*i);have h3:=hs (72+3*i)
   rw[sI,app_size,app_size];omega
  have e71:atB l (70+3*i+1)=atB l (71+3*i):=by rw[show 70+3*i+1=71+3*i by omega]
  have e72:atB l (70+3*i+2)=atB l (72+3*i):=by rw[show 70+3*i+2=72+3*i by omega]
  have hj:=join3_ev (atB l (70+3*i)) (atB l (70+3*i+1)) (atB l (70+3*i+2)) (by have:=hs (70+3*i);omega) (by have:=hs (70+3*i+1);omega) (by have:=hs (70+3*i+2);omega)
  have hc:((iL l i).length+[(decI (sI l i)).1].length)*128≤capBytes:=by
   rw[iL_len];show(i+1)*128≤capBytes;unfold capBytes;omega
  rw[e71,e72]at hj
  simp only[EvS,impl_UnpackFS_l2,show(i:Int)<20 by omega,decide_true,cond_true,w1,w2,w3,w5,Int.natCast_nonneg,if_true,c1,c2,Int.toNat_natCast,three (show 70+3*i+3≤l.length by omega),e71,e72]
  refine EvQ.bindS hj (EvQ.bindS (impl_UnpackInode_ev (sI l i) hsz) ?_)
  refine EvQ.congr (g:=fun k self=>bif okI l i then self (l,(),(decI (sI l i)).2,(),((i+1:Nat):Int),((getR (atB l 0) 4 4).1,qL l 4,iL l (i+1),[]),zFS)else self (l,(),false,(),((i+1:Nat):Int),((getR (atB l 0) 4 4).1,qL l 4,iL l (i+1),[]),zFS)) (fun k=> ?_) ?_
  ·funext self
   exact if_pos hc
  ·cases ho:okI l i with
   |true=>
    have e:okI l (i+1)=(decI (sI l i)).2:=by rw[okI,ho];rfl
    simp only[cond_true,e]
    exact EvQ.const _
   |false=>
    have e:okI l (i+1)=false:=by rw[okI,ho];rfl
    simp only[cond_false,e]
    exact EvQ.const _
 ·have c1:(130:Int)≤(l.length:Int):=by omega
  have hd:(l.drop 130).length=56:=by rw[List.length_drop];omega
  have hu:unpV l=endV l (okI l 20) (fOf l):=if_pos hl
  simp only[impl_UnpackFS_l2,show ¬((20:Nat):Int)<20 by omega,decide_false,cond_false,show(0:Int)≤130 by omega,c1,if_true,List.take_length,show((130:Int).toNat)=130 from rfl]
  refine EvQ.bindS (clS (l.drop 130) (by omega)) ?_
  rw[hu]
  cases ho:okI l 20 with
  |false=>
   simp only[Bool.not_false,cond_true]
   rw[endV,if_neg (by simp)]
   exact EvQ.const _
  |true=>
   simp only[Bool.not_true,cond_false]
   by_cases hP:fsP (fOf l)
   ·have e1:=say_true (impl_IsFS_say (fOf l) (fOf_small l)) hP
    refine EvQ.bindS e1 ?_
    simp only[Bool.not_true,cond_false]
    refine EvQ.bindS (impl_Pack_ev hP (fOf_small l) e1) ?_
    rw[endV,if_pos ⟨rfl,hP⟩]
    exact EvQ.lift (EvL.ev (cmp_impl (packV_ok hP).1 hl _ 0 (by omega)))
   ·refine EvQ.bindS (say_false (impl_IsFS_say (fOf l) (fOf_small l)) hP) ?_
    simp only[Bool.not_false,cond_true]
    rw[endV,if_neg fun h=>hP h.2]
    exact EvQ.const _
theorem impl_UnpackFS_ev(hs:∀i,(atB l i).size≤1048576)(hl8:l.length≤1048576):Ev (fun k=>c_impl_UnpackFS k l) (unpV l):=by
 refine EvQ.run (fun k=>impl_UnpackFS_run k _) ?_
 simp only[impl_UnpackFS]
 by_cases hl:l.length=186
 case neg=>
  rw[show((l.length:Int) != (186:Int))=true by simp;omega]
  simp only[cond_true]
  rw[unpV,if_neg hl];exact EvQ.const _
 rw[show((l.length:Int) != (186:Int))=false by simp;omega]
 have g:∀a w:Nat,1≤w→w≤6→a≤100→Ev (fun k=>c_impl_GetNumber k (atB l 0,(a:Int),(w:Int))) (getR (atB l 0) a w):=fun a w h1 h2 h3=>impl_Get_ev _ a w h1 h2 (by omega) (by have:=hs 0;omega)
 simp only[cond_false,Int.le_refl,if_true,show((0:Int).toNat)=0 from rfl,atB_get (show 0<l.length by omega),Option.bind_some]
 refine EvQ.bind (g 4 4 (by omega) (by omega) (by omega)) (EvL.ev ?_)
 refine EvL.count (L:=impl_UnpackFS_l3) (r:=unpV l) (fun i=>(l,(),okQ l i,(),(i:Int),((getR (atB l 0) 4 4).1,qL l i,[],[]),zFS)) 4 (fun i hi=> ?_) (EvL.stop ?_)
 ·have w1:wrapK .i64 ((2:Int)*(i:Int))=((2*i:Nat):Int):=by rw[i64w (by omega) (by omega)];omega
  have w2:wrapK .i64 ((8:Int)+((2*i:Nat):Int))=((8+2*i:Nat):Int):=by rw[i64w (by omega) (by omega)];omega
  have w3:wrapK .i64 ((9:Int)+((2*i:Nat):Int))=((9+2*i:Nat):Int):=by rw[i64w (by omega) (by omega)];omega
  have w5:wrapK .i64 ((i:Int)+1)=((i+1:Nat):Int):=by rw[i64w (by omega) (by omega)];omega
  have hc:((qL l i).length+[((qR l i).1.1,(qR l i).2.1)].length)*16≤capBytes:=by
   rw[qL_len];show(i+1)*16≤capBytes;unfold capBytes;omega
  simp only[EvS,impl_UnpackFS_l3,show(i:Int)<4 by omega,decide_true,cond_true,w1,w2,w3,w5,Int.le_refl,if_true,show((0:Int).toNat)=0 from rfl,atB_get (show 0<l.length by omega),Option.bind_some]
  refine EvQ.bindS (g (8+2*i) 1 (by omega) (by omega) (by omega)) (EvQ.bindS (g (9+2*i) 1 (by omega) (by omega) (by omega)) ?_)
  refine EvQ.congr (g:=fun k self=>bif okQ l i then(bif (qR l i).1.2 then self (l,(),(qR l i).2.2,(),((i+1:Nat):Int),((getR (atB l 0) 4 4).1,qL l (i+1),[],[]),zFS)else self (l,(),false,(),((i+1:Nat):Int),((getR (atB l 0) 4 4).1,qL l (i+1),[],[]),zFS))else self (l,(),false,(),((i+1:Nat):Int),((getR (atB l 0) 4 4).1,qL l (i+1),[],[]),zFS)) (fun k=> ?_) ?_
  ·funext self
   exact if_pos hc
  ·cases ho:okQ l i with
   |true=>
    cases hr:(qR l i).1.2 with
    |true=>
     have e:okQ l (i+1)=(qR l i).2.2:=by rw[okQ,ho,hr];rfl
     simp only[cond_true,e]
     exact EvQ.const _
    |false=>
     have e:okQ l (i+1)=false:=by rw[okQ,ho,hr];rfl
     simp only[cond_true,cond_false,e]
     exact EvQ.const _
   |false=>
    have e:okQ l (i+1)=false:=by rw[okQ,ho];rfl
    simp only[cond_false,e]
    exact EvQ.const _
 ·simp only[impl_UnpackFS_l3,show ¬((4:Nat):Int)<4 by omega,decide_false,cond_false]
  exact EvQ.lift (EvL.ev (impl_l2 hl hs))
theorem getR_one{s:ByteArray}{a:Nat}(h:a<s.size):getR s a 1=((byteN s a:Int),true):=by
 rw[getR,if_pos (by omega)]
 show(((0*256+byteN s (a+0):Nat):Int),true)=_
 rw[Nat.zero_mul,Nat.zero_add,Nat.add_zero]
theorem okQ_full(h:(atB l 0).size=32):∀i,i≤4→okQ l i=true
 |0,_=>by rw[okQ,getR_ok (by omega)]
 |i+1,hi=>by
  rw[okQ,okQ_full h i (by omega),qR,getR_one (by omega),getR_one (by omega)];rfl
theorem spec_l2(hl:l.length=186)(hs:∀i,(atB l i).size≤1048576):∀m i,i+m=20→okI l i=true→EvL spec_UnpackFS_l2 (l,(),(),(i:Int),((getR (atB l 0) 4 4).1,qL l 4,iL l i,[]),zFS) (unpV l)
 |0,i,h,ho=>by
  have hi:i=20:=by omega
  subst hi
  refine EvL.stop ?_
  have c1:(130:Int)≤(l.length:Int):=by omega
  have hd:(l.drop 130).length=56:=by rw[List.length_drop];omega
  have hu:unpV l=endV l (okI l 20) (fOf l):=if_pos hl
  have hc:(([]:List ByteArray).length+(l.drop 130).length)*16≤capBytes:=by rw[hd];unfold capBytes;simp
  simp only[spec_UnpackFS_l2,show ¬((20:Nat):Int)<20 by omega,decide_false,cond_false,show(0:Int)≤130 by omega,c1,if_true,List.take_length,show((130:Int).toNat)=130 from rfl,List.nil_append,hc]
  rw[hu,ho]
  have hb:∀s∈fD (fOf l),s.size<big:=fun s hsm=>by
   have hm:s∈l:=List.mem_of_mem_drop (show s∈l.drop 130 from hsm)
   obtain⟨j,hj⟩:=List.mem_iff_getElem?.1 hm
   have hjl:j<l.length:=(List.getElem?_eq_some_iff.1 hj).1
   have:=hs j
   rw[atB_get hjl]at hj
   injection hj with hj
   rw[←hj];unfold big;omega
  by_cases hP:fsP (fOf l)
  ·refine EvQ.bindS (say_true (spec_IsFS_say (fOf l) (fOf_small l) hb) hP) ?_
   simp only[Bool.not_true,cond_false]
   refine EvQ.bindS (spec_Pack_ev hP (fOf_small l)) ?_
   rw[endV,if_pos ⟨rfl,hP⟩]
   exact EvQ.lift (EvL.ev (cmp_spec (packV_ok hP).1 hl _ 0 (by omega)))
  ·refine EvQ.bindS (say_false (spec_IsFS_say (fOf l) (fOf_small l) hb) hP) ?_
   simp only[Bool.not_false,cond_true]
   rw[endV,if_neg fun h=>hP h.2]
   exact EvQ.const _
 |m+1,i,h,ho=>by
  have w1:wrapK .i64 ((3:Int)*(i:Int))=((3*i:Nat):Int):=by rw[i64w (by omega) (by omega)];omega
  have w2:wrapK .i64 ((70:Int)+((3*i:Nat):Int))=((70+3*i:Nat):Int):=by rw[i64w (by omega) (by omega)];omega
  have w3:wrapK .i64 (((70+3*i:Nat):Int)+1)=((71+3*i:Nat):Int):=by rw[i64w (by omega) (by omega)];omega
  have w4:wrapK .i64 (((70+3*i:Nat):Int)+2)=((72+3*i:Nat):Int):=by rw[i64w (by omega) (by omega)];omega
  have w5:wrapK .i64 ((i:Int)+1)=((i+1:Nat):Int):=by rw[i64w (by omega) (by omega)];omega
  have h1:=hs (70+3*i)
  have h2:=hs (71+3*i)
  have h3:=hs (72+3*i)
  have hsz:(sI l i).size≤10000000:=by
   rw[sI,app_size,app_size];omega
  have k1:(atB l (70+3*i)).size+(atB l (71+3*i)).size≤9223372036854775807:=by omega
  have k2:(atB l (70+3*i)++atB l (71+3*i)).size+(atB l (72+3*i)).size≤9223372036854775807:=by rw[app_size];omega
  have hc:((iL l i).length+[(decI (sI l i)).1].length)*128≤capBytes:=by
   rw[iL_len];show(i+1)*128≤capBytes;unfold capBytes;omega
  cases hr:(decI (sI l i)).2 with
  |false=>
   have hx:okI l (i+1)=false:=by rw[okI,ho,hr];rfl
   have h20:okI l 20=false:=by
    have:=okI_mono hx m
    rw[show i+1+m=20 by omega]at this;exact this
   have hu:unpV l=(zFS,false):=by rw[unpV,if_pos hl,endV,if_neg (by rw[h20];simp)]
   rw[hu]
   refine EvL.stop ?_
   simp only[spec_UnpackFS_l2,show(i:Int)<20 by omega,decide_true,cond_true,w1,w2,w3,w4,w5,Int.natCast_nonneg,if_true,Int.toNat_natCast,atB_get (show 70+3*i<l.length by omega),atB_get (show 71+3*i<l.length by omega),atB_get (show 72+3*i<l.length by omega),Option.bind_some,k1,k2]
   refine EvQ.bindS (spec_UnpackInode_ev (sI l i) hsz) ?_
   simp only[hr,Bool.not_false,cond_true]
   exact EvQ.const _
  |true=>
   have hx:okI l (i+1)=true:=by rw[okI,ho,hr];rfl
   refine EvL.step ?_ (spec_l2 hl hs m (i+1) (by omega) hx)
   simp only[EvS,spec_UnpackFS_l2,show(i:Int)<20 by omega,decide_true,cond_true,w1,w2,w3,w4,w5,Int.natCast_nonneg,if_true,Int.toNat_natCast,atB_get (show 70+3*i<l.length by omega),atB_get (show 71+3*i<l.length by omega),atB_get (show 72+3*i<l.length by omega),Option.bind_some,k1,k2]
   refine EvQ.bindS (spec_UnpackInode_ev (sI l i) hsz) ?_
   simp only[hr,Bool.not_true,cond_false]
   refine EvQ.congr (fun k=> ?_) (EvQ.const _)
   funext self
   exact if_pos hc
theorem super_full{f:PFS}(hP:fsP f):(superB f).size=32:=by
 have h1:=sup_size f (fQ f).length
 have h2:=hP.nq
 rw[superB,padB_size];omega
theorem packV_head(f:PFS):(packV f)[0]? =some (superB f):=by
 have key:∀i,(packL f i)[0]? =some (superB f):=by
  intro i
  induction i with
  |zero=>rfl
  |succ i ih=>
   simp only[packL]
   cases(fI f)[i]? with
   |none=>exact ih
   |some n=>simp only[List.getElem?_append_left (List.getElem?_eq_some_iff.1 ih).1,ih]
 rw[packV,List.getElem?_append_left (List.getElem?_eq_some_iff.1 (key 20)).1,key]
theorem unp_short(h:(atB l 0).size≠32):unpV l=(zFS,false):=by
 unfold unpV
 split
 ·unfold endV
  split
  ·rename_i hq
   have h0:=packV_head (fOf l)
   have hlen:0<(packV (fOf l)).length:=(List.getElem?_eq_some_iff.1 h0).1
   obtain⟨m,hm⟩:∃m,(packV (fOf l)).length=m+1:=⟨(packV (fOf l)).length-1,by omega⟩
   have he:atB (packV (fOf l)) 0=superB (fOf l):=by rw[atB,h0];rfl
   rw[hm]
   exact if_pos ⟨.inl (by omega),fun e=>by rw[he]at e;rw[←e,super_full hq.2]at h;exact h rfl⟩
  ·rfl
 ·rfl
theorem spec_UnpackFS_ev(hs:∀i,(atB l i).size≤1048576)(hl8:l.length≤1048576):Ev (fun k=>c_spec_UnpackFS k l) (unpV l):=by
 refine EvQ.run (fun k=>spec_UnpackFS_run k _) ?_
 simp only[spec_UnpackFS]
 by_cases hl:l.length=186
 case neg=>
  rw[show((l.length:Int) != (186:Int))=true by simp;omega]
  simp only[cond_true]
  rw[unpV,if_neg hl];exact EvQ.const _
 rw[show((l.length:Int) != (186:Int))=false by simp;omega]
 simp only[cond_false,Int.le_refl,if_true,show((0:Int).toNat)=0 from rfl,atB_get (show 0<l.length by omega),Option.bind_some]
 by_cases h32:(atB l 0).size=32
 case neg=>
  rw[show(((atB l 0).size:Int) != (32:Int))=true by simp;omega]
  simp only[cond_true]
  rw[unp_short h32];exact EvQ.const _
 rw[show(((atB l 0).size:Int) != (32:Int))=false by simp;omega]
 simp only[cond_false]
 refine EvQ.bind (spec_Get_ev (atB l 0) 4 4 (by omega) (by omega) (by omega) (by have:=hs 0;omega)) (EvL.ev ?_)
 refine EvL.count (L:=spec_UnpackFS_l3) (r:=unpV l) (fun i=>(l,(),(),(i:Int),((getR (atB l 0) 4 4).1,qL l i,[],[]),zFS)) 4 (fun i hi=> ?_) (EvL.stop ?_)
 ·have w1:wrapK .i64 ((2:Int)*(i:Int))=((2*i:Nat):Int):=by rw[i64w (by omega) (by omega)];omega
  have w2:wrapK .i64 ((8:Int)+((2*i:Nat):Int))=((8+2*i:Nat):Int):=by rw[i64w (by omega) (by omega)];omega
  have w3:wrapK .i64 ((9:Int)+((2*i:Nat):Int))=((9+2*i:Nat):Int):=by rw[i64w (by omega) (by omega)];omega
  have w5:wrapK .i64 ((i:Int)+1)=((i+1:Nat):Int):=by rw[i64w (by omega) (by omega)];omega
  have b1:=byteN_lt (atB l 0) (8+2*i)
  have b2:=byteN_lt (atB l 0) (9+2*i)
  have hc:((qL l i).length+[((byteN (atB l 0) (8+2*i):Int),(byteN (atB l 0) (9+2*i):Int))].length)*16≤capBytes:=by
   rw[qL_len];show(i+1)*16≤capBytes;unfold capBytes;omega
  have e:qL l (i+1)=qL l i++[((byteN (atB l 0) (8+2*i):Int),(byteN (atB l 0) (9+2*i):Int))]:=by
   rw[qL,qR,getR_one (by omega),getR_one (by omega)]
  simp only[EvS,spec_UnpackFS_l3,show(i:Int)<4 by omega,decide_true,cond_true,w1,w2,w3,w5,Int.le_refl,if_true,show((0:Int).toNat)=0 from rfl,atB_get (show 0<l.length by omega),Option.bind_some,Int.natCast_nonneg,Int.toNat_natCast,byte_at (show 8+2*i<(atB l 0).size by omega),byte_at (show 9+2*i<(atB l 0).size by omega),wnat (show byteN (atB l 0) (8+2*i)<4611686018427387904 by omega),wnat (show byteN (atB l 0) (9+2*i)<4611686018427387904 by omega),e]
  refine EvQ.congr (fun k=> ?_) (EvQ.const _)
  funext self
  exact if_pos hc
 ·simp only[spec_UnpackFS_l3,show ¬((4:Nat):Int)<4 by omega,decide_false,cond_false]
  exact EvQ.lift (EvL.ev (spec_l2 hl hs 20 0 (by omega) (okQ_full h32 4 (by omega))))
end Go.Proofs.YtmmgfgfkkpeedaaGreat

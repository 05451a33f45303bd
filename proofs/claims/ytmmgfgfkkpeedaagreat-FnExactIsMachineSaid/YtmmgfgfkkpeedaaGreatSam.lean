/- The tables, the residual functions and lemmas of this seat: parts of the proof of the law; conditions: those that each names. -/
import Derived.Test.YtmmgfgfkkpeedaaGreatIno
import Derived.Test.YtmmgfgfkkpeedaaGreatFsS
set_option linter.unusedVariables false
set_option linter.unusedSimpArgs false
set_option maxRecDepth 100000
namespace Go.Proofs.YtmmgfgfkkpeedaaGreat
open Go.Eng
theorem eqB_quota(a b:PQuota):((a.1==b.1)&&(a.2==b.2))=true↔a=b:=by
 rw[Bool.and_eq_true,beq_iff_eq,beq_iff_eq]
 exact⟨fun h=>Prod.ext h.1 h.2,fun h=>by subst h;exact⟨rfl,rfl⟩⟩
theorem Equal_str_say(a b:List ByteArray)(hl:a.length<big):Say (fun k=>c_slices_Equal_string_string k (a,b)) (a=b):=by
 refine Say.run (fun k=>slices_Equal_string_string_run k a b) (Say.of ?_)
 simp only[slices_Equal_string_string]
 refine EvX.bif (fun h=>EvX.const _ (GP.no (len_ne h))) (fun h=> ?_)
 exact Say.iter (eqRow_say eqS eqS_iff (L:=slices_Equal_string_string_l1) a b (fun i=>(a,b,(a.length:Int),(i:Int))) (fun k self i x y hx hy hi _ hw=>by
  simp only[slices_Equal_string_string_l1,Int.ofNat_lt,hi,decide_true,cond_true,Int.natCast_nonneg,if_true,Int.toNat_natCast,hx,hy,Option.bind_some,hw]) (fun k self=>by
  simp only[slices_Equal_string_string_l1,Int.lt_irrefl,decide_false,cond_false]) (len_eq h) hl)
theorem Texts_say(a b:List ByteArray)(hl:a.length<big):Say (fun k=>c_spec_l02Texts k (a,b)) (a=b):=by
 refine Say.run (fun k=>spec_l02Texts_run k a b) (Say.of ?_)
 simp only[spec_l02Texts]
 refine EvX.bif (fun h=>EvX.const _ (GP.no (len_ne h))) (fun h=> ?_)
 exact Say.iter (eqRow_say eqS eqS_iff (L:=spec_l02Texts_l1) a b (fun i=>(b,a,(a.length:Int),(i:Int))) (fun k self i x y hx hy hi _ hw=>by
  simp only[spec_l02Texts_l1,Int.ofNat_lt,hi,decide_true,cond_true,Int.natCast_nonneg,if_true,Int.toNat_natCast,hx,hy,Option.bind_some,hw]) (fun k self=>by
  simp only[spec_l02Texts_l1,Int.lt_irrefl,decide_false,cond_false]) (len_eq h) hl)
theorem Equal_quota_say(a b:List PQuota)(hl:a.length<big):Say (fun k=>c_slices_Equal_impl_Quota_impl_Quota k (a,b)) (a=b):=by
 refine Say.run (fun k=>slices_Equal_impl_Quota_impl_Quota_run k a b) (Say.of ?_)
 simp only[slices_Equal_impl_Quota_impl_Quota]
 refine EvX.bif (fun h=>EvX.const _ (GP.no (len_ne h))) (fun h=> ?_)
 exact Say.iter (eqRow_say (fun a b=>(a.1==b.1)&&(a.2==b.2)) eqB_quota (L:=slices_Equal_impl_Quota_impl_Quota_l1) a b (fun i=>(a,b,(a.length:Int),(i:Int))) (fun k self i x y hx hy hi _ hw=>by
  simp only[slices_Equal_impl_Quota_impl_Quota_l1,Int.ofNat_lt,hi,decide_true,cond_true,Int.natCast_nonneg,if_true,Int.toNat_natCast,hx,hy,Option.bind_some,hw]) (fun k self=>by
  simp only[slices_Equal_impl_Quota_impl_Quota_l1,Int.lt_irrefl,decide_false,cond_false]) (len_eq h) hl)
def fsLens(a:PFS):Prop:=(fQ a).length<big∧(fI a).length<big∧(fD a).length<big
theorem fs_ext{a b:PFS}(h1:a.1=b.1)(h2:fQ a=fQ b)(h3:fI a=fI b)(h4:fD a=fD b):a=b:=Prod.ext h1 (Prod.ext h2 (Prod.ext h3 h4))
theorem impl_SameFS_say(a b:PFS)(hs:fsSmall a)(hl:fsLens a):Say (fun k=>c_impl_SameFS k (a,b)) (a=b):=by
 obtain⟨l1,l2,l3⟩:=hl
 refine Say.run (fun k=>impl_SameFS_run k a b) (Say.of ?_)
 simp only[impl_SameFS]
 refine EvX.bif (fun h1=> ?_) (fun h1=>EvX.const _ (GP.no fun hP=>by subst hP;simp at h1))
 have h1:a.1=b.1:=by simpa using h1
 refine EvX.say (Equal_quota_say a.2.1 b.2.1 l1) fun y hy=>EvX.bif (fun h2=> ?_) (fun h2=>EvX.const _ (GP.no fun hP=>by subst hP;rw[hy.2 rfl]at h2;cases h2))
 have h2:=hy.1 h2
 refine EvX.bif (fun h=>EvX.const _ (GP.no fun hP=>len_ne h (by rw[hP]))) (fun h=> ?_)
 have h3:=len_eq h
 unfold big at l2
 refine EvX.list (L:=fun k _=>impl_SameFS_l1 k) (fI a) (fun(_:Unit) i=>(fI b,(),fI a,((fI a).length:Int),(i:Int),b,a)) (fun _ i=>(fI a).take i=(fI b).take i) (fun _ i e hx hi inv=> ?_) (fun _ inv=> ?_) () (by simp)
 ·have hw:wrapK .i64 ((i:Int)+1)=((i+1:Nat):Int):=by rw[i64w (by omega) (by omega)];omega
  have hlen:(fI a).length=(fI b).length:=h3
  have hy':(fI b)[i]? =some (fI b)[i]:=List.getElem?_eq_getElem (by omega)
  simp only[impl_SameFS_l1,Int.ofNat_lt,hi,decide_true,cond_true,Int.natCast_nonneg,if_true,Int.toNat_natCast,hx,hy',Option.bind_some,hw]
  refine EvX.say (impl_SameInode_say e (fI b)[i] (hs e (List.mem_of_getElem? hx))) fun z hz=>EvX.bif (fun h4=> ?_) (fun h4=> ?_)
  ·refine EvX.const _ (GL.ret (GP.no fun hP=> ?_))
   subst hP
   rw[hx]at hy'
   rw[hz.2 (Option.some.inj hy')]at h4;cases h4
  ·refine EvX.const _ (GL.self () rfl ?_)
   have:e=(fI b)[i]:=hz.1 (by simpa using h4)
   rw[List.take_add_one,List.take_add_one,inv,hx,hy',this]
 ·simp only[impl_SameFS_l1,Int.lt_irrefl,decide_false,cond_false]
  refine EvX.say (Equal_str_say a.2.2.2 b.2.2.2 l3) fun z hz=>EvX.const _ (GE.ret (GP.ret ?_))
  rw[hz]
  have hI:fI a=fI b:=by
   have hlen:(fI a).length=(fI b).length:=h3
   rw[List.take_length,hlen,List.take_length]at inv;exact inv
  exact⟨fun h=>fs_ext h1 h2 hI h,fun h=>by rw[h]⟩
theorem spec_SameFS_say(a b:PFS)(hs:fsSmall a)(hl:fsLens a):Say (fun k=>c_spec_SameFS k (a,b)) (a=b):=by
 obtain⟨l1,l2,l3⟩:=hl
 refine Say.run (fun k=>spec_SameFS_run k a b) (Say.of ?_)
 simp only[spec_SameFS]
 refine EvX.bif (fun h1=>EvX.const _ (GP.no fun hP=>by subst hP;simp at h1)) (fun h1=> ?_)
 have h1:a.1=b.1:=by simpa using h1
 refine EvX.bif (fun h=>EvX.const _ (GP.no fun hP=>len_ne h (by rw[hP]))) (fun h=> ?_)
 have hq:=len_eq h
 refine EvX.bif (fun h=>EvX.const _ (GP.no fun hP=>len_ne h (by rw[hP]))) (fun h=> ?_)
 have h3:=len_eq h
 refine EvX.say (Texts_say a.2.2.2 b.2.2.2 l3) fun y hy=>EvX.bif (fun h4=>EvX.const _ (GP.no fun hP=>by subst hP;rw[hy.2 rfl]at h4;cases h4)) (fun h4=> ?_)
 have h4:=hy.1 (by simpa using h4)
 unfold big at l1 l2
 refine EvX.list (L:=fun k _=>spec_SameFS_l2 k) (fQ a) (fun(_:Unit) i=>((),(),fQ a,((fQ a).length:Int),(i:Int),b,a)) (fun _ i=>(fQ a).take i=(fQ b).take i) (fun _ i e hx hi inv=> ?_) (fun _ inv=> ?_) () (by simp)
 ·have hw:wrapK .i64 ((i:Int)+1)=((i+1:Nat):Int):=by rw[i64w (by omega) (by omega)];omega
  have hlen:(fQ a).length=(fQ b).length:=hq
  have hy':(fQ b)[i]? =some (fQ b)[i]:=List.getElem?_eq_getElem (by omega)
  simp only[spec_SameFS_l2,Int.ofNat_lt,hi,decide_true,cond_true,Int.natCast_nonneg,if_true,Int.toNat_natCast,hx,hy',Option.bind_some,hw]
  refine EvX.bif (fun h5=> ?_) (fun h5=> ?_)
  ·refine EvX.const _ (GL.ret (GP.no fun hP=> ?_))
   subst hP
   rw[hx]at hy'
   rw[(eqB_quota _ _).2 (Option.some.inj hy')]at h5;cases h5
  ·refine EvX.const _ (GL.self () rfl ?_)
   have:e=(fQ b)[i]:=(eqB_quota _ _).1 (by simpa using h5)
   rw[List.take_add_one,List.take_add_one,inv,hx,hy',this]
 ·simp only[spec_SameFS_l2,Int.lt_irrefl,decide_false,cond_false]
  have hQ:fQ a=fQ b:=by
   have hlen:(fQ a).length=(fQ b).length:=hq
   rw[List.take_length,hlen,List.take_length]at inv;exact inv
  refine EvX.out (F:=fun k _=>iter k (spec_SameFS_l1 k) ((),fI a,((fI a).length:Int),(0:Int),b)) ?_
  refine EvX.list (L:=fun k _=>spec_SameFS_l1 k) (fI a) (fun(_:Unit) i=>((),fI a,((fI a).length:Int),(i:Int),b)) (fun _ i=>(fI a).take i=(fI b).take i) (fun _ i e hx hi inv2=> ?_) (fun _ inv2=> ?_) () (by simp)
  ·have hw:wrapK .i64 ((i:Int)+1)=((i+1:Nat):Int):=by rw[i64w (by omega) (by omega)];omega
   have hlen:(fI a).length=(fI b).length:=h3
   have hy':(fI b)[i]? =some (fI b)[i]:=List.getElem?_eq_getElem (by omega)
   simp only[spec_SameFS_l1,Int.ofNat_lt,hi,decide_true,cond_true,Int.natCast_nonneg,if_true,Int.toNat_natCast,hx,hy',Option.bind_some,hw]
   refine EvX.say (spec_SameInode_say e (fI b)[i] (hs e (List.mem_of_getElem? hx))) fun z hz=>EvX.bif (fun h6=> ?_) (fun h6=> ?_)
   ·refine EvX.const _ (GL.ret (GP.no fun hP=> ?_))
    subst hP
    rw[hx]at hy'
    rw[hz.2 (Option.some.inj hy')]at h6;cases h6
   ·refine EvX.const _ (GL.self () rfl ?_)
    have:e=(fI b)[i]:=hz.1 (by simpa using h6)
    rw[List.take_add_one,List.take_add_one,inv2,hx,hy',this]
  ·simp only[spec_SameFS_l1,Int.lt_irrefl,decide_false,cond_false]
   refine EvX.const _ (GE.ret (GP.yes ?_))
   have hI:fI a=fI b:=by
    have hlen:(fI a).length=(fI b).length:=h3
    rw[List.take_length,hlen,List.take_length]at inv2;exact inv2
   exact fs_ext h1 hQ hI h4
end Go.Proofs.YtmmgfgfkkpeedaaGreat

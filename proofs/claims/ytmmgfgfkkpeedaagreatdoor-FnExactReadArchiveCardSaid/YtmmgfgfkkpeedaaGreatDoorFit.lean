/- The tables, the residual functions and lemmas of this seat: parts of the proof of the law; conditions: those that each names. -/
import Derived.Test.YtmmgfgfkkpeedaaGreatDoorFmt
set_option linter.unusedVariables false
set_option linter.unusedSimpArgs false
set_option maxRecDepth 100000
namespace Go.Proofs.YtmmgfgfkkpeedaaGreatDoor
open Go.Eng
abbrev PItem:=Bool×ByteArray×Int×List PAcl×ByteArray
def pathP(s:ByteArray):Prop:=(∀x∈splitV s 47,nameP x∧plainP x)∧(splitV s 47).length≤8
def itemP(x:PItem):Prop:=pathP x.2.1∧(0≤x.2.2.1∧x.2.2.1≤2047)∧aclP x.2.2.2.1∧(x.1=true→x.2.2.2.2=(⟨#[]⟩:ByteArray))∧(x.1=false→intBits .and .i64 x.2.2.1 512=0∧x.2.2.2.2.size≤256)
theorem spec_path_say(s:ByteArray)(hs:s.size≤1048576):Say (fun k=>c_spec_l23Path k s) (pathP s):=by
 obtain⟨l1,l2⟩:=splitV_ok s 47
 refine Say.run (fun k=>spec_l23Path_run k s) (Say.of ?_)
 simp only[spec_l23Path]
 refine EvX.bind (spec_Split_ev s 47 hs) ?_
 refine EvX.list (L:=fun k _=>spec_l23Path_l1 k) (splitV s 47) (fun(_:Unit) i=>(splitV s 47,(),((splitV s 47).length:Int),(i:Int))) (fun _ i=>∀(j:Nat) x,j<i→(splitV s 47)[j]? =some x→nameP x∧plainP x) (fun _ i x hx hi inv=> ?_) (fun _ inv=> ?_) () (by simp)
 ·have hxs:=l2 x (List.mem_of_getElem? hx)
  simp only[spec_l23Path_l1,Int.ofNat_lt,hi,decide_true,cond_true,Int.natCast_nonneg,if_true,Int.toNat_natCast,hx,Option.bind_some,wS i]
  refine EvX.say (spec_plain_say x (by unfold big;omega)) fun b hb=>EvX.bif (fun h=>EvX.const _ (GL.ret (GP.no fun hP=> ?_))) (fun h=>EvX.const _ (GL.self () rfl fun j y hj hy=> ?_))
  ·rw[hb.2 (hP.1 x (List.mem_of_getElem? hx))]at h;cases h
  ·by_cases e:j=i
   ·subst e;rw[hx]at hy;cases hy;exact hb.1 (by simpa using h)
   ·exact inv j y (by omega) hy
 ·simp only[spec_l23Path_l1,Int.lt_irrefl,decide_false,cond_false]
  refine EvX.const _ (GE.ret (GP.ret ?_))
  rw[decide_eq_true_eq]
  refine⟨fun h=>⟨fun x hx=> ?_,by omega⟩,fun h=>by have:=h.2;omega⟩
  obtain⟨j,hj⟩:=List.mem_iff_getElem?.1 hx
  exact inv j x (List.getElem?_eq_some_iff.1 hj).1 hj
theorem impl_item_say(x:PItem)(hs:x.2.1.size≤1048576):Say (fun k=>c_impl_isItem k x) (itemP x):=by
 obtain⟨l1,l2⟩:=splitV_ok x.2.1 47
 refine Say.run (fun k=>impl_isItem_run k x) (Say.of ?_)
 simp only[impl_isItem]
 refine EvX.bind (impl_Split_ev x.2.1 47 hs) ?_
 refine EvX.list (L:=fun k _=>impl_isItem_l1 k) (splitV x.2.1 47) (fun(_:Unit) i=>((),splitV x.2.1 47,(),((splitV x.2.1 47).length:Int),(i:Int),x)) (fun _ i=>∀(j:Nat) y,j<i→(splitV x.2.1 47)[j]? =some y→nameP y∧plainP y) (fun _ i y hy hi inv=> ?_) (fun _ inv=> ?_) () (by simp)
 ·have hxs:=l2 y (List.mem_of_getElem? hy)
  simp only[impl_isItem_l1,Int.ofNat_lt,hi,decide_true,cond_true,Int.natCast_nonneg,if_true,Int.toNat_natCast,hy,Option.bind_some,wS i]
  refine EvX.say (impl_name_say y (by unfold big;omega)) fun b hb=>EvX.bif (fun h=>EvX.const _ (GL.ret (GP.no fun hP=> ?_))) (fun h=> ?_)
  ·rw[hb.2 (hP.1.1 y (List.mem_of_getElem? hy)).1]at h;cases h
  have hn:=hb.1 (by simpa using h)
  refine EvX.say (impl_plain_say y (by have:=hn.1;omega)) fun b2 hb2=>EvX.bif (fun h=>EvX.const _ (GL.ret (GP.no fun hP=> ?_))) (fun h=>EvX.const _ (GL.self () rfl fun j z hj hz=> ?_))
  ·rw[hb2.2 (hP.1.1 y (List.mem_of_getElem? hy)).2]at h;cases h
  ·by_cases e:j=i
   ·subst e;rw[hy]at hz;cases hz;exact⟨hn,hb2.1 (by simpa using h)⟩
   ·exact inv j z (by omega) hz
 ·simp only[impl_isItem_l1,Int.lt_irrefl,decide_false,cond_false]
  refine EvX.bif (fun h=>EvX.const _ (GE.ret (GP.no fun hP=>by have:=hP.1.2;have:=of_decide_eq_true h;omega))) (fun h1=> ?_)
  have h1:=of_decide_eq_false h1
  have hpath:pathP x.2.1:=⟨fun y hy=>by
   obtain⟨j,hj⟩:=List.mem_iff_getElem?.1 hy
   exact inv j y (List.getElem?_eq_some_iff.1 hj).1 hj,by omega⟩
  refine EvX.bind (isMode_ev _) (EvX.bif (fun h=>EvX.const _ (GE.ret (GP.no fun hP=>by simp[hP.2.1]at h))) (fun h2=> ?_))
  have h2:0≤x.2.2.1∧x.2.2.1≤2047:=by simpa using h2
  refine EvX.say (impl_IsAcl_say x.2.2.2.1) fun b hb=>EvX.bif (fun h=>EvX.const _ (GE.ret (GP.no fun hP=>by rw[hb.2 hP.2.2.1]at h;cases h))) (fun h3=> ?_)
  have h3:=hb.1 (by simpa using h3)
  refine EvX.bif (fun h4=>EvX.const _ (GE.ret (GP.ret ?_))) (fun h4=> ?_)
  ·rw[eqS_iff]
   exact⟨fun h5=>⟨hpath,h2,h3,fun _=>h5,fun h=>by rw[h4]at h;cases h⟩,fun hP=>hP.2.2.2.1 h4⟩
  ·refine EvX.bif (fun h5=>EvX.const _ (GE.ret (GP.ret ?_))) (fun h5=>EvX.const _ (GE.ret (GP.no fun hP=> ?_)))
   ·have h5:intBits .and .i64 x.2.2.1 512=0:=by simpa using h5
    rw[decide_eq_true_eq]
    exact⟨fun h6=>⟨hpath,h2,h3,(fun h=>by rw[h4]at h;cases h),fun _=>⟨h5,by omega⟩⟩,fun hP=>by have:=(hP.2.2.2.2 h4).2;omega⟩
   ·rw[(hP.2.2.2.2 h4).1]at h5;simp at h5
def spaceB:ByteArray:=⟨#[32]⟩
def hexT(s:ByteArray):ByteArray:=if s=(⟨#[]⟩:ByteArray)then⟨#[45]⟩else ofBytes (hexL s)
theorem hexT_size{s:ByteArray}(h:s.size≤1048576):(hexT s).size≤2097152:=by
 unfold hexT
 split
 ·show 1≤_;omega
 ·rw[ofBytes_size,hexL_len];omega
noncomputable def restB(x:PItem):ByteArray:=(((x.2.1++spaceB)++modeT x.2.2.1)++spaceB)++aclT x.2.2.2.1
noncomputable def lineB(x:PItem):ByteArray:=if x.1=true then(⟨#[100,32]⟩:ByteArray)++restB x else(((⟨#[102,32]⟩:ByteArray)++restB x)++spaceB)++hexT x.2.2.2.2
open Classical in
noncomputable def fmtV(x:PItem):ByteArray:=if itemP x then lineB x else⟨#[]⟩
theorem join4(a b c d:ByteArray)(s:ByteArray):joinB [a,b,c,d] s=(((((a++s)++b)++s)++c)++s)++d:=by
 refine bext ?_
 rw[joinB_list]
 simp[joinD,Lib.join_cons,Lib.joinTail]
theorem join5(a b c d e:ByteArray)(s:ByteArray):joinB [a,b,c,d,e] s=(((((((a++s)++b)++s)++c)++s)++d)++s)++e:=by
 refine bext ?_
 rw[joinB_list]
 simp[joinD,Lib.join_cons,Lib.joinTail]
theorem impl_Item_ev(x:PItem)(hs:x.2.1.size≤1048576):Ev (fun k=>c_impl_FormatItem k x) (fmtV x):=by
 refine EvQ.run (fun k=>impl_FormatItem_run k x) ?_
 simp only[impl_FormatItem]
 obtain⟨b,e1,e2⟩:=impl_item_say x hs
 refine EvQ.bind e1 ?_
 cases b with
 |false=>
  simp only[Bool.not_false,cond_true]
  rw[fmtV,if_neg fun h=>by have:=e2.2 h;cases this]
  exact EvQ.const _
 |true=>
  have hP:=e2.1 rfl
  have z0:(⟨#[32]⟩:ByteArray).size=1:=rfl
  have zm:=modeT_size x.2.2.1
  have za:=aclT_size hP.2.2.1
  have zd:(⟨#[100,32]⟩:ByteArray).size=2:=rfl
  have zf:(⟨#[102,32]⟩:ByteArray).size=2:=rfl
  simp only[Bool.not_true,cond_false]
  rw[fmtV,if_pos hP,lineB]
  refine EvQ.ifp (by omega) (EvQ.bind (impl_Mode_ev hP.2.1) (EvQ.ifp (by rw[app_size];omega) (EvQ.ifp (by rw[app_size,app_size];omega) (EvQ.bind (impl_Acl_ev hP.2.2.1) (EvQ.ifp (by rw[app_size,app_size,app_size];omega) ?_)))))
  have hrest:((((x.2.1++(⟨#[32]⟩:ByteArray))++modeT x.2.2.1)++(⟨#[32]⟩:ByteArray))++aclT x.2.2.2.1)=restB x:=rfl
  have zr:(restB x).size≤7000000000:=by rw[←hrest,app_size,app_size,app_size,app_size];omega
  rw[hrest]
  cases hd:x.1 with
  |true=>
   simp only[cond_true,if_true]
   exact EvQ.ifp (by omega) (EvQ.const _)
  |false=>
   have hdat:=(hP.2.2.2.2 hd).2
   have zh:=hexT_size (s:=x.2.2.2.2) (by omega)
   simp only[cond_false,Bool.false_eq_true,if_false]
   refine EvQ.ifp (by omega) (EvQ.ifp (by rw[app_size];omega) ?_)
   have hh:Ev (fun k=>c_impl_hexOr k x.2.2.2.2) (hexT x.2.2.2.2):=by
    refine EvQ.run (fun k=>impl_hexOr_run k _) ?_
    simp only[impl_hexOr,hexT]
    cases he:eqS x.2.2.2.2 (⟨#[]⟩:ByteArray)with
    |true=>
     rw[if_pos ((eqS_iff _ _).1 he)]
     exact EvQ.const _
    |false=>
     rw[if_neg fun h=>by rw[(eqS_iff _ _).2 h]at he;cases he]
     simp only[cond_false]
     exact EvQ.bind (impl_HexOf_ev _ (by omega)) (EvQ.const _)
   exact EvQ.bind hh (EvQ.ifp (by rw[app_size,app_size];omega) (EvQ.const _))
theorem spec_Item_ev(x:PItem)(hs:x.2.1.size≤1048576)(hd8:x.2.2.2.2.size≤1048576)(hl8:x.2.2.2.1.length<big):Ev (fun k=>c_spec_FormatItem k x) (fmtV x):=by
 refine EvQ.run (fun k=>spec_FormatItem_run k x) ?_
 simp only[spec_FormatItem]
 obtain⟨b,e1,e2⟩:=spec_path_say x.2.1 hs
 refine EvQ.bind e1 ?_
 cases b with
 |false=>
  simp only[Bool.not_false,cond_true]
  rw[fmtV,if_neg fun h=>by have:=e2.2 h.1;cases this]
  exact EvQ.const _
 |true=>
 have hP:=e2.1 rfl
 simp only[Bool.not_true,cond_false]
 refine EvQ.bind (l06Mode_ev _) ?_
 by_cases hm:0≤x.2.2.1∧x.2.2.1≤2047
 case neg=>
  rw[decide_eq_false hm]
  simp only[Bool.not_false,cond_true]
  rw[fmtV,if_neg fun h=>hm h.2.1]
  exact EvQ.const _
 rw[decide_eq_true hm]
 simp only[Bool.not_true,cond_false]
 obtain⟨b,f1,f2⟩:=spec_IsAcl_say x.2.2.2.1 hl8
 refine EvQ.bind f1 ?_
 cases b with
 |false=>
  simp only[Bool.not_false,cond_true]
  rw[fmtV,if_neg fun h=>by have:=f2.2 h.2.2.1;cases this]
  exact EvQ.const _
 |true=>
 have hA:=f2.1 rfl
 simp only[Bool.not_true,cond_false]
 refine EvQ.bind (spec_Mode_ev hm) (EvQ.bind (spec_Acl_ev hA) ?_)
 have zm:=modeT_size x.2.2.1
 have za:(aclT x.2.2.2.1).size≤3000000:=aclT_small hA
 cases hd:x.1 with
 |true=>
  simp only[cond_true,Int.le_refl,if_true,show(0:Int).toNat=0 from rfl]
  refine EvQ.ifp (show(0:Int)<((4:Nat):Int)by omega) ?_
  show EvQ (fun k=>bif (!(eqS x.2.2.2.2 (⟨#[]⟩:ByteArray)))then some (⟨#[]⟩:ByteArray)else(c_spec_Join k ([(⟨#[100]⟩:ByteArray),x.2.1,modeT x.2.2.1,aclT x.2.2.2.1],(⟨#[32]⟩:ByteArray))).bind fun y7=>some y7) (some (fmtV x))
  cases he:eqS x.2.2.2.2 (⟨#[]⟩:ByteArray)with
  |false=>
   simp only[Bool.not_false,cond_true]
   rw[fmtV,if_neg fun h=>by rw[(eqS_iff _ _).2 (h.2.2.2.1 hd)]at he;cases he]
   exact EvQ.const _
  |true=>
   simp only[Bool.not_true,cond_false]
   have hI:itemP x:=⟨hP,hm,hA,(fun _=>(eqS_iff _ _).1 he),(fun h=>by rw[hd]at h;cases h)⟩
   have hj:fmtV x=joinB [(⟨#[100]⟩:ByteArray),x.2.1,modeT x.2.2.1,aclT x.2.2.2.1] ⟨#[32]⟩:=by
    rw[fmtV,if_pos hI,lineB,if_pos hd,join4]
    refine bext ?_
    simp[restB,spaceB]
   rw[hj]
   refine EvQ.bind (spec_Join_ev _ _ (by simp) (by show 1≤_;omega) (fun y hy=> ?_)) (EvQ.const _)
   simp only[List.mem_cons,List.not_mem_nil,or_false]at hy
   rcases hy with rfl|rfl|rfl|rfl
   ·show 1≤_;omega
   ·omega
   ·omega
   ·omega
 |false=>
  simp only[cond_false]
  by_cases h256:(256:Int)<(x.2.2.2.2.size:Int)
  ·simp only[h256,decide_true,cond_true]
   rw[fmtV,if_neg fun h=>by have:=(h.2.2.2.2 hd).2;omega]
   exact EvQ.const _
  simp only[h256,decide_false,cond_false]
  by_cases h512:intBits .and .i64 x.2.2.1 512=0
  case neg=>
   rw[show(intBits .and .i64 x.2.2.1 512 != 0)=true by simp[h512]]
   simp only[cond_true]
   rw[fmtV,if_neg fun h=>h512 (h.2.2.2.2 hd).1]
   exact EvQ.const _
  rw[show(intBits .and .i64 x.2.2.1 512 != 0)=false by simp[h512]]
  simp only[cond_false]
  have hI:itemP x:=⟨hP,hm,hA,(fun h=>by rw[hd]at h;cases h),fun _=>⟨h512,by omega⟩⟩
  have hj:fmtV x=joinB [(⟨#[102]⟩:ByteArray),x.2.1,modeT x.2.2.1,aclT x.2.2.2.1,hexT x.2.2.2.2] ⟨#[32]⟩:=by
   rw[fmtV,if_pos hI,lineB,if_neg (by rw[hd];simp),join5]
   refine bext ?_
   simp[restB,spaceB]
  have zh:=hexT_size (s:=x.2.2.2.2) hd8
  have hjoin:Ev (fun k=>c_spec_Join k ([(⟨#[102]⟩:ByteArray),x.2.1,modeT x.2.2.1,aclT x.2.2.2.1,hexT x.2.2.2.2],(⟨#[32]⟩:ByteArray))) (fmtV x):=by
   rw[hj]
   refine spec_Join_ev _ _ (by simp) (by show 1≤_;omega) (fun y hy=> ?_)
   simp only[List.mem_cons,List.not_mem_nil,or_false]at hy
   rcases hy with rfl|rfl|rfl|rfl|rfl
   ·show 1≤_;omega
   ·omega
   ·omega
   ·omega
   ·omega
  cases he:eqS x.2.2.2.2 (⟨#[]⟩:ByteArray)with
  |true=>
   simp only[cond_true]
   have ht:hexT x.2.2.2.2=⟨#[45]⟩:=if_pos ((eqS_iff _ _).1 he)
   rw[ht]at hjoin
   exact EvQ.ifp (by simp[capBytes]) (EvQ.bind hjoin (EvQ.const _))
  |false=>
   simp only[cond_false]
   have ht:hexT x.2.2.2.2=ofBytes (hexL x.2.2.2.2):=if_neg fun h=>by rw[(eqS_iff _ _).2 h]at he;cases he
   rw[ht]at hjoin
   exact EvQ.bind (spec_HexOf_ev _ hd8) (EvQ.ifp (by simp[capBytes]) (EvQ.bind hjoin (EvQ.const _)))
end Go.Proofs.YtmmgfgfkkpeedaaGreatDoor

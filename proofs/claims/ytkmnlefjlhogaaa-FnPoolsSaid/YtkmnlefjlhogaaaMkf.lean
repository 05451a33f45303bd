/- The tables, the residual functions and lemmas of this seat: parts of the proof of the law; conditions: those that each names. -/
import Derived.Test.YtkmnlefjlhogaaaMak
import Derived.Test.YtkmnlefjlhogaaaUse
set_option linter.unusedVariables false
set_option linter.unusedSimpArgs false
set_option maxRecDepth 100000
namespace Go.Proofs.Ytkmnlefjlhogaaa
open Go.Eng
def poolS(f:PFS)(u:Int):Nat→List Int
 |0=>[]
 |i+1=>match(fI f)[(u*5).toNat+i]? with
  |some n=>bif n.1 != 0 then poolS f u i++[u*5+i]else poolS f u i
  |none=>poolS f u i
theorem pool_len(f:PFS)(u:Int):∀i,(poolS f u i).length≤i
 |0=>Nat.le_refl _
 |i+1=>by
  have h:=pool_len f u i
  simp only[poolS]
  cases(fI f)[(u*5).toNat+i]? with
  |none=>simp only;omega
  |some n=>
   cases hb:n.1 != 0 with
   |true=>simp only[hb,cond_true,List.length_append,List.length_singleton];omega
   |false=>simp only[hb,cond_false];omega
section
variable {f:PFS} {u:Int}
theorem pool_loop(hP:fsP f)(h0:0≤u)(h3:u≤3){L:Nat→(Int×Unit×List Int×Int×PFS→Option (List Int))→Int×Unit×List Int×Int×PFS→Option (List Int)}
  (hs:∀(i:Nat) (l:List Int) (n:PInode),l.length≤10→i<5→(fI f)[(u*5).toNat+i]? =some n→EvS L (u,(),l,u*5+i,f) (u,(),(bif n.1 != 0 then l++[u*5+i]else l),u*5+(i+1:Nat),f))
  (he:∀k self l,L k self (u,(),l,u*5+5,f)=some l):Ev (fun k=>iter k (L k) (u,(),([]:List Int),u*5,f)) (poolS f u 5):=by
 have hni:=hP.ni
 refine EvL.ev ?_
 have:=EvL.count (L:=L) (r:=poolS f u 5) (fun i=>(u,(),poolS f u i,u*5+(i:Nat),f)) 5 (fun i hi=> ?_) (EvL.stop ?_)
 ·simpa[poolS]using this
 ·obtain⟨n,hn⟩:∃n,(fI f)[(u*5).toNat+i]? =some n:=⟨_,List.getElem?_eq_getElem (show(u*5).toNat+i<(fI f).length by omega)⟩
  have:=hs i (poolS f u i) n (by have:=pool_len f u i;omega) hi hn
  have e:poolS f u (i+1)=(bif n.1 != 0 then poolS f u i++[u*5+i]else poolS f u i):=by simp only[poolS,hn]
  rw[e];exact this
 ·exact EvQ.congr (g:=fun _ _=>some (poolS f u 5)) (fun k=>funext fun self=>he k self _) (EvQ.const _)
theorem has_ev(i:Int)(h0:0≤i)(h1:i<20){n:PInode}(hn:(fI f)[i.toNat]? =some n):Ev (fun k=>c_impl_FS_has k (some f,i)) (n.1 != 0):=by
 refine EvQ.run (fun k=>impl_FS_has_run k _ _) ?_
 simp only[impl_FS_has,h0,h1,decide_true,cond_true,Option.bind_some,if_true,hn]
 exact EvQ.const _
theorem pool_ev(hP:fsP f)(hu:0≤u∧u≤3)(e1:Ev (fun k=>c_impl_IsFS k f) true):Ev (fun k=>c_impl_PoolOf k (f,u)) (poolS f u 5):=by
  refine EvQ.run (fun k=>impl_PoolOf_run k _ _) ?_
  simp only[impl_PoolOf]
  refine EvQ.bind e1 ?_
  simp only[Bool.not_true,cond_false]
  refine EvQ.bind (isUser_ev u) ?_
  simp only[hu,and_self,decide_true,Bool.not_true,cond_false]
  have w0:wrapK .i64 (u*5)=u*5:=i64w (by omega) (by omega)
  rw[w0]
  refine pool_loop hP hu.1 hu.2 (L:=impl_PoolOf_l1) (fun i l n hl hi hn=> ?_) (fun k self l=> ?_)
  ·have w1:wrapK .i64 (u+1)=u+1:=i64w (by omega) (by omega)
   have w2:wrapK .i64 ((u+1)*5)=(u+1)*5:=i64w (by omega) (by omega)
   have w3:wrapK .i64 (u*5+(i:Nat)+1)=u*5+(i+1:Nat):=by rw[i64w (by omega) (by omega)];omega
   have c1:u*5+(i:Nat)<(u+1)*5:=by omega
   have t:(u*5+(i:Nat)).toNat=(u*5).toNat+i:=by omega
   have c3:(l.length+([u*5+(i:Nat)]:List Int).length)*8≤capBytes:=by simp[capBytes];omega
   simp only[EvS,impl_PoolOf_l1,w1,w2,w3,c1,decide_true,cond_true]
   refine EvQ.bindS (has_ev (f:=f) (u*5+(i:Nat)) (by omega) (by omega) (by rw[t];exact hn)) ?_
   simp only[c3,if_true]
   cases hb:n.1 != 0<;>simp only[cond_true,cond_false]<;>exact EvQ.const _
  ·have w1:wrapK .i64 (u+1)=u+1:=i64w (by omega) (by omega)
   have w2:wrapK .i64 ((u+1)*5)=(u+1)*5:=i64w (by omega) (by omega)
   have c1:¬u*5+5<(u+1)*5:=by omega
   simp only[impl_PoolOf_l1,w1,w2,c1,decide_false,cond_false]
theorem pool_cnt(f:PFS)(u:Int):∀i,(poolS f u i).length=cntN f u i
 |0=>rfl
 |i+1=>by
  have h:=pool_cnt f u i
  simp only[poolS,cntN]
  cases(fI f)[(u*5).toNat+i]? with
  |none=>exact h
  |some n=>
   cases hb:n.1 != 0 with
   |true=>simp only[hb,cond_true,List.length_append,List.length_singleton,h]
   |false=>simp only[hb,cond_false,h]
theorem inodes_ev(hP:fsP f)(hu:0≤u∧u≤3)(e1:Ev (fun k=>c_impl_IsFS k f) true):Ev (fun k=>c_impl_InodesOf k (f,u)) (cntN f u 5:Int):=by
 refine EvQ.run (fun k=>impl_InodesOf_run k _ _) ?_
 simp only[impl_InodesOf]
 refine EvQ.bind e1 ?_
 simp only[Bool.not_true,cond_false]
 refine EvQ.bind (isUser_ev u) ?_
 simp only[hu,and_self,decide_true,Bool.not_true,cond_false]
 exact EvQ.bind (impl_inodes_ev hP.w hu.1 hu.2) (EvQ.const _)
theorem blocks_ev(hP:fsP f)(hu:0≤u∧u≤3)(e1:Ev (fun k=>c_impl_IsFS k f) true):Ev (fun k=>c_impl_BlocksOf k (f,u)) (inT (usedBs (fI f)) (u*14) 14:Int):=by
 refine EvQ.run (fun k=>impl_BlocksOf_run k _ _) ?_
 simp only[impl_BlocksOf]
 refine EvQ.bind e1 ?_
 simp only[Bool.not_true,cond_false]
 refine EvQ.bind (isUser_ev u) ?_
 simp only[hu,and_self,decide_true,Bool.not_true,cond_false]
 exact EvQ.bind (impl_blocks_ev hP.w hu.1 hu.2) (EvQ.const _)
theorem nextBlock_ev(hP:fsP f)(hu:0≤u∧u≤3)(e1:Ev (fun k=>c_impl_IsFS k f) true){q:PQuota}(hq:(fQ f)[u.toNat]? =some q):Ev (fun k=>c_impl_NextBlock k (f,u)) (nextV q.2 (usedBs (fI f)) u):=by
 refine EvQ.run (fun k=>impl_NextBlock_run k _ _) ?_
 simp only[impl_NextBlock]
 refine EvQ.bind e1 ?_
 simp only[Bool.not_true,cond_false]
 refine EvQ.bind (isUser_ev u) ?_
 simp only[hu,and_self,decide_true,Bool.not_true,cond_false]
 exact EvQ.bind (impl_next_ev hP.w hu.1 hu.2 hq) (EvQ.const _)
def NxtI(f:PFS)(u:Int)(q:Int)(r:Int×Int):Prop:=
 (q≤(cntN f u 5:Int)∧r=(0,7))∨(¬q≤(cntN f u 5:Int)∧((∃n,r.2=0∧u*5≤r.1∧r.1<u*5+5∧(fI f)[r.1.toNat]? =some n∧n.1=0)∨r=(0,8)))
theorem nextInode_ev(hP:fsP f)(hu:0≤u∧u≤3)(e1:Ev (fun k=>c_impl_IsFS k f) true){q:PQuota}(hq:(fQ f)[u.toNat]? =some q):∃r,Ev (fun k=>c_impl_NextInode k (f,u)) r∧NxtI f u q.1 r:=by
 have hq':f.2.1[u.toNat]? =some q:=hq
 have key:∃r:Int×Int,Ev (fun k=>impl_FS_nextInode k (some f) u) r∧NxtI f u q.1 r:=by
  refine Ev.of ?_
  simp only[impl_FS_nextInode]
  refine EvX.bind (impl_inodes_ev hP.w hu.1 hu.2) ?_
  simp only[hu.1,if_true,Option.bind_some,hq']
  refine EvX.bif (fun h=>EvX.const _ (GR.ret (.inl ⟨of_decide_eq_true h,rfl⟩))) fun h=> ?_
  have hn:¬q.1≤(cntN f u 5:Int):=of_decide_eq_false h
  have w0:wrapK .i64 (u*5)=u*5+((0:Nat):Int):=by rw[i64w (by omega) (by omega)];omega
  have w1:wrapK .i64 (u+1)=u+1:=i64w (by omega) (by omega)
  have w2:wrapK .i64 ((u+1)*5)=u*5+5:=by rw[i64w (by omega) (by omega)];omega
  rw[w0]
  refine EvX.upto (L:=fun k (_:Unit)=>impl_FS_nextInode_l1 k) 5 (fun(_:Unit) i=>(some f,u,u*5+((i:Nat):Int))) (fun _ _=>True) (fun st i hi _=> ?_) (fun st _=> ?_) () 0 (by omega) trivial
  ·have hl:(u*5+(i:Int)).toNat<(fI f).length:=by rw[hP.ni];omega
   have c1:u*5+(i:Int)<u*5+5:=by omega
   have c2:0≤u*5+(i:Int):=by omega
   have w3:wrapK .i64 (u*5+(i:Int)+1)=u*5+((i+1:Nat):Int):=by rw[i64w (by omega) (by omega)];omega
   simp only[impl_FS_nextInode_l1,w1,w2,c1,c2,decide_true,cond_true,if_true,Option.bind_some,List.getElem?_eq_getElem (show(u*5+(i:Int)).toNat<f.2.2.1.length from hl),w3]
   refine EvX.bif (fun hk=>EvX.const _ (GL.ret (GR.ret (.inr ⟨hn,.inl ⟨_,rfl,by omega,by omega,List.getElem?_eq_getElem hl,by simpa using hk⟩⟩)))) fun hk=> ?_
   exact EvX.const _ (GL.self () rfl trivial)
  ·simp only[impl_FS_nextInode_l1,w1,w2,show ¬u*5+((5:Nat):Int)<u*5+5 by omega,decide_false,cond_false]
   exact EvX.const _ (GE.ret (GR.ret (.inr ⟨hn,.inr rfl⟩)))
 obtain⟨r,h1,h2⟩:=key
 refine⟨r,EvQ.run (fun k=>impl_NextInode_run k _ _) ?_,h2⟩
 simp only[impl_NextInode]
 refine EvQ.bind e1 ?_
 simp only[Bool.not_true,cond_false]
 refine EvQ.bind (isUser_ev u) ?_
 simp only[hu,and_self,decide_true,Bool.not_true,cond_false]
 exact EvQ.bind (EvQ.run (fun k=>impl_FS_nextInode_run k _ _) h1) (EvQ.const _)
end
theorem makeFS_ev(x:List Int)(hx:x.length≤1048576):∃f,Ev (fun k=>c_spec_MakeFS k x) f∧fsP f:=by
 have:∃f,EvL spec_MakeFS_l1 (x,(wrapK .i64 ((1263:Int)+(x.length:Int))),(0:Int),((0:Int),([]:List PQuota),([]:List PInode),([]:List ByteArray))) f∧fsP f:=by
  refine EvL.ex (fun d:List Int×Int×Int×PFS=>d.1=x∧0≤d.2.2.1) fsP (fun d:List Int×Int×Int×PFS=>((x.length:Int)-d.2.2.1).toNat) ?_ ⟨rfl,by simp⟩
  rintro⟨m,h,i,z⟩ ⟨h1,h2⟩
  simp only at h1 h2
  subst h1
  obtain⟨n,rfl⟩:∃n:Nat,i=n:=⟨i.toNat,by omega⟩
  obtain⟨f,c',e1,e2,e3⟩:=draw_ev (m,(0:Int),h) ⟨hx,by simp⟩
  by_cases hi:(n:Int)<(m.length:Int)
  ·by_cases h4:(n:Int)<4000
   ·have hn:n<m.length:=by omega
    refine .inr ⟨(m,(intBits .and .i64 (wrapK .i64 ((wrapK .i64 ((wrapK .i64 (h*(73:Int)))+(wrapK .i64 m[n])))+(7:Int))) (1073741823:Int)),((n+1:Nat):Int),z),⟨rfl,by simp only;omega⟩,by simp only;omega, ?_⟩
    simp only[EvS,spec_MakeFS_l1,hi,h4,decide_true,cond_true,if_pos h2,Int.toNat_natCast,List.getElem?_eq_getElem hn,Option.bind_some,wS n (by omega)]
    exact EvQ.const _
   ·refine .inl ⟨f, ?_,e3⟩
    simp only[spec_MakeFS_l1,hi,h4,decide_true,decide_false,cond_true,cond_false]
    exact EvQ.bindS e1 (EvQ.const _)
  ·refine .inl ⟨f, ?_,e3⟩
   simp only[spec_MakeFS_l1,hi,decide_false,cond_false]
   exact EvQ.bindS e1 (EvQ.const _)
 obtain⟨f,h1,h2⟩:=this
 exact⟨f,EvQ.run (fun k=>spec_MakeFS_run k _) h1.ev,h2⟩
end Go.Proofs.Ytkmnlefjlhogaaa

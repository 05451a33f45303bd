/- The tables, the residual functions and lemmas of this seat: parts of the proof of the law; conditions: those that each names. -/
import Derived.Test.YtkmnlefjlhogaaaDrw
set_option linter.unusedVariables false
set_option linter.unusedSimpArgs false
set_option maxRecDepth 100000
namespace Go.Proofs.Ytkmnlefjlhogaaa
open Go.Eng
theorem quotas_ev(c:Dl01Cur)(h:curOK c):∃l c',Ev (fun k=>c_spec_l08Quotas k c) (l,c')∧curOK c'∧l.length=4∧∀q∈l,quotaP q:=by
 have:∃r:List PQuota×Dl01Cur,Ev (fun k=>spec_l08Quotas k c) r∧(curOK r.2∧r.1.length=4∧∀q∈r.1,quotaP q):=by
  refine Ev.of ?_
  simp only[spec_l08Quotas]
  refine EvX.upto (L:=fun k (_:Unit)=>spec_l08Quotas_l1 k) 4 (fun(st:List PQuota×Dl01Cur) i=>((),st.1,((i:Nat):Int),st.2)) (fun st i=>curOK st.2∧st.1.length=i∧∀q∈st.1,quotaP q) (fun st i hi inv=> ?_) (fun st inv=> ?_) ([],c) 0 (by omega) ⟨h,rfl,by simp⟩
  ·obtain⟨l,c⟩:=st
   obtain⟨i1,i2,i3⟩:=inv
   simp only at i1 i2 i3
   have c1:(i:Int)<4:=by omega
   simp only[spec_l08Quotas_l1,c1,decide_true,cond_true,wS i (by omega)]
   obtain⟨v,c2,h3,h4,h5⟩:=pick_ev c i1 [5,5,5,4,3,2] (by decide) (by decide)
   refine EvX.bind h3 ?_
   obtain⟨v',c3,h6,h7,h8⟩:=pick_ev c2 h4 [14,14,10,5,3] (by decide) (by decide)
   refine EvX.bind h6 ?_
   have hc:(l.length+([(v,v')]:List PQuota).length)*16≤capBytes:=by show(l.length+1)*16≤_;unfold capBytes;omega
   refine EvX.ifp hc ?_
   refine EvX.const _ (GL.self (l++[(v,v')],c3) rfl ⟨h7,by rw[List.length_append,i2];rfl,fun q hq=> ?_⟩)
   rcases List.mem_append.1 hq with hq|hq
   ·exact i3 q hq
   ·rw[List.mem_singleton.1 hq]
    simp at h5 h8
    show 0≤v∧v≤5∧0≤v'∧v'≤14
    omega
  ·obtain⟨l,c⟩:=st
   obtain⟨i1,i2,i3⟩:=inv
   simp only at i1 i2 i3
   have c2:(0:Int)<((l.length:Nat):Int):=by omega
   simp only[spec_l08Quotas_l1,show ¬((4:Nat):Int)<4 by omega,decide_false,cond_false,Int.le_refl,c2,if_true,Int.toNat_zero,List.getElem?_eq_getElem (show 0<l.length by omega),Option.bind_some]
   refine EvX.const _ (GE.ret (GR.ret ⟨i1,by rw[List.length_set];exact i2,fun q hq=> ?_⟩))
   rcases List.mem_or_eq_of_mem_set hq with hq|hq
   ·exact i3 q hq
   ·rw[hq];exact⟨by decide,by decide,by decide,by decide⟩
 obtain⟨r,h1,h2,h3,h4⟩:=this
 exact⟨r.1,r.2,EvQ.run (fun k=>spec_l08Quotas_run k _) h1,h2,h3,h4⟩
abbrev rootI:PInode:=(2,493,0,0,1,0,0,[],[],[])
def newI:List PInode:=(List.replicate 20 zeroI).set 0 rootI
def NF(q:List PQuota):PFS:=(0,q,newI,List.replicate 56 zero32)
theorem newI_at{j:Nat}{n:PInode}(h:newI[j]? =some n):(j=0∧n=rootI)∨(j≠0∧j<20∧n=zeroI):=by
 unfold newI at h
 rw[List.getElem?_set]at h
 split at h
 ·rename_i e;subst e
  exact .inl ⟨rfl,by simpa using h.symm⟩
 ·rename_i e
  rw[List.getElem?_replicate]at h
  split at h
  ·injection h with h;exact .inr ⟨Ne.symm e,by assumption,h.symm⟩
  ·cases h
theorem acl_nil:aclP []:=⟨Nat.zero_le _,fun i e h=>by simp at h,.inl rfl⟩
theorem le01{a b:Int}(h0:0≤a)(h1:a≤b):0≤a∧a≤b:=⟨h0,h1⟩
theorem root_ok(m:Int)(h0:0≤m)(h1:m≤2047):usedP (2,m,0,0,1,0,0,[],[],[]):=
 ⟨.inr rfl,⟨⟨h0,h1⟩,le01 (a:=0) (by omega) (by omega),le01 (a:=0) (by omega) (by omega),le01 (a:=1) (by omega) (by omega),le01 (a:=0) (by omega) (by omega),le01 (a:=0) (by omega) (by omega),rfl⟩,acl_nil,acl_nil,(fun i b h=>by have h:([]:List Int)[i]? =some b:=h;simp at h),.inl rfl⟩
theorem fresh_ok{q:List PQuota}(hq:q.length=4)(hQ:∀x∈q,quotaP x)(t:Int)(ht:0≤t∧t≤1000000000)(m:Int)(h0:0≤m)(h1:m≤2047):fsP (t,q,newI.set 0 (2,m,0,0,1,0,0,[],[],[]),List.replicate 56 zero32):=by
 have hat:∀{j:Nat} {n:PInode},(newI.set 0 (2,m,0,0,1,0,0,[],[],[]))[j]? =some n→xBlk n=[]∧inodeP n:=fun{j n} h=>by
  rw[List.getElem?_set]at h
  split at h
  ·split at h
   ·injection h with h;subst h;exact⟨rfl,.inr (root_ok m h0 h1)⟩
   ·cases h
  ·rcases newI_at h with⟨e,_⟩|⟨_,_,e⟩
   ·exact absurd e.symm (by assumption)
   ·subst e;exact⟨rfl,.inl rfl⟩
 have hu:usedBs (newI.set 0 (2,m,0,0,1,0,0,[],[],[]))=[]:=by
  refine List.flatMap_eq_nil_iff.2 fun n hn=> ?_
  obtain⟨j,hj⟩:=List.mem_iff_getElem?.1 hn
  rw[(hat hj).1];rfl
 refine⟨ht,hq,by show(newI.set 0 _).length=20;simp[newI],by show(List.replicate 56 zero32).length=56;simp,fun i x hx=>hQ x (List.mem_of_getElem? hx),fun i s hs=> ?_,fun i n hn=>(hat hn).2,fun i n hn j b hb hne=> ?_,by show(usedBs (newI.set 0 _)).Nodup;rw[hu];exact List.nodup_nil,fun b s hs _=> ?_,⟨(2,m,0,0,1,0,0,[],[],[]), ?_,rfl⟩⟩
 ·have hs:(List.replicate 56 zero32)[i]? =some s:=hs
  rw[List.eq_of_mem_replicate (List.mem_of_getElem? hs)];exact zero32_size
 ·rw[(hat hn).1]at hb;simp at hb
 ·have hs:(List.replicate 56 zero32)[b]? =some s:=hs
  rw[List.eq_of_mem_replicate (List.mem_of_getElem? hs)];exact zero32_zero
 ·exact List.getElem?_set_self (by simp[newI])
theorem fs_small{f:PFS}(h:fsP f):fsSmall f:=fun n hn=>by
 obtain⟨i,hi⟩:=List.mem_iff_getElem?.1 hn
 have h1:=blk_len (h.ino i n hi)
 rcases h.ino i n hi with rfl|h2
 ·refine⟨?_, ?_, ?_⟩<;>exact(by unfold big;decide)
 ·have h3:=h2.2.2.1.1
  have h4:=h2.2.2.2.1.1
  unfold inoSmall
  exact⟨by show(xBlk n).length<_;unfold big;omega,by show(xAcl n).length<_;unfold big;omega,by show(xDef n).length<_;unfold big;omega⟩
theorem newFS_ev{q:List PQuota}(hq:q.length=4)(hQ:∀x∈q,quotaP x):Ev (fun k=>c_spec_NewFS k q) (NF q):=by
 refine EvQ.run (fun k=>spec_NewFS_run k _) ?_
 have c1:(([]:List PQuota).length+q.length)*16≤capBytes:=by show(0+q.length)*16≤_;unfold capBytes;omega
 have c2:(20:Int)*128≤(capBytes:Int):=by unfold capBytes;omega
 simp only[spec_NewFS,c1,c2,show(0:Int)≤20 by decide,Int.le_refl,if_true,show(20:Int).toNat=20 from rfl,List.length_replicate,show(0:Int)<((20:Nat):Int)by decide,Int.toNat_zero,List.getElem?_replicate,show 0<20 by decide,Option.bind_some,List.nil_append]
 refine Ev.eq ?_
 refine EvX.upto (L:=fun k (_:Unit)=>spec_NewFS_l1 k) 56 (fun(_:Unit) i=>((),(),((0:Int),q,newI,List.replicate i zero32),((0:Int),[],[],[]))) (fun _ _=>True) (fun st i hi _=> ?_) (fun st _=> ?_) () 0 (by omega) trivial
 ·have c3:((((List.replicate i zero32).length:Nat):Int))<56:=by rw[List.length_replicate];omega
  simp only[spec_NewFS_l1,c3,decide_true,cond_true]
  refine EvX.bind pad32_ev ?_
  have hc:((List.replicate i zero32).length+([zero32]:List ByteArray).length)*16≤capBytes:=by rw[List.length_replicate];show(i+1)*16≤_;unfold capBytes;omega
  refine EvX.ifp hc ?_
  refine EvX.const _ (GL.self () ?_ trivial)
  rw[List.replicate_succ']
 ·have c3:¬((((List.replicate 56 zero32).length:Nat):Int))<56:=by rw[List.length_replicate];omega
  simp only[spec_NewFS_l1,c3,decide_false,cond_false]
  have hf:fsP (NF q):=by
   have:=fresh_ok hq hQ 0 ⟨by omega,by omega⟩ 493 (by omega) (by omega)
   have e:newI.set 0 (2,493,0,0,1,0,0,[],[],[])=newI:=by unfold newI;rw[List.set_set]
   rw[e]at this;exact this
  have hev:=spec_IsFS_say (NF q) (fs_small hf) (fun s hs=>by rw[List.eq_of_mem_replicate (show s∈List.replicate 56 zero32 from hs),zero32_size];unfold big;omega)
  obtain⟨b,h1,h2⟩:=hev
  rw[h2.2 hf]at h1
  refine EvX.bind h1 ?_
  simp only[Bool.not_true,cond_false]
  exact EvX.const _ (GE.ret (GR.ret rfl))
end Go.Proofs.Ytkmnlefjlhogaaa

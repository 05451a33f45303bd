/- The tables, the residual functions and lemmas of this seat: parts of the proof of the law; conditions: those that each names. -/
import Derived.Test.YtkmnlefjlhogaaaSup
set_option linter.unusedVariables false
set_option linter.unusedSimpArgs false
set_option maxRecDepth 100000
namespace Go.Proofs.Ytkmnlefjlhogaaa
open Go.Eng
def inT(L:List Int)(c:Int)(n:Nat):Nat:=(List.range n).countP fun j:Nat=>decide (c+(j:Int)∈L)
theorem inT_succ(L:List Int)(c:Int)(n:Nat):inT L c (n+1)=inT L c n+(if c+(n:Int)∈L then 1 else 0):=by
 simp only[inT,List.range_succ,List.countP_append]
 by_cases h:c+(n:Int)∈L<;>simp[h]
theorem inT_le(L:List Int)(c:Int):∀n,inT L c n≤n
 |0=>Nat.le_refl _
 |n+1=>by
  have:=inT_le L c n
  rw[inT_succ];split<;>omega
theorem inT_cons(L:List Int)(c b:Int)(hb:b∉L):∀n,inT (b::L) c n=inT L c n+(if c≤b∧b<c+n then 1 else 0)
 |0=>by
  rw[if_neg (by omega)]
  simp[inT]
 |n+1=>by
  rw[inT_succ,inT_succ,inT_cons L c b hb n]
  have k1:(if c+(n:Int)∈b::L then 1 else 0:Nat)=(if c+(n:Int)∈L then 1 else 0)+(if c+(n:Int)=b then 1 else 0):=by
   by_cases e:c+(n:Int)=b
   ·have h1:c+(n:Int)∉L:=by rw[e];exact hb
    have h2:c+(n:Int)∈b::L:=by rw[e];simp
    rw[if_pos h2,if_neg h1,if_pos e]
   ·rw[if_neg e]
    by_cases m:c+(n:Int)∈L
    ·rw[if_pos m,if_pos (List.mem_cons_of_mem _ m)]
    ·rw[if_neg m,if_neg (by simp[e,m])]
  have k2:(if c≤b∧b<c+((n+1:Nat):Int)then 1 else 0:Nat)=(if c≤b∧b<c+(n:Int)then 1 else 0)+(if c+(n:Int)=b then 1 else 0):=by
   split<;>split<;>split<;>omega
  omega
def ownC(u:Int)(L:List Int):Nat:=L.countP fun b=>ownI b==u
theorem ownC_inT{u:Int}(h0:0≤u)(h3:u≤3):∀{L:List Int},L.Nodup→(∀b∈L,0≤b∧b<56)→ownC u L=inT L (u*14) 14
 |[],_,_=>by
  have:∀n,inT [] (u*14) n=0:=fun n=>by simp[inT]
  rw[this];rfl
 |b::L,hn,hr=>by
  have hb:=hr b (by simp)
  rw[List.nodup_cons]at hn
  rw[inT_cons L _ b hn.1 14,←ownC_inT h0 h3 hn.2 fun x hx=>hr x (by simp[hx])]
  have:ownI b=b / 14:=by unfold ownI;rw[if_pos hb]
  simp only[ownC,List.countP_cons,this,beq_iff_eq]
  congr 1
  by_cases e:b / 14=u
  ·rw[if_pos e,if_pos (by omega)]
  ·rw[if_neg e,if_neg (by omega)]
structure wfs (f:PFS):Prop where
 nq:(fQ f).length=4
 ni:(fI f).length=20
 nd:(fD f).length=56
 len:∀(i:Nat) n,(fI f)[i]? =some n→(xBlk n).length≤8
 own:∀(i:Nat) n,(fI f)[i]? =some n→ownsP n
 nodup:(usedBs (fI f)).Nodup
 sz:∀s∈fD f,s.size=32
theorem blk_len{n:PInode}(h:inodeP n):(xBlk n).length≤8:=by
 rcases h with h|h
 ·subst h;exact Nat.zero_le _
 ·have h1:=used_len h
  have h2:=size_of h
  unfold needI at h1
  split at h1<;>omega
theorem fsP.w{f:PFS}(h:fsP f):wfs f where
 nq:=h.nq
 ni:=h.ni
 nd:=h.nd
 len i n hi:=blk_len (h.ino i n hi)
 own i n hi j b hb hne:=(h.blk i n hi j b hb hne).1
 nodup:=h.nodup
 sz s hs:=by
  obtain⟨i,hi⟩:=List.getElem?_of_mem hs
  exact h.sz i s hi
theorem used_mem{f:PFS}(hP:wfs f){b:Int}(hb:b∈usedBs (fI f)):0≤b∧b<56:=by
 simp only[usedBs,List.mem_flatMap]at hb
 obtain⟨n,hn,hb⟩:=hb
 simp only[nz,List.mem_filter]at hb
 obtain⟨i,hi⟩:=List.getElem?_of_mem hn
 obtain⟨j,hj⟩:=List.getElem?_of_mem hb.1
 have:=hP.own i n hi j b hj (by simpa using hb.2)
 exact⟨this.1,this.2.1⟩
theorem nz_len(l:List Int):(nz l).length≤l.length:=List.length_filter_le _ _
theorem used_len_le{l:List PInode}(h:∀n∈l,(xBlk n).length≤8):(usedBs l).length≤8*l.length:=by
 induction l with
 |nil=>simp[usedBs]
 |cons n l ih=>
  have h1:=ih fun m hm=>h m (by simp[hm])
  have h2:=h n (by simp)
  have h3:=nz_len (xBlk n)
  simp only[usedBs,List.flatMap_cons,List.length_append,List.length_cons]at h1 ⊢
  omega
section
variable {f:PFS} {u:Int}
theorem ownC_snoc(L:List Int)(b:Int):ownC u (L++[b])=ownC u L+(if ownI b=u then 1 else 0):=by
 simp[ownC]
theorem spec_Blocks_ev(hP:wfs f)(h0:0≤u)(h3:u≤3):Ev (fun k=>c_spec_l08Blocks k (f,u)) (inT (usedBs (fI f)) (u*14) 14:Int):=by
 refine EvQ.run (fun k=>spec_l08Blocks_run k _ _) ?_
 have hni:=hP.ni
 rw[←ownC_inT h0 h3 hP.nodup fun b hb=>used_mem hP hb]
 simp only[spec_l08Blocks]
 refine Ev.eq ?_
 refine EvX.list (L:=fun k _=>spec_l08Blocks_l2 k) (fI f) (fun(st:Int) i=>(u,st,fI f,((fI f).length:Int),((i:Nat):Int))) (fun st i=>st=(ownC u (usedBs ((fI f).take i)):Int)∧ownC u (usedBs ((fI f).take i))≤8*i) (fun st i n hx hi inv=> ?_) (fun st inv=> ?_) _ ⟨by simp[usedBs,ownC],by simp[usedBs,ownC]⟩
 ·have hbl:=hP.len i n hx
  simp only[spec_l08Blocks_l2,Int.ofNat_lt,hi,decide_true,cond_true,Int.natCast_nonneg,if_true,Int.toNat_natCast,hx,Option.bind_some]
  refine EvX.list (L:=fun k (p:Unit×((Int×Int×List PInode×Int×Int)→Option Int))=>spec_l08Blocks_l1 k p.2) (xBlk n) (fun(st:Int) j=>(u,st,fI f,((fI f).length:Int),(i:Int),xBlk n,((xBlk n).length:Int),(j:Int))) (fun st j=>st=(ownC u (pre (fI f) i n j):Int)∧ownC u (pre (fI f) i n j)≤8*i+j) (fun st j b hb hj inv=> ?_) (fun st inv=> ?_) st (by rw[pre_zero];exact⟨inv.1,by omega⟩)
  ·obtain⟨rfl,inv2⟩:=inv
   have w3:wrapK .i64 ((j:Int)+1)=((j+1:Nat):Int):=by rw[i64w (by omega) (by omega)];omega
   have w4:wrapK .i64 ((ownC u (pre (fI f) i n j):Int)+1)=((ownC u (pre (fI f) i n j)+1:Nat):Int):=by rw[i64w (by omega) (by omega)];omega
   simp only[spec_l08Blocks_l1,Int.ofNat_lt,hj,decide_true,cond_true,Int.natCast_nonneg,if_true,Int.toNat_natCast,hb,Option.bind_some,w3,w4]
   refine EvX.bif (fun h1=> ?_) (fun h1=> ?_)
   ·have h1:b≠ -1:=by simpa using h1
    have hp:=pre_succ (l:=fI f) (i:=i) hb h1
    refine EvX.bind (spec_BlockOwner_ev b) (EvX.bif (fun h2=> ?_) (fun h2=> ?_))
    ·have h2:ownI b=u:=by simpa using h2
     refine EvX.const _ (GL.self _ rfl ?_)
     rw[hp,ownC_snoc,if_pos h2]
     exact⟨rfl,by omega⟩
    ·have h2:¬ownI b=u:=by simpa using h2
     refine EvX.const _ (GL.self _ rfl ?_)
     rw[hp,ownC_snoc,if_neg h2]
     exact⟨rfl,by omega⟩
   ·have h1:b= -1:=by simpa using h1
    subst h1
    refine EvX.const _ (GL.self _ rfl ?_)
    rw[pre_skip hb]
    exact⟨rfl,by omega⟩
  ·have hw:wrapK .i64 ((i:Int)+1)=((i+1:Nat):Int):=by rw[i64w (by omega) (by omega)];omega
   simp only[spec_l08Blocks_l1,Int.lt_irrefl,decide_false,cond_false,hw]
   refine EvX.const _ (GE.up (S:=Unit×((Int×Int×List PInode×Int×Int)→Option Int)) (fun p=>p.2 (u,st,fI f,((fI f).length:Int),((i+1:Nat):Int))) ?_)
   refine GL.self st rfl ?_
   rw[used_take hx]
   exact⟨inv.1,by omega⟩
 ·simp only[spec_l08Blocks_l2,Int.lt_irrefl,decide_false,cond_false]
  rw[List.take_length]at inv
  exact EvX.const _ (GE.ret (GR.ret inv.1))
theorem UsedBlocks_ev(n:PInode)(h:(xBlk n).length≤8):Ev (fun k=>c_impl_UsedBlocks k n) (nz (xBlk n)):=by
 refine EvQ.run (fun k=>impl_UsedBlocks_run k _) ?_
 simp only[impl_UsedBlocks]
 refine Ev.eq ?_
 refine EvX.list (L:=fun k _=>impl_UsedBlocks_l1 k) (xBlk n) (fun(st:List Int) i=>(st,xBlk n,((xBlk n).length:Int),((i:Nat):Int))) (fun st i=>st=nz ((xBlk n).take i)) (fun st i b hb hi inv=> ?_) (fun st inv=> ?_) _ (by simp[nz])
 ·subst inv
  have w3:wrapK .i64 ((i:Int)+1)=((i+1:Nat):Int):=by rw[i64w (by omega) (by omega)];omega
  have hl:=nz_len ((xBlk n).take i)
  rw[List.length_take]at hl
  have c:((nz ((xBlk n).take i)).length+([b]:List Int).length)*8≤capBytes:=by simp[capBytes];omega
  simp only[impl_UsedBlocks_l1,Int.ofNat_lt,hi,decide_true,cond_true,Int.natCast_nonneg,if_true,Int.toNat_natCast,hb,Option.bind_some,w3,c]
  refine EvX.bif (fun h1=> ?_) (fun h1=> ?_)
  ·have h1:b≠ -1:=by simpa using h1
   exact EvX.const _ (GL.self _ rfl (by rw[nz_take hb,if_neg h1]))
  ·have h1:b= -1:=by simpa using h1
   exact EvX.const _ (GL.self _ rfl (by rw[nz_take hb,if_pos h1,List.append_nil]))
 ·simp only[impl_UsedBlocks_l1,Int.lt_irrefl,decide_false,cond_false]
  rw[List.take_length]at inv
  exact EvX.const _ (GE.ret (GR.ret inv))
theorem taken_ev(hP:wfs f):∃r,Ev (fun k=>c_impl_FS_taken k (some f)) r∧usedA r (usedBs (fI f)):=by
 have hni:=hP.ni
 refine Ev.of (Q:=fun r=>usedA r (usedBs (fI f))) ?_ |>.imp fun n h=>⟨EvQ.run (fun k=>impl_FS_taken_run k (some f)) h.1,h.2⟩
 have c1:(0:Int)≤56:=by omega
 have c2:(56:Int)≤56:=by omega
 have c3:(56:Int)*1≤(capBytes:Int):=by unfold capBytes;omega
 simp only[impl_FS_taken,c1,c2,c3,if_true,Option.bind_some]
 refine EvX.list (L:=fun k _=>impl_FS_taken_l2 k) (fI f) (fun(st:List Bool) i=>(st,fI f,((fI f).length:Int),((i:Nat):Int))) (fun st i=>usedA st (usedBs ((fI f).take i))) (fun st i n hx hi inv=> ?_) (fun st inv=> ?_) _ usedA_nil
 ·have hbl:=hP.len i n hx
  simp only[impl_FS_taken_l2,Int.ofNat_lt,hi,decide_true,cond_true,Int.natCast_nonneg,if_true,Int.toNat_natCast,hx,Option.bind_some]
  refine EvX.bind (UsedBlocks_ev n hbl) ?_
  have hnl:=nz_len (xBlk n)
  refine EvX.list (L:=fun k (p:Unit×((List Bool×List PInode×Int×Int)→Option (List Bool)))=>impl_FS_taken_l1 k p.2) (nz (xBlk n)) (fun(st:List Bool) j=>(st,fI f,((fI f).length:Int),(i:Int),nz (xBlk n),((nz (xBlk n)).length:Int),(j:Int))) (fun st j=>usedA st (usedBs ((fI f).take i)++(nz (xBlk n)).take j)) (fun st j b hb hj inv=> ?_) (fun st inv=> ?_) st (by simpa using inv)
  ·have hm:b∈usedBs (fI f):=by
    simp only[usedBs,List.mem_flatMap]
    exact⟨n,List.mem_of_getElem? hx,List.mem_of_getElem? hb⟩
   obtain⟨b0,b1⟩:=used_mem hP hm
   have b2:b<((st.length:Nat):Int):=by rw[inv.1];omega
   have w3:wrapK .i64 ((j:Int)+1)=((j+1:Nat):Int):=by rw[i64w (by omega) (by omega)];omega
   simp only[impl_FS_taken_l1,Int.ofNat_lt,hj,decide_true,cond_true,Int.natCast_nonneg,if_true,Int.toNat_natCast,hb,Option.bind_some,w3,b0,b2,usedA_get inv b0 b1]
   refine EvX.const _ (GL.self _ rfl ?_)
   rw[List.take_add_one,hb,Option.toList_some,←List.append_assoc]
   exact usedA_set inv b0
  ·have hw:wrapK .i64 ((i:Int)+1)=((i+1:Nat):Int):=by rw[i64w (by omega) (by omega)];omega
   simp only[impl_FS_taken_l1,Int.lt_irrefl,decide_false,cond_false,hw]
   refine EvX.const _ (GE.up (S:=Unit×((List Bool×List PInode×Int×Int)→Option (List Bool))) (fun p=>p.2 (st,fI f,((fI f).length:Int),((i+1:Nat):Int))) ?_)
   refine GL.self st rfl ?_
   rw[used_take hx]
   rw[List.take_length]at inv
   simpa[pre]using inv
 ·simp only[impl_FS_taken_l2,Int.lt_irrefl,decide_false,cond_false]
  rw[List.take_length]at inv
  exact EvX.const _ (GE.ret (GR.ret inv))
theorem impl_blocks_ev(hP:wfs f)(h0:0≤u)(h3:u≤3):Ev (fun k=>c_impl_FS_blocks k (some f,u)) (inT (usedBs (fI f)) (u*14) 14:Int):=by
 refine EvQ.run (fun k=>impl_FS_blocks_run k _ _) ?_
 obtain⟨t,ht,hu⟩:=taken_ev hP
 simp only[impl_FS_blocks]
 refine EvQ.bind ht ?_
 have v1:wrapK .i64 (u+1)=u+1:=i64w (by omega) (by omega)
 have v2:wrapK .i64 ((u+1)*14)=(u+1)*14:=i64w (by omega) (by omega)
 have v3:wrapK .i64 (u*14)=u*14:=i64w (by omega) (by omega)
 have c1:0≤(u+1)*14:=by omega
 have c2:(u+1)*14≤((t.length:Nat):Int):=by rw[hu.1];omega
 have c3:0≤u*14:=by omega
 have c4:u*14≤((((u+1)*14).toNat:Nat):Int):=by omega
 have c5:((u+1)*14).toNat-(u*14).toNat=14:=by omega
 simp only[v1,v2,v3,c1,c2,c3,c4,c5,if_true,and_self]
 refine EvL.ev ?_
 have:=EvL.count (L:=fun k=>impl_FS_blocks_l1 k u) (r:=(inT (usedBs (fI f)) (u*14) 14:Int)) (fun i=>((inT (usedBs (fI f)) (u*14) i:Int),(),(((14:Nat)):Int),(i:Int),t)) 14 (fun i hi=> ?_) (EvL.stop ?_)
 ·simpa[inT]using this
 ·have hle:=inT_le (usedBs (fI f)) (u*14) i
  have w3:wrapK .i64 ((i:Int)+1)=((i+1:Nat):Int):=by rw[i64w (by omega) (by omega)];omega
  have w4:wrapK .i64 ((inT (usedBs (fI f)) (u*14) i:Int)+1)=((inT (usedBs (fI f)) (u*14) i+1:Nat):Int):=by rw[i64w (by omega) (by omega)];omega
  have hx:=hu.2 ((u*14).toNat+i) (by omega)
  have e:(((u*14).toNat+i:Nat):Int)=u*14+i:=by omega
  rw[e]at hx
  have c6:(i:Int)<((14:Nat):Int):=by omega
  simp only[EvS,impl_FS_blocks_l1,v1,v2,v3,c5,c6,decide_true,cond_true,Int.natCast_nonneg,if_true,Int.toNat_natCast,hx,Option.bind_some,w3,w4,inT_succ,and_self]
  by_cases h:u*14+(i:Int)∈usedBs (fI f)
  ·simp only[h,decide_true,cond_true,if_true];exact EvQ.const _
  ·simp only[h,decide_false,cond_false,if_false,Nat.add_zero];exact EvQ.const _
 ·simp only[impl_FS_blocks_l1,Int.lt_irrefl,decide_false,cond_false]
  exact EvQ.const _
end
end Go.Proofs.Ytkmnlefjlhogaaa

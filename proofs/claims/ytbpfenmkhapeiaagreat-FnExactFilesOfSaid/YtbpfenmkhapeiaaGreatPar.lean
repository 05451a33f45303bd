/- The tables, the residual functions and lemmas of this seat: parts of the proof of the law; conditions: those that each names. -/
import Derived.Test.YtbpfenmkhapeiaaGreatWsn
import Derived.Test.YtbpfenmkhapeiaaGreatEnts
set_option linter.unusedVariables false
set_option linter.unusedSimpArgs false
set_option maxRecDepth 100000
namespace Go.Proofs.YtbpfenmkhapeiaaGreat
open Go.Eng
def parP(i:Int)(e:PEnt):Bool:=e.2==i
theorem find_no{p:PEnt→Bool}{l:List PEnt}{j:Nat}{e:PEnt}(h:l[j]? =some e)(h0:(l.take j).find? p=none)(hp:p e=false):(l.take (j+1)).find? p=none:=by
 rw[List.take_add_one,h,Option.toList_some,List.find?_append,h0]
 simp[hp]
theorem find_yes{p:PEnt→Bool}{l:List PEnt}{j:Nat}{e:PEnt}(h:l[j]? =some e)(h0:(l.take j).find? p=none)(hp:p e=true):l.find? p=some e:=by
 have h1:(l.take (j+1)).find? p=some e:=by
  rw[List.take_add_one,h,Option.toList_some,List.find?_append,h0]
  simp[hp]
 rw[←List.take_append_drop (j+1) l,List.find?_append,h1]
 rfl
noncomputable def parD(f:PFS)(i:Int):Nat→Option (Int×ByteArray)
 |0=>none
 |d+1=>(parD f i d).or (match(fI f)[d]? with
  |some n=>if n.1=2 then((entsV f n).find? (parP i)).map fun e=>((d:Int),e.1)else none
  |none=>none)
def parO:Option (Int×ByteArray)→Int×(ByteArray×Bool)
 |some x=>(x.1,x.2,true)
 |none=>(0,⟨#[]⟩,false)
noncomputable def parR(f:PFS)(i:Int):Int×(ByteArray×Bool):=parO (parD f i 20)
theorem parD_up{f:PFS}{i:Int}{x:Int×ByteArray}:∀{m d:Nat},parD f i d=some x→parD f i (d+m)=some x
 |0,d,h=>h
 |m+1,d,h=>by
  have:=parD_up (m:=m) h
  show parD f i (d+m+1)=_
  rw[parD,this];rfl
theorem parR_some{f:PFS}{i:Int}{d:Nat}{x:Int×ByteArray}(h:parD f i d=some x)(hd:d≤20):parR f i=(x.1,x.2,true):=by
 have:=parD_up (m:=20-d) h
 rw[show d+(20-d)=20 by omega]at this
 exact congrArg parO this
theorem parR_none{f:PFS}{i:Int}(h:parD f i 20=none):parR f i=(0,⟨#[]⟩,false):=congrArg parO h
theorem parD_size{f:PFS}{i:Int}{x:Int×ByteArray}:∀{d:Nat},parD f i d=some x→x.2.size≤12
 |0,h=>by cases h
 |d+1,h=>by
  rw[parD]at h
  cases hd:parD f i d with
  |some y=>
   rw[hd,Option.some_or]at h
   injection h with h;subst h
   exact parD_size hd
  |none=>
   rw[hd,Option.none_or]at h
   split at h
   ·split at h
    ·rename_i n hn h2
     cases he:(entsV f n).find? (parP i)with
     |none=>rw[he]at h;cases h
     |some e=>
      rw[he]at h
      injection h with h;subst h
      have:=(ents_mem (List.mem_of_find?_eq_some he)).1
      exact this.1.2
    ·cases h
   ·cases h
theorem spec_Parent_ev{f:PFS}(hP:fsP f)(i:Int):Ev (fun k=>c_spec_l10Parent k (f,i)) (parR f i):=by
 refine EvQ.run (fun k=>spec_l10Parent_run k _ _) ?_
 have hni:=hP.ni
 simp only[spec_l10Parent]
 refine Ev.eq ?_
 refine EvX.list (L:=fun k _=>spec_l10Parent_l2 k) (fI f) (fun(_:Unit) d=>(i,(),fI f,((fI f).length:Int),((d:Nat):Int),f)) (fun _ d=>parD f i d=none) (fun _ d n hx hd inv=> ?_) (fun _ inv=> ?_) () rfl
 ·have hx':=nat_at hx
  have hel:=ents_len (blk_ok hP hx) (hP.ino _ _ hx)
  simp only[spec_l10Parent_l2,Int.ofNat_lt,hd,decide_true,cond_true,Int.natCast_nonneg,if_true,Int.toNat_natCast,hx,Option.bind_some,wS d]
  refine EvX.bif (fun h=>EvX.const _ (GL.self () rfl ?_)) (fun h=> ?_)
  ·have:n.1≠2:=by simpa using h
   rw[parD,inv,hx]
   simp[this]
  ·have h2:n.1=2:=by simpa using h
   refine EvX.bind (spec_entries_ev hP (by omega) hx') ?_
   refine EvX.list (L:=fun k (p:Unit×(_→Option (Int×(ByteArray×Bool))))=>spec_l10Parent_l1 k p.2) (entsV f n) (fun(_:Unit) j=>(i,(),((d:Nat):Int),fI f,((fI f).length:Int),((d:Nat):Int),entsV f n,((entsV f n).length:Int),((j:Nat):Int),f)) (fun _ j=>((entsV f n).take j).find? (parP i)=none) (fun _ j e he hj inv2=> ?_) (fun _ inv2=> ?_) () rfl
   ·have hj':(j:Int)<((entsV f n).length:Int):=by omega
    simp only[spec_l10Parent_l1,hj',decide_true,cond_true,Int.natCast_nonneg,if_true,Int.toNat_natCast,he,Option.bind_some,wS j]
    refine EvX.bif (fun h=>EvX.const _ (GL.ret (GL.ret (GR.ret ?_)))) (fun h=>EvX.const _ (GL.self () rfl (find_no he inv2 h)))
    have hf:=find_yes he inv2 h
    have:parD f i (d+1)=some ((d:Int),e.1):=by
     rw[parD,inv,hx]
     simp[h2,hf]
    rw[parR_some this (by omega)]
   ·rw[List.take_length]at inv2
    simp only[spec_l10Parent_l1,Int.lt_irrefl,decide_false,cond_false,wS d]
    refine EvX.const _ (GE.up (S:=Unit×(_→Option (Int×(ByteArray×Bool)))) (fun p=>p.2 (i,(),fI f,((fI f).length:Int),((d+1:Nat):Int),f)) ?_)
    refine GL.self () rfl ?_
    rw[parD,inv,hx]
    simp[h2,inv2]
 ·simp only[spec_l10Parent_l2,Int.lt_irrefl,decide_false,cond_false]
  rw[hni]at inv
  exact EvX.const _ (GE.ret (GR.ret (parR_none inv).symm))
theorem impl_parent_ev{f:PFS}(hP:fsP f)(i:Int):Ev (fun k=>c_impl_FS_parent k (some f,i)) (parR f i):=by
 refine EvQ.run (fun k=>impl_FS_parent_run k _ _) ?_
 simp only[impl_FS_parent]
 refine Ev.eq ?_
 refine EvX.upto (L:=fun k _=>impl_FS_parent_l2 k) 20 (fun(_:Unit) d=>(some f,i,((d:Nat):Int))) (fun _ d=>parD f i d=none) (fun _ d hd inv=> ?_) (fun _ inv=> ?_) () 0 (by omega) rfl
 ·obtain⟨n,hx'⟩:=node_at hP (i:=(d:Int)) (by omega) (by omega)
  have hx:(fI f)[d]? =some n:=by rwa[Int.toNat_natCast]at hx'
  have hel:=ents_len (blk_ok hP hx) (hP.ino _ _ hx)
  have c1:(d:Int)<20:=by omega
  simp only[impl_FS_parent_l2,c1,decide_true,cond_true,wS d]
  refine EvX.bind (isDir_ev (by omega) (by omega) hx') ?_
  refine EvX.bif (fun h=>EvX.const _ (GL.self () rfl ?_)) (fun h=> ?_)
  ·have:n.1≠2:=by simpa using h
   rw[parD,inv,hx]
   simp[this]
  ·have h2:n.1=2:=by simpa using h
   refine EvX.bind (impl_entries_ev hP (by omega) hx') ?_
   refine EvX.list (L:=fun k (p:Unit×(_→Option (Int×(ByteArray×Bool))))=>impl_FS_parent_l1 k p.2) (entsV f n) (fun(_:Unit) j=>(some f,i,((d:Nat):Int),((d:Nat):Int),entsV f n,((entsV f n).length:Int),((j:Nat):Int))) (fun _ j=>((entsV f n).take j).find? (parP i)=none) (fun _ j e he hj inv2=> ?_) (fun _ inv2=> ?_) () rfl
   ·have hj':(j:Int)<((entsV f n).length:Int):=by omega
    simp only[impl_FS_parent_l1,hj',decide_true,cond_true,Int.natCast_nonneg,if_true,Int.toNat_natCast,he,Option.bind_some,wS j]
    refine EvX.bif (fun h=>EvX.const _ (GL.ret (GL.ret (GR.ret ?_)))) (fun h=>EvX.const _ (GL.self () rfl (find_no he inv2 h)))
    have hf:=find_yes he inv2 h
    have:parD f i (d+1)=some ((d:Int),e.1):=by
     rw[parD,inv,hx]
     simp[h2,hf]
    rw[parR_some this (by omega)]
   ·rw[List.take_length]at inv2
    simp only[impl_FS_parent_l1,Int.lt_irrefl,decide_false,cond_false,wS d]
    refine EvX.const _ (GE.up (S:=Unit×(_→Option (Int×(ByteArray×Bool)))) (fun p=>p.2 (some f,i,((d+1:Nat):Int))) ?_)
    refine GL.self () rfl ?_
    rw[parD,inv,hx]
    simp[h2,inv2]
 ·simp only[impl_FS_parent_l2,show ¬((20:Nat):Int)<20 by omega,decide_false,cond_false]
  exact EvX.const _ (GE.ret (GR.ret (parR_none inv).symm))
end Go.Proofs.YtbpfenmkhapeiaaGreat

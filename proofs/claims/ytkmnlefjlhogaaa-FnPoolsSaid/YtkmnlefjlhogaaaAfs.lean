/- The tables, the residual functions and lemmas of this seat: parts of the proof of the law; conditions: those that each names. -/
import Derived.Test.YtkmnlefjlhogaaaAdv
set_option linter.unusedVariables false
set_option linter.unusedSimpArgs false
set_option maxRecDepth 100000
namespace Go.Proofs.Ytkmnlefjlhogaaa
open Go.Eng
structure NewI (n:PInode):Prop where
 kind:n.1=1∨n.1=2
 mode:0≤n.2.1∧n.2.1≤2047
 uid:0≤n.2.2.1∧n.2.2.1≤3
 gid:0≤n.2.2.2.1∧n.2.2.2.1≤3
 size:xSize n=0
 time:0≤n.2.2.2.2.2.2.1∧n.2.2.2.2.2.2.1≤1000000000
 blk:xBlk n=[]
 acl:aclP (xAcl n)
 dfl:aclP (xDef n)
 fit:n.1=2∨xDef n=[]∧intBits .and .i64 n.2.1 512=0
structure AddP (f0 r:PFS) (dir i:Nat) (n0 d:PInode) (t data:ByteArray):Prop where
 fs:fsP r
 tick:r.1=f0.1
 q:fQ r=fQ f0
 oth:∀j,j≠i→j≠dir→(fI r)[j]? =(fI f0)[j]?
 new:(fI r)[i]? =some zeroI∨∃n,(fI r)[i]? =some n∧n.1=n0.1∧xUid n=xUid n0∧(data.size=0→xBlk n=[]∧xSize n=0)
 dir:∃d',(fI r)[dir]? =some d'∧d'.1=d.1∧xUid d'=xUid d∧(t.size=0→∃t',Dir1 r d' t')
theorem nodup_take{L:List Int}(h:L.Nodup):blksP L↔∀(i:Nat) b,L[i]? =some b→b≠ -1→0≤b∧b≤999:=by
 constructor
 ·intro hb i b hi hne
  have:=hb i b hi hne
  exact⟨this.1,this.2.1⟩
 ·intro hb i b hi hne
  have:=hb i b hi hne
  refine⟨this.1,this.2,fun hm=> ?_⟩
  obtain⟨j,hj⟩:=List.mem_iff_getElem?.1 hm
  rw[List.getElem?_take]at hj
  split at hj
  ·rename_i hji
   have:=(List.getElem?_inj (i:=j) (j:=i) (List.getElem?_eq_some_iff.1 hj).1 h).1 (by rw[hj,hi])
   omega
  ·cases hj
section
variable {f0 f r:PFS} {i m dir:Nat} {n0 n x0 d:PInode} {data t name:ByteArray}
theorem Ch.inode(h:Ch f0 i n0 (cutV data.size data) m n f)(hm:m≤(cutV data.size data).length)(hN:NewI n0)(hdata:data.size≤255):usedP (lnk1 n):=by
 obtain⟨g1,g2,g3,g4,g5,g6,g7⟩:=h.flds
 have hl:=cutV_len data.size data (Nat.le_refl _)
 have hsz:0≤xSize n∧xSize n≤256∧needI (xSize n)=m:=by
  cases m with
  |zero=>rw[h.sz0 rfl];exact⟨by omega,by omega,rfl⟩
  |succ j=>
   obtain⟨s,hs⟩:∃s,(cutV data.size data)[j]? =some s:=⟨_,List.getElem?_eq_getElem (by omega)⟩
   have hc:=cutV_at data.size data (Nat.le_refl _) j s hs
   rw[h.szl j s rfl hs]
   refine⟨by omega,by omega, ?_⟩
   unfold needI
   split<;>omega
 refine⟨by show n.1=1∨n.1=2;rw[g1];exact hN.kind,⟨by show 0≤n.2.1∧n.2.1≤2047;rw[g2];exact hN.mode,by show 0≤n.2.2.1∧n.2.2.1≤3;rw[g3];exact hN.uid,by show 0≤n.2.2.2.1∧n.2.2.2.1≤3;rw[g4];exact hN.gid,by show(0:Int)≤1∧(1:Int)≤1000;omega,⟨hsz.1,hsz.2.1⟩,by show 0≤n.2.2.2.2.2.2.1∧n.2.2.2.2.2.2.1≤1000000000;rw[g6];exact hN.time,by show((xBlk n).length:Int)=needI (xSize n);rw[h.len,hsz.2.2]⟩, ?_, ?_, ?_, ?_⟩
 ·show aclP n.2.2.2.2.2.2.2.2.1;rw[g7];exact hN.acl
 ·show aclP n.2.2.2.2.2.2.2.2.2;rw[g7];exact hN.dfl
 ·refine(nodup_take h.nodup).2 fun j b hj hne=> ?_
  have:=h.own b (List.mem_of_getElem? hj)
  have:=hN.uid
  show 0≤b∧b≤999
  unfold xUid at*
  omega
 ·show n.1=2∨n.2.2.2.2.2.2.2.2.2=[]∧intBits .and .i64 n.2.1 512=0
  rw[g1,g7,g2];exact hN.fit
theorem nz_all{L:List Int}(h:∀b∈L,0≤b):nz L=L:=by
 unfold nz
 refine List.filter_eq_self.2 fun b hb=> ?_
 have:=h b hb
 simp;omega
theorem clear_get(L:List Int)(hL:∀b∈L,0≤b)(D:List ByteArray)(hD:∀b∈L,b.toNat<D.length):∀(j c:Nat),j≤L.length→(((c:Int)∈L.take j∧(clearD L j D)[c]? =some zero32)∨((c:Int)∉L.take j∧(clearD L j D)[c]? =D[c]?))
 |0,c,_=> .inr ⟨by simp,rfl⟩
 |j+1,c,hj=>by
  have ih:=clear_get L hL D hD j c (by omega)
  have hx:L[j]? =some L[j]:=List.getElem?_eq_getElem (by omega)
  have hm:L[j]∈L:=List.getElem_mem _
  have h0:=hL _ hm
  have ht:L.take (j+1)=L.take j++[L[j]]:=(List.take_append_getElem (by omega)).symm
  simp only[clearD,hx]
  rw[ht]
  by_cases e:(c:Int)=L[j]
  ·refine .inl ⟨List.mem_append.2 (.inr (List.mem_singleton.2 e)), ?_⟩
   rw[show L[j].toNat=c by omega,List.getElem?_set_self]
   rw[clearD_len]
   have:=hD _ hm
   omega
  ·rw[List.getElem?_set_ne (by omega)]
   rcases ih with⟨h1,h2⟩|⟨h1,h2⟩
   ·exact .inl ⟨List.mem_append.2 (.inl h1),h2⟩
   ·exact .inr ⟨fun hq=>(List.mem_append.1 hq).elim h1 fun hq=>e (List.mem_singleton.1 hq),h2⟩
theorem add_undone(hP:fsP f0)(h:Ch f0 i n0 (cutV data.size data) m n f)(hN:NewI n0)(hx:(fI f0)[i]? =some zeroI)(hd:(fI f0)[dir]? =some d)(hne:dir≠i)(ht:Dir1 f0 d t)(hdb:xBlk d=[])
  (hr:r=(f0.1,fQ f0,(fI f0).set i zeroI,clearD (xBlk n) m (fD f))):AddP f0 r dir i n0 d t data:=by
 have hI:(fI f0).set i zeroI=fI f0:=set_same hx
 rw[hI]at hr
 have hb0:∀b∈xBlk n,0≤b∧b<56∧b∉usedBs (fI f0):=fun b hb=>by
  have h1:=h.own b hb
  have h2:=hN.uid
  unfold xUid at h1
  exact⟨by omega,by omega,h1.2.2⟩
 have hget:∀c:Nat,(((c:Int)∈xBlk n∧(fD r)[c]? =some zero32)∨((c:Int)∉xBlk n∧(fD r)[c]? =(fD f0)[c]?)):=fun c=>by
  have:=clear_get (xBlk n) (fun b hb=>(hb0 b hb).1) (fD f) (fun b hb=>by have:=hb0 b hb;rw[h.nd];omega) m c (by rw[h.len];exact Nat.le_refl _)
  rw[List.take_of_length_le (by rw[h.len];exact Nat.le_refl _)]at this
  rw[hr]
  rcases this with h1|⟨h1,h2⟩
  ·exact .inl h1
  ·exact .inr ⟨h1,h2.trans (h.same c h1)⟩
 have hrI:fI r=fI f0:=by rw[hr]
 have hrQ:fQ r=fQ f0:=by rw[hr]
 have hused:∀{j:Nat} {x:PInode} {k:Nat} {b:Int},(fI f0)[j]? =some x→(xBlk x)[k]? =some b→b≠ -1→ownAt x b→(fD r)[b.toNat]? =(fD f0)[b.toNat]? :=fun{j x k b} hj hk hb ho=>by
  have hu:b∈usedBs (fI f0):=List.mem_flatMap.2 ⟨x,List.mem_of_getElem? hj,List.mem_filter.2 ⟨List.mem_of_getElem? hk,by simp[hb]⟩⟩
  rcases hget b.toNat with⟨h1,_⟩|⟨_,h2⟩
  ·rw[show((b.toNat:Nat):Int)=b by have:=ho.1;omega]at h1
   exact absurd hu (hb0 b h1).2.2
  ·exact h2
 refine⟨⟨by rw[hr];exact hP.tick,by rw[hrQ];exact hP.nq,by rw[hrI];exact hP.ni, ?_,by rw[hrQ];exact hP.q,fun c s hs=> ?_,by rw[hrI];exact hP.ino,fun j x hj k b hk hb=> ?_,by rw[hrI];exact hP.nodup,fun c s hs hc=> ?_,by rw[hrI];exact hP.root⟩,by rw[hr],hrQ,fun j _ _=>by rw[hrI],.inl (by rw[hrI];exact hx),d,by rw[hrI];exact hd,rfl,rfl,fun _=>⟨t,ht.congr fun b hb=>by rw[hdb]at hb;cases hb⟩⟩
 ·rw[hr];show(clearD _ _ _).length=56;rw[clearD_len,h.nd]
 ·rcases hget c with⟨_,h2⟩|⟨_,h2⟩
  ·rw[h2]at hs;injection hs with hs;rw[←hs];exact zero32_size
  ·rw[h2]at hs;exact hP.sz c s hs
 ·rw[hrI]at hj
  obtain⟨ho,htl⟩:=hP.blk j x hj k b hk hb
  refine⟨ho,fun hlt s hs=>htl hlt s ?_⟩
  rw[hused hj hk hb ho]at hs;exact hs
 ·rcases hget c with⟨_,h2⟩|⟨_,h2⟩
  ·rw[h2]at hs;injection hs with hs;rw[←hs];exact zero32_zero
  ·rw[h2]at hs;rw[hrI]at hc;exact hP.free c s hs hc
end
end Go.Proofs.Ytkmnlefjlhogaaa

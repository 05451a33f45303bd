/- The tables, the residual functions and lemmas of this seat: parts of the proof of the law; conditions: those that each names. -/
import Derived.Test.YtkmnlefjlhogaaaAfs
set_option linter.unusedVariables false
set_option linter.unusedSimpArgs false
set_option maxRecDepth 100000
namespace Go.Proofs.Ytkmnlefjlhogaaa
open Go.Eng
theorem used_of{l:List PInode}{j:Nat}{x:PInode}(h:l[j]? =some x){b:Int}(hb:b∈xBlk x)(h0:0≤b):b∈usedBs l:=
 List.mem_flatMap.2 ⟨x,List.mem_of_getElem? h,List.mem_filter.2 ⟨hb,by simp;omega⟩⟩
theorem disj_ino{l:List PInode}(h:(usedBs l).Nodup){i j:Nat}{x y:PInode}(hx:l[i]? =some x)(hy:l[j]? =some y)(hij:i≠j){b:Int}(h0:0≤b)(h1:b∈xBlk x)(h2:b∈xBlk y):False:=by
 have hx':(l.set j zeroI)[i]? =some x:=by rw[List.getElem?_set_ne (Ne.symm hij)];exact hx
 have hb:=used_of hx' h1 h0
 have h2':b∈nz (xBlk y):=List.mem_filter.2 ⟨h2,by simp;omega⟩
 rw[used_set hy]at hb
 rw[used_at hy,List.nodup_append,List.nodup_append]at h
 obtain⟨_,⟨_,_,h4⟩,h5⟩:=h
 rcases List.mem_append.1 hb with hb|hb
 ·exact h5 b hb b (by simp[h2']) rfl
 ·rcases List.mem_append.1 hb with hb|hb
  ·cases hb
  ·exact h4 b h2' b hb rfl
section
variable {f0 f r:PFS} {i m dir:Nat} {n0 n x0 d:PInode} {data t name:ByteArray}
theorem add_done(hP:fsP f0)(h:Ch f0 i n0 (cutV data.size data) m n f)(hm:m≤(cutV data.size data).length)(hN:NewI n0)(hdata:data.size≤255)(hx:(fI f0)[i]? =some zeroI)(hd:(fI f0)[dir]? =some d)(hdk:d.1=2)(hne:dir≠i)(hi0:i≠0)
  (ht:Dir1 f0 d t) (hname:name.size≤13) {b:Int} (hb:xBlk d=[b]∨xBlk d=[]∧xUid d*14≤b∧b<xUid d*14+14∧b∉usedBs ((fI f0).set i (lnk1 n))) (b0:0≤b) (b1:b<56)
  (hr:r=(f0.1,fQ f0,((fI f0).set i (lnk1 n)).set dir (dirN d (t++recB i name) b),(fD f).set b.toNat (padB (t++recB i name) 32))):AddP f0 r dir i n0 d t data:=by
 obtain⟨g1,g2,g3,g4,g5,g6,g7⟩:=h.flds
 have hud:usedP d:=(hP.ino dir d hd).resolve_left fun e=>by rw[e]at hdk;cases hdk
 have hduid:=hud.2.1.2.1
 have hun:=h.inode hm hN hdata
 have hw:=hP.w
 have hrs:=recB_size i hname
 have hall:(t++recB i name).size=t.size+16:=by rw[app_size,hrs]
 have hts:t.size=0∨t.size=16:=by rcases ht.size with⟨_,e,_⟩|⟨_,_,e,_⟩<;>omega
 have hnb:∀c∈xBlk n,0≤c∧c<56∧c∉usedBs (fI f0):=fun c hc=>by
  have h1:=h.own c hc
  have h2:=hN.uid
  unfold xUid at h1
  exact⟨by omega,by omega,h1.2.2⟩
 have hI1i:((fI f0).set i (lnk1 n))[i]? =some (lnk1 n):=List.getElem?_set_self (List.getElem?_eq_some_iff.1 hx).1
 have hI1d:((fI f0).set i (lnk1 n))[dir]? =some d:=by rw[List.getElem?_set_ne (Ne.symm hne)];exact hd
 have hbn:b∉xBlk n:=fun hbm=>by
  rcases hb with e|⟨_,_,_,e⟩
  ·exact(hnb b hbm).2.2 (used_of hd (by rw[e];simp) b0)
  ·exact e (used_of hI1i hbm b0)
 have hown:ownAt d b:=by
  rcases hb with e|⟨_,e1,e2,_⟩
  ·exact(hP.blk dir d hd 0 b (by rw[e];rfl) (by omega)).1
  ·unfold ownAt;omega
 have hrI:fI r=((fI f0).set i (lnk1 n)).set dir (dirN d (t++recB i name) b):=by rw[hr]
 have hrQ:fQ r=fQ f0:=by rw[hr]
 have hrD:fD r=(fD f).set b.toNat (padB (t++recB i name) 32):=by rw[hr]
 have hrd:(fI r)[dir]? =some (dirN d (t++recB i name) b):=by rw[hrI];exact List.getElem?_set_self (List.getElem?_eq_some_iff.1 hI1d).1
 have hri:(fI r)[i]? =some (lnk1 n):=by rw[hrI,List.getElem?_set_ne hne];exact hI1i
 have hDb:(fD r)[b.toNat]? =some (padB (t++recB i name) 32):=by rw[hrD];exact List.getElem?_set_self (by rw[h.nd];omega)
 have hDn:∀c:Nat,(c:Int)≠b→(fD r)[c]? =(fD f)[c]? :=fun c hc=>by rw[hrD,List.getElem?_set_ne (by omega)]
 have hD0:∀c:Nat,(c:Int)≠b→(c:Int)∉xBlk n→(fD r)[c]? =(fD f0)[c]? :=fun c hc hcn=>(hDn c hc).trans (h.same c hcn)
 have hwhich:∀{j:Nat} {y:PInode},(fI r)[j]? =some y→(y=dirN d (t++recB i name) b∧j=dir)∨(y=lnk1 n∧j=i)∨((fI f0)[j]? =some y∧j≠i∧j≠dir):=fun{j y} hj=>by
  rw[hrI]at hj
  rcases get_set hI1d hj with h1|⟨h1,h2⟩
  ·exact .inl h1
  ·rcases get_set hx h1 with h3|⟨h3,h4⟩
   ·exact .inr (.inl h3)
   ·exact .inr (.inr ⟨h3,h4,h2⟩)
 have hpsz:(padB (t++recB i name) 32).size=32:=by rw[padB_size];omega
 have hsz:∀(c:Nat) s,(fD r)[c]? =some s→s.size=32:=fun c s hs=>by
  by_cases e:(c:Int)=b
  ·have e':c=b.toNat:=by omega
   rw[e',hDb]at hs
   exact(Option.some.inj hs)▸hpsz
  ·rw[hDn c e]at hs;exact h.sz s (List.mem_of_getElem? hs)
 have hnd:(usedBs (fI r)).Nodup:=by
  rw[hrI]
  have hn1:(usedBs ((fI f0).set i (lnk1 n))).Nodup:=used_set_nodup hx hP.nodup (nz_nodup h.nodup) fun c hc=> .inr (hnb c (nz_mem hc)).2.2
  refine used_set_nodup hI1d hn1 (nz_nodup (by show [b].Nodup;simp)) fun c hc=> ?_
  have hc:c=b:=by have:=nz_mem hc;exact List.mem_singleton.1 this
  subst hc
  rcases hb with e|⟨_,_,_,e⟩
  ·exact .inl (List.mem_filter.2 ⟨by rw[e];simp,by simp;omega⟩)
  ·exact .inr e
 refine⟨⟨by rw[hr];exact hP.tick,by rw[hrQ];exact hP.nq,by rw[hrI,List.length_set,List.length_set];exact hP.ni,by rw[hrD,List.length_set];exact h.nd,by rw[hrQ];exact hP.q,hsz,fun j y hj=> ?_,fun j y hj k c hk hc=> ?_,hnd,fun c s hs hc=> ?_, ?_⟩,by rw[hr],hrQ,fun j h1 h2=> ?_,.inr ⟨lnk1 n,hri,g1,g3,fun e=> ?_⟩,dirN d (t++recB i name) b,hrd,rfl,rfl,fun e=> ?_⟩
 ·rcases hwhich hj with⟨rfl,_⟩|⟨rfl,_⟩|⟨h1,_,_⟩
  ·refine .inr ⟨hud.1,⟨hud.2.1.1,hud.2.1.2.1,hud.2.1.2.2.1,hud.2.1.2.2.2.1, ?_,hud.2.1.2.2.2.2.2.1, ?_⟩,hud.2.2.1,hud.2.2.2.1, ?_,hud.2.2.2.2.2⟩
   ·show(0:Int)≤(((t++recB i name).size:Nat):Int)∧(((t++recB i name).size:Nat):Int)≤256
    omega
   ·show(([b]:List Int).length:Int)=needI (((t++recB i name).size:Nat):Int)
    rw[hall];unfold needI
    rw[if_neg (by omega)]
    show(1:Int)=_
    omega
   ·refine(nodup_take (by show [b].Nodup;simp)).2 fun j c hj _=> ?_
    have:c=b:=List.mem_singleton.1 (List.mem_of_getElem? hj)
    omega
  ·exact .inr hun
  ·exact hP.ino j y h1
 ·rcases hwhich hj with⟨rfl,_⟩|⟨rfl,_⟩|⟨h1,h2,h3⟩
  ·have hk':([b]:List Int)[k]? =some c:=hk
   have hcb:c=b:=List.mem_singleton.1 (List.mem_of_getElem? hk')
   have hk0:k=0:=by have:=(List.getElem?_eq_some_iff.1 hk').1;simp at this;exact this
   subst hcb;subst hk0
   refine⟨hown,fun _ s hs=> ?_⟩
   rw[hDb]at hs;injection hs with hs;subst hs
   refine pad_zero ?_
   show _≤((((t++recB i name).size:Nat):Int)-32*((0:Nat):Int)).toNat
   omega
  ·have hcm:c∈xBlk n:=List.mem_of_getElem? hk
   have h4:=h.own c hcm
   have h5:=hnb c hcm
   refine⟨by have e:xUid (lnk1 n)=xUid n0:=g3;unfold ownAt;rw[e];omega,fun hlt s hs=> ?_⟩
   obtain⟨s',e1,e2⟩:=h.dat k c hk
   have hcb:c≠b:=fun e=>hbn (e▸hcm)
   rw[hDn c.toNat (by omega),e2]at hs
   injection hs with hs;subst hs
   refine pad_zero ?_
   have hkm:k<m:=by rw[←h.len];exact(List.getElem?_eq_some_iff.1 hk).1
   obtain⟨j',rfl⟩:∃j',m=j'+1:=⟨m-1,by omega⟩
   obtain⟨sj,hsj⟩:∃s,(cutV data.size data)[j']? =some s:=⟨_,List.getElem?_eq_getElem (by omega)⟩
   have hxs:=h.szl j' sj rfl hsj
   have hxs':xSize (lnk1 n)=32*(j':Int)+(sj.size:Int):=hxs
   rw[hxs']at hlt ⊢
   have c1:=cutV_at data.size data (Nat.le_refl _) j' sj hsj
   have:k=j':=by omega
   subst this
   rw[e1]at hsj;injection hsj with hsj;subst hsj
   omega
  ·obtain⟨h4,h5⟩:=hP.blk j y h1 k c hk hc
   refine⟨h4,fun hlt s hs=>h5 hlt s ?_⟩
   have hc0:0≤c:=h4.1
   have hcm:c∈xBlk y:=List.mem_of_getElem? hk
   have hcb:c≠b:=fun e=>by
    subst e
    rcases hb with e1|⟨_,_,_,e1⟩
    ·exact disj_ino hP.nodup h1 hd h3 hc0 hcm (by rw[e1];simp)
    ·exact e1 (used_of (by rw[List.getElem?_set_ne (Ne.symm h2)];exact h1) hcm hc0)
   have hcn:c∉xBlk n:=fun e=>(hnb c e).2.2 (used_of h1 hcm hc0)
   have e3:((c.toNat:Nat):Int)=c:=by omega
   rw[hD0 c.toNat (by rw[e3];exact hcb) (by rw[e3];exact hcn)]at hs
   exact hs
 ·have hcb:(c:Int)≠b:=fun e=>hc (by rw[e];exact used_of hrd (by show b∈[b];simp) b0)
  have hcn:(c:Int)∉xBlk n:=fun e=>hc (used_of hri e (by omega))
  rw[hD0 c hcb hcn]at hs
  refine hP.free c s hs fun hu=> ?_
  rcases used_mem_set (n:=lnk1 n) hx hu with h1|h1
  ·cases h1
  ·rcases used_mem_set (n:=dirN d (t++recB i name) b) hI1d h1 with h2|h2
   ·have h2:=nz_mem h2
    rcases hb with e1|⟨e1,_⟩
    ·rw[e1]at h2;exact hcb (List.mem_singleton.1 h2)
    ·rw[e1]at h2;cases h2
   ·rw[←hrI]at h2;exact hc h2
 ·obtain⟨x,h1,h2⟩:=hP.root
  by_cases e:dir=0
  ·subst e;exact⟨dirN d (t++recB i name) b,hrd,hdk⟩
  ·refine⟨x, ?_,h2⟩
   rw[hrI,List.getElem?_set_ne e,List.getElem?_set_ne hi0];exact h1
 ·rw[hrI,List.getElem?_set_ne (Ne.symm h2),List.getElem?_set_ne (Ne.symm h1)]
 ·have e0:m=0:=by rw[cutV_size0 e]at hm;exact Nat.le_zero.1 hm
  refine⟨List.eq_nil_of_length_eq_zero (by show(xBlk n).length=0;rw[h.len,e0]),h.sz0 e0⟩
 ·refine⟨_,.one (b:=b) (s:=padB (t++recB i name) 32) rfl ?_ b0 b1 hDb hpsz⟩
  show(((t++recB i name).size:Nat):Int)=16
  omega
theorem add_ok(hP:fsP f0)(hN:NewI n0)(hdata:data.size≤255)(hx:(fI f0)[i]? =some zeroI)(hd:(fI f0)[dir]? =some d)(hdk:d.1=2)(hne:dir≠i)(hi0:i≠0)(ht:Dir1 f0 d t)(hname:name.size≤13):
  ∃r,Ev (fun k=>c_spec_l08Add k (f0,(dir:Int),name,(i:Int),n0,data)) r∧AddP f0 r dir i n0 d t data:=by
 have hud:usedP d:=(hP.ino dir d hd).resolve_left fun e=>by rw[e]at hdk;cases hdk
 have hduid:=hud.2.1.2.1
 obtain⟨r,h1,m,n,f,hm,hC,h2⟩:=add_ev (x0:=zeroI) hP.w hx rfl hN.blk hN.size hN.uid.1 hN.uid.2 (by have:=hN.acl.1;omega) (by have:=hN.dfl.1;omega) hd hne ht hduid.1 hduid.2 hname hdata
 refine⟨r,h1, ?_⟩
 rcases h2 with⟨b,h3,h4,h5,h6⟩|⟨h3,h4⟩
 ·exact add_done hP hC hm hN hdata hx hd hdk hne hi0 ht hname h3 h4 h5 h6
 ·exact add_undone hP hC hN hx hd hne ht h3 h4
end
end Go.Proofs.Ytkmnlefjlhogaaa

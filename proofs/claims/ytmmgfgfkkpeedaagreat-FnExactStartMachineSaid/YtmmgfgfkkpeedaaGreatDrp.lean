/- The tables, the residual functions and lemmas of this seat: parts of the proof of the law; conditions: those that each names. -/
import Derived.Test.YtmmgfgfkkpeedaaGreatCpy
import Derived.Test.YtmmgfgfkkpeedaaGreatZro
set_option linter.unusedVariables false
set_option linter.unusedSimpArgs false
set_option maxRecDepth 100000
namespace Go.Proofs.YtmmgfgfkkpeedaaGreat
open Go.Eng
def zAll(d:List ByteArray)(l:List Int):List ByteArray:=l.foldl (fun d b=>d.set b.toNat zero32) d
theorem zAll_len:∀(l:List Int) (d:List ByteArray),(zAll d l).length=d.length
 |[],d=>rfl
 |b::l,d=>by
  show(zAll (d.set b.toNat zero32) l).length=_
  rw[zAll_len l,List.length_set]
theorem zAll_get(j:Nat):∀(l:List Int) (d:List ByteArray),j<d.length→(zAll d l)[j]? =if∃b∈l,b.toNat=j then some zero32 else d[j]?
 |[],d,h=>by rw[if_neg (by simp)];rfl
 |b::l,d,h=>by
  show(zAll (d.set b.toNat zero32) l)[j]? =_
  rw[zAll_get j l _ (by rw[List.length_set];exact h)]
  by_cases h1:∃b∈l,b.toNat=j
  ·obtain⟨x,hx,hj⟩:=h1
   rw[if_pos ⟨x,hx,hj⟩,if_pos ⟨x,List.mem_cons_of_mem _ hx,hj⟩]
  ·rw[if_neg h1]
   by_cases h2:b.toNat=j
   ·rw[if_pos ⟨b,List.mem_cons_self ..,h2⟩,←h2]
    exact List.getElem?_set_self (by rw[h2];exact h)
   ·rw[if_neg (by
     rintro⟨x,hx,hj⟩
     rcases List.mem_cons.1 hx with e|hx
     ·subst e;exact h2 hj
     ·exact h1 ⟨x,hx,hj⟩),List.getElem?_set_ne h2]
theorem zAll_rev(l:List Int)(d:List ByteArray):zAll d l.reverse=zAll d l:=by
 apply List.ext_getElem?
 intro j
 by_cases h:j<d.length
 ·rw[zAll_get j _ d h,zAll_get j _ d h]
  simp only[List.mem_reverse]
 ·rw[List.getElem?_eq_none (by rw[zAll_len];omega),List.getElem?_eq_none (by rw[zAll_len];omega)]
theorem zAll_snoc(l:List Int)(b:Int)(d:List ByteArray):zAll d (l++[b])=(zAll d l).set b.toNat zero32:=by
 rw[zAll,List.foldl_append];rfl
structure wkP (f:PFS):Prop where
 ni:(fI f).length=20
 nd:(fD f).length=56
 blk:∀(i:Nat) n,(fI f)[i]? =some n→(xBlk n).length≤1000∧∀b∈xBlk n,b≠ -1→0≤b∧b<56
def freeV(f:PFS)(i:Nat):PFS:=(f.1,f.2.1,(fI f).set i zeroI,zAll (fD f) (nz (xBlk (((fI f)[i]?).getD zeroI))))
theorem freeV_wk{f:PFS}(h:wkP f)(i:Nat):wkP (freeV f i):=by
 refine⟨by show((fI f).set i zeroI).length=20;rw[List.length_set,h.ni],by show(zAll _ _).length=56;rw[zAll_len,h.nd],fun j n hn=> ?_⟩
 have hn:((fI f).set i zeroI)[j]? =some n:=hn
 by_cases e:i=j
 ·subst e
  have hl:i<(fI f).length:=by have:=(List.getElem?_eq_some_iff.1 hn).1;rw[List.length_set]at this;exact this
  rw[List.getElem?_set_self hl]at hn
  cases hn
  exact⟨Nat.zero_le _,fun b hb=>by cases hb⟩
 ·rw[List.getElem?_set_ne e]at hn
  exact h.blk j n hn
theorem freeV_cap{f:PFS}(h:fsCap f)(i:Nat):fsCap (freeV f i):=by
 obtain⟨h1,h2,h3,h4⟩:=h
 refine⟨h1,by show((fI f).set i zeroI).length≤_;rw[List.length_set];exact h2,by show(zAll _ _).length≤_;rw[zAll_len];exact h3,fun n hn=> ?_⟩
 rcases List.mem_or_eq_of_mem_set (show n∈(fI f).set i zeroI from hn)with h|h
 ·exact h4 n h
 ·rw[h];exact⟨Nat.zero_le _,Nat.zero_le _,Nat.zero_le _⟩
theorem nz_snoc(l:List Int)(b:Int):nz (l++[b])=if b= -1 then nz l else nz l++[b]:=by
 unfold nz
 rw[List.filter_append]
 by_cases h:b= -1
 ·rw[if_pos h];simp[h]
 ·rw[if_neg h];simp[h]
theorem nz_cons(l:List Int)(b:Int):nz (b::l)=if b= -1 then nz l else b::nz l:=by
 unfold nz
 by_cases h:b= -1
 ·rw[if_pos h];simp[h]
 ·rw[if_neg h];simp[h]
theorem used_ev(n:PInode)(h:(xBlk n).length≤1000):Ev (fun k=>c_impl_UsedBlocks k n) (nz (xBlk n)):=by
 refine EvQ.run (fun k=>impl_UsedBlocks_run k n) (EvL.ev ?_)
 refine EvL.count (L:=impl_UsedBlocks_l1) (r:=nz (xBlk n)) (fun i=>(nz ((xBlk n).take i),xBlk n,((xBlk n).length:Int),(i:Int))) (xBlk n).length (fun i hi=> ?_) (EvL.stop ?_)
 ·have hx:(xBlk n)[i]? =some (xBlk n)[i]:=List.getElem?_eq_getElem hi
  have hw:wrapK .i64 ((i:Int)+1)=((i+1:Nat):Int):=by rw[i64w (by omega) (by omega)];omega
  have ht:(xBlk n).take (i+1)=(xBlk n).take i++[(xBlk n)[i]]:=by rw[List.take_add_one,hx];rfl
  have hl:(nz ((xBlk n).take i)).length≤i:=Nat.le_trans (List.length_filter_le _ _) (by rw[List.length_take];omega)
  have hc:((nz ((xBlk n).take i)).length+([(xBlk n)[i]]:List Int).length)*8≤capBytes:=by
   show(_+1)*8≤capBytes;exact sc _ _
  simp only[EvS,impl_UsedBlocks_l1,Int.ofNat_lt,hi,decide_true,cond_true,Int.natCast_nonneg,if_true,Int.toNat_natCast,hx,Option.bind_some,hw]
  rw[ht,nz_snoc]
  by_cases hb:(xBlk n)[i]= -1
  ·rw[if_pos hb,hb]
   exact EvQ.const _
  ·rw[if_neg hb,show((xBlk n)[i] != -1)=true by simp[hb]]
   simp only[cond_true,hc,if_true]
   exact EvQ.const _
 ·simp only[impl_UsedBlocks_l1,Int.lt_irrefl,decide_false,cond_false,List.take_length]
  exact EvQ.const _
theorem nz_mem{l:List Int}{b:Int}(h:b∈nz l):b∈l∧b≠ -1:=by
 have:=List.mem_filter.1 h
 exact⟨this.1,by simpa using this.2⟩
theorem impl_free_ev{f:PFS}(h:wkP f){i:Nat}(hi:i<20):Ev (fun k=>c_impl_FS_free k (f,(i:Int))) (if i=0 then((1:Int),f)else((0:Int),freeV f i)):=by
 refine EvQ.run (fun k=>impl_FS_free_run k _ _) ?_
 simp only[impl_FS_free]
 by_cases h0:i=0
 ·subst h0
  exact EvQ.const _
 rw[if_neg h0,show((i:Int)==0)=false by simp;exact h0]
 have hni:=h.ni
 have hx:(fI f)[i]? =some (fI f)[i]:=List.getElem?_eq_getElem (by omega)
 obtain⟨b1,b2⟩:=h.blk i _ hx
 have hl:(nz (xBlk (fI f)[i])).length≤1000:=Nat.le_trans (List.length_filter_le _ _) b1
 simp only[cond_false,Int.natCast_nonneg,if_true,show(i:Int)<((fI f).length:Int)by omega,Int.toNat_natCast,hx,Option.bind_some]
 refine EvQ.bind (used_ev _ b1) (EvL.ev ?_)
 have hv:freeV f i=(f.1,f.2.1,(fI f).set i zeroI,zAll (fD f) (nz (xBlk (fI f)[i]))):=by rw[freeV,hx];rfl
 rw[hv]
 generalize hL:nz (xBlk (fI f)[i])=L at hl
 have hb:∀b∈L,0≤b∧b<56:=fun b hb=>by rw[←hL]at hb;obtain⟨q1,q2⟩:=nz_mem hb;exact b2 b q1 q2
 refine EvL.count (L:=impl_FS_free_l1) (r:=((0:Int),(f.1,f.2.1,(fI f).set i zeroI,zAll (fD f) L))) (fun j=>((),(i:Int),L,(L.length:Int),(j:Int),(f.1,f.2.1,fI f,zAll (fD f) (L.take j)))) L.length (fun j hj=> ?_) (EvL.stop ?_)
 ·have hy:L[j]? =some L[j]:=List.getElem?_eq_getElem hj
  have hw:wrapK .i64 ((j:Int)+1)=((j+1:Nat):Int):=by rw[i64w (by omega) (by omega)];omega
  have ht:L.take (j+1)=L.take j++[L[j]]:=by rw[List.take_add_one,hy];rfl
  obtain⟨q1,q2⟩:=hb _ (List.mem_of_getElem? hy)
  have hlen:(zAll (fD f) (L.take j)).length=56:=by rw[zAll_len,h.nd]
  have hz:(zAll (fD f) (L.take j))[L[j].toNat]? =some ((zAll (fD f) (L.take j))[L[j].toNat]'(by omega)):=List.getElem?_eq_getElem (by omega)
  simp only[EvS,impl_FS_free_l1,Int.ofNat_lt,hj,decide_true,cond_true,Int.natCast_nonneg,if_true,Int.toNat_natCast,hy,Option.bind_some,hw]
  refine EvQ.bindS zeros_ev ?_
  simp only[q1,if_true,show L[j]<((zAll (fD f) (L.take j)).length:Int)by omega,hz,Option.bind_some]
  rw[ht,zAll_snoc]
  exact EvQ.const _
 ·simp only[impl_FS_free_l1,Int.lt_irrefl,decide_false,cond_false,Int.natCast_nonneg,if_true,show(i:Int)<((fI f).length:Int)by omega,Int.toNat_natCast,hx,Option.bind_some,List.take_length]
  exact EvQ.const _
def nB(n:PInode)(l:List Int):PInode:=(n.1,n.2.1,n.2.2.1,n.2.2.2.1,n.2.2.2.2.1,n.2.2.2.2.2.1,n.2.2.2.2.2.2.1,l,n.2.2.2.2.2.2.2.2)
theorem spec_resize0_ev{f:PFS}(h:wkP f)(hc:fsCap f){i:Nat}(hi:i<20):∃n',Ev (fun k=>c_spec_l09Resize k (f,(i:Int),(0:Int))) (f.1,f.2.1,(fI f).set i n',zAll (fD f) (nz (xBlk (((fI f)[i]?).getD zeroI)))):=by
 have hni:=h.ni
 have hx:(fI f)[i]? =some (fI f)[i]:=List.getElem?_eq_getElem (by omega)
 obtain⟨b1,b2⟩:=h.blk i _ hx
 have hic:=hc.2.2.2 _ (List.mem_of_getElem? hx)
 rw[hx]
 generalize hn:(fI f)[i]=n at b1 b2 hic hx
 refine⟨(n.1,n.2.1,n.2.2.1,n.2.2.2.1,n.2.2.2.2.1,0,n.2.2.2.2.2.2.1,[],n.2.2.2.2.2.2.2.2),EvQ.run (fun k=>spec_l09Resize_run k _ _ _) ?_⟩
 simp only[spec_l09Resize]
 refine EvQ.bind (spec_copyFS_ev f hc) ?_
 simp only[Int.natCast_nonneg,if_true,show(i:Int)<((fI f).length:Int)by omega,Int.toNat_natCast,hx,Option.bind_some,Option.getD_some]
 refine EvQ.bind (spec_copyInode_ev n hic) (EvQ.bind (spec_BlocksNeeded_ev 0 (by omega)) ?_)
 refine Ev.eq ?_
 have hneed:needI 0=0:=rfl
 rw[hneed]
 have hfin:∀d:List ByteArray,d.length=56→zAll (fD f) (nz (xBlk n))=d→EvX (fun k (p:Unit×(_→Option DFS))=>spec_l09Resize_l2 k p.2 ((i:Int),(0:Int),(),(),(),(0:Int),nB n ((xBlk n).take ((xBlk n).length-(xBlk n).length)),(f.1,f.2.1,fI f,d),((0:Int),([]:List PQuota),([]:List PInode),([]:List ByteArray)))) (GE fun o=>GR (fun x=>x=(f.1,f.2.1,(fI f).set i (n.1,n.2.1,n.2.2.1,n.2.2.2.1,n.2.2.2.2.1,0,n.2.2.2.2.2.2.1,[],n.2.2.2.2.2.2.2.2),zAll (fD f) (nz (xBlk n)))) o):=fun d hd hz=>by
  rw[Nat.sub_self,List.take_zero,hz]
  have e0:(0:Int).tmod 32=0:=rfl
  simp only[spec_l09Resize_l2,nB,List.length_nil,show((0:Nat):Int)=0 from rfl,Int.lt_irrefl,decide_false,cond_false,e0,ne_eq,show ¬((32:Int)=0)by decide,not_false_eq_true,if_true]
  have hj:∀(X:Bool) (t:Int×Int×Unit×Unit×Unit×Int×PInode×PFS×PFS),(bif X then some (Sum.inl t)else some (Sum.inl t):Option ((Int×Int×Unit×Unit×Unit×Int×PInode×PFS×PFS)⊕ PFS))=some (.inl t):=fun X t=>by cases X<;>rfl
  simp only[hj]
  refine EvX.joinT _ True (EvX.const _ (GT.inl trivial)) fun _=> ?_
  simp only[spec_l09Resize_l2_j2]
  refine EvX.out (F:=fun k _=>iter k (spec_l09Resize_l1 k) ((i:Int),(0:Int),(),(),(),(0:Int),nB n [],(f.1,f.2.1,fI f,d),((0:Int),([]:List PQuota),([]:List PInode),([]:List ByteArray)))) ?_
  refine EvX.upto (L:=fun k _=>spec_l09Resize_l1 k) 0 (fun(_:Unit) _=>((i:Int),(0:Int),(),(),(),(0:Int),nB n [],(f.1,f.2.1,fI f,d),((0:Int),([]:List PQuota),([]:List PInode),([]:List ByteArray)))) (fun _ _=>True) (fun _ j hj _=>by omega) (fun _ _=> ?_) () 0 (Nat.le_refl _) trivial
  simp only[spec_l09Resize_l1,nB,List.length_nil,show((0:Nat):Int)=0 from rfl,Int.lt_irrefl,decide_false,cond_false,Int.natCast_nonneg,if_true,show(i:Int)<((fI f).length:Int)by omega,Int.toNat_natCast,hx,Option.bind_some]
  exact EvX.const _ (GE.ret (GR.ret rfl))
 have hst:((i:Int),(0:Int),(),(),(),(0:Int),n,f,((0:Int),([]:List PQuota),([]:List PInode),([]:List ByteArray)))=((i:Int),(0:Int),(),(),(),(0:Int),nB n ((xBlk n).take ((xBlk n).length-0)),(f.1,f.2.1,fI f,fD f),((0:Int),([]:List PQuota),([]:List PInode),([]:List ByteArray))):=by
  rw[Nat.sub_zero,List.take_length];rfl
 rw[hst]
 refine EvX.upto (L:=fun k _=>spec_l09Resize_l2 k) (xBlk n).length (fun(d:List ByteArray) j=>((i:Int),(0:Int),(),(),(),(0:Int),nB n ((xBlk n).take ((xBlk n).length-j)),(f.1,f.2.1,fI f,d),((0:Int),([]:List PQuota),([]:List PInode),([]:List ByteArray)))) (fun d j=>d.length=56∧d=zAll (fD f) (nz ((xBlk n).drop ((xBlk n).length-j))).reverse) (fun d j hj inv=> ?_) (fun d inv=> ?_) (fD f) 0 (Nat.zero_le _) ⟨h.nd,by rw[Nat.sub_zero,List.drop_length];rfl⟩
 ·obtain⟨v1,v2⟩:=inv
  have hlt:((xBlk n).take ((xBlk n).length-j)).length=(xBlk n).length-j:=by rw[List.length_take];omega
  have hp:(xBlk n).length-j=(xBlk n).length-(j+1)+1:=by omega
  obtain⟨b,hb⟩:∃b,(xBlk n)[(xBlk n).length-(j+1)]? =some b:=⟨_,List.getElem?_eq_getElem (by omega)⟩
  have hb':((xBlk n).take ((xBlk n).length-j))[(xBlk n).length-(j+1)]? =some b:=by rw[List.getElem?_take,if_pos (by omega)];exact hb
  have w1:wrapK .i64 ((((xBlk n).length-j:Nat):Int)-1)=(((xBlk n).length-(j+1):Nat):Int):=by rw[i64w (by omega) (by omega)];omega
  have ht:((xBlk n).take ((xBlk n).length-j)).take ((xBlk n).length-(j+1)-0)=(xBlk n).take ((xBlk n).length-(j+1)):=by rw[List.take_take];congr 1;omega
  have hdrop:(xBlk n).drop ((xBlk n).length-(j+1))=b::(xBlk n).drop ((xBlk n).length-j):=by
   rw[hp,List.drop_eq_getElem_cons (show(xBlk n).length-(j+1)<(xBlk n).length by omega),(List.getElem?_eq_some_iff.1 hb).2]
  simp only[spec_l09Resize_l2,nB,hlt,show(0:Int)<(((xBlk n).length-j:Nat):Int)by omega,decide_true,cond_true,w1,Int.natCast_nonneg,if_true,show(((xBlk n).length-(j+1):Nat):Int)<(((xBlk n).length-j:Nat):Int)by omega,Int.toNat_natCast,hb',Option.bind_some]
  have hd':(if b= -1 then d else d.set b.toNat zero32)=zAll (fD f) (nz ((xBlk n).drop ((xBlk n).length-(j+1)))).reverse:=by
   rw[hdrop,nz_cons]
   by_cases hb1:b= -1
   ·rw[if_pos hb1,if_pos hb1];exact v2
   ·rw[if_neg hb1,if_neg hb1,List.reverse_cons,zAll_snoc,←v2]
  refine EvX.joinT ((i:Int),(0:Int),(),(),(),(0:Int),nB n ((xBlk n).take ((xBlk n).length-j)),(f.1,f.2.1,fI f,if b= -1 then d else d.set b.toNat zero32),((0:Int),([]:List PQuota),([]:List PInode),([]:List ByteArray))) True ?_ fun _=> ?_
  ·refine EvX.bif (fun h1=> ?_) (fun h1=> ?_)
   ·have h1:¬b= -1:=by simpa using h1
    obtain⟨q1,q2⟩:=b2 b (List.mem_of_getElem? hb) h1
    have hg:d[b.toNat]? =some (d[b.toNat]'(by omega)):=List.getElem?_eq_getElem (by omega)
    refine EvX.bind pad32_ev ?_
    simp only[q1,if_true,show b<(d.length:Int)by omega,hg,Option.bind_some]
    rw[if_neg h1]
    exact EvX.const _ (GT.inl trivial)
   ·have h1:b= -1:=by simpa using h1
    rw[if_pos h1]
    exact EvX.const _ (GT.inl trivial)
  ·simp only[spec_l09Resize_l2_j1,nB,hlt,w1,Int.natCast_nonneg,if_true,show(((xBlk n).length-(j+1):Nat):Int)≤(((xBlk n).length-j:Nat):Int)by omega,Int.toNat_natCast,ht]
   refine EvX.const _ (GL.self (if b= -1 then d else d.set b.toNat zero32) rfl ⟨?_,hd'⟩)
   by_cases hb1:b= -1
   ·rw[if_pos hb1];exact v1
   ·rw[if_neg hb1,List.length_set];exact v1
 ·exact hfin d inv.1 (by rw[inv.2,Nat.sub_self,List.drop_zero,zAll_rev])
theorem spec_free_ev{f:PFS}(h:wkP f)(hc:fsCap f){i:Nat}(hi:i<20):Ev (fun k=>c_spec_l09Free k (f,(i:Int))) (freeV f i):=by
 obtain⟨n',e⟩:=spec_resize0_ev h hc hi
 refine EvQ.run (fun k=>spec_l09Free_run k _ _) ?_
 simp only[spec_l09Free]
 refine EvQ.bind e ?_
 have hni:=h.ni
 have hl:i<((fI f).set i n').length:=by rw[List.length_set];omega
 simp only[Int.natCast_nonneg,if_true,show(i:Int)<(((fI f).set i n').length:Int)by omega,Int.toNat_natCast,List.getElem?_eq_getElem hl,Option.bind_some,List.set_set]
 exact EvQ.const _
def orph(n:PInode):Bool:=n.1 != 0&&n.2.2.2.2.1==0
def orphL(f:PFS):Nat→List Int
 |0=>[]
 |i+1=>if orph (((fI f)[i]?).getD zeroI)then orphL f i++[(i:Int)]else orphL f i
theorem orphL_len(f:PFS):∀i,(orphL f i).length≤i
 |0=>Nat.le_refl _
 |i+1=>by
  have:=orphL_len f i
  rw[orphL];split
  ·rw[List.length_append];show _+1≤_;omega
  ·omega
theorem orphL_mem(f:PFS):∀i,∀x∈orphL f i,∃j:Nat,x=(j:Int)∧j<i
 |0,x,h=>by cases h
 |i+1,x,h=>by
  rw[orphL]at h
  split at h
  ·rcases List.mem_append.1 h with h|h
   ·obtain⟨j,h1,h2⟩:=orphL_mem f i x h;exact⟨j,h1,by omega⟩
   ·exact⟨i,List.mem_singleton.1 h,by omega⟩
  ·obtain⟨j,h1,h2⟩:=orphL_mem f i x h;exact⟨j,h1,by omega⟩
open Classical in
noncomputable def orphV(f:PFS):List Int:=if fsP f then orphL f 20 else []
theorem orph_step{f:PFS}(hP:fsP f){D:Type}{i:Nat}(hi:i<20)(self:(List Int×(List PInode×Int×Int))→Option (List Int)):
  (bif ((((fI f)[i]?).getD zeroI).1 != (0:Int))then(bif ((((fI f)[i]?).getD zeroI).2.2.2.2.1==(0:Int))then(if((orphL f i).length+([(i:Int)]:List Int).length)*8≤capBytes then self ((orphL f i++([(i:Int)]:List Int)),fI f,((fI f).length:Int),((i+1:Nat):Int))else none)else self (orphL f i,fI f,((fI f).length:Int),((i+1:Nat):Int)))else self (orphL f i,fI f,((fI f).length:Int),((i+1:Nat):Int)))=self (orphL f (i+1),fI f,((fI f).length:Int),((i+1:Nat):Int)):=by
 have hl:=orphL_len f i
 have hc:((orphL f i).length+([(i:Int)]:List Int).length)*8≤capBytes:=by
  show(_+1)*8≤capBytes;exact sc _ _
 rw[orphL,orph]
 generalize ((fI f)[i]?).getD zeroI=n
 cases h1:(n.1 != (0:Int))<;>cases h2:(n.2.2.2.2.1==(0:Int))<;>simp only[cond_true,cond_false,Bool.and_true,Bool.and_false,if_pos hc,if_true,if_false,Bool.false_eq_true]
theorem impl_Orphans_ev(f:PFS)(hs:fsSmall f):Ev (fun k=>c_impl_OrphansOf k f) (orphV f):=by
 refine EvQ.run (fun k=>impl_OrphansOf_run k f) ?_
 simp only[impl_OrphansOf]
 by_cases hP:fsP f
 ·refine EvQ.bind (say_true (impl_IsFS_say f hs) hP) ?_
  rw[orphV,if_pos hP]
  simp only[Bool.not_true,cond_false]
  have hni:=hP.ni
  refine EvL.ev ?_
  refine EvL.count (L:=impl_OrphansOf_l1) (r:=orphL f 20) (fun i=>(orphL f i,fI f,((fI f).length:Int),(i:Int))) 20 (fun i hi=> ?_) (EvL.stop ?_)
  ·have hx:(fI f)[i]? =some (((fI f)[i]?).getD zeroI):=by rw[List.getElem?_eq_getElem (by omega)];rfl
   have hw:wrapK .i64 ((i:Int)+1)=((i+1:Nat):Int):=by rw[i64w (by omega) (by omega)];omega
   simp only[EvS,impl_OrphansOf_l1,show(i:Int)<((fI f).length:Int)by omega,decide_true,cond_true,Int.natCast_nonneg,if_true,Int.toNat_natCast,hw]
   rw[hx]
   simp only[Option.bind_some]
   exact EvQ.congr (fun k=>funext fun self=>orph_step (D:=Unit) hP hi self) (EvQ.const _)
  ·simp only[impl_OrphansOf_l1,show ¬((20:Nat):Int)<((fI f).length:Int)by omega,decide_false,cond_false]
   exact EvQ.const _
 ·refine EvQ.bind (say_false (impl_IsFS_say f hs) hP) ?_
  rw[orphV,if_neg hP]
  simp only[Bool.not_false,cond_true]
  exact EvQ.const _
theorem spec_Orphans_ev(f:PFS)(hs:fsSmall f)(hb:∀s∈fD f,s.size<big):Ev (fun k=>c_spec_OrphansOf k f) (orphV f):=by
 refine EvQ.run (fun k=>spec_OrphansOf_run k f) ?_
 simp only[spec_OrphansOf]
 by_cases hP:fsP f
 ·refine EvQ.bind (say_true (spec_IsFS_say f hs hb) hP) ?_
  rw[orphV,if_pos hP]
  simp only[Bool.not_true,cond_false]
  have hni:=hP.ni
  refine EvL.ev ?_
  refine EvL.count (L:=spec_OrphansOf_l1) (r:=orphL f 20) (fun i=>(orphL f i,fI f,((fI f).length:Int),(i:Int))) 20 (fun i hi=> ?_) (EvL.stop ?_)
  ·have hx:(fI f)[i]? =some (((fI f)[i]?).getD zeroI):=by rw[List.getElem?_eq_getElem (by omega)];rfl
   have hw:wrapK .i64 ((i:Int)+1)=((i+1:Nat):Int):=by rw[i64w (by omega) (by omega)];omega
   simp only[EvS,spec_OrphansOf_l1,show(i:Int)<((fI f).length:Int)by omega,decide_true,cond_true,Int.natCast_nonneg,if_true,Int.toNat_natCast,hw]
   rw[hx]
   simp only[Option.bind_some]
   exact EvQ.congr (fun k=>funext fun self=>orph_step (D:=Unit) hP hi self) (EvQ.const _)
  ·simp only[spec_OrphansOf_l1,show ¬((20:Nat):Int)<((fI f).length:Int)by omega,decide_false,cond_false]
   exact EvQ.const _
 ·refine EvQ.bind (say_false (spec_IsFS_say f hs hb) hP) ?_
  rw[orphV,if_neg hP]
  simp only[Bool.not_false,cond_true]
  exact EvQ.const _
def dropL(f:PFS):List Int→PFS
 |[]=>f
 |i::l=>dropL (if i=0 then f else freeV f i.toNat) l
noncomputable def dropV(f:PFS):PFS:=dropL f (orphV f)
theorem wk_of{f:PFS}(h:fsP f)(hc:fsCap f):wkP f:=by
 refine⟨h.ni,h.nd,fun i n hn=>⟨?_,fun b hb hb1=> ?_⟩⟩
 ·rcases h.ino i n hn with e|e
  ·rw[e];exact Nat.zero_le _
  ·have h1:=e.2.1
   have h2:=h1.2.2.2.2.2.2
   have h3:0≤xSize n∧xSize n≤256:=h1.2.2.2.2.1
   unfold needI at h2
   split at h2<;>omega
 ·obtain⟨j,hj⟩:=List.mem_iff_getElem?.1 hb
  have:=(h.blk i n hn j b hj hb1).1
  exact⟨this.1,this.2.1⟩
theorem drop_impl{z:PFS}:∀(m:Nat) (o:List Int) (j:Nat) (g:PFS),(∀x∈o,∃i:Nat,x=(i:Int)∧i<20)→o.length≤100→j+m=o.length→wkP g→fsCap g→
  EvL impl_DropOrphans_l1 (([]:List Int),(),(),o,(o.length:Int),(j:Int),g,z) (dropL g (o.drop j))
 |0,o,j,g,ho,hol,h,hw,hc=>by
  refine EvL.stop ?_
  rw[List.drop_eq_nil_of_le (by omega)]
  simp only[impl_DropOrphans_l1,show ¬(j:Int)<(o.length:Int)by omega,decide_false,cond_false]
  exact EvQ.const _
 |m+1,o,j,g,ho,hol,h,hw,hc=>by
  have hj:j<o.length:=by omega
  obtain⟨i,hi,hi2⟩:=ho o[j] (List.getElem_mem hj)
  have hx:o[j]? =some (i:Int):=by rw[List.getElem?_eq_getElem hj,hi]
  have hwr:wrapK .i64 ((j:Int)+1)=((j+1:Nat):Int):=by rw[i64w (by omega) (by omega)];omega
  have hd:o.drop j=(i:Int)::o.drop (j+1):=by rw[List.drop_eq_getElem_cons hj,hi]
  have hno:=say_false (Contains_say [] (i:Int) (by unfold big;simp)) (by simp)
  rw[hd]
  show EvL _ _ (dropL (if(i:Int)=0 then g else freeV g (i:Int).toNat) (o.drop (j+1)))
  rw[Int.toNat_natCast]
  by_cases h0:i=0
  ·subst h0
   refine EvL.step ?_ (drop_impl (z:=z) m o (j+1) g ho hol (by omega) hw hc)
   have hf:=impl_free_ev hw (show 0<20 by omega)
   simp only[EvS,impl_DropOrphans_l1,Int.ofNat_lt,hj,decide_true,cond_true,Int.natCast_nonneg,if_true,Int.toNat_natCast,hx,Option.bind_some,hwr]
   refine EvQ.bindS hno ?_
   simp only[Bool.not_false,cond_true]
   exact EvQ.bindS hf (EvQ.const _)
  ·rw[if_neg (show ¬((i:Int)=0)by omega)]
   refine EvL.step ?_ (drop_impl (z:=z) m o (j+1) (freeV g i) ho hol (by omega) (freeV_wk hw i) (freeV_cap hc i))
   have hf:=impl_free_ev hw hi2
   rw[if_neg h0]at hf
   simp only[EvS,impl_DropOrphans_l1,Int.ofNat_lt,hj,decide_true,cond_true,Int.natCast_nonneg,if_true,Int.toNat_natCast,hx,Option.bind_some,hwr]
   refine EvQ.bindS hno ?_
   simp only[Bool.not_false,cond_true]
   exact EvQ.bindS hf (EvQ.const _)
theorem drop_spec{z:PFS}:∀(m:Nat) (o:List Int) (j:Nat) (g:PFS),(∀x∈o,∃i:Nat,x=(i:Int)∧i<20)→o.length≤100→j+m=o.length→wkP g→fsCap g→
  EvL spec_DropOrphans_l1 (([]:List Int),(),(),o,(o.length:Int),(j:Int),g,z) (dropL g (o.drop j))
 |0,o,j,g,ho,hol,h,hw,hc=>by
  refine EvL.stop ?_
  rw[List.drop_eq_nil_of_le (by omega)]
  simp only[spec_DropOrphans_l1,show ¬(j:Int)<(o.length:Int)by omega,decide_false,cond_false]
  exact EvQ.const _
 |m+1,o,j,g,ho,hol,h,hw,hc=>by
  have hj:j<o.length:=by omega
  obtain⟨i,hi,hi2⟩:=ho o[j] (List.getElem_mem hj)
  have hx:o[j]? =some (i:Int):=by rw[List.getElem?_eq_getElem hj,hi]
  have hwr:wrapK .i64 ((j:Int)+1)=((j+1:Nat):Int):=by rw[i64w (by omega) (by omega)];omega
  have hd:o.drop j=(i:Int)::o.drop (j+1):=by rw[List.drop_eq_getElem_cons hj,hi]
  have hno:=say_false (Has_say [] (i:Int) (by unfold big;simp)) (by simp)
  rw[hd]
  show EvL _ _ (dropL (if(i:Int)=0 then g else freeV g (i:Int).toNat) (o.drop (j+1)))
  rw[Int.toNat_natCast]
  by_cases h0:i=0
  ·subst h0
   refine EvL.step ?_ (drop_spec (z:=z) m o (j+1) g ho hol (by omega) hw hc)
   simp only[EvS,spec_DropOrphans_l1,Int.ofNat_lt,hj,decide_true,cond_true,Int.natCast_nonneg,if_true,Int.toNat_natCast,hx,Option.bind_some,hwr]
   refine EvQ.bindS hno ?_
   simp only[Bool.not_false,cond_true,show(((0:Nat):Int) != 0)=false from rfl,cond_false]
   exact EvQ.const _
  ·rw[if_neg (show ¬((i:Int)=0)by omega)]
   refine EvL.step ?_ (drop_spec (z:=z) m o (j+1) (freeV g i) ho hol (by omega) (freeV_wk hw i) (freeV_cap hc i))
   have hf:=spec_free_ev hw hc hi2
   simp only[EvS,spec_DropOrphans_l1,Int.ofNat_lt,hj,decide_true,cond_true,Int.natCast_nonneg,if_true,Int.toNat_natCast,hx,Option.bind_some,hwr]
   refine EvQ.bindS hno ?_
   rw[show((i:Int) != 0)=true by simp;exact h0]
   simp only[Bool.not_false,cond_true]
   exact EvQ.bindS hf (EvQ.const _)
theorem orphV_mem(f:PFS):(∀x∈orphV f,∃i:Nat,x=(i:Int)∧i<20)∧(orphV f).length≤100:=by
 unfold orphV
 split
 ·exact⟨orphL_mem f 20,by have:=orphL_len f 20;omega⟩
 ·exact⟨(fun x hx=>by cases hx),Nat.zero_le _⟩
theorem drop_same{f:PFS}(hs:fsSmall f)(hb:∀s∈fD f,s.size<big)(hc:fsCap f):Ev (fun k=>c_spec_DropOrphans k (f,[])) (dropV f)∧Ev (fun k=>c_impl_DropOrphans k (f,[])) (dropV f):=by
 obtain⟨o1,o2⟩:=orphV_mem f
 by_cases hP:fsP f
 ·constructor
  ·refine EvQ.run (fun k=>spec_DropOrphans_run k _ _) ?_
   simp only[spec_DropOrphans]
   exact EvQ.bind (spec_copyFS_ev f hc) (EvQ.bind (spec_Orphans_ev f hs hb) (EvL.ev (drop_spec (orphV f).length (orphV f) 0 f o1 o2 (by omega) (wk_of hP hc) hc)))
  ·refine EvQ.run (fun k=>impl_DropOrphans_run k _ _) ?_
   simp only[impl_DropOrphans]
   exact EvQ.bind (impl_copyFS_ev f hc) (EvQ.bind (impl_Orphans_ev f hs) (EvL.ev (drop_impl (orphV f).length (orphV f) 0 f o1 o2 (by omega) (wk_of hP hc) hc)))
 ·have e0:orphV f=[]:=if_neg hP
  have e1:dropV f=f:=by rw[dropV,e0];rfl
  rw[e1]
  have h1:=spec_Orphans_ev f hs hb
  have h2:=impl_Orphans_ev f hs
  rw[e0]at h1 h2
  constructor
  ·refine EvQ.run (fun k=>spec_DropOrphans_run k _ _) ?_
   simp only[spec_DropOrphans]
   refine EvQ.bind (spec_copyFS_ev f hc) (EvQ.bind h1 (EvL.ev (EvL.stop ?_)))
   simp only[spec_DropOrphans_l1,List.length_nil,show((0:Nat):Int)=0 from rfl,Int.lt_irrefl,decide_false,cond_false]
   exact EvQ.const _
  ·refine EvQ.run (fun k=>impl_DropOrphans_run k _ _) ?_
   simp only[impl_DropOrphans]
   refine EvQ.bind (impl_copyFS_ev f hc) (EvQ.bind h2 (EvL.ev (EvL.stop ?_)))
   simp only[impl_DropOrphans_l1,List.length_nil,show((0:Nat):Int)=0 from rfl,Int.lt_irrefl,decide_false,cond_false]
   exact EvQ.const _
end Go.Proofs.YtmmgfgfkkpeedaaGreat

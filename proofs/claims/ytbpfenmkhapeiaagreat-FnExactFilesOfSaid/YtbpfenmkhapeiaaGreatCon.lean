/- The tables, the residual functions and lemmas of this seat: parts of the proof of the law; conditions: those that each names. -/
import Derived.Test.YtbpfenmkhapeiaaGreatPool
set_option linter.unusedVariables false
set_option linter.unusedSimpArgs false
set_option maxRecDepth 100000
namespace Go.Proofs.YtbpfenmkhapeiaaGreat
open Go.Eng
def zero32:ByteArray:=ofBytes (List.replicate 32 (0:Int))
theorem zero32_size:zero32.size=32:=by rw[zero32,ofBytes_size];rfl
theorem zeros_ev:Ev (fun k=>c_impl_zeros k (32:Int)) zero32:=by
 refine EvQ.run (fun k=>impl_zeros_run k _) ?_
 simp only[impl_zeros]
 refine EvQ.ifp (by omega) (EvQ.ifp (by omega) (EvQ.ifp (by unfold capBytes;omega) ?_))
 exact EvQ.const _
theorem pad32_ev:Ev (fun k=>c_spec_PadTo k ((⟨#[]⟩:ByteArray),(32:Int))) zero32:=spec_PadTo_ev ⟨#[]⟩ 32 (by omega) (by decide)
def pieceV(f:PFS)(b:Int):ByteArray:=if b= -1 then zero32 else((fD f)[b.toNat]?).getD emptyB
def catB(f:PFS)(l:List Int):Nat→ByteArray
 |0=>emptyB
 |j+1=>catB f l j++pieceV f ((l[j]?).getD (-1))
def contV(f:PFS)(n:PInode):ByteArray:=(catB f (xBlk n) (xBlk n).length).extract 0 (xSize n).toNat
def blkOK(f:PFS)(n:PInode):Prop:=∀(i:Nat) b,(xBlk n)[i]? =some b→b≠ -1→0≤b∧∃s,(fD f)[b.toNat]? =some s∧s.size=32
theorem blk_ok{f:PFS}(hP:fsP f){i:Nat}{n:PInode}(hn:(fI f)[i]? =some n):blkOK f n:=fun j b hb hne=>by
 obtain⟨⟨h0,h1,_⟩,_⟩:=hP.blk i n hn j b hb hne
 have hd:=hP.nd
 refine⟨h0,_,List.getElem?_eq_getElem (show b.toNat<(fD f).length by omega),hP.sz b.toNat _ (List.getElem?_eq_getElem _)⟩
theorem piece_size{f:PFS}{n:PInode}(h:blkOK f n){i:Nat}{b:Int}(hb:(xBlk n)[i]? =some b):(pieceV f b).size=32:=by
 unfold pieceV
 split
 ·exact zero32_size
 ·rename_i hne
  obtain⟨_,s,h1,h2⟩:=h i b hb hne
  rw[h1];exact h2
theorem cat_size{f:PFS}{n:PInode}(h:blkOK f n):∀j,j≤(xBlk n).length→(catB f (xBlk n) j).size=32*j
 |0,_=>rfl
 |j+1,hj=>by
  have hx:(xBlk n)[j]? =some (xBlk n)[j]:=List.getElem?_eq_getElem (by omega)
  simp only[catB,app_size,cat_size h j (by omega),hx,Option.getD_some,piece_size h hx]
  omega
theorem size_ok{n:PInode}(h:inodeP n):0≤xSize n∧xSize n≤256∧xSize n≤32*((xBlk n).length:Int)∧(xBlk n).length≤8:=by
 rcases h with rfl|h
 ·exact⟨Int.le_refl _,by decide,by decide,by decide⟩
 ·have h1:=size_of h
  have h2:=used_len h
  have h3:needI (xSize n)=if xSize n≤0 then 0 else(xSize n-1) / 32+1:=rfl
  rw[h3]at h2
  split at h2<;>omega
theorem cont_size{f:PFS}{n:PInode}(h:blkOK f n)(hi:inodeP n):(contV f n).size=(xSize n).toNat:=by
 have:=size_ok hi
 rw[contV,ByteArray.size_extract,cat_size h _ (Nat.le_refl _)]
 omega
theorem spec_text_ev{f:PFS}{n:PInode}(h:blkOK f n)(hi:inodeP n):Ev (fun k=>c_spec_l09Text k (f,n)) (contV f n):=by
 have hs:=size_ok hi
 refine EvQ.run (fun k=>spec_l09Text_run k _ _) ?_
 simp only[spec_l09Text]
 refine EvL.ev ?_
 refine EvL.count (L:=spec_l09Text_l1) (r:=contV f n) (fun j=>((),(),catB f (xBlk n) j,xBlk n,((xBlk n).length:Int),(j:Int),n,f)) (xBlk n).length (fun j hj=> ?_) (EvL.stop ?_)
 ·have hx:(xBlk n)[j]? =some (xBlk n)[j]:=List.getElem?_eq_getElem hj
  have hw:wrapK .i64 ((j:Int)+1)=((j+1:Nat):Int):=by rw[i64w (by omega) (by omega)];omega
  have hc:=cat_size h j (by omega)
  have hp:=piece_size h hx
  have hcat:catB f (xBlk n) (j+1)=catB f (xBlk n) j++pieceV f (xBlk n)[j]:=by simp only[catB,hx,Option.getD_some]
  simp only[EvS,spec_l09Text_l1,Int.ofNat_lt,hj,decide_true,cond_true,Int.natCast_nonneg,if_true,Int.toNat_natCast,hx,Option.bind_some,hw,hcat]
  generalize hb:(xBlk n)[j]=b at hp hx
  by_cases hb1:b= -1
  ·subst hb1
   have hpz:pieceV f (-1)=zero32:=if_pos rfl
   rw[hpz]
   simp only[beq_self_eq_true,cond_true]
   refine EvQ.bindS pad32_ev ?_
   simp only[show(catB f (xBlk n) j).size+zero32.size≤9223372036854775807 by rw[hc,zero32_size];omega,if_true]
   exact EvQ.const _
  ·obtain⟨g0,s,g1,g2⟩:=h j b hx hb1
   have hpz:pieceV f b=s:=by simp only[pieceV,hb1,if_false,g1,Option.getD_some]
   have hbb:(b==(-1:Int))=false:=beq_eq_false_iff_ne.2 hb1
   have g1':f.2.2.2[b.toNat]? =some s:=g1
   rw[hpz]
   simp only[hbb,cond_false,g0,if_true,g1',Option.bind_some]
   simp only[show(catB f (xBlk n) j).size+s.size≤9223372036854775807 by rw[hc,g2];omega,if_true]
   exact EvQ.const _
 ·have hc:=cat_size h (xBlk n).length (Nat.le_refl _)
  simp only[spec_l09Text_l1,Int.lt_irrefl,decide_false,cond_false]
  by_cases hlt:xSize n<((catB f (xBlk n) (xBlk n).length).size:Int)
  ·simp only[show n.2.2.2.2.2.1=xSize n from rfl,hlt,decide_true,cond_true,hs.1,if_true,if_pos (Int.le_of_lt hlt)]
   exact EvQ.const _
  ·simp only[show n.2.2.2.2.2.1=xSize n from rfl,hlt,decide_false,cond_false]
   have:contV f n=catB f (xBlk n) (xBlk n).length:=by
    have he:(xSize n).toNat=(catB f (xBlk n) (xBlk n).length).size:=by omega
    rw[contV,he,ByteArray.extract_zero_size]
   rw[this]
   exact EvQ.const _
theorem impl_content_ev{f:PFS}{n:PInode}{i:Int}(h0:0≤i)(hn:(fI f)[i.toNat]? =some n)(h:blkOK f n)(hi:inodeP n):Ev (fun k=>c_impl_FS_content k (some f,i)) (contV f n):=by
 have hs:=size_ok hi
 refine EvQ.run (fun k=>impl_FS_content_run k _ _) ?_
 have hn':f.2.2.1[i.toNat]? =some n:=hn
 simp only[impl_FS_content,Option.bind_some,h0,if_true,hn']
 refine EvL.ev ?_
 refine EvL.count (L:=impl_FS_content_l1) (r:=contV f n) (fun j=>(some f,(),catB f (xBlk n) j,xBlk n,((xBlk n).length:Int),(j:Int),n)) (xBlk n).length (fun j hj=> ?_) (EvL.stop ?_)
 ·have hx:(xBlk n)[j]? =some (xBlk n)[j]:=List.getElem?_eq_getElem hj
  have hw:wrapK .i64 ((j:Int)+1)=((j+1:Nat):Int):=by rw[i64w (by omega) (by omega)];omega
  have hc:=cat_size h j (by omega)
  have hp:=piece_size h hx
  have hcat:catB f (xBlk n) (j+1)=catB f (xBlk n) j++pieceV f (xBlk n)[j]:=by simp only[catB,hx,Option.getD_some]
  simp only[EvS,impl_FS_content_l1,Int.ofNat_lt,hj,decide_true,cond_true,Int.natCast_nonneg,if_true,Int.toNat_natCast,hx,Option.bind_some,hw,hcat]
  generalize hb:(xBlk n)[j]=b at hp hx
  by_cases hb1:b= -1
  ·subst hb1
   have hpz:pieceV f (-1)=zero32:=if_pos rfl
   rw[hpz]
   simp only[beq_self_eq_true,cond_true]
   refine EvQ.bindS zeros_ev ?_
   simp only[show(catB f (xBlk n) j).size+zero32.size≤9223372036854775807 by rw[hc,zero32_size];omega,if_true]
   exact EvQ.const _
  ·obtain⟨g0,s,g1,g2⟩:=h j b hx hb1
   have hpz:pieceV f b=s:=by simp only[pieceV,hb1,if_false,g1,Option.getD_some]
   have hbb:(b==(-1:Int))=false:=beq_eq_false_iff_ne.2 hb1
   have g1':f.2.2.2[b.toNat]? =some s:=g1
   rw[hpz]
   simp only[hbb,cond_false,g0,if_true,g1',Option.bind_some]
   simp only[show(catB f (xBlk n) j).size+s.size≤9223372036854775807 by rw[hc,g2];omega,if_true]
   exact EvQ.const _
 ·have hc:=cat_size h (xBlk n).length (Nat.le_refl _)
  have hle:xSize n≤((catB f (xBlk n) (xBlk n).length).size:Int):=by omega
  simp only[impl_FS_content_l1,Int.lt_irrefl,decide_false,cond_false]
  simp only[show n.2.2.2.2.2.1=xSize n from rfl,hs.1,if_true,if_pos hle]
  exact EvQ.const _
end Go.Proofs.YtbpfenmkhapeiaaGreat

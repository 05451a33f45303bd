/- The tables, the residual functions and lemmas of this seat: parts of the proof of the law; conditions: those that each names. -/
import Derived.Test.YtkdcfeopelbojaaGreatDoorPool
import Derived.Test.YtkdcfeopelbojaaGreatDoorZro
set_option linter.unusedVariables false
set_option linter.unusedSimpArgs false
set_option maxRecDepth 100000
namespace Go.Proofs.YtkdcfeopelbojaaGreatDoor
open Go.Eng
abbrev Ud(x:az):Int:=x.2.1
def oa(f:eh)(b:Int):ByteArray:=if b= -1 then sr else((fD f)[b.toNat]?).getD MF
def qx(f:eh)(l:List Int):Nat→ByteArray
 |0=>MF
 |j+1=>qx f l j++oa f ((l[j]?).getD (-1))
def rh(f:eh)(n:az):ByteArray:=(qx f (aM n) (aM n).length).extract 0 (dC n).toNat
def Gk(f:eh)(n:az):Prop:=∀(i:Nat) b,(aM n)[i]? =some b→b≠ -1→0≤b∧∃s,(fD f)[b.toNat]? =some s∧s.size=32
theorem oz{f:eh}(hP:rN f){i:Nat}{n:az}(hn:(fI f)[i]? =some n):Gk f n:=fun j b hb hne=>by
 obtain⟨⟨h0,h1,_⟩,_⟩:=hP.bj i n hn j b hb hne
 have hd:=hP.nd
 refine⟨h0,_,List.getElem?_eq_getElem (show b.toNat<(fD f).length by omega),hP.sz b.toNat _ (List.getElem?_eq_getElem _)⟩
theorem zx{f:eh}{n:az}(h:Gk f n){i:Nat}{b:Int}(hb:(aM n)[i]? =some b):(oa f b).size=32:=by
 unfold oa
 split
 ·exact uH
 ·rename_i hne
  obtain⟨_,s,h1,h2⟩:=h i b hb hne
  rw[h1];exact h2
theorem rL{f:eh}{n:az}(h:Gk f n):∀j,j≤(aM n).length→(qx f (aM n) j).size=32*j
 |0,_=>rfl
 |j+1,hj=>by
  have hx:(aM n)[j]? =some (aM n)[j]:=List.getElem?_eq_getElem (by omega)
  simp only[qx,aG,rL h j (by omega),hx,Option.getD_some,zx h hx]
  omega
theorem sP{n:az}(h:du n):0≤dC n∧dC n≤256∧dC n≤32*((aM n).length:Int)∧(aM n).length≤8:=by
 rcases h with rfl|h
 ·exact⟨Int.le_refl _,by decide,by decide,by decide⟩
 ·have h1:=xd h
  have h2:=vA h
  have h3:rj (dC n)=if dC n≤0 then 0 else(dC n-1) / 32+1:=rfl
  rw[h3]at h2
  split at h2<;>omega
theorem xh{f:eh}{n:az}(h:Gk f n)(hi:du n):(rh f n).size=(dC n).toNat:=by
 have:=sP hi
 rw[rh,ByteArray.size_extract,rL h _ (Nat.le_refl _)]
 omega
theorem BG{f:eh}{n:az}(h:Gk f n)(hi:du n):Ev (fun k=>ku k (f,n)) (rh f n):=by
 have hs:=sP hi
 refine aw.run (fun k=>CD k _ _) ?_
 simp only[Ab]
 refine cI.ev ?_
 refine cI.count (L:=jw) (r:=rh f n) (fun j=>((),(),qx f (aM n) j,aM n,((aM n).length:Int),(j:Int),n,f)) (aM n).length (fun j hj=> ?_) (cI.stop ?_)
 ·have hx:(aM n)[j]? =some (aM n)[j]:=List.getElem?_eq_getElem hj
  have hw:aa .i64 ((j:Int)+1)=((j+1:Nat):Int):=by rw[aV (by omega) (by omega)];omega
  have hc:=rL h j (by omega)
  have hp:=zx h hx
  have hcat:qx f (aM n) (j+1)=qx f (aM n) j++oa f (aM n)[j]:=by simp only[qx,hx,Option.getD_some]
  simp only[rZ,jw,Int.ofNat_lt,hj,decide_true,cond_true,Int.natCast_nonneg,if_true,Int.toNat_natCast,hx,Option.bind_some,hw,hcat]
  generalize hb:(aM n)[j]=b at hp hx
  by_cases hb1:b= -1
  ·subst hb1
   have hpz:oa f (-1)=sr:=if_pos rfl
   rw[hpz]
   simp only[beq_self_eq_true,cond_true]
   refine aw.jt Ps ?_
   simp only[show(qx f (aM n) j).size+sr.size≤9223372036854775807 by rw[hc,uH];omega,if_true]
   exact aw.const _
  ·obtain⟨g0,s,g1,g2⟩:=h j b hx hb1
   have hpz:oa f b=s:=by simp only[oa,hb1,if_false,g1,Option.getD_some]
   have hbb:(b==(-1:Int))=false:=beq_eq_false_iff_ne.2 hb1
   have g1':f.2.2.2[b.toNat]? =some s:=g1
   rw[hpz]
   simp only[hbb,cond_false,g0,if_true,g1',Option.bind_some]
   simp only[show(qx f (aM n) j).size+s.size≤9223372036854775807 by rw[hc,g2];omega,if_true]
   exact aw.const _
 ·have hc:=rL h (aM n).length (Nat.le_refl _)
  simp only[jw,Int.lt_irrefl,decide_false,cond_false]
  by_cases hlt:dC n<((qx f (aM n) (aM n).length).size:Int)
  ·simp only[show n.2.2.2.2.2.1=dC n from rfl,hlt,decide_true,cond_true,hs.1,if_true,if_pos (Int.le_of_lt hlt)]
   exact aw.const _
  ·simp only[show n.2.2.2.2.2.1=dC n from rfl,hlt,decide_false,cond_false]
   have:rh f n=qx f (aM n) (aM n).length:=by
    have he:(dC n).toNat=(qx f (aM n) (aM n).length).size:=by omega
    rw[rh,he,ByteArray.extract_zero_size]
   rw[this]
   exact aw.const _
theorem tJ{f:eh}{n:az}{i:Int}(h0:0≤i)(hn:(fI f)[i.toNat]? =some n)(h:Gk f n)(hi:du n):Ev (fun k=>gR k (some f,i)) (rh f n):=by
 have hs:=sP hi
 refine aw.run (fun k=>xJ k _ _) ?_
 have hn':f.2.2.1[i.toNat]? =some n:=hn
 simp only[tL,Option.bind_some,h0,if_true,hn']
 refine cI.ev ?_
 refine cI.count (L:=fS) (r:=rh f n) (fun j=>(some f,(),qx f (aM n) j,aM n,((aM n).length:Int),(j:Int),n)) (aM n).length (fun j hj=> ?_) (cI.stop ?_)
 ·have hx:(aM n)[j]? =some (aM n)[j]:=List.getElem?_eq_getElem hj
  have hw:aa .i64 ((j:Int)+1)=((j+1:Nat):Int):=by rw[aV (by omega) (by omega)];omega
  have hc:=rL h j (by omega)
  have hp:=zx h hx
  have hcat:qx f (aM n) (j+1)=qx f (aM n) j++oa f (aM n)[j]:=by simp only[qx,hx,Option.getD_some]
  simp only[rZ,fS,Int.ofNat_lt,hj,decide_true,cond_true,Int.natCast_nonneg,if_true,Int.toNat_natCast,hx,Option.bind_some,hw,hcat]
  generalize hb:(aM n)[j]=b at hp hx
  by_cases hb1:b= -1
  ·subst hb1
   have hpz:oa f (-1)=sr:=if_pos rfl
   rw[hpz]
   simp only[beq_self_eq_true,cond_true]
   refine aw.jt PA ?_
   simp only[show(qx f (aM n) j).size+sr.size≤9223372036854775807 by rw[hc,uH];omega,if_true]
   exact aw.const _
  ·obtain⟨g0,s,g1,g2⟩:=h j b hx hb1
   have hpz:oa f b=s:=by simp only[oa,hb1,if_false,g1,Option.getD_some]
   have hbb:(b==(-1:Int))=false:=beq_eq_false_iff_ne.2 hb1
   have g1':f.2.2.2[b.toNat]? =some s:=g1
   rw[hpz]
   simp only[hbb,cond_false,g0,if_true,g1',Option.bind_some]
   simp only[show(qx f (aM n) j).size+s.size≤9223372036854775807 by rw[hc,g2];omega,if_true]
   exact aw.const _
 ·have hc:=rL h (aM n).length (Nat.le_refl _)
  have hle:dC n≤((qx f (aM n) (aM n).length).size:Int):=by omega
  simp only[fS,Int.lt_irrefl,decide_false,cond_false]
  simp only[show n.2.2.2.2.2.1=dC n from rfl,hs.1,if_true,if_pos hle]
  exact aw.const _
end Go.Proofs.YtkdcfeopelbojaaGreatDoor

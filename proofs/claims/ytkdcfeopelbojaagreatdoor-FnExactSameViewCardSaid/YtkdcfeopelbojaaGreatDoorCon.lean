/- The tables, the residual functions and lemmas of this seat: parts of the proof of the law; conditions: those that each names. -/
import Derived.Test.YtkdcfeopelbojaaGreatDoorPool
import Derived.Test.YtkdcfeopelbojaaGreatDoorZro
set_option linter.unusedVariables false
set_option linter.unusedSimpArgs false
set_option maxRecDepth 100000
namespace Go.Proofs.YtkdcfeopelbojaaGreatDoor
open Go.Eng
abbrev To(x:az):Int:=x.2.1
def nY(f:dV)(b:Int):ByteArray:=if b= -1 then su else((fD f)[b.toNat]?).getD Lf
def qS(f:dV)(l:List Int):Nat→ByteArray
 |0=>Lf
 |j+1=>qS f l j++nY f ((l[j]?).getD (-1))
def qX(f:dV)(n:az):ByteArray:=(qS f (aK n) (aK n).length).extract 0 (dF n).toNat
def EK(f:dV)(n:az):Prop:=∀(i:Nat) b,(aK n)[i]? =some b→b≠ -1→0≤b∧∃s,(fD f)[b.toNat]? =some s∧s.size=32
theorem oy{f:dV}(hP:qv f){i:Nat}{n:az}(hn:(fI f)[i]? =some n):EK f n:=fun j b hb hne=>by
 obtain⟨⟨h0,h1,_⟩,_⟩:=hP.bj i n hn j b hb hne
 have hd:=hP.nd
 refine⟨h0,_,List.getElem?_eq_getElem (show b.toNat<(fD f).length by omega),hP.sz b.toNat _ (List.getElem?_eq_getElem _)⟩
theorem yX{f:dV}{n:az}(h:EK f n){i:Nat}{b:Int}(hb:(aK n)[i]? =some b):(nY f b).size=32:=by
 unfold nY
 split
 ·exact vB
 ·rename_i hne
  obtain⟨_,s,h1,h2⟩:=h i b hb hne
  rw[h1];exact h2
theorem rH{f:dV}{n:az}(h:EK f n):∀j,j≤(aK n).length→(qS f (aK n) j).size=32*j
 |0,_=>rfl
 |j+1,hj=>by
  have hx:(aK n)[j]? =some (aK n)[j]:=List.getElem?_eq_getElem (by omega)
  simp only[qS,aF,rH h j (by omega),hx,Option.getD_some,yX h hx]
  omega
theorem sA{n:az}(h:dy n):0≤dF n∧dF n≤256∧dF n≤32*((aK n).length:Int)∧(aK n).length≤8:=by
 rcases h with rfl|h
 ·exact⟨Int.le_refl _,by decide,by decide,by decide⟩
 ·have h1:=wc h
  have h2:=uA h
  have h3:qE (dF n)=if dF n≤0 then 0 else(dF n-1) / 32+1:=rfl
  rw[h3]at h2
  split at h2<;>omega
theorem wI{f:dV}{n:az}(h:EK f n)(hi:dy n):(qX f n).size=(dF n).toNat:=by
 have:=sA hi
 rw[qX,ByteArray.size_extract,rH h _ (Nat.le_refl _)]
 omega
theorem zT{f:dV}{n:az}(h:EK f n)(hi:dy n):Ev (fun k=>kf k (f,n)) (qX f n):=by
 have hs:=sA hi
 refine ax.run (fun k=>Bm k _ _) ?_
 simp only[Aj]
 refine cZ.ev ?_
 refine cZ.count (L:=ju) (r:=qX f n) (fun j=>((),(),qS f (aK n) j,aK n,((aK n).length:Int),(j:Int),n,f)) (aK n).length (fun j hj=> ?_) (cZ.stop ?_)
 ·have hx:(aK n)[j]? =some (aK n)[j]:=List.getElem?_eq_getElem hj
  have hw:aa .i64 ((j:Int)+1)=((j+1:Nat):Int):=by rw[aV (by omega) (by omega)];omega
  have hc:=rH h j (by omega)
  have hp:=yX h hx
  have hcat:qS f (aK n) (j+1)=qS f (aK n) j++nY f (aK n)[j]:=by simp only[qS,hx,Option.getD_some]
  simp only[wK,ju,Int.ofNat_lt,hj,decide_true,cond_true,Int.natCast_nonneg,if_true,Int.toNat_natCast,hx,Option.bind_some,hw,hcat]
  generalize hb:(aK n)[j]=b at hp hx
  by_cases hb1:b= -1
  ·subst hb1
   have hpz:nY f (-1)=su:=if_pos rfl
   rw[hpz]
   simp only[beq_self_eq_true,cond_true]
   refine ax.nu O8 ?_
   simp only[show(qS f (aK n) j).size+su.size≤9223372036854775807 by rw[hc,vB];omega,if_true]
   exact ax.const _
  ·obtain⟨g0,s,g1,g2⟩:=h j b hx hb1
   have hpz:nY f b=s:=by simp only[nY,hb1,if_false,g1,Option.getD_some]
   have hbb:(b==(-1:Int))=false:=beq_eq_false_iff_ne.2 hb1
   have g1':f.2.2.2[b.toNat]? =some s:=g1
   rw[hpz]
   simp only[hbb,cond_false,g0,if_true,g1',Option.bind_some]
   simp only[show(qS f (aK n) j).size+s.size≤9223372036854775807 by rw[hc,g2];omega,if_true]
   exact ax.const _
 ·have hc:=rH h (aK n).length (Nat.le_refl _)
  simp only[ju,Int.lt_irrefl,decide_false,cond_false]
  by_cases hlt:dF n<((qS f (aK n) (aK n).length).size:Int)
  ·simp only[show n.2.2.2.2.2.1=dF n from rfl,hlt,decide_true,cond_true,hs.1,if_true,if_pos (Int.le_of_lt hlt)]
   exact ax.const _
  ·simp only[show n.2.2.2.2.2.1=dF n from rfl,hlt,decide_false,cond_false]
   have:qX f n=qS f (aK n) (aK n).length:=by
    have he:(dF n).toNat=(qS f (aK n) (aK n).length).size:=by omega
    rw[qX,he,ByteArray.extract_zero_size]
   rw[this]
   exact ax.const _
theorem sY{f:dV}{n:az}{i:Int}(h0:0≤i)(hn:(fI f)[i.toNat]? =some n)(h:EK f n)(hi:dy n):Ev (fun k=>gz k (some f,i)) (qX f n):=by
 have hs:=sA hi
 refine ax.run (fun k=>wR k _ _) ?_
 have hn':f.2.2.1[i.toNat]? =some n:=hn
 simp only[tz,Option.bind_some,h0,if_true,hn']
 refine cZ.ev ?_
 refine cZ.count (L:=fN) (r:=qX f n) (fun j=>(some f,(),qS f (aK n) j,aK n,((aK n).length:Int),(j:Int),n)) (aK n).length (fun j hj=> ?_) (cZ.stop ?_)
 ·have hx:(aK n)[j]? =some (aK n)[j]:=List.getElem?_eq_getElem hj
  have hw:aa .i64 ((j:Int)+1)=((j+1:Nat):Int):=by rw[aV (by omega) (by omega)];omega
  have hc:=rH h j (by omega)
  have hp:=yX h hx
  have hcat:qS f (aK n) (j+1)=qS f (aK n) j++nY f (aK n)[j]:=by simp only[qS,hx,Option.getD_some]
  simp only[wK,fN,Int.ofNat_lt,hj,decide_true,cond_true,Int.natCast_nonneg,if_true,Int.toNat_natCast,hx,Option.bind_some,hw,hcat]
  generalize hb:(aK n)[j]=b at hp hx
  by_cases hb1:b= -1
  ·subst hb1
   have hpz:nY f (-1)=su:=if_pos rfl
   rw[hpz]
   simp only[beq_self_eq_true,cond_true]
   refine ax.nu O7 ?_
   simp only[show(qS f (aK n) j).size+su.size≤9223372036854775807 by rw[hc,vB];omega,if_true]
   exact ax.const _
  ·obtain⟨g0,s,g1,g2⟩:=h j b hx hb1
   have hpz:nY f b=s:=by simp only[nY,hb1,if_false,g1,Option.getD_some]
   have hbb:(b==(-1:Int))=false:=beq_eq_false_iff_ne.2 hb1
   have g1':f.2.2.2[b.toNat]? =some s:=g1
   rw[hpz]
   simp only[hbb,cond_false,g0,if_true,g1',Option.bind_some]
   simp only[show(qS f (aK n) j).size+s.size≤9223372036854775807 by rw[hc,g2];omega,if_true]
   exact ax.const _
 ·have hc:=rH h (aK n).length (Nat.le_refl _)
  have hle:dF n≤((qS f (aK n) (aK n).length).size:Int):=by omega
  simp only[fN,Int.lt_irrefl,decide_false,cond_false]
  simp only[show n.2.2.2.2.2.1=dF n from rfl,hs.1,if_true,if_pos hle]
  exact ax.const _
end Go.Proofs.YtkdcfeopelbojaaGreatDoor

/- The tables, the residual functions and lemmas of this seat: parts of the proof of the law; conditions: those that each names. -/
import Derived.Test.YtmmgfgfkkpeedaaGreatZro
import Derived.Test.YtmmgfgfkkpeedaaGreatSux
set_option linter.unusedVariables false
set_option linter.unusedSimpArgs false
set_option maxRecDepth 100000
namespace Go.Proofs.YtmmgfgfkkpeedaaGreat
open Go.Eng
theorem p9(s:ByteArray)(n:Nat):(xE s n).size=s.size+(n-s.size):=by
 rw[xE,mN,List.length_append,rM,List.length_replicate]
def QH(e:dK):ByteArray:=(cZ e.1 1++cZ e.2.1 1)++cZ e.2.2 1
theorem L9(e:dK):(QH e).size≤3:=by
 have h1:=aB e.1 1
 have h2:=aB e.2.1 1
 have h3:=aB e.2.2 1
 simp only[QH,aM];omega
def qS(l:List dK):Nat→ByteArray
 |0=>cZ (l.length:Int) 1
 |i+1=>match l[i]? with
  |some e=>qS l i++QH e
  |none=>qS l i
theorem qa(l:List dK):∀i,(qS l i).size≤1+3*i
 |0=>aB _ _
 |i+1=>by
  have h:=qa l i
  simp only[qS]
  cases l[i]? with
  |none=>simp only;omega
  |some e=>have:=L9 e;simp only[aM];omega
def fx(l:List dK):ByteArray:=xE (qS l l.length) 19
theorem gP{l:List dK}(h:l.length≤6):(fx l).size=19:=by
 have:=qa l l.length
 rw[fx,p9];omega
theorem oV{l:List dK}(h:yb l):Ev (fun k=>fT k l) (fx l):=by
 have hl:l.length≤6:=h.1
 obtain⟨b,e1,e2⟩:=mI l
 have hb:b=true:=e2.2 h
 subst hb
 refine au.run (fun k=>tS k _) ?_
 simp only[vK]
 refine au.bind e1 ?_
 simp only[Bool.not_true,cond_false]
 refine au.bind (aQ (l.length:Int) 1 (by omega) (by omega)) (bS.ev ?_)
 refine bS.count (L:=kU) (r:=fx l) (fun i=>(qS l i,l,(l.length:Int),(i:Int))) l.length (fun i hi=> ?_) (bS.stop ?_)
 ·have hx:l[i]? =some l[i]:=List.getElem?_eq_getElem hi
  have hw:aa .i64 ((i:Int)+1)=((i+1:Nat):Int):=by rw[aR (by omega) (by omega)];omega
  have hs:=qa l i
  have h1:=aB l[i].1 1
  have h2:=aB l[i].2.1 1
  have h3:=aB l[i].2.2 1
  have e:qS l (i+1)=qS l i++QH l[i]:=by simp only[qS,hx]
  have he:=L9 l[i]
  simp only[m7,kU,Int.ofNat_lt,hi,decide_true,cond_true,Int.natCast_nonneg,if_true,Int.toNat_natCast,hx,Option.bind_some,hw,e]
  refine au.bD (aQ _ 1 (by omega) (by omega)) (au.bD (aQ _ 1 (by omega) (by omega)) ?_)
  simp only[show(cZ l[i].1 1).size+(cZ l[i].2.1 1).size≤9223372036854775807 by omega,if_true]
  refine au.bD (aQ _ 1 (by omega) (by omega)) ?_
  simp only[show(cZ l[i].1 1++cZ l[i].2.1 1).size+(cZ l[i].2.2 1).size≤9223372036854775807 by rw[aM];omega,show(qS l i).size+((cZ l[i].1 1++cZ l[i].2.1 1)++cZ l[i].2.2 1).size≤9223372036854775807 by simp only[aM];omega,if_true]
  exact au.const _
 ·have hs:=qa l l.length
  simp only[kU,Int.lt_irrefl,decide_false,cond_false]
  exact au.bD (ky _ 19 (by omega) (by omega)) (au.const _)
theorem oW{l:List dK}(h:yb l):Ev (fun k=>dI k l) (fx l):=by
 have hl:l.length≤6:=h.1
 obtain⟨b,e1,e2⟩:=mU l (by unfold m6;omega)
 have hb:b=true:=e2.2 h
 subst hb
 refine au.run (fun k=>uA k _) ?_
 simp only[vk]
 refine au.bind e1 ?_
 simp only[Bool.not_true,cond_false]
 refine au.bind (aP (l.length:Int) 1 (by omega) (by omega)) (bS.ev ?_)
 refine bS.count (L:=kM) (r:=fx l) (fun i=>(qS l i,l,(l.length:Int),(i:Int))) l.length (fun i hi=> ?_) (bS.stop ?_)
 ·have hx:l[i]? =some l[i]:=List.getElem?_eq_getElem hi
  have hw:aa .i64 ((i:Int)+1)=((i+1:Nat):Int):=by rw[aR (by omega) (by omega)];omega
  have hs:=qa l i
  have h1:=aB l[i].1 1
  have h2:=aB l[i].2.1 1
  have h3:=aB l[i].2.2 1
  have e:qS l (i+1)=((qS l i++cZ l[i].1 1)++cZ l[i].2.1 1)++cZ l[i].2.2 1:=by simp only[qS,hx,QH,Gu]
  simp only[m7,kM,Int.ofNat_lt,hi,decide_true,cond_true,Int.natCast_nonneg,if_true,Int.toNat_natCast,hx,Option.bind_some,hw,e]
  refine au.bD (aP _ 1 (by omega) (by omega)) ?_
  simp only[show(qS l i).size+(cZ l[i].1 1).size≤9223372036854775807 by omega,if_true]
  refine au.bD (aP _ 1 (by omega) (by omega)) ?_
  simp only[show(qS l i++cZ l[i].1 1).size+(cZ l[i].2.1 1).size≤9223372036854775807 by rw[aM];omega,if_true]
  refine au.bD (aP _ 1 (by omega) (by omega)) ?_
  simp only[show((qS l i++cZ l[i].1 1)++cZ l[i].2.1 1).size+(cZ l[i].2.2 1).size≤9223372036854775807 by simp only[aM];omega,if_true]
  exact au.const _
 ·have hs:=qa l l.length
  simp only[kM,Int.lt_irrefl,decide_false,cond_false]
  exact au.bD (ir _ 19 (by omega) (by omega)) (au.const _)
def Pl(n:aN):ByteArray:=(((((cZ n.1 1++cZ n.2.1 2)++cZ n.2.2.1 1)++cZ n.2.2.2.1 1)++cZ n.2.2.2.2.1 2)++cZ n.2.2.2.2.2.1 2)++cZ n.2.2.2.2.2.2.1 4
theorem Qw(n:aN):(Pl n).size≤13:=by
 have h1:=aB n.1 1
 have h2:=aB n.2.1 2
 have h3:=aB n.2.2.1 1
 have h4:=aB n.2.2.2.1 1
 have h5:=aB n.2.2.2.2.1 2
 have h6:=aB n.2.2.2.2.2.1 2
 have h7:=aB n.2.2.2.2.2.2.1 4
 simp only[Pl,aM];omega
def gY(n:aN)(i:Nat):Int:=((bK n)[i]?).getD (-1)
def ur(n:aN):Nat→ByteArray
 |0=>Pl n
 |i+1=>ur n i++cZ (gY n i+1) 2
theorem pY(n:aN):∀i,(ur n i).size≤13+2*i
 |0=>Qw n
 |i+1=>by
  have h:=pY n i
  have h2:=aB (gY n i+1) 2
  simp only[ur,aM];omega
def pF(n:aN):ByteArray:=xE ((ur n 8++fx (FE n))++fx (FN n)) 96
theorem IN{n:aN}(h:cN n):yb (FE n)∧yb (FN n):=by
 rcases h with rfl|h
 ·have:yb []:=⟨by simp,(fun i e he=>by simp at he),.inl rfl⟩
  exact⟨this,this⟩
 ·exact⟨h.2.2.1,h.2.2.2.1⟩
theorem Ke{n:aN}(h:cN n)(i:Nat): -1≤gY n i∧gY n i≤999:=by
 unfold gY
 cases hb:(bK n)[i]? with
 |none=>simp
 |some b=>
  rcases h with rfl|h
  ·exact absurd hb (by show([]:List Int)[i]? ≠some b;simp)
  ·have:=h.2.2.2.2.1 i b hb
   simp only[Option.getD_some]
   by_cases e:b= -1
   ·omega
   ·have:=this e;omega
theorem CG{n:aN}(h:cN n):(pF n).size=96:=by
 obtain⟨a1,a2⟩:=IN h
 have h1:=gP a1.1
 have h2:=gP a2.1
 have h3:=pY n 8
 rw[pF,p9]
 simp only[aM];omega
theorem sL{n:aN}(h:cN n)(hs:gV n):Ev (fun k=>eu k n) (pF n):=by
 obtain⟨b,e1,e2⟩:=nF n hs
 have hb:b=true:=e2.2 h
 subst hb
 obtain⟨a1,a2⟩:=IN h
 have hA1:=gP a1.1
 have hA2:=gP a2.1
 have h1:=aB n.1 1
 have h2:=aB n.2.1 2
 have h3:=aB n.2.2.1 1
 have h4:=aB n.2.2.2.1 1
 have h5:=aB n.2.2.2.2.1 2
 have h6:=aB n.2.2.2.2.2.1 2
 have h7:=aB n.2.2.2.2.2.2.1 4
 refine au.run (fun k=>qu k _) ?_
 simp only[qT]
 refine au.bind e1 ?_
 simp only[Bool.not_true,cond_false]
 refine au.bind (aQ _ 1 (by omega) (by omega)) (au.bind (aQ _ 2 (by omega) (by omega)) ?_)
 refine au.nA (by omega) (au.bind (aQ _ 1 (by omega) (by omega)) ?_)
 refine au.nA (by simp only[aM];omega) (au.bind (aQ _ 1 (by omega) (by omega)) ?_)
 refine au.nA (by simp only[aM];omega) (au.bind (aQ _ 2 (by omega) (by omega)) ?_)
 refine au.nA (by simp only[aM];omega) (au.bind (aQ _ 2 (by omega) (by omega)) ?_)
 refine au.nA (by simp only[aM];omega) (au.bind (aQ _ 4 (by omega) (by omega)) ?_)
 refine au.nA (by simp only[aM];omega) (bS.ev ?_)
 refine bS.count (L:=iE) (r:=pF n) (fun i=>((),ur n i,((i:Nat):Int),n)) 8 (fun i hi=> ?_) (bS.stop ?_)
 ·have hw:aa .i64 ((i:Int)+1)=((i+1:Nat):Int):=by rw[aR (by omega) (by omega)];omega
  have hbl:=Ke h i
  have hwb:aa .i64 (gY n i+1)=gY n i+1:=aR (by omega) (by omega)
  have hi2:=pY n i
  have hp:=aB (gY n i+1) 2
  have hl:n.2.2.2.2.2.2.2.1=bK n:=rfl
  simp only[m7,iE,show(i:Int)<8 by omega,decide_true,cond_true,hl,Int.ofNat_lt]
  refine au.congr (g:=fun k self=>(aK k (aa .i64 (gY n i+1),(2:Int))).bind fun v2=>if(ur n i).size+v2.size≤9223372036854775807 then self ((),(ur n i++v2),(aa .i64 ((i:Int)+1)),n)else none) (fun k=>funext fun self=> ?_) ?_
  ·by_cases hlt:i<(bK n).length
   ·have hx:(bK n)[i]? =some (bK n)[i]:=List.getElem?_eq_getElem hlt
    have hv:gY n i=(bK n)[i]:=by simp only[gY,hx,Option.getD_some]
    simp only[hlt,decide_true,cond_true,Int.natCast_nonneg,if_true,Int.toNat_natCast,hx,Option.bind_some,rK,hv]
   ·have hv:gY n i= -1:=by simp only[gY,List.getElem?_eq_none (show(bK n).length≤i by omega),Option.getD_none]
    simp only[hlt,decide_false,cond_false,rK,hv]
  ·simp only[hwb]
   refine au.bD (aQ _ 2 (by omega) (by omega)) ?_
   simp only[show(ur n i).size+(cZ (gY n i+1) 2).size≤9223372036854775807 by omega,if_true,hw]
   exact au.const _
 ·have hi2:=pY n 8
  have q1:(ur n 8).size+(fx (FE n)).size≤9223372036854775807:=by omega
  have q2:(ur n 8++fx (FE n)).size+(fx (FN n)).size≤9223372036854775807:=by rw[aM];omega
  have q3:((ur n 8++fx (FE n))++fx (FN n)).size≤1073741824:=by simp only[aM];omega
  simp only[iE,show ¬((8:Nat):Int)<8 by omega,decide_false,cond_false]
  refine au.bD (oV a1) ?_
  simp only[q1,if_true]
  refine au.bD (oV a2) ?_
  simp only[q2,if_true]
  exact au.bD (ky _ 96 (by omega) q3) (au.const _)
theorem sy{n:aN}(h:cN n)(hs:gV n):Ev (fun k=>cj k n) (pF n):=by
 obtain⟨b,e1,e2⟩:=nr n hs
 have hb:b=true:=e2.2 h
 subst hb
 obtain⟨a1,a2⟩:=IN h
 have hA1:=gP a1.1
 have hA2:=gP a2.1
 have h1:=aB n.1 1
 have h2:=aB n.2.1 2
 have h3:=aB n.2.2.1 1
 have h4:=aB n.2.2.2.1 1
 have h5:=aB n.2.2.2.2.1 2
 have h6:=aB n.2.2.2.2.2.1 2
 have h7:=aB n.2.2.2.2.2.2.1 4
 refine au.run (fun k=>qY k _) ?_
 simp only[qh]
 refine au.bind e1 ?_
 simp only[Bool.not_true,cond_false]
 refine au.bind (aP _ 1 (by omega) (by omega)) (au.bind (aP _ 2 (by omega) (by omega)) ?_)
 refine au.nA (by omega) (au.bind (aP _ 1 (by omega) (by omega)) ?_)
 refine au.nA (by simp only[aM];omega) (au.bind (aP _ 1 (by omega) (by omega)) ?_)
 refine au.nA (by simp only[aM];omega) (au.bind (aP _ 2 (by omega) (by omega)) ?_)
 refine au.nA (by simp only[aM];omega) (au.bind (aP _ 2 (by omega) (by omega)) ?_)
 refine au.nA (by simp only[aM];omega) (au.bind (aP _ 4 (by omega) (by omega)) ?_)
 refine au.nA (by simp only[aM];omega) (bS.ev ?_)
 refine bS.count (L:=iP) (r:=pF n) (fun i=>((),ur n i,((i:Nat):Int),n)) 8 (fun i hi=> ?_) (bS.stop ?_)
 ·have hw:aa .i64 ((i:Int)+1)=((i+1:Nat):Int):=by rw[aR (by omega) (by omega)];omega
  have hbl:=Ke h i
  have hwb:aa .i64 (gY n i+1)=gY n i+1:=aR (by omega) (by omega)
  have hi2:=pY n i
  have hp:=aB (gY n i+1) 2
  have hl:n.2.2.2.2.2.2.2.1=bK n:=rfl
  simp only[m7,iP,show(i:Int)<8 by omega,decide_true,cond_true,hl,Int.ofNat_lt]
  refine au.congr (g:=fun k self=>(aL k (aa .i64 (gY n i+1),(2:Int))).bind fun v2=>if(ur n i).size+v2.size≤9223372036854775807 then self ((),(ur n i++v2),(aa .i64 ((i:Int)+1)),n)else none) (fun k=>funext fun self=> ?_) ?_
  ·by_cases hlt:i<(bK n).length
   ·have hx:(bK n)[i]? =some (bK n)[i]:=List.getElem?_eq_getElem hlt
    have hv:gY n i=(bK n)[i]:=by simp only[gY,hx,Option.getD_some]
    simp only[hlt,decide_true,cond_true,Int.natCast_nonneg,if_true,Int.toNat_natCast,hx,Option.bind_some,rK,hv]
   ·have hv:gY n i= -1:=by simp only[gY,List.getElem?_eq_none (show(bK n).length≤i by omega),Option.getD_none]
    simp only[hlt,decide_false,cond_false,rK,hv]
  ·simp only[hwb]
   refine au.bD (aP _ 2 (by omega) (by omega)) ?_
   simp only[show(ur n i).size+(cZ (gY n i+1) 2).size≤9223372036854775807 by omega,if_true,hw]
   exact au.const _
 ·have hi2:=pY n 8
  have q1:(ur n 8).size+(fx (FE n)).size≤9223372036854775807:=by omega
  have q2:(ur n 8++fx (FE n)).size+(fx (FN n)).size≤9223372036854775807:=by rw[aM];omega
  have q3:((ur n 8++fx (FE n))++fx (FN n)).size≤1073741824:=by simp only[aM];omega
  simp only[iP,show ¬((8:Nat):Int)<8 by omega,decide_false,cond_false]
  refine au.bD (oW a1) ?_
  simp only[q1,if_true]
  refine au.bD (oW a2) ?_
  simp only[q2,if_true]
  exact au.bD (ir _ 96 (by omega) q3) (au.const _)
def Gk(s:ByteArray):List ByteArray:=[s.extract 0 32,s.extract 32 64,s.extract 64 96]
theorem Pr{s:ByteArray}(h:s.size=96):Ev (fun k=>ku k (s,(32:Int))) (Gk s):=by
 refine au.run (fun k=>vZ k _ _) ?_
 simp only[zk,show ¬(32:Int)<1 by omega,show ¬(1000:Int)<32 by omega,decide_false,cond_false]
 have s1:(s.extract 32 96).size=64:=by rw[ByteArray.size_extract];omega
 have s2:(s.extract 64 96).size=32:=by rw[ByteArray.size_extract];omega
 have s3:(s.extract 96 96).size=0:=by rw[ByteArray.size_extract];omega
 have x1:(s.extract 32 96).extract 0 32=s.extract 32 64:=by rw[ByteArray.extract_extract,show 32+0=32 from rfl,show min (32+32) 96=64 from rfl]
 have x2:(s.extract 32 96).extract 32 64=s.extract 64 96:=by rw[ByteArray.extract_extract,show 32+32=64 from rfl,show min (32+64) 96=96 from rfl]
 have x3:(s.extract 64 96).extract 0 32=s.extract 64 96:=by rw[ByteArray.extract_extract,show 64+0=64 from rfl,show min (64+32) 96=96 from rfl]
 have x4:(s.extract 64 96).extract 32 32=s.extract 96 96:=by rw[ByteArray.extract_extract,show 64+32=96 from rfl,show min (64+32) 96=96 from rfl]
 have m1:min (32:Int) ((96:Nat):Int)=32:=by omega
 have m2:min (32:Int) ((64:Nat):Int)=32:=by omega
 have m3:min (32:Int) ((32:Nat):Int)=32:=by omega
 have t32:(32:Int).toNat=32:=rfl
 refine bS.ev (bS.step (d':=(s.extract 32 96,(32:Int),[s.extract 0 32])) ?_ (bS.step (d':=(s.extract 64 96,(32:Int),[s.extract 0 32,s.extract 32 64])) ?_ (bS.step (d':=(s.extract 96 96,(32:Int),Gk s)) ?_ (bS.stop ?_))))
 ·simp only[m7,cP,h,m1,t32,show(0:Int)<((96:Nat):Int)by omega,decide_true,cond_true,show(0:Int)≤32 by omega,show(32:Int)≤((96:Nat):Int)by omega,if_true,show(([]:List ByteArray).length+[s.extract 0 32].length)*16≤af by simp[af]]
  exact au.const _
 ·simp only[m7,cP,s1,m2,t32,x1,x2,show(0:Int)<((64:Nat):Int)by omega,decide_true,cond_true,show(0:Int)≤32 by omega,show(32:Int)≤((64:Nat):Int)by omega,if_true,show(([s.extract 0 32]:List ByteArray).length+[s.extract 32 64].length)*16≤af by simp[af]]
  exact au.const _
 ·simp only[m7,cP,s2,m3,t32,x3,x4,show(0:Int)<((32:Nat):Int)by omega,decide_true,cond_true,show(0:Int)≤32 by omega,show(32:Int)≤((32:Nat):Int)by omega,if_true,show(([s.extract 0 32,s.extract 32 64]:List ByteArray).length+[s.extract 64 96].length)*16≤af by simp[af]]
  exact au.const _
 ·simp only[cP,s3,show ¬(0:Int)<((0:Nat):Int)by omega,decide_false,cond_false]
  exact au.const _
theorem O8{s:ByteArray}(h:s.size=96):Ev (fun k=>kA k (s,(32:Int))) (Gk s):=by
 refine au.run (fun k=>w9 k _ _) ?_
 simp only[zb]
 refine au.bind (bH _ _ _) ?_
 simp only[show(1:Int)≤32∧(32:Int)≤1000 by omega,and_self,decide_true,Bool.not_true,cond_false]
 have s1:(s.extract 32 96).size=64:=by rw[ByteArray.size_extract];omega
 have s2:(s.extract 64 96).size=32:=by rw[ByteArray.size_extract];omega
 have x1:(s.extract 32 96).extract 0 32=s.extract 32 64:=by rw[ByteArray.extract_extract,show 32+0=32 from rfl,show min (32+32) 96=64 from rfl]
 have x2:(s.extract 32 96).extract 32 64=s.extract 64 96:=by rw[ByteArray.extract_extract,show 32+32=64 from rfl,show min (32+64) 96=96 from rfl]
 have t32:(32:Int).toNat=32:=rfl
 refine bS.ev (bS.step (d':=(s.extract 32 96,(32:Int),[s.extract 0 32])) ?_ (bS.step (d':=(s.extract 64 96,(32:Int),[s.extract 0 32,s.extract 32 64])) ?_ (bS.stop ?_)))
 ·simp only[m7,dF,h,t32,show(32:Int)<((96:Nat):Int)by omega,decide_true,cond_true,show(0:Int)≤32 by omega,show(32:Int)≤((96:Nat):Int)by omega,if_true,show(([]:List ByteArray).length+[s.extract 0 32].length)*16≤af by simp[af]]
  exact au.const _
 ·simp only[m7,dF,s1,t32,x1,x2,show(32:Int)<((64:Nat):Int)by omega,decide_true,cond_true,show(0:Int)≤32 by omega,show(32:Int)≤((64:Nat):Int)by omega,if_true,show(([s.extract 0 32]:List ByteArray).length+[s.extract 32 64].length)*16≤af by simp[af]]
  exact au.const _
 ·have hne:lB (s.extract 64 96) (⟨#[]⟩:ByteArray)=false:=by
   cases he:lB (s.extract 64 96) (⟨#[]⟩:ByteArray)with
   |false=>rfl
   |true=>rw[(cS _ _).1 he]at s2;cases s2
  simp only[dF,s2,show ¬(32:Int)<((32:Nat):Int)by omega,decide_false,cond_false,hne,Bool.not_false,cond_true,show(([s.extract 0 32,s.extract 32 64]:List ByteArray).length+[s.extract 64 96].length)*16≤af by simp[af],if_true]
  exact au.const _
def Nv(f:jB):List ByteArray:=[lj f]++List.replicate 69 mK
def gp(f:jB):Nat→List ByteArray
 |0=>Nv f
 |i+1=>match(fI f)[i]? with
  |some n=>gp f i++Gk (pF n)
  |none=>gp f i
theorem pZ(f:jB):∀i,(gp f i).length≤70+3*i
 |0=>by simp[gp,Nv]
 |i+1=>by
  have h:=pZ f i
  simp only[gp]
  cases(fI f)[i]? with
  |none=>simp only;omega
  |some n=>simp only[List.length_append,Gk,List.length_cons,List.length_nil];omega
def gj(f:jB):List ByteArray:=gp f 20++fD f
theorem Mx(f:jB)(hq:(lj f).size≤1000):∀i,∀s∈gp f i,s.size≤1000
 |0,s,h=>by
  simp only[gp,Nv,List.mem_append,List.mem_singleton]at h
  rcases h with rfl|h
  ·exact hq
  ·rw[List.eq_of_mem_replicate h,xX];omega
 |i+1,s,h=>by
  have ih:=Mx f hq i s
  simp only[gp]at h
  cases hn:(fI f)[i]? with
  |none=>rw[hn]at h;exact ih h
  |some n=>
   rw[hn]at h
   rcases List.mem_append.1 h with h|h
   ·exact ih h
   ·simp only[Gk,List.mem_cons,List.not_mem_nil,or_false]at h
    rcases h with rfl|rfl|rfl<;>rw[ByteArray.size_extract]<;>omega
theorem PY{f:jB}(hP:Fa f):(lj f).size≤1000:=by
 have h1:=qe f (fQ f).length
 have h2:=hP.nq
 rw[lj,p9];omega
theorem OM{f:jB}(hP:Fa f):(gj f).length≤186∧∀s∈gj f,s.size≤1000:=by
 have h1:=pZ f 20
 have h2:=hP.nd
 refine⟨by rw[gj,List.length_append];omega,fun s hs=> ?_⟩
 rcases List.mem_append.1 hs with hs|hs
 ·exact Mx f (PY hP) 20 s hs
 ·obtain⟨i,hi⟩:=List.mem_iff_getElem?.1 hs
  rw[hP.sz i s hi];omega
theorem vn{f:jB}(hP:Fa f)(hs:eR f):Ev (fun k=>jr k f) (gj f):=by
 refine au.run (fun k=>F6 k _) ?_
 simp only[EF]
 refine au.bind (K7 f (by have:=hP.nq;omega)) (bS.ev ?_)
 have hni:=hP.ni
 have:=bS.count (L:=kV) (r:=gj f) (fun j=>((),[lj f]++List.replicate j mK,f)) 69 (fun j hj=> ?_) (bS.stop ?_)
 ·simpa using this
 ·have hl:(([lj f]++List.replicate j mK).length:Int)<70:=by simp;omega
  have hcap:(([lj f]++List.replicate j mK).length+([mK]:List ByteArray).length)*16≤af:=by simp[af];omega
  simp only[m7,kV,hl,decide_true,cond_true]
  refine au.bD Ot ?_
  simp only[hcap,if_true,List.append_assoc]
  rw[←List.replicate_succ']
  exact au.const _
 ·have hl:¬(([lj f]++List.replicate 69 mK).length:Int)<70:=by simp
  simp only[kV,hl,decide_false,cond_false]
  refine au.lift (bS.ev ?_)
  refine bS.count (L:=kQ) (r:=gj f) (fun i=>((),gp f i,fI f,((fI f).length:Int),(i:Int),f)) 20 (fun i hi=> ?_) (bS.stop ?_)
  ·have hx:(fI f)[i]? =some (fI f)[i]:=List.getElem?_eq_getElem (by omega)
   have hw:aa .i64 ((i:Int)+1)=((i+1:Nat):Int):=by rw[aR (by omega) (by omega)];omega
   have hin:=hP.ino i _ hx
   have hsm:=hs _ (List.mem_of_getElem? hx)
   have hpl:=pZ f i
   have hcap:((gp f i).length+(Gk (pF (fI f)[i])).length)*16≤af:=by simp only[Gk,List.length_cons,List.length_nil,af];omega
   have e:gp f (i+1)=gp f i++Gk (pF (fI f)[i]):=by simp only[gp,hx]
   simp only[m7,kQ,show(i:Int)<((fI f).length:Int)by omega,decide_true,cond_true,Int.natCast_nonneg,if_true,Int.toNat_natCast,hx,Option.bind_some,hw,e]
   refine au.bD (sy hin hsm) (au.bD (O8 (CG hin)) ?_)
   simp only[hcap,if_true]
   exact au.const _
  ·have hpl:=pZ f 20
   have hd:f.2.2.2.length=56:=hP.nd
   simp only[kQ,show ¬((20:Nat):Int)<((fI f).length:Int)by omega,decide_false,cond_false,show((gp f 20).length+f.2.2.2.length)*16≤af by unfold af;omega,if_true]
   exact au.const _
theorem WN(z:ByteArray):Ev (fun k=>dG k ([z],(69:Int))) (List.replicate 69 z):=by
 refine au.run (fun k=>lN k _) ?_
 simp only[bE]
 exact au.nA (by omega) (au.const _)
theorem vT{f:jB}(hP:Fa f)(hs:eR f)(e1:Ev (fun k=>jc k f) true):Ev (fun k=>kr k f) (gj f):=by
 refine au.run (fun k=>Ir k _) ?_
 simp only[Hx]
 refine au.bind e1 ?_
 simp only[Bool.not_true,cond_false]
 refine au.bind (K9 f (by have:=hP.nq;omega)) (au.bind OY (au.bind (WN mK) ?_))
 have hni:=hP.ni
 refine au.nA (by simp[af]) (bS.ev ?_)
 refine bS.count (L:=lZ) (r:=gj f) (fun i=>((),gp f i,fI f,((fI f).length:Int),(i:Int),f)) 20 (fun i hi=> ?_) (bS.stop ?_)
 ·have hx:(fI f)[i]? =some (fI f)[i]:=List.getElem?_eq_getElem (by omega)
  have hw:aa .i64 ((i:Int)+1)=((i+1:Nat):Int):=by rw[aR (by omega) (by omega)];omega
  have hin:=hP.ino i _ hx
  have hsm:=hs _ (List.mem_of_getElem? hx)
  have hpl:=pZ f i
  have hcap:((gp f i).length+(Gk (pF (fI f)[i])).length)*16≤af:=by simp only[Gk,List.length_cons,List.length_nil,af];omega
  have e:gp f (i+1)=gp f i++Gk (pF (fI f)[i]):=by simp only[gp,hx]
  simp only[m7,lZ,show(i:Int)<((fI f).length:Int)by omega,decide_true,cond_true,Int.natCast_nonneg,if_true,Int.toNat_natCast,hx,Option.bind_some,hw,e]
  refine au.bD (sL hin hsm) (au.bD (Pr (CG hin)) ?_)
  simp only[hcap,if_true]
  exact au.const _
 ·have hpl:=pZ f 20
  have hd:f.2.2.2.length=56:=hP.nd
  simp only[lZ,show ¬((20:Nat):Int)<((fI f).length:Int)by omega,decide_false,cond_false,show((gp f 20).length+f.2.2.2.length)*16≤af by unfold af;omega,if_true]
  exact au.const _
theorem WW{r:List ByteArray}(h1:r.length≤186)(h2:∀s∈r,s.size≤1000):aW r≤1000000:=by
 have key:∀l:List ByteArray,(∀s∈l,s.size≤1000)→(l.map fun y=>y.size).sum≤1000*l.length:=by
  intro l
  induction l with
  |nil=>intro _;simp
  |cons a l ih=>
   intro hl
   have:=ih fun s hs=>hl s (List.mem_cons_of_mem _ hs)
   have:=hl a (List.mem_cons_self ..)
   simp only[List.map_cons,List.sum_cons,List.length_cons];omega
 have:=key r h2
 have e:aW r=r.length+(r.map fun y=>y.size).sum:=rfl
 omega
end Go.Proofs.YtmmgfgfkkpeedaaGreat

/- The tables, the residual functions and lemmas of this seat: parts of the proof of the law; conditions: those that each names. -/
import Derived.Test.YtmmgfgfkkpeedaaGreatDcj
set_option linter.unusedVariables false
set_option linter.unusedSimpArgs false
set_option maxRecDepth 100000
namespace Go.Proofs.YtmmgfgfkkpeedaaGreat
open Go.Eng
def km(l:List ByteArray)(i:Nat):ByteArray:=(l[i]?).getD ⟨#[]⟩
theorem cU{l:List ByteArray}{i:Nat}(h:i<l.length):l[i]? =some (km l i):=by
 rw[km,List.getElem?_eq_getElem h];rfl
def qR(l:List ByteArray)(i:Nat):(Int×Bool)×(Int×Bool):=(bq (km l 0) (8+2*i) 1,bq (km l 0) (9+2*i) 1)
def qL(l:List ByteArray):Nat→List (Int×Int)
 |0=>[]
 |i+1=>qL l i++[((qR l i).1.1,(qR l i).2.1)]
def Q6(l:List ByteArray):Nat→Bool
 |0=>(bq (km l 0) 4 4).2
 |i+1=>bif Q6 l i then(bif (qR l i).1.2 then(qR l i).2.2 else false)else false
def sI(l:List ByteArray)(i:Nat):ByteArray:=(km l (70+3*i)++km l (71+3*i))++km l (72+3*i)
noncomputable def iL(l:List ByteArray):Nat→List aN
 |0=>[]
 |i+1=>iL l i++[(lO (sI l i)).1]
noncomputable def KH(l:List ByteArray):Nat→Bool
 |0=>Q6 l 4
 |i+1=>bif KH l i then(lO (sI l i)).2 else false
theorem Nr(l:List ByteArray):∀i,(qL l i).length=i
 |0=>rfl
 |i+1=>by rw[qL,List.length_append,Nr l i];rfl
theorem NM(l:List ByteArray):∀i,(iL l i).length=i
 |0=>rfl
 |i+1=>by rw[iL,List.length_append,NM l i];rfl
theorem OS{l:List ByteArray}{i:Nat}(h:KH l i=false):∀j,KH l (i+j)=false
 |0=>h
 |j+1=>by
  show KH l (i+j+1)=false
  rw[KH,OS h j];rfl
noncomputable def KU(l:List ByteArray):jB:=((bq (km l 0) 4 4).1,qL l 4,iL l 20,l.drop 130)
def KT:jB:=(0,[],[],[])
open Classical in
noncomputable def yl(p l:List ByteArray)(f:jB):Nat→Nat→jB×Bool
 |0,_=>(f,true)
 |m+1,i=>if(i<1∨70≤i)∧km p i≠km l i then(KT,false)else yl p l f m (i+1)
open Classical in
noncomputable def I9(l:List ByteArray)(ok:Bool)(f:jB):jB×Bool:=if ok=true∧Fa f then yl (gj f) l f (gj f).length 0 else(KT,false)
noncomputable def pV(l:List ByteArray):jB×Bool:=if l.length=186 then I9 l (KH l 20) (KU l)else(KT,false)
theorem PM(s:ByteArray):gV (lO s).1:=by
 unfold lO
 split
 ·exact zU s
 ·exact⟨by show 0<m6;unfold m6;omega,by show 0<m6;unfold m6;omega,by show 0<m6;unfold m6;omega⟩
theorem Ud{l:List ByteArray}{n:aN}:∀{i:Nat},n∈iL l i→∃s,n=(lO s).1
 |0,h=>by cases h
 |i+1,h=>by
  rcases List.mem_append.1 h with h|h
  ·exact Ud h
  ·exact⟨sI l i,by simpa using h⟩
theorem nH(l:List ByteArray):eR (KU l):=fun n hn=>by
 obtain⟨s,rfl⟩:=Ud (show n∈iL l 20 from hn)
 exact PM s
theorem Pm{p l:List ByteArray}{f z:jB}(hp:p.length≤186)(hl:l.length=186):∀(m i:Nat),i+m=p.length→
  bS eF (l,(),(),p,(p.length:Int),(i:Int),f,z) (yl p l f m i)
 |0,i,h=>by
  refine bS.stop ?_
  simp only[eF,show ¬(i:Int)<(p.length:Int)by omega,decide_false,cond_false]
  exact au.const _
 |m+1,i,h=>by
  have hi:i<p.length:=by omega
  have w5:aa .i64 ((i:Int)+1)=((i+1:Nat):Int):=by rw[aR (by omega) (by omega)];omega
  have ih:=Pm (f:=f) (z:=z) hp hl m (i+1) (by omega)
  by_cases hj:1≤i∧i≤69
  ·have hc:yl p l f (m+1) i=yl p l f m (i+1):=if_neg (by omega)
   rw[hc]
   refine bS.step ?_ ih
   simp only[m7,eF,Int.ofNat_lt,hi,decide_true,cond_true,Int.natCast_nonneg,if_true,Int.toNat_natCast,cU hi,Option.bind_some,w5]
   refine au.bD (bH _ _ _) ?_
   rw[show decide ((1:Int)≤(i:Int)∧(i:Int)≤69)=true by simp;omega]
   simp only[Bool.not_true,cond_false]
   exact au.const _
  ·have hd:decide ((1:Int)≤(i:Int)∧(i:Int)≤69)=false:=decide_eq_false (by omega)
   cases hq:lB (km p i) (km l i)with
   |true=>
    have hc:yl p l f (m+1) i=yl p l f m (i+1):=if_neg fun h'=>h'.2 ((cS _ _).1 hq)
    rw[hc]
    refine bS.step ?_ ih
    simp only[m7,eF,Int.ofNat_lt,hi,decide_true,cond_true,Int.natCast_nonneg,if_true,Int.toNat_natCast,cU hi,Option.bind_some,w5]
    refine au.bD (bH _ _ _) ?_
    simp only[hd,Bool.not_false,cond_true,cU (show i<l.length by omega),Option.bind_some,hq,Bool.not_true,cond_false]
    exact au.const _
   |false=>
    have hc:yl p l f (m+1) i=(KT,false):=if_pos ⟨by omega,fun e=>by rw[(cS _ _).2 e]at hq;cases hq⟩
    rw[hc]
    refine bS.stop ?_
    simp only[eF,Int.ofNat_lt,hi,decide_true,cond_true,Int.natCast_nonneg,if_true,Int.toNat_natCast,cU hi,Option.bind_some,w5]
    refine au.bD (bH _ _ _) ?_
    simp only[hd,Bool.not_false,cond_true,cU (show i<l.length by omega),Option.bind_some,hq]
    exact au.const _
theorem Pw{p l:List ByteArray}{f z:jB}(hp:p.length≤186)(hl:l.length=186):∀(m i:Nat),i+m=p.length→
  bS eE (l,(),(),p,(p.length:Int),(i:Int),f,z) (yl p l f m i)
 |0,i,h=>by
  refine bS.stop ?_
  simp only[eE,show ¬(i:Int)<(p.length:Int)by omega,decide_false,cond_false]
  exact au.const _
 |m+1,i,h=>by
  have hi:i<p.length:=by omega
  have w5:aa .i64 ((i:Int)+1)=((i+1:Nat):Int):=by rw[aR (by omega) (by omega)];omega
  have ih:=Pw (f:=f) (z:=z) hp hl m (i+1) (by omega)
  by_cases hj:1≤i∧i≤69
  ·have hc:yl p l f (m+1) i=yl p l f m (i+1):=if_neg (by omega)
   rw[hc]
   refine bS.step ?_ ih
   simp only[m7,eE,Int.ofNat_lt,hi,decide_true,cond_true,Int.natCast_nonneg,if_true,Int.toNat_natCast,cU hi,Option.bind_some,w5,show ¬(i:Int)<1 by omega,show ¬(70:Int)≤(i:Int)by omega,decide_false,cond_false]
   exact au.const _
  ·have hd:∀(X Y:Option (jB×Bool)),(bif decide ((i:Int)<1)then X else bif decide ((70:Int)≤(i:Int))then X else Y)=X:=fun X Y=>by
    by_cases h1:(i:Int)<1
    ·simp only[h1,decide_true,cond_true]
    ·simp only[h1,show(70:Int)≤(i:Int)by omega,decide_false,decide_true,cond_true,cond_false]
   cases hq:lB (km p i) (km l i)with
   |true=>
    have hc:yl p l f (m+1) i=yl p l f m (i+1):=if_neg fun h'=>h'.2 ((cS _ _).1 hq)
    rw[hc]
    refine bS.step ?_ ih
    simp only[m7,eE,Int.ofNat_lt,hi,decide_true,cond_true,Int.natCast_nonneg,if_true,Int.toNat_natCast,cU hi,Option.bind_some,w5,cU (show i<l.length by omega),hq,Bool.not_true,cond_false,hd]
    exact au.const _
   |false=>
    have hc:yl p l f (m+1) i=(KT,false):=if_pos ⟨by omega,fun e=>by rw[(cS _ _).2 e]at hq;cases hq⟩
    rw[hc]
    refine bS.stop ?_
    simp only[eE,Int.ofNat_lt,hi,decide_true,cond_true,Int.natCast_nonneg,if_true,Int.toNat_natCast,cU hi,Option.bind_some,w5,cU (show i<l.length by omega),hq,Bool.not_false,hd]
    exact au.const _
theorem VW(a b c:ByteArray):(⟨(L5 [a,b,c] ⟨#[]⟩).toArray⟩:ByteArray)=(a++b)++c:=by
 refine NS ?_
 rw[eo,eo]
 show L5 [a,b,c] ⟨#[]⟩=_
 simp[L5,Lib.join_cons,Lib.joinTail]
theorem TW(a b c:ByteArray)(h1:a.size≤2000000)(h2:b.size≤2000000)(h3:c.size≤2000000):Ev (fun k=>yh k ([a,b,c],(⟨#[]⟩:ByteArray))) ((a++b)++c):=by
 refine au.run (fun k=>K4 k _ _) ?_
 simp only[LR]
 refine au.bind (au.run (fun k=>Cj k _) ?_) (au.const _)
 have e:(L5 [a,b,c] ⟨#[]⟩).length=a.size+b.size+c.size:=by
  have:=congrArg ByteArray.size (VW a b c)
  rw[aM,aM]at this
  rw[←this,←Ap]
 simp only[eJ]
 rw[if_pos ⟨by simp,by rw[e];omega⟩,VW]
 exact au.const _
theorem three{l:List ByteArray}{a:Nat}(h:a+3≤l.length):(l.take (a+3)).drop a=[km l a,km l (a+1),km l (a+2)]:=by
 have e1:=cU (show a<l.length by omega)
 have e2:=cU (show a+1<l.length by omega)
 have e3:=cU (show a+2<l.length by omega)
 apply List.ext_getElem?
 intro i
 rw[List.getElem?_drop,List.getElem?_take]
 rcases i with _|_|_|i
 ·rw[if_pos (by omega)];simpa using e1
 ·rw[if_pos (by omega)];simpa using e2
 ·rw[if_pos (by omega)];simpa using e3
 ·rw[if_neg (by omega)];simp
end Go.Proofs.YtmmgfgfkkpeedaaGreat

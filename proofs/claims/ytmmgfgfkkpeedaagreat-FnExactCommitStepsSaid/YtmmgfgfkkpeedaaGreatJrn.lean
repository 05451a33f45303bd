/- The tables, the residual functions and lemmas of this seat: parts of the proof of the law; conditions: those that each names. -/
import Derived.Test.YtmmgfgfkkpeedaaGreatCkb
import Derived.Test.YtmmgfgfkkpeedaaGreatRed
import Derived.Test.YtmmgfgfkkpeedaaGreatGet
set_option linter.unusedVariables false
set_option linter.unusedSimpArgs false
set_option maxRecDepth 100000
namespace Go.Proofs.YtmmgfgfkkpeedaaGreat
open Go.Eng
theorem Xy{s:ByteArray}{a j:Nat}(hj:j≤4):br s a j<4294967296:=by
 have h1:=IS s a j
 have h2:256 ^ j≤256 ^ 4:=Nat.pow_le_pow_right (by omega) hj
 have h3:256 ^ 4=4294967296:=rfl
 omega
theorem mm(s:ByteArray)(a w:Nat)(h1:1≤w)(h2:w≤4)(h:a+w≤s.size)(hs:s.size≤1000000):Ev (fun k=>bg k (s,(a:Int),(w:Int))) ((br s a w:Int),true):=by
 have:=yc s a w h1 (by omega) (by omega) (by omega)
 rw[show bq s a w=((br s a w:Int),true)from if_pos h]at this;exact this
theorem mO(s:ByteArray)(a w:Nat)(h1:1≤w)(h2:w≤4)(h:a+w≤s.size)(hs:s.size≤1000000):Ev (fun k=>aU k (s,(a:Int),(w:Int))) ((br s a w:Int),true):=by
 have:=zq s a w h1 (by omega) (by omega) (by omega)
 rw[show bq s a w=((br s a w:Int),true)from if_pos h]at this;exact this
def Mm(l:List bt):Prop:=(∀(i:Nat) w,l[i]? =some w→0≤w.1∧w.1≤399)∧1≤l.length∧l.length≤64
theorem GD(l:List bt)(hl:l.length≤2000000):cA (fun k=>pN k l) (Mm l):=by
 refine cA.run (fun k=>Ju k l) (cA.of ?_)
 simp only[Je]
 refine aj.list (L:=fun k _=>ot k) l (fun(_:Unit) i=>(l,l,(l.length:Int),(i:Int))) (fun _ i=>∀(j:Nat) w,j<i→l[j]? =some w→0≤w.1∧w.1≤399) (fun _ i w hx hi inv=> ?_) (fun _ inv=> ?_) () (by simp)
 ·simp only[ot,Int.ofNat_lt,hi,decide_true,cond_true,Int.natCast_nonneg,if_true,Int.toNat_natCast,hx,Option.bind_some,iM (show i<_ by omega)]
  refine aj.bind (bH _ _ _) (aj.bif (fun h=>aj.const _ (GL.ret (GP.no fun hP=>by have:=hP.1 i w hx;simp at h;omega))) (fun h1=> ?_))
  simp at h1
  refine aj.const _ (GL.self () rfl fun j s' hj hs'=> ?_)
  by_cases e:j=i
  ·subst e;rw[hx]at hs';cases hs';exact h1
  ·exact inv j s' (by omega) hs'
 ·simp only[ot,Int.lt_irrefl,decide_false,cond_false]
  refine aj.bind (bH _ _ _) (aj.const _ (GE.ret (GP.ret ?_)))
  rw[decide_eq_true_eq]
  exact⟨fun h=>⟨fun i w h=>inv i w (List.getElem?_eq_some_iff.1 h).1 h,by omega,by omega⟩,fun h=>by have:=h.2;omega⟩
theorem Hi(l:List bt)(hl:l.length≤2000000):cA (fun k=>nS k l) (Mm l):=by
 refine cA.run (fun k=>HY k l) (cA.of ?_)
 simp only[G3]
 refine aj.list (L:=fun k _=>mY k) l (fun(_:Unit) i=>(l,l,(l.length:Int),(i:Int))) (fun _ i=>∀(j:Nat) w,j<i→l[j]? =some w→0≤w.1∧w.1≤399) (fun _ i w hx hi inv=> ?_) (fun _ inv=> ?_) () (by simp)
 ·simp only[mY,Int.ofNat_lt,hi,decide_true,cond_true,Int.natCast_nonneg,if_true,Int.toNat_natCast,hx,Option.bind_some,iM (show i<_ by omega)]
  refine aj.bif (fun h=>aj.const _ (GL.ret (GP.no fun hP=>by have:=hP.1 i w hx;simp at h;omega))) (fun h1=> ?_)
  refine aj.bif (fun h=>aj.const _ (GL.ret (GP.no fun hP=>by have:=hP.1 i w hx;simp at h;omega))) (fun h2=> ?_)
  simp at h1 h2
  refine aj.const _ (GL.self () rfl fun j s' hj hs'=> ?_)
  by_cases e:j=i
  ·subst e;rw[hx]at hs';cases hs';exact⟨h1,by omega⟩
  ·exact inv j s' (by omega) hs'
 ·simp only[mY,Int.lt_irrefl,decide_false,cond_false]
  refine aj.bif (fun h1=> ?_) (fun h=>aj.const _ (GE.ret (GP.no fun hP=>by have:=hP.2.1;simp at h;omega)))
  refine aj.const _ (GE.ret (GP.ret ?_))
  rw[decide_eq_true_eq]
  replace h1:=of_decide_eq_true h1
  exact⟨fun h=>⟨fun i w h=>inv i w (List.getElem?_eq_some_iff.1 h).1 h,by omega,by omega⟩,fun h=>by have:=h.2;omega⟩
def wy(l:List bt):Nat→ByteArray
 |0=>⟨#[]⟩
 |i+1=>match l[i]? with
  |some w=>(wy l i++cZ w.1 2)++w.2
  |none=>wy l i
theorem qn{l:List bt}(hz:∀(i:Nat) w,l[i]? =some w→w.2.size=32):∀i,(wy l i).size≤34*i
 |0=>Nat.zero_le _
 |i+1=>by
  have h:=qn hz i
  simp only[wy]
  cases hw:l[i]? with
  |none=>simp only;omega
  |some w=>
   have h1:=hz i w hw
   have h2:=aB w.1 2
   simp only[aM];omega
def Ld:ByteArray:=⟨#[74,82,78,76]⟩
def Rk(seq:Int)(l:List bt):ByteArray:=xE (((Ld++cZ seq 4)++cZ (l.length:Int) 2)++cZ (Tc (wy l l.length):Int) 4) 32
open Classical in
noncomputable def de(seq:Int)(l:List bt):ByteArray:=if(0≤seq∧seq≤1000000000)∧Mm l then Rk seq l else⟨#[]⟩
theorem VE:Ld.size=4:=rfl
theorem ze(seq:Int)(l:List bt)(hl:l.length≤200)(hz:∀(i:Nat) w,l[i]? =some w→w.2.size=32):Ev (fun k=>fR k (seq,l)) (de seq l):=by
 refine au.run (fun k=>xD k _ _) ?_
 simp only[sN]
 refine au.bind (bH _ _ _) ?_
 by_cases hq:0≤seq∧seq≤1000000000
 ·obtain⟨b,h1,h2⟩:=GD l (by omega)
  simp only[hq,and_self,decide_true,Bool.not_true,cond_false]
  refine au.bind h1 ?_
  cases b with
  |false=>
   have hn:¬Mm l:=fun h=>by have:=h2.2 h;cases this
   simp only[Bool.not_false,cond_true,de,hn,and_false,if_false];exact au.const _
  |true=>
   have hP:=h2.1 rfl
   simp only[Bool.not_true,cond_false,de,if_pos (And.intro hq hP)]
   refine Ev.eq ?_
   refine aj.list (L:=fun k _=>fu k) l (fun(st:ByteArray) i=>(seq,l,st,l,(l.length:Int),(i:Int))) (fun st i=>st=wy l i) (fun st i w hx hi inv=> ?_) (fun st inv=> ?_) _ rfl
   ·subst inv
    have hs:=qn hz i
    have hw:=hz i w hx
    have hp:=aB w.1 2
    simp only[fu,Int.ofNat_lt,hi,decide_true,cond_true,Int.natCast_nonneg,if_true,Int.toNat_natCast,hx,Option.bind_some,iM (show i<_ by omega)]
    refine aj.bind (aP w.1 2 (by omega) (by omega)) (aj.nA (by omega) (aj.nA (by rw[aM];omega) ?_))
    refine aj.const _ (GL.self _ rfl ?_)
    simp only[wy,hx]
   ·subst inv
    have hs:=qn hz l.length
    have p1:=aB seq 4
    have p2:=aB (l.length:Int) 2
    have p3:=aB (Tc (wy l l.length):Int) 4
    simp only[fu,Int.lt_irrefl,decide_false,cond_false]
    refine aj.bind (aP seq 4 (by omega) (by omega)) (aj.nA (by show Ld.size+_≤_;rw[VE];omega) ?_)
    refine aj.bind (aP (l.length:Int) 2 (by omega) (by omega)) (aj.nA (by show(Ld++_).size+_≤_;rw[aM,VE];omega) ?_)
    refine aj.bind (F7 _ (by omega)) (aj.bind (aP _ 4 (by omega) (by omega)) (aj.nA (by show((Ld++_)++_).size+_≤_;rw[aM,aM,VE];omega) ?_))
    refine aj.bind (ir _ 32 (by omega) (by show(((Ld++_)++_)++_).size≤_;rw[aM,aM,aM,VE];omega)) ?_
    exact aj.const _ (GE.ret (GR.ret rfl))
 ·simp only[hq,decide_false,Bool.not_false,cond_true,de,false_and,if_false];exact au.const _
theorem rp(seq:Int)(l:List bt)(hl:l.length≤200)(hz:∀(i:Nat) w,l[i]? =some w→w.2.size=32):Ev (fun k=>dm k (seq,l)) (de seq l):=by
 refine au.run (fun k=>xB k _ _) ?_
 simp only[sG]
 by_cases hq1:seq<0
 ·simp only[hq1,decide_true,cond_true,de,show ¬(0≤seq∧seq≤1000000000)by omega,false_and,if_false];exact au.const _
 by_cases hq2:(1000000000:Int)<seq
 ·simp only[hq1,hq2,decide_true,decide_false,cond_true,cond_false,de,show ¬(0≤seq∧seq≤1000000000)by omega,false_and,if_false];exact au.const _
 have hq:0≤seq∧seq≤1000000000:=by omega
 obtain⟨b,h1,h2⟩:=Hi l (by omega)
 simp only[hq1,hq2,decide_false,cond_false]
 refine au.bind h1 ?_
 cases b with
 |false=>
  have hn:¬Mm l:=fun h=>by have:=h2.2 h;cases this
  simp only[Bool.not_false,cond_true,de,hn,and_false,if_false];exact au.const _
 |true=>
  have hP:=h2.1 rfl
  simp only[Bool.not_true,cond_false,de,if_pos (And.intro hq hP)]
  refine Ev.eq ?_
  refine aj.list (L:=fun k _=>fm k) l (fun(st:ByteArray) i=>(seq,l,st,l,(l.length:Int),(i:Int))) (fun st i=>st=wy l i) (fun st i w hx hi inv=> ?_) (fun st inv=> ?_) _ rfl
  ·subst inv
   have hs:=qn hz i
   have hw:=hz i w hx
   have hp:=aB w.1 2
   simp only[fm,Int.ofNat_lt,hi,decide_true,cond_true,Int.natCast_nonneg,if_true,Int.toNat_natCast,hx,Option.bind_some,iM (show i<_ by omega)]
   refine aj.bind (aQ w.1 2 (by omega) (by omega)) (aj.nA (by omega) (aj.nA (by rw[aM];omega) ?_))
   refine aj.const _ (GL.self _ rfl ?_)
   simp only[wy,hx,Gu]
  ·subst inv
   have hs:=qn hz l.length
   have p1:=aB seq 4
   have p2:=aB (l.length:Int) 2
   have p3:=aB (Tc (wy l l.length):Int) 4
   simp only[fm,Int.lt_irrefl,decide_false,cond_false]
   refine aj.bind (aQ seq 4 (by omega) (by omega)) (aj.nA (by show Ld.size+_≤_;rw[VE];omega) ?_)
   refine aj.bind (aQ (l.length:Int) 2 (by omega) (by omega)) (aj.nA (by show(Ld++_).size+_≤_;rw[aM,VE];omega) ?_)
   refine aj.bind (Ff _ (by omega)) (aj.bind (aQ _ 4 (by omega) (by omega)) (aj.nA (by show((Ld++_)++_).size+_≤_;rw[aM,aM,VE];omega) ?_))
   refine aj.bind (ky _ 32 (by omega) (by show(((Ld++_)++_)++_).size≤_;rw[aM,aM,aM,VE];omega)) ?_
   exact aj.const _ (GE.ret (GR.ret rfl))
theorem vD(d:cO)(h:mj d)(i:Nat)(hi:i<d.1.length):Ev (fun k=>jb k (d,(i:Int))) (xH d i):=by
 have n2:=h.n2
 refine au.run (fun k=>F0 k _ _) ?_
 have w1:aa .i64 ((d.2.length:Int)-1)=(d.2.length:Int)-1-(0:Nat):=by rw[aR (by omega) (by omega)];omega
 simp only[C9,w1]
 refine Ev.eq ?_
 refine aj.upto (L:=fun k _=>kI k) d.2.length (fun(_:Unit) j=>((i:Int),(),(d.2.length:Int)-1-(j:Nat),d)) (fun _ j=>xH d i=jv d i (d.2.length-j)) (fun _ j hj inv=> ?_) (fun _ inv=> ?_) () 0 (Nat.zero_le _) rfl
 ·have e:(d.2.length:Int)-1-(j:Nat)=((d.2.length-1-j:Nat):Int):=by omega
  obtain⟨w,hw⟩:∃w,d.2[d.2.length-1-j]? =some w:=⟨_,List.getElem?_eq_getElem (show d.2.length-1-j<d.2.length by omega)⟩
  have hr:jv d i (d.2.length-j)=if w.1=(i:Int)then w.2 else jv d i (d.2.length-(j+1)):=by
   have:d.2.length-j=(d.2.length-1-j)+1:=by omega
   rw[this]
   simp only[jv,hw]
   have:d.2.length-1-j=d.2.length-(j+1):=by omega
   rw[this]
  have w2:aa .i64 (((d.2.length-1-j:Nat):Int)-1)=(d.2.length:Int)-1-((j+1:Nat):Int):=by rw[aR (by omega) (by omega)];omega
  simp only[kI,e,Int.natCast_nonneg,decide_true,cond_true,if_true,Int.toNat_natCast,hw,Option.bind_some,w2]
  refine aj.bif (fun h1=> ?_) (fun h1=> ?_)
  ·have h1:w.1=(i:Int):=by simpa using h1
   refine aj.const _ (GL.ret (GR.ret ?_))
   rw[inv,hr,if_pos h1]
  ·have h1:¬w.1=(i:Int):=by simpa using h1
   refine aj.const _ (GL.self () rfl ?_)
   rw[inv,hr,if_neg h1]
 ·have hx:d.1[i]? =some d.1[i]:=List.getElem?_eq_getElem hi
  have e:¬(0:Int)≤(d.2.length:Int)-1-(d.2.length:Nat):=by omega
  simp only[kI,e,decide_false,cond_false,Int.natCast_nonneg,if_true,Int.toNat_natCast,hx,Option.bind_some]
  refine aj.const _ (GE.ret (GR.ret ?_))
  rw[inv,Nat.sub_self]
  simp only[jv,List.getD,hx,Option.getD_some]
def WK(d:cO)(l:List bt)(i:Nat)(w:bt):Prop:=(0≤w.1∧w.1<(d.1.length:Int))∧(w.1<1∨70≤w.1)∧w.2.size=32∧∀p,0<i→l[i-1]? =some p→p.1<w.1
structure Ws (d:cO) (l:List bt):Prop where
 dk:mj d
 m6:70≤d.1.length
 n1:1≤l.length
 n2:l.length≤64
 tw:∀(i:Nat) w,l[i]? =some w→WK d l i w
theorem Nc(d:cO)(hs:It d)(l:List bt)(hl:l.length≤2000000):cA (fun k=>vz k (d,l)) (Ws d l):=by
 refine cA.run (fun k=>KF k d l) (cA.of ?_)
 simp only[Jy]
 refine aj.pX (ik d hs) fun b hb=>aj.bif (fun h=>aj.const _ (GP.no fun hP=>by have:=hb.2 hP.dk;rw[this]at h;cases h)) (fun h0=> ?_)
 have hD:=hb.1 (by simpa using h0)
 have hn1:=hD.n1
 refine aj.bif (fun h=>aj.const _ (GP.no fun hP=>by have:=hP.m6;simp at h;omega)) (fun h1=> ?_)
 refine aj.bind (bH _ _ _) (aj.bif (fun h=>aj.const _ (GP.no fun hP=>by have:=hP.n1;have:=hP.n2;simp at h;omega)) (fun h2=> ?_))
 simp at h1 h2
 refine aj.list (L:=fun k _=>om k) l (fun(_:Unit) i=>(l,(),l,(l.length:Int),(i:Int),d)) (fun _ i=>∀(j:Nat) w,j<i→l[j]? =some w→WK d l j w) (fun _ i w hx hi inv=> ?_) (fun _ inv=> ?_) () (by simp)
 ·have w1:aa .i64 ((d.1.length:Int)-1)=(d.1.length:Int)-1:=aR (by omega) (by omega)
  have next:WK d l i w→∀(j:Nat) w,j<i+1→l[j]? =some w→WK d l j w:=fun ho j w' hj hw'=>by
   by_cases e:j=i
   ·subst e;rw[hx]at hw';cases hw';exact ho
   ·exact inv j w' (by omega) hw'
  simp only[om,Int.ofNat_lt,hi,decide_true,cond_true,Int.natCast_nonneg,if_true,Int.toNat_natCast,hx,Option.bind_some,iM (show i<_ by omega),w1]
  refine aj.bind (bH _ _ _) (aj.bif (fun h=>aj.const _ (GL.ret (GP.no fun hP=>by have:=(hP.tw i w hx).1;simp at h;omega))) (fun h3=> ?_))
  refine aj.bind (bH _ _ _) (aj.bif (fun h=>aj.const _ (GL.ret (GP.no fun hP=>by have:=(hP.tw i w hx).2.1;simp at h;omega))) (fun h4=> ?_))
  refine aj.bif (fun h=>aj.const _ (GL.ret (GP.no fun hP=>by have:=(hP.tw i w hx).2.2.1;simp at h;omega))) (fun h5=> ?_)
  simp at h3 h4 h5
  refine aj.bif (fun h6=> ?_) (fun h6=> ?_)
  ·replace h6:=of_decide_eq_true h6
   have hw2:aa .i64 ((i:Int)-1)=((i-1:Nat):Int):=by rw[aR (by omega) (by omega)];omega
   obtain⟨p,hp⟩:∃p,l[i-1]? =some p:=⟨_,List.getElem?_eq_getElem (show i-1<l.length by omega)⟩
   simp only[hw2,Int.natCast_nonneg,if_true,Int.toNat_natCast,hp,Option.bind_some]
   refine aj.bif (fun h=>aj.const _ (GL.ret (GP.no fun hP=>by have:=(hP.tw i w hx).2.2.2 p (by omega) hp;simp at h;omega))) (fun h7=> ?_)
   simp at h7
   exact aj.const _ (GL.self () rfl (next ⟨⟨h3.1,by omega⟩,by omega,by omega,fun p' _ hp'=>by rw[hp]at hp';cases hp';exact h7⟩))
  ·replace h6:=of_decide_eq_false h6
   exact aj.const _ (GL.self () rfl (next ⟨⟨h3.1,by omega⟩,by omega,by omega,fun p' h0 _=>by omega⟩))
 ·simp only[om,Int.lt_irrefl,decide_false,cond_false]
  exact aj.const _ (GE.ret (GP.yes ⟨hD,by omega,by omega,by omega,fun i w h=>inv i w (List.getElem?_eq_some_iff.1 h).1 h⟩))
theorem MP(d:cO)(hs:It d)(l:List bt)(hl:l.length≤2000000):cA (fun k=>vP k (d,l)) (Ws d l):=by
 refine cA.run (fun k=>JC k d l) (cA.of ?_)
 simp only[Jz]
 refine aj.pX (ie d hs) fun b hb=>aj.bif (fun h=>aj.const _ (GP.no fun hP=>by have:=hb.2 hP.dk;rw[this]at h;cases h)) (fun h0=> ?_)
 have hD:=hb.1 (by simpa using h0)
 have hn1:=hD.n1
 refine aj.bif (fun h=>aj.const _ (GP.no fun hP=>by have:=hP.m6;simp at h;omega)) (fun h1=> ?_)
 refine aj.bif (fun h=>aj.const _ (GP.no fun hP=>by have:=hP.n1;replace h:=of_decide_eq_true h;omega)) (fun h2=> ?_)
 refine aj.bif (fun h=>aj.const _ (GP.no fun hP=>by have:=hP.n2;replace h:=of_decide_eq_true h;omega)) (fun h2'=> ?_)
 replace h1:=of_decide_eq_false h1
 replace h2:=of_decide_eq_false h2
 replace h2':=of_decide_eq_false h2'
 refine aj.list (L:=fun k _=>od k) l (fun(_:Unit) i=>(l,(),l,(l.length:Int),(i:Int),d)) (fun _ i=>∀(j:Nat) w,j<i→l[j]? =some w→WK d l j w) (fun _ i w hx hi inv=> ?_) (fun _ inv=> ?_) () (by simp)
 ·have next:WK d l i w→∀(j:Nat) w,j<i+1→l[j]? =some w→WK d l j w:=fun ho j w' hj hw'=>by
   by_cases e:j=i
   ·subst e;rw[hx]at hw';cases hw';exact ho
   ·exact inv j w' (by omega) hw'
  simp only[od,Int.ofNat_lt,hi,decide_true,cond_true,Int.natCast_nonneg,if_true,Int.toNat_natCast,hx,Option.bind_some,iM (show i<_ by omega)]
  refine aj.bif (fun h=>aj.const _ (GL.ret (GP.no fun hP=>by have:=(hP.tw i w hx).1;simp at h;omega))) (fun h3=> ?_)
  refine aj.bif (fun h=>aj.const _ (GL.ret (GP.no fun hP=>by have:=(hP.tw i w hx).1;simp at h;omega))) (fun h3'=> ?_)
  simp at h3 h3'
  refine aj.bif (fun h4=> ?_) (fun h4=> ?_)
  ·refine aj.bif (fun h=>aj.const _ (GL.ret (GP.no fun hP=>by have:=(hP.tw i w hx).2.1;simp at h h4;omega))) (fun h4'=> ?_)
   simp at h4 h4'
   refine aj.bif (fun h=>aj.const _ (GL.ret (GP.no fun hP=>by have:=(hP.tw i w hx).2.2.1;simp at h;omega))) (fun h5=> ?_)
   simp at h5
   refine aj.bif (fun h6=> ?_) (fun h6=> ?_)
   ·replace h6:=of_decide_eq_true h6
    have hw2:aa .i64 ((i:Int)-1)=((i-1:Nat):Int):=by rw[aR (by omega) (by omega)];omega
    obtain⟨p,hp⟩:∃p,l[i-1]? =some p:=⟨_,List.getElem?_eq_getElem (show i-1<l.length by omega)⟩
    simp only[hw2,Int.natCast_nonneg,if_true,Int.toNat_natCast,hp,Option.bind_some]
    refine aj.bif (fun h=>aj.const _ (GL.ret (GP.no fun hP=>by have:=(hP.tw i w hx).2.2.2 p (by omega) hp;simp at h;omega))) (fun h7=> ?_)
    simp at h7
    exact aj.const _ (GL.self () rfl (next ⟨⟨h3,by omega⟩,by omega,by omega,fun p' _ hp'=>by rw[hp]at hp';cases hp';exact h7⟩))
   ·replace h6:=of_decide_eq_false h6
    exact aj.const _ (GL.self () rfl (next ⟨⟨h3,by omega⟩,by omega,by omega,fun p' h0 _=>by omega⟩))
  ·simp at h4
   refine aj.bif (fun h=>aj.const _ (GL.ret (GP.no fun hP=>by have:=(hP.tw i w hx).2.2.1;simp at h;omega))) (fun h5=> ?_)
   simp at h5
   refine aj.bif (fun h6=> ?_) (fun h6=> ?_)
   ·replace h6:=of_decide_eq_true h6
    have hw2:aa .i64 ((i:Int)-1)=((i-1:Nat):Int):=by rw[aR (by omega) (by omega)];omega
    obtain⟨p,hp⟩:∃p,l[i-1]? =some p:=⟨_,List.getElem?_eq_getElem (show i-1<l.length by omega)⟩
    simp only[hw2,Int.natCast_nonneg,if_true,Int.toNat_natCast,hp,Option.bind_some]
    refine aj.bif (fun h=>aj.const _ (GL.ret (GP.no fun hP=>by have:=(hP.tw i w hx).2.2.2 p (by omega) hp;simp at h;omega))) (fun h7=> ?_)
    simp at h7
    exact aj.const _ (GL.self () rfl (next ⟨⟨h3,by omega⟩,by omega,by omega,fun p' _ hp'=>by rw[hp]at hp';cases hp';exact h7⟩))
   ·replace h6:=of_decide_eq_false h6
    exact aj.const _ (GL.self () rfl (next ⟨⟨h3,by omega⟩,by omega,by omega,fun p' h0 _=>by omega⟩))
 ·simp only[od,Int.lt_irrefl,decide_false,cond_false]
  exact aj.const _ (GE.ret (GP.yes ⟨hD,by omega,by omega,by omega,fun i w h=>inv i w (List.getElem?_eq_some_iff.1 h).1 h⟩))
def jT(d:cO):Nat→List bt
 |0=>[]
 |i+1=>jT d i++[(((br (xH d (2+i / 16)) (2*(i % 16)) 2:Nat):Int),xH d (6+i))]
theorem KL(d:cO):∀i,(jT d i).length=i
 |0=>rfl
 |i+1=>by simp[jT,KL d i]
theorem NG{d:cO}(h:mj d)(hb:70≤d.1.length):∀i,i≤64→∀(j:Nat) w,(jT d i)[j]? =some w→w.2.size=32
 |0,_,j,w,hw=>by simp[jT]at hw
 |i+1,hi,j,w,hw=>by
  simp only[jT,List.getElem?_append]at hw
  split at hw
  ·exact NG h hb i (by omega) j w hw
  ·have:=(List.getElem?_eq_some_iff.1 hw).1
   simp at this
   rw[this]at hw
   simp at hw
   subst hw
   exact fC h (by omega) _
def ki(d:cO):ByteArray:=xH d 1
def MO(d:cO):Nat:=br (ki d) 4 4
def jN(d:cO):Nat:=br (ki d) 8 2
def Xf(d:cO):Prop:=mj d∧70≤d.1.length∧1≤jN d∧jN d≤64∧Ws d (jT d (jN d))∧de (MO d) (jT d (jN d))=ki d
open Classical in
noncomputable def jR(d:cO):Int×List bt×Bool:=if Xf d then((MO d:Int),jT d (jN d),true)else(0,[],false)
theorem VZ{d:cO}(h:¬Xf d):jR d=(0,[],false):=if_neg h
theorem TY{d:cO}(h:Xf d):jR d=((MO d:Int),jT d (jN d),true):=if_pos h
theorem IK{a b:ByteArray}:(!(lB a b))=true↔a≠b:=by
 cases h:lB a b with
 |true=>simp[(cS a b).1 h]
 |false=>
  simp
  intro e
  rw[(cS a b).2 e]at h;cases h
theorem V3{i:Nat}(h:i<64):aa .i64 ((2:Int)+aa .i64 ((i:Int).tdiv 16))=((2+i / 16:Nat):Int)∧aa .i64 ((2:Int)*((i:Int).tmod 16))=((2*(i % 16):Nat):Int)∧aa .i64 ((6:Int)+(i:Int))=((6+i:Nat):Int):=by
 have e1:(i:Int).tdiv 16=((i / 16:Nat):Int):=by rw[Int.tdiv_eq_ediv_of_nonneg (by omega)];omega
 have e2:(i:Int).tmod 16=((i % 16:Nat):Int):=by rw[Int.tmod_eq_emod_of_nonneg (by omega)];omega
 rw[e1,e2,CO (by omega),aR (by omega) (by omega),aR (by omega) (by omega),aR (by omega) (by omega)]
 omega
theorem QC(d:cO)(hs:It d):Ev (fun k=>lq k d) (jR d):=by
 refine au.run (fun k=>zO k d) (Ev.eq ?_)
 simp only[tN]
 have no:∀{S:Type},¬Xf d→GR (S:=S) (fun x=>x=jR d) fun _=>some ((0:Int),([]:List bt),false):=fun h=>GR.ret (VZ h).symm
 refine aj.pX (ik d hs) fun b hb=>aj.bif (fun h=>aj.const _ (no fun hP=>by have:=hb.2 hP.1;rw[this]at h;cases h)) (fun h0=> ?_)
 have hD:=hb.1 (by simpa using h0)
 have hn1:=hD.n1
 refine aj.bif (fun h=>aj.const _ (no fun hP=>by have:=hP.2.1;simp at h;omega)) (fun h1=> ?_)
 replace h1:=of_decide_eq_false h1
 have h70:70≤d.1.length:=by omega
 have hsz:(ki d).size=32:=fC hD (by omega) _
 refine aj.bind (vD d hD 1 (by omega)) (aj.bind (mm (ki d) 4 4 (by omega) (by omega) (by omega) (by omega)) (aj.bind (mm (ki d) 8 2 (by omega) (by omega) (by omega) (by omega)) ?_))
 refine aj.bind (bH _ _ _) (aj.bif (fun h=>aj.const _ (no fun hP=> ?_)) (fun h2=> ?_))
 ·have k1:1≤br (ki d) 8 2:=hP.2.2.1
  have k2:br (ki d) 8 2≤64:=hP.2.2.2.1
  simp only[Bool.not_eq_true',decide_eq_false_iff_not]at h
  omega
 have h2:(1:Int)≤(br (ki d) 8 2:Nat)∧((br (ki d) 8 2:Nat):Int)≤64:=by simpa using h2
 have hn:jN d=br (ki d) 8 2:=rfl
 refine aj.upto (L:=fun k _=>fP k) (jN d) (fun(st:List bt) i=>((),ki d,(MO d:Int),(jN d:Int),st,((i:Nat):Int),d)) (fun st i=>st=jT d i) (fun st i hi inv=> ?_) (fun st inv=> ?_) _ 0 (Nat.zero_le _) rfl
 ·subst inv
  obtain⟨e1,e2,e3⟩:=V3 (show i<64 by omega)
  have hl:=KL d i
  simp only[fP,Int.ofNat_lt,hi,decide_true,cond_true,ne_eq,show ¬((16:Int)=0)by decide,not_false_eq_true,if_true,e1,e2,e3,iM (show i<_ by omega)]
  refine aj.bind (vD d hD _ (by omega)) (aj.bind (mm _ _ 2 (by omega) (by omega) (by have:=fC hD (show 2+i / 16<d.1.length by omega) d.2.length;show _≤(jv d (2+i / 16) d.2.length).size;omega) (by have:=fC hD (show 2+i / 16<d.1.length by omega) d.2.length;show(jv d (2+i / 16) d.2.length).size≤_;omega)) ?_)
  refine aj.bind (vD d hD _ (by omega)) (aj.nA (by rw[hl];simp only[List.length_singleton,af];omega) ?_)
  exact aj.const _ (GL.self _ rfl rfl)
 ·subst inv
  have hl:=KL d (jN d)
  have hz:=NG hD h70 (jN d) (by omega)
  simp only[fP,Int.lt_irrefl,decide_false,cond_false]
  refine aj.pX (Nc d hs _ (by omega)) fun b hb=>aj.bif (fun h=>aj.const _ (GE.ret (no fun hP=>by have:=hb.2 hP.2.2.2.2.1;rw[this]at h;cases h))) (fun h3=> ?_)
  have hT:=hb.1 (by simpa using h3)
  refine aj.bind (ze _ _ (by omega) hz) (aj.bif (fun h=>aj.const _ (GE.ret (no fun hP=>(IK.1 h) hP.2.2.2.2.2))) (fun h4=> ?_))
  have h4:de (MO d) (jT d (jN d))=ki d:=by
   by_cases e:de (MO d) (jT d (jN d))=ki d
   ·exact e
   ·rw[IK.2 e]at h4;cases h4
  exact aj.const _ (GE.ret (GR.ret (TY ⟨hD,h70,by omega,by omega,hT,h4⟩).symm))
theorem QW(d:cO)(hs:It d):Ev (fun k=>ll k d) (jR d):=by
 refine au.run (fun k=>zu k d) (Ev.eq ?_)
 simp only[ui]
 have no:∀{S:Type},¬Xf d→GR (S:=S) (fun x=>x=jR d) fun _=>some ((0:Int),([]:List bt),false):=fun h=>GR.ret (VZ h).symm
 refine aj.pX (ie d hs) fun b hb=>aj.bif (fun h=>aj.const _ (no fun hP=>by have:=hb.2 hP.1;rw[this]at h;cases h)) (fun h0=> ?_)
 have hD:=hb.1 (by simpa using h0)
 have hn1:=hD.n1
 refine aj.bif (fun h=>aj.const _ (no fun hP=>by have:=hP.2.1;simp at h;omega)) (fun h1=> ?_)
 replace h1:=of_decide_eq_false h1
 have h70:70≤d.1.length:=by omega
 have hsz:(ki d).size=32:=fC hD (by omega) _
 refine aj.bind (pT d hD 1 (by omega)) (aj.bind (mO (ki d) 4 4 (by omega) (by omega) (by omega) (by omega)) (aj.bind (mO (ki d) 8 2 (by omega) (by omega) (by omega) (by omega)) ?_))
 refine aj.bif (fun h=>aj.const _ (no fun hP=> ?_)) (fun h2=> ?_)
 ·have k2:br (ki d) 8 2≤64:=hP.2.2.2.1
  replace h:=of_decide_eq_true h
  omega
 replace h2:=of_decide_eq_false h2
 have hn:jN d=br (ki d) 8 2:=rfl
 refine aj.upto (L:=fun k _=>fS k) (jN d) (fun(st:List bt) i=>((),ki d,(MO d:Int),st,(jN d:Int),((i:Nat):Int),d)) (fun st i=>st=jT d i) (fun st i hi inv=> ?_) (fun st inv=> ?_) _ 0 (Nat.zero_le _) rfl
 ·subst inv
  obtain⟨e1,e2,e3⟩:=V3 (show i<64 by omega)
  have hl:=KL d i
  simp only[fS,Int.ofNat_lt,hi,decide_true,cond_true,ne_eq,show ¬((16:Int)=0)by decide,not_false_eq_true,if_true,e1,e2,e3,iM (show i<_ by omega)]
  refine aj.bind (pT d hD _ (by omega)) (aj.bind (mO _ _ 2 (by omega) (by omega) (by have:=fC hD (show 2+i / 16<d.1.length by omega) d.2.length;show _≤(jv d (2+i / 16) d.2.length).size;omega) (by have:=fC hD (show 2+i / 16<d.1.length by omega) d.2.length;show(jv d (2+i / 16) d.2.length).size≤_;omega)) ?_)
  refine aj.bind (pT d hD _ (by omega)) (aj.nA (by rw[hl];simp only[List.length_singleton,af];omega) ?_)
  exact aj.const _ (GL.self _ rfl rfl)
 ·subst inv
  have hl:=KL d (jN d)
  have hz:=NG hD h70 (jN d) (by omega)
  simp only[fS,Int.lt_irrefl,decide_false,cond_false]
  refine aj.bind (rp _ _ (by omega) hz) (aj.bif (fun h=>aj.const _ (GE.ret (no fun hP=>(IK.1 h) hP.2.2.2.2.2))) (fun h4=> ?_))
  have h4:de (MO d) (jT d (jN d))=ki d:=by
   by_cases e:de (MO d) (jT d (jN d))=ki d
   ·exact e
   ·rw[IK.2 e]at h4;cases h4
  refine aj.pX (MP d hs _ (by omega)) fun b hb=>aj.bif (fun h=>aj.const _ (GE.ret (no fun hP=>by have:=hb.2 hP.2.2.2.2.1;rw[this]at h;cases h))) (fun h3=> ?_)
  have hT:=hb.1 (by simpa using h3)
  have n1:=hT.n1
  have n2:=hT.n2
  exact aj.const _ (GE.ret (GR.ret (TY ⟨hD,h70,by omega,by omega,hT,h4⟩).symm))
end Go.Proofs.YtmmgfgfkkpeedaaGreat

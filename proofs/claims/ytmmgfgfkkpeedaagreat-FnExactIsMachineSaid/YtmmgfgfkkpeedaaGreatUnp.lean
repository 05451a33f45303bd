/- The tables, the residual functions and lemmas of this seat: parts of the proof of the law; conditions: those that each names. -/
import Derived.Test.YtmmgfgfkkpeedaaGreatDcj
set_option linter.unusedVariables false
set_option linter.unusedSimpArgs false
set_option maxRecDepth 100000
namespace Go.Proofs.YtmmgfgfkkpeedaaGreat
open Go.Eng
def atB(l:List ByteArray)(i:Nat):ByteArray:=(l[i]?).getD ⟨#[]⟩
theorem atB_get{l:List ByteArray}{i:Nat}(h:i<l.length):l[i]? =some (atB l i):=by
 rw[atB,List.getElem?_eq_getElem h];rfl
def qR(l:List ByteArray)(i:Nat):(Int×Bool)×(Int×Bool):=(getR (atB l 0) (8+2*i) 1,getR (atB l 0) (9+2*i) 1)
def qL(l:List ByteArray):Nat→List (Int×Int)
 |0=>[]
 |i+1=>qL l i++[((qR l i).1.1,(qR l i).2.1)]
def okQ(l:List ByteArray):Nat→Bool
 |0=>(getR (atB l 0) 4 4).2
 |i+1=>bif okQ l i then(bif (qR l i).1.2 then(qR l i).2.2 else false)else false
def sI(l:List ByteArray)(i:Nat):ByteArray:=(atB l (70+3*i)++atB l (71+3*i))++atB l (72+3*i)
noncomputable def iL(l:List ByteArray):Nat→List PInode
 |0=>[]
 |i+1=>iL l i++[(decI (sI l i)).1]
noncomputable def okI(l:List ByteArray):Nat→Bool
 |0=>okQ l 4
 |i+1=>bif okI l i then(decI (sI l i)).2 else false
theorem qL_len(l:List ByteArray):∀i,(qL l i).length=i
 |0=>rfl
 |i+1=>by rw[qL,List.length_append,qL_len l i];rfl
theorem iL_len(l:List ByteArray):∀i,(iL l i).length=i
 |0=>rfl
 |i+1=>by rw[iL,List.length_append,iL_len l i];rfl
theorem okI_mono{l:List ByteArray}{i:Nat}(h:okI l i=false):∀j,okI l (i+j)=false
 |0=>h
 |j+1=>by
  show okI l (i+j+1)=false
  rw[okI,okI_mono h j];rfl
noncomputable def fOf(l:List ByteArray):PFS:=((getR (atB l 0) 4 4).1,qL l 4,iL l 20,l.drop 130)
def zFS:PFS:=(0,[],[],[])
open Classical in
noncomputable def cmpV(p l:List ByteArray)(f:PFS):Nat→Nat→PFS×Bool
 |0,_=>(f,true)
 |m+1,i=>if(i<1∨70≤i)∧atB p i≠atB l i then(zFS,false)else cmpV p l f m (i+1)
open Classical in
noncomputable def endV(l:List ByteArray)(ok:Bool)(f:PFS):PFS×Bool:=if ok=true∧fsP f then cmpV (packV f) l f (packV f).length 0 else(zFS,false)
noncomputable def unpV(l:List ByteArray):PFS×Bool:=if l.length=186 then endV l (okI l 20) (fOf l)else(zFS,false)
theorem decI_small(s:ByteArray):inoSmall (decI s).1:=by
 unfold decI
 split
 ·exact ino_small s
 ·exact⟨by show 0<big;unfold big;omega,by show 0<big;unfold big;omega,by show 0<big;unfold big;omega⟩
theorem iL_mem{l:List ByteArray}{n:PInode}:∀{i:Nat},n∈iL l i→∃s,n=(decI s).1
 |0,h=>by cases h
 |i+1,h=>by
  rcases List.mem_append.1 h with h|h
  ·exact iL_mem h
  ·exact⟨sI l i,by simpa using h⟩
theorem fOf_small(l:List ByteArray):fsSmall (fOf l):=fun n hn=>by
 obtain⟨s,rfl⟩:=iL_mem (show n∈iL l 20 from hn)
 exact decI_small s
theorem cmp_spec{p l:List ByteArray}{f z:PFS}(hp:p.length≤186)(hl:l.length=186):∀(m i:Nat),i+m=p.length→
  EvL spec_UnpackFS_l1 (l,(),(),p,(p.length:Int),(i:Int),f,z) (cmpV p l f m i)
 |0,i,h=>by
  refine EvL.stop ?_
  simp only[spec_UnpackFS_l1,show ¬(i:Int)<(p.length:Int)by omega,decide_false,cond_false]
  exact EvQ.const _
 |m+1,i,h=>by
  have hi:i<p.length:=by omega
  have w5:wrapK .i64 ((i:Int)+1)=((i+1:Nat):Int):=by rw[i64w (by omega) (by omega)];omega
  have ih:=cmp_spec (f:=f) (z:=z) hp hl m (i+1) (by omega)
  by_cases hj:1≤i∧i≤69
  ·have hc:cmpV p l f (m+1) i=cmpV p l f m (i+1):=if_neg (by omega)
   rw[hc]
   refine EvL.step ?_ ih
   simp only[EvS,spec_UnpackFS_l1,Int.ofNat_lt,hi,decide_true,cond_true,Int.natCast_nonneg,if_true,Int.toNat_natCast,atB_get hi,Option.bind_some,w5]
   refine EvQ.bindS (l01In_ev _ _ _) ?_
   rw[show decide ((1:Int)≤(i:Int)∧(i:Int)≤69)=true by simp;omega]
   simp only[Bool.not_true,cond_false]
   exact EvQ.const _
  ·have hd:decide ((1:Int)≤(i:Int)∧(i:Int)≤69)=false:=decide_eq_false (by omega)
   cases hq:eqS (atB p i) (atB l i)with
   |true=>
    have hc:cmpV p l f (m+1) i=cmpV p l f m (i+1):=if_neg fun h'=>h'.2 ((eqS_iff _ _).1 hq)
    rw[hc]
    refine EvL.step ?_ ih
    simp only[EvS,spec_UnpackFS_l1,Int.ofNat_lt,hi,decide_true,cond_true,Int.natCast_nonneg,if_true,Int.toNat_natCast,atB_get hi,Option.bind_some,w5]
    refine EvQ.bindS (l01In_ev _ _ _) ?_
    simp only[hd,Bool.not_false,cond_true,atB_get (show i<l.length by omega),Option.bind_some,hq,Bool.not_true,cond_false]
    exact EvQ.const _
   |false=>
    have hc:cmpV p l f (m+1) i=(zFS,false):=if_pos ⟨by omega,fun e=>by rw[(eqS_iff _ _).2 e]at hq;cases hq⟩
    rw[hc]
    refine EvL.stop ?_
    simp only[spec_UnpackFS_l1,Int.ofNat_lt,hi,decide_true,cond_true,Int.natCast_nonneg,if_true,Int.toNat_natCast,atB_get hi,Option.bind_some,w5]
    refine EvQ.bindS (l01In_ev _ _ _) ?_
    simp only[hd,Bool.not_false,cond_true,atB_get (show i<l.length by omega),Option.bind_some,hq]
    exact EvQ.const _
theorem cmp_impl{p l:List ByteArray}{f z:PFS}(hp:p.length≤186)(hl:l.length=186):∀(m i:Nat),i+m=p.length→
  EvL impl_UnpackFS_l1 (l,(),(),p,(p.length:Int),(i:Int),f,z) (cmpV p l f m i)
 |0,i,h=>by
  refine EvL.stop ?_
  simp only[impl_UnpackFS_l1,show ¬(i:Int)<(p.length:Int)by omega,decide_false,cond_false]
  exact EvQ.const _
 |m+1,i,h=>by
  have hi:i<p.length:=by omega
  have w5:wrapK .i64 ((i:Int)+1)=((i+1:Nat):Int):=by rw[i64w (by omega) (by omega)];omega
  have ih:=cmp_impl (f:=f) (z:=z) hp hl m (i+1) (by omega)
  by_cases hj:1≤i∧i≤69
  ·have hc:cmpV p l f (m+1) i=cmpV p l f m (i+1):=if_neg (by omega)
   rw[hc]
   refine EvL.step ?_ ih
   simp only[EvS,impl_UnpackFS_l1,Int.ofNat_lt,hi,decide_true,cond_true,Int.natCast_nonneg,if_true,Int.toNat_natCast,atB_get hi,Option.bind_some,w5,show ¬(i:Int)<1 by omega,show ¬(70:Int)≤(i:Int)by omega,decide_false,cond_false]
   exact EvQ.const _
  ·have hd:∀(X Y:Option (PFS×Bool)),(bif decide ((i:Int)<1)then X else bif decide ((70:Int)≤(i:Int))then X else Y)=X:=fun X Y=>by
    by_cases h1:(i:Int)<1
    ·simp only[h1,decide_true,cond_true]
    ·simp only[h1,show(70:Int)≤(i:Int)by omega,decide_false,decide_true,cond_true,cond_false]
   cases hq:eqS (atB p i) (atB l i)with
   |true=>
    have hc:cmpV p l f (m+1) i=cmpV p l f m (i+1):=if_neg fun h'=>h'.2 ((eqS_iff _ _).1 hq)
    rw[hc]
    refine EvL.step ?_ ih
    simp only[EvS,impl_UnpackFS_l1,Int.ofNat_lt,hi,decide_true,cond_true,Int.natCast_nonneg,if_true,Int.toNat_natCast,atB_get hi,Option.bind_some,w5,atB_get (show i<l.length by omega),hq,Bool.not_true,cond_false,hd]
    exact EvQ.const _
   |false=>
    have hc:cmpV p l f (m+1) i=(zFS,false):=if_pos ⟨by omega,fun e=>by rw[(eqS_iff _ _).2 e]at hq;cases hq⟩
    rw[hc]
    refine EvL.stop ?_
    simp only[impl_UnpackFS_l1,Int.ofNat_lt,hi,decide_true,cond_true,Int.natCast_nonneg,if_true,Int.toNat_natCast,atB_get hi,Option.bind_some,w5,atB_get (show i<l.length by omega),hq,Bool.not_false,hd]
    exact EvQ.const _
theorem join3(a b c:ByteArray):(⟨(joinD [a,b,c] ⟨#[]⟩).toArray⟩:ByteArray)=(a++b)++c:=by
 refine bext ?_
 rw[append_list,append_list]
 show joinD [a,b,c] ⟨#[]⟩=_
 simp[joinD,Lib.join_cons,Lib.joinTail]
theorem join3_ev(a b c:ByteArray)(h1:a.size≤2000000)(h2:b.size≤2000000)(h3:c.size≤2000000):Ev (fun k=>c_impl_Join k ([a,b,c],(⟨#[]⟩:ByteArray))) ((a++b)++c):=by
 refine EvQ.run (fun k=>impl_Join_run k _ _) ?_
 simp only[impl_Join]
 refine EvQ.bind (EvQ.run (fun k=>c_strings_Join_run k _) ?_) (EvQ.const _)
 have e:(joinD [a,b,c] ⟨#[]⟩).length=a.size+b.size+c.size:=by
  have:=congrArg ByteArray.size (join3 a b c)
  rw[app_size,app_size]at this
  rw[←this,←blen]
 simp only[ext_strings_Join]
 rw[if_pos ⟨by simp,by rw[e];omega⟩,join3]
 exact EvQ.const _
theorem three{l:List ByteArray}{a:Nat}(h:a+3≤l.length):(l.take (a+3)).drop a=[atB l a,atB l (a+1),atB l (a+2)]:=by
 have e1:=atB_get (show a<l.length by omega)
 have e2:=atB_get (show a+1<l.length by omega)
 have e3:=atB_get (show a+2<l.length by omega)
 apply List.ext_getElem?
 intro i
 rw[List.getElem?_drop,List.getElem?_take]
 rcases i with _|_|_|i
 ·rw[if_pos (by omega)];simpa using e1
 ·rw[if_pos (by omega)];simpa using e2
 ·rw[if_pos (by omega)];simpa using e3
 ·rw[if_neg (by omega)];simp
end Go.Proofs.YtmmgfgfkkpeedaaGreat

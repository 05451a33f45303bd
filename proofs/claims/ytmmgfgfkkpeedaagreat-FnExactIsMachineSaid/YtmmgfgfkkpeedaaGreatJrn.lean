/- The tables, the residual functions and lemmas of this seat: parts of the proof of the law; conditions: those that each names. -/
import Derived.Test.YtmmgfgfkkpeedaaGreatCkb
import Derived.Test.YtmmgfgfkkpeedaaGreatRed
import Derived.Test.YtmmgfgfkkpeedaaGreatGet
set_option linter.unusedVariables false
set_option linter.unusedSimpArgs false
set_option maxRecDepth 100000
namespace Go.Proofs.YtmmgfgfkkpeedaaGreat
open Go.Eng
theorem getN_le{s:ByteArray}{a j:Nat}(hj:j≤4):numB s a j<4294967296:=by
 have h1:=numB_lt s a j
 have h2:256 ^ j≤256 ^ 4:=Nat.pow_le_pow_right (by omega) hj
 have h3:256 ^ 4=4294967296:=rfl
 omega
theorem spec_GetNumber_ev(s:ByteArray)(a w:Nat)(h1:1≤w)(h2:w≤4)(h:a+w≤s.size)(hs:s.size≤1000000):Ev (fun k=>c_spec_GetNumber k (s,(a:Int),(w:Int))) ((numB s a w:Int),true):=by
 have:=spec_Get_ev s a w h1 (by omega) (by omega) (by omega)
 rw[show getR s a w=((numB s a w:Int),true)from if_pos h]at this;exact this
theorem impl_GetNumber_ev(s:ByteArray)(a w:Nat)(h1:1≤w)(h2:w≤4)(h:a+w≤s.size)(hs:s.size≤1000000):Ev (fun k=>c_impl_GetNumber k (s,(a:Int),(w:Int))) ((numB s a w:Int),true):=by
 have:=impl_Get_ev s a w h1 (by omega) (by omega) (by omega)
 rw[show getR s a w=((numB s a w:Int),true)from if_pos h]at this;exact this
def listP(l:List PWrite):Prop:=(∀(i:Nat) w,l[i]? =some w→0≤w.1∧w.1≤399)∧1≤l.length∧l.length≤64
theorem spec_Ok_say(l:List PWrite)(hl:l.length≤2000000):Say (fun k=>c_spec_l04Ok k l) (listP l):=by
 refine Say.run (fun k=>spec_l04Ok_run k l) (Say.of ?_)
 simp only[spec_l04Ok]
 refine EvX.list (L:=fun k _=>spec_l04Ok_l1 k) l (fun(_:Unit) i=>(l,l,(l.length:Int),(i:Int))) (fun _ i=>∀(j:Nat) w,j<i→l[j]? =some w→0≤w.1∧w.1≤399) (fun _ i w hx hi inv=> ?_) (fun _ inv=> ?_) () (by simp)
 ·simp only[spec_l04Ok_l1,Int.ofNat_lt,hi,decide_true,cond_true,Int.natCast_nonneg,if_true,Int.toNat_natCast,hx,Option.bind_some,wsucc (show i<_ by omega)]
  refine EvX.bind (l01In_ev _ _ _) (EvX.bif (fun h=>EvX.const _ (GL.ret (GP.no fun hP=>by have:=hP.1 i w hx;simp at h;omega))) (fun h1=> ?_))
  simp at h1
  refine EvX.const _ (GL.self () rfl fun j s' hj hs'=> ?_)
  by_cases e:j=i
  ·subst e;rw[hx]at hs';cases hs';exact h1
  ·exact inv j s' (by omega) hs'
 ·simp only[spec_l04Ok_l1,Int.lt_irrefl,decide_false,cond_false]
  refine EvX.bind (l01In_ev _ _ _) (EvX.const _ (GE.ret (GP.ret ?_)))
  rw[decide_eq_true_eq]
  exact⟨fun h=>⟨fun i w h=>inv i w (List.getElem?_eq_some_iff.1 h).1 h,by omega,by omega⟩,fun h=>by have:=h.2;omega⟩
theorem impl_Ok_say(l:List PWrite)(hl:l.length≤2000000):Say (fun k=>c_impl_listed k l) (listP l):=by
 refine Say.run (fun k=>impl_listed_run k l) (Say.of ?_)
 simp only[impl_listed]
 refine EvX.list (L:=fun k _=>impl_listed_l1 k) l (fun(_:Unit) i=>(l,l,(l.length:Int),(i:Int))) (fun _ i=>∀(j:Nat) w,j<i→l[j]? =some w→0≤w.1∧w.1≤399) (fun _ i w hx hi inv=> ?_) (fun _ inv=> ?_) () (by simp)
 ·simp only[impl_listed_l1,Int.ofNat_lt,hi,decide_true,cond_true,Int.natCast_nonneg,if_true,Int.toNat_natCast,hx,Option.bind_some,wsucc (show i<_ by omega)]
  refine EvX.bif (fun h=>EvX.const _ (GL.ret (GP.no fun hP=>by have:=hP.1 i w hx;simp at h;omega))) (fun h1=> ?_)
  refine EvX.bif (fun h=>EvX.const _ (GL.ret (GP.no fun hP=>by have:=hP.1 i w hx;simp at h;omega))) (fun h2=> ?_)
  simp at h1 h2
  refine EvX.const _ (GL.self () rfl fun j s' hj hs'=> ?_)
  by_cases e:j=i
  ·subst e;rw[hx]at hs';cases hs';exact⟨h1,by omega⟩
  ·exact inv j s' (by omega) hs'
 ·simp only[impl_listed_l1,Int.lt_irrefl,decide_false,cond_false]
  refine EvX.bif (fun h1=> ?_) (fun h=>EvX.const _ (GE.ret (GP.no fun hP=>by have:=hP.2.1;simp at h;omega)))
  refine EvX.const _ (GE.ret (GP.ret ?_))
  rw[decide_eq_true_eq]
  replace h1:=of_decide_eq_true h1
  exact⟨fun h=>⟨fun i w h=>inv i w (List.getElem?_eq_some_iff.1 h).1 h,by omega,by omega⟩,fun h=>by have:=h.2;omega⟩
def textT(l:List PWrite):Nat→ByteArray
 |0=>⟨#[]⟩
 |i+1=>match l[i]? with
  |some w=>(textT l i++putB w.1 2)++w.2
  |none=>textT l i
theorem textT_size{l:List PWrite}(hz:∀(i:Nat) w,l[i]? =some w→w.2.size=32):∀i,(textT l i).size≤34*i
 |0=>Nat.zero_le _
 |i+1=>by
  have h:=textT_size hz i
  simp only[textT]
  cases hw:l[i]? with
  |none=>simp only;omega
  |some w=>
   have h1:=hz i w hw
   have h2:=putB_size w.1 2
   simp only[app_size];omega
def jrnl:ByteArray:=⟨#[74,82,78,76]⟩
def commitV(seq:Int)(l:List PWrite):ByteArray:=padB (((jrnl++putB seq 4)++putB (l.length:Int) 2)++putB (ckB (textT l l.length):Int) 4) 32
open Classical in
noncomputable def commitB(seq:Int)(l:List PWrite):ByteArray:=if(0≤seq∧seq≤1000000000)∧listP l then commitV seq l else⟨#[]⟩
theorem jsz:jrnl.size=4:=rfl
theorem spec_Commit_ev(seq:Int)(l:List PWrite)(hl:l.length≤100)(hz:∀(i:Nat) w,l[i]? =some w→w.2.size=32):Ev (fun k=>c_spec_CommitSector k (seq,l)) (commitB seq l):=by
 refine EvQ.run (fun k=>spec_CommitSector_run k _ _) ?_
 simp only[spec_CommitSector]
 refine EvQ.bind (l01In_ev _ _ _) ?_
 by_cases hq:0≤seq∧seq≤1000000000
 ·obtain⟨b,h1,h2⟩:=spec_Ok_say l (by omega)
  simp only[hq,and_self,decide_true,Bool.not_true,cond_false]
  refine EvQ.bind h1 ?_
  cases b with
  |false=>
   have hn:¬listP l:=fun h=>by have:=h2.2 h;cases this
   simp only[Bool.not_false,cond_true,commitB,hn,and_false,if_false];exact EvQ.const _
  |true=>
   have hP:=h2.1 rfl
   simp only[Bool.not_true,cond_false,commitB,if_pos (And.intro hq hP)]
   refine Ev.eq ?_
   refine EvX.list (L:=fun k _=>spec_CommitSector_l1 k) l (fun(st:ByteArray) i=>(seq,l,st,l,(l.length:Int),(i:Int))) (fun st i=>st=textT l i) (fun st i w hx hi inv=> ?_) (fun st inv=> ?_) _ rfl
   ·subst inv
    have hs:=textT_size hz i
    have hw:=hz i w hx
    have hp:=putB_size w.1 2
    simp only[spec_CommitSector_l1,Int.ofNat_lt,hi,decide_true,cond_true,Int.natCast_nonneg,if_true,Int.toNat_natCast,hx,Option.bind_some,wsucc (show i<_ by omega)]
    refine EvX.bind (spec_PutNumber_ev w.1 2 (by omega) (by omega)) (EvX.ifp (by omega) (EvX.ifp (by rw[app_size];omega) ?_))
    refine EvX.const _ (GL.self _ rfl ?_)
    simp only[textT,hx]
   ·subst inv
    have hs:=textT_size hz l.length
    have p1:=putB_size seq 4
    have p2:=putB_size (l.length:Int) 2
    have p3:=putB_size (ckB (textT l l.length):Int) 4
    simp only[spec_CommitSector_l1,Int.lt_irrefl,decide_false,cond_false]
    refine EvX.bind (spec_PutNumber_ev seq 4 (by omega) (by omega)) (EvX.ifp (by show jrnl.size+_≤_;rw[jsz];omega) ?_)
    refine EvX.bind (spec_PutNumber_ev (l.length:Int) 2 (by omega) (by omega)) (EvX.ifp (by show(jrnl++_).size+_≤_;rw[app_size,jsz];omega) ?_)
    refine EvX.bind (spec_Checksum_ev _ (by omega)) (EvX.bind (spec_PutNumber_ev _ 4 (by omega) (by omega)) (EvX.ifp (by show((jrnl++_)++_).size+_≤_;rw[app_size,app_size,jsz];omega) ?_))
    refine EvX.bind (spec_PadTo_ev _ 32 (by omega) (by show(((jrnl++_)++_)++_).size≤_;rw[app_size,app_size,app_size,jsz];omega)) ?_
    exact EvX.const _ (GE.ret (GR.ret rfl))
 ·simp only[hq,decide_false,Bool.not_false,cond_true,commitB,false_and,if_false];exact EvQ.const _
theorem impl_Commit_ev(seq:Int)(l:List PWrite)(hl:l.length≤100)(hz:∀(i:Nat) w,l[i]? =some w→w.2.size=32):Ev (fun k=>c_impl_CommitSector k (seq,l)) (commitB seq l):=by
 refine EvQ.run (fun k=>impl_CommitSector_run k _ _) ?_
 simp only[impl_CommitSector]
 by_cases hq1:seq<0
 ·simp only[hq1,decide_true,cond_true,commitB,show ¬(0≤seq∧seq≤1000000000)by omega,false_and,if_false];exact EvQ.const _
 by_cases hq2:(1000000000:Int)<seq
 ·simp only[hq1,hq2,decide_true,decide_false,cond_true,cond_false,commitB,show ¬(0≤seq∧seq≤1000000000)by omega,false_and,if_false];exact EvQ.const _
 have hq:0≤seq∧seq≤1000000000:=by omega
 obtain⟨b,h1,h2⟩:=impl_Ok_say l (by omega)
 simp only[hq1,hq2,decide_false,cond_false]
 refine EvQ.bind h1 ?_
 cases b with
 |false=>
  have hn:¬listP l:=fun h=>by have:=h2.2 h;cases this
  simp only[Bool.not_false,cond_true,commitB,hn,and_false,if_false];exact EvQ.const _
 |true=>
  have hP:=h2.1 rfl
  simp only[Bool.not_true,cond_false,commitB,if_pos (And.intro hq hP)]
  refine Ev.eq ?_
  refine EvX.list (L:=fun k _=>impl_CommitSector_l1 k) l (fun(st:ByteArray) i=>(seq,l,st,l,(l.length:Int),(i:Int))) (fun st i=>st=textT l i) (fun st i w hx hi inv=> ?_) (fun st inv=> ?_) _ rfl
  ·subst inv
   have hs:=textT_size hz i
   have hw:=hz i w hx
   have hp:=putB_size w.1 2
   simp only[impl_CommitSector_l1,Int.ofNat_lt,hi,decide_true,cond_true,Int.natCast_nonneg,if_true,Int.toNat_natCast,hx,Option.bind_some,wsucc (show i<_ by omega)]
   refine EvX.bind (impl_PutNumber_ev w.1 2 (by omega) (by omega)) (EvX.ifp (by omega) (EvX.ifp (by rw[app_size];omega) ?_))
   refine EvX.const _ (GL.self _ rfl ?_)
   simp only[textT,hx,app_assoc]
  ·subst inv
   have hs:=textT_size hz l.length
   have p1:=putB_size seq 4
   have p2:=putB_size (l.length:Int) 2
   have p3:=putB_size (ckB (textT l l.length):Int) 4
   simp only[impl_CommitSector_l1,Int.lt_irrefl,decide_false,cond_false]
   refine EvX.bind (impl_PutNumber_ev seq 4 (by omega) (by omega)) (EvX.ifp (by show jrnl.size+_≤_;rw[jsz];omega) ?_)
   refine EvX.bind (impl_PutNumber_ev (l.length:Int) 2 (by omega) (by omega)) (EvX.ifp (by show(jrnl++_).size+_≤_;rw[app_size,jsz];omega) ?_)
   refine EvX.bind (impl_Checksum_ev _ (by omega)) (EvX.bind (impl_PutNumber_ev _ 4 (by omega) (by omega)) (EvX.ifp (by show((jrnl++_)++_).size+_≤_;rw[app_size,app_size,jsz];omega) ?_))
   refine EvX.bind (impl_PadTo_ev _ 32 (by omega) (by show(((jrnl++_)++_)++_).size≤_;rw[app_size,app_size,app_size,jsz];omega)) ?_
   exact EvX.const _ (GE.ret (GR.ret rfl))
theorem spec_Read_ev(d:PDisk)(h:diskP d)(i:Nat)(hi:i<d.1.length):Ev (fun k=>c_spec_l03Read k (d,(i:Int))) (readD d i):=by
 have n2:=h.n2
 refine EvQ.run (fun k=>spec_l03Read_run k _ _) ?_
 have w1:wrapK .i64 ((d.2.length:Int)-1)=(d.2.length:Int)-1-(0:Nat):=by rw[i64w (by omega) (by omega)];omega
 simp only[spec_l03Read,w1]
 refine Ev.eq ?_
 refine EvX.upto (L:=fun k _=>spec_l03Read_l1 k) d.2.length (fun(_:Unit) j=>((i:Int),(),(d.2.length:Int)-1-(j:Nat),d)) (fun _ j=>readD d i=readT d i (d.2.length-j)) (fun _ j hj inv=> ?_) (fun _ inv=> ?_) () 0 (Nat.zero_le _) rfl
 ·have e:(d.2.length:Int)-1-(j:Nat)=((d.2.length-1-j:Nat):Int):=by omega
  obtain⟨w,hw⟩:∃w,d.2[d.2.length-1-j]? =some w:=⟨_,List.getElem?_eq_getElem (show d.2.length-1-j<d.2.length by omega)⟩
  have hr:readT d i (d.2.length-j)=if w.1=(i:Int)then w.2 else readT d i (d.2.length-(j+1)):=by
   have:d.2.length-j=(d.2.length-1-j)+1:=by omega
   rw[this]
   simp only[readT,hw]
   have:d.2.length-1-j=d.2.length-(j+1):=by omega
   rw[this]
  have w2:wrapK .i64 (((d.2.length-1-j:Nat):Int)-1)=(d.2.length:Int)-1-((j+1:Nat):Int):=by rw[i64w (by omega) (by omega)];omega
  simp only[spec_l03Read_l1,e,Int.natCast_nonneg,decide_true,cond_true,if_true,Int.toNat_natCast,hw,Option.bind_some,w2]
  refine EvX.bif (fun h1=> ?_) (fun h1=> ?_)
  ·have h1:w.1=(i:Int):=by simpa using h1
   refine EvX.const _ (GL.ret (GR.ret ?_))
   rw[inv,hr,if_pos h1]
  ·have h1:¬w.1=(i:Int):=by simpa using h1
   refine EvX.const _ (GL.self () rfl ?_)
   rw[inv,hr,if_neg h1]
 ·have hx:d.1[i]? =some d.1[i]:=List.getElem?_eq_getElem hi
  have e:¬(0:Int)≤(d.2.length:Int)-1-(d.2.length:Nat):=by omega
  simp only[spec_l03Read_l1,e,decide_false,cond_false,Int.natCast_nonneg,if_true,Int.toNat_natCast,hx,Option.bind_some]
  refine EvX.const _ (GE.ret (GR.ret ?_))
  rw[inv,Nat.sub_self]
  simp only[readT,List.getD,hx,Option.getD_some]
def twP(d:PDisk)(l:List PWrite)(i:Nat)(w:PWrite):Prop:=(0≤w.1∧w.1<(d.1.length:Int))∧(w.1<1∨70≤w.1)∧w.2.size=32∧∀p,0<i→l[i-1]? =some p→p.1<w.1
structure txnP (d:PDisk) (l:List PWrite):Prop where
 dk:diskP d
 big:70≤d.1.length
 n1:1≤l.length
 n2:l.length≤64
 tw:∀(i:Nat) w,l[i]? =some w→twP d l i w
theorem spec_Txn_say(d:PDisk)(hs:dskS d)(l:List PWrite)(hl:l.length≤2000000):Say (fun k=>c_spec_IsTxn k (d,l)) (txnP d l):=by
 refine Say.run (fun k=>spec_IsTxn_run k d l) (Say.of ?_)
 simp only[spec_IsTxn]
 refine EvX.say (spec_IsDisk_say d hs) fun b hb=>EvX.bif (fun h=>EvX.const _ (GP.no fun hP=>by have:=hb.2 hP.dk;rw[this]at h;cases h)) (fun h0=> ?_)
 have hD:=hb.1 (by simpa using h0)
 have hn1:=hD.n1
 refine EvX.bif (fun h=>EvX.const _ (GP.no fun hP=>by have:=hP.big;simp at h;omega)) (fun h1=> ?_)
 refine EvX.bind (l01In_ev _ _ _) (EvX.bif (fun h=>EvX.const _ (GP.no fun hP=>by have:=hP.n1;have:=hP.n2;simp at h;omega)) (fun h2=> ?_))
 simp at h1 h2
 refine EvX.list (L:=fun k _=>spec_IsTxn_l1 k) l (fun(_:Unit) i=>(l,(),l,(l.length:Int),(i:Int),d)) (fun _ i=>∀(j:Nat) w,j<i→l[j]? =some w→twP d l j w) (fun _ i w hx hi inv=> ?_) (fun _ inv=> ?_) () (by simp)
 ·have w1:wrapK .i64 ((d.1.length:Int)-1)=(d.1.length:Int)-1:=i64w (by omega) (by omega)
  have next:twP d l i w→∀(j:Nat) w,j<i+1→l[j]? =some w→twP d l j w:=fun ho j w' hj hw'=>by
   by_cases e:j=i
   ·subst e;rw[hx]at hw';cases hw';exact ho
   ·exact inv j w' (by omega) hw'
  simp only[spec_IsTxn_l1,Int.ofNat_lt,hi,decide_true,cond_true,Int.natCast_nonneg,if_true,Int.toNat_natCast,hx,Option.bind_some,wsucc (show i<_ by omega),w1]
  refine EvX.bind (l01In_ev _ _ _) (EvX.bif (fun h=>EvX.const _ (GL.ret (GP.no fun hP=>by have:=(hP.tw i w hx).1;simp at h;omega))) (fun h3=> ?_))
  refine EvX.bind (l01In_ev _ _ _) (EvX.bif (fun h=>EvX.const _ (GL.ret (GP.no fun hP=>by have:=(hP.tw i w hx).2.1;simp at h;omega))) (fun h4=> ?_))
  refine EvX.bif (fun h=>EvX.const _ (GL.ret (GP.no fun hP=>by have:=(hP.tw i w hx).2.2.1;simp at h;omega))) (fun h5=> ?_)
  simp at h3 h4 h5
  refine EvX.bif (fun h6=> ?_) (fun h6=> ?_)
  ·replace h6:=of_decide_eq_true h6
   have hw2:wrapK .i64 ((i:Int)-1)=((i-1:Nat):Int):=by rw[i64w (by omega) (by omega)];omega
   obtain⟨p,hp⟩:∃p,l[i-1]? =some p:=⟨_,List.getElem?_eq_getElem (show i-1<l.length by omega)⟩
   simp only[hw2,Int.natCast_nonneg,if_true,Int.toNat_natCast,hp,Option.bind_some]
   refine EvX.bif (fun h=>EvX.const _ (GL.ret (GP.no fun hP=>by have:=(hP.tw i w hx).2.2.2 p (by omega) hp;simp at h;omega))) (fun h7=> ?_)
   simp at h7
   exact EvX.const _ (GL.self () rfl (next ⟨⟨h3.1,by omega⟩,by omega,by omega,fun p' _ hp'=>by rw[hp]at hp';cases hp';exact h7⟩))
  ·replace h6:=of_decide_eq_false h6
   exact EvX.const _ (GL.self () rfl (next ⟨⟨h3.1,by omega⟩,by omega,by omega,fun p' h0 _=>by omega⟩))
 ·simp only[spec_IsTxn_l1,Int.lt_irrefl,decide_false,cond_false]
  exact EvX.const _ (GE.ret (GP.yes ⟨hD,by omega,by omega,by omega,fun i w h=>inv i w (List.getElem?_eq_some_iff.1 h).1 h⟩))
theorem impl_Txn_say(d:PDisk)(hs:dskS d)(l:List PWrite)(hl:l.length≤2000000):Say (fun k=>c_impl_IsTxn k (d,l)) (txnP d l):=by
 refine Say.run (fun k=>impl_IsTxn_run k d l) (Say.of ?_)
 simp only[impl_IsTxn]
 refine EvX.say (impl_IsDisk_say d hs) fun b hb=>EvX.bif (fun h=>EvX.const _ (GP.no fun hP=>by have:=hb.2 hP.dk;rw[this]at h;cases h)) (fun h0=> ?_)
 have hD:=hb.1 (by simpa using h0)
 have hn1:=hD.n1
 refine EvX.bif (fun h=>EvX.const _ (GP.no fun hP=>by have:=hP.big;simp at h;omega)) (fun h1=> ?_)
 refine EvX.bif (fun h=>EvX.const _ (GP.no fun hP=>by have:=hP.n1;replace h:=of_decide_eq_true h;omega)) (fun h2=> ?_)
 refine EvX.bif (fun h=>EvX.const _ (GP.no fun hP=>by have:=hP.n2;replace h:=of_decide_eq_true h;omega)) (fun h2'=> ?_)
 replace h1:=of_decide_eq_false h1
 replace h2:=of_decide_eq_false h2
 replace h2':=of_decide_eq_false h2'
 refine EvX.list (L:=fun k _=>impl_IsTxn_l1 k) l (fun(_:Unit) i=>(l,(),l,(l.length:Int),(i:Int),d)) (fun _ i=>∀(j:Nat) w,j<i→l[j]? =some w→twP d l j w) (fun _ i w hx hi inv=> ?_) (fun _ inv=> ?_) () (by simp)
 ·have next:twP d l i w→∀(j:Nat) w,j<i+1→l[j]? =some w→twP d l j w:=fun ho j w' hj hw'=>by
   by_cases e:j=i
   ·subst e;rw[hx]at hw';cases hw';exact ho
   ·exact inv j w' (by omega) hw'
  simp only[impl_IsTxn_l1,Int.ofNat_lt,hi,decide_true,cond_true,Int.natCast_nonneg,if_true,Int.toNat_natCast,hx,Option.bind_some,wsucc (show i<_ by omega)]
  refine EvX.bif (fun h=>EvX.const _ (GL.ret (GP.no fun hP=>by have:=(hP.tw i w hx).1;simp at h;omega))) (fun h3=> ?_)
  refine EvX.bif (fun h=>EvX.const _ (GL.ret (GP.no fun hP=>by have:=(hP.tw i w hx).1;simp at h;omega))) (fun h3'=> ?_)
  simp at h3 h3'
  refine EvX.bif (fun h4=> ?_) (fun h4=> ?_)
  ·refine EvX.bif (fun h=>EvX.const _ (GL.ret (GP.no fun hP=>by have:=(hP.tw i w hx).2.1;simp at h h4;omega))) (fun h4'=> ?_)
   simp at h4 h4'
   refine EvX.bif (fun h=>EvX.const _ (GL.ret (GP.no fun hP=>by have:=(hP.tw i w hx).2.2.1;simp at h;omega))) (fun h5=> ?_)
   simp at h5
   refine EvX.bif (fun h6=> ?_) (fun h6=> ?_)
   ·replace h6:=of_decide_eq_true h6
    have hw2:wrapK .i64 ((i:Int)-1)=((i-1:Nat):Int):=by rw[i64w (by omega) (by omega)];omega
    obtain⟨p,hp⟩:∃p,l[i-1]? =some p:=⟨_,List.getElem?_eq_getElem (show i-1<l.length by omega)⟩
    simp only[hw2,Int.natCast_nonneg,if_true,Int.toNat_natCast,hp,Option.bind_some]
    refine EvX.bif (fun h=>EvX.const _ (GL.ret (GP.no fun hP=>by have:=(hP.tw i w hx).2.2.2 p (by omega) hp;simp at h;omega))) (fun h7=> ?_)
    simp at h7
    exact EvX.const _ (GL.self () rfl (next ⟨⟨h3,by omega⟩,by omega,by omega,fun p' _ hp'=>by rw[hp]at hp';cases hp';exact h7⟩))
   ·replace h6:=of_decide_eq_false h6
    exact EvX.const _ (GL.self () rfl (next ⟨⟨h3,by omega⟩,by omega,by omega,fun p' h0 _=>by omega⟩))
  ·simp at h4
   refine EvX.bif (fun h=>EvX.const _ (GL.ret (GP.no fun hP=>by have:=(hP.tw i w hx).2.2.1;simp at h;omega))) (fun h5=> ?_)
   simp at h5
   refine EvX.bif (fun h6=> ?_) (fun h6=> ?_)
   ·replace h6:=of_decide_eq_true h6
    have hw2:wrapK .i64 ((i:Int)-1)=((i-1:Nat):Int):=by rw[i64w (by omega) (by omega)];omega
    obtain⟨p,hp⟩:∃p,l[i-1]? =some p:=⟨_,List.getElem?_eq_getElem (show i-1<l.length by omega)⟩
    simp only[hw2,Int.natCast_nonneg,if_true,Int.toNat_natCast,hp,Option.bind_some]
    refine EvX.bif (fun h=>EvX.const _ (GL.ret (GP.no fun hP=>by have:=(hP.tw i w hx).2.2.2 p (by omega) hp;simp at h;omega))) (fun h7=> ?_)
    simp at h7
    exact EvX.const _ (GL.self () rfl (next ⟨⟨h3,by omega⟩,by omega,by omega,fun p' _ hp'=>by rw[hp]at hp';cases hp';exact h7⟩))
   ·replace h6:=of_decide_eq_false h6
    exact EvX.const _ (GL.self () rfl (next ⟨⟨h3,by omega⟩,by omega,by omega,fun p' h0 _=>by omega⟩))
 ·simp only[impl_IsTxn_l1,Int.lt_irrefl,decide_false,cond_false]
  exact EvX.const _ (GE.ret (GP.yes ⟨hD,by omega,by omega,by omega,fun i w h=>inv i w (List.getElem?_eq_some_iff.1 h).1 h⟩))
def jT(d:PDisk):Nat→List PWrite
 |0=>[]
 |i+1=>jT d i++[(((numB (readD d (2+i / 16)) (2*(i % 16)) 2:Nat):Int),readD d (6+i))]
theorem jT_len(d:PDisk):∀i,(jT d i).length=i
 |0=>rfl
 |i+1=>by simp[jT,jT_len d i]
theorem jT_size{d:PDisk}(h:diskP d)(hb:70≤d.1.length):∀i,i≤64→∀(j:Nat) w,(jT d i)[j]? =some w→w.2.size=32
 |0,_,j,w,hw=>by simp[jT]at hw
 |i+1,hi,j,w,hw=>by
  simp only[jT,List.getElem?_append]at hw
  split at hw
  ·exact jT_size h hb i (by omega) j w hw
  ·have:=(List.getElem?_eq_some_iff.1 hw).1
   simp at this
   rw[this]at hw
   simp at hw
   subst hw
   exact readT_size h (by omega) _
def jHead(d:PDisk):ByteArray:=readD d 1
def jSeq(d:PDisk):Nat:=numB (jHead d) 4 4
def jN(d:PDisk):Nat:=numB (jHead d) 8 2
def jOK(d:PDisk):Prop:=diskP d∧70≤d.1.length∧1≤jN d∧jN d≤64∧txnP d (jT d (jN d))∧commitB (jSeq d) (jT d (jN d))=jHead d
open Classical in
noncomputable def jR(d:PDisk):Int×List PWrite×Bool:=if jOK d then((jSeq d:Int),jT d (jN d),true)else(0,[],false)
theorem jR_no{d:PDisk}(h:¬jOK d):jR d=(0,[],false):=if_neg h
theorem jR_yes{d:PDisk}(h:jOK d):jR d=((jSeq d:Int),jT d (jN d),true):=if_pos h
theorem bnot_eq{a b:ByteArray}:(!(eqS a b))=true↔a≠b:=by
 cases h:eqS a b with
 |true=>simp[(eqS_iff a b).1 h]
 |false=>
  simp
  intro e
  rw[(eqS_iff a b).2 e]at h;cases h
theorem idx16{i:Nat}(h:i<64):wrapK .i64 ((2:Int)+wrapK .i64 ((i:Int).tdiv 16))=((2+i / 16:Nat):Int)∧wrapK .i64 ((2:Int)*((i:Int).tmod 16))=((2*(i % 16):Nat):Int)∧wrapK .i64 ((6:Int)+(i:Int))=((6+i:Nat):Int):=by
 have e1:(i:Int).tdiv 16=((i / 16:Nat):Int):=by rw[Int.tdiv_eq_ediv_of_nonneg (by omega)];omega
 have e2:(i:Int).tmod 16=((i % 16:Nat):Int):=by rw[Int.tmod_eq_emod_of_nonneg (by omega)];omega
 rw[e1,e2,wnat (by omega),i64w (by omega) (by omega),i64w (by omega) (by omega),i64w (by omega) (by omega)]
 omega
theorem spec_RJ_ev(d:PDisk)(hs:dskS d):Ev (fun k=>c_spec_ReadJournal k d) (jR d):=by
 refine EvQ.run (fun k=>spec_ReadJournal_run k d) (Ev.eq ?_)
 simp only[spec_ReadJournal]
 have no:∀{S:Type},¬jOK d→GR (S:=S) (fun x=>x=jR d) fun _=>some ((0:Int),([]:List PWrite),false):=fun h=>GR.ret (jR_no h).symm
 refine EvX.say (spec_IsDisk_say d hs) fun b hb=>EvX.bif (fun h=>EvX.const _ (no fun hP=>by have:=hb.2 hP.1;rw[this]at h;cases h)) (fun h0=> ?_)
 have hD:=hb.1 (by simpa using h0)
 have hn1:=hD.n1
 refine EvX.bif (fun h=>EvX.const _ (no fun hP=>by have:=hP.2.1;simp at h;omega)) (fun h1=> ?_)
 replace h1:=of_decide_eq_false h1
 have h70:70≤d.1.length:=by omega
 have hsz:(jHead d).size=32:=readT_size hD (by omega) _
 refine EvX.bind (spec_Read_ev d hD 1 (by omega)) (EvX.bind (spec_GetNumber_ev (jHead d) 4 4 (by omega) (by omega) (by omega) (by omega)) (EvX.bind (spec_GetNumber_ev (jHead d) 8 2 (by omega) (by omega) (by omega) (by omega)) ?_))
 refine EvX.bind (l01In_ev _ _ _) (EvX.bif (fun h=>EvX.const _ (no fun hP=> ?_)) (fun h2=> ?_))
 ·have k1:1≤numB (jHead d) 8 2:=hP.2.2.1
  have k2:numB (jHead d) 8 2≤64:=hP.2.2.2.1
  simp only[Bool.not_eq_true',decide_eq_false_iff_not]at h
  omega
 have h2:(1:Int)≤(numB (jHead d) 8 2:Nat)∧((numB (jHead d) 8 2:Nat):Int)≤64:=by simpa using h2
 have hn:jN d=numB (jHead d) 8 2:=rfl
 refine EvX.upto (L:=fun k _=>spec_ReadJournal_l1 k) (jN d) (fun(st:List PWrite) i=>((),jHead d,(jSeq d:Int),(jN d:Int),st,((i:Nat):Int),d)) (fun st i=>st=jT d i) (fun st i hi inv=> ?_) (fun st inv=> ?_) _ 0 (Nat.zero_le _) rfl
 ·subst inv
  obtain⟨e1,e2,e3⟩:=idx16 (show i<64 by omega)
  have hl:=jT_len d i
  simp only[spec_ReadJournal_l1,Int.ofNat_lt,hi,decide_true,cond_true,ne_eq,show ¬((16:Int)=0)by decide,not_false_eq_true,if_true,e1,e2,e3,wsucc (show i<_ by omega)]
  refine EvX.bind (spec_Read_ev d hD _ (by omega)) (EvX.bind (spec_GetNumber_ev _ _ 2 (by omega) (by omega) (by have:=readT_size hD (show 2+i / 16<d.1.length by omega) d.2.length;show _≤(readT d (2+i / 16) d.2.length).size;omega) (by have:=readT_size hD (show 2+i / 16<d.1.length by omega) d.2.length;show(readT d (2+i / 16) d.2.length).size≤_;omega)) ?_)
  refine EvX.bind (spec_Read_ev d hD _ (by omega)) (EvX.ifp (by rw[hl];simp only[List.length_singleton,capBytes];omega) ?_)
  exact EvX.const _ (GL.self _ rfl rfl)
 ·subst inv
  have hl:=jT_len d (jN d)
  have hz:=jT_size hD h70 (jN d) (by omega)
  simp only[spec_ReadJournal_l1,Int.lt_irrefl,decide_false,cond_false]
  refine EvX.say (spec_Txn_say d hs _ (by omega)) fun b hb=>EvX.bif (fun h=>EvX.const _ (GE.ret (no fun hP=>by have:=hb.2 hP.2.2.2.2.1;rw[this]at h;cases h))) (fun h3=> ?_)
  have hT:=hb.1 (by simpa using h3)
  refine EvX.bind (spec_Commit_ev _ _ (by omega) hz) (EvX.bif (fun h=>EvX.const _ (GE.ret (no fun hP=>(bnot_eq.1 h) hP.2.2.2.2.2))) (fun h4=> ?_))
  have h4:commitB (jSeq d) (jT d (jN d))=jHead d:=by
   by_cases e:commitB (jSeq d) (jT d (jN d))=jHead d
   ·exact e
   ·rw[bnot_eq.2 e]at h4;cases h4
  exact EvX.const _ (GE.ret (GR.ret (jR_yes ⟨hD,h70,by omega,by omega,hT,h4⟩).symm))
theorem impl_RJ_ev(d:PDisk)(hs:dskS d):Ev (fun k=>c_impl_ReadJournal k d) (jR d):=by
 refine EvQ.run (fun k=>impl_ReadJournal_run k d) (Ev.eq ?_)
 simp only[impl_ReadJournal]
 have no:∀{S:Type},¬jOK d→GR (S:=S) (fun x=>x=jR d) fun _=>some ((0:Int),([]:List PWrite),false):=fun h=>GR.ret (jR_no h).symm
 refine EvX.say (impl_IsDisk_say d hs) fun b hb=>EvX.bif (fun h=>EvX.const _ (no fun hP=>by have:=hb.2 hP.1;rw[this]at h;cases h)) (fun h0=> ?_)
 have hD:=hb.1 (by simpa using h0)
 have hn1:=hD.n1
 refine EvX.bif (fun h=>EvX.const _ (no fun hP=>by have:=hP.2.1;simp at h;omega)) (fun h1=> ?_)
 replace h1:=of_decide_eq_false h1
 have h70:70≤d.1.length:=by omega
 have hsz:(jHead d).size=32:=readT_size hD (by omega) _
 refine EvX.bind (impl_Read_ev d hD 1 (by omega)) (EvX.bind (impl_GetNumber_ev (jHead d) 4 4 (by omega) (by omega) (by omega) (by omega)) (EvX.bind (impl_GetNumber_ev (jHead d) 8 2 (by omega) (by omega) (by omega) (by omega)) ?_))
 refine EvX.bif (fun h=>EvX.const _ (no fun hP=> ?_)) (fun h2=> ?_)
 ·have k2:numB (jHead d) 8 2≤64:=hP.2.2.2.1
  replace h:=of_decide_eq_true h
  omega
 replace h2:=of_decide_eq_false h2
 have hn:jN d=numB (jHead d) 8 2:=rfl
 refine EvX.upto (L:=fun k _=>impl_ReadJournal_l1 k) (jN d) (fun(st:List PWrite) i=>((),jHead d,(jSeq d:Int),st,(jN d:Int),((i:Nat):Int),d)) (fun st i=>st=jT d i) (fun st i hi inv=> ?_) (fun st inv=> ?_) _ 0 (Nat.zero_le _) rfl
 ·subst inv
  obtain⟨e1,e2,e3⟩:=idx16 (show i<64 by omega)
  have hl:=jT_len d i
  simp only[impl_ReadJournal_l1,Int.ofNat_lt,hi,decide_true,cond_true,ne_eq,show ¬((16:Int)=0)by decide,not_false_eq_true,if_true,e1,e2,e3,wsucc (show i<_ by omega)]
  refine EvX.bind (impl_Read_ev d hD _ (by omega)) (EvX.bind (impl_GetNumber_ev _ _ 2 (by omega) (by omega) (by have:=readT_size hD (show 2+i / 16<d.1.length by omega) d.2.length;show _≤(readT d (2+i / 16) d.2.length).size;omega) (by have:=readT_size hD (show 2+i / 16<d.1.length by omega) d.2.length;show(readT d (2+i / 16) d.2.length).size≤_;omega)) ?_)
  refine EvX.bind (impl_Read_ev d hD _ (by omega)) (EvX.ifp (by rw[hl];simp only[List.length_singleton,capBytes];omega) ?_)
  exact EvX.const _ (GL.self _ rfl rfl)
 ·subst inv
  have hl:=jT_len d (jN d)
  have hz:=jT_size hD h70 (jN d) (by omega)
  simp only[impl_ReadJournal_l1,Int.lt_irrefl,decide_false,cond_false]
  refine EvX.bind (impl_Commit_ev _ _ (by omega) hz) (EvX.bif (fun h=>EvX.const _ (GE.ret (no fun hP=>(bnot_eq.1 h) hP.2.2.2.2.2))) (fun h4=> ?_))
  have h4:commitB (jSeq d) (jT d (jN d))=jHead d:=by
   by_cases e:commitB (jSeq d) (jT d (jN d))=jHead d
   ·exact e
   ·rw[bnot_eq.2 e]at h4;cases h4
  refine EvX.say (impl_Txn_say d hs _ (by omega)) fun b hb=>EvX.bif (fun h=>EvX.const _ (GE.ret (no fun hP=>by have:=hb.2 hP.2.2.2.2.1;rw[this]at h;cases h))) (fun h3=> ?_)
  have hT:=hb.1 (by simpa using h3)
  have n1:=hT.n1
  have n2:=hT.n2
  exact EvX.const _ (GE.ret (GR.ret (jR_yes ⟨hD,h70,by omega,by omega,hT,h4⟩).symm))
end Go.Proofs.YtmmgfgfkkpeedaaGreat

/- The tables, the residual functions and lemmas of this seat: parts of the proof of the law; conditions: those that each names. -/
import Derived.Test.YtkmnlefjlhogaaaAft
import Derived.Test.YtkmnlefjlhogaaaGen
set_option linter.unusedVariables false
set_option linter.unusedSimpArgs false
set_option maxRecDepth 100000
namespace Go.Proofs.Ytkmnlefjlhogaaa
open Go.Eng
theorem once_ev(c:Dl01Cur)(h:curOK c)(n:Int):∃v c',Ev (fun k=>c_spec_l01Once k (c,n)) (v,c')∧curOK c':=by
 obtain⟨v,c1,h1,h2,_⟩:=below_ev c h n
 refine⟨v==0,c1,EvQ.run (fun k=>spec_l01Once_run k _ _) ?_,h2⟩
 simp only[spec_l01Once]
 exact EvQ.bind h1 (EvQ.const _)
structure AclS (l:List PAcl) (k j:Int):Prop where
 len:l.length≤4
 ent:∀i e,l[i]? =some e→entP e∧ordP l i e
 last:∀e,l[l.length-1]? =some e→e.1<k∨e.1=k∧e.2.1<j
theorem acl_snoc{l:List PAcl}{x:PAcl}(h:∀i e,l[i]? =some e→entP e∧ordP l i e)(hx:entP x)(hl:∀e,l[l.length-1]? =some e→lessP e x):∀i e,(l++[x])[i]? =some e→entP e∧ordP (l++[x]) i e:=by
 intro i e he
 rw[List.getElem?_append]at he
 split at he
 ·rename_i hi
  obtain⟨h1,h2⟩:=h i e he
  refine⟨h1,fun p hp hq=>h2 p hp ?_⟩
  rw[List.getElem?_append_left (by omega)]at hq
  exact hq
 ·rename_i hi
  have:i=l.length:=by
   have:=(List.getElem?_eq_some_iff.1 he).1
   simp at this;omega
  subst this
  rw[Nat.sub_self]at he
  have he:x=e:=by simpa using he
  subst he
  refine⟨hx,fun p hp hq=>hl p ?_⟩
  rw[List.getElem?_append_left (by omega)]at hq
  exact hq
theorem AclS.add{l:List PAcl}{k j v:Int}(h:AclS l k j)(hk:k=1∨k=2)(hj:0≤j∧j≤3)(hv:0≤v∧v≤7)(hl:l.length<4):AclS (l++[(k,j,v)]) k (j+1) where
 len:=by rw[List.length_append];show l.length+1≤4;omega
 ent:=acl_snoc h.ent ⟨hv.1,hv.2,.inl ⟨hk,hj.1,hj.2⟩⟩ fun e he=>h.last e he
 last e he:=by
  rw[List.length_append,show l.length+[(k,j,v)].length-1=l.length from rfl,List.getElem?_append_right (Nat.le_refl _),Nat.sub_self]at he
  have he:(k,j,v)=e:=by simpa using he
  subst he
  exact .inr ⟨rfl,by show j<j+1;omega⟩
theorem AclS.mono{l:List PAcl}{k j k' j':Int}(h:AclS l k j)(hk:k<k'∨k=k'∧j≤j'):AclS l k' j':=⟨h.len,h.ent,fun e he=>by have:=h.last e he;omega⟩
theorem acl_draw(c:Dl01Cur)(h:curOK c):∃l c',Ev (fun k=>c_spec_l05Draw k c) (l,c')∧curOK c'∧aclP l:=by
 have:∃r:List PAcl×Dl01Cur,Ev (fun k=>spec_l05Draw k c) r∧(curOK r.2∧aclP r.1):=by
  refine Ev.of ?_
  simp only[spec_l05Draw]
  obtain⟨v,c1,h1,h2⟩:=once_ev c h 3
  refine EvX.bind h1 ?_
  refine EvX.bif (fun _=>EvX.const _ (GR.ret ⟨h2,by simp,by simp,.inl rfl⟩)) fun _=> ?_
  refine EvX.upto (L:=fun k (_:Unit)=>spec_l05Draw_l2 k) 2 (fun(st:List PAcl×Dl01Cur) i=>((),st.1,((i+1:Nat):Int),st.2)) (fun st i=>curOK st.2∧AclS st.1 ((i+1:Nat):Int) 0) (fun st i hi inv=> ?_) (fun st inv=> ?_) ([],c1) 0 (by omega) ⟨h2,by simp,by simp,by simp⟩
  ·have c2:((i+1:Nat):Int)≤2:=by omega
   simp only[spec_l05Draw_l2,c2,decide_true,cond_true]
   refine EvX.upto (L:=fun k (p:Unit×(_→Option (List PAcl×Dl01Cur)))=>spec_l05Draw_l1 k p.2) 3 (fun(st:List PAcl×Dl01Cur) j=>((),st.1,((i+1:Nat):Int),((j+1:Nat):Int),st.2)) (fun st j=>curOK st.2∧AclS st.1 ((i+1:Nat):Int) ((j+1:Nat):Int)) (fun st j hj inv=> ?_) (fun st inv=> ?_) st 0 (by omega) ⟨inv.1,inv.2.mono (.inr ⟨rfl,by omega⟩)⟩
   ·obtain⟨l,c⟩:=st
    obtain⟨i1,i2⟩:=inv
    simp only at i1 i2
    have c3:((j+1:Nat):Int)<4:=by omega
    have w:wrapK .i64 (((j+1:Nat):Int)+1)=((j+1+1:Nat):Int):=wS (j+1) (by omega)
    simp only[spec_l05Draw_l1,c3,decide_true,cond_true,w]
    obtain⟨v,c1,h1,h2⟩:=once_ev c i1 3
    refine EvX.bind h1 ?_
    refine EvX.bif (fun _=> ?_) fun _=>EvX.const _ (GL.self (l,c1) rfl ⟨h2,i2.mono (.inr ⟨rfl,by omega⟩)⟩)
    refine EvX.bif (fun hl=> ?_) fun _=>EvX.const _ (GL.self (l,c1) rfl ⟨h2,i2.mono (.inr ⟨rfl,by omega⟩)⟩)
    have hl:l.length<4:=by have:=of_decide_eq_true hl;omega
    obtain⟨v,c2,h3,h4,h5,_⟩:=below_ev c1 h2 8
    refine EvX.bind h3 ?_
    have hv:=h5 (by omega) (by omega)
    have hc:(l.length+([(((i+1:Nat):Int),((j+1:Nat):Int),v)]:List PAcl).length)*24≤capBytes:=by show(l.length+1)*24≤_;unfold capBytes;omega
    refine EvX.ifp hc ?_
    refine EvX.const _ (GL.self (l++[(((i+1:Nat):Int),((j+1:Nat):Int),v)],c2) rfl ⟨h4, ?_⟩)
    exact i2.add (by omega) (by omega) (by omega) hl
   ·have w:wrapK .i64 (((i+1:Nat):Int)+1)=((i+1+1:Nat):Int):=wS (i+1) (by omega)
    simp only[spec_l05Draw_l1,show ¬((3+1:Nat):Int)<4 by omega,decide_false,cond_false,w]
    exact EvX.const _ (GE.up (S:=Unit×(_→Option (List PAcl×Dl01Cur))) (fun p=>p.2 ((),st.1,((i+1+1:Nat):Int),st.2)) (GL.self st rfl ⟨inv.1,inv.2.mono (.inl (by omega))⟩))
  ·obtain⟨l,c⟩:=st
   obtain⟨i1,i2⟩:=inv
   simp only at i1 i2
   simp only[spec_l05Draw_l2,show ¬((2+1:Nat):Int)≤2 by omega,decide_false,cond_false]
   obtain⟨v,c2,h3,h4,h5⟩:=pick_ev c i1 [7,7,6,5,4,0] (by decide) (by decide)
   refine EvX.bind h3 ?_
   have hlen:=i2.len
   have hc:(l.length+([((3:Int),(0:Int),v)]:List PAcl).length)*24≤capBytes:=by show(l.length+1)*24≤_;unfold capBytes;omega
   refine EvX.ifp hc ?_
   refine EvX.const _ (GE.ret (GR.ret ⟨h4, ?_,acl_snoc i2.ent ⟨?_, ?_,.inr ⟨rfl,rfl⟩⟩ fun e he=> ?_,.inr ⟨(3,0,v), ?_,rfl⟩⟩))
   ·rw[List.length_append];show l.length+1≤6;omega
   ·simp at h5;show 0≤v;omega
   ·simp at h5;show v≤7;omega
   ·have:=i2.last e he
    show e.1<3∨e.1=3∧e.2.1<0
    omega
   ·rw[List.length_append];show(l++[_])[l.length+1-1]? =_;simp
 obtain⟨r,h1,h2,h3⟩:=this
 exact⟨r.1,r.2,EvQ.run (fun k=>spec_l05Draw_run k _) h1,h2,h3⟩
end Go.Proofs.Ytkmnlefjlhogaaa

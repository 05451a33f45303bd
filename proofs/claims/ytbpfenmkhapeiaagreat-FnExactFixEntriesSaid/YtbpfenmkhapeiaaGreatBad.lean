/- The tables, the residual functions and lemmas of this seat: parts of the proof of the law; conditions: those that each names. -/
import Derived.Test.YtbpfenmkhapeiaaGreatDng
set_option linter.unusedVariables false
set_option linter.unusedSimpArgs false
set_option maxRecDepth 100000
namespace Go.Proofs.YtbpfenmkhapeiaaGreat
open Go.Eng
section
variable {f:PFS}
noncomputable def dgL(f:PFS)(l:List PEnt)(j:Nat):List Bool:=(l.take j).map (dangB f)
def agAt(l:List PEnt)(t:Nat):Bool:=match l[t]? with|some e=>againB l t e|none=>false
def agnL(l:List PEnt)(j:Nat):List Bool:=(List.range j).map (agAt l)
theorem dgL_len{l:List PEnt}{j:Nat}(h:j≤l.length):(dgL f l j).length=j:=by simp[dgL,h]
theorem agnL_len(l:List PEnt)(j:Nat):(agnL l j).length=j:=by simp[agnL]
theorem dgL_succ{l:List PEnt}{j:Nat}{e:PEnt}(h:l[j]? =some e):dgL f l (j+1)=dgL f l j++[dangB f e]:=by
 have:l.take (j+1)=l.take j++[e]:=by rw[List.take_add_one,h];rfl
 simp[dgL,this]
theorem agnL_succ{l:List PEnt}{j:Nat}{e:PEnt}(h:l[j]? =some e):agnL l (j+1)=agnL l j++[againB l j e]:=by simp[agnL,List.range_succ,agAt,h]
theorem cap_small{n m:Nat}(h:n≤1000000000:=by omega)(hm:m≤1000:=by omega):n*m≤capBytes:=by
 have:n*m≤1000000000*1000:=Nat.mul_le_mul h hm
 unfold capBytes;omega
theorem spec_Bad_ev(hP:fsP f){i:Nat}{n:PInode}(hx:(fI f)[i]? =some n):Ev (fun k=>c_spec_l22Bad k (f,(i:Int))) (dgL f (entsV f n) (entsV f n).length,agnL (entsV f n) (entsV f n).length):=by
 refine EvQ.run (fun k=>spec_l22Bad_run k _ _) ?_
 have hel:=ents_len (blk_ok hP hx) (hP.ino _ _ hx)
 simp only[spec_l22Bad]
 refine EvQ.bind (spec_entries_ev hP (by omega) (nat_at hx)) ?_
 generalize hl:entsV f n=l at*
 refine Ev.eq ?_
 refine EvX.list (L:=fun k _=>spec_l22Bad_l2 k) l (fun(st:List Bool×List Bool) j=>((),l,st.1,st.2,(),(l.length:Int),((j:Nat):Int),f)) (fun st j=>st=(dgL f l j,agnL l j)) (fun st j e he hj inv=> ?_) (fun st inv=> ?_) (([],[]):List Bool×List Bool) rfl
 ·have hm:=ents_mem (f:=f) (n:=n) (e:=e) (by rw[hl];exact List.mem_of_getElem? he)
  obtain⟨_,m0,m1⟩:=hm
  obtain⟨v,hv⟩:=node_at hP m0 m1
  have hv':f.2.2.1[e.2.toNat]? =some v:=hv
  subst inv
  have l1:=dgL_len (f:=f) (Nat.le_of_lt hj)
  have l2:=agnL_len l j
  have key:EvX (fun k (p:Unit×(_→Option (List Bool×List Bool)))=>iter k (spec_l22Bad_l1 k ((),l,dgL f l j++[dangB f e],agnL l j,(j:Int),(),(),(l.length:Int),(j:Int),e,f) p.2) ((),l,dgL f l j++[dangB f e],agnL l j,(),false,(),(l.length:Int),(j:Int),(),(j:Int),(0:Int),e,f))
    (GL (fun(st:List Bool×List Bool) j=>((),l,st.1,st.2,(),(l.length:Int),((j:Nat):Int),f)) (fun st j=>st=(dgL f l j,agnL l j)) j (GR fun x=>x=(dgL f l l.length,agnL l l.length))):=by
   refine EvX.upto (L:=fun k (p:Unit×(_→Option (List Bool×List Bool)))=>spec_l22Bad_l1 k ((),l,dgL f l j++[dangB f e],agnL l j,(j:Int),(),(),(l.length:Int),(j:Int),e,f) p.2) j (fun(st:Bool) t=>((),l,dgL f l j++[dangB f e],agnL l j,(),st,(),(l.length:Int),(j:Int),(),(j:Int),((t:Nat):Int),e,f)) (fun st t=>st=agL (l.take t) e.1) (fun st t ht inv=> ?_) (fun st inv=> ?_) _ 0 (Nat.zero_le _) rfl
   ·obtain⟨o,ho⟩:∃o,l[t]? =some o:=⟨_,List.getElem?_eq_getElem (show t<l.length by omega)⟩
    have h2:=agL_take (s:=e.1) ho
    subst inv
    have c1:(t:Int)<(j:Int):=by omega
    have c2:(t:Int)<((j-0:Nat):Int):=by omega
    simp only[spec_l22Bad_l1,c1,c2,decide_true,cond_true,Int.natCast_nonneg,if_true,Int.toNat_natCast,Nat.zero_add,ho,Option.bind_some,wS t,and_self]
    refine EvX.bif (fun h=>EvX.const _ (GL.self _ rfl ?_)) (fun h=>EvX.const _ (GL.self _ rfl ?_))
    ·rw[h2,h];rfl
    ·rw[h2,h];rfl
   ·subst inv
    have c3:((agnL l j).length+([agL (l.take j) e.1]:List Bool).length)*1≤capBytes:=by simp only[List.length_singleton];exact cap_small
    simp only[spec_l22Bad_l1,Int.lt_irrefl,decide_false,cond_false,if_pos c3,wS j]
    refine EvX.const _ (GE.up (S:=Unit×(_→Option (List Bool×List Bool))) (fun p=>p.2 ((),l,dgL f l j++[dangB f e],agnL l j++[agL (l.take j) e.1],(),(l.length:Int),((j+1:Nat):Int),f)) ?_)
    refine GL.self (dgL f l (j+1),agnL l (j+1)) ?_ rfl
    rw[dgL_succ he,agnL_succ he];rfl
  have c3:∀b:Bool,((dgL f l j).length+([b]:List Bool).length)*1≤capBytes:=fun b=>by simp only[List.length_singleton];exact cap_small
  have c4:(j:Int)≤(l.length:Int):=by omega
  have c5:(((j:Int).toNat-0:Nat):Int)=(j:Int):=by omega
  simp only[spec_l22Bad_l2,Int.ofNat_lt,hj,decide_true,cond_true,Int.natCast_nonneg,if_true,Int.toNat_natCast,he,Option.bind_some]
  cases hz:e.2==0 with
  |true=>
   have hd:dangB f e=true:=by simp only[dangB,hz,Bool.true_or]
   rw[hd]at key
   simp only[cond_true,if_pos (c3 true),joinK,Int.natCast_nonneg,if_true,c4,and_self,Int.toNat_natCast,Nat.sub_zero]
   exact key
  |false=>
   have hd:dangB f e=(v.1==0):=by simp only[dangB,hz,Bool.false_or,hv]
   rw[hd]at key
   simp only[cond_false,m0,if_true,hv',Option.bind_some,if_pos (c3 (v.1==0)),joinK,Int.natCast_nonneg,c4,and_self,Int.toNat_natCast,Nat.sub_zero]
   exact key
 ·simp only[spec_l22Bad_l2,Int.lt_irrefl,decide_false,cond_false]
  exact EvX.const _ (GE.ret (GR.ret inv))
end
end Go.Proofs.YtbpfenmkhapeiaaGreat

/- The tables, the residual functions and lemmas of this seat: parts of the proof of the law; conditions: those that each names. -/
import Derived.Test.YtbpfenmkhapeiaaGreatBad
import Derived.Test.YtbpfenmkhapeiaaGreatUse
set_option linter.unusedVariables false
set_option linter.unusedSimpArgs false
set_option maxRecDepth 100000
namespace Go.Proofs.YtbpfenmkhapeiaaGreat
open Go.Eng
abbrev PProb:=Int×Int×Int
abbrev xLinks(x:PInode):Int:=x.2.2.2.2.1
def flagL(k i:Int)(bs:List Bool):Nat→List PProb
 |0=>[]
 |j+1=>flagL k i bs j++(match bs[j]? with|some true=>[(k,i,(j:Int))]|_=>[])
theorem joinK_inl{T R:Type}(t:T)(g:T→Option R):joinK (some (.inl t)) g=g t:=rfl
theorem flagL_len(k i:Int)(bs:List Bool):∀j,(flagL k i bs j).length≤j
 |0=>Nat.le_refl _
 |j+1=>by
  have ih:=flagL_len k i bs j
  simp only[flagL,List.length_append]
  split<;>simp<;>omega
noncomputable def overQ(f:PFS)(a:Nat):Bool:=match(fQ f)[a]? with
 |some q=>decide (q.1<(cntN f (a:Int) 5:Int))||decide (q.2<(inT (usedBs (fI f)) ((a:Int)*14) 14:Int))
 |none=>false
noncomputable def probN(f:PFS)(vis:Bool)(k:Int)(a:Nat)(n:PInode):List PProb:=
 bif k==1 then(bif (n.1 != 0)&&(decide ((0:Int)<(a:Int))&&(xLinks n != (lnkD f a 20:Int)))then [((1:Int),(a:Int),(lnkD f a 20:Int))]else [])
 else bif k==2 then(bif n.1==2 then flagL 2 a (dgL f (entsV f n) (entsV f n).length) (entsV f n).length else [])
 else bif k==3 then(bif (n.1 != 0)&&(!vis&&(xLinks n != 0))then [((3:Int),(a:Int),(0:Int))]else [])
 else bif k==4 then(bif (n.1==2)&&(decide ((0:Int)<(a:Int))&&decide ((1:Int)<(lnkD f a 20:Int)))then [((4:Int),(a:Int),(lnkD f a 20:Int))]else [])
 else bif k==5 then(bif n.1==2 then flagL 5 a (agnL (entsV f n) (entsV f n).length) (entsV f n).length else [])
 else bif k==6 then(bif (n.1==2)&& !(eqS (recsV (entsV f n) (entsV f n).length) (contV f n))then [((6:Int),(a:Int),(0:Int))]else [])
 else []
noncomputable def probI(f:PFS)(u:List Bool)(k:Int)(a:Nat):List PProb:=
 bif k==7 then(bif decide (a<4)&&overQ f a then [((7:Int),(a:Int),(0:Int))]else [])
 else match(fI f)[a]?,u[a]? with
  |some n,some v=>probN f v k a n
  |_,_=>[]
noncomputable def prbs(f:PFS)(u:List Bool)(k:Int):Nat→List PProb
 |0=>[]
 |a+1=>prbs f u k a++probI f u k a
section
variable {f:PFS} {u:List Bool} {cn:List Int}
theorem prbs_succ(k:Int)(a:Nat):prbs f u k (a+1)=prbs f u k a++probI f u k a:=rfl
theorem probN_len(hP:fsP f){n:PInode}{a:Nat}(hn:(fI f)[a]? =some n)(v:Bool)(k:Int):(probN f v k a n).length≤16:=by
 have hel:=ents_len (blk_ok hP hn) (hP.ino _ _ hn)
 unfold probN
 have h1:=flagL_len 2 a (dgL f (entsV f n) (entsV f n).length) (entsV f n).length
 have h2:=flagL_len 5 a (agnL (entsV f n) (entsV f n).length) (entsV f n).length
 repeat' (first|(apply Nat.le_trans h1;omega)|(apply Nat.le_trans h2;omega)|(simp;done)|(rw[Bool.cond_eq_ite];split))
theorem probI_len(hP:fsP f)(k:Int)(a:Nat):(probI f u k a).length≤16:=by
 unfold probI
 cases k==7 with
 |true=>rw[cond_true];cases decide (a<4)&&overQ f a<;>simp
 |false=>
  rw[cond_false]
  split
  ·rename_i n v hn hv;exact probN_len hP hn v k
  ·simp
theorem prbs_len(hP:fsP f)(k:Int):∀a,(prbs f u k a).length≤16*a
 |0=>Nat.le_refl _
 |a+1=>by
  have h1:=prbs_len hP k a
  have h2:=probI_len hP (u:=u) k a
  simp only[prbs,List.length_append];omega
theorem probI_at{k:Int}{a:Nat}{n:PInode}{v:Bool}(hk:(k==7)=false)(hn:(fI f)[a]? =some n)(hv:u[a]? =some v):probI f u k a=probN f v k a n:=by
 simp only[probI,hk,cond_false,hn,hv]
abbrev KD:=Int×List Int×List Bool×Unit×List PProb×List PInode×Int×Int×PFS
def mkK(f:PFS)(cn:List Int)(u:List Bool)(k:Int)(st:List PProb)(i:Nat):KD:=(k,cn,u,(),st,fI f,((fI f).length:Int),((i:Nat):Int),f)
theorem kind1{S:Type}(hP:fsP f){G:(S→Option (List PProb))→Prop}{i:Nat}{n:PInode}{v:Bool}(hx:(fI f)[i]? =some n)(hv:u[i]? =some v)(hc:cn[i]? =some (lnkD f i 20:Int)){st:List PProb}(inv:st=prbs f u 1 i)(hi:i<(fI f).length):
  EvX (fun k (p:S×(KD→Option (List PProb)))=>spec_l22Kind_l3 k p.2 (mkK f cn u 1 st i)) (GL (mkK f cn u 1) (fun st i=>st=prbs f u 1 i) i G):=by
 have hni:=hP.ni
 have hsl:=prbs_len hP (u:=u) 1 i
 have c1:∀x:PProb,(st.length+([x]:List PProb).length)*24≤capBytes:=fun x=>by rw[inv];simp only[List.length_singleton];exact cap_small
 have q1:((1:Int)==1)=true:=rfl
 have q2:((1:Int)==2)=false:=rfl
 have q3:((1:Int)==3)=false:=rfl
 have q4:((1:Int)==4)=false:=rfl
 have q5:((1:Int)==5)=false:=rfl
 have q6:((1:Int)==6)=false:=rfl
 have q7:((1:Int)==7)=false:=rfl
 have hp:=probI_at (f:=f) (u:=u) q7 hx hv
 simp only[probN,q1,q2,q3,q4,q5,q6,cond_true,cond_false]at hp
 simp only[mkK,spec_l22Kind_l3,Int.ofNat_lt,hi,decide_true,cond_true,Int.natCast_nonneg,if_true,Int.toNat_natCast,hx,Option.bind_some,wS i,q1,q2,q3,q4,q5,q6,cond_false,joinK_inl]
 cases h1:n.1 != 0 with
 |false=>
  simp only[h1,q1,q2,q3,q4,q5,q6,joinK_inl,cond_true,cond_false,Int.natCast_nonneg,if_true,Int.toNat_natCast,wS i,Option.bind_some,cond_false,Bool.false_and]at hp ⊢
  refine EvX.const _ (GL.self _ rfl ?_)
  rw[prbs_succ,hp,List.append_nil];exact inv
 |true=>
  by_cases h2:(0:Int)<(i:Int)
  case neg=>
   simp only[h1,q1,q2,q3,q4,q5,q6,joinK_inl,cond_true,cond_false,Int.natCast_nonneg,if_true,Int.toNat_natCast,wS i,Option.bind_some,h2,decide_false,cond_true,cond_false,Bool.false_and,Bool.true_and]at hp ⊢
   refine EvX.const _ (GL.self _ rfl ?_)
   rw[prbs_succ,hp,List.append_nil];exact inv
  case pos=>
   simp only[h1,q1,q2,q3,q4,q5,q6,joinK_inl,cond_true,cond_false,Int.natCast_nonneg,if_true,Int.toNat_natCast,wS i,Option.bind_some,h2,decide_true,cond_true,Bool.true_and,hc,Option.bind_some]at hp ⊢
   refine EvX.bif (fun h=> ?_) (fun h=> ?_)
   ·rw[h,cond_true]at hp
    try simp only[q1,q2,q3,q4,q5,q6,joinK_inl,cond_true,cond_false,Int.natCast_nonneg,if_true,Int.toNat_natCast,wS i,Option.bind_some,hc,hv]
    refine EvX.ifp (c1 _) ?_
    refine EvX.const _ (GL.self _ rfl ?_)
    rw[prbs_succ,hp,inv]
   ·rw[h,cond_false]at hp
    try simp only[q1,q2,q3,q4,q5,q6,joinK_inl,cond_true,cond_false,Int.natCast_nonneg,if_true,Int.toNat_natCast,wS i,Option.bind_some]
    refine EvX.const _ (GL.self _ rfl ?_)
    rw[prbs_succ,hp,List.append_nil];exact inv
theorem kind3{S:Type}(hP:fsP f){G:(S→Option (List PProb))→Prop}{i:Nat}{n:PInode}{v:Bool}(hx:(fI f)[i]? =some n)(hv:u[i]? =some v)(hc:cn[i]? =some (lnkD f i 20:Int)){st:List PProb}(inv:st=prbs f u 3 i)(hi:i<(fI f).length):
  EvX (fun k (p:S×(KD→Option (List PProb)))=>spec_l22Kind_l3 k p.2 (mkK f cn u 3 st i)) (GL (mkK f cn u 3) (fun st i=>st=prbs f u 3 i) i G):=by
 have hni:=hP.ni
 have hsl:=prbs_len hP (u:=u) 3 i
 have c1:∀x:PProb,(st.length+([x]:List PProb).length)*24≤capBytes:=fun x=>by rw[inv];simp only[List.length_singleton];exact cap_small
 have q1:((3:Int)==1)=false:=rfl
 have q2:((3:Int)==2)=false:=rfl
 have q3:((3:Int)==3)=true:=rfl
 have q4:((3:Int)==4)=false:=rfl
 have q5:((3:Int)==5)=false:=rfl
 have q6:((3:Int)==6)=false:=rfl
 have q7:((3:Int)==7)=false:=rfl
 have hp:=probI_at (f:=f) (u:=u) q7 hx hv
 simp only[probN,q1,q2,q3,q4,q5,q6,cond_true,cond_false]at hp
 simp only[mkK,spec_l22Kind_l3,Int.ofNat_lt,hi,decide_true,cond_true,Int.natCast_nonneg,if_true,Int.toNat_natCast,hx,Option.bind_some,wS i,q1,q2,q3,q4,q5,q6,cond_false,joinK_inl]
 cases h1:n.1 != 0 with
 |false=>
  simp only[h1,q1,q2,q3,q4,q5,q6,joinK_inl,cond_true,cond_false,Int.natCast_nonneg,if_true,Int.toNat_natCast,wS i,Option.bind_some,cond_false,Bool.false_and]at hp ⊢
  refine EvX.const _ (GL.self _ rfl ?_)
  rw[prbs_succ,hp,List.append_nil];exact inv
 |true=>
  simp only[h1,q1,q2,q3,q4,q5,q6,joinK_inl,cond_true,cond_false,Int.natCast_nonneg,if_true,Int.toNat_natCast,wS i,Option.bind_some,cond_true,Bool.true_and,hv,Option.bind_some]at hp ⊢
  cases v with
  |true=>
   simp only[q1,q2,q3,q4,q5,q6,joinK_inl,cond_true,cond_false,Int.natCast_nonneg,if_true,Int.toNat_natCast,wS i,Option.bind_some,Bool.not_true,cond_false,Bool.false_and]at hp ⊢
   refine EvX.const _ (GL.self _ rfl ?_)
   rw[prbs_succ,hp,List.append_nil];exact inv
  |false=>
   simp only[q1,q2,q3,q4,q5,q6,joinK_inl,cond_true,cond_false,Int.natCast_nonneg,if_true,Int.toNat_natCast,wS i,Option.bind_some,Bool.not_false,cond_true,cond_false,Bool.true_and]at hp ⊢
   refine EvX.bif (fun h=> ?_) (fun h=> ?_)
   ·rw[h,cond_true]at hp
    try simp only[q1,q2,q3,q4,q5,q6,joinK_inl,cond_true,cond_false,Int.natCast_nonneg,if_true,Int.toNat_natCast,wS i,Option.bind_some,hc,hv]
    refine EvX.ifp (c1 _) ?_
    refine EvX.const _ (GL.self _ rfl ?_)
    rw[prbs_succ,hp,inv]
   ·rw[h,cond_false]at hp
    try simp only[q1,q2,q3,q4,q5,q6,joinK_inl,cond_true,cond_false,Int.natCast_nonneg,if_true,Int.toNat_natCast,wS i,Option.bind_some]
    refine EvX.const _ (GL.self _ rfl ?_)
    rw[prbs_succ,hp,List.append_nil];exact inv
theorem kind4{S:Type}(hP:fsP f){G:(S→Option (List PProb))→Prop}{i:Nat}{n:PInode}{v:Bool}(hx:(fI f)[i]? =some n)(hv:u[i]? =some v)(hc:cn[i]? =some (lnkD f i 20:Int)){st:List PProb}(inv:st=prbs f u 4 i)(hi:i<(fI f).length):
  EvX (fun k (p:S×(KD→Option (List PProb)))=>spec_l22Kind_l3 k p.2 (mkK f cn u 4 st i)) (GL (mkK f cn u 4) (fun st i=>st=prbs f u 4 i) i G):=by
 have hni:=hP.ni
 have hsl:=prbs_len hP (u:=u) 4 i
 have c1:∀x:PProb,(st.length+([x]:List PProb).length)*24≤capBytes:=fun x=>by rw[inv];simp only[List.length_singleton];exact cap_small
 have q1:((4:Int)==1)=false:=rfl
 have q2:((4:Int)==2)=false:=rfl
 have q3:((4:Int)==3)=false:=rfl
 have q4:((4:Int)==4)=true:=rfl
 have q5:((4:Int)==5)=false:=rfl
 have q6:((4:Int)==6)=false:=rfl
 have q7:((4:Int)==7)=false:=rfl
 have hp:=probI_at (f:=f) (u:=u) q7 hx hv
 simp only[probN,q1,q2,q3,q4,q5,q6,cond_true,cond_false]at hp
 simp only[mkK,spec_l22Kind_l3,Int.ofNat_lt,hi,decide_true,cond_true,Int.natCast_nonneg,if_true,Int.toNat_natCast,hx,Option.bind_some,wS i,q1,q2,q3,q4,q5,q6,cond_false,joinK_inl]
 cases h1:n.1==2 with
 |false=>
  simp only[h1,q1,q2,q3,q4,q5,q6,joinK_inl,cond_true,cond_false,Int.natCast_nonneg,if_true,Int.toNat_natCast,wS i,Option.bind_some,cond_false,Bool.false_and]at hp ⊢
  refine EvX.const _ (GL.self _ rfl ?_)
  rw[prbs_succ,hp,List.append_nil];exact inv
 |true=>
  by_cases h2:(0:Int)<(i:Int)
  case neg=>
   simp only[h1,q1,q2,q3,q4,q5,q6,joinK_inl,cond_true,cond_false,Int.natCast_nonneg,if_true,Int.toNat_natCast,wS i,Option.bind_some,h2,decide_false,cond_true,cond_false,Bool.false_and,Bool.true_and]at hp ⊢
   refine EvX.const _ (GL.self _ rfl ?_)
   rw[prbs_succ,hp,List.append_nil];exact inv
  case pos=>
   simp only[h1,q1,q2,q3,q4,q5,q6,joinK_inl,cond_true,cond_false,Int.natCast_nonneg,if_true,Int.toNat_natCast,wS i,Option.bind_some,h2,decide_true,cond_true,Bool.true_and,hc,Option.bind_some]at hp ⊢
   refine EvX.bif (fun h=> ?_) (fun h=> ?_)
   ·rw[h,cond_true]at hp
    try simp only[q1,q2,q3,q4,q5,q6,joinK_inl,cond_true,cond_false,Int.natCast_nonneg,if_true,Int.toNat_natCast,wS i,Option.bind_some,hc,hv]
    refine EvX.ifp (c1 _) ?_
    refine EvX.const _ (GL.self _ rfl ?_)
    rw[prbs_succ,hp,inv]
   ·rw[h,cond_false]at hp
    try simp only[q1,q2,q3,q4,q5,q6,joinK_inl,cond_true,cond_false,Int.natCast_nonneg,if_true,Int.toNat_natCast,wS i,Option.bind_some]
    refine EvX.const _ (GL.self _ rfl ?_)
    rw[prbs_succ,hp,List.append_nil];exact inv
theorem kind2{S:Type}(hP:fsP f){G:(S→Option (List PProb))→Prop}{i:Nat}{n:PInode}{v:Bool}(hx:(fI f)[i]? =some n)(hv:u[i]? =some v)(hc:cn[i]? =some (lnkD f i 20:Int)){st:List PProb}(inv:st=prbs f u 2 i)(hi:i<(fI f).length):
  EvX (fun k (p:S×(KD→Option (List PProb)))=>spec_l22Kind_l3 k p.2 (mkK f cn u 2 st i)) (GL (mkK f cn u 2) (fun st i=>st=prbs f u 2 i) i G):=by
 have hni:=hP.ni
 have hsl:=prbs_len hP (u:=u) 2 i
 have c1:∀x:PProb,(st.length+([x]:List PProb).length)*24≤capBytes:=fun x=>by rw[inv];simp only[List.length_singleton];exact cap_small
 have q1:((2:Int)==1)=false:=rfl
 have q2:((2:Int)==2)=true:=rfl
 have q3:((2:Int)==3)=false:=rfl
 have q4:((2:Int)==4)=false:=rfl
 have q5:((2:Int)==5)=false:=rfl
 have q6:((2:Int)==6)=false:=rfl
 have q7:((2:Int)==7)=false:=rfl
 have hp:=probI_at (f:=f) (u:=u) q7 hx hv
 simp only[probN,q1,q2,q3,q4,q5,q6,cond_true,cond_false]at hp
 simp only[mkK,spec_l22Kind_l3,Int.ofNat_lt,hi,decide_true,cond_true,Int.natCast_nonneg,if_true,Int.toNat_natCast,hx,Option.bind_some,wS i,q1,q2,q3,q4,q5,q6,cond_false,joinK_inl]
 cases h1:n.1==2 with
 |false=>
  simp only[h1,q1,q2,q3,q4,q5,q6,joinK_inl,cond_true,cond_false,Int.natCast_nonneg,if_true,Int.toNat_natCast,wS i,Option.bind_some,cond_false]at hp ⊢
  refine EvX.const _ (GL.self _ rfl ?_)
  rw[prbs_succ,hp,List.append_nil];exact inv
 |true=>
  simp only[h1,q1,q2,q3,q4,q5,q6,joinK_inl,cond_true,cond_false,Int.natCast_nonneg,if_true,Int.toNat_natCast,wS i,Option.bind_some,cond_true]at hp ⊢
  have hel:=ents_len (blk_ok hP hx) (hP.ino _ _ hx)
  refine EvX.bind (spec_Bad_ev hP hx) ?_
  have hL:(dgL f (entsV f n) (entsV f n).length).length=(entsV f n).length:=dgL_len (Nat.le_refl _)
  simp only[hL]
  generalize hbs:dgL f (entsV f n) (entsV f n).length=bs at*
  have hfl:=flagL_len 2 i bs
  refine EvX.upto (L:=fun k (p:S×(KD→Option (List PProb)))=>spec_l22Kind_l1 k p.2) (entsV f n).length (fun(t:List PProb) j=>((2:Int),cn,u,(),t,((i:Nat):Int),fI f,((fI f).length:Int),((i:Nat):Int),bs,((entsV f n).length:Int),((j:Nat):Int),f)) (fun t j=>t=st++flagL 2 i bs j) (fun t j hj inv'=> ?_) (fun t inv'=> ?_) st 0 (Nat.zero_le _) (by simp[flagL])
  ·obtain⟨b,hb⟩:∃b,bs[j]? =some b:=⟨_,List.getElem?_eq_getElem (show j<bs.length by omega)⟩
   have c2:(j:Int)<(bs.length:Int):=by omega
   have hfj:=hfl j
   have c3:∀x:PProb,(t.length+([x]:List PProb).length)*24≤capBytes:=fun x=>by rw[inv',List.length_append,inv];simp only[List.length_singleton];exact cap_small
   simp only[spec_l22Kind_l1,Int.ofNat_lt,hj,c2,decide_true,cond_true,Int.natCast_nonneg,if_true,Int.toNat_natCast,hb,Option.bind_some,wS j]
   cases b with
   |true=>
    simp only[cond_true]
    refine EvX.ifp (c3 _) ?_
    refine EvX.const _ (GL.self _ rfl ?_)
    rw[inv',flagL,hb,List.append_assoc]
   |false=>
    simp only[cond_false]
    refine EvX.const _ (GL.self _ rfl ?_)
    rw[inv',flagL,hb,List.append_nil]
  ·simp only[spec_l22Kind_l1,Int.lt_irrefl,decide_false,cond_false,wS i]
   refine EvX.const _ (GE.up (S:=S×(KD→Option (List PProb))) (fun p=>p.2 (mkK f cn u 2 t (i+1))) ?_)
   refine GL.self _ rfl ?_
   rw[prbs_succ,hp,inv',inv]
theorem kind5{S:Type}(hP:fsP f){G:(S→Option (List PProb))→Prop}{i:Nat}{n:PInode}{v:Bool}(hx:(fI f)[i]? =some n)(hv:u[i]? =some v)(hc:cn[i]? =some (lnkD f i 20:Int)){st:List PProb}(inv:st=prbs f u 5 i)(hi:i<(fI f).length):
  EvX (fun k (p:S×(KD→Option (List PProb)))=>spec_l22Kind_l3 k p.2 (mkK f cn u 5 st i)) (GL (mkK f cn u 5) (fun st i=>st=prbs f u 5 i) i G):=by
 have hni:=hP.ni
 have hsl:=prbs_len hP (u:=u) 5 i
 have c1:∀x:PProb,(st.length+([x]:List PProb).length)*24≤capBytes:=fun x=>by rw[inv];simp only[List.length_singleton];exact cap_small
 have q1:((5:Int)==1)=false:=rfl
 have q2:((5:Int)==2)=false:=rfl
 have q3:((5:Int)==3)=false:=rfl
 have q4:((5:Int)==4)=false:=rfl
 have q5:((5:Int)==5)=true:=rfl
 have q6:((5:Int)==6)=false:=rfl
 have q7:((5:Int)==7)=false:=rfl
 have hp:=probI_at (f:=f) (u:=u) q7 hx hv
 simp only[probN,q1,q2,q3,q4,q5,q6,cond_true,cond_false]at hp
 simp only[mkK,spec_l22Kind_l3,Int.ofNat_lt,hi,decide_true,cond_true,Int.natCast_nonneg,if_true,Int.toNat_natCast,hx,Option.bind_some,wS i,q1,q2,q3,q4,q5,q6,cond_false,joinK_inl]
 cases h1:n.1==2 with
 |false=>
  simp only[h1,q1,q2,q3,q4,q5,q6,joinK_inl,cond_true,cond_false,Int.natCast_nonneg,if_true,Int.toNat_natCast,wS i,Option.bind_some,cond_false]at hp ⊢
  refine EvX.const _ (GL.self _ rfl ?_)
  rw[prbs_succ,hp,List.append_nil];exact inv
 |true=>
  simp only[h1,q1,q2,q3,q4,q5,q6,joinK_inl,cond_true,cond_false,Int.natCast_nonneg,if_true,Int.toNat_natCast,wS i,Option.bind_some,cond_true]at hp ⊢
  have hel:=ents_len (blk_ok hP hx) (hP.ino _ _ hx)
  refine EvX.bind (spec_Bad_ev hP hx) ?_
  have hL:(agnL (entsV f n) (entsV f n).length).length=(entsV f n).length:=agnL_len _ _
  simp only[hL]
  generalize hbs:agnL (entsV f n) (entsV f n).length=bs at*
  have hfl:=flagL_len 5 i bs
  refine EvX.upto (L:=fun k (p:S×(KD→Option (List PProb)))=>spec_l22Kind_l1 k p.2) (entsV f n).length (fun(t:List PProb) j=>((5:Int),cn,u,(),t,((i:Nat):Int),fI f,((fI f).length:Int),((i:Nat):Int),bs,((entsV f n).length:Int),((j:Nat):Int),f)) (fun t j=>t=st++flagL 5 i bs j) (fun t j hj inv'=> ?_) (fun t inv'=> ?_) st 0 (Nat.zero_le _) (by simp[flagL])
  ·obtain⟨b,hb⟩:∃b,bs[j]? =some b:=⟨_,List.getElem?_eq_getElem (show j<bs.length by omega)⟩
   have c2:(j:Int)<(bs.length:Int):=by omega
   have hfj:=hfl j
   have c3:∀x:PProb,(t.length+([x]:List PProb).length)*24≤capBytes:=fun x=>by rw[inv',List.length_append,inv];simp only[List.length_singleton];exact cap_small
   simp only[spec_l22Kind_l1,Int.ofNat_lt,hj,c2,decide_true,cond_true,Int.natCast_nonneg,if_true,Int.toNat_natCast,hb,Option.bind_some,wS j]
   cases b with
   |true=>
    simp only[cond_true]
    refine EvX.ifp (c3 _) ?_
    refine EvX.const _ (GL.self _ rfl ?_)
    rw[inv',flagL,hb,List.append_assoc]
   |false=>
    simp only[cond_false]
    refine EvX.const _ (GL.self _ rfl ?_)
    rw[inv',flagL,hb,List.append_nil]
  ·simp only[spec_l22Kind_l1,Int.lt_irrefl,decide_false,cond_false,wS i]
   refine EvX.const _ (GE.up (S:=S×(KD→Option (List PProb))) (fun p=>p.2 (mkK f cn u 5 t (i+1))) ?_)
   refine GL.self _ rfl ?_
   rw[prbs_succ,hp,inv',inv]
noncomputable def mkJ(f:PFS)(cn:List Int)(u:List Bool)(st:List PProb)(i:Nat)(n:PInode):Int×List Int×List Bool×Unit×List PProb×Int×Bool×List PInode×Int×Int×Bool×PFS:=
 ((6:Int),cn,u,(),st,((i:Nat):Int),true,fI f,((fI f).length:Int),((i:Nat):Int), !(eqS (recsV (entsV f n) (entsV f n).length) (contV f n)),f)
theorem kind6{S:Type}(hP:fsP f){G:(S→Option (List PProb))→Prop}{i:Nat}{n:PInode}{v:Bool}(hx:(fI f)[i]? =some n)(hv:u[i]? =some v)(hc:cn[i]? =some (lnkD f i 20:Int)){st:List PProb}(inv:st=prbs f u 6 i)(hi:i<(fI f).length):
  EvX (fun k (p:S×(KD→Option (List PProb)))=>spec_l22Kind_l3 k p.2 (mkK f cn u 6 st i)) (GL (mkK f cn u 6) (fun st i=>st=prbs f u 6 i) i G):=by
 have hni:=hP.ni
 have hsl:=prbs_len hP (u:=u) 6 i
 have c1:∀x:PProb,(st.length+([x]:List PProb).length)*24≤capBytes:=fun x=>by rw[inv];simp only[List.length_singleton];exact cap_small
 have q1:((6:Int)==1)=false:=rfl
 have q2:((6:Int)==2)=false:=rfl
 have q3:((6:Int)==3)=false:=rfl
 have q4:((6:Int)==4)=false:=rfl
 have q5:((6:Int)==5)=false:=rfl
 have q6:((6:Int)==6)=true:=rfl
 have q7:((6:Int)==7)=false:=rfl
 have hp:=probI_at (f:=f) (u:=u) q7 hx hv
 simp only[probN,q1,q2,q3,q4,q5,q6,cond_true,cond_false]at hp
 simp only[mkK,spec_l22Kind_l3,Int.ofNat_lt,hi,decide_true,cond_true,Int.natCast_nonneg,if_true,Int.toNat_natCast,hx,Option.bind_some,wS i,q1,q2,q3,q4,q5,q6,cond_false,joinK_inl]
 cases h1:n.1==2 with
 |false=>
  simp only[h1,q1,q2,q3,q4,q5,q6,joinK_inl,cond_true,cond_false,Int.natCast_nonneg,if_true,Int.toNat_natCast,wS i,Option.bind_some,cond_false,Bool.false_and]at hp ⊢
  refine EvX.const _ (GL.self _ rfl ?_)
  rw[prbs_succ,hp,List.append_nil];exact inv
 |true=>
  simp only[h1,q1,q2,q3,q4,q5,q6,joinK_inl,cond_true,cond_false,Int.natCast_nonneg,if_true,Int.toNat_natCast,wS i,Option.bind_some,cond_true,Bool.true_and]at hp ⊢
  have hel:=ents_len (blk_ok hP hx) (hP.ino _ _ hx)
  refine EvX.joinT (mkJ f cn u st i n) True ?_ (fun _=> ?_)
  ·refine EvX.bind (spec_entries_ev hP (by omega) (nat_at hx)) (EvX.bind (spec_records_ev (fun e he=> ?_) (by omega)) (EvX.bind (spec_text_ev (blk_ok hP hx) (hP.ino _ _ hx)) (EvX.const _ (GT.inl trivial))))
   obtain⟨g1,g2,g3⟩:=ents_mem he
   exact⟨g1.1.2,g2,g3⟩
  ·simp only[mkJ,q1,q2,q3,q4,q5,q6,joinK_inl,cond_true,cond_false,Int.natCast_nonneg,if_true,Int.toNat_natCast,wS i,Option.bind_some]
   refine EvX.bif (fun h=> ?_) (fun h=> ?_)
   ·rw[h,cond_true]at hp
    try simp only[q1,q2,q3,q4,q5,q6,joinK_inl,cond_true,cond_false,Int.natCast_nonneg,if_true,Int.toNat_natCast,wS i,Option.bind_some,hc,hv]
    refine EvX.ifp (c1 _) ?_
    refine EvX.const _ (GL.self _ rfl ?_)
    rw[prbs_succ,hp,inv]
   ·rw[h,cond_false]at hp
    try simp only[q1,q2,q3,q4,q5,q6,joinK_inl,cond_true,cond_false,Int.natCast_nonneg,if_true,Int.toNat_natCast,wS i,Option.bind_some]
    refine EvX.const _ (GL.self _ rfl ?_)
    rw[prbs_succ,hp,List.append_nil];exact inv
end
end Go.Proofs.YtbpfenmkhapeiaaGreat

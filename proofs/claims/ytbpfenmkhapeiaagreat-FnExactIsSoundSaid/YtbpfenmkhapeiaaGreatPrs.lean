/- The tables, the residual functions and lemmas of this seat: parts of the proof of the law; conditions: those that each names. -/
import Derived.Test.YtbpfenmkhapeiaaGreatPrb
set_option linter.unusedVariables false
set_option linter.unusedSimpArgs false
set_option maxRecDepth 100000
namespace Go.Proofs.YtbpfenmkhapeiaaGreat
open Go.Eng
section
variable {f:PFS} {u:List Bool} {cn:List Int}
theorem quota_at(hP:fsP f){a:Nat}(h:a<4):∃q,(fQ f)[a]? =some q:=⟨_,List.getElem?_eq_getElem (by have:=hP.nq;omega)⟩
theorem overQ_at{a:Nat}{q:PQuota}(h:(fQ f)[a]? =some q):overQ f a=(decide (q.1<(cntN f (a:Int) 5:Int))||decide (q.2<(inT (usedBs (fI f)) ((a:Int)*14) 14:Int))):=by simp only[overQ,h]
theorem probI_7{a:Nat}(h:a<4):probI f u 7 a=bif overQ f a then [((7:Int),(a:Int),(0:Int))]else []:=by
 have:((7:Int)==7)=true:=rfl
 simp only[probI,this,cond_true,h,decide_true,Bool.true_and]
theorem probI_7n{a:Nat}(h:¬a<4):probI f u 7 a=[]:=by
 have:((7:Int)==7)=true:=rfl
 simp only[probI,this,cond_true,h,decide_false,Bool.false_and,cond_false]
theorem prbs_7:∀a,prbs f u 7 (4+a)=prbs f u 7 4
 |0=>rfl
 |a+1=>by rw[show 4+(a+1)=(4+a)+1 by omega,prbs_succ,prbs_7 a,probI_7n (by omega),List.append_nil]
theorem quota_loop(hP:fsP f):EvX (fun k (_:Unit)=>iter k (spec_l22Kind_l2 k) ((7:Int),(),([]:List PProb),(0:Int),f)) (GR fun x=>x=prbs f u 7 20):=by
 have q7:((7:Int)==7)=true:=rfl
 refine EvX.upto (L:=fun k _=>spec_l22Kind_l2 k) 4 (fun(st:List PProb) a=>((7:Int),(),st,((a:Nat):Int),f)) (fun st a=>st=prbs f u 7 a) (fun st a ha inv=> ?_) (fun st inv=> ?_) _ 0 (by omega) rfl
 ·obtain⟨q,hq⟩:=quota_at hP ha
  have hq':f.2.1[a]? =some q:=hq
  have hsl:=prbs_len hP (u:=u) 7 a
  have c1:∀x:PProb,(st.length+([x]:List PProb).length)*24≤capBytes:=fun x=>by rw[inv];simp only[List.length_singleton];exact cap_small
  have c4:(a:Int)<4:=by omega
  have hp:=probI_7 (f:=f) (u:=u) ha
  rw[overQ_at hq]at hp
  simp only[spec_l22Kind_l2,c4,decide_true,cond_true,q7,Int.natCast_nonneg,if_true,Int.toNat_natCast,hq',Option.bind_some,wS a]
  refine EvX.bind (spec_Inodes_ev hP.w (by omega) (by omega)) ?_
  refine EvX.bif (fun h=> ?_) (fun h=> ?_)
  ·rw[h,Bool.true_or,cond_true]at hp
   refine EvX.ifp (c1 _) ?_
   refine EvX.const _ (GL.self _ rfl ?_)
   rw[prbs_succ,hp,inv]
  ·rw[h,Bool.false_or]at hp
   refine EvX.bind (spec_Blocks_ev hP.w (by omega) (by omega)) ?_
   refine EvX.bif (fun h=> ?_) (fun h=> ?_)
   ·rw[h,cond_true]at hp
    refine EvX.ifp (c1 _) ?_
    refine EvX.const _ (GL.self _ rfl ?_)
    rw[prbs_succ,hp,inv]
   ·rw[h,cond_false]at hp
    refine EvX.const _ (GL.self _ rfl ?_)
    rw[prbs_succ,hp,List.append_nil];exact inv
 ·simp only[spec_l22Kind_l2,show ¬((4:Nat):Int)<4 by omega,decide_false,cond_false]
  refine EvX.const _ (GE.ret (GR.ret ?_))
  rw[inv];exact(prbs_7 16).symm
theorem noquota{K:Int}(hK:(K==7)=false){st r:List PProb}(h:st=r):EvX (fun k (_:Unit)=>iter k (spec_l22Kind_l2 k) (K,(),st,(0:Int),f)) (GR fun x=>x=r):=by
 refine EvX.ofEv (EvL.ev (EvL.stop ?_):Ev _ st) (GR.ret h)
 simp only[spec_l22Kind_l2,show(0:Int)<4 by omega,decide_true,cond_true,hK,cond_false]
 exact EvQ.const _
theorem kind7{S:Type}(hP:fsP f){G:(S→Option (List PProb))→Prop}{i:Nat}{n:PInode}(hx:(fI f)[i]? =some n)(hi:i<(fI f).length){st:List PProb}(inv:st=[]):
  EvX (fun k (p:S×(KD→Option (List PProb)))=>spec_l22Kind_l3 k p.2 (mkK f cn u 7 st i)) (GL (mkK f cn u 7) (fun st i=>st=[]) i G):=by
 have hni:=hP.ni
 have q1:((7:Int)==1)=false:=rfl
 have q2:((7:Int)==2)=false:=rfl
 have q3:((7:Int)==3)=false:=rfl
 have q4:((7:Int)==4)=false:=rfl
 have q5:((7:Int)==5)=false:=rfl
 have q6:((7:Int)==6)=false:=rfl
 have q7:((7:Int)==7)=true:=rfl
 simp only[mkK,spec_l22Kind_l3,Int.ofNat_lt,hi,decide_true,cond_true,Int.natCast_nonneg,if_true,Int.toNat_natCast,hx,Option.bind_some,wS i,q1,q2,q3,q4,q5,q6,cond_false,joinK_inl]
 exact EvX.const _ (GL.self _ rfl inv)
theorem spec_Kind_ev(hP:fsP f)(hu:u.length=20)(hc:∀i,i<20→cn[i]? =some (lnkD f (i:Nat) 20:Int)){K:Int}(h1:1≤K)(h7:K≤7):Ev (fun k=>c_spec_l22Kind k (f,K,cn,u)) (prbs f u K 20):=by
 refine EvQ.run (fun k=>spec_l22Kind_run k _ _ _ _) ?_
 have hni:=hP.ni
 simp only[spec_l22Kind]
 refine Ev.eq ?_
 have hv:∀i,i<(fI f).length→∃v,u[i]? =some v:=fun i hi=>⟨_,List.getElem?_eq_getElem (by omega)⟩
 have hc':∀i,i<(fI f).length→cn[i]? =some (lnkD f (i:Nat) 20:Int):=fun i hi=>hc i (by omega)
 have hk:K=1∨K=2∨K=3∨K=4∨K=5∨K=6∨K=7:=by omega
 rcases hk with rfl|rfl|rfl|rfl|rfl|rfl|rfl
 ·refine EvX.list (L:=fun k _=>spec_l22Kind_l3 k) (fI f) (mkK f cn u 1) (fun st i=>st=prbs f u 1 i) (fun st i n hx hi inv=> ?_) (fun st inv=> ?_) [] rfl
  ·obtain⟨v,hv⟩:=hv i hi
   exact kind1 hP hx hv (hc' i hi) inv hi
  ·simp only[mkK,spec_l22Kind_l3,Int.lt_irrefl,decide_false,cond_false]
   rw[hni]at inv
   exact EvX.out (noquota rfl inv)
 ·refine EvX.list (L:=fun k _=>spec_l22Kind_l3 k) (fI f) (mkK f cn u 2) (fun st i=>st=prbs f u 2 i) (fun st i n hx hi inv=> ?_) (fun st inv=> ?_) [] rfl
  ·obtain⟨v,hv⟩:=hv i hi
   exact kind2 hP hx hv (hc' i hi) inv hi
  ·simp only[mkK,spec_l22Kind_l3,Int.lt_irrefl,decide_false,cond_false]
   rw[hni]at inv
   exact EvX.out (noquota rfl inv)
 ·refine EvX.list (L:=fun k _=>spec_l22Kind_l3 k) (fI f) (mkK f cn u 3) (fun st i=>st=prbs f u 3 i) (fun st i n hx hi inv=> ?_) (fun st inv=> ?_) [] rfl
  ·obtain⟨v,hv⟩:=hv i hi
   exact kind3 hP hx hv (hc' i hi) inv hi
  ·simp only[mkK,spec_l22Kind_l3,Int.lt_irrefl,decide_false,cond_false]
   rw[hni]at inv
   exact EvX.out (noquota rfl inv)
 ·refine EvX.list (L:=fun k _=>spec_l22Kind_l3 k) (fI f) (mkK f cn u 4) (fun st i=>st=prbs f u 4 i) (fun st i n hx hi inv=> ?_) (fun st inv=> ?_) [] rfl
  ·obtain⟨v,hv⟩:=hv i hi
   exact kind4 hP hx hv (hc' i hi) inv hi
  ·simp only[mkK,spec_l22Kind_l3,Int.lt_irrefl,decide_false,cond_false]
   rw[hni]at inv
   exact EvX.out (noquota rfl inv)
 ·refine EvX.list (L:=fun k _=>spec_l22Kind_l3 k) (fI f) (mkK f cn u 5) (fun st i=>st=prbs f u 5 i) (fun st i n hx hi inv=> ?_) (fun st inv=> ?_) [] rfl
  ·obtain⟨v,hv⟩:=hv i hi
   exact kind5 hP hx hv (hc' i hi) inv hi
  ·simp only[mkK,spec_l22Kind_l3,Int.lt_irrefl,decide_false,cond_false]
   rw[hni]at inv
   exact EvX.out (noquota rfl inv)
 ·refine EvX.list (L:=fun k _=>spec_l22Kind_l3 k) (fI f) (mkK f cn u 6) (fun st i=>st=prbs f u 6 i) (fun st i n hx hi inv=> ?_) (fun st inv=> ?_) [] rfl
  ·obtain⟨v,hv⟩:=hv i hi
   exact kind6 hP hx hv (hc' i hi) inv hi
  ·simp only[mkK,spec_l22Kind_l3,Int.lt_irrefl,decide_false,cond_false]
   rw[hni]at inv
   exact EvX.out (noquota rfl inv)
 ·refine EvX.list (L:=fun k _=>spec_l22Kind_l3 k) (fI f) (mkK f cn u 7) (fun st i=>st=[]) (fun st i n hx hi inv=>kind7 hP hx hi inv) (fun st inv=> ?_) [] rfl
  simp only[mkK,spec_l22Kind_l3,Int.lt_irrefl,decide_false,cond_false]
  rw[inv]
  exact EvX.out (quota_loop hP)
noncomputable def eD(f:PFS)(n:PInode):List PEnt:=bif n.1==2 then entsV f n else []
abbrev JD:=Option PFS×Unit×Unit×Unit×Unit×Unit×Unit×List PEnt×PInode×List PProb×List Bool×Int×Int
noncomputable def tJ(f:PFS)(u:List Bool)(n:PInode)(a K:Int):JD:=(some f,(),(),(),(),(),(),eD f n,n,[],u,a,K)
noncomputable def problemsT(k:Nat)(d11:JD):Option (List DProblem):=
 (bif (d11.2.2.2.2.2.2.2.2.2.2.2.2==(1:Int))then(bif (d11.2.2.2.2.2.2.2.2.2.2.2.1 != (0:Int))then(c_impl_FS_links k (d11.1,d11.2.2.2.2.2.2.2.2.2.2.2.1)).bind fun y14=>
  (c_impl_FS_links k (d11.1,d11.2.2.2.2.2.2.2.2.2.2.2.1)).bind fun y15=>
  (bif (d11.2.2.2.2.2.2.2.2.1.2.2.2.2.1 != y14)then(if(d11.2.2.2.2.2.2.2.2.2.1.length+([(d11.2.2.2.2.2.2.2.2.2.2.2.2,d11.2.2.2.2.2.2.2.2.2.2.2.1,y15)]:List DProblem).length)*24≤capBytes then some (d11.2.2.2.2.2.2.2.2.2.1++([(d11.2.2.2.2.2.2.2.2.2.2.2.2,d11.2.2.2.2.2.2.2.2.2.2.2.1,y15)]:List DProblem))else none)else some d11.2.2.2.2.2.2.2.2.2.1)else(c_impl_FS_links k (d11.1,d11.2.2.2.2.2.2.2.2.2.2.2.1)).bind fun y16=>
  some d11.2.2.2.2.2.2.2.2.2.1)else(bif (d11.2.2.2.2.2.2.2.2.2.2.2.2==(2:Int))then iter k (impl_FS_problems_l1 k) (d11.1,(),(),d11.2.2.2.2.2.2.2.1,(d11.2.2.2.2.2.2.2.1.length:Int),(0:Int),d11.2.2.2.2.2.2.2.2.2.1,d11.2.2.2.2.2.2.2.2.2.2.2.1,d11.2.2.2.2.2.2.2.2.2.2.2.2)else(bif (d11.2.2.2.2.2.2.2.2.2.2.2.2==(3:Int))then(if 0≤d11.2.2.2.2.2.2.2.2.2.2.2.1 then(if d11.2.2.2.2.2.2.2.2.2.2.2.1<(20:Int)then(d11.2.2.2.2.2.2.2.2.2.2.1[d11.2.2.2.2.2.2.2.2.2.2.2.1.toNat]?).bind fun y19=>
  (bif (!y19)then(bif (d11.2.2.2.2.2.2.2.2.1.2.2.2.2.1 != (0:Int))then(if(d11.2.2.2.2.2.2.2.2.2.1.length+([(d11.2.2.2.2.2.2.2.2.2.2.2.2,d11.2.2.2.2.2.2.2.2.2.2.2.1,(0:Int))]:List DProblem).length)*24≤capBytes then some (d11.2.2.2.2.2.2.2.2.2.1++([(d11.2.2.2.2.2.2.2.2.2.2.2.2,d11.2.2.2.2.2.2.2.2.2.2.2.1,(0:Int))]:List DProblem))else none)else some d11.2.2.2.2.2.2.2.2.2.1)else some d11.2.2.2.2.2.2.2.2.2.1)else none)else none)else(bif (d11.2.2.2.2.2.2.2.2.2.2.2.2==(4:Int))then(bif (d11.2.2.2.2.2.2.2.2.2.2.2.1 != (0:Int))then(c_impl_FS_isDir k (d11.1,d11.2.2.2.2.2.2.2.2.2.2.2.1)).bind fun y20=>
  (bif y20 then(c_impl_FS_links k (d11.1,d11.2.2.2.2.2.2.2.2.2.2.2.1)).bind fun y21=>
  (c_impl_FS_links k (d11.1,d11.2.2.2.2.2.2.2.2.2.2.2.1)).bind fun y22=>
  (bif (decide ((1:Int)<y21))then(if(d11.2.2.2.2.2.2.2.2.2.1.length+([(d11.2.2.2.2.2.2.2.2.2.2.2.2,d11.2.2.2.2.2.2.2.2.2.2.2.1,y22)]:List DProblem).length)*24≤capBytes then some (d11.2.2.2.2.2.2.2.2.2.1++([(d11.2.2.2.2.2.2.2.2.2.2.2.2,d11.2.2.2.2.2.2.2.2.2.2.2.1,y22)]:List DProblem))else none)else some d11.2.2.2.2.2.2.2.2.2.1)else(c_impl_FS_links k (d11.1,d11.2.2.2.2.2.2.2.2.2.2.2.1)).bind fun y23=>
  some d11.2.2.2.2.2.2.2.2.2.1)else(c_impl_FS_links k (d11.1,d11.2.2.2.2.2.2.2.2.2.2.2.1)).bind fun y24=>
  some d11.2.2.2.2.2.2.2.2.2.1)else(bif (d11.2.2.2.2.2.2.2.2.2.2.2.2==(5:Int))then iter k (impl_FS_problems_l2 k) ((),(),d11.2.2.2.2.2.2.2.1,(d11.2.2.2.2.2.2.2.1.length:Int),(0:Int),d11.2.2.2.2.2.2.2.2.2.1,d11.2.2.2.2.2.2.2.2.2.2.2.1,d11.2.2.2.2.2.2.2.2.2.2.2.2)else(bif (d11.2.2.2.2.2.2.2.2.2.2.2.2==(6:Int))then iter k (impl_FS_problems_l3 k) (d11.1,(),(),(),(⟨#[]⟩:ByteArray),d11.2.2.2.2.2.2.2.1,(d11.2.2.2.2.2.2.2.1.length:Int),(0:Int),d11.2.2.2.2.2.2.2.2.2.1,d11.2.2.2.2.2.2.2.2.2.2.2.1,d11.2.2.2.2.2.2.2.2.2.2.2.2)else some d11.2.2.2.2.2.2.2.2.2.1))))))
theorem impl_head(hP:fsP f){a:Nat}{n:PInode}{v:Bool}(hn:(fI f)[a]? =some n)(hv:u[a]? =some v)(ha:a<20){K:Int}(hK:(K==7)=false)(h0:n.1=0→probN f v K a n=[])
  (h:n.1≠0→EvX (fun k (_:Unit)=>problemsT k (tJ f u n a K)) (GR fun x=>x=probN f v K a n)):Ev (fun k=>c_impl_FS_problems k (some f,K,(a:Int),u)) (probI f u K a):=by
 refine EvQ.run (fun k=>impl_FS_problems_run k _ _ _ _) ?_
 have hn':f.2.2.1[a]? =some n:=hn
 rw[probI_at hK hn hv]
 simp only[impl_FS_problems,hK,cond_false]
 refine EvQ.bind (has_ev (a:Int) (by omega) (by omega) (nat_at hn)) ?_
 cases hz:n.1 != 0 with
 |false=>
  have:n.1=0:=by simpa using hz
  rw[h0 this]
  simp only[Bool.not_false,cond_true]
  exact EvQ.const _
 |true=>
  have hne:n.1≠0:=by simpa using hz
  simp only[Bool.not_true,cond_false,Option.bind_some,Int.natCast_nonneg,if_true,Int.toNat_natCast,hn']
  refine Ev.eq ?_
  refine EvX.joinT (tJ f u n a K) True ?_ fun _=> ?_
  ·refine EvX.bind (isDir_ev (by omega) (by omega) (nat_at hn)) ?_
   cases hd:n.1==2 with
   |true=>
    simp only[cond_true,tJ,eD,hd]
    exact EvX.bind (impl_entries_ev hP (by omega) (nat_at hn)) (EvX.const _ (GT.inl trivial))
   |false=>
    simp only[cond_false,tJ,eD,hd]
    exact EvX.const _ (GT.inl trivial)
  ·exact h hne
theorem iprob1(hP:fsP f){a:Nat}{n:PInode}{v:Bool}(hn:(fI f)[a]? =some n)(hv:u[a]? =some v)(ha:a<20):Ev (fun k=>c_impl_FS_problems k (some f,(1:Int),(a:Int),u)) (probI f u 1 a):=by
 have q1:((1:Int)==1)=true:=rfl
 have q2:((1:Int)==2)=false:=rfl
 have q3:((1:Int)==3)=false:=rfl
 have q4:((1:Int)==4)=false:=rfl
 have q5:((1:Int)==5)=false:=rfl
 have q6:((1:Int)==6)=false:=rfl
 have q7:((1:Int)==7)=false:=rfl
 have c1:∀x:PProb,(([]:List PProb).length+([x]:List PProb).length)*24≤capBytes:=fun x=>by simp only[List.length_singleton,List.length_nil];exact cap_small
 refine impl_head hP hn hv ha q7 (fun h0=> ?_) (fun hne=> ?_)
 ·have:(n.1 != 0)=false:=by rw[h0];rfl
  simp only[probN,q1,q2,q3,q4,q5,q6,cond_true,cond_false,this,Bool.false_and]
 ·have hz:(n.1 != 0)=true:=by simpa using hne
  simp only[problemsT,tJ,probN,q1,q2,q3,q4,q5,q6,cond_true,cond_false,hz,Bool.true_and]
  by_cases h0:a=0
  ·subst h0
   have z1:(((0:Nat):Int) != 0)=false:=rfl
   have z2:¬(0:Int)<((0:Nat):Int):=by omega
   simp only[z1,z2,decide_false,cond_false,Bool.false_and]
   exact EvX.bind (impl_links_ev hP _) (EvX.const _ (GR.ret rfl))
  ·have z1:((a:Int) != 0)=true:=by
    rw[bne_iff_ne];omega
   have z2:(0:Int)<(a:Int):=by omega
   simp only[z1,z2,decide_true,cond_true,Bool.true_and]
   refine EvX.bind (impl_links_ev hP _) (EvX.bind (impl_links_ev hP _) ?_)
   refine EvX.bif (fun h=> ?_) (fun h=> ?_)
   ·refine EvX.ifp (c1 _) ?_
    refine EvX.const _ (GR.ret ?_)
    rw[h];rfl
   ·refine EvX.const _ (GR.ret ?_)
    rw[h];rfl
theorem iprob2(hP:fsP f){a:Nat}{n:PInode}{v:Bool}(hn:(fI f)[a]? =some n)(hv:u[a]? =some v)(ha:a<20):Ev (fun k=>c_impl_FS_problems k (some f,(2:Int),(a:Int),u)) (probI f u 2 a):=by
 have q1:((2:Int)==1)=false:=rfl
 have q2:((2:Int)==2)=true:=rfl
 have q3:((2:Int)==3)=false:=rfl
 have q4:((2:Int)==4)=false:=rfl
 have q5:((2:Int)==5)=false:=rfl
 have q6:((2:Int)==6)=false:=rfl
 have q7:((2:Int)==7)=false:=rfl
 have c1:∀x:PProb,(([]:List PProb).length+([x]:List PProb).length)*24≤capBytes:=fun x=>by simp only[List.length_singleton,List.length_nil];exact cap_small
 refine impl_head hP hn hv ha q7 (fun h0=> ?_) (fun hne=> ?_)
 ·have:(n.1==2)=false:=by rw[h0];rfl
  simp only[probN,q1,q2,q3,q4,q5,q6,cond_true,cond_false,this]
 ·have hz:(n.1 != 0)=true:=by simpa using hne
  simp only[problemsT,tJ,probN,q1,q2,q3,q4,q5,q6,cond_true,cond_false,hz,Bool.true_and]
  have hel:=ents_len (blk_ok hP hn) (hP.ino _ _ hn)
  cases hd:n.1==2 with
  |false=>
   simp only[cond_false,eD,hd,List.length_nil]
   refine EvX.ofEv (EvL.ev (EvL.stop ?_):Ev _ ([]:List PProb)) (GR.ret rfl)
   simp only[impl_FS_problems_l1,Int.lt_irrefl,Int.ofNat_zero,decide_false,cond_false]
   exact EvQ.const _
  |true=>
  simp only[cond_true,eD,hd]
  refine EvX.list (L:=fun k _=>impl_FS_problems_l1 k) (entsV f n) (fun(t:List PProb) j=>(some f,(),(),(entsV f n),((entsV f n).length:Int),((j:Nat):Int),t,(a:Int),(2:Int))) (fun t j=>t=flagL 2 a (dgL f (entsV f n) (entsV f n).length) j) (fun t j e he hj inv=> ?_) (fun t inv=> ?_) [] rfl
  ·have hfl:=flagL_len 2 a (dgL f (entsV f n) (entsV f n).length) j
   have hb:(dgL f (entsV f n) (entsV f n).length)[j]? =some (dangB f e):=by simp[dgL,he]
   have c3:∀x:PProb,(t.length+([x]:List PProb).length)*24≤capBytes:=fun x=>by rw[inv];simp only[List.length_singleton];exact cap_small
   have hm:=ents_mem (List.mem_of_getElem? he)
   simp only[impl_FS_problems_l1,Int.ofNat_lt,hj,decide_true,cond_true,Int.natCast_nonneg,if_true,Int.toNat_natCast,he,Option.bind_some,wS j]
   refine EvX.bind (impl_dangling_ev hP hm.2.1 hm.2.2) ?_
   refine EvX.bif (fun h=> ?_) (fun h=> ?_)
   ·rw[h]at hb
    refine EvX.ifp (c3 _) ?_
    refine EvX.const _ (GL.self _ rfl ?_)
    rw[inv,flagL,hb]
   ·rw[h]at hb
    refine EvX.const _ (GL.self _ rfl ?_)
    rw[inv,flagL,hb,List.append_nil]
  ·simp only[impl_FS_problems_l1,Int.lt_irrefl,decide_false,cond_false]
   exact EvX.const _ (GE.ret (GR.ret inv))
theorem iprob3(hP:fsP f){a:Nat}{n:PInode}{v:Bool}(hn:(fI f)[a]? =some n)(hv:u[a]? =some v)(ha:a<20):Ev (fun k=>c_impl_FS_problems k (some f,(3:Int),(a:Int),u)) (probI f u 3 a):=by
 have q1:((3:Int)==1)=false:=rfl
 have q2:((3:Int)==2)=false:=rfl
 have q3:((3:Int)==3)=true:=rfl
 have q4:((3:Int)==4)=false:=rfl
 have q5:((3:Int)==5)=false:=rfl
 have q6:((3:Int)==6)=false:=rfl
 have q7:((3:Int)==7)=false:=rfl
 have c1:∀x:PProb,(([]:List PProb).length+([x]:List PProb).length)*24≤capBytes:=fun x=>by simp only[List.length_singleton,List.length_nil];exact cap_small
 refine impl_head hP hn hv ha q7 (fun h0=> ?_) (fun hne=> ?_)
 ·have:(n.1 != 0)=false:=by rw[h0];rfl
  simp only[probN,q1,q2,q3,q4,q5,q6,cond_true,cond_false,this,Bool.false_and]
 ·have hz:(n.1 != 0)=true:=by simpa using hne
  simp only[problemsT,tJ,probN,q1,q2,q3,q4,q5,q6,cond_true,cond_false,hz,Bool.true_and]
  have z2:(a:Int)<20:=by omega
  simp only[Int.natCast_nonneg,if_true,z2,Int.toNat_natCast,hv,Option.bind_some]
  cases v with
  |true=>exact EvX.const _ (GR.ret rfl)
  |false=>
   simp only[Bool.not_false,cond_true,Bool.true_and]
   refine EvX.bif (fun h=> ?_) (fun h=> ?_)
   ·refine EvX.ifp (c1 _) ?_
    refine EvX.const _ (GR.ret ?_)
    rw[h];rfl
   ·refine EvX.const _ (GR.ret ?_)
    rw[h];rfl
theorem iprob4(hP:fsP f){a:Nat}{n:PInode}{v:Bool}(hn:(fI f)[a]? =some n)(hv:u[a]? =some v)(ha:a<20):Ev (fun k=>c_impl_FS_problems k (some f,(4:Int),(a:Int),u)) (probI f u 4 a):=by
 have q1:((4:Int)==1)=false:=rfl
 have q2:((4:Int)==2)=false:=rfl
 have q3:((4:Int)==3)=false:=rfl
 have q4:((4:Int)==4)=true:=rfl
 have q5:((4:Int)==5)=false:=rfl
 have q6:((4:Int)==6)=false:=rfl
 have q7:((4:Int)==7)=false:=rfl
 have c1:∀x:PProb,(([]:List PProb).length+([x]:List PProb).length)*24≤capBytes:=fun x=>by simp only[List.length_singleton,List.length_nil];exact cap_small
 refine impl_head hP hn hv ha q7 (fun h0=> ?_) (fun hne=> ?_)
 ·have:(n.1==2)=false:=by rw[h0];rfl
  simp only[probN,q1,q2,q3,q4,q5,q6,cond_true,cond_false,this,Bool.false_and]
 ·have hz:(n.1 != 0)=true:=by simpa using hne
  simp only[problemsT,tJ,probN,q1,q2,q3,q4,q5,q6,cond_true,cond_false,hz,Bool.true_and]
  by_cases h0:a=0
  ·subst h0
   have z1:(((0:Nat):Int) != 0)=false:=rfl
   have z2:¬(0:Int)<((0:Nat):Int):=by omega
   simp only[z1,z2,decide_false,cond_false,Bool.false_and,Bool.and_false]
   exact EvX.bind (impl_links_ev hP _) (EvX.const _ (GR.ret rfl))
  ·have z1:((a:Int) != 0)=true:=by
    rw[bne_iff_ne];omega
   have z2:(0:Int)<(a:Int):=by omega
   simp only[z1,z2,decide_true,cond_true,Bool.true_and]
   refine EvX.bind (isDir_ev (by omega) (by omega) (nat_at hn)) ?_
   refine EvX.bif (fun h=> ?_) (fun h=> ?_)
   ·rw[h]
    refine EvX.bind (impl_links_ev hP _) (EvX.bind (impl_links_ev hP _) ?_)
    refine EvX.bif (fun h=> ?_) (fun h=> ?_)
    ·refine EvX.ifp (c1 _) ?_
     refine EvX.const _ (GR.ret ?_)
     rw[h];rfl
    ·refine EvX.const _ (GR.ret ?_)
     rw[h];rfl
   ·rw[h]
    exact EvX.bind (impl_links_ev hP _) (EvX.const _ (GR.ret rfl))
theorem iprob5(hP:fsP f){a:Nat}{n:PInode}{v:Bool}(hn:(fI f)[a]? =some n)(hv:u[a]? =some v)(ha:a<20):Ev (fun k=>c_impl_FS_problems k (some f,(5:Int),(a:Int),u)) (probI f u 5 a):=by
 have q1:((5:Int)==1)=false:=rfl
 have q2:((5:Int)==2)=false:=rfl
 have q3:((5:Int)==3)=false:=rfl
 have q4:((5:Int)==4)=false:=rfl
 have q5:((5:Int)==5)=true:=rfl
 have q6:((5:Int)==6)=false:=rfl
 have q7:((5:Int)==7)=false:=rfl
 have c1:∀x:PProb,(([]:List PProb).length+([x]:List PProb).length)*24≤capBytes:=fun x=>by simp only[List.length_singleton,List.length_nil];exact cap_small
 refine impl_head hP hn hv ha q7 (fun h0=> ?_) (fun hne=> ?_)
 ·have:(n.1==2)=false:=by rw[h0];rfl
  simp only[probN,q1,q2,q3,q4,q5,q6,cond_true,cond_false,this]
 ·have hz:(n.1 != 0)=true:=by simpa using hne
  simp only[problemsT,tJ,probN,q1,q2,q3,q4,q5,q6,cond_true,cond_false,hz,Bool.true_and]
  have hel:=ents_len (blk_ok hP hn) (hP.ino _ _ hn)
  cases hd:n.1==2 with
  |false=>
   simp only[cond_false,eD,hd,List.length_nil]
   refine EvX.ofEv (EvL.ev (EvL.stop ?_):Ev _ ([]:List PProb)) (GR.ret rfl)
   simp only[impl_FS_problems_l2,Int.lt_irrefl,Int.ofNat_zero,decide_false,cond_false]
   exact EvQ.const _
  |true=>
  simp only[cond_true,eD,hd]
  refine EvX.list (L:=fun k _=>impl_FS_problems_l2 k) (entsV f n) (fun(t:List PProb) j=>((),(),(entsV f n),((entsV f n).length:Int),((j:Nat):Int),t,(a:Int),(5:Int))) (fun t j=>t=flagL 5 a (agnL (entsV f n) (entsV f n).length) j) (fun t j e he hj inv=> ?_) (fun t inv=> ?_) [] rfl
  ·have hfl:=flagL_len 5 a (agnL (entsV f n) (entsV f n).length) j
   have hb:(agnL (entsV f n) (entsV f n).length)[j]? =some (againB (entsV f n) j e):=by
    rw[agnL,List.getElem?_map,List.getElem?_range hj]
    simp only[Option.map_some,agAt,he]
   have c3:∀x:PProb,(t.length+([x]:List PProb).length)*24≤capBytes:=fun x=>by rw[inv];simp only[List.length_singleton];exact cap_small
   simp only[impl_FS_problems_l2,Int.ofNat_lt,hj,decide_true,cond_true,Int.natCast_nonneg,if_true,wS j]
   refine EvX.bind (impl_repeated_ev (by omega) he) ?_
   refine EvX.bif (fun h=> ?_) (fun h=> ?_)
   ·rw[h]at hb
    refine EvX.ifp (c3 _) ?_
    refine EvX.const _ (GL.self _ rfl ?_)
    rw[inv,flagL,hb]
   ·rw[h]at hb
    refine EvX.const _ (GL.self _ rfl ?_)
    rw[inv,flagL,hb,List.append_nil]
  ·simp only[impl_FS_problems_l2,Int.lt_irrefl,decide_false,cond_false]
   exact EvX.const _ (GE.ret (GR.ret inv))
theorem iprob6(hP:fsP f){a:Nat}{n:PInode}{v:Bool}(hn:(fI f)[a]? =some n)(hv:u[a]? =some v)(ha:a<20):Ev (fun k=>c_impl_FS_problems k (some f,(6:Int),(a:Int),u)) (probI f u 6 a):=by
 have q1:((6:Int)==1)=false:=rfl
 have q2:((6:Int)==2)=false:=rfl
 have q3:((6:Int)==3)=false:=rfl
 have q4:((6:Int)==4)=false:=rfl
 have q5:((6:Int)==5)=false:=rfl
 have q6:((6:Int)==6)=true:=rfl
 have q7:((6:Int)==7)=false:=rfl
 have c1:∀x:PProb,(([]:List PProb).length+([x]:List PProb).length)*24≤capBytes:=fun x=>by simp only[List.length_singleton,List.length_nil];exact cap_small
 refine impl_head hP hn hv ha q7 (fun h0=> ?_) (fun hne=> ?_)
 ·have:(n.1==2)=false:=by rw[h0];rfl
  simp only[probN,q1,q2,q3,q4,q5,q6,cond_true,cond_false,this,Bool.false_and]
 ·have hz:(n.1 != 0)=true:=by simpa using hne
  simp only[problemsT,tJ,probN,q1,q2,q3,q4,q5,q6,cond_true,cond_false,hz,Bool.true_and]
  have hel:=ents_len (blk_ok hP hn) (hP.ino _ _ hn)
  have hE:eD f n=bif n.1==2 then entsV f n else []:=rfl
  have hm:∀e∈eD f n,e.1.size≤12∧0≤e.2∧e.2<20:=fun e he=>by
   rw[hE]at he
   cases hd:n.1==2 with
   |true=>rw[hd,cond_true]at he;obtain⟨g1,g2,g3⟩:=ents_mem he;exact⟨g1.1.2,g2,g3⟩
   |false=>rw[hd,cond_false]at he;cases he
  have hEl:(eD f n).length≤16:=by
   rw[hE]
   cases n.1==2 with
   |true=>exact hel
   |false=>exact Nat.zero_le _
  refine EvX.list (L:=fun k _=>impl_FS_problems_l3 k) (eD f n) (fun(t:ByteArray) j=>(some f,(),(),(),t,eD f n,((eD f n).length:Int),((j:Nat):Int),([]:List PProb),(a:Int),(6:Int))) (fun t j=>t=recsV (eD f n) j) (fun t j e he hj inv=> ?_) (fun t inv=> ?_) _ rfl
  ·subst inv
   obtain⟨g1,g2,g3⟩:=hm e (List.mem_of_getElem? he)
   have hr:=recV_size e
   have hrs:=recsV_size (fun e he=>(hm e he).1) j
   simp only[impl_FS_problems_l3,Int.ofNat_lt,hj,decide_true,cond_true,Int.natCast_nonneg,if_true,Int.toNat_natCast,he,Option.bind_some,wS j]
   refine EvX.bind (impl_record_ev e (by omega) g2 (by omega)) (EvX.ifp (by omega) ?_)
   refine EvX.const _ (GL.self _ rfl ?_)
   simp only[recsV,he]
  ·simp only[impl_FS_problems_l3,Int.lt_irrefl,decide_false,cond_false]
   refine EvX.bind (isDir_ev (by omega) (by omega) (nat_at hn)) ?_
   refine EvX.bif (fun h=> ?_) (fun h=> ?_)
   ·rw[h,cond_true]at hE
    rw[hE]at inv
    rw[h]
    refine EvX.bind (impl_content_ev (by omega) (nat_at hn) (blk_ok hP hn) (hP.ino _ _ hn)) ?_
    rw[←inv]
    simp only[Bool.true_and]
    refine EvX.bif (fun h=> ?_) (fun h=> ?_)
    ·refine EvX.ifp (c1 _) ?_
     refine EvX.const _ (GE.ret (GR.ret ?_))
     rw[h];rfl
    ·refine EvX.const _ (GE.ret (GR.ret ?_))
     rw[h];rfl
   ·rw[h]
    exact EvX.const _ (GE.ret (GR.ret rfl))
theorem iprob7(hP:fsP f){a:Nat}(ha:a<20):Ev (fun k=>c_impl_FS_problems k (some f,(7:Int),(a:Int),u)) (probI f u 7 a):=by
 have q7:((7:Int)==7)=true:=rfl
 have c1:∀x:PProb,(([]:List PProb).length+([x]:List PProb).length)*24≤capBytes:=fun x=>by simp only[List.length_singleton,List.length_nil];exact cap_small
 refine EvQ.run (fun k=>impl_FS_problems_run k _ _ _ _) ?_
 simp only[impl_FS_problems,q7,cond_true]
 refine EvQ.bind (isUser_ev _) ?_
 by_cases h4:a<4
 ·obtain⟨q,hq⟩:=quota_at hP h4
  have hq':f.2.1[a]? =some q:=hq
  have d1:(0:Int)≤(a:Int)∧(a:Int)≤3:=by omega
  have d2:(a:Int).tmod 4=(a:Int):=by
   rw[show(4:Int)=((4:Nat):Int)from rfl,←Int.ofNat_tmod,Nat.mod_eq_of_lt h4]
  have hp:=probI_7 (f:=f) (u:=u) h4
  rw[overQ_at hq]at hp
  have d3:((4:Int):Int)≠0:=by decide
  simp only[d1,and_self,decide_true,cond_true,d2,d3,if_true,Option.bind_some,Int.natCast_nonneg,Int.toNat_natCast,hq',ne_eq,not_false_eq_true]
  refine EvQ.bind (impl_inodes_ev hP.w (by omega) (by omega)) ?_
  cases h:decide (q.1<(cntN f (a:Int) 5:Int))with
  |true=>
   rw[h,Bool.true_or,cond_true]at hp
   rw[hp]
   simp only[cond_true,if_pos (c1 _)]
   exact EvQ.const _
  |false=>
   rw[h,Bool.false_or]at hp
   simp only[cond_false]
   refine EvQ.bind (impl_blocks_ev hP.w (by omega) (by omega)) ?_
   rw[hp]
   cases h2:decide (q.2<(inT (usedBs (fI f)) ((a:Int)*14) 14:Int))with
   |true=>
    simp only[cond_true,if_pos (c1 _)]
    exact EvQ.const _
   |false=>
    simp only[cond_false]
    exact EvQ.const _
 ·have d1:¬((0:Int)≤(a:Int)∧(a:Int)≤3):=by omega
  rw[probI_7n h4]
  simp only[d1,decide_false,cond_false]
  exact EvQ.const _
end
end Go.Proofs.YtbpfenmkhapeiaaGreat

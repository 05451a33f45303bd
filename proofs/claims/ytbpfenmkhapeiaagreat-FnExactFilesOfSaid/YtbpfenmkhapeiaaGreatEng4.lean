/- The engine, part 4: a symbolic interpreter of the model's programs and the proof that its runs are what the functions do; conditions: those that its theorems name. -/
import Derived.Test.YtbpfenmkhapeiaaGreatEng3
set_option linter.unusedVariables false
set_option linter.unusedSimpArgs false
namespace Go.Eng
section
def Ty.plainT:Ty→Bool
 | .int _| .bool| .str=>true
 | .list _ t=>t.plainT
 | .pair a b=>a.plainT&&b.plainT
 |_=>false
def okD:(t:Ty)→t.D→Prop
 | .int k,n=>(Lit.int k n).wf=true
 | .str,(s:ByteArray)=>s.size≤maxLen
 | .list _ t,(l:List t.D)=>l.length≤maxLen∧∀x∈l,okD t x
 | .pair a b,x=>okD a x.1∧okD b x.2
 |_,_=>True
abbrev wrapK(k:IntKind)(n:Int):Int:=k.wrap n
section
variable {α:Type}
def copyL(c:Nat→α→Option α)(k:Nat)(self:(List α×(List α×Int))→Option (List α))(d:(List α×(List α×Int))):Option (List α):=
 (bif (decide (d.2.2<(d.1.length:Int)))then(if 0≤d.2.2 then(d.1[d.2.2.toNat]?).bind fun v0=>
  (c k v0).bind fun v1=>
  (if 0≤d.2.2 then(if d.2.2<(d.2.1.length:Int)then(d.2.1[d.2.2.toNat]?).bind fun v2=>
  self (d.1,(d.2.1.set d.2.2.toNat v1),(wrapK .i64 (d.2.2+(1:Int))))else none)else none)else none)else some d.2.1)
def copyL0(k:Nat)(self:(List α×(List α×Int))→Option (List α))(d:(List α×(List α×Int))):Option (List α):=
 (bif (decide (d.2.2<(d.1.length:Int)))then(if 0≤d.2.2 then(d.1[d.2.2.toNat]?).bind fun v0=>
  (if 0≤d.2.2 then(if d.2.2<(d.2.1.length:Int)then(d.2.1[d.2.2.toNat]?).bind fun v1=>
  self (d.1,(d.2.1.set d.2.2.toNat v0),(wrapK .i64 (d.2.2+(1:Int))))else none)else none)else none)else some d.2.1)
theorem wrap_succ{i n:Nat}(h:i<n)(hn:n<4611686018427387904):wrapK .i64 ((i:Int)+1)=((i+1:Nat):Int):=by
 rw[wrapK,wrap_i64 (by omega) (by omega)];omega
theorem take_set_drop{l m:List α}{i:Nat}{x:α}(hx:l[i]? =some x)(hm:m.length=l.length):(l.take i++m.drop i).set i x=l.take (i+1)++m.drop (i+1):=by
 have hi:i<l.length:=(List.getElem?_eq_some_iff.1 hx).1
 have ht:(l.take i).length=i:=by simp;omega
 rw[List.set_append_right _ _ (by omega),ht,Nat.sub_self,List.drop_eq_getElem_cons (by omega:i<m.length),List.set_cons_zero,List.take_add_one,hx]
 simp
theorem copyL_ev{c:Nat→α→Option α}{l:List α}(h:∀x∈l,Ev (fun k=>c k x) x)(hl:l.length<4611686018427387904)(m:List α)(hm:m.length=l.length):
  Ev (fun k=>iter k (copyL c k) (l,m,(0:Int))) l:=by
 refine EvL.ev ?_
 have:=EvL.count (L:=copyL c) (r:=l) (fun i=>(l,l.take i++m.drop i,(i:Int))) l.length (fun i hi=> ?_) (EvL.stop ?_)
 ·simpa using this
 ·have hx:l[i]? =some l[i]:=List.getElem?_eq_getElem hi
  have hlen:i<(l.take i++m.drop i).length:=by simp;omega
  have e1:EvQ (fun k=>c k l[i]) (some l[i]):=h _ (List.getElem_mem hi)
  simp only[EvS,copyL,Int.toNat_natCast,hx,Option.bind_some,Int.natCast_nonneg,if_true,Int.ofNat_lt,hi,decide_true,cond_true,hlen,List.getElem?_eq_getElem hlen]
  refine EvQ.bindS e1 ?_
  simp only[take_set_drop hx hm,wrap_succ hi hl]
  exact EvQ.const _
 ·simp only[copyL,Int.ofNat_lt,Nat.lt_irrefl,decide_false,cond_false]
  have:l.take l.length++m.drop l.length=l:=by rw[←hm];simp[hm]
  rw[this]
  exact EvQ.const _
theorem copyL0_eq:(copyL0:Nat→_→_→Option (List α))=copyL fun _ x=>some x:=by
 funext k self d
 simp[copyL0,copyL]
def eqL(c:Nat→α×α→Option Bool)(k:Nat)(self:(List α×(List α×Int))→Option Bool)(d:(List α×(List α×Int))):Option Bool:=
 (bif (decide (d.2.2<(d.1.length:Int)))then(if 0≤d.2.2 then(d.1[d.2.2.toNat]?).bind fun v0=>
  (if 0≤d.2.2 then(d.2.1[d.2.2.toNat]?).bind fun v1=>
  (c k (v0,v1)).bind fun v2=>
  (bif (!v2)then some false else self (d.1,d.2.1,(wrapK .i64 (d.2.2+(1:Int)))))else none)else none)else some true)
theorem eqL_ev{c:Nat→α×α→Option Bool}{l:List α}(h:∀x∈l,Ev (fun k=>c k (x,x)) true)(hl:l.length<4611686018427387904):Ev (fun k=>iter k (eqL c k) (l,l,(0:Int))) true:=by
 refine EvL.ev ?_
 have:=EvL.count (L:=eqL c) (r:=true) (fun i=>(l,l,(i:Int))) l.length (fun i hi=> ?_) (EvL.stop ?_)
 ·simpa using this
 ·have hx:l[i]? =some l[i]:=List.getElem?_eq_getElem hi
  have e1:EvQ (fun k=>c k (l[i],l[i])) (some true):=h _ (List.getElem_mem hi)
  simp only[EvS,eqL,Int.toNat_natCast,hx,Option.bind_some,Int.natCast_nonneg,if_true,Int.ofNat_lt,hi,decide_true,cond_true]
  refine EvQ.bindS e1 ?_
  simp only[wrap_succ hi hl,Bool.not_true,cond_false]
  exact EvQ.const _
 ·simp only[eqL,Int.ofNat_lt,Nat.lt_irrefl,decide_false,cond_false]
  exact EvQ.const _
def szR(m:Nat)(left:Int):Int:=if(m:Int)≤left then left-m else-1
theorem szR_nonneg{m:Nat}{left:Int}(h:¬szR m left<0):(m:Int)≤left∧szR m left=left-m:=by
 unfold szR at*
 split
 ·rename_i h1;exact⟨h1,rfl⟩
 ·rename_i h1;rw[if_neg h1]at h;omega
def szL(c:Nat→α×Int→Option Int)(k:Nat)(self:(List α×(Int×Int))→Option Int)(d:(List α×(Int×Int))):Option Int:=
 (bif (decide (d.2.2<(d.1.length:Int)))then(if 0≤d.2.2 then(d.1[d.2.2.toNat]?).bind fun v0=>
  (c k (v0,d.2.1)).bind fun v1=>
  (bif (decide (v1<(0:Int)))then some (-1:Int)else self (d.1,v1,(wrapK .i64 (d.2.2+(1:Int)))))else none)else some d.2.1)
theorem szL_ev{c:Nat→α×Int→Option Int}{sz:α→Nat}{l:List α}(h:∀x∈l,∀left:Int,0≤left→left≤1048576→Ev (fun k=>c k (x,left)) (szR (sz x) left))(hl:l.length<4611686018427387904){left:Int}(h0:0≤left)(h1:left≤1048576):
  Ev (fun k=>iter k (szL c k) (l,left,(0:Int))) (szR (l.map sz).sum left):=by
 refine EvL.ev ?_
 have key:∀(m:List α) (i:Nat) (left:Int),l.drop i=m→i≤l.length→0≤left→left≤1048576→EvL (szL c) (l,left,(i:Int)) (szR (m.map sz).sum left):=by
  intro m
  induction m with
  |nil=>
   intro i left hd hi h0 h1
   have:l.length≤i:=List.drop_eq_nil_iff.1 hd
   have:i=l.length:=by omega
   subst this
   refine EvL.stop ?_
   simp only[szL,Int.ofNat_lt,Nat.lt_irrefl,decide_false,cond_false]
   have:szR (List.map sz []).sum left=left:=by simp[szR,h0]
   rw[this]
   exact EvQ.const _
  |cons x m ih=>
   intro i left hd hi h0 h1
   have hlt:i<l.length:=by
    rcases Nat.lt_or_ge i l.length with h|h
    ·exact h
    ·rw[List.drop_eq_nil_iff.2 h]at hd;cases hd
   have hx:l[i]? =some x:=by
    have:=List.getElem?_drop (xs:=l) (i:=i) (j:=0)
    rw[hd]at this
    simpa using this.symm
   have e1:EvQ (fun k=>c k (x,left)) (some (szR (sz x) left)):=h x (List.mem_of_getElem? hx) left h0 h1
   have htl:l.drop (i+1)=m:=by rw[←List.tail_drop,hd];rfl
   by_cases hneg:szR (sz x) left<0
   ·refine EvL.stop ?_
    simp only[szL,Int.toNat_natCast,hx,Option.bind_some,Int.natCast_nonneg,if_true,Int.ofNat_lt,hlt,decide_true,cond_true]
    refine EvQ.bindS e1 ?_
    simp only[hneg,decide_true,cond_true]
    have:szR (List.map sz (x::m)).sum left= -1:=by
     simp only[szR,List.map_cons,List.sum_cons]at hneg ⊢
     split at hneg
     ·omega
     ·rw[if_neg (by omega)]
    rw[this]
    exact EvQ.const _
   ·obtain⟨k1,k2⟩:=szR_nonneg hneg
    refine EvL.step (d':=(l,szR (sz x) left,((i+1:Nat):Int))) ?_ ?_
    ·simp only[EvS,szL,Int.toNat_natCast,hx,Option.bind_some,Int.natCast_nonneg,if_true,Int.ofNat_lt,hlt,decide_true,cond_true]
     refine EvQ.bindS e1 ?_
     simp only[hneg,decide_false,cond_false,wrap_succ hlt hl]
     exact EvQ.const _
    ·have:=ih (i+1) (szR (sz x) left) htl (by omega) (by omega) (by omega)
     have e2:szR (List.map sz m).sum (szR (sz x) left)=szR (List.map sz (x::m)).sum left:=by
      rw[k2]
      simp only[szR,List.map_cons,List.sum_cons]
      split<;>split<;>omega
     rw[e2]at this
     exact this
 exact key l 0 left rfl (Nat.zero_le _) h0 h1
def markF(e:α→Int→α)(n:Int):List α→Int→List α
 |[],_=>[]
 |x::l,m=>e x m::markF e n l (m+n)
theorem markF_length(e:α→Int→α)(n:Int):∀(l:List α) (m:Int),(markF e n l m).length=l.length
 |[],m=>rfl
 |x::l,m=>by simp[markF,markF_length e n l]
theorem markF_get(e:α→Int→α)(n:Int):∀(l:List α) (m:Int) (i:Nat) (x:α),l[i]? =some x→(markF e n l m)[i]? =some (e x (m+n*i))
 |y::l,m,0,x,h=>by simp at h;subst h;simp[markF]
 |y::l,m,i+1,x,h=>by
  simp only[List.getElem?_cons_succ]at h
  simp only[markF,List.getElem?_cons_succ]
  rw[markF_get e n l (m+n) i x h]
  congr 2
  have:((i+1:Nat):Int)=(i:Int)+1:=by omega
  rw[this,Int.mul_add,Int.mul_one]
  omega
 |[],m,i,x,h=>by simp at h
theorem markL_ev{β:Type}{L:Nat→((Unit×(Int×(Int×List α)))→Option β)→(Unit×(Int×(Int×List α)))→Option β}(e:α→Int→α)(n:Int)(l0:List α)(m0:Int)(fin:Int→List α→β)
  (hs:∀(i:Nat) (l:List α) (x:α),l.length=l0.length→l[i]? =some x→i<l0.length→EvS L ((),m0+n*i,(i:Int),l) ((),m0+n*(i+1:Nat),((i+1:Nat):Int),l.set i (e x (m0+n*i))))
  (he:∀(l:List α),l.length=l0.length→EvL L ((),m0+n*l0.length,(l0.length:Int),l) (fin (m0+n*l0.length) l)):
  EvL L ((),m0,(0:Int),l0) (fin (m0+n*l0.length) (markF e n l0 m0)):=by
 have:=EvL.count (L:=L) (r:=fin (m0+n*l0.length) (markF e n l0 m0)) (fun i=>((),m0+n*i,(i:Int),(markF e n l0 m0).take i++l0.drop i)) l0.length (fun i hi=> ?_) ?_
 ·simpa using this
 ·have hx:l0[i]? =some l0[i]:=List.getElem?_eq_getElem hi
  have hlen:((markF e n l0 m0).take i++l0.drop i).length=l0.length:=by simp[markF_length];omega
  have ht:((markF e n l0 m0).take i).length=i:=by simp[markF_length];omega
  have hg:((markF e n l0 m0).take i++l0.drop i)[i]? =some l0[i]:=by
   rw[List.getElem?_append_right (by omega),ht,Nat.sub_self,List.getElem?_drop]
   simp
  have h1:=hs i _ _ hlen hg hi
  rw[take_set_drop (markF_get e n l0 m0 i _ hx) (markF_length e n l0 m0).symm]at h1
  exact h1
 ·have h2:(markF e n l0 m0).take l0.length++l0.drop l0.length=markF e n l0 m0:=by
   rw[List.take_of_length_le (by rw[markF_length];exact Nat.le_refl _)];simp
  simp only[h2]
  exact he _ (markF_length e n l0 m0)
theorem heldL_ev{D β:Type}{L:Nat→(D→Option β)→D→Option β}(st:Int→Int→D)(e:α→Int→α)(n:Int)(l0:List α)(m0:Int){r:β}
  (hs:∀(i:Nat) (x:α),(markF e n l0 m0)[i]? =some (e x (m0+n*i))→i<l0.length→EvS L (st (m0+n*i) (i:Int)) (st (m0+n*(i+1:Nat)) ((i+1:Nat):Int)))
  (he:EvL L (st (m0+n*l0.length) (l0.length:Int)) r):EvL L (st m0 0) r:=by
 have:=EvL.count (L:=L) (r:=r) (fun i=>st (m0+n*i) (i:Int)) l0.length (fun i hi=>hs i l0[i] (markF_get e n l0 m0 i _ (List.getElem?_eq_getElem hi)) hi) he
 simpa using this
end
theorem eqS_iff(a b:ByteArray):eqS a b=true↔a=b:=by
 have h0:eqS a b=(a.data==b.data):=rfl
 rw[h0,beq_iff_eq]
 constructor
 ·intro h;cases a;cases b;exact congrArg ByteArray.mk h
 ·intro h;rw[h]
theorem eqS_refl(a:ByteArray):eqS a a=true:=(eqS_iff a a).2 rfl
theorem le_sum_map{α:Type}(f:α→Nat):∀{l:List α} {x:α},x∈l→f x≤(l.map f).sum
 |y::l,x,h=>by
  simp only[List.map_cons,List.sum_cons]
  rcases List.mem_cons.1 h with rfl|h
  ·omega
  ·have:=le_sum_map f h;omega
theorem szR_neg{m:Nat}{left:Int}(h:szR m left<0)(h0:0≤left:=by omega):left<m:=by
 unfold szR at h
 split at h
 ·omega
 ·omega
theorem szR_add{n m:Nat}{left:Int}(h:(n:Int)≤left):szR m (left-n)=szR (n+m) left:=by
 simp only[szR]
 split<;>split<;>omega
def szStrC(_:Nat)(p:ByteArray×Int):Option Int:=bif decide (wrapK .i64 (p.2-(p.1.size:Int))<0)then some (-1)else some (wrapK .i64 (p.2-(p.1.size:Int)))
theorem szStr_ev(s:ByteArray)(hs:okD .str s){left:Int}(h0:0≤left)(h1:left≤1048576):Ev (fun k=>szStrC k (s,left)) (szR s.size left):=by
 have hn:s.size≤9223372036854775807:=hs
 have e0:wrapK .i64 (left-(s.size:Int))=left-s.size:=wrap_i64 (by omega) (by omega)
 simp only[szStrC,e0]
 by_cases c0:left-(s.size:Int)<0
 ·simp only[c0,decide_true,cond_true];exact⟨0,fun k _=>by rw[szR,if_neg (by omega)]⟩
 ·simp only[c0,decide_false,cond_false];exact⟨0,fun k _=>by rw[szR,if_pos (by omega)]⟩
theorem szStr_eq(k:Nat)(self:(List ByteArray×(Int×Int))→Option Int)(d:List ByteArray×(Int×Int)):
  (bif (decide (d.2.2<(d.1.length:Int)))then(if 0≤d.2.2 then(d.1[d.2.2.toNat]?).bind fun v0=>
   (bif (decide ((wrapK .i64 (d.2.1-(v0.size:Int)))<(0:Int)))then some (-1:Int)else self (d.1,(wrapK .i64 (d.2.1-(v0.size:Int))),(wrapK .i64 (d.2.2+(1:Int)))))else none)else some d.2.1)=szL szStrC k self d:=by
 simp only[szL]
 congr 1
 split
 ·congr 1
  funext v0
  cases hd:decide (wrapK .i64 (d.2.1-(v0.size:Int))<0)with
  |true=>simp[szStrC,hd]
  |false=>simp[szStrC,hd]
 ·rfl
end
section
section
variable {H:Type} {enc:TypeId×Value→H} {P:Program} {W:World} {sp:Nat→Bool}
theorem cells?_stand{a:Addr}{n:Nat}{cs:List Value}(h:W.cells? 0 a n=some cs)(hn:0<n):a.spot=none∧cs.length=n∧a.block<W.heap.size∧∀i v,cs[i]? =some v→W.cell? ⟨a.block,a.off+i,none⟩=some v:=by
 unfold World.cells? at h
 rw[if_pos (Nat.zero_le _)]at h
 have hl:=mapM_some_length h
 have hg:=fun i v hi=>mapM_some_get h i v hi
 have h0:a.spot=none∧a.block<W.heap.size:=by
  have:=hg 0 0 (by simp[hn])
  have hl0:0<cs.length:=by rw[hl];simpa using hn
  rw[List.getElem?_eq_getElem hl0]at this
  have e0:a.add 0=a:=by simp[Addr.add]
  rw[e0]at this
  unfold World.cell? at this
  split at this
  ·rename_i c t fr hb
   refine⟨?_, ?_⟩
   ·cases hs:a.spot with
    |none=>rfl
    |some x=>rw[hs]at this;simp at this
   ·exact(Array.getElem?_eq_some_iff.1 hb).1
  ·cases this
 refine⟨h0.1,by rw[hl];simp,h0.2,fun i v hi=> ?_⟩
 have hi':i<n:=by have:=(List.getElem?_eq_some_iff.1 hi).1;rw[hl]at this;simpa using this
 have:=hg i i (by simp[hi'])
 rw[hi]at this
 rw[←this]
 congr 1
 unfold Addr.add
 split
 ·rename_i hz;subst hz;obtain⟨b,o,s⟩:=a;simp at h0;simp[h0.1]
 ·rfl
theorem rows_of_elems{α:Type}{R:α→List Value→Prop}{a:Addr}{sz:Nat}(hsz:0<sz):∀(n:Nat) (f:Nat→Option (List Value)),(∀i,i<n→∃cs x,f i=some cs∧W.cells? 0 (a.add (i*sz)) sz=some cs∧R x cs)→
  ∃(l:List α) (rows:List Value),l.length=n∧Rows' R l rows∧rows.length=n*sz∧(∀j v,rows[j]? =some v→W.cell? ⟨a.block,a.off+j,none⟩=some v)∧∀x∈l,∃i cs,i<n∧f i=some cs∧R x cs
 |0,f,h=>⟨[],[],rfl,rfl,by simp,by simp,by simp⟩
 |n+1,f,h=>by
  obtain⟨l,rows,h1,h2,h3,h4,h5⟩:=rows_of_elems hsz n f fun i hi=>h i (by omega)
  obtain⟨cs,x,k1,k2,k3⟩:=h n (by omega)
  obtain⟨j1,j2,j3,j4⟩:=cells?_stand k2 hsz
  have happ:∀(l:List α) (rows:List Value),Rows' R l rows→Rows' R (l++[x]) (rows++cs):=by
   intro l
   induction l with
   |nil=>intro rows hr;simp only[Rows']at hr;subst hr;exact⟨cs,[],by simp,k3,rfl⟩
   |cons y ys ih=>
    intro rows hr
    obtain⟨c1,c2,rfl,r1,r2⟩:=hr
    exact⟨c1,c2++cs,by simp,r1,ih c2 r2⟩
  refine⟨l++[x],rows++cs,by simp[h1],happ l rows h2,by simp[h3,j2,Nat.add_mul],fun j v hj=> ?_,fun y hy=> ?_⟩
  ·by_cases hlt:j<rows.length
   ·rw[List.getElem?_append_left hlt]at hj
    exact h4 j v hj
   ·rw[List.getElem?_append_right (by omega)]at hj
    have:=j4 _ _ hj
    have e1:(a.add (n*sz)).block=a.block:=by unfold Addr.add;split<;>rfl
    have e2:(a.add (n*sz)).off=a.off+n*sz:=by
     unfold Addr.add
     split
     ·rename_i hz;rw[hz];rfl
     ·rfl
    rw[e1,e2]at this
    rw[←this]
    congr 2
    omega
  ·rcases List.mem_append.1 hy with hy|hy
   ·obtain⟨i,c,q1,q2,q3⟩:=h5 y hy
    exact⟨i,c,by omega,q2,q3⟩
   ·simp at hy;subst hy
    exact⟨n,cs,by omega,k1,k3⟩
theorem cellsOf_tyR{tid:TypeId}{t:Ty}(h:TyR P tid t):P.cellsOf tid=t.sz∧0<t.sz:=by
 have key:∀{d:TypeDesc},TyF P tid d t→P.cellsOf tid=t.sz∧0<t.sz:=fun hf=>by
  obtain⟨i,z,h1,h2,_,_⟩:=hf.info
  exact⟨by simp[Program.cellsOf,h1,h2],hf.pos⟩
 cases h<;>rename_i h1<;>first|exact key h1|(rename_i h2 _;exact key h2)|(rename_i h2;exact key h2)
mutual
theorem open_rep:∀{t:Ty} {tid:TypeId},TyR P tid t→t.shared=true→t.plainT=true→∀{fuel:Nat} {cs:List Value} {x:DataW H×List MemPlace},
  DataW.trod enc P W 0 sp true fuel tid cs=some x→∃y:t.D,RepK W (fun b=>b<W.heap.size) t y cs∧okD t y
 |_,_,.int (k:=k) h,_,_,fuel,cs,x,hx=>by
  obtain⟨n,rfl,_,hw⟩:=DataW.trod_int h.und hx
  exact⟨n,rfl,hw⟩
 |_,_,.bool h,_,_,fuel,cs,x,hx=>by
  obtain⟨b,rfl,_⟩:=DataW.trod_bool h.und hx
  exact⟨b,rfl,trivial⟩
 |_,_,.str h,_,_,fuel,cs,x,hx=>by
  obtain⟨s,rfl,_,hs⟩:=DataW.trod_string h.und hx
  exact⟨s,rfl,hs⟩
 |_,tid,.list (e:=e) (o:=o) (t:=t) h he,hsh,hpl,fuel,cs,x,hx=>by
  simp only[Ty.shared,Bool.and_eq_true]at hsh
  simp only[Ty.plainT]at hpl
  obtain⟨hce,hpos⟩:=cellsOf_tyR he
  rcases DataW.trod_slice h.und hx with⟨rfl,_⟩|⟨a,len,cap,elems,rest,n,_,rfl,_,_,hlc,hcm,hel,hget,_⟩
  ·exact⟨([]:List t.D),⟨none,0,rfl,Nat.le_refl _,.inl rfl⟩,by simp,by simp⟩
  ·have hrow:∀i,i<len→∃cs y,W.cells? 0 (a.add (i*P.cellsOf e)) (P.cellsOf e)=some cs∧W.cells? 0 (a.add (i*P.cellsOf e)) (P.cellsOf e)=some cs∧(RepK W (fun b=>b<W.heap.size) t y cs∧okD t y):=fun i hi=>by
    have h1:=hget i hi
    rw[List.getElem?_eq_getElem (by omega)]at h1
    obtain⟨cs,h2,h3⟩:=Option.bind_eq_some_iff.1 h1
    obtain⟨y,h4⟩:=open_rep he hsh.2 hpl h3
    exact⟨cs,y,h2,h2,h4⟩
   rw[hce]at hrow
   obtain⟨l,rows,r1,r2,r3,r4,r5⟩:=rows_of_elems (a:=a) (R:=fun y cs=>RepK W (fun b=>b<W.heap.size) t y cs∧okD t y) hpos len (fun i=>W.cells? 0 (a.add (i*t.sz)) t.sz) hrow
   refine⟨l,⟨some a,cap,by rw[r1],by rw[r1];exact hlc, ?_⟩,by rw[r1];omega,fun y hy=> ?_⟩
   ·by_cases hl0:len=0
    ·left;rw[hl0]at r1;exact List.eq_nil_of_length_eq_zero r1
    ·right
     obtain⟨cs0,y0,_,h2,_⟩:=hrow 0 (by omega)
     have e0:a.add (0*t.sz)=a:=by simp[Addr.add]
     rw[e0]at h2
     obtain⟨j1,_,j3,_⟩:=cells?_stand h2 hpos
     exact⟨a,rows,rfl,j1,j3,r4,rows_mono (fun _ _ hr=>hr.1) _ _ r2⟩
   ·obtain⟨i,cs,_,_,hr⟩:=r5 y hy
    exact hr.2
 |_,_,.ptr _ _,_,hpl,_,_,_,_=>by cases hpl
 |_,_,.arr _ _,_,hpl,_,_,_,_=>by cases hpl
 |_,tid,.struct (fs:=fs) (a:=a) (b:=b) h hf,hsh,hpl,fuel,cs,x,hx=>by
  obtain⟨xs,n,_,_,hlen,hxl,hget⟩:=DataW.trod_struct h.und hx
  obtain⟨i,z,h1,h2,_,_⟩:=h.info
  have hsz:cs.length=(Ty.pair a b).sz:=by rw[hlen];simp[Program.cellsOf,h1,h2]
  have:=open_reps hf hsh hpl (fuel:=n) (cs:=cs) (by simpa using hsz) fun f hfm=>by
   obtain⟨j,hj⟩:=List.mem_iff_getElem?.1 hfm
   have hj':fs[j]? =some f:=by simpa using hj
   have hlt:j<xs.length:=by rw[hxl];exact(Array.getElem?_eq_some_iff.1 hj').1
   rw[hget j f hj',List.getElem?_eq_getElem hlt]
   exact⟨_,rfl⟩
  simpa using this
theorem open_reps:∀{t:Ty} {fs:List Field} {off:Nat},FldR P fs off t→t.shared=true→t.plainT=true→∀{fuel:Nat} {cs:List Value},cs.length=off+t.sz→
  (∀f∈fs,∃x,DataW.trod enc P W 0 sp true fuel f.type ((cs.drop f.offset).take (P.cellsOf f.type))=some x)→∃y:t.D,RepK W (fun b=>b<W.heap.size) t y (cs.drop off)∧okD t y
 |t,[f],off,.one ho ht,hsh,hpl,fuel,cs,hl,hx=>by
  obtain⟨x,hx⟩:=hx f (by simp)
  obtain⟨hc,hp⟩:=cellsOf_tyR ht
  rw[ho,hc,List.take_of_length_le (by rw[List.length_drop,hl];omega)]at hx
  exact open_rep ht hsh hpl hx
 |_,f::f2::fs,off,.cons (a:=a) (b:=b) ho ha hb,hsh,hpl,fuel,cs,hl,hx=>by
  simp only[Ty.shared,Ty.plainT,Bool.and_eq_true]at hsh hpl
  obtain⟨x,hx1⟩:=hx f (by simp)
  obtain⟨hc,hp⟩:=cellsOf_tyR ha
  rw[ho,hc]at hx1
  obtain⟨y,k1,k2⟩:=open_rep ha hsh.1 hpl.1 hx1
  obtain⟨z,k3,k4⟩:=open_reps hb hsh.2 hpl.2 (cs:=cs) (by rw[hl,Ty.sz];omega) fun f' hf'=>hx f' (by simp[hf'])
  refine⟨(y,z),⟨_,_, ?_,k1,k3⟩,k2,k4⟩
  rw[←List.drop_drop,List.take_append_drop]
end
end
end
section
section
variable {H:Type} {enc:TypeId×Value→H} {P:Program} {W:World} {sp:Nat→Bool}
theorem val_wide{t:Ty}{tid:TypeId}{r:Reach}{b:Nat}{v:Value}(ht:TyR P tid t)(hp:t.plainT=true)(hv:Value.okWide P W r b tid v):v=val t v.cells.toList:=by
 cases ht with
 |int h=>obtain⟨n,rfl⟩:=WideShapes.okWide_int h.und hv;rfl
 |bool h=>obtain⟨n,rfl⟩:=WideShapes.okWide_bool h.und hv;rfl
 |str h=>obtain⟨n,rfl⟩:=WideShapes.okWide_string h.und hv;rfl
 |list h _=>obtain⟨a,l,c,rfl⟩:=WideShapes.okWide_slice h.und hv;rfl
 |ptr _ _=>cases hp
 |arr _ _=>cases hp
 |struct h _=>
  obtain⟨cs,rfl,_⟩:=WideShapes.okWide_struct h.und hv
  simp[val,Value.cells]
def tysR(P:Program):List TypeId→List Ty→Prop
 |[],[]=>True
 |a::l,t::m=>TyR P a t∧t.shared=true∧t.plainT=true∧P.readableRec a=true∧a<P.types.size∧tysR P l m
 |_,_=>False
def tysRB(P:Program):List TypeId→List Ty→Bool
 |[],[]=>true
 |a::l,t::m=>tyChk P 40 a t&&(t.shared&&(t.plainT&&(P.readableRec a&&(Nat.blt a P.types.size&&tysRB P l m))))
 |_,_=>false
theorem tysR_of:∀{l:List TypeId} {m:List Ty},tysRB P l m=true→tysR P l m
 |[],[],_=>trivial
 |a::l,t::m,h=>by
  simp only[tysRB,Bool.and_eq_true]at h
  exact⟨tyChk_ok 40 _ _ h.1,h.2.1,h.2.2.1,h.2.2.2.1,Nat.le_of_ble_eq_true h.2.2.2.2.1,tysR_of h.2.2.2.2.2⟩
 |[],_::_,h=>by cases h
 |_::_,[],h=>by cases h
theorem open_args:∀{tids:List TypeId} {ts:List Ty} {vs:List Value} {ds:List (DataW H)} {ps:List MemPlace},DataW.TrodAll enc P W 0 sp true tids vs ds ps→tysR P tids ts→
  (∀(j:Nat) t v,tids[j]? =some t→vs[j]? =some v→∃r b,Value.okWide P W r b t v)→
  ∃gs:List SG,gs.map SG.v=vs∧gs.map SG.t=ts∧∀y∈gs,okG W (fun b=>b<W.heap.size) y.t y.g∧y.fp=[]∧okD y.t (er y.t y.g)
 |[],[],[],[],ps,_,_,_=>⟨[],rfl,rfl,by simp⟩
 |a::tids,t::ts,v::vs,d::ds,ps,hA,hT,hv=>by
  obtain⟨p,q,h1,h2,_⟩:=hA
  obtain⟨k1,k2,k3,k4,k5,k6⟩:=hT
  obtain⟨gs,g1,g2,g3⟩:=open_args h2 k6 fun j t' v' hj hj'=>hv (j+1) t' v' (by simpa using hj) (by simpa using hj')
  obtain⟨fuel,hf⟩:=h1
  obtain⟨y,r1,r2⟩:=open_rep k1 k2 k3 hf
  obtain⟨g,e1,e2,e3,e4⟩:=repK_okG t k2 y _ r1
  obtain⟨r,b,hw⟩:=hv 0 a v rfl rfl
  have hval:=val_wide k1 k3 hw
  refine⟨⟨t,g⟩::gs, ?_,by simp[g2],fun z hz=> ?_⟩
  ·rw[List.map_cons,g1,SG.v,e3,←hval]
  ·rcases List.mem_cons.1 hz with rfl|hz
   ·exact⟨e1,e4,by rw[e2];exact r2⟩
   ·exact g3 z hz
 |[],_::_,_,_,_,_,h,_=>h.elim
 |_::_,[],_,_,_,_,h,_=>h.elim
 |[],[],_::_,_,_,h,_,_=>by cases ‹List (DataW H)› <;>exact h.elim
 |[],[],[],_::_,_,h,_,_=>h.elim
 |_::_,_::_,[],_,_,h,_,_=>h.elim
 |_::_,_::_,_::_,[],_,h,_,_=>h.elim
theorem packG:∀(ts:List Ty) (gs:List SG),gs.map SG.t=ts→∃x:(mkT ts).D,unD ts x=gs.map SG.d
 |[],[],_=>⟨(),rfl⟩
 |[t],[y],h=>by
  simp only[List.map_cons,List.map_nil,List.cons.injEq,and_true]at h
  subst h
  exact⟨er y.t y.g,rfl⟩
 |t::u::ts,y::z::gs,h=>by
  simp only[List.map_cons,List.cons.injEq]at h
  obtain⟨rfl,h2⟩:=h
  obtain⟨x,hx⟩:=packG (u::ts) (z::gs) (by simpa using h2)
  exact⟨(er y.t y.g,x),by simp only[unD,hx];rfl⟩
 |[],_::_,h=>by cases h
 |[_],[],h=>by cases h
 |[_],_::_::_,h=>by simp at h
 |_::_::_,[],h=>by cases h
 |_::_::_,[_],h=>by simp at h
theorem Same.heap{w w':World}{b:Nat}(h:Same w w' b):w'.heap[b]? =w.heap[b]? :=by
 rcases h.kin with h1|⟨c,c',t,fr,h1,h2,h3⟩
 ·exact h1
 ·rw[h1,h2]
  have:c'=c:=by
   apply Array.ext h3
   intro i hi hi'
   have:=h.rest.2 i
   simp only[World.cell?,h1,h2]at this
   simpa[hi,hi']using this
  rw[this]
end
theorem law_calls{H:Type}{enc:TypeId×Value→H}{P:Program}{E:Env}{τ:Tabs}(hE:EnvOK P E)(hN:FnsOK P E)(hX:ExtOK P E τ)(Hs:Nat→Hints){f:Nat}{s:Sig}{fn:Func}{c:Code}(hio:s.io=none)(hval:s.ins.all Prm.isVal=true)
  (hfn:E.body f=some fn) (hc:fn.body=some c) (hl:laidOutB P=true) (hT:tysR P fn.params.toList s.inTs)
  (pure:∀x:s.inT.D,(∀d∈unD s.inTs x,okD d.1 d.2)→∃k z,runF E Hs k f s x=some z∧unD s.outTs z=[⟨.bool,true⟩])
  {W:World} (hTab:τ.T W) (hTB:∀b,τ.B b→b<W.heap.size) {args:Array Value} {ds:List (DataW H)} {p:List MemPlace} (hwide:∀(j:Nat) t v,fn.params.toList[j]? =some t→args.toList[j]? =some v→∃r b,Value.okWide P W r b t v)
  (hA:DataW.TrodAll enc P W 0 (fun _=>true) true fn.params.toList args.toList ds p):
  Calls P f args W fun e W'=>e= .returned (.bool true)∧DataW.TrodAll enc P W' 0 (fun b=>decide (b<W.heap.size)) true fn.params.toList args.toList ds p∧∀may:MemPlace→Prop,W.keptBut W' may:=by
 obtain⟨gs,g1,g2,g3⟩:=open_args hA hT hwide
 obtain⟨x,hx⟩:=packG s.inTs gs g2
 obtain⟨k,z,hk,hz⟩:=pure x (by
  rw[hx]
  intro d hd
  obtain⟨y,hy,rfl⟩:=List.mem_map.1 hd
  exact(g3 y hy).2.2)
 have hfp:gs.flatMap SG.fp=[]:=by
  rw[List.flatMap_eq_nil_iff]
  exact fun y hy=>(g3 y hy).2.1
 have hrun:=runF_ok hE hN hX Hs k f s (w:=W) (KS:=fun b=>b<W.heap.size) (A:=⟨0,0,none⟩) hval hx hk (fun y hy=>(g3 y hy).1) (by rw[hfp];exact List.nodup_nil) (by rw[hfp];simp) (fun b hb=>hb) (by rw[hio];intro h;cases h) hTab (fun b hb=>⟨hTB b hb,by rw[hfp];simp,by rw[hio];intro h;cases h⟩)
 rw[argVs_none (by rw[hio];rfl),g1,Array.toArray_toList]at hrun
 unfold Does at hrun
 rw[callFunc_run hE hN hfn hc]at hrun
 refine Calls.mono hrun fun e W' hp=> ?_
 obtain⟨v,rfl,KS',os,is,q1,q2,⟨q3,q4⟩,q5,q6,q7,q8,q9,q10,_,_⟩:=hp
 have his:is=[]:=by rw[hio]at q4;exact List.eq_nil_of_length_eq_zero q4
 subst his
 rw[List.append_nil]at q3
 have hall:∀b,b<W.heap.size→Same W W' b:=fun b hb=>q10 b hb (by rw[hfp];simp) (by rw[hio];intro h;cases h)
 have hd:os.map SG.d=[⟨.bool,true⟩]:=q3.trans hz
 have hv:v= .bool true:=by
  rw[q2]
  obtain⟨y,hy⟩:∃y,os=[y]:=by
   match os,hd with
   |[y],_=>exact⟨y,rfl⟩
   |[],h=>cases h
   |_::_::_,h=>simp at h
  subst hy
  simp only[List.map_cons,List.map_nil,List.cons.injEq,and_true]at hd
  obtain⟨yt,yg⟩:=y
  simp only[SG.d]at hd
  injection hd with h1 h2
  subst h1
  have h2:yg=true:=eq_of_heq h2
  subst h2
  rfl
 refine⟨by rw[hv], ?_,kept_of q9 hall⟩
 have hlt:=DataW.TrodAll.lt hA
 -- below the old heap nothing has changed
 have hB:RowKit.Below W.heap.size W {W' with tape:=W.tape,os:=W.os,output:=W.output}:=⟨rfl,rfl,rfl,q9.size,fun k hk=>(hall k hk).heap⟩
 have key:∀{tids:List TypeId} {ts:List Ty} {vs:List Value} {ds:List (DataW H)} {ps:List MemPlace},DataW.TrodAll enc P W 0 (fun _=>true) true tids vs ds ps→tysR P tids ts→(∀x∈ps,x.block<W.heap.size)→
   DataW.TrodAll enc P W' 0 (fun b=>decide (b<W.heap.size)) true tids vs ds ps:=by
  intro tids
  induction tids with
  |nil=>intro ts vs ds ps h _ _;cases vs<;>cases ds<;>first|exact h|exact h.elim
  |cons a tids ih=>
   intro ts vs ds ps h hT hlt
   match ts,vs,ds,hT,h with
   |t::ts,v::vs,d::ds,hT,h=>
    obtain⟨p1,q1,h1,h2,rfl⟩:=h
    obtain⟨k1,k2,k3,k4,k5,k6⟩:=hT
    have h3:=RowKit.Below.trod hl k4 k5 h1 hB fun x hx=>hlt x (by simp[hx])
    exact⟨p1,q1,DataW.Trod.of_heap (show({W' with tape:=W.tape,os:=W.os,output:=W.output}:World).heap=W'.heap from rfl) h3,ih h2 k6 fun x hx=>hlt x (by simp[hx]),rfl⟩
 exact key hA hT hlt
theorem trod_len{H:Type}{enc:TypeId×Value→H}{P:Program}{w:World}{base:Nat}{sp:Nat→Bool}{held:Bool}:∀{ts:List TypeId} {vs:List Value} {ds:List (DataW H)} {ps:List MemPlace},DataW.TrodAll enc P w base sp held ts vs ds ps→ds.length=ts.length
 |[],[],[],_,_=>rfl
 |_::_,_::_,_::_,_,⟨_,_,_,h,_⟩=>by simp only[List.length_cons];rw[trod_len h]
 |[],_::_,_,_,h=>h.elim
 |[],[],_::_,_,h=>h.elim
 |_::_,[],_,_,h=>h.elim
 |_::_,_::_,[],_,h=>h.elim
end
section
def KeptM(w w':World):Prop:=Grew w w'∧∀b,b<w.heap.size→w'.heap[b]? =w.heap[b]?
theorem KeptM.below{w w':World}(h:RowKit.Below w.heap.size w w'):KeptM w w':=⟨⟨h.size,h.os,h.output⟩,h.block⟩
theorem KeptM.refl(w:World):KeptM w w:=⟨Grew.refl w,fun _ _=>rfl⟩
def tabs0:Tabs:=⟨fun _=>True,fun _=>False,fun _ _ _ _=>trivial⟩
theorem fnOK_ext{P:Program}{τ:Tabs}{f:Nat}{fn:Func}{c:Code}{s:Sig}{G:s.inT.D→Option s.outT.D}(hf:P.funcs[f]? =some fn)(hn:(fn.name== "runtime.NumGoroutine")=false)(hc:fn.body=some c)(hio:s.io=none)
  (h:∀{w:World} {KS:Nat→Prop} {gs:List SG} {x:s.inT.D} {z:s.outT.D},unD s.inTs x=gs.map SG.d→G x=some z→(∀y∈gs,okG w KS y.t y.g)→(∀b,KS b→b<w.heap.size)→τ.T w→
   ∃y:SG,unD s.outTs z=[y.d]∧y.fp=[]∧(∀w KS,okG w KS y.t y.g)∧Calls P f (gs.map SG.v).toArray w fun e w'=>e= .returned y.v∧KeptM w w'):FnOK P τ f s G:=by
 intro w KS gs A x z _ hx hz hok hnd hfp hKS _ hT _
 obtain⟨y,h1,h2,h3,h4⟩:=h hx hz hok hKS hT
 rw[argVs_none (by rw[hio];rfl)]
 have hrun:(callFunc f (gs.map SG.v).toArray).run P w= .ok (.enter f (gs.map SG.v).toArray) w:=by
  unfold callFunc
  rw[Sem.run_bind]
  have h1:(program:Sem Program).run P w= .ok P w:=rfl
  rw[h1]
  simp only[Result.andThen_ok,hf,hn,hc,Option.isNone_some,Bool.false_eq_true,if_false,Sem.run_pure]
 unfold Does
 rw[hrun]
 refine Calls.mono h4 fun e w' hp=> ?_
 obtain⟨rfl,hb⟩:=hp
 refine⟨y.v,rfl,KS,[y],[],fun b hb=>hb,rfl,⟨by rw[h1];rfl,by rw[hio];rfl⟩, ?_, ?_, ?_,fun b hb=> .inl hb,hb.1, ?_, ?_, ?_⟩
 ·intro u hu
  simp only[List.append_nil,List.mem_singleton]at hu
  subst hu;exact h3 w' KS
 ·simp[h2]
 ·simp[h2]
 ·intro b hlt _ _
  exact .of (hb.2 b hlt)
 ·intro hh;rw[hio]at hh;cases hh
 ·intro _ u hu;cases hu
theorem sg_of{y:SG}{t:Ty}{x:t.D}(h:(⟨t,x⟩:Dyn)=y.d):∃g:t.G,y=⟨t,g⟩∧er t g=x:=by
 obtain⟨t',g⟩:=y
 simp only[SG.d]at h
 injection h with h1 h2
 subst h1
 exact⟨g,rfl,(eq_of_heq h2).symm⟩
theorem two_of{gs:List SG}{a b:Dyn}(h:[a,b]=gs.map SG.d):∃y z:SG,gs=[y,z]∧a=y.d∧b=z.d:=by
 match gs,h with
 |[y,z],h=>simp only[List.map_cons,List.map_nil,List.cons.injEq,and_true]at h;exact⟨y,z,rfl,h.1,h.2⟩
 |[],h=>cases h
 |[_],h=>simp at h
 |_::_::_::_,h=>simp at h
theorem one_of{gs:List SG}{a:Dyn}(h:[a]=gs.map SG.d):∃y:SG,gs=[y]∧a=y.d:=by
 match gs,h with
 |[y],h=>simp only[List.map_cons,List.map_nil,List.cons.injEq,and_true]at h;exact⟨y,rfl,h⟩
 |[],h=>cases h
 |_::_::_,h=>simp at h
def ext_strings_ContainsAny(x:ByteArray×ByteArray):Option Bool:=
 if x.1.size<4294967281∧x.2.size<4294967281∧x.2.data.toList.all (fun b=>decide (b.toNat<128))=true then some (Lib.containsAny x.1.data.toList x.2.data.toList)else none
def ext_strings_Repeat(x:ByteArray×Int):Option ByteArray:=
 if 0≤x.2∧x.2≤9223372036854775807∧x.1.size*x.2.toNat≤140737488355328 then some ⟨(Lib.repeatL x.1.data.toList x.2.toNat).toArray⟩else none
theorem fnOK_Repeat{P:Program}{τ:Tabs}{f:Nat}{fn:Func}{c:Code}(hf:P.funcs[f]? =some fn)(hn:(fn.name== "runtime.NumGoroutine")=false)(hc:fn.body=some c)
  (h:∀(s:ByteArray) (c:Nat) (w:World),c≤9223372036854775807→s.size*c≤140737488355328→Calls P f #[.string s,.int .i64 c] w fun e w'=>e= .returned (.string ⟨(Lib.repeatL s.data.toList c).toArray⟩)∧RowKit.Below w.heap.size w w'):
  FnOK P τ f ⟨[.val .str,.val (.int .i64)],[.str],none⟩ ext_strings_Repeat:=by
 refine fnOK_ext hf hn hc rfl fun{w KS gs x z} hx hz _ _ _=> ?_
 obtain⟨y1,y2,rfl,h1,h2⟩:=two_of hx
 obtain⟨g1,rfl,e1⟩:=sg_of h1
 obtain⟨g2,rfl,e2⟩:=sg_of h2
 have hz':ext_strings_Repeat x=some z:=hz
 unfold ext_strings_Repeat at hz'
 split at hz'
 ·rename_i hq
  injection hz' with hz'
  subst hz'
  refine⟨⟨.str,_⟩,rfl,rfl,fun _ _=>trivial, ?_⟩
  have e2':(g2:Int)=x.2:=e2
  have e1':(g1:ByteArray)=x.1:=e1
  have hn:(g2:Int)=((x.2.toNat:Nat):Int):=e2'.trans (Int.toNat_of_nonneg hq.1).symm
  show Calls P f #[.string g1,.int .i64 g2] w _
  have hq1:=hq.2.1
  have hq0:=hq.1
  rw[hn,e1']
  refine Calls.mono (h x.1 x.2.toNat w (by have:=hq.2.1;omega) hq.2.2) fun e w' hp=>⟨?_,KeptM.below hp.2⟩
  rw[hp.1];rfl
 ·cases hz'
def joinD(l:List ByteArray)(sep:ByteArray):List UInt8:=Lib.join (l.map (·.data.toList)) sep.data.toList
def ext_strings_Join(x:List ByteArray×ByteArray):Option ByteArray:=
 if x.1.length≤140737488355328∧(joinD x.1 x.2).length≤140737488355328 then some ⟨(joinD x.1 x.2).toArray⟩else none
theorem rows_str{w:World}{KS:Nat→Prop}:∀{l:List ByteArray} {rows:List Value},Rows' (RepK w KS .str) l rows→rows=l.map Value.string
 |[],_,h=>h
 |x::l,_,⟨c1,c2,e,h1,h2⟩=>by
  have h1:c1=[.string x]:=h1
  rw[e,h1,rows_str h2];rfl
theorem map_get_str{l:List ByteArray}{j:Nat}{y:ByteArray}(h:l[j]? =some y):(l.map Value.string)[j]? =some (.string y):=by rw[List.getElem?_map,h];rfl
theorem fnOK_Join{P:Program}{τ:Tabs}{f:Nat}{fn:Func}{c:Code}(hf:P.funcs[f]? =some fn)(hn:(fn.name== "runtime.NumGoroutine")=false)(hc:fn.body=some c)
  (h:∀(bk o c:Nat) (xs:List ByteArray) (sep:ByteArray) (w:World),(∀(j:Nat) x,xs[j]? =some x→w.cell? ⟨bk,o+j,none⟩=some (.string x))→bk<w.heap.size→xs.length≤140737488355328→xs.length≤c→
   (Lib.join (xs.map (·.data.toList)) sep.data.toList).length≤140737488355328→
   Calls P f #[.slice (some ⟨bk,o,none⟩) xs.length c,.string sep] w fun e w'=>e= .returned (.string ⟨(Lib.join (xs.map (·.data.toList)) sep.data.toList).toArray⟩)∧RowKit.Below w.heap.size w w')
  (h0:∀(a:Option Addr) (c:Nat) (sep:ByteArray) (w:World),Calls P f #[.slice a 0 c,.string sep] w fun e w'=>e= .returned (.string ⟨#[]⟩)∧w'=w):
  FnOK P τ f ⟨[.val (.list false .str),.val .str],[.str],none⟩ ext_strings_Join:=by
 refine fnOK_ext hf hn hc rfl fun{w KS gs x z} hx hz hok hKS _=> ?_
 obtain⟨y1,y2,rfl,h1,h2⟩:=two_of hx
 obtain⟨g1,rfl,e1⟩:=sg_of h1
 obtain⟨g2,rfl,e2⟩:=sg_of h2
 have hz':ext_strings_Join x=some z:=hz
 unfold ext_strings_Join at hz'
 split at hz'
 ·rename_i hq
  injection hz' with hz'
  subst hz'
  refine⟨⟨.str,_⟩,rfl,rfl,fun _ _=>trivial, ?_⟩
  have e1':(g1:ShL ByteArray).l=x.1:=e1
  have e2':(g2:ByteArray)=x.2:=e2
  have hk:RepK w KS (.list false .str) (g1:ShL ByteArray).l [.slice (g1:ShL ByteArray).ad (g1:ShL ByteArray).l.length (g1:ShL ByteArray).cap]:=hok _ (List.mem_cons_self ..)
  obtain⟨ad,cap,k1,k2,k3⟩:=hk
  show Calls P f #[.slice (g1:ShL ByteArray).ad (g1:ShL ByteArray).l.length (g1:ShL ByteArray).cap,.string g2] w _
  simp only[List.cons.injEq,and_true,Value.slice.injEq]at k1
  obtain⟨ka,_,kc⟩:=k1
  rw[e1']at k2 k3 ⊢
  rw[e2',ka,kc]
  rcases k3 with hnil|⟨a,rows,ra,rs,rk,rst,rr⟩
  ·rw[hnil]
   refine Calls.mono (h0 ad cap x.2 w) fun e w' hp=>⟨?_,hp.2▸KeptM.refl _⟩
   rw[hp.1];rfl
  ·subst ra
   obtain⟨ab,ao,asp⟩:=a
   simp only at rs
   subst rs
   refine Calls.mono (h ab ao cap x.1 x.2 w (fun j y hj=> ?_) (hKS _ rk) hq.1 k2 hq.2) fun e w' hp=>⟨?_,KeptM.below hp.2⟩
   ·have hrow:=map_get_str hj
    exact rst j (.string y) ((rows_str rr).symm▸hrow)
   ·rw[hp.1];rfl
 ·cases hz'
theorem flat_str:∀gs:List ByteArray,gs.flatMap (cl .str)=gs.map Value.string
 |[]=>rfl
 |a::l=>by rw[List.flatMap_cons,flat_str l];rfl
end
section
def sortB(l:List ByteArray):List (List UInt8):=(l.map fun s=>s.data.toList).mergeSort fun x y=>decide (x≤y)
def sortD(l:List ByteArray):List ByteArray:=(sortB l).map fun s=>⟨s.toArray⟩
def ext_slices_Sort_string_string(x:List ByteArray):Option (List ByteArray):=if x.length<4611686018427387904 then some (sortD x)else none
theorem sortD_len(l:List ByteArray):(sortD l).length=l.length:=by simp[sortD,sortB]
theorem heap_grow{w:World}{os:Array Obj}{b:Nat}(h:b<w.heap.size):(Sort.grow w os).heap[b]? =w.heap[b]? :=by
 show(w.heap++os)[b]? =_
 rw[Array.getElem?_append_left h]
theorem fnOK_Sort{P:Program}{τ:Tabs}{f:Nat}{fn:Func}{c:Code}(hf:P.funcs[f]? =some fn)(hn:(fn.name== "runtime.NumGoroutine")=false)(hc:fn.body=some c)
  (h:∀(blk off cap:Nat) (ss:List (List UInt8)) (w:World),Sort.Holds Proofs.encStr w blk off ss.toArray→blk<w.heap.size→ss.length<4611686018427387904→
   Calls P f #[.slice (some ⟨blk,off,none⟩) ss.length cap] w fun e w'=>e= .returned (.tuple #[])∧∃n os,w'=Sort.grow (Sort.putRow Proofs.encStr (Sort.ahead w n) blk off (ss.mergeSort fun x y=>decide (x≤y)).toArray) os)
  (h0:∀(p:Option Addr) (cap:Nat) (w:World),Calls P f #[.slice p 0 cap] w fun e w'=>e= .returned (.tuple #[])∧w'=w):
  FnOK P τ f ⟨[],[],some (false,.list true .str)⟩ ext_slices_Sort_string_string:=by
 intro w KS gs A (x:List ByteArray) (z:List ByteArray) _ hx hz hok hnd hfp hKS _ hT _
 obtain⟨y,rfl,hy⟩:=one_of (show [(⟨.list true .str,x⟩:Dyn)]=gs.map SG.d from hx)
 obtain⟨g,rfl,hg⟩:=sg_of hy
 have hz':ext_slices_Sort_string_string x=some z:=hz
 unfold ext_slices_Sort_string_string at hz'
 split at hz'
 case isFalse=>cases hz'
 case isTrue hlen=>
 injection hz' with hz'
 have hgx:(g:OwnL ByteArray).rows=x:=by
  have:(g:OwnL ByteArray).rows.map (fun s=>s)=x:=hg
  simpa using this
 rw[argVs_none rfl]
 have hrun:(callFunc f (([⟨.list true .str,g⟩]:List SG).map SG.v).toArray).run P w= .ok (.enter f (([⟨.list true .str,g⟩]:List SG).map SG.v).toArray) w:=by
  unfold callFunc
  rw[Sem.run_bind]
  have h1:(program:Sem Program).run P w= .ok P w:=rfl
  rw[h1]
  simp only[Result.andThen_ok,hf,hn,hc,Option.isNone_some,Bool.false_eq_true,if_false,Sem.run_pure]
 unfold Does
 rw[hrun]
 have hk:okG w KS (.list true .str) g:=hok _ (List.mem_cons_self ..)
 have hout:unD (Sig.outTs ⟨[],[],some (false,.list true .str)⟩) z=[⟨.list true .str,z⟩]:=rfl
 rcases hk with⟨hc0,hr0⟩|⟨b,rest,had,hcp,hle,hB,hBl,hrows⟩
 ·have hx0:x=[]:=by rw[←hgx];exact hr0
  have hz0:z=[]:=by rw[←hz',hx0];simp[sortD,sortB]
  show Calls P f #[.slice (g:OwnL ByteArray).ad (g:OwnL ByteArray).rows.length (g:OwnL ByteArray).cap] w _
  rw[show(g:OwnL ByteArray).rows.length=0 by rw[hgx,hx0];rfl]
  refine Calls.mono (h0 _ _ w) fun e w' hp=> ?_
  obtain⟨rfl,rfl⟩:=hp
  refine⟨.tuple #[],rfl,KS,[],[⟨.list true .str,g⟩],fun b hb=>hb,rfl,⟨?_,rfl⟩, ?_,hnd, ?_,fun b hb=> .inl hb,Grew.refl _,fun b _ _ _=> .of rfl,fun hh=>(nomatch hh), ?_⟩
  ·rw[hout,hz0]
   show [(⟨.list true .str,(g:OwnL ByteArray).rows.map (er .str)⟩:Dyn)]=_
   rw[show(g:OwnL ByteArray).rows=[]by rw[hgx,hx0]]
   rfl
  ·intro u hu
   exact hok u hu
  ·intro b hb
   exact⟨(hfp b hb).2,.inr hb⟩
  ·intro _ u hu v hv
   simp only[List.mem_singleton]at hu
   subst hu
   simp only[List.head?_cons,Option.mem_def,Option.some.injEq]at hv
   subst hv;rfl
 ·have hcell:(g:OwnL ByteArray).rows.flatMap (cl .str)=x.map Value.string:=by rw[hgx];exact flat_str x
  rw[hcell]at hB hBl
  obtain⟨⟨e,hsh⟩,hra,hfr⟩:=hB
  have hfpb:∀b',b'∈(([⟨.list true .str,g⟩]:List SG).flatMap SG.fp)↔b'=b:=by
   intro b'
   have:(([⟨.list true .str,g⟩]:List SG).flatMap SG.fp)=[b]:=by
    simp only[List.flatMap_cons,List.flatMap_nil,List.append_nil]
    show fp (.list true .str) g=_
    simp only[fp,had,if_neg (by omega:¬(g:OwnL ByteArray).cap=0)]
    exact congrArg (b:: ·) (List.flatMap_eq_nil_iff.2 fun _ _=>rfl)
   rw[this,List.mem_singleton]
  have hbs:=hfp b ((hfpb b).2 rfl)
  obtain⟨cs,fr,hcs,hcsl⟩:∃cs fr,w.heap[b]? =some (.cells cs e fr)∧cs.size=(x.map Value.string++rest).length:=by
   unfold World.shape? at hsh
   split at hsh
   ·rename_i cs' e' fr' hh
    simp only[Option.some.injEq,Prod.mk.injEq]at hsh
    obtain⟨rfl,h2⟩:=hsh
    exact⟨_,_,hh,h2⟩
   ·cases hsh
  show Calls P f #[.slice (g:OwnL ByteArray).ad (g:OwnL ByteArray).rows.length (g:OwnL ByteArray).cap] w _
  rw[had,hgx]
  have hH:Sort.Holds Proofs.encStr w b 0 (x.map fun s=>s.data.toList).toArray:=by
   intro j hj
   have hj':j<x.length:=by simpa using hj
   refine⟨?_, ?_⟩
   ·refine hra j _ ?_
    rw[List.getElem?_append_left (by simpa using hj'),List.getElem?_map,List.getElem?_eq_getElem hj']
    simp[Proofs.encStr,hj']
   ·rw[Nat.zero_add]
    exact hfr j (by simp only[List.length_append,List.length_map];omega)
  have hlen':(x.map fun s=>s.data.toList).length=x.length:=by simp
  have hcall:=h b 0 (g:OwnL ByteArray).cap (x.map fun s=>s.data.toList) w hH hbs.1 (by rw[hlen'];exact hlen)
  rw[hlen']at hcall
  refine Calls.mono hcall fun ee w' hp=> ?_
  obtain⟨rfl,n,os,hw⟩:=hp
  have hd:((x.map fun s=>s.data.toList).mergeSort fun x y=>decide (x≤y))=sortB x:=rfl
  rw[hd]at hw
  have hsl:(sortB x).length=x.length:=by simp[sortB]
  have hw1:∀b',b'<w.heap.size→w'.heap[b']? =(Sort.putRow Proofs.encStr (Sort.ahead w n) b 0 (sortB x).toArray).heap[b']? :=fun b' hb'=>by
   rw[hw]
   exact heap_grow (by rw[Sort.size_putRow];exact hb')
  have hne:∀b',b'<w.heap.size→b'≠b→w'.heap[b']? =w.heap[b']? :=fun b' hb' hn'=>by
   rw[hw1 b' hb']
   show(w.heap.modify b _)[b']? =_
   rw[Array.getElem?_modify,if_neg (Ne.symm hn')]
  have hbb:w'.heap[b]? =some (.cells (Sort.putCells Proofs.encStr 0 (sortB x).toArray cs) e fr):=by
   rw[hw1 b hbs.1]
   show(w.heap.modify b _)[b]? =_
   rw[Array.getElem?_modify,if_pos rfl,hcs]
   rfl
  have hH':Sort.Holds Proofs.encStr (Sort.ahead w n) b 0 (x.map fun s=>s.data.toList).toArray:=fun j hj=>by rw[Sort.cell?_ahead,Sort.frozen?_ahead];exact hH j hj
  have hH2:=Sort.holds_putRow Proofs.encStr (Sort.ahead w n) b 0 (x.map fun s=>s.data.toList).toArray (sortB x).toArray hH' (by simp[hsl])
  have hpc:∀j,w'.cell? ⟨b,j,none⟩=(Sort.putRow Proofs.encStr (Sort.ahead w n) b 0 (sortB x).toArray).cell? ⟨b,j,none⟩:=fun j=>by
   simp only[World.cell?,hw1 b hbs.1]
  have hzl:z=sortD x:=hz'.symm
  let g2:OwnL ByteArray:=⟨some ⟨b,0,none⟩,(g:OwnL ByteArray).cap,sortD x⟩
  have hg2:okG w' KS (.list true .str) g2:=by
   refine .inr ⟨b,rest,rfl,hcp, ?_, ?_, ?_, ?_⟩
   ·show(sortD x).length≤_
    rw[sortD_len,←hgx];exact hle
   ·show Block w' b ((sortD x).flatMap (cl .str)++rest)
    rw[flat_str (sortD x)]
    refine⟨⟨e, ?_⟩, ?_, ?_⟩
    ·simp only[World.shape?,hbb,Sort.putCells,Array.size_mapIdx,hcsl,List.length_append,List.length_map,sortD_len]
    ·intro j v hv
     rw[Nat.zero_add,hpc]
     by_cases hj:j<x.length
     ·rw[List.getElem?_append_left (by rw[List.length_map,sortD_len];exact hj)]at hv
      have:=(hH2 j (by simp only[List.size_toArray,hsl];exact hj)).1
      rw[Nat.zero_add]at this
      rw[this,←hv]
      have hj2:j<(sortB x).length:=by rw[hsl];exact hj
      simp[sortD,Proofs.encStr,hj2]
     ·rw[Sort.cell?_putRow_other]
      ·rw[Sort.cell?_ahead]
       have hv2:(x.map Value.string++rest)[j]? =some v:=by
        rw[List.getElem?_append_right (by simp only[List.length_map];omega)]
        rw[List.getElem?_append_right (by simp only[List.length_map,sortD_len];omega)]at hv
        simpa[sortD_len]using hv
       have:=hra j v hv2
       rwa[Nat.zero_add]at this
      ·right;right
       simp only[List.size_toArray,hsl];omega
    ·intro j hj
     have:=hfr j (by simpa[sortD_len]using hj)
     simp only[World.frozen?,hbb,hcs]at this ⊢
     exact this
   ·show((sortD x).flatMap (cl .str)++rest).length=_
    rw[flat_str (sortD x)]
    simpa[sortD_len]using hBl
   ·intro r _;trivial
  have hfp2:([⟨.list true .str,g2⟩]:List SG).flatMap SG.fp=[b]:=by
   simp only[List.flatMap_cons,List.flatMap_nil,List.append_nil]
   show fp (.list true .str) g2=_
   simp only[fp,g2,if_neg (by omega:¬(g:OwnL ByteArray).cap=0)]
   exact congrArg (b:: ·) (List.flatMap_eq_nil_iff.2 fun _ _=>rfl)
  refine⟨.tuple #[],rfl,KS,[],[⟨.list true .str,g2⟩],fun b hb=>hb,rfl,⟨?_,rfl⟩, ?_, ?_, ?_,fun b hb=> .inl hb,⟨?_, ?_, ?_⟩, ?_,fun hh=>(nomatch hh), ?_⟩
  ·rw[hout,hzl]
   show [(⟨.list true .str,(sortD x).map (fun s=>s)⟩:Dyn)]=_
   rw[List.map_id']
  ·intro u hu
   simp only[List.nil_append,List.mem_singleton]at hu
   subst hu;exact hg2
  ·rw[List.nil_append,hfp2];simp
  ·intro b' hb'
   rw[List.nil_append,hfp2,List.mem_singleton]at hb'
   subst hb'
   exact⟨hbs.2,.inr ((hfpb _).2 rfl)⟩
  ·rw[hw]
   show w.heap.size≤((Sort.putRow Proofs.encStr (Sort.ahead w n) b 0 (sortB x).toArray).heap++os).size
   rw[Array.size_append,Sort.size_putRow]
   exact Nat.le_add_right _ _
  ·rw[hw];rfl
  ·rw[hw];rfl
  ·intro b' hb' hn' _
   exact .of (hne b' hb' fun hh=>hn' ((hfpb b').2 hh))
  ·intro _ u hu v hv
   simp only[List.mem_singleton]at hu
   subst hu
   simp only[List.head?_cons,Option.mem_def,Option.some.injEq]at hv
   subst hv
   show [Value.slice (some ⟨b,0,none⟩) (sortD x).length _]=[Value.slice (g:OwnL ByteArray).ad (g:OwnL ByteArray).rows.length _]
   rw[had,hgx,sortD_len]
end
section
section
variable {D R:Type}
end
theorem bget(s:ByteArray)(i:Nat):s[i]? =s.data.toList[i]? :=by
 by_cases h:i<s.size
 ·rw[getElem?_pos s i h,ByteArray.getElem_eq_getElem_data]
  rw[Array.getElem?_toList]
  exact(Array.getElem?_eq_getElem _).symm
 ·rw[getElem?_neg s i h,Array.getElem?_toList]
  exact(Array.getElem?_eq_none (by rw[ByteArray.size_data];omega)).symm
theorem blen(s:ByteArray):s.data.toList.length=s.size:=by rw[Array.length_toList,ByteArray.size_data]
theorem bext{a b:ByteArray}(h:a.data.toList=b.data.toList):a=b:=ByteArray.ext (Array.toList_inj.1 h)
theorem ofBytes_list(l:List Int):(ofBytes l).data.toList=l.map fun n=>UInt8.ofNat n.toNat:=rfl
theorem ofBytes_size(l:List Int):(ofBytes l).size=l.length:=by rw[←blen,ofBytes_list,List.length_map]
theorem i64_nonneg(k:Nat)(h:k<9223372036854775808):IntKind.i64.wrap (k:Int)=k:=wrap_i64 (by omega) (by omega)
theorem ofInt_nat(n:Nat)(h:n<18446744073709551616):(BitVec.ofInt 64 (n:Int)).toNat=n:=by
 rw[BitVec.toNat_ofInt]
 have:(n:Int) % ((2 ^ 64:Nat):Int)=n:=Int.emod_eq_of_lt (by omega) (by omega)
 rw[this,Int.toNat_natCast]
theorem or_256(v b:Nat)(hv:v<1099511627776)(hb:b<256):intBits .or .i64 ((v*256:Nat):Int) (b:Int)=((v*256+b:Nat):Int):=by
 have h1:intBits .or .i64 ((v*256:Nat):Int) (b:Int)=IntKind.i64.wrap ((BitVec.ofInt 64 ((v*256:Nat):Int)|||BitVec.ofInt 64 (b:Int)).toNat:Nat):=rfl
 rw[h1,BitVec.toNat_or,ofInt_nat _ (by omega),ofInt_nat _ (by omega)]
 have h2:=Nat.two_pow_add_eq_or_of_lt (i:=8) (b:=b) (by omega) v
 rw[show v*256=2 ^ 8*v by omega,←h2,i64_nonneg _ (by omega)]
section
variable {α β D:Type}
def markG(e:α→Int→α×Int):List α→Int→List α×Int
 |[],m=>([],m)
 |x::l,m=>((e x m).1::(markG e l (e x m).2).1,(markG e l (e x m).2).2)
theorem markG_bound{e:α→Int→α×Int}{c:α→Nat}{B:Int}:∀{l:List α} {m:Int},0≤m→m+((l.map c).sum:Nat)<B→(∀x∈l,∀m,0≤m→m+(c x:Int)<B→m≤(e x m).2∧(e x m).2≤m+c x)→
  m≤(markG e l m).2∧(markG e l m).2≤m+((l.map c).sum:Nat)
 |[],m,_,_,_=>⟨Int.le_refl _,by simp[markG]⟩
 |x::l,m,h0,hb,he=>by
  simp only[List.map_cons,List.sum_cons]at hb ⊢
  obtain⟨h1,h2⟩:=he x (by simp) m h0 (by omega)
  obtain⟨h3,h4⟩:= @markG_bound e c B l (e x m).2 (by omega) (by omega) fun y hy=>he y (by simp[hy])
  simp only[markG]
  omega
theorem markG_ev{L:Nat→((Unit×(Int×(Int×List α)))→Option β)→(Unit×(Int×(Int×List α)))→Option β}(e:α→Int→α×Int)(c:α→Nat)(B:Int)(l0:List α)(m0:Int)(fin:Int→List α→β)
  (h0:0≤m0) (hb:m0+((l0.map c).sum:Nat)<B) (he:∀x∈l0,∀m,0≤m→m+(c x:Int)<B→m≤(e x m).2∧(e x m).2≤m+c x)
  (hs:∀(pre:List α) x (post:List α) (m:Int),x∈l0→0≤m→m+(c x:Int)<B→pre.length+(post.length+1)=l0.length→EvS L ((),m,(pre.length:Int),pre++x::post) ((),(e x m).2,((pre.length+1:Nat):Int),pre++(e x m).1::post))
  (hf:∀(m:Int) (l:List α),l.length=l0.length→EvL L ((),m,(l0.length:Int),l) (fin m l)):EvL L ((),m0,(0:Int),l0) (fin (markG e l0 m0).2 (markG e l0 m0).1):=by
 have key:∀(post pre:List α) (m:Int),pre.length+post.length=l0.length→(∀x∈post,x∈l0)→0≤m→m+((post.map c).sum:Nat)<B→
   EvL L ((),m,(pre.length:Int),pre++post) (fin (markG e post m).2 (pre++(markG e post m).1)):=by
  intro post
  induction post with
  |nil=>
   intro pre m hl _ _ _
   simp only[List.length_nil,Nat.add_zero]at hl
   rw[hl]
   exact hf m (pre++[]) (by simpa using hl)
  |cons x post ih=>
   intro pre m hl hx hm hB
   simp only[List.length_cons]at hl
   simp only[List.map_cons,List.sum_cons]at hB
   obtain⟨h1,h2⟩:=he x (hx x (by simp)) m hm (by omega)
   refine EvL.step (hs pre x post m (hx x (by simp)) hm (by omega) hl) ?_
   have:=ih (pre++[(e x m).1]) (e x m).2 (by simp;omega) (fun y hy=>hx y (by simp[hy])) (by omega) (by omega)
   simp only[List.length_append,List.length_singleton,List.append_assoc,List.singleton_append]at this
   exact this
 have:=key l0 [] m0 (by simp) (fun x hx=>hx) h0 hb
 simpa using this
end
end
section
section
variable {S D R α σ β T:Type}
def EvX(F:Nat→S→Option R)(G:(S→Option R)→Prop):Prop:=∃o,EvQ F o∧G o
theorem EvX.const(o:S→Option R){G:(S→Option R)→Prop}(h:G o):EvX (fun _=>o) G:=⟨o,EvQ.const o,h⟩
theorem EvX.congr{F F':Nat→S→Option R}{G:(S→Option R)→Prop}(h:∀k s,F k s=F' k s)(hF:EvX F' G):EvX F G:=by
 obtain⟨o,h1,h2⟩:=hF
 exact⟨o,EvQ.congr (fun k=>funext (h k)) h1,h2⟩
theorem EvX.bif{c:Bool}{F H:Nat→S→Option R}{G:(S→Option R)→Prop}(h1:c=true→EvX F G)(h2:c=false→EvX H G):EvX (fun k s=>bif c then F k s else H k s) G:=by
 cases c
 ·exact h2 rfl
 ·exact h1 rfl
theorem EvX.ifp{p:Prop}[Decidable p]{F:Nat→S→Option R}{G:(S→Option R)→Prop}(hp:p)(h:EvX F G):EvX (fun k s=>if p then F k s else none) G:=by
 simp only[if_pos hp];exact h
theorem EvX.bind{f:Nat→Option α}{a:α}{g:Nat→S→α→Option R}{G:(S→Option R)→Prop}(h:Ev f a)(hg:EvX (fun k s=>g k s a) G):EvX (fun k s=>(f k).bind (g k s)) G:=by
 obtain⟨o,⟨M,hg⟩,hG⟩:=hg
 obtain⟨N,h⟩:=h
 refine⟨o,⟨N+M,fun k hk=> ?_⟩,hG⟩
 have:=hg k (by omega)
 simp only[h k (by omega),Option.bind_some]
 exact this
def Say(f:Nat→Option Bool)(P:Prop):Prop:=∃b,Ev f b∧(b=true↔P)
theorem Say.run{c F:Nat→Option Bool}{P:Prop}(h:∀k,c (k+1)=F k)(hF:Say F P):Say c P:=by
 obtain⟨b,h1,h2⟩:=hF
 exact⟨b,EvQ.run h h1,h2⟩
theorem Say.same{f g:Nat→Option Bool}{P:Prop}(h:Say f P)(h':Say g P):∃b,Ev f b∧Ev g b∧(b=true↔P):=by
 obtain⟨b,h1,h2⟩:=h
 obtain⟨b',h1',h2'⟩:=h'
 have:b'=b:=by
  cases b<;>cases b'<;>simp_all
 subst this
 exact⟨_,h1,h1',h2⟩
theorem EvX.say{f:Nat→Option Bool}{Q:Prop}{g:Nat→S→Bool→Option R}{G:(S→Option R)→Prop}(h:Say f Q)(hg:∀b,(b=true↔Q)→EvX (fun k s=>g k s b) G):EvX (fun k s=>(f k).bind (g k s)) G:=by
 obtain⟨b,h1,h2⟩:=h
 exact EvX.bind h1 (hg b h2)
def GP(P:Prop)(o:S→Option Bool):Prop:=∃b:Bool,(∀s,o s=some b)∧(b=true↔P)
theorem GP.ret{P:Prop}{b:Bool}(h:b=true↔P):GP P (fun _:S=>some b):=⟨b,fun _=>rfl,h⟩
theorem GP.no{P:Prop}(h:¬P):GP P (fun _:S=>some false):=GP.ret (by simp[h])
theorem GP.yes{P:Prop}(h:P):GP P (fun _:S=>some true):=GP.ret ⟨fun _=>h,fun _=>rfl⟩
theorem Say.of{f:Nat→Option Bool}{P:Prop}(h:EvX (fun k (_:Unit)=>f k) (GP P)):Say f P:=by
 obtain⟨o,⟨N,h1⟩,b,h2,h3⟩:=h
 exact⟨b,⟨N,fun k hk=>by have:=congrFun (h1 k hk) ();rw[h2]at this;exact this⟩,h3⟩
def GR(Q:R→Prop)(o:S→Option R):Prop:=∃r,(∀s,o s=some r)∧Q r
theorem GR.ret{Q:R→Prop}{r:R}(h:Q r):GR Q (fun _:S=>some r):=⟨r,fun _=>rfl,h⟩
theorem Ev.of{f:Nat→Option R}{Q:R→Prop}(h:EvX (fun k (_:Unit)=>f k) (GR Q)):∃r,Ev f r∧Q r:=by
 obtain⟨o,⟨N,h1⟩,r,h2,h3⟩:=h
 exact⟨r,⟨N,fun k hk=>by have:=congrFun (h1 k hk) ();rw[h2]at this;exact this⟩,h3⟩
theorem Ev.eq{f:Nat→Option R}{r:R}(h:EvX (fun k (_:Unit)=>f k) (GR fun x=>x=r)):Ev f r:=by
 obtain⟨x,h1,rfl⟩:=Ev.of h
 exact h1
theorem EvX.ofEv{f:Nat→Option R}{r:R}{G:(S→Option R)→Prop}(h:Ev f r)(hG:G fun _=>some r):EvX (fun k (_:S)=>f k) G:=by
 obtain⟨N,h⟩:=h
 exact⟨fun _=>some r,⟨N,fun k hk=>funext fun _=>h k hk⟩,hG⟩
theorem EvX.join{X:Nat→S→Option (T ⊕ R)}{g:Nat→S→T→Option R}{G:(S→Option R)→Prop}
  (h:EvX X fun o=>(∃t,(∀s,o s=some (.inl t))∧EvX (fun k s=>g k s t) G)∨∃b,(∀s,o s=some (.inr b))∧G fun _=>some b):EvX (fun k s=>joinK (X k s) (g k s)) G:=by
 obtain⟨o,⟨N,h1⟩,h2⟩:=h
 rcases h2 with⟨t,h2,o',⟨M,h3⟩,h4⟩|⟨b,h2,h3⟩
 ·refine⟨o',⟨N+M,fun k hk=>funext fun s=> ?_⟩,h4⟩
  have e1:=congrFun (h1 k (by omega)) s
  have e2:=congrFun (h3 k (by omega)) s
  simp only[joinK,e1,h2];exact e2
 ·refine⟨fun _=>some b,⟨N,fun k hk=>funext fun s=> ?_⟩,h3⟩
  have e1:=congrFun (h1 k (by omega)) s
  simp only[joinK,e1,h2]
def GT(t:T)(Q:Prop)(G:(S→Option R)→Prop)(o:S→Option (T ⊕ R)):Prop:=((∀s,o s=some (.inl t))∧Q)∨∃b,(∀s,o s=some (.inr b))∧G fun _=>some b
theorem EvX.joinT{X:Nat→S→Option (T ⊕ R)}{g:Nat→S→T→Option R}{G:(S→Option R)→Prop}(t:T)(Q:Prop)
  (h:EvX X (GT t Q G)) (hg:Q→EvX (fun k s=>g k s t) G):EvX (fun k s=>joinK (X k s) (g k s)) G:=by
 refine EvX.join ?_
 obtain⟨o,h1,h2⟩:=h
 refine⟨o,h1,h2.imp (fun h=>⟨t,h.1,hg h.2⟩) id⟩
theorem GT.inl{G:(S→Option R)→Prop}{t:T}{Q:Prop}(h:Q):GT t Q G (fun _=>some (.inl t)):=Or.inl ⟨fun _=>rfl,h⟩
theorem GT.inr{G:(S→Option R)→Prop}{t:T}{Q:Prop}{b:R}(h:G fun _=>some b):GT t Q G (fun _=>some (.inr b)):=Or.inr ⟨b,fun _=>rfl,h⟩
def GL(mk:σ→Nat→D)(inv:σ→Nat→Prop)(i:Nat)(G:(S→Option R)→Prop)(o:(S×(D→Option R))→Option R):Prop:=
 (∃st,(∀p,o p=p.2 (mk st (i+1)))∧inv st (i+1))∨∃o',(∀p,o p=o' p.1)∧G o'
theorem GL.self{mk:σ→Nat→D}{inv:σ→Nat→Prop}{i:Nat}{G:(S→Option R)→Prop}{d:D}(st:σ)(hd:d=mk st (i+1))(h:inv st (i+1)):GL mk inv i G (fun p=>p.2 d):=by
 subst hd;exact .inl ⟨st,fun _=>rfl,h⟩
theorem GL.up{mk:σ→Nat→D}{inv:σ→Nat→Prop}{i:Nat}{G:(S→Option R)→Prop}(o':S→Option R)(h:G o'):GL mk inv i G (fun p=>o' p.1):= .inr ⟨o',fun _=>rfl,h⟩
theorem GL.ret{mk:σ→Nat→D}{inv:σ→Nat→Prop}{i:Nat}{G:(S→Option R)→Prop}{b:R}(h:G fun _=>some b):GL mk inv i G (fun _=>some b):= .inr ⟨fun _=>some b,fun _=>rfl,h⟩
def GE(G:(S→Option R)→Prop)(o:(S×(D→Option R))→Option R):Prop:=∃o',(∀p,o p=o' p.1)∧G o'
theorem GE.up{G:(S→Option R)→Prop}(o':S→Option R)(h:G o'):GE (D:=D) G (fun p=>o' p.1):=⟨o',fun _=>rfl,h⟩
theorem GE.ret{G:(S→Option R)→Prop}{b:R}(h:G fun _=>some b):GE (D:=D) G (fun _=>some b):=⟨fun _=>some b,fun _=>rfl,h⟩
theorem EvX.out{F:Nat→S→Option R}{G:(S→Option R)→Prop}(h:EvX F G):EvX (fun k (p:S×(D→Option R))=>F k p.1) (GE G):=by
 obtain⟨o,⟨N,h1⟩,h2⟩:=h
 exact⟨fun p=>o p.1,⟨N,fun k hk=>funext fun p=>congrFun (h1 k hk) p.1⟩,o,fun _=>rfl,h2⟩
theorem EvX.upto{L:Nat→S→(D→Option R)→D→Option R}(n:Nat)(mk:σ→Nat→D)(inv:σ→Nat→Prop){G:(S→Option R)→Prop}
  (hs:∀st i,i<n→inv st i→EvX (fun k (p:S×(D→Option R))=>L k p.1 p.2 (mk st i)) (GL mk inv i G))
  (he:∀st,inv st n→EvX (fun k (p:S×(D→Option R))=>L k p.1 p.2 (mk st n)) (GE G)) (s0:σ) (i0:Nat) (hi:i0≤n) (h0:inv s0 i0):
  EvX (fun k s=>iter k (L k s) (mk s0 i0)) G:=by
 have key:∀m i st,i+m=n→inv st i→∃o,(∃N,∀r k,N≤r→N≤k→∀s,iter r (L k s) (mk st i)=o s)∧G o:=by
  intro m
  induction m with
  |zero=>
   intro i st hi hv
   have:i=n:=by omega
   subst this
   obtain⟨o,⟨N,h1⟩,o',h2,h3⟩:=he st hv
   refine⟨o',⟨N+1,fun r k hr hk s=> ?_⟩,h3⟩
   obtain⟨m,rfl⟩:∃m,r=m+1:=⟨r-1,by omega⟩
   have:L k s (iter m (L k s)) (mk st i)=o (s,iter m (L k s)):=congrFun (h1 k (by omega)) (s,iter m (L k s))
   simp only[iter]
   rw[this,h2]
  |succ m ih=>
   intro i st hi hv
   obtain⟨o,⟨N,h1⟩,h2⟩:=hs st i (by omega) hv
   rcases h2 with⟨st',h2,h3⟩|⟨o',h2,h3⟩
   ·obtain⟨o',⟨M,h4⟩,h5⟩:=ih (i+1) st' (by omega) h3
    refine⟨o',⟨N+M+1,fun r k hr hk s=> ?_⟩,h5⟩
    obtain⟨m,rfl⟩:∃m,r=m+1:=⟨r-1,by omega⟩
    have:L k s (iter m (L k s)) (mk st i)=o (s,iter m (L k s)):=congrFun (h1 k (by omega)) (s,iter m (L k s))
    simp only[iter]
    rw[this,h2]
    exact h4 m k (by omega) (by omega) s
   ·refine⟨o',⟨N+1,fun r k hr hk s=> ?_⟩,h3⟩
    obtain⟨m,rfl⟩:∃m,r=m+1:=⟨r-1,by omega⟩
    have:L k s (iter m (L k s)) (mk st i)=o (s,iter m (L k s)):=congrFun (h1 k (by omega)) (s,iter m (L k s))
    simp only[iter]
    rw[this,h2]
 obtain⟨o,⟨N,h1⟩,h2⟩:=key (n-i0) i0 s0 (by omega) h0
 exact⟨o,⟨N,fun k hk=>funext fun s=>h1 k k hk hk s⟩,h2⟩
theorem EvX.list{L:Nat→S→(D→Option R)→D→Option R}(l:List α)(mk:σ→Nat→D)(inv:σ→Nat→Prop){G:(S→Option R)→Prop}
  (hs:∀st i x,l[i]? =some x→i<l.length→inv st i→EvX (fun k (p:S×(D→Option R))=>L k p.1 p.2 (mk st i)) (GL mk inv i G))
  (he:∀st,inv st l.length→EvX (fun k (p:S×(D→Option R))=>L k p.1 p.2 (mk st l.length)) (GE G)) (s0:σ) (h0:inv s0 0):
  EvX (fun k s=>iter k (L k s) (mk s0 0)) G:=
 EvX.upto l.length mk inv (fun st i hi hv=>hs st i l[i] (List.getElem?_eq_getElem hi) hi hv) he s0 0 (Nat.zero_le _) h0
end
end
end Go.Eng

/- The tables, the residual functions and lemmas of this seat: parts of the proof of the law; conditions: those that each names. -/
import Derived.Test.YtkdcfeopelbojaaGreatDoorFin
import Derived.Test.YtkdcfeopelbojaaGreatDoorJon
import Derived.Test.YtkdcfeopelbojaaGreatDoorEng6
set_option linter.unusedVariables false
set_option linter.unusedSimpArgs false
set_option maxRecDepth 100000
namespace Go.Proofs.YtkdcfeopelbojaaGreatDoor
open Go.Eng
theorem aw.Kc{S α:Type}{p:Prop}[Decidable p]{F:Nat→S→Option α}{r:S→Option α}(hp:p)(h:aw F r):aw (fun k s=>if p then F k s else none) r:=by
 simp only[if_pos hp];exact h
def mV(b:Bool)(x:ByteArray):ByteArray:=bif b then x else⟨#[45]⟩
theorem dS(b:Bool){x:ByteArray}(h:x.size=1):(mV b x).size=1:=by cases b<;>simp[mV,h]<;>rfl
theorem FX(b:Bool)(x:ByteArray):Ev (fun k=>eW k (b,x)) (mV b x):=by
 refine aw.run (fun k=>EB k _ _) ?_
 cases b<;>exact aw.const _
def lj(m i:Nat):Nat:=m / 8 ^(2-i) % 8
theorem Rn{m i:Nat}(hm:m≤2047)(hi:i≤2):Ev (fun k=>eS k ((m:Int),(i:Int))) (lj m i:Int):=by
 refine aw.run (fun k=>um k _ _) ?_
 simp only[wz]
 refine aw.bind (lT _) ?_
 rw[show decide ((0:Int)≤(m:Int)∧(m:Int)≤2047)=true from decide_eq_true (by omega)]
 simp only[Bool.not_true,cond_false]
 refine aw.bind (cy _ _ _) ?_
 rw[show decide ((0:Int)≤(i:Int)∧(i:Int)≤2)=true from decide_eq_true (by omega)]
 simp only[Bool.not_true,cond_false]
 refine cI.ev ?_
 have:=cI.count (L:=dh) (r:=(lj m i:Int)) (fun j=>(((m / 8 ^ j:Nat):Int),((i+j:Nat):Int))) (2-i) (fun j hj=> ?_) (cI.stop ?_)
 ·simpa using this
 ·have hle:m / 8 ^ j≤m:=Nat.div_le_self _ _
  have e1:aa .i64 (((m / 8 ^ j:Nat):Int).tdiv 8)=((m / 8 ^(j+1):Nat):Int):=by
   rw[Nat.pow_succ,←Nat.div_div_eq_div_mul]
   generalize m / 8 ^ j=a at hle
   rw[Int.tdiv_eq_ediv_of_nonneg (by omega),aV (by omega) (by omega)]
   omega
  simp only[rZ,dh,show((i+j:Nat):Int)<2 by omega,decide_true,cond_true,show((8:Int):Int)≠0 by decide,ne_eq,not_false_eq_true,if_true,e1,wS (i+j)]
  rw[show i+(j+1)=i+j+1 by omega]
  exact aw.const _
 ·have e1:((m / 8 ^(2-i):Nat):Int).tmod 8=(lj m i:Int):=by
   rw[lj]
   generalize m / 8 ^(2-i)=a
   rw[Int.tmod_eq_emod_of_nonneg (by omega)];omega
  simp only[dh,show ¬((i+(2-i):Nat):Int)<2 by omega,decide_false,cond_false,show((8:Int):Int)≠0 by decide,ne_eq,not_false_eq_true,if_true,e1]
  exact aw.const _
def QP(m:Nat):Nat→ByteArray
 |0=>mV ((intBits .and .i64 (m:Int) 1024) != 0) ⟨#[115]⟩++mV ((intBits .and .i64 (m:Int) 512) != 0) ⟨#[116]⟩
 |i+1=>((QP m i++mV ((intBits .and .i64 (lj m i:Int) 4) != 0) ⟨#[114]⟩)++mV ((intBits .and .i64 (lj m i:Int) 2) != 0) ⟨#[119]⟩)++mV ((intBits .and .i64 (lj m i:Int) 1) != 0) ⟨#[120]⟩
theorem Lo(m:Nat):∀i,(QP m i).size=2+3*i
 |0=>by rw[QP,aG,dS _ rfl,dS _ rfl]
 |i+1=>by rw[QP,aG,aG,aG,Lo m i,dS _ rfl,dS _ rfl,dS _ rfl];omega
theorem RP:∀m:Fin 2048,((intBits .and .i64 ((m.val:Nat):Int) 1024) != 0)= !(decide (m.val / 1024 % 2=0)):=by decide+kernel
theorem SH:∀m:Fin 2048,((intBits .and .i64 ((m.val:Nat):Int) 512) != 0)= !(decide (m.val / 512 % 2=0)):=by decide+kernel
theorem MQ:∀p:Fin 8,((intBits .and .i64 ((p.val:Nat):Int) 4) != 0)= !(decide (p.val / 4 % 2=0))∧((intBits .and .i64 ((p.val:Nat):Int) 2) != 0)= !(decide (p.val / 2 % 2=0))∧((intBits .and .i64 ((p.val:Nat):Int) 1) != 0)= !(decide (p.val % 2=0)):=by decide+kernel
def Ri(k:Nat):Int:=([115,116,114,119,120,114,119,120,114,119,120]:List Int)[k]?.getD 0
def To(m:Int)(k:Nat):Int:=if hY m k then 45 else Ri k
theorem Il(m:Int)(j:Nat)(hj:j<11):∀i,(px m i)[j]? =some (if j<i∧hY m j=true then 45 else Ri j)
 |0=>by
  rw[if_neg (by omega)]
  show([115,116,114,119,120,114,119,120,114,119,120]:List Int)[j]? =_
  rw[Ri,List.getElem?_eq_getElem (by simpa using hj)];rfl
 |i+1=>by
  have ih:=Il m j hj i
  have hl:=ki m i
  rw[px]
  by_cases hb:hY m i=true
  ·rw[if_pos hb]
   by_cases e:i=j
   ·subst e
    rw[List.getElem?_set_self (by omega),if_pos ⟨by omega,hb⟩]
   ·rw[List.getElem?_set_ne e,ih]
    congr 1
    by_cases h2:j<i∧hY m j=true
    ·rw[if_pos h2,if_pos ⟨by omega,h2.2⟩]
    ·rw[if_neg h2,if_neg fun h3=>h2 ⟨by omega,h3.2⟩]
  ·rw[if_neg hb,ih]
   congr 1
   by_cases h2:j<i∧hY m j=true
   ·rw[if_pos h2,if_pos ⟨by omega,h2.2⟩]
   ·rw[if_neg h2,if_neg fun h3=>h2 ⟨by
     rcases Nat.lt_or_ge j i with h|h
     ·exact h
     ·exfalso
      have:j=i:=by omega
      subst this;exact hb h3.2,h3.2⟩]
theorem Oy(m:Int):px m 11=(List.range 11).map (To m):=by
 apply List.ext_getElem?
 intro j
 by_cases hj:j<11
 ·rw[Il m j hj,List.getElem?_map,List.getElem?_range hj]
  show some _=some (To m j)
  unfold To
  by_cases hb:hY m j=true
  ·rw[if_pos ⟨hj,hb⟩,if_pos hb]
  ·rw[if_neg fun h=>hb h.2,if_neg hb]
 ·rw[List.getElem?_eq_none (by rw[ki];omega),List.getElem?_eq_none (by simp;omega)]
theorem kX(m:Int)(k:Nat)(x:Int)(hx:Ri k=x)(b:Bool)(hb:b= !hY m k):mV b (ofBytes [x])=ofBytes [To m k]:=by
 subst hb
 unfold To
 cases hY m k with
 |true=>rfl
 |false=>rw[←hx];rfl
theorem R3(a b:List Int):ofBytes a++ofBytes b=ofBytes (a++b):=by
 refine AR ?_
 rw[iV,List.map_append]
 show(ofBytes a++ofBytes b).data.toList=_
 simp[iV]
theorem TG{n:Nat}(hn:n≤2047):QP n 3=rP (n:Int):=by
 have hb:∀k (b:Bool) (q:Nat),(2:Int)^(10-k)=(q:Int)→b= !(decide (n / q % 2=0))→b= !hY (n:Int) k:=fun k b q hq h=>by
  rw[h,hY,hq]
  congr 1
  rw[decide_eq_decide]
  omega
 have a0:=hb 0 _ 1024 rfl (RP ⟨n,by omega⟩)
 have a1:=hb 1 _ 512 rfl (SH ⟨n,by omega⟩)
 have p0:lj n 0=n / 64 % 8:=rfl
 have p1:lj n 1=n / 8 % 8:=rfl
 have p2:lj n 2=n / 1 % 8:=rfl
 obtain⟨x0,x1,x2⟩:=MQ ⟨lj n 0,by rw[p0];omega⟩
 obtain⟨y0,y1,y2⟩:=MQ ⟨lj n 1,by rw[p1];omega⟩
 obtain⟨z0,z1,z2⟩:=MQ ⟨lj n 2,by rw[p2];omega⟩
 have b2:=hb 2 _ 256 rfl (x0.trans (by congr 1;rw[decide_eq_decide];show lj n 0 / 4 % 2=0↔_;rw[p0];omega))
 have b3:=hb 3 _ 128 rfl (x1.trans (by congr 1;rw[decide_eq_decide];show lj n 0 / 2 % 2=0↔_;rw[p0];omega))
 have b4:=hb 4 _ 64 rfl (x2.trans (by congr 1;rw[decide_eq_decide];show lj n 0 % 2=0↔_;rw[p0];omega))
 have b5:=hb 5 _ 32 rfl (y0.trans (by congr 1;rw[decide_eq_decide];show lj n 1 / 4 % 2=0↔_;rw[p1];omega))
 have b6:=hb 6 _ 16 rfl (y1.trans (by congr 1;rw[decide_eq_decide];show lj n 1 / 2 % 2=0↔_;rw[p1];omega))
 have b7:=hb 7 _ 8 rfl (y2.trans (by congr 1;rw[decide_eq_decide];show lj n 1 % 2=0↔_;rw[p1];omega))
 have b8:=hb 8 _ 4 rfl (z0.trans (by congr 1;rw[decide_eq_decide];show lj n 2 / 4 % 2=0↔_;rw[p2];omega))
 have b9:=hb 9 _ 2 rfl (z1.trans (by congr 1;rw[decide_eq_decide];show lj n 2 / 2 % 2=0↔_;rw[p2];omega))
 have b10:=hb 10 _ 1 rfl (z2.trans (by congr 1;rw[decide_eq_decide];show lj n 2 % 2=0↔_;rw[p2];omega))
 have e0:=kX n 0 115 rfl _ a0
 have e1:=kX n 1 116 rfl _ a1
 have e2:=kX n 2 114 rfl _ b2
 have e3:=kX n 3 119 rfl _ b3
 have e4:=kX n 4 120 rfl _ b4
 have e5:=kX n 5 114 rfl _ b5
 have e6:=kX n 6 119 rfl _ b6
 have e7:=kX n 7 120 rfl _ b7
 have e8:=kX n 8 114 rfl _ b8
 have e9:=kX n 9 119 rfl _ b9
 have e10:=kX n 10 120 rfl _ b10
 rw[rP,if_pos (by omega),Oy]
 show(((((((((mV _ (ofBytes [115])++mV _ (ofBytes [116]))++mV _ (ofBytes [114]))++mV _ (ofBytes [119]))++mV _ (ofBytes [120]))++mV _ (ofBytes [114]))++mV _ (ofBytes [119]))++mV _ (ofBytes [120]))++mV _ (ofBytes [114]))++mV _ (ofBytes [119]))++mV _ (ofBytes [120])=_
 rw[e0,e1,e2,e3,e4,e5,e6,e7,e8,e9,e10]
 simp only[R3]
 rfl
theorem Jh{m:Int}(h:0≤m∧m≤2047):Ev (fun k=>k9 k m) (rP m):=by
 obtain⟨n,rfl⟩:=Int.eq_ofNat_of_zero_le h.1
 have hn:n≤2047:=by omega
 rw[←TG hn]
 refine aw.run (fun k=>xB k _) ?_
 simp only[tG]
 refine aw.bind (lT _) ?_
 rw[show decide ((0:Int)≤(n:Int)∧(n:Int)≤2047)=true from decide_eq_true (by omega)]
 simp only[Bool.not_true,cond_false]
 refine aw.bind (FX _ _) (aw.bind (FX _ _) (aw.pK (by rw[dS _ rfl,dS _ rfl];omega) (cI.ev ?_)))
 refine cI.count (L:=fK) (r:=QP n 3) (fun i=>((n:Int),QP n i,(i:Int))) 3 (fun i hi=> ?_) (cI.stop ?_)
 ·have hs:=Lo n i
  simp only[rZ,fK,show(i:Int)<3 by omega,decide_true,cond_true,wS i]
  refine aw.jt (Rn hn (by omega)) (aw.jt (FX _ _) ?_)
  simp only[if_pos (show(QP n i).size+(mV ((intBits .and .i64 (lj n i:Int) 4) != 0) ⟨#[114]⟩).size≤9223372036854775807 by rw[dS _ rfl];omega)]
  refine aw.jt (FX _ _) ?_
  simp only[if_pos (show(QP n i++mV ((intBits .and .i64 (lj n i:Int) 4) != 0) ⟨#[114]⟩).size+(mV ((intBits .and .i64 (lj n i:Int) 2) != 0) ⟨#[119]⟩).size≤9223372036854775807 by rw[aG,dS _ rfl,dS _ rfl];omega)]
  refine aw.jt (FX _ _) ?_
  simp only[if_pos (show((QP n i++mV ((intBits .and .i64 (lj n i:Int) 4) != 0) ⟨#[114]⟩)++mV ((intBits .and .i64 (lj n i:Int) 2) != 0) ⟨#[119]⟩).size+(mV ((intBits .and .i64 (lj n i:Int) 1) != 0) ⟨#[120]⟩).size≤9223372036854775807 by rw[aG,aG,dS _ rfl,dS _ rfl,dS _ rfl];omega)]
  exact aw.const _
 ·simp only[fK,show ¬((3:Nat):Int)<3 by omega,decide_false,cond_false]
  exact aw.const _
theorem J5{m:Int}(h:0≤m∧m≤2047):Ev (fun k=>kv k m) (rP m):=by
 refine aw.run (fun k=>uD k m) ?_
 have e:cU m=some (rP m):=if_pos (by omega)
 rw[e];exact aw.const _
theorem MT(m:Int):(rP m).size≤11:=by
 unfold rP
 split
 ·rw[cR,ki];omega
 ·exact Nat.zero_le _
def bd(n:Int):ByteArray:=⟨(Lib.itoa n).toArray⟩
theorem bW(n:Int)(h0: -9223372036854775808≤n)(h1:n≤9223372036854775807):(bd n).size≤21:=by
 have:=Qv h0 h1
 rw[←vS];simpa[bd]using this
def HE(t:Nat):ByteArray:=(⟨#[63,117,103,109]⟩:ByteArray).extract t (t+1)
def ll(e:fc):ByteArray:=((HE e.1.toNat++bd e.2.1)++⟨#[58]⟩)++bd e.2.2
theorem CB(t:Nat):(HE t).size≤4:=by
 rw[HE,ByteArray.size_extract]
 have:(⟨#[63,117,103,109]⟩:ByteArray).size=4:=rfl
 omega
theorem FI{e:fc}(h:pY e):(ll e).size≤50:=by
 have h0:=h.1
 have h1:=h.2.1
 have h2:0≤e.2.1∧e.2.1≤3:=by
  rcases h.2.2 with⟨_,h⟩|⟨_,h⟩
  ·exact h
  ·omega
 have z1:=bW e.2.1 (by omega) (by omega)
 have z2:=bW e.2.2 (by omega) (by omega)
 have z3:=CB e.1.toNat
 have z4:(⟨#[58]⟩:ByteArray).size=1:=rfl
 rw[ll,aG,aG,aG];omega
noncomputable def B7(l:List fc):ByteArray:=if l=[]then⟨#[45]⟩else ug (l.map ll) ⟨#[44]⟩
theorem Pd{e:fc}(h:pY e):e.1=1∨e.1=2∨e.1=3:=by
 rcases h.2.2 with⟨h,_⟩|⟨h,_⟩
 ·rcases h with h|h
  ·exact .inl h
  ·exact .inr (.inl h)
 ·exact .inr (.inr h)
theorem F1{α β:Type}(g:α→β){l:List α}{i:Nat}{c:α}(h:l[i]? =some c):(l.take (i+1)).map g=(l.take i).map g++[g c]:=by
 rw[List.take_add_one,h,List.map_append];rfl
theorem Cj{l:List fc}(h:B3 l):(l.map ll).length≤1000∧∀x∈l.map ll,x.size≤1000:=by
 refine⟨by rw[List.length_map];have:=h.1;omega,fun x hx=> ?_⟩
 obtain⟨e,he,rfl⟩:=List.mem_map.1 hx
 obtain⟨i,hi⟩:=List.mem_iff_getElem?.1 he
 have:=FI (h.2.1 i e hi).1
 omega
theorem SY{l:List fc}(h:B3 l):(B7 l).size≤6000000000:=by
 obtain⟨h1,h2⟩:=Cj h
 have h3:=so (sep:=⟨#[44]⟩) (by show 1≤_;omega) h2
 have z:(⟨#[45]⟩:ByteArray).size=1:=rfl
 rw[List.length_map]at h3
 have:=h.1
 unfold B7
 split<;>omega
theorem DX(s:ByteArray)(B:Nat):∀l:List ByteArray,(∀x∈l,x.size≤B)→(Lib.joinTail s.data.toList (l.map (·.data.toList))).length≤(s.size+B)*l.length
 |[],_=>Nat.zero_le _
 |x::l,h=>by
  have h1:=h x (List.mem_cons_self ..)
  have h2:=DX s B l fun y hy=>h y (List.mem_cons_of_mem _ hy)
  simp only[Lib.joinTail]at h2
  simp only[List.map_cons,Lib.joinTail,List.flatten_cons,List.length_append,List.length_cons,vS,Nat.mul_succ]
  omega
theorem E4{l:List fc}(h:B3 l):(B7 l).size≤1000:=by
 unfold B7
 split
 ·show 1≤_;omega
 ·have hl:=h.1
  have hb:∀x∈l.map ll,x.size≤50:=fun x hx=>by
   obtain⟨e,he,rfl⟩:=List.mem_map.1 hx
   obtain⟨i,hi⟩:=List.mem_iff_getElem?.1 he
   exact FI (h.2.1 i e hi).1
  rw[←vS,sV,rX]
  generalize hL:l.map ll=L at hb
  have hLl:L.length=l.length:=by rw[←hL,List.length_map]
  cases L with
  |nil=>rw[List.map_nil,Lib.join_nil];exact Nat.zero_le _
  |cons x r=>
   have h1:=hb x (List.mem_cons_self ..)
   have h2:=DX ⟨#[44]⟩ 50 r fun y hy=>hb y (List.mem_cons_of_mem _ hy)
   have z:(⟨#[44]⟩:ByteArray).size=1:=rfl
   rw[List.length_cons]at hLl
   rw[List.map_cons,Lib.join_cons,List.length_append,vS]
   rw[z]at h2
   omega
theorem DL{l:List fc}(h:B3 l):Ev (fun k=>iA k l) (B7 l):=by
 obtain⟨m1,m2⟩:=Cj h
 have hl:=h.1
 refine aw.run (fun k=>zk k _) ?_
 simp only[vq]
 obtain⟨b,e1,e2⟩:=kA l (by unfold ia;omega)
 have hb:b=true:=e2.2 h
 subst hb
 refine aw.bind e1 ?_
 simp only[Bool.not_true,cond_false]
 refine cI.ev ?_
 refine cI.count (L:=gI) (r:=B7 l) (fun i=>((l.take i).map ll,l,(l.length:Int),(i:Int))) l.length (fun i hi=> ?_) (cI.stop ?_)
 ·have hx:l[i]? =some l[i]:=List.getElem?_eq_getElem hi
  have hE:=(h.2.1 i _ hx).1
  have ht:=Pd hE
  have hw1:aa .i64 (l[i].1+1)=l[i].1+1:=aV (by omega) (by omega)
  have h0:=hE.1
  have h1:=hE.2.1
  have h2:0≤l[i].2.1∧l[i].2.1≤3:=by
   rcases hE.2.2 with⟨_,h⟩|⟨_,h⟩
   ·exact h
   ·omega
  have e3:(l[i].1+1).toNat=l[i].1.toNat+1:=by omega
  have z1:=bW l[i].2.1 (by omega) (by omega)
  have z2:=bW l[i].2.2 (by omega) (by omega)
  have z3:=CB l[i].1.toNat
  have z4:(⟨#[58]⟩:ByteArray).size=1:=rfl
  have z5:(((⟨#[63,117,103,109]⟩:ByteArray).size:Nat):Int)=4:=rfl
  have hcap:(((l.take i).map ll).length+([ll l[i]]:List ByteArray).length)*16≤au:=by
   rw[List.length_map,List.length_take];show(_+1)*16≤au;unfold au;omega
  simp only[rZ,gI,Int.ofNat_lt,hi,decide_true,cond_true,Int.natCast_nonneg,if_true,Int.toNat_natCast,hx,Option.bind_some,wS i,hw1,z5,show(0:Int)≤l[i].1+1 by omega,show l[i].1+1≤(4:Int)by omega,show(0:Int)≤l[i].1 by omega,show l[i].1≤((l[i].1+1).toNat:Int)by omega]
  rw[e3]
  refine aw.jt (bz l[i].2.1 (by omega) (by omega)) ?_
  refine aw.Kc (by show(HE l[i].1.toNat).size+(bd l[i].2.1).size≤_;omega) (aw.Kc (by rw[aG];show(HE l[i].1.toNat).size+(bd l[i].2.1).size+(⟨#[58]⟩:ByteArray).size≤_;omega) ?_)
  refine aw.jt (bz l[i].2.2 (by omega) (by omega)) ?_
  refine aw.Kc (by rw[aG,aG];show(HE l[i].1.toNat).size+(bd l[i].2.1).size+(⟨#[58]⟩:ByteArray).size+(bd l[i].2.2).size≤_;omega) (aw.Kc hcap ?_)
  rw[F1 ll hx]
  exact aw.const _
 ·simp only[gI,Int.lt_irrefl,decide_false,cond_false,List.take_length]
  by_cases hz:l=[]
  ·subst hz
   rw[show((((([]:List fc).map ll).length:Nat):Int)==0)=true from rfl,B7,if_pos rfl]
   simp only[cond_true]
   exact aw.const _
  ·have hz':((l.map ll).length:Int)≠0:=by
    rw[List.length_map]
    have:l.length≠0:=fun hh=>hz (List.eq_nil_of_length_eq_zero hh)
    omega
   rw[show(((l.map ll).length:Int)==0)=false from beq_eq_false_iff_ne.2 hz',B7,if_neg hz]
   simp only[cond_false]
   exact aw.jt (sR _ _ m1 (by show 1≤_;omega) m2) (aw.const _)
theorem Dy{l:List fc}(h:B3 l):Ev (fun k=>ja k l) (B7 l):=by
 obtain⟨m1,m2⟩:=Cj h
 have hl:=h.1
 refine aw.run (fun k=>zD k _) ?_
 simp only[uX]
 obtain⟨b,e1,e2⟩:=kz l
 have hb:b=true:=e2.2 h
 subst hb
 refine aw.bind e1 ?_
 simp only[Bool.not_true,cond_false]
 by_cases hz:l=[]
 ·subst hz
  exact aw.const _
 have hz':(l.length:Int)≠0:=by
  have:l.length≠0:=fun hh=>hz (List.eq_nil_of_length_eq_zero hh)
  omega
 rw[show((l.length:Int)==0)=false from beq_eq_false_iff_ne.2 hz']
 simp only[cond_false]
 refine cI.ev ?_
 refine cI.count (L:=gH) (r:=B7 l) (fun i=>((l.take i).map ll,l,(l.length:Int),(i:Int))) l.length (fun i hi=> ?_) (cI.stop ?_)
 ·have hx:l[i]? =some l[i]:=List.getElem?_eq_getElem hi
  have hE:=(h.2.1 i _ hx).1
  have ht:=Pd hE
  have hw1:aa .i64 (l[i].1-1)=l[i].1-1:=aV (by omega) (by omega)
  have h0:=hE.1
  have h1:=hE.2.1
  have h2:0≤l[i].2.1∧l[i].2.1≤3:=by
   rcases hE.2.2 with⟨_,h⟩|⟨_,h⟩
   ·exact h
   ·omega
  have hlet:(⟨#[117,103,109]⟩:ByteArray).extract (l[i].1-1).toNat l[i].1.toNat=HE l[i].1.toNat:=by
   rcases ht with e|e|e<;>rw[e]<;>decide
  have z1:=bW l[i].2.1 (by omega) (by omega)
  have z2:=bW l[i].2.2 (by omega) (by omega)
  have z3:=CB l[i].1.toNat
  have z4:(⟨#[58]⟩:ByteArray).size=1:=rfl
  have z5:(((⟨#[117,103,109]⟩:ByteArray).size:Nat):Int)=3:=rfl
  have hcap:(((l.take i).map ll).length+([ll l[i]]:List ByteArray).length)*16≤au:=by
   rw[List.length_map,List.length_take];show(_+1)*16≤au;unfold au;omega
  simp only[rZ,gH,Int.ofNat_lt,hi,decide_true,cond_true,Int.natCast_nonneg,if_true,Int.toNat_natCast,hx,Option.bind_some,wS i,hw1,z5,show(0:Int)≤l[i].1-1 by omega,show l[i].1≤(3:Int)by omega,show(0:Int)≤l[i].1 by omega,show l[i].1-1≤(l[i].1.toNat:Int)by omega,hlet]
  refine aw.jt (bx l[i].2.1 (by omega) (by omega)) ?_
  refine aw.Kc (by show(HE l[i].1.toNat).size+(bd l[i].2.1).size≤_;omega) (aw.Kc (by rw[aG];show(HE l[i].1.toNat).size+(bd l[i].2.1).size+(⟨#[58]⟩:ByteArray).size≤_;omega) ?_)
  refine aw.jt (bx l[i].2.2 (by omega) (by omega)) ?_
  refine aw.Kc (by rw[aG,aG];show(HE l[i].1.toNat).size+(bd l[i].2.1).size+(⟨#[58]⟩:ByteArray).size+(bd l[i].2.2).size≤_;omega) (aw.Kc hcap ?_)
  rw[F1 ll hx]
  exact aw.const _
 ·simp only[gH,Int.lt_irrefl,decide_false,cond_false,List.take_length]
  rw[B7,if_neg hz]
  exact aw.jt (sf _ _ m1 (by show 1≤_;omega) m2) (aw.const _)
end Go.Proofs.YtkdcfeopelbojaaGreatDoor

/- The tables, the residual functions and lemmas of this seat: parts of the proof of the law; conditions: those that each names. -/
import Derived.Test.YtkdcfeopelbojaaGreatDoorFin
import Derived.Test.YtkdcfeopelbojaaGreatDoorJon
import Derived.Test.YtkdcfeopelbojaaGreatDoorEng6
set_option linter.unusedVariables false
set_option linter.unusedSimpArgs false
set_option maxRecDepth 100000
namespace Go.Proofs.YtkdcfeopelbojaaGreatDoor
open Go.Eng
theorem ax.Kb{S α:Type}{p:Prop}[Decidable p]{F:Nat→S→Option α}{r:S→Option α}(hp:p)(h:ax F r):ax (fun k s=>if p then F k s else none) r:=by
 simp only[if_pos hp];exact h
def my(b:Bool)(x:ByteArray):ByteArray:=bif b then x else⟨#[45]⟩
theorem dR(b:Bool){x:ByteArray}(h:x.size=1):(my b x).size=1:=by cases b<;>simp[my,h]<;>rfl
theorem Fp(b:Bool)(x:ByteArray):Ev (fun k=>eX k (b,x)) (my b x):=by
 refine ax.run (fun k=>DM k _ _) ?_
 cases b<;>exact ax.const _
def kU(m i:Nat):Nat:=m / 8 ^(2-i) % 8
theorem QR{m i:Nat}(hm:m≤2047)(hi:i≤2):Ev (fun k=>eR k ((m:Int),(i:Int))) (kU m i:Int):=by
 refine ax.run (fun k=>tR k _ _) ?_
 simp only[uE]
 refine ax.bind (ll _) ?_
 rw[show decide ((0:Int)≤(m:Int)∧(m:Int)≤2047)=true from decide_eq_true (by omega)]
 simp only[Bool.not_true,cond_false]
 refine ax.bind (cA _ _ _) ?_
 rw[show decide ((0:Int)≤(i:Int)∧(i:Int)≤2)=true from decide_eq_true (by omega)]
 simp only[Bool.not_true,cond_false]
 refine cZ.ev ?_
 have:=cZ.count (L:=dc) (r:=(kU m i:Int)) (fun j=>(((m / 8 ^ j:Nat):Int),((i+j:Nat):Int))) (2-i) (fun j hj=> ?_) (cZ.stop ?_)
 ·simpa using this
 ·have hle:m / 8 ^ j≤m:=Nat.div_le_self _ _
  have e1:aa .i64 (((m / 8 ^ j:Nat):Int).tdiv 8)=((m / 8 ^(j+1):Nat):Int):=by
   rw[Nat.pow_succ,←Nat.div_div_eq_div_mul]
   generalize m / 8 ^ j=a at hle
   rw[Int.tdiv_eq_ediv_of_nonneg (by omega),aV (by omega) (by omega)]
   omega
  simp only[wK,dc,show((i+j:Nat):Int)<2 by omega,decide_true,cond_true,show((8:Int):Int)≠0 by decide,ne_eq,not_false_eq_true,if_true,e1,wS (i+j)]
  rw[show i+(j+1)=i+j+1 by omega]
  exact ax.const _
 ·have e1:((m / 8 ^(2-i):Nat):Int).tmod 8=(kU m i:Int):=by
   rw[kU]
   generalize m / 8 ^(2-i)=a
   rw[Int.tmod_eq_emod_of_nonneg (by omega)];omega
  simp only[dc,show ¬((i+(2-i):Nat):Int)<2 by omega,decide_false,cond_false,show((8:Int):Int)≠0 by decide,ne_eq,not_false_eq_true,if_true,e1]
  exact ax.const _
def PM(m:Nat):Nat→ByteArray
 |0=>my ((intBits .and .i64 (m:Int) 1024) != 0) ⟨#[115]⟩++my ((intBits .and .i64 (m:Int) 512) != 0) ⟨#[116]⟩
 |i+1=>((PM m i++my ((intBits .and .i64 (kU m i:Int) 4) != 0) ⟨#[114]⟩)++my ((intBits .and .i64 (kU m i:Int) 2) != 0) ⟨#[119]⟩)++my ((intBits .and .i64 (kU m i:Int) 1) != 0) ⟨#[120]⟩
theorem KQ(m:Nat):∀i,(PM m i).size=2+3*i
 |0=>by rw[PM,aF,dR _ rfl,dR _ rfl]
 |i+1=>by rw[PM,aF,aF,aF,KQ m i,dR _ rfl,dR _ rfl,dR _ rfl];omega
theorem QW:∀m:Fin 2048,((intBits .and .i64 ((m.val:Nat):Int) 1024) != 0)= !(decide (m.val / 1024 % 2=0)):=by decide+kernel
theorem Rw:∀m:Fin 2048,((intBits .and .i64 ((m.val:Nat):Int) 512) != 0)= !(decide (m.val / 512 % 2=0)):=by decide+kernel
theorem Lq:∀p:Fin 8,((intBits .and .i64 ((p.val:Nat):Int) 4) != 0)= !(decide (p.val / 4 % 2=0))∧((intBits .and .i64 ((p.val:Nat):Int) 2) != 0)= !(decide (p.val / 2 % 2=0))∧((intBits .and .i64 ((p.val:Nat):Int) 1) != 0)= !(decide (p.val % 2=0)):=by decide+kernel
def Q3(k:Nat):Int:=([115,116,114,119,120,114,119,120,114,119,120]:List Int)[k]?.getD 0
def Su(m:Int)(k:Nat):Int:=if gM m k then 45 else Q3 k
theorem G4(m:Int)(j:Nat)(hj:j<11):∀i,(o7 m i)[j]? =some (if j<i∧gM m j=true then 45 else Q3 j)
 |0=>by
  rw[if_neg (by omega)]
  show([115,116,114,119,120,114,119,120,114,119,120]:List Int)[j]? =_
  rw[Q3,List.getElem?_eq_getElem (by simpa using hj)];rfl
 |i+1=>by
  have ih:=G4 m j hj i
  have hl:=j7 m i
  rw[o7]
  by_cases hb:gM m i=true
  ·rw[if_pos hb]
   by_cases e:i=j
   ·subst e
    rw[List.getElem?_set_self (by omega),if_pos ⟨by omega,hb⟩]
   ·rw[List.getElem?_set_ne e,ih]
    congr 1
    by_cases h2:j<i∧gM m j=true
    ·rw[if_pos h2,if_pos ⟨by omega,h2.2⟩]
    ·rw[if_neg h2,if_neg fun h3=>h2 ⟨by omega,h3.2⟩]
  ·rw[if_neg hb,ih]
   congr 1
   by_cases h2:j<i∧gM m j=true
   ·rw[if_pos h2,if_pos ⟨by omega,h2.2⟩]
   ·rw[if_neg h2,if_neg fun h3=>h2 ⟨by
     rcases Nat.lt_or_ge j i with h|h
     ·exact h
     ·exfalso
      have:j=i:=by omega
      subst this;exact hb h3.2,h3.2⟩]
theorem Na(m:Int):o7 m 11=(List.range 11).map (Su m):=by
 apply List.ext_getElem?
 intro j
 by_cases hj:j<11
 ·rw[G4 m j hj,List.getElem?_map,List.getElem?_range hj]
  show some _=some (Su m j)
  unfold Su
  by_cases hb:gM m j=true
  ·rw[if_pos ⟨hj,hb⟩,if_pos hb]
  ·rw[if_neg fun h=>hb h.2,if_neg hb]
 ·rw[List.getElem?_eq_none (by rw[j7];omega),List.getElem?_eq_none (by simp;omega)]
theorem kp(m:Int)(k:Nat)(x:Int)(hx:Q3 k=x)(b:Bool)(hb:b= !gM m k):my b (ofBytes [x])=ofBytes [Su m k]:=by
 subst hb
 unfold Su
 cases gM m k with
 |true=>rfl
 |false=>rw[←hx];rfl
theorem QZ(a b:List Int):ofBytes a++ofBytes b=ofBytes (a++b):=by
 refine Bd ?_
 rw[iL,List.map_append]
 show(ofBytes a++ofBytes b).data.toList=_
 simp[iL]
theorem SI{n:Nat}(hn:n≤2047):PM n 3=qF (n:Int):=by
 have hb:∀k (b:Bool) (q:Nat),(2:Int)^(10-k)=(q:Int)→b= !(decide (n / q % 2=0))→b= !gM (n:Int) k:=fun k b q hq h=>by
  rw[h,gM,hq]
  congr 1
  rw[decide_eq_decide]
  omega
 have a0:=hb 0 _ 1024 rfl (QW ⟨n,by omega⟩)
 have a1:=hb 1 _ 512 rfl (Rw ⟨n,by omega⟩)
 have p0:kU n 0=n / 64 % 8:=rfl
 have p1:kU n 1=n / 8 % 8:=rfl
 have p2:kU n 2=n / 1 % 8:=rfl
 obtain⟨x0,x1,x2⟩:=Lq ⟨kU n 0,by rw[p0];omega⟩
 obtain⟨y0,y1,y2⟩:=Lq ⟨kU n 1,by rw[p1];omega⟩
 obtain⟨z0,z1,z2⟩:=Lq ⟨kU n 2,by rw[p2];omega⟩
 have b2:=hb 2 _ 256 rfl (x0.trans (by congr 1;rw[decide_eq_decide];show kU n 0 / 4 % 2=0↔_;rw[p0];omega))
 have b3:=hb 3 _ 128 rfl (x1.trans (by congr 1;rw[decide_eq_decide];show kU n 0 / 2 % 2=0↔_;rw[p0];omega))
 have b4:=hb 4 _ 64 rfl (x2.trans (by congr 1;rw[decide_eq_decide];show kU n 0 % 2=0↔_;rw[p0];omega))
 have b5:=hb 5 _ 32 rfl (y0.trans (by congr 1;rw[decide_eq_decide];show kU n 1 / 4 % 2=0↔_;rw[p1];omega))
 have b6:=hb 6 _ 16 rfl (y1.trans (by congr 1;rw[decide_eq_decide];show kU n 1 / 2 % 2=0↔_;rw[p1];omega))
 have b7:=hb 7 _ 8 rfl (y2.trans (by congr 1;rw[decide_eq_decide];show kU n 1 % 2=0↔_;rw[p1];omega))
 have b8:=hb 8 _ 4 rfl (z0.trans (by congr 1;rw[decide_eq_decide];show kU n 2 / 4 % 2=0↔_;rw[p2];omega))
 have b9:=hb 9 _ 2 rfl (z1.trans (by congr 1;rw[decide_eq_decide];show kU n 2 / 2 % 2=0↔_;rw[p2];omega))
 have b10:=hb 10 _ 1 rfl (z2.trans (by congr 1;rw[decide_eq_decide];show kU n 2 % 2=0↔_;rw[p2];omega))
 have e0:=kp n 0 115 rfl _ a0
 have e1:=kp n 1 116 rfl _ a1
 have e2:=kp n 2 114 rfl _ b2
 have e3:=kp n 3 119 rfl _ b3
 have e4:=kp n 4 120 rfl _ b4
 have e5:=kp n 5 114 rfl _ b5
 have e6:=kp n 6 119 rfl _ b6
 have e7:=kp n 7 120 rfl _ b7
 have e8:=kp n 8 114 rfl _ b8
 have e9:=kp n 9 119 rfl _ b9
 have e10:=kp n 10 120 rfl _ b10
 rw[qF,if_pos (by omega),Na]
 show(((((((((my _ (ofBytes [115])++my _ (ofBytes [116]))++my _ (ofBytes [114]))++my _ (ofBytes [119]))++my _ (ofBytes [120]))++my _ (ofBytes [114]))++my _ (ofBytes [119]))++my _ (ofBytes [120]))++my _ (ofBytes [114]))++my _ (ofBytes [119]))++my _ (ofBytes [120])=_
 rw[e0,e1,e2,e3,e4,e5,e6,e7,e8,e9,e10]
 simp only[QZ]
 rfl
theorem I7{m:Int}(h:0≤m∧m≤2047):Ev (fun k=>kP k m) (qF m):=by
 obtain⟨n,rfl⟩:=Int.eq_ofNat_of_zero_le h.1
 have hn:n≤2047:=by omega
 rw[←SI hn]
 refine ax.run (fun k=>wL k _) ?_
 simp only[tS]
 refine ax.bind (ll _) ?_
 rw[show decide ((0:Int)≤(n:Int)∧(n:Int)≤2047)=true from decide_eq_true (by omega)]
 simp only[Bool.not_true,cond_false]
 refine ax.bind (Fp _ _) (ax.bind (Fp _ _) (ax.pE (by rw[dR _ rfl,dR _ rfl];omega) (cZ.ev ?_)))
 refine cZ.count (L:=fL) (r:=PM n 3) (fun i=>((n:Int),PM n i,(i:Int))) 3 (fun i hi=> ?_) (cZ.stop ?_)
 ·have hs:=KQ n i
  simp only[wK,fL,show(i:Int)<3 by omega,decide_true,cond_true,wS i]
  refine ax.nu (QR hn (by omega)) (ax.nu (Fp _ _) ?_)
  simp only[if_pos (show(PM n i).size+(my ((intBits .and .i64 (kU n i:Int) 4) != 0) ⟨#[114]⟩).size≤9223372036854775807 by rw[dR _ rfl];omega)]
  refine ax.nu (Fp _ _) ?_
  simp only[if_pos (show(PM n i++my ((intBits .and .i64 (kU n i:Int) 4) != 0) ⟨#[114]⟩).size+(my ((intBits .and .i64 (kU n i:Int) 2) != 0) ⟨#[119]⟩).size≤9223372036854775807 by rw[aF,dR _ rfl,dR _ rfl];omega)]
  refine ax.nu (Fp _ _) ?_
  simp only[if_pos (show((PM n i++my ((intBits .and .i64 (kU n i:Int) 4) != 0) ⟨#[114]⟩)++my ((intBits .and .i64 (kU n i:Int) 2) != 0) ⟨#[119]⟩).size+(my ((intBits .and .i64 (kU n i:Int) 1) != 0) ⟨#[120]⟩).size≤9223372036854775807 by rw[aF,aF,dR _ rfl,dR _ rfl,dR _ rfl];omega)]
  exact ax.const _
 ·simp only[fL,show ¬((3:Nat):Int)<3 by omega,decide_false,cond_false]
  exact ax.const _
theorem IS{m:Int}(h:0≤m∧m≤2047):Ev (fun k=>ko k m) (qF m):=by
 refine ax.run (fun k=>ua k m) ?_
 have e:cR m=some (qF m):=if_pos (by omega)
 rw[e];exact ax.const _
theorem K3(m:Int):(qF m).size≤11:=by
 unfold qF
 split
 ·rw[cP,j7];omega
 ·exact Nat.zero_le _
def bd(n:Int):ByteArray:=⟨(Lib.itoa n).toArray⟩
theorem bV(n:Int)(h0: -9223372036854775808≤n)(h1:n≤9223372036854775807):(bd n).size≤21:=by
 have:=OL h0 h1
 rw[←uG];simpa[bd]using this
def Gh(t:Nat):ByteArray:=(⟨#[63,117,103,109]⟩:ByteArray).extract t (t+1)
def kZ(e:fe):ByteArray:=((Gh e.1.toNat++bd e.2.1)++⟨#[58]⟩)++bd e.2.2
theorem Cn(t:Nat):(Gh t).size≤4:=by
 rw[Gh,ByteArray.size_extract]
 have:(⟨#[63,117,103,109]⟩:ByteArray).size=4:=rfl
 omega
theorem F4{e:fe}(h:pR e):(kZ e).size≤50:=by
 have h0:=h.1
 have h1:=h.2.1
 have h2:0≤e.2.1∧e.2.1≤3:=by
  rcases h.2.2 with⟨_,h⟩|⟨_,h⟩
  ·exact h
  ·omega
 have z1:=bV e.2.1 (by omega) (by omega)
 have z2:=bV e.2.2 (by omega) (by omega)
 have z3:=Cn e.1.toNat
 have z4:(⟨#[58]⟩:ByteArray).size=1:=rfl
 rw[kZ,aF,aF,aF];omega
noncomputable def BJ(l:List fe):ByteArray:=if l=[]then⟨#[45]⟩else ti (l.map kZ) ⟨#[44]⟩
theorem N9{e:fe}(h:pR e):e.1=1∨e.1=2∨e.1=3:=by
 rcases h.2.2 with⟨h,_⟩|⟨h,_⟩
 ·rcases h with h|h
  ·exact .inl h
  ·exact .inr (.inl h)
 ·exact .inr (.inr h)
theorem FU{α β:Type}(g:α→β){l:List α}{i:Nat}{c:α}(h:l[i]? =some c):(l.take (i+1)).map g=(l.take i).map g++[g c]:=by
 rw[List.take_add_one,h,List.map_append];rfl
theorem Br{l:List fe}(h:BU l):(l.map kZ).length≤1000∧∀x∈l.map kZ,x.size≤1000:=by
 refine⟨by rw[List.length_map];have:=h.1;omega,fun x hx=> ?_⟩
 obtain⟨e,he,rfl⟩:=List.mem_map.1 hx
 obtain⟨i,hi⟩:=List.mem_iff_getElem?.1 he
 have:=F4 (h.2.1 i e hi).1
 omega
theorem R1{l:List fe}(h:BU l):(BJ l).size≤6000000000:=by
 obtain⟨h1,h2⟩:=Br h
 have h3:=sf (sep:=⟨#[44]⟩) (by show 1≤_;omega) h2
 have z:(⟨#[45]⟩:ByteArray).size=1:=rfl
 rw[List.length_map]at h3
 have:=h.1
 unfold BJ
 split<;>omega
theorem CS(s:ByteArray)(B:Nat):∀l:List ByteArray,(∀x∈l,x.size≤B)→(Lib.joinTail s.data.toList (l.map (·.data.toList))).length≤(s.size+B)*l.length
 |[],_=>Nat.zero_le _
 |x::l,h=>by
  have h1:=h x (List.mem_cons_self ..)
  have h2:=CS s B l fun y hy=>h y (List.mem_cons_of_mem _ hy)
  simp only[Lib.joinTail]at h2
  simp only[List.map_cons,Lib.joinTail,List.flatten_cons,List.length_append,List.length_cons,uG,Nat.mul_succ]
  omega
theorem FH{l:List fe}(h:BU l):(BJ l).size≤1000:=by
 unfold BJ
 split
 ·show 1≤_;omega
 ·have hl:=h.1
  have hb:∀x∈l.map kZ,x.size≤50:=fun x hx=>by
   obtain⟨e,he,rfl⟩:=List.mem_map.1 hx
   obtain⟨i,hi⟩:=List.mem_iff_getElem?.1 he
   exact F4 (h.2.1 i e hi).1
  rw[←uG,rS,qH]
  generalize hL:l.map kZ=L at hb
  have hLl:L.length=l.length:=by rw[←hL,List.length_map]
  cases L with
  |nil=>rw[List.map_nil,Lib.join_nil];exact Nat.zero_le _
  |cons x r=>
   have h1:=hb x (List.mem_cons_self ..)
   have h2:=CS ⟨#[44]⟩ 50 r fun y hy=>hb y (List.mem_cons_of_mem _ hy)
   have z:(⟨#[44]⟩:ByteArray).size=1:=rfl
   rw[List.length_cons]at hLl
   rw[List.map_cons,Lib.join_cons,List.length_append,uG]
   rw[z]at h2
   omega
theorem CI{l:List fe}(h:BU l):Ev (fun k=>iI k l) (BJ l):=by
 obtain⟨m1,m2⟩:=Br h
 have hl:=h.1
 refine ax.run (fun k=>yr k _) ?_
 simp only[uQ]
 obtain⟨b,e1,e2⟩:=kC l (by unfold fu;omega)
 have hb:b=true:=e2.2 h
 subst hb
 refine ax.bind e1 ?_
 simp only[Bool.not_true,cond_false]
 refine cZ.ev ?_
 refine cZ.count (L:=gQ) (r:=BJ l) (fun i=>((l.take i).map kZ,l,(l.length:Int),(i:Int))) l.length (fun i hi=> ?_) (cZ.stop ?_)
 ·have hx:l[i]? =some l[i]:=List.getElem?_eq_getElem hi
  have hE:=(h.2.1 i _ hx).1
  have ht:=N9 hE
  have hw1:aa .i64 (l[i].1+1)=l[i].1+1:=aV (by omega) (by omega)
  have h0:=hE.1
  have h1:=hE.2.1
  have h2:0≤l[i].2.1∧l[i].2.1≤3:=by
   rcases hE.2.2 with⟨_,h⟩|⟨_,h⟩
   ·exact h
   ·omega
  have e3:(l[i].1+1).toNat=l[i].1.toNat+1:=by omega
  have z1:=bV l[i].2.1 (by omega) (by omega)
  have z2:=bV l[i].2.2 (by omega) (by omega)
  have z3:=Cn l[i].1.toNat
  have z4:(⟨#[58]⟩:ByteArray).size=1:=rfl
  have z5:(((⟨#[63,117,103,109]⟩:ByteArray).size:Nat):Int)=4:=rfl
  have hcap:(((l.take i).map kZ).length+([kZ l[i]]:List ByteArray).length)*16≤au:=by
   rw[List.length_map,List.length_take];show(_+1)*16≤au;unfold au;omega
  simp only[wK,gQ,Int.ofNat_lt,hi,decide_true,cond_true,Int.natCast_nonneg,if_true,Int.toNat_natCast,hx,Option.bind_some,wS i,hw1,z5,show(0:Int)≤l[i].1+1 by omega,show l[i].1+1≤(4:Int)by omega,show(0:Int)≤l[i].1 by omega,show l[i].1≤((l[i].1+1).toNat:Int)by omega]
  rw[e3]
  refine ax.nu (bz l[i].2.1 (by omega) (by omega)) ?_
  refine ax.Kb (by show(Gh l[i].1.toNat).size+(bd l[i].2.1).size≤_;omega) (ax.Kb (by rw[aF];show(Gh l[i].1.toNat).size+(bd l[i].2.1).size+(⟨#[58]⟩:ByteArray).size≤_;omega) ?_)
  refine ax.nu (bz l[i].2.2 (by omega) (by omega)) ?_
  refine ax.Kb (by rw[aF,aF];show(Gh l[i].1.toNat).size+(bd l[i].2.1).size+(⟨#[58]⟩:ByteArray).size+(bd l[i].2.2).size≤_;omega) (ax.Kb hcap ?_)
  rw[FU kZ hx]
  exact ax.const _
 ·simp only[gQ,Int.lt_irrefl,decide_false,cond_false,List.take_length]
  by_cases hz:l=[]
  ·subst hz
   rw[show((((([]:List fe).map kZ).length:Nat):Int)==0)=true from rfl,BJ,if_pos rfl]
   simp only[cond_true]
   exact ax.const _
  ·have hz':((l.map kZ).length:Int)≠0:=by
    rw[List.length_map]
    have:l.length≠0:=fun hh=>hz (List.eq_nil_of_length_eq_zero hh)
    omega
   rw[show(((l.map kZ).length:Int)==0)=false from beq_eq_false_iff_ne.2 hz',BJ,if_neg hz]
   simp only[cond_false]
   exact ax.nu (sJ _ _ m1 (by show 1≤_;omega) m2) (ax.const _)
theorem CD{l:List fe}(h:BU l):Ev (fun k=>iz k l) (BJ l):=by
 obtain⟨m1,m2⟩:=Br h
 have hl:=h.1
 refine ax.run (fun k=>yz k _) ?_
 simp only[uW]
 obtain⟨b,e1,e2⟩:=kd l
 have hb:b=true:=e2.2 h
 subst hb
 refine ax.bind e1 ?_
 simp only[Bool.not_true,cond_false]
 by_cases hz:l=[]
 ·subst hz
  exact ax.const _
 have hz':(l.length:Int)≠0:=by
  have:l.length≠0:=fun hh=>hz (List.eq_nil_of_length_eq_zero hh)
  omega
 rw[show((l.length:Int)==0)=false from beq_eq_false_iff_ne.2 hz']
 simp only[cond_false]
 refine cZ.ev ?_
 refine cZ.count (L:=gO) (r:=BJ l) (fun i=>((l.take i).map kZ,l,(l.length:Int),(i:Int))) l.length (fun i hi=> ?_) (cZ.stop ?_)
 ·have hx:l[i]? =some l[i]:=List.getElem?_eq_getElem hi
  have hE:=(h.2.1 i _ hx).1
  have ht:=N9 hE
  have hw1:aa .i64 (l[i].1-1)=l[i].1-1:=aV (by omega) (by omega)
  have h0:=hE.1
  have h1:=hE.2.1
  have h2:0≤l[i].2.1∧l[i].2.1≤3:=by
   rcases hE.2.2 with⟨_,h⟩|⟨_,h⟩
   ·exact h
   ·omega
  have hlet:(⟨#[117,103,109]⟩:ByteArray).extract (l[i].1-1).toNat l[i].1.toNat=Gh l[i].1.toNat:=by
   rcases ht with e|e|e<;>rw[e]<;>decide
  have z1:=bV l[i].2.1 (by omega) (by omega)
  have z2:=bV l[i].2.2 (by omega) (by omega)
  have z3:=Cn l[i].1.toNat
  have z4:(⟨#[58]⟩:ByteArray).size=1:=rfl
  have z5:(((⟨#[117,103,109]⟩:ByteArray).size:Nat):Int)=3:=rfl
  have hcap:(((l.take i).map kZ).length+([kZ l[i]]:List ByteArray).length)*16≤au:=by
   rw[List.length_map,List.length_take];show(_+1)*16≤au;unfold au;omega
  simp only[wK,gO,Int.ofNat_lt,hi,decide_true,cond_true,Int.natCast_nonneg,if_true,Int.toNat_natCast,hx,Option.bind_some,wS i,hw1,z5,show(0:Int)≤l[i].1-1 by omega,show l[i].1≤(3:Int)by omega,show(0:Int)≤l[i].1 by omega,show l[i].1-1≤(l[i].1.toNat:Int)by omega,hlet]
  refine ax.nu (bx l[i].2.1 (by omega) (by omega)) ?_
  refine ax.Kb (by show(Gh l[i].1.toNat).size+(bd l[i].2.1).size≤_;omega) (ax.Kb (by rw[aF];show(Gh l[i].1.toNat).size+(bd l[i].2.1).size+(⟨#[58]⟩:ByteArray).size≤_;omega) ?_)
  refine ax.nu (bx l[i].2.2 (by omega) (by omega)) ?_
  refine ax.Kb (by rw[aF,aF];show(Gh l[i].1.toNat).size+(bd l[i].2.1).size+(⟨#[58]⟩:ByteArray).size+(bd l[i].2.2).size≤_;omega) (ax.Kb hcap ?_)
  rw[FU kZ hx]
  exact ax.const _
 ·simp only[gO,Int.lt_irrefl,decide_false,cond_false,List.take_length]
  rw[BJ,if_neg hz]
  exact ax.nu (rX _ _ m1 (by show 1≤_;omega) m2) (ax.const _)
end Go.Proofs.YtkdcfeopelbojaaGreatDoor

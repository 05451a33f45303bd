/- The tables, the residual functions and lemmas of this seat: parts of the proof of the law; conditions: those that each names. -/
import Derived.Test.YtmmgfgfkkpeedaaGreatDoorSpl
import Derived.Test.YtmmgfgfkkpeedaaGreatDoorFin
import Derived.Test.YtmmgfgfkkpeedaaGreatDoorHex
import Derived.Test.YtmmgfgfkkpeedaaGreatDoorEng7
set_option linter.unusedVariables false
set_option linter.unusedSimpArgs false
set_option maxRecDepth 100000
namespace Go.Proofs.YtmmgfgfkkpeedaaGreatDoor
open Go.Eng
theorem EvQ.ifp{α:Type}{p:Prop}[Decidable p]{F:Nat→Option α}{r:Option α}(hp:p)(h:EvQ F r):EvQ (fun k=>if p then F k else none) r:=by
 simp only[if_pos hp];exact h
theorem EvQ.ifpS{S α:Type}{p:Prop}[Decidable p]{F:Nat→S→Option α}{r:S→Option α}(hp:p)(h:EvQ F r):EvQ (fun k s=>if p then F k s else none) r:=by
 simp only[if_pos hp];exact h
def bitS(b:Bool)(x:ByteArray):ByteArray:=bif b then x else⟨#[45]⟩
theorem bitS_size(b:Bool){x:ByteArray}(h:x.size=1):(bitS b x).size=1:=by cases b<;>simp[bitS,h]<;>rfl
theorem bit_ev(b:Bool)(x:ByteArray):Ev (fun k=>c_spec_l06Bit k (b,x)) (bitS b x):=by
 refine EvQ.run (fun k=>spec_l06Bit_run k _ _) ?_
 cases b<;>exact EvQ.const _
def permV(m i:Nat):Nat:=m / 8 ^(2-i) % 8
theorem perm_ev{m i:Nat}(hm:m≤2047)(hi:i≤2):Ev (fun k=>c_spec_PermOf k ((m:Int),(i:Int))) (permV m i:Int):=by
 refine EvQ.run (fun k=>spec_PermOf_run k _ _) ?_
 simp only[spec_PermOf]
 refine EvQ.bind (l06Mode_ev _) ?_
 rw[show decide ((0:Int)≤(m:Int)∧(m:Int)≤2047)=true from decide_eq_true (by omega)]
 simp only[Bool.not_true,cond_false]
 refine EvQ.bind (l01In_ev _ _ _) ?_
 rw[show decide ((0:Int)≤(i:Int)∧(i:Int)≤2)=true from decide_eq_true (by omega)]
 simp only[Bool.not_true,cond_false]
 refine EvL.ev ?_
 have:=EvL.count (L:=spec_PermOf_l1) (r:=(permV m i:Int)) (fun j=>(((m / 8 ^ j:Nat):Int),((i+j:Nat):Int))) (2-i) (fun j hj=> ?_) (EvL.stop ?_)
 ·simpa using this
 ·have hle:m / 8 ^ j≤m:=Nat.div_le_self _ _
  have e1:wrapK .i64 (((m / 8 ^ j:Nat):Int).tdiv 8)=((m / 8 ^(j+1):Nat):Int):=by
   rw[Nat.pow_succ,←Nat.div_div_eq_div_mul]
   generalize m / 8 ^ j=a at hle
   rw[Int.tdiv_eq_ediv_of_nonneg (by omega),i64w (by omega) (by omega)]
   omega
  simp only[EvS,spec_PermOf_l1,show((i+j:Nat):Int)<2 by omega,decide_true,cond_true,show((8:Int):Int)≠0 by decide,ne_eq,not_false_eq_true,if_true,e1,wS (i+j)]
  rw[show i+(j+1)=i+j+1 by omega]
  exact EvQ.const _
 ·have e1:((m / 8 ^(2-i):Nat):Int).tmod 8=(permV m i:Int):=by
   rw[permV]
   generalize m / 8 ^(2-i)=a
   rw[Int.tmod_eq_emod_of_nonneg (by omega)];omega
  simp only[spec_PermOf_l1,show ¬((i+(2-i):Nat):Int)<2 by omega,decide_false,cond_false,show((8:Int):Int)≠0 by decide,ne_eq,not_false_eq_true,if_true,e1]
  exact EvQ.const _
def fmS(m:Nat):Nat→ByteArray
 |0=>bitS ((intBits .and .i64 (m:Int) 1024) != 0) ⟨#[115]⟩++bitS ((intBits .and .i64 (m:Int) 512) != 0) ⟨#[116]⟩
 |i+1=>((fmS m i++bitS ((intBits .and .i64 (permV m i:Int) 4) != 0) ⟨#[114]⟩)++bitS ((intBits .and .i64 (permV m i:Int) 2) != 0) ⟨#[119]⟩)++bitS ((intBits .and .i64 (permV m i:Int) 1) != 0) ⟨#[120]⟩
theorem app_size(a b:ByteArray):(a++b).size=a.size+b.size:=ByteArray.size_append
theorem fmS_size(m:Nat):∀i,(fmS m i).size=2+3*i
 |0=>by rw[fmS,app_size,bitS_size _ rfl,bitS_size _ rfl]
 |i+1=>by rw[fmS,app_size,app_size,app_size,fmS_size m i,bitS_size _ rfl,bitS_size _ rfl,bitS_size _ rfl];omega
theorem and1024:∀m:Fin 2048,((intBits .and .i64 ((m.val:Nat):Int) 1024) != 0)= !(decide (m.val / 1024 % 2=0)):=by decide+kernel
theorem and512:∀m:Fin 2048,((intBits .and .i64 ((m.val:Nat):Int) 512) != 0)= !(decide (m.val / 512 % 2=0)):=by decide+kernel
theorem and421:∀p:Fin 8,((intBits .and .i64 ((p.val:Nat):Int) 4) != 0)= !(decide (p.val / 4 % 2=0))∧((intBits .and .i64 ((p.val:Nat):Int) 2) != 0)= !(decide (p.val / 2 % 2=0))∧((intBits .and .i64 ((p.val:Nat):Int) 1) != 0)= !(decide (p.val % 2=0)):=by decide+kernel
def letL(k:Nat):Int:=([115,116,114,119,120,114,119,120,114,119,120]:List Int)[k]?.getD 0
def chL(m:Int)(k:Nat):Int:=if modeBit m k then 45 else letL k
theorem modeL_get(m:Int)(j:Nat)(hj:j<11):∀i,(modeL m i)[j]? =some (if j<i∧modeBit m j=true then 45 else letL j)
 |0=>by
  rw[if_neg (by omega)]
  show([115,116,114,119,120,114,119,120,114,119,120]:List Int)[j]? =_
  rw[letL,List.getElem?_eq_getElem (by simpa using hj)];rfl
 |i+1=>by
  have ih:=modeL_get m j hj i
  have hl:=modeL_len m i
  rw[modeL]
  by_cases hb:modeBit m i=true
  ·rw[if_pos hb]
   by_cases e:i=j
   ·subst e
    rw[List.getElem?_set_self (by omega),if_pos ⟨by omega,hb⟩]
   ·rw[List.getElem?_set_ne e,ih]
    congr 1
    by_cases h2:j<i∧modeBit m j=true
    ·rw[if_pos h2,if_pos ⟨by omega,h2.2⟩]
    ·rw[if_neg h2,if_neg fun h3=>h2 ⟨by omega,h3.2⟩]
  ·rw[if_neg hb,ih]
   congr 1
   by_cases h2:j<i∧modeBit m j=true
   ·rw[if_pos h2,if_pos ⟨by omega,h2.2⟩]
   ·rw[if_neg h2,if_neg fun h3=>h2 ⟨by
     rcases Nat.lt_or_ge j i with h|h
     ·exact h
     ·exfalso
      have:j=i:=by omega
      subst this;exact hb h3.2,h3.2⟩]
theorem modeL_all(m:Int):modeL m 11=(List.range 11).map (chL m):=by
 apply List.ext_getElem?
 intro j
 by_cases hj:j<11
 ·rw[modeL_get m j hj,List.getElem?_map,List.getElem?_range hj]
  show some _=some (chL m j)
  unfold chL
  by_cases hb:modeBit m j=true
  ·rw[if_pos ⟨hj,hb⟩,if_pos hb]
  ·rw[if_neg fun h=>hb h.2,if_neg hb]
 ·rw[List.getElem?_eq_none (by rw[modeL_len];omega),List.getElem?_eq_none (by simp;omega)]
theorem bitS_ch(m:Int)(k:Nat)(x:Int)(hx:letL k=x)(b:Bool)(hb:b= !modeBit m k):bitS b (ofBytes [x])=ofBytes [chL m k]:=by
 subst hb
 unfold chL
 cases modeBit m k with
 |true=>rfl
 |false=>rw[←hx];rfl
theorem ofB_app(a b:List Int):ofBytes a++ofBytes b=ofBytes (a++b):=by
 refine bext ?_
 rw[ofBytes_list,List.map_append]
 show(ofBytes a++ofBytes b).data.toList=_
 simp[ofBytes_list]
theorem fm_eq{n:Nat}(hn:n≤2047):fmS n 3=modeT (n:Int):=by
 have hb:∀k (b:Bool) (q:Nat),(2:Int)^(10-k)=(q:Int)→b= !(decide (n / q % 2=0))→b= !modeBit (n:Int) k:=fun k b q hq h=>by
  rw[h,modeBit,hq]
  congr 1
  rw[decide_eq_decide]
  omega
 have a0:=hb 0 _ 1024 rfl (and1024 ⟨n,by omega⟩)
 have a1:=hb 1 _ 512 rfl (and512 ⟨n,by omega⟩)
 have p0:permV n 0=n / 64 % 8:=rfl
 have p1:permV n 1=n / 8 % 8:=rfl
 have p2:permV n 2=n / 1 % 8:=rfl
 obtain⟨x0,x1,x2⟩:=and421 ⟨permV n 0,by rw[p0];omega⟩
 obtain⟨y0,y1,y2⟩:=and421 ⟨permV n 1,by rw[p1];omega⟩
 obtain⟨z0,z1,z2⟩:=and421 ⟨permV n 2,by rw[p2];omega⟩
 have b2:=hb 2 _ 256 rfl (x0.trans (by congr 1;rw[decide_eq_decide];show permV n 0 / 4 % 2=0↔_;rw[p0];omega))
 have b3:=hb 3 _ 128 rfl (x1.trans (by congr 1;rw[decide_eq_decide];show permV n 0 / 2 % 2=0↔_;rw[p0];omega))
 have b4:=hb 4 _ 64 rfl (x2.trans (by congr 1;rw[decide_eq_decide];show permV n 0 % 2=0↔_;rw[p0];omega))
 have b5:=hb 5 _ 32 rfl (y0.trans (by congr 1;rw[decide_eq_decide];show permV n 1 / 4 % 2=0↔_;rw[p1];omega))
 have b6:=hb 6 _ 16 rfl (y1.trans (by congr 1;rw[decide_eq_decide];show permV n 1 / 2 % 2=0↔_;rw[p1];omega))
 have b7:=hb 7 _ 8 rfl (y2.trans (by congr 1;rw[decide_eq_decide];show permV n 1 % 2=0↔_;rw[p1];omega))
 have b8:=hb 8 _ 4 rfl (z0.trans (by congr 1;rw[decide_eq_decide];show permV n 2 / 4 % 2=0↔_;rw[p2];omega))
 have b9:=hb 9 _ 2 rfl (z1.trans (by congr 1;rw[decide_eq_decide];show permV n 2 / 2 % 2=0↔_;rw[p2];omega))
 have b10:=hb 10 _ 1 rfl (z2.trans (by congr 1;rw[decide_eq_decide];show permV n 2 % 2=0↔_;rw[p2];omega))
 have e0:=bitS_ch n 0 115 rfl _ a0
 have e1:=bitS_ch n 1 116 rfl _ a1
 have e2:=bitS_ch n 2 114 rfl _ b2
 have e3:=bitS_ch n 3 119 rfl _ b3
 have e4:=bitS_ch n 4 120 rfl _ b4
 have e5:=bitS_ch n 5 114 rfl _ b5
 have e6:=bitS_ch n 6 119 rfl _ b6
 have e7:=bitS_ch n 7 120 rfl _ b7
 have e8:=bitS_ch n 8 114 rfl _ b8
 have e9:=bitS_ch n 9 119 rfl _ b9
 have e10:=bitS_ch n 10 120 rfl _ b10
 rw[modeT,if_pos (by omega),modeL_all]
 show(((((((((bitS _ (ofBytes [115])++bitS _ (ofBytes [116]))++bitS _ (ofBytes [114]))++bitS _ (ofBytes [119]))++bitS _ (ofBytes [120]))++bitS _ (ofBytes [114]))++bitS _ (ofBytes [119]))++bitS _ (ofBytes [120]))++bitS _ (ofBytes [114]))++bitS _ (ofBytes [119]))++bitS _ (ofBytes [120])=_
 rw[e0,e1,e2,e3,e4,e5,e6,e7,e8,e9,e10]
 simp only[ofB_app]
 rfl
theorem spec_Mode_ev{m:Int}(h:0≤m∧m≤2047):Ev (fun k=>c_spec_FormatMode k m) (modeT m):=by
 obtain⟨n,rfl⟩:=Int.eq_ofNat_of_zero_le h.1
 have hn:n≤2047:=by omega
 rw[←fm_eq hn]
 refine EvQ.run (fun k=>spec_FormatMode_run k _) ?_
 simp only[spec_FormatMode]
 refine EvQ.bind (l06Mode_ev _) ?_
 rw[show decide ((0:Int)≤(n:Int)∧(n:Int)≤2047)=true from decide_eq_true (by omega)]
 simp only[Bool.not_true,cond_false]
 refine EvQ.bind (bit_ev _ _) (EvQ.bind (bit_ev _ _) (EvQ.ifp (by rw[bitS_size _ rfl,bitS_size _ rfl];omega) (EvL.ev ?_)))
 refine EvL.count (L:=spec_FormatMode_l1) (r:=fmS n 3) (fun i=>((n:Int),fmS n i,(i:Int))) 3 (fun i hi=> ?_) (EvL.stop ?_)
 ·have hs:=fmS_size n i
  simp only[EvS,spec_FormatMode_l1,show(i:Int)<3 by omega,decide_true,cond_true,wS i]
  refine EvQ.bindS (perm_ev hn (by omega)) (EvQ.bindS (bit_ev _ _) ?_)
  simp only[if_pos (show(fmS n i).size+(bitS ((intBits .and .i64 (permV n i:Int) 4) != 0) ⟨#[114]⟩).size≤9223372036854775807 by rw[bitS_size _ rfl];omega)]
  refine EvQ.bindS (bit_ev _ _) ?_
  simp only[if_pos (show(fmS n i++bitS ((intBits .and .i64 (permV n i:Int) 4) != 0) ⟨#[114]⟩).size+(bitS ((intBits .and .i64 (permV n i:Int) 2) != 0) ⟨#[119]⟩).size≤9223372036854775807 by rw[app_size,bitS_size _ rfl,bitS_size _ rfl];omega)]
  refine EvQ.bindS (bit_ev _ _) ?_
  simp only[if_pos (show((fmS n i++bitS ((intBits .and .i64 (permV n i:Int) 4) != 0) ⟨#[114]⟩)++bitS ((intBits .and .i64 (permV n i:Int) 2) != 0) ⟨#[119]⟩).size+(bitS ((intBits .and .i64 (permV n i:Int) 1) != 0) ⟨#[120]⟩).size≤9223372036854775807 by rw[app_size,app_size,bitS_size _ rfl,bitS_size _ rfl,bitS_size _ rfl];omega)]
  exact EvQ.const _
 ·simp only[spec_FormatMode_l1,show ¬((3:Nat):Int)<3 by omega,decide_false,cond_false]
  exact EvQ.const _
theorem impl_Mode_ev{m:Int}(h:0≤m∧m≤2047):Ev (fun k=>c_impl_FormatMode k m) (modeT m):=by
 refine EvQ.run (fun k=>c_impl_FormatMode_run k m) ?_
 have e:ext_impl_FormatMode m=some (modeT m):=if_pos (by omega)
 rw[e];exact EvQ.const _
theorem modeT_size(m:Int):(modeT m).size≤11:=by
 unfold modeT
 split
 ·rw[ofBytes_size,modeL_len];omega
 ·exact Nat.zero_le _
def itoaB(n:Int):ByteArray:=⟨(Lib.itoa n).toArray⟩
theorem itoaB_size(n:Int)(h0: -9223372036854775808≤n)(h1:n≤9223372036854775807):(itoaB n).size≤21:=by
 have:=itoa_len h0 h1
 rw[←blen];simpa[itoaB]using this
def letB(t:Nat):ByteArray:=(⟨#[63,117,103,109]⟩:ByteArray).extract t (t+1)
def partB(e:PAcl):ByteArray:=((letB e.1.toNat++itoaB e.2.1)++⟨#[58]⟩)++itoaB e.2.2
theorem letB_size(t:Nat):(letB t).size≤4:=by
 rw[letB,ByteArray.size_extract]
 have:(⟨#[63,117,103,109]⟩:ByteArray).size=4:=rfl
 omega
theorem partB_size{e:PAcl}(h:entP e):(partB e).size≤50:=by
 have h0:=h.1
 have h1:=h.2.1
 have h2:0≤e.2.1∧e.2.1≤3:=by
  rcases h.2.2 with⟨_,h⟩|⟨_,h⟩
  ·exact h
  ·omega
 have z1:=itoaB_size e.2.1 (by omega) (by omega)
 have z2:=itoaB_size e.2.2 (by omega) (by omega)
 have z3:=letB_size e.1.toNat
 have z4:(⟨#[58]⟩:ByteArray).size=1:=rfl
 rw[partB,app_size,app_size,app_size];omega
noncomputable def aclT(l:List PAcl):ByteArray:=if l=[]then⟨#[45]⟩else joinB (l.map partB) ⟨#[44]⟩
theorem tag_of{e:PAcl}(h:entP e):e.1=1∨e.1=2∨e.1=3:=by
 rcases h.2.2 with⟨h,_⟩|⟨h,_⟩
 ·rcases h with h|h
  ·exact .inl h
  ·exact .inr (.inl h)
 ·exact .inr (.inr h)
theorem take_map{α β:Type}(g:α→β){l:List α}{i:Nat}{c:α}(h:l[i]? =some c):(l.take (i+1)).map g=(l.take i).map g++[g c]:=by
 rw[List.take_add_one,h,List.map_append];rfl
theorem map_small{l:List PAcl}(h:aclP l):(l.map partB).length≤1000∧∀x∈l.map partB,x.size≤3000000:=by
 refine⟨by rw[List.length_map];have:=h.1;omega,fun x hx=> ?_⟩
 obtain⟨e,he,rfl⟩:=List.mem_map.1 hx
 obtain⟨i,hi⟩:=List.mem_iff_getElem?.1 he
 have:=partB_size (h.2.1 i e hi).1
 omega
theorem aclT_size{l:List PAcl}(h:aclP l):(aclT l).size≤6000000000:=by
 obtain⟨h1,h2⟩:=map_small h
 have h3:=joinB_size (sep:=⟨#[44]⟩) (by show 1≤_;omega) h2
 have z:(⟨#[45]⟩:ByteArray).size=1:=rfl
 rw[List.length_map]at h3
 have:=h.1
 unfold aclT
 split<;>omega
theorem joinTail_le(s:ByteArray)(B:Nat):∀l:List ByteArray,(∀x∈l,x.size≤B)→(Lib.joinTail s.data.toList (l.map (·.data.toList))).length≤(s.size+B)*l.length
 |[],_=>Nat.zero_le _
 |x::l,h=>by
  have h1:=h x (List.mem_cons_self ..)
  have h2:=joinTail_le s B l fun y hy=>h y (List.mem_cons_of_mem _ hy)
  simp only[Lib.joinTail]at h2
  simp only[List.map_cons,Lib.joinTail,List.flatten_cons,List.length_append,List.length_cons,blen,Nat.mul_succ]
  omega
theorem aclT_small{l:List PAcl}(h:aclP l):(aclT l).size≤3000000:=by
 unfold aclT
 split
 ·show 1≤_;omega
 ·have hl:=h.1
  have hb:∀x∈l.map partB,x.size≤50:=fun x hx=>by
   obtain⟨e,he,rfl⟩:=List.mem_map.1 hx
   obtain⟨i,hi⟩:=List.mem_iff_getElem?.1 he
   exact partB_size (h.2.1 i e hi).1
  rw[←blen,joinB_list,joinD]
  generalize hL:l.map partB=L at hb
  have hLl:L.length=l.length:=by rw[←hL,List.length_map]
  cases L with
  |nil=>rw[List.map_nil,Lib.join_nil];exact Nat.zero_le _
  |cons x r=>
   have h1:=hb x (List.mem_cons_self ..)
   have h2:=joinTail_le ⟨#[44]⟩ 50 r fun y hy=>hb y (List.mem_cons_of_mem _ hy)
   have z:(⟨#[44]⟩:ByteArray).size=1:=rfl
   rw[List.length_cons]at hLl
   rw[List.map_cons,Lib.join_cons,List.length_append,blen]
   rw[z]at h2
   omega
theorem spec_Acl_ev{l:List PAcl}(h:aclP l):Ev (fun k=>c_spec_FormatAcl k l) (aclT l):=by
 obtain⟨m1,m2⟩:=map_small h
 have hl:=h.1
 refine EvQ.run (fun k=>spec_FormatAcl_run k _) ?_
 simp only[spec_FormatAcl]
 obtain⟨b,e1,e2⟩:=spec_IsAcl_say l (by unfold big;omega)
 have hb:b=true:=e2.2 h
 subst hb
 refine EvQ.bind e1 ?_
 simp only[Bool.not_true,cond_false]
 refine EvL.ev ?_
 refine EvL.count (L:=spec_FormatAcl_l1) (r:=aclT l) (fun i=>((l.take i).map partB,l,(l.length:Int),(i:Int))) l.length (fun i hi=> ?_) (EvL.stop ?_)
 ·have hx:l[i]? =some l[i]:=List.getElem?_eq_getElem hi
  have hE:=(h.2.1 i _ hx).1
  have ht:=tag_of hE
  have hw1:wrapK .i64 (l[i].1+1)=l[i].1+1:=i64w (by omega) (by omega)
  have h0:=hE.1
  have h1:=hE.2.1
  have h2:0≤l[i].2.1∧l[i].2.1≤3:=by
   rcases hE.2.2 with⟨_,h⟩|⟨_,h⟩
   ·exact h
   ·omega
  have e3:(l[i].1+1).toNat=l[i].1.toNat+1:=by omega
  have z1:=itoaB_size l[i].2.1 (by omega) (by omega)
  have z2:=itoaB_size l[i].2.2 (by omega) (by omega)
  have z3:=letB_size l[i].1.toNat
  have z4:(⟨#[58]⟩:ByteArray).size=1:=rfl
  have z5:(((⟨#[63,117,103,109]⟩:ByteArray).size:Nat):Int)=4:=rfl
  have hcap:(((l.take i).map partB).length+([partB l[i]]:List ByteArray).length)*16≤capBytes:=by
   rw[List.length_map,List.length_take];show(_+1)*16≤capBytes;unfold capBytes;omega
  simp only[EvS,spec_FormatAcl_l1,Int.ofNat_lt,hi,decide_true,cond_true,Int.natCast_nonneg,if_true,Int.toNat_natCast,hx,Option.bind_some,wS i,hw1,z5,show(0:Int)≤l[i].1+1 by omega,show l[i].1+1≤(4:Int)by omega,show(0:Int)≤l[i].1 by omega,show l[i].1≤((l[i].1+1).toNat:Int)by omega]
  rw[e3]
  refine EvQ.bindS (spec_FormatInt_ev l[i].2.1 (by omega) (by omega)) ?_
  refine EvQ.ifpS (by show(letB l[i].1.toNat).size+(itoaB l[i].2.1).size≤_;omega) (EvQ.ifpS (by rw[app_size];show(letB l[i].1.toNat).size+(itoaB l[i].2.1).size+(⟨#[58]⟩:ByteArray).size≤_;omega) ?_)
  refine EvQ.bindS (spec_FormatInt_ev l[i].2.2 (by omega) (by omega)) ?_
  refine EvQ.ifpS (by rw[app_size,app_size];show(letB l[i].1.toNat).size+(itoaB l[i].2.1).size+(⟨#[58]⟩:ByteArray).size+(itoaB l[i].2.2).size≤_;omega) (EvQ.ifpS hcap ?_)
  rw[take_map partB hx]
  exact EvQ.const _
 ·simp only[spec_FormatAcl_l1,Int.lt_irrefl,decide_false,cond_false,List.take_length]
  by_cases hz:l=[]
  ·subst hz
   rw[show((((([]:List PAcl).map partB).length:Nat):Int)==0)=true from rfl,aclT,if_pos rfl]
   simp only[cond_true]
   exact EvQ.const _
  ·have hz':((l.map partB).length:Int)≠0:=by
    rw[List.length_map]
    have:l.length≠0:=fun hh=>hz (List.eq_nil_of_length_eq_zero hh)
    omega
   rw[show(((l.map partB).length:Int)==0)=false from beq_eq_false_iff_ne.2 hz',aclT,if_neg hz]
   simp only[cond_false]
   exact EvQ.bindS (spec_Join_ev _ _ m1 (by show 1≤_;omega) m2) (EvQ.const _)
theorem impl_Acl_ev{l:List PAcl}(h:aclP l):Ev (fun k=>c_impl_FormatAcl k l) (aclT l):=by
 obtain⟨m1,m2⟩:=map_small h
 have hl:=h.1
 refine EvQ.run (fun k=>impl_FormatAcl_run k _) ?_
 simp only[impl_FormatAcl]
 obtain⟨b,e1,e2⟩:=impl_IsAcl_say l
 have hb:b=true:=e2.2 h
 subst hb
 refine EvQ.bind e1 ?_
 simp only[Bool.not_true,cond_false]
 by_cases hz:l=[]
 ·subst hz
  exact EvQ.const _
 have hz':(l.length:Int)≠0:=by
  have:l.length≠0:=fun hh=>hz (List.eq_nil_of_length_eq_zero hh)
  omega
 rw[show((l.length:Int)==0)=false from beq_eq_false_iff_ne.2 hz']
 simp only[cond_false]
 refine EvL.ev ?_
 refine EvL.count (L:=impl_FormatAcl_l1) (r:=aclT l) (fun i=>((l.take i).map partB,l,(l.length:Int),(i:Int))) l.length (fun i hi=> ?_) (EvL.stop ?_)
 ·have hx:l[i]? =some l[i]:=List.getElem?_eq_getElem hi
  have hE:=(h.2.1 i _ hx).1
  have ht:=tag_of hE
  have hw1:wrapK .i64 (l[i].1-1)=l[i].1-1:=i64w (by omega) (by omega)
  have h0:=hE.1
  have h1:=hE.2.1
  have h2:0≤l[i].2.1∧l[i].2.1≤3:=by
   rcases hE.2.2 with⟨_,h⟩|⟨_,h⟩
   ·exact h
   ·omega
  have hlet:(⟨#[117,103,109]⟩:ByteArray).extract (l[i].1-1).toNat l[i].1.toNat=letB l[i].1.toNat:=by
   rcases ht with e|e|e<;>rw[e]<;>decide
  have z1:=itoaB_size l[i].2.1 (by omega) (by omega)
  have z2:=itoaB_size l[i].2.2 (by omega) (by omega)
  have z3:=letB_size l[i].1.toNat
  have z4:(⟨#[58]⟩:ByteArray).size=1:=rfl
  have z5:(((⟨#[117,103,109]⟩:ByteArray).size:Nat):Int)=3:=rfl
  have hcap:(((l.take i).map partB).length+([partB l[i]]:List ByteArray).length)*16≤capBytes:=by
   rw[List.length_map,List.length_take];show(_+1)*16≤capBytes;unfold capBytes;omega
  simp only[EvS,impl_FormatAcl_l1,Int.ofNat_lt,hi,decide_true,cond_true,Int.natCast_nonneg,if_true,Int.toNat_natCast,hx,Option.bind_some,wS i,hw1,z5,show(0:Int)≤l[i].1-1 by omega,show l[i].1≤(3:Int)by omega,show(0:Int)≤l[i].1 by omega,show l[i].1-1≤(l[i].1.toNat:Int)by omega,hlet]
  refine EvQ.bindS (impl_FormatInt_ev l[i].2.1 (by omega) (by omega)) ?_
  refine EvQ.ifpS (by show(letB l[i].1.toNat).size+(itoaB l[i].2.1).size≤_;omega) (EvQ.ifpS (by rw[app_size];show(letB l[i].1.toNat).size+(itoaB l[i].2.1).size+(⟨#[58]⟩:ByteArray).size≤_;omega) ?_)
  refine EvQ.bindS (impl_FormatInt_ev l[i].2.2 (by omega) (by omega)) ?_
  refine EvQ.ifpS (by rw[app_size,app_size];show(letB l[i].1.toNat).size+(itoaB l[i].2.1).size+(⟨#[58]⟩:ByteArray).size+(itoaB l[i].2.2).size≤_;omega) (EvQ.ifpS hcap ?_)
  rw[take_map partB hx]
  exact EvQ.const _
 ·simp only[impl_FormatAcl_l1,Int.lt_irrefl,decide_false,cond_false,List.take_length]
  rw[aclT,if_neg hz]
  exact EvQ.bindS (impl_Join_ev _ _ m1 (by show 1≤_;omega) m2) (EvQ.const _)
end Go.Proofs.YtmmgfgfkkpeedaaGreatDoor

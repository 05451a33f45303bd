/- The tables, the residual functions and lemmas of this seat: parts of the proof of the law; conditions: those that each names. -/
import Derived.Test.YtkdcfeopelbojaaGreatDoorFmt
set_option linter.unusedVariables false
set_option linter.unusedSimpArgs false
set_option maxRecDepth 100000
namespace Go.Proofs.YtkdcfeopelbojaaGreatDoor
open Go.Eng
def qe(f:eh)(u:Int):Nat→Nat
 |0=>0
 |i+1=>match(fI f)[(u*5).toNat+i]? with
  |some n=>bif n.1 != 0 then qe f u i+1 else qe f u i
  |none=>qe f u i
theorem Jj(f:eh)(u:Int):∀i,qe f u i≤i
 |0=>Nat.le_refl _
 |i+1=>by
  have h:=Jj f u i
  simp only[qe]
  cases(fI f)[(u*5).toNat+i]? with
  |none=>simp only;omega
  |some n=>cases hb:n.1 != 0<;>simp only[hb,cond_true,cond_false]<;>omega
def zq(L:List Int)(c:Int)(n:Nat):Nat:=(List.range n).countP fun j:Nat=>decide (c+(j:Int)∈L)
theorem Bq(L:List Int)(c:Int)(n:Nat):zq L c (n+1)=zq L c n+(if c+(n:Int)∈L then 1 else 0):=by
 simp only[zq,List.range_succ,List.countP_append]
 by_cases h:c+(n:Int)∈L<;>simp[h]
theorem LW(L:List Int)(c:Int):∀n,zq L c n≤n
 |0=>Nat.le_refl _
 |n+1=>by
  have:=LW L c n
  rw[Bq];split<;>omega
theorem KV(L:List Int)(c b:Int)(hb:b∉L):∀n,zq (b::L) c n=zq L c n+(if c≤b∧b<c+n then 1 else 0)
 |0=>by
  rw[if_neg (by omega)]
  simp[zq]
 |n+1=>by
  rw[Bq,Bq,KV L c b hb n]
  have k1:(if c+(n:Int)∈b::L then 1 else 0:Nat)=(if c+(n:Int)∈L then 1 else 0)+(if c+(n:Int)=b then 1 else 0):=by
   by_cases e:c+(n:Int)=b
   ·have h1:c+(n:Int)∉L:=by rw[e];exact hb
    have h2:c+(n:Int)∈b::L:=by rw[e];simp
    rw[if_pos h2,if_neg h1,if_pos e]
   ·rw[if_neg e]
    by_cases m:c+(n:Int)∈L
    ·rw[if_pos m,if_pos (List.mem_cons_of_mem _ m)]
    ·rw[if_neg m,if_neg (by simp[e,m])]
  have k2:(if c≤b∧b<c+((n+1:Nat):Int)then 1 else 0:Nat)=(if c≤b∧b<c+(n:Int)then 1 else 0)+(if c+(n:Int)=b then 1 else 0):=by
   split<;>split<;>split<;>omega
  omega
def Cz(u:Int)(L:List Int):Nat:=L.countP fun b=>Er b==u
theorem Kk{u:Int}(h0:0≤u)(h3:u≤3):∀{L:List Int},L.Nodup→(∀b∈L,0≤b∧b<56)→Cz u L=zq L (u*14) 14
 |[],_,_=>by
  have:∀n,zq [] (u*14) n=0:=fun n=>by simp[zq]
  rw[this];rfl
 |b::L,hn,hr=>by
  have hb:=hr b (by simp)
  rw[List.nodup_cons]at hn
  rw[KV L _ b hn.1 14,←Kk h0 h3 hn.2 fun x hx=>hr x (by simp[hx])]
  have:Er b=b / 14:=by unfold Er;rw[if_pos hb]
  simp only[Cz,List.countP_cons,this,beq_iff_eq]
  congr 1
  by_cases e:b / 14=u
  ·rw[if_pos e,if_pos (by omega)]
  ·rw[if_neg e,if_neg (by omega)]
theorem Lf{f:eh}(hP:rN f){b:Int}(hb:b∈aU (fI f)):0≤b∧b<56:=by
 simp only[aU,List.mem_flatMap]at hb
 obtain⟨n,hn,hb⟩:=hb
 simp only[nz,List.mem_filter]at hb
 obtain⟨i,hi⟩:=List.getElem?_of_mem hn
 obtain⟨j,hj⟩:=List.getElem?_of_mem hb.1
 have:=(hP.bj i n hi j b hj (by simpa using hb.2)).1
 exact⟨this.1,this.2.1⟩
theorem Ms(l:List Int):(nz l).length≤l.length:=List.length_filter_le _ _
theorem Si{l:List az}(h:∀n∈l,(aM n).length≤8):(aU l).length≤8*l.length:=by
 induction l with
 |nil=>simp[aU]
 |cons n l ih=>
  have h1:=ih fun m hm=>h m (by simp[hm])
  have h2:=h n (by simp)
  have h3:=Ms (aM n)
  simp only[aU,List.flatMap_cons,List.length_append,List.length_cons]at h1 ⊢
  omega
theorem Nv{n:az}(h:du n):(aM n).length≤8:=by
 rcases h with h|h
 ·subst h;exact Nat.zero_le _
 ·have h1:=vA h
  have h2:=xd h
  unfold rj at h1
  split at h1<;>omega
section
variable {f:eh} {u:Int}
theorem GI(hP:rN f)(h0:0≤u)(h3:u≤3):Ev (fun k=>lD k (f,u)) (qe f u 5:Int):=by
 refine aw.run (fun k=>zb k _ _) ?_
 have hni:=hP.ni
 simp only[wk]
 refine cI.ev ?_
 have:=cI.count (L:=gL) (r:=(qe f u 5:Int)) (fun i=>(u,(),(qe f u i:Int),(i:Int),f)) 5 (fun i hi=> ?_) (cI.stop ?_)
 ·simpa[qe]using this
 ·obtain⟨n,hn⟩:∃n,(fI f)[(u*5).toNat+i]? =some n:=⟨_,List.getElem?_eq_getElem (show(u*5).toNat+i<(fI f).length by omega)⟩
  have hc:=Jj f u i
  have w1:aa .i64 (u*5)=u*5:=aV (by omega) (by omega)
  have w2:aa .i64 (u*5+i)=u*5+i:=aV (by omega) (by omega)
  have w3:aa .i64 ((i:Int)+1)=((i+1:Nat):Int):=by rw[aV (by omega) (by omega)];omega
  have w4:aa .i64 ((qe f u i:Int)+1)=((qe f u i+1:Nat):Int):=by rw[aV (by omega) (by omega)];omega
  have c1:(i:Int)<5:=by omega
  have c2:0≤u*5+(i:Int):=by omega
  have t:(u*5+(i:Int)).toNat=(u*5).toNat+i:=by omega
  simp only[rZ,gL,w1,w2,w3,w4,c1,c2,t,hn,decide_true,cond_true,if_true,Option.bind_some,qe]
  cases hb:n.1 != 0<;>simp only[cond_true,cond_false]<;>exact aw.const _
 ·simp only[gL,show ¬((5:Nat):Int)<5 by omega,decide_false,cond_false]
  exact aw.const _
theorem FW(hP:rN f)(h0:0≤u)(h3:u≤3):Ev (fun k=>lA k (some f,u)) (qe f u 5:Int):=by
 refine aw.run (fun k=>zA k _ _) ?_
 have hni:=hP.ni
 have hni':f.2.2.1.length=20:=hni
 have v1:aa .i64 (u+1)=u+1:=aV (by omega) (by omega)
 have v2:aa .i64 ((u+1)*5)=(u+1)*5:=aV (by omega) (by omega)
 have v3:aa .i64 (u*5)=u*5:=aV (by omega) (by omega)
 have c1:0≤(u+1)*5:=by omega
 have c2:(u+1)*5≤((f.2.2.1.length:Nat):Int):=by rw[hni'];omega
 have c3:0≤u*5:=by omega
 have c4:u*5≤((((u+1)*5).toNat:Nat):Int):=by omega
 simp only[vT,Option.bind_some,v1,v2,v3,c1,c2,c3,c4,if_true]
 generalize hl:(f.2.2.1.take ((u+1)*5).toNat).drop (u*5).toNat=l
 have hlen:l.length=5:=by rw[←hl,List.length_drop,List.length_take,hni'];omega
 refine cI.ev ?_
 have:=cI.count (L:=gW) (r:=(qe f u 5:Int)) (fun i=>((qe f u i:Int),l,(l.length:Int),(i:Int))) 5 (fun i hi=> ?_) (cI.stop ?_)
 ·simpa[qe]using this
 ·obtain⟨n,hn⟩:∃n,(fI f)[(u*5).toNat+i]? =some n:=⟨_,List.getElem?_eq_getElem (show(u*5).toNat+i<(fI f).length by omega)⟩
  have hx:l[i]? =some n:=by
   rw[←hl,List.getElem?_drop,List.getElem?_take,if_pos (by omega)];exact hn
  have hc:=Jj f u i
  have w3:aa .i64 ((i:Int)+1)=((i+1:Nat):Int):=by rw[aV (by omega) (by omega)];omega
  have w4:aa .i64 ((qe f u i:Int)+1)=((qe f u i+1:Nat):Int):=by rw[aV (by omega) (by omega)];omega
  have d1:(i:Int)<(l.length:Int):=by omega
  simp only[rZ,gW,d1,decide_true,cond_true,Int.natCast_nonneg,if_true,Int.toNat_natCast,hx,Option.bind_some,w3,w4,qe,hn]
  cases hb:n.1 != 0<;>simp only[cond_true,cond_false]<;>exact aw.const _
 ·have:¬((5:Nat):Int)<(l.length:Int):=by omega
  simp only[gW,this,decide_false,cond_false]
  exact aw.const _
theorem H2(L:List Int)(b:Int):Cz u (L++[b])=Cz u L+(if Er b=u then 1 else 0):=by
 simp[Cz]
theorem F7(hP:rN f)(h0:0≤u)(h3:u≤3):Ev (fun k=>lO k (f,u)) (zq (aU (fI f)) (u*14) 14:Int):=by
 refine aw.run (fun k=>zY k _ _) ?_
 have hni:=hP.ni
 rw[←Kk h0 h3 hP.nodup fun b hb=>Lf hP hb]
 simp only[vK]
 refine Ev.eq ?_
 refine ak.list (L:=fun k _=>gU k) (fI f) (fun(st:Int) i=>(u,st,fI f,((fI f).length:Int),((i:Nat):Int))) (fun st i=>st=(Cz u (aU ((fI f).take i)):Int)∧Cz u (aU ((fI f).take i))≤8*i) (fun st i n hx hi inv=> ?_) (fun st inv=> ?_) _ ⟨by simp[aU,Cz],by simp[aU,Cz]⟩
 ·have hbl:=Nv (hP.ino i n hx)
  simp only[gU,Int.ofNat_lt,hi,decide_true,cond_true,Int.natCast_nonneg,if_true,Int.toNat_natCast,hx,Option.bind_some]
  refine ak.list (L:=fun k (p:Unit×((Int×Int×List az×Int×Int)→Option Int))=>gP k p.2) (aM n) (fun(st:Int) j=>(u,st,fI f,((fI f).length:Int),(i:Int),aM n,((aM n).length:Int),(j:Int))) (fun st j=>st=(Cz u (pre (fI f) i n j):Int)∧Cz u (pre (fI f) i n j)≤8*i+j) (fun st j b hb hj inv=> ?_) (fun st inv=> ?_) st (by rw[wh];exact⟨inv.1,by omega⟩)
  ·obtain⟨rfl,inv2⟩:=inv
   have w3:aa .i64 ((j:Int)+1)=((j+1:Nat):Int):=by rw[aV (by omega) (by omega)];omega
   have w4:aa .i64 ((Cz u (pre (fI f) i n j):Int)+1)=((Cz u (pre (fI f) i n j)+1:Nat):Int):=by rw[aV (by omega) (by omega)];omega
   simp only[gP,Int.ofNat_lt,hj,decide_true,cond_true,Int.natCast_nonneg,if_true,Int.toNat_natCast,hb,Option.bind_some,w3,w4]
   refine ak.bif (fun h1=> ?_) (fun h1=> ?_)
   ·have h1:b≠ -1:=by simpa using h1
    have hp:=FC (l:=fI f) (i:=i) hb h1
    refine ak.bind (oe b) (ak.bif (fun h2=> ?_) (fun h2=> ?_))
    ·have h2:Er b=u:=by simpa using h2
     refine ak.const _ (GL.self _ rfl ?_)
     rw[hp,H2,if_pos h2]
     exact⟨rfl,by omega⟩
    ·have h2:¬Er b=u:=by simpa using h2
     refine ak.const _ (GL.self _ rfl ?_)
     rw[hp,H2,if_neg h2]
     exact⟨rfl,by omega⟩
   ·have h1:b= -1:=by simpa using h1
    subst h1
    refine ak.const _ (GL.self _ rfl ?_)
    rw[u6 hb]
    exact⟨rfl,by omega⟩
  ·have hw:aa .i64 ((i:Int)+1)=((i+1:Nat):Int):=by rw[aV (by omega) (by omega)];omega
   simp only[gP,Int.lt_irrefl,decide_false,cond_false,hw]
   refine ak.const _ (GE.up (S:=Unit×((Int×Int×List az×Int×Int)→Option Int)) (fun p=>p.2 (u,st,fI f,((fI f).length:Int),((i+1:Nat):Int))) ?_)
   refine GL.self st rfl ?_
   rw[xc hx]
   exact⟨inv.1,by omega⟩
 ·simp only[gU,Int.lt_irrefl,decide_false,cond_false]
  rw[List.take_length]at inv
  exact ak.const _ (GE.ret (GR.ret inv.1))
theorem HK(n:az)(h:(aM n).length≤8):Ev (fun k=>kH k n) (nz (aM n)):=by
 refine aw.run (fun k=>xH k _) ?_
 simp only[ud]
 refine Ev.eq ?_
 refine ak.list (L:=fun k _=>fR k) (aM n) (fun(st:List Int) i=>(st,aM n,((aM n).length:Int),((i:Nat):Int))) (fun st i=>st=nz ((aM n).take i)) (fun st i b hb hi inv=> ?_) (fun st inv=> ?_) _ (by simp[nz])
 ·subst inv
  have w3:aa .i64 ((i:Int)+1)=((i+1:Nat):Int):=by rw[aV (by omega) (by omega)];omega
  have hl:=Ms ((aM n).take i)
  rw[List.length_take]at hl
  have c:((nz ((aM n).take i)).length+([b]:List Int).length)*8≤au:=by simp[au];omega
  simp only[fR,Int.ofNat_lt,hi,decide_true,cond_true,Int.natCast_nonneg,if_true,Int.toNat_natCast,hb,Option.bind_some,w3,c]
  refine ak.bif (fun h1=> ?_) (fun h1=> ?_)
  ·have h1:b≠ -1:=by simpa using h1
   exact ak.const _ (GL.self _ rfl (by rw[ER hb,if_neg h1]))
  ·have h1:b= -1:=by simpa using h1
   exact ak.const _ (GL.self _ rfl (by rw[ER hb,if_pos h1,List.append_nil]))
 ·simp only[fR,Int.lt_irrefl,decide_false,cond_false]
  rw[List.take_length]at inv
  exact ak.const _ (GE.ret (GR.ret inv))
theorem PO(hP:rN f):∃r,Ev (fun k=>nb k (some f)) r∧lu r (aU (fI f)):=by
 have hni:=hP.ni
 refine Ev.of (Q:=fun r=>lu r (aU (fI f))) ?_ |>.imp fun n h=>⟨aw.run (fun k=>BE k (some f)) h.1,h.2⟩
 have c1:(0:Int)≤56:=by omega
 have c2:(56:Int)≤56:=by omega
 have c3:(56:Int)*1≤(au:Int):=by unfold au;omega
 simp only[yM,c1,c2,c3,if_true,Option.bind_some]
 refine ak.list (L:=fun k _=>iX k) (fI f) (fun(st:List Bool) i=>(st,fI f,((fI f).length:Int),((i:Nat):Int))) (fun st i=>lu st (aU ((fI f).take i))) (fun st i n hx hi inv=> ?_) (fun st inv=> ?_) _ Cv
 ·have hbl:=Nv (hP.ino i n hx)
  simp only[iX,Int.ofNat_lt,hi,decide_true,cond_true,Int.natCast_nonneg,if_true,Int.toNat_natCast,hx,Option.bind_some]
  refine ak.bind (HK n hbl) ?_
  have hnl:=Ms (aM n)
  refine ak.list (L:=fun k (p:Unit×((List Bool×List az×Int×Int)→Option (List Bool)))=>iH k p.2) (nz (aM n)) (fun(st:List Bool) j=>(st,fI f,((fI f).length:Int),(i:Int),nz (aM n),((nz (aM n)).length:Int),(j:Int))) (fun st j=>lu st (aU ((fI f).take i)++(nz (aM n)).take j)) (fun st j b hb hj inv=> ?_) (fun st inv=> ?_) st (by simpa using inv)
  ·have hm:b∈aU (fI f):=by
    simp only[aU,List.mem_flatMap]
    exact⟨n,List.mem_of_getElem? hx,List.mem_of_getElem? hb⟩
   obtain⟨b0,b1⟩:=Lf hP hm
   have b2:b<((st.length:Nat):Int):=by rw[inv.1];omega
   have w3:aa .i64 ((j:Int)+1)=((j+1:Nat):Int):=by rw[aV (by omega) (by omega)];omega
   simp only[iH,Int.ofNat_lt,hj,decide_true,cond_true,Int.natCast_nonneg,if_true,Int.toNat_natCast,hb,Option.bind_some,w3,b0,b2,Cb inv b0 b1]
   refine ak.const _ (GL.self _ rfl ?_)
   rw[List.take_add_one,hb,Option.toList_some,←List.append_assoc]
   exact CA inv b0
  ·have hw:aa .i64 ((i:Int)+1)=((i+1:Nat):Int):=by rw[aV (by omega) (by omega)];omega
   simp only[iH,Int.lt_irrefl,decide_false,cond_false,hw]
   refine ak.const _ (GE.up (S:=Unit×((List Bool×List az×Int×Int)→Option (List Bool))) (fun p=>p.2 (st,fI f,((fI f).length:Int),((i+1:Nat):Int))) ?_)
   refine GL.self st rfl ?_
   rw[xc hx]
   rw[List.take_length]at inv
   simpa[pre]using inv
 ·simp only[iX,Int.lt_irrefl,decide_false,cond_false]
  rw[List.take_length]at inv
  exact ak.const _ (GE.ret (GR.ret inv))
theorem GN(hP:rN f)(h0:0≤u)(h3:u≤3):Ev (fun k=>lV k (some f,u)) (zq (aU (fI f)) (u*14) 14:Int):=by
 refine aw.run (fun k=>zS k _ _) ?_
 obtain⟨t,ht,hu⟩:=PO hP
 simp only[vN]
 refine aw.bind ht ?_
 have v1:aa .i64 (u+1)=u+1:=aV (by omega) (by omega)
 have v2:aa .i64 ((u+1)*14)=(u+1)*14:=aV (by omega) (by omega)
 have v3:aa .i64 (u*14)=u*14:=aV (by omega) (by omega)
 have c1:0≤(u+1)*14:=by omega
 have c2:(u+1)*14≤((t.length:Nat):Int):=by rw[hu.1];omega
 have c3:0≤u*14:=by omega
 have c4:u*14≤((((u+1)*14).toNat:Nat):Int):=by omega
 have c5:((u+1)*14).toNat-(u*14).toNat=14:=by omega
 simp only[v1,v2,v3,c1,c2,c3,c4,c5,if_true,and_self]
 refine cI.ev ?_
 have:=cI.count (L:=fun k=>gV k u) (r:=(zq (aU (fI f)) (u*14) 14:Int)) (fun i=>((zq (aU (fI f)) (u*14) i:Int),(),(((14:Nat)):Int),(i:Int),t)) 14 (fun i hi=> ?_) (cI.stop ?_)
 ·simpa[zq]using this
 ·have hle:=LW (aU (fI f)) (u*14) i
  have w3:aa .i64 ((i:Int)+1)=((i+1:Nat):Int):=by rw[aV (by omega) (by omega)];omega
  have w4:aa .i64 ((zq (aU (fI f)) (u*14) i:Int)+1)=((zq (aU (fI f)) (u*14) i+1:Nat):Int):=by rw[aV (by omega) (by omega)];omega
  have hx:=hu.2 ((u*14).toNat+i) (by omega)
  have e:(((u*14).toNat+i:Nat):Int)=u*14+i:=by omega
  rw[e]at hx
  have c6:(i:Int)<((14:Nat):Int):=by omega
  simp only[rZ,gV,v1,v2,v3,c5,c6,decide_true,cond_true,Int.natCast_nonneg,if_true,Int.toNat_natCast,hx,Option.bind_some,w3,w4,Bq,and_self]
  by_cases h:u*14+(i:Int)∈aU (fI f)
  ·simp only[h,decide_true,cond_true,if_true];exact aw.const _
  ·simp only[h,decide_false,cond_false,if_false,Nat.add_zero];exact aw.const _
 ·simp only[gV,Int.lt_irrefl,decide_false,cond_false]
  exact aw.const _
end
theorem LM(f:eh)(u:Int)(hs:cY f)(hb:∀s∈fD f,s.size<ia):∃r,Ev (fun k=>iW k (f,u)) r∧Ev (fun k=>iO k (f,u)) r∧r.size≤1000:=by
 obtain⟨b,e1,e2,e3⟩:=(yO f hs).same (xS f hs hb)
 cases b with
 |false=>
  refine⟨⟨#[]⟩,aw.run (fun k=>jS k _ _) ?_,aw.run (fun k=>jM k _ _) ?_,Nat.zero_le _⟩
  ·simp only[kF]
   refine aw.bind e2 ?_
   simp only[Bool.not_false,cond_true];exact aw.const _
  ·simp only[lb]
   refine aw.bind e1 ?_
   simp only[Bool.not_false,cond_true];exact aw.const _
 |true=>
  have hP:=e3.1 rfl
  by_cases hu:0≤u∧u≤3
  ·have hnq:=hP.nq
   obtain⟨q,hq⟩:∃q,(fQ f)[u.toNat]? =some q:=⟨_,List.getElem?_eq_getElem (show u.toNat<(fQ f).length by omega)⟩
   have hqp:=hP.q _ _ hq
   unfold jW at hqp
   have n1:=Jj f u 5
   have n2:=LW (aU (fI f)) (u*14) 14
   have z1:=bW (qe f u 5) (by omega) (by omega)
   have z2:=bW q.1 (by omega) (by omega)
   have z3:=bW (zq (aU (fI f)) (u*14) 14) (by omega) (by omega)
   have z4:=bW q.2 (by omega) (by omega)
   have s1:(⟨#[47]⟩:ByteArray).size=1:=rfl
   have s2:(⟨#[32]⟩:ByteArray).size=1:=rfl
   refine⟨((((((bd (qe f u 5)++(⟨#[47]⟩:ByteArray))++bd q.1)++(⟨#[32]⟩:ByteArray))++bd (zq (aU (fI f)) (u*14) 14))++(⟨#[47]⟩:ByteArray))++bd q.2),aw.run (fun k=>jS k _ _) ?_,aw.run (fun k=>jM k _ _) ?_,by simp only[aG];omega⟩
   ·simp only[kF]
    refine aw.bind e2 ?_
    simp only[Bool.not_true,cond_false]
    refine aw.bind (ea u) ?_
    simp only[hu,and_self,decide_true,Bool.not_true,cond_false,if_true,hq,Option.bind_some]
    refine aw.bind (GI hP hu.1 hu.2) (aw.bind (bz _ (by omega) (by omega)) ?_)
    refine aw.pK (by show(bd _).size+_≤_;omega) (aw.bind (bz _ (by omega) (by omega)) ?_)
    refine aw.pK (by rw[aG];show(bd _).size+_+(bd _).size≤_;omega) (aw.pK (by rw[aG,aG];show(bd _).size+_+(bd _).size+_≤_;omega) ?_)
    refine aw.bind (F7 hP hu.1 hu.2) (aw.bind (bz _ (by omega) (by omega)) ?_)
    refine aw.pK (by rw[aG,aG,aG];show(bd _).size+_+(bd _).size+_+(bd _).size≤_;omega) (aw.pK (by rw[aG,aG,aG,aG];show(bd _).size+_+(bd _).size+_+(bd _).size+_≤_;omega) ?_)
    refine aw.bind (bz _ (by omega) (by omega)) ?_
    refine aw.pK (by rw[aG,aG,aG,aG,aG];show(bd _).size+_+(bd _).size+_+(bd _).size+_+(bd _).size≤_;omega) ?_
    exact aw.const _
   ·simp only[lb]
    refine aw.bind e1 ?_
    simp only[Bool.not_true,cond_false]
    refine aw.bind (eE u) ?_
    simp only[hu,and_self,decide_true,Bool.not_true,cond_false,if_true,hq,Option.bind_some]
    refine aw.bind (FW hP hu.1 hu.2) (aw.bind (bx _ (by omega) (by omega)) ?_)
    refine aw.pK (by show(bd _).size+_≤_;omega) (aw.bind (bx _ (by omega) (by omega)) ?_)
    refine aw.pK (by rw[aG];show(bd _).size+_+(bd _).size≤_;omega) (aw.pK (by rw[aG,aG];show(bd _).size+_+(bd _).size+_≤_;omega) ?_)
    refine aw.bind (GN hP hu.1 hu.2) (aw.bind (bx _ (by omega) (by omega)) ?_)
    refine aw.pK (by rw[aG,aG,aG];show(bd _).size+_+(bd _).size+_+(bd _).size≤_;omega) (aw.pK (by rw[aG,aG,aG,aG];show(bd _).size+_+(bd _).size+_+(bd _).size+_≤_;omega) ?_)
    refine aw.bind (bx _ (by omega) (by omega)) ?_
    refine aw.pK (by rw[aG,aG,aG,aG,aG];show(bd _).size+_+(bd _).size+_+(bd _).size+_+(bd _).size≤_;omega) ?_
    exact aw.const _
  ·refine⟨⟨#[]⟩,aw.run (fun k=>jS k _ _) ?_,aw.run (fun k=>jM k _ _) ?_,Nat.zero_le _⟩
   ·simp only[kF]
    refine aw.bind e2 ?_
    simp only[Bool.not_true,cond_false]
    refine aw.bind (ea u) ?_
    simp only[hu,decide_false,Bool.not_false,cond_true];exact aw.const _
   ·simp only[lb]
    refine aw.bind e1 ?_
    simp only[Bool.not_true,cond_false]
    refine aw.bind (eE u) ?_
    simp only[hu,decide_false,Bool.not_false,cond_true];exact aw.const _
end Go.Proofs.YtkdcfeopelbojaaGreatDoor

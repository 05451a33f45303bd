/- The tables, the residual functions and lemmas of this seat: parts of the proof of the law; conditions: those that each names. -/
import Derived.Test.YtkdcfeopelbojaaGreatDoorFmt
set_option linter.unusedVariables false
set_option linter.unusedSimpArgs false
set_option maxRecDepth 100000
namespace Go.Proofs.YtkdcfeopelbojaaGreatDoor
open Go.Eng
def pU(f:dV)(u:Int):Nat→Nat
 |0=>0
 |i+1=>match(fI f)[(u*5).toNat+i]? with
  |some n=>bif n.1 != 0 then pU f u i+1 else pU f u i
  |none=>pU f u i
theorem Iq(f:dV)(u:Int):∀i,pU f u i≤i
 |0=>Nat.le_refl _
 |i+1=>by
  have h:=Iq f u i
  simp only[pU]
  cases(fI f)[(u*5).toNat+i]? with
  |none=>simp only;omega
  |some n=>cases hb:n.1 != 0<;>simp only[hb,cond_true,cond_false]<;>omega
def zk(L:List Int)(c:Int)(n:Nat):Nat:=(List.range n).countP fun j:Nat=>decide (c+(j:Int)∈L)
theorem zL(L:List Int)(c:Int)(n:Nat):zk L c (n+1)=zk L c n+(if c+(n:Int)∈L then 1 else 0):=by
 simp only[zk,List.range_succ,List.countP_append]
 by_cases h:c+(n:Int)∈L<;>simp[h]
theorem LB(L:List Int)(c:Int):∀n,zk L c n≤n
 |0=>Nat.le_refl _
 |n+1=>by
  have:=LB L c n
  rw[zL];split<;>omega
theorem Ju(L:List Int)(c b:Int)(hb:b∉L):∀n,zk (b::L) c n=zk L c n+(if c≤b∧b<c+n then 1 else 0)
 |0=>by
  rw[if_neg (by omega)]
  simp[zk]
 |n+1=>by
  rw[zL,zL,Ju L c b hb n]
  have k1:(if c+(n:Int)∈b::L then 1 else 0:Nat)=(if c+(n:Int)∈L then 1 else 0)+(if c+(n:Int)=b then 1 else 0):=by
   by_cases e:c+(n:Int)=b
   ·have h1:c+(n:Int)∉L:=by rw[e];exact hb
    have h2:c+(n:Int)∈b::L:=by rw[e];simp
    rw[if_pos h2,if_neg h1,if_pos e]
   ·rw[if_neg e]
    by_cases m:c+(n:Int)∈L
    ·rw[if_pos m,if_pos (List.mem_cons_of_mem _ m)]
    ·rw[if_neg m,if_neg (by simp[e,m])]
  have k2:(if c≤b∧b<c+((n+1:Nat):Int)then 1 else 0:Nat)=(if c≤b∧b<c+(n:Int)then 1 else 0)+(if c+(n:Int)=b then 1 else 0):=by
   split<;>split<;>split<;>omega
  omega
def By(u:Int)(L:List Int):Nat:=L.countP fun b=>DN b==u
theorem JE{u:Int}(h0:0≤u)(h3:u≤3):∀{L:List Int},L.Nodup→(∀b∈L,0≤b∧b<56)→By u L=zk L (u*14) 14
 |[],_,_=>by
  have:∀n,zk [] (u*14) n=0:=fun n=>by simp[zk]
  rw[this];rfl
 |b::L,hn,hr=>by
  have hb:=hr b (by simp)
  rw[List.nodup_cons]at hn
  rw[Ju L _ b hn.1 14,←JE h0 h3 hn.2 fun x hx=>hr x (by simp[hx])]
  have:DN b=b / 14:=by unfold DN;rw[if_pos hb]
  simp only[By,List.countP_cons,this,beq_iff_eq]
  congr 1
  by_cases e:b / 14=u
  ·rw[if_pos e,if_pos (by omega)]
  ·rw[if_neg e,if_neg (by omega)]
theorem KD{f:dV}(hP:qv f){b:Int}(hb:b∈aU (fI f)):0≤b∧b<56:=by
 simp only[aU,List.mem_flatMap]at hb
 obtain⟨n,hn,hb⟩:=hb
 simp only[nz,List.mem_filter]at hb
 obtain⟨i,hi⟩:=List.getElem?_of_mem hn
 obtain⟨j,hj⟩:=List.getElem?_of_mem hb.1
 have:=(hP.bj i n hi j b hj (by simpa using hb.2)).1
 exact⟨this.1,this.2.1⟩
theorem LO(l:List Int):(nz l).length≤l.length:=List.length_filter_le _ _
theorem Ro{l:List az}(h:∀n∈l,(aK n).length≤8):(aU l).length≤8*l.length:=by
 induction l with
 |nil=>simp[aU]
 |cons n l ih=>
  have h1:=ih fun m hm=>h m (by simp[hm])
  have h2:=h n (by simp)
  have h3:=LO (aK n)
  simp only[aU,List.flatMap_cons,List.length_append,List.length_cons]at h1 ⊢
  omega
theorem Mt{n:az}(h:dy n):(aK n).length≤8:=by
 rcases h with h|h
 ·subst h;exact Nat.zero_le _
 ·have h1:=uA h
  have h2:=wc h
  unfold qE at h1
  split at h1<;>omega
section
variable {f:dV} {u:Int}
theorem Fa(hP:qv f)(h0:0≤u)(h3:u≤3):Ev (fun k=>lx k (f,u)) (pU f u 5:Int):=by
 refine ax.run (fun k=>yV k _ _) ?_
 have hni:=hP.ni
 simp only[uo]
 refine cZ.ev ?_
 have:=cZ.count (L:=gN) (r:=(pU f u 5:Int)) (fun i=>(u,(),(pU f u i:Int),(i:Int),f)) 5 (fun i hi=> ?_) (cZ.stop ?_)
 ·simpa[pU]using this
 ·obtain⟨n,hn⟩:∃n,(fI f)[(u*5).toNat+i]? =some n:=⟨_,List.getElem?_eq_getElem (show(u*5).toNat+i<(fI f).length by omega)⟩
  have hc:=Iq f u i
  have w1:aa .i64 (u*5)=u*5:=aV (by omega) (by omega)
  have w2:aa .i64 (u*5+i)=u*5+i:=aV (by omega) (by omega)
  have w3:aa .i64 ((i:Int)+1)=((i+1:Nat):Int):=by rw[aV (by omega) (by omega)];omega
  have w4:aa .i64 ((pU f u i:Int)+1)=((pU f u i+1:Nat):Int):=by rw[aV (by omega) (by omega)];omega
  have c1:(i:Int)<5:=by omega
  have c2:0≤u*5+(i:Int):=by omega
  have t:(u*5+(i:Int)).toNat=(u*5).toNat+i:=by omega
  simp only[wK,gN,w1,w2,w3,w4,c1,c2,t,hn,decide_true,cond_true,if_true,Option.bind_some,pU]
  cases hb:n.1 != 0<;>simp only[cond_true,cond_false]<;>exact ax.const _
 ·simp only[gN,show ¬((5:Nat):Int)<5 by omega,decide_false,cond_false]
  exact ax.const _
theorem Ft(hP:qv f)(h0:0≤u)(h3:u≤3):Ev (fun k=>lj k (some f,u)) (pU f u 5:Int):=by
 refine ax.run (fun k=>ze k _ _) ?_
 have hni:=hP.ni
 have hni':f.2.2.1.length=20:=hni
 have v1:aa .i64 (u+1)=u+1:=aV (by omega) (by omega)
 have v2:aa .i64 ((u+1)*5)=(u+1)*5:=aV (by omega) (by omega)
 have v3:aa .i64 (u*5)=u*5:=aV (by omega) (by omega)
 have c1:0≤(u+1)*5:=by omega
 have c2:(u+1)*5≤((f.2.2.1.length:Nat):Int):=by rw[hni'];omega
 have c3:0≤u*5:=by omega
 have c4:u*5≤((((u+1)*5).toNat:Nat):Int):=by omega
 simp only[vM,Option.bind_some,v1,v2,v3,c1,c2,c3,c4,if_true]
 generalize hl:(f.2.2.1.take ((u+1)*5).toNat).drop (u*5).toNat=l
 have hlen:l.length=5:=by rw[←hl,List.length_drop,List.length_take,hni'];omega
 refine cZ.ev ?_
 have:=cZ.count (L:=gD) (r:=(pU f u 5:Int)) (fun i=>((pU f u i:Int),l,(l.length:Int),(i:Int))) 5 (fun i hi=> ?_) (cZ.stop ?_)
 ·simpa[pU]using this
 ·obtain⟨n,hn⟩:∃n,(fI f)[(u*5).toNat+i]? =some n:=⟨_,List.getElem?_eq_getElem (show(u*5).toNat+i<(fI f).length by omega)⟩
  have hx:l[i]? =some n:=by
   rw[←hl,List.getElem?_drop,List.getElem?_take,if_pos (by omega)];exact hn
  have hc:=Iq f u i
  have w3:aa .i64 ((i:Int)+1)=((i+1:Nat):Int):=by rw[aV (by omega) (by omega)];omega
  have w4:aa .i64 ((pU f u i:Int)+1)=((pU f u i+1:Nat):Int):=by rw[aV (by omega) (by omega)];omega
  have d1:(i:Int)<(l.length:Int):=by omega
  simp only[wK,gD,d1,decide_true,cond_true,Int.natCast_nonneg,if_true,Int.toNat_natCast,hx,Option.bind_some,w3,w4,pU,hn]
  cases hb:n.1 != 0<;>simp only[cond_true,cond_false]<;>exact ax.const _
 ·have:¬((5:Nat):Int)<(l.length:Int):=by omega
  simp only[gD,this,decide_false,cond_false]
  exact ax.const _
theorem H2(L:List Int)(b:Int):By u (L++[b])=By u L+(if DN b=u then 1 else 0):=by
 simp[By]
theorem FO(hP:qv f)(h0:0≤u)(h3:u≤3):Ev (fun k=>lN k (f,u)) (zk (aU (fI f)) (u*14) 14:Int):=by
 refine ax.run (fun k=>yP k _ _) ?_
 have hni:=hP.ni
 rw[←JE h0 h3 hP.nodup fun b hb=>KD hP hb]
 simp only[uN]
 refine Ev.eq ?_
 refine ak.list (L:=fun k _=>gJ k) (fI f) (fun(st:Int) i=>(u,st,fI f,((fI f).length:Int),((i:Nat):Int))) (fun st i=>st=(By u (aU ((fI f).take i)):Int)∧By u (aU ((fI f).take i))≤8*i) (fun st i n hx hi inv=> ?_) (fun st inv=> ?_) _ ⟨by simp[aU,By],by simp[aU,By]⟩
 ·have hbl:=Mt (hP.ino i n hx)
  simp only[gJ,Int.ofNat_lt,hi,decide_true,cond_true,Int.natCast_nonneg,if_true,Int.toNat_natCast,hx,Option.bind_some]
  refine ak.list (L:=fun k (p:Unit×((Int×Int×List az×Int×Int)→Option Int))=>gP k p.2) (aK n) (fun(st:Int) j=>(u,st,fI f,((fI f).length:Int),(i:Int),aK n,((aK n).length:Int),(j:Int))) (fun st j=>st=(By u (pre (fI f) i n j):Int)∧By u (pre (fI f) i n j)≤8*i+j) (fun st j b hb hj inv=> ?_) (fun st inv=> ?_) st (by rw[uJ];exact⟨inv.1,by omega⟩)
  ·obtain⟨rfl,inv2⟩:=inv
   have w3:aa .i64 ((j:Int)+1)=((j+1:Nat):Int):=by rw[aV (by omega) (by omega)];omega
   have w4:aa .i64 ((By u (pre (fI f) i n j):Int)+1)=((By u (pre (fI f) i n j)+1:Nat):Int):=by rw[aV (by omega) (by omega)];omega
   simp only[gP,Int.ofNat_lt,hj,decide_true,cond_true,Int.natCast_nonneg,if_true,Int.toNat_natCast,hb,Option.bind_some,w3,w4]
   refine ak.bif (fun h1=> ?_) (fun h1=> ?_)
   ·have h1:b≠ -1:=by simpa using h1
    have hp:=EB (l:=fI f) (i:=i) hb h1
    refine ak.bind (nN b) (ak.bif (fun h2=> ?_) (fun h2=> ?_))
    ·have h2:DN b=u:=by simpa using h2
     refine ak.const _ (GL.self _ rfl ?_)
     rw[hp,H2,if_pos h2]
     exact⟨rfl,by omega⟩
    ·have h2:¬DN b=u:=by simpa using h2
     refine ak.const _ (GL.self _ rfl ?_)
     rw[hp,H2,if_neg h2]
     exact⟨rfl,by omega⟩
   ·have h1:b= -1:=by simpa using h1
    subst h1
    refine ak.const _ (GL.self _ rfl ?_)
    rw[u9 hb]
    exact⟨rfl,by omega⟩
  ·have hw:aa .i64 ((i:Int)+1)=((i+1:Nat):Int):=by rw[aV (by omega) (by omega)];omega
   simp only[gP,Int.lt_irrefl,decide_false,cond_false,hw]
   refine ak.const _ (GE.up (S:=Unit×((Int×Int×List az×Int×Int)→Option Int)) (fun p=>p.2 (u,st,fI f,((fI f).length:Int),((i+1:Nat):Int))) ?_)
   refine GL.self st rfl ?_
   rw[wF hx]
   exact⟨inv.1,by omega⟩
 ·simp only[gJ,Int.lt_irrefl,decide_false,cond_false]
  rw[List.take_length]at inv
  exact ak.const _ (GE.ret (GR.ret inv.1))
theorem GU(n:az)(h:(aK n).length≤8):Ev (fun k=>kL k n) (nz (aK n)):=by
 refine ax.run (fun k=>wN k _) ?_
 simp only[sT]
 refine Ev.eq ?_
 refine ak.list (L:=fun k _=>fF k) (aK n) (fun(st:List Int) i=>(st,aK n,((aK n).length:Int),((i:Nat):Int))) (fun st i=>st=nz ((aK n).take i)) (fun st i b hb hi inv=> ?_) (fun st inv=> ?_) _ (by simp[nz])
 ·subst inv
  have w3:aa .i64 ((i:Int)+1)=((i+1:Nat):Int):=by rw[aV (by omega) (by omega)];omega
  have hl:=LO ((aK n).take i)
  rw[List.length_take]at hl
  have c:((nz ((aK n).take i)).length+([b]:List Int).length)*8≤au:=by simp[au];omega
  simp only[fF,Int.ofNat_lt,hi,decide_true,cond_true,Int.natCast_nonneg,if_true,Int.toNat_natCast,hb,Option.bind_some,w3,c]
  refine ak.bif (fun h1=> ?_) (fun h1=> ?_)
  ·have h1:b≠ -1:=by simpa using h1
   exact ak.const _ (GL.self _ rfl (by rw[DX hb,if_neg h1]))
  ·have h1:b= -1:=by simpa using h1
   exact ak.const _ (GL.self _ rfl (by rw[DX hb,if_pos h1,List.append_nil]))
 ·simp only[fF,Int.lt_irrefl,decide_false,cond_false]
  rw[List.take_length]at inv
  exact ak.const _ (GE.ret (GR.ret inv))
theorem PE(hP:qv f):∃r,Ev (fun k=>nb k (some f)) r∧kY r (aU (fI f)):=by
 have hni:=hP.ni
 refine Ev.of (Q:=fun r=>kY r (aU (fI f))) ?_ |>.imp fun n h=>⟨ax.run (fun k=>AV k (some f)) h.1,h.2⟩
 have c1:(0:Int)≤56:=by omega
 have c2:(56:Int)≤56:=by omega
 have c3:(56:Int)*1≤(au:Int):=by unfold au;omega
 simp only[xf,c1,c2,c3,if_true,Option.bind_some]
 refine ak.list (L:=fun k _=>iu k) (fI f) (fun(st:List Bool) i=>(st,fI f,((fI f).length:Int),((i:Nat):Int))) (fun st i=>kY st (aU ((fI f).take i))) (fun st i n hx hi inv=> ?_) (fun st inv=> ?_) _ BT
 ·have hbl:=Mt (hP.ino i n hx)
  simp only[iu,Int.ofNat_lt,hi,decide_true,cond_true,Int.natCast_nonneg,if_true,Int.toNat_natCast,hx,Option.bind_some]
  refine ak.bind (GU n hbl) ?_
  have hnl:=LO (aK n)
  refine ak.list (L:=fun k (p:Unit×((List Bool×List az×Int×Int)→Option (List Bool)))=>iK k p.2) (nz (aK n)) (fun(st:List Bool) j=>(st,fI f,((fI f).length:Int),(i:Int),nz (aK n),((nz (aK n)).length:Int),(j:Int))) (fun st j=>kY st (aU ((fI f).take i)++(nz (aK n)).take j)) (fun st j b hb hj inv=> ?_) (fun st inv=> ?_) st (by simpa using inv)
  ·have hm:b∈aU (fI f):=by
    simp only[aU,List.mem_flatMap]
    exact⟨n,List.mem_of_getElem? hx,List.mem_of_getElem? hb⟩
   obtain⟨b0,b1⟩:=KD hP hm
   have b2:b<((st.length:Nat):Int):=by rw[inv.1];omega
   have w3:aa .i64 ((j:Int)+1)=((j+1:Nat):Int):=by rw[aV (by omega) (by omega)];omega
   simp only[iK,Int.ofNat_lt,hj,decide_true,cond_true,Int.natCast_nonneg,if_true,Int.toNat_natCast,hb,Option.bind_some,w3,b0,b2,B3 inv b0 b1]
   refine ak.const _ (GL.self _ rfl ?_)
   rw[List.take_add_one,hb,Option.toList_some,←List.append_assoc]
   exact Cj inv b0
  ·have hw:aa .i64 ((i:Int)+1)=((i+1:Nat):Int):=by rw[aV (by omega) (by omega)];omega
   simp only[iK,Int.lt_irrefl,decide_false,cond_false,hw]
   refine ak.const _ (GE.up (S:=Unit×((List Bool×List az×Int×Int)→Option (List Bool))) (fun p=>p.2 (st,fI f,((fI f).length:Int),((i+1:Nat):Int))) ?_)
   refine GL.self st rfl ?_
   rw[wF hx]
   rw[List.take_length]at inv
   simpa[pre]using inv
 ·simp only[iu,Int.lt_irrefl,decide_false,cond_false]
  rw[List.take_length]at inv
  exact ak.const _ (GE.ret (GR.ret inv))
theorem Ef(hP:qv f)(h0:0≤u)(h3:u≤3):Ev (fun k=>k9 k (some f,u)) (zk (aU (fI f)) (u*14) 14:Int):=by
 refine ax.run (fun k=>yU k _ _) ?_
 obtain⟨t,ht,hu⟩:=PE hP
 simp only[vy]
 refine ax.bind ht ?_
 have v1:aa .i64 (u+1)=u+1:=aV (by omega) (by omega)
 have v2:aa .i64 ((u+1)*14)=(u+1)*14:=aV (by omega) (by omega)
 have v3:aa .i64 (u*14)=u*14:=aV (by omega) (by omega)
 have c1:0≤(u+1)*14:=by omega
 have c2:(u+1)*14≤((t.length:Nat):Int):=by rw[hu.1];omega
 have c3:0≤u*14:=by omega
 have c4:u*14≤((((u+1)*14).toNat:Nat):Int):=by omega
 have c5:((u+1)*14).toNat-(u*14).toNat=14:=by omega
 simp only[v1,v2,v3,c1,c2,c3,c4,c5,if_true,and_self]
 refine cZ.ev ?_
 have:=cZ.count (L:=fun k=>gK k u) (r:=(zk (aU (fI f)) (u*14) 14:Int)) (fun i=>((zk (aU (fI f)) (u*14) i:Int),(),(((14:Nat)):Int),(i:Int),t)) 14 (fun i hi=> ?_) (cZ.stop ?_)
 ·simpa[zk]using this
 ·have hle:=LB (aU (fI f)) (u*14) i
  have w3:aa .i64 ((i:Int)+1)=((i+1:Nat):Int):=by rw[aV (by omega) (by omega)];omega
  have w4:aa .i64 ((zk (aU (fI f)) (u*14) i:Int)+1)=((zk (aU (fI f)) (u*14) i+1:Nat):Int):=by rw[aV (by omega) (by omega)];omega
  have hx:=hu.2 ((u*14).toNat+i) (by omega)
  have e:(((u*14).toNat+i:Nat):Int)=u*14+i:=by omega
  rw[e]at hx
  have c6:(i:Int)<((14:Nat):Int):=by omega
  simp only[wK,gK,v1,v2,v3,c5,c6,decide_true,cond_true,Int.natCast_nonneg,if_true,Int.toNat_natCast,hx,Option.bind_some,w3,w4,zL,and_self]
  by_cases h:u*14+(i:Int)∈aU (fI f)
  ·simp only[h,decide_true,cond_true,if_true];exact ax.const _
  ·simp only[h,decide_false,cond_false,if_false,Nat.add_zero];exact ax.const _
 ·simp only[gK,Int.lt_irrefl,decide_false,cond_false]
  exact ax.const _
end
theorem KX(f:dV)(u:Int)(hs:cJ f)(hb:∀s∈fD f,s.size<fu):∃r,Ev (fun k=>ik k (f,u)) r∧Ev (fun k=>iM k (f,u)) r∧r.size≤1000:=by
 obtain⟨b,e1,e2,e3⟩:=(lW f hs).same (mc f hs hb)
 cases b with
 |false=>
  refine⟨⟨#[]⟩,ax.run (fun k=>jJ k _ _) ?_,ax.run (fun k=>jx k _ _) ?_,Nat.zero_le _⟩
  ·simp only[kA]
   refine ax.bind e2 ?_
   simp only[Bool.not_false,cond_true];exact ax.const _
  ·simp only[kj]
   refine ax.bind e1 ?_
   simp only[Bool.not_false,cond_true];exact ax.const _
 |true=>
  have hP:=e3.1 rfl
  by_cases hu:0≤u∧u≤3
  ·have hnq:=hP.nq
   obtain⟨q,hq⟩:∃q,(fQ f)[u.toNat]? =some q:=⟨_,List.getElem?_eq_getElem (show u.toNat<(fQ f).length by omega)⟩
   have hqp:=hP.q _ _ hq
   unfold jC at hqp
   have n1:=Iq f u 5
   have n2:=LB (aU (fI f)) (u*14) 14
   have z1:=bV (pU f u 5) (by omega) (by omega)
   have z2:=bV q.1 (by omega) (by omega)
   have z3:=bV (zk (aU (fI f)) (u*14) 14) (by omega) (by omega)
   have z4:=bV q.2 (by omega) (by omega)
   have s1:(⟨#[47]⟩:ByteArray).size=1:=rfl
   have s2:(⟨#[32]⟩:ByteArray).size=1:=rfl
   refine⟨((((((bd (pU f u 5)++(⟨#[47]⟩:ByteArray))++bd q.1)++(⟨#[32]⟩:ByteArray))++bd (zk (aU (fI f)) (u*14) 14))++(⟨#[47]⟩:ByteArray))++bd q.2),ax.run (fun k=>jJ k _ _) ?_,ax.run (fun k=>jx k _ _) ?_,by simp only[aF];omega⟩
   ·simp only[kA]
    refine ax.bind e2 ?_
    simp only[Bool.not_true,cond_false]
    refine ax.bind (dZ u) ?_
    simp only[hu,and_self,decide_true,Bool.not_true,cond_false,if_true,hq,Option.bind_some]
    refine ax.bind (Fa hP hu.1 hu.2) (ax.bind (bz _ (by omega) (by omega)) ?_)
    refine ax.pE (by show(bd _).size+_≤_;omega) (ax.bind (bz _ (by omega) (by omega)) ?_)
    refine ax.pE (by rw[aF];show(bd _).size+_+(bd _).size≤_;omega) (ax.pE (by rw[aF,aF];show(bd _).size+_+(bd _).size+_≤_;omega) ?_)
    refine ax.bind (FO hP hu.1 hu.2) (ax.bind (bz _ (by omega) (by omega)) ?_)
    refine ax.pE (by rw[aF,aF,aF];show(bd _).size+_+(bd _).size+_+(bd _).size≤_;omega) (ax.pE (by rw[aF,aF,aF,aF];show(bd _).size+_+(bd _).size+_+(bd _).size+_≤_;omega) ?_)
    refine ax.bind (bz _ (by omega) (by omega)) ?_
    refine ax.pE (by rw[aF,aF,aF,aF,aF];show(bd _).size+_+(bd _).size+_+(bd _).size+_+(bd _).size≤_;omega) ?_
    exact ax.const _
   ·simp only[kj]
    refine ax.bind e1 ?_
    simp only[Bool.not_true,cond_false]
    refine ax.bind (ez u) ?_
    simp only[hu,and_self,decide_true,Bool.not_true,cond_false,if_true,hq,Option.bind_some]
    refine ax.bind (Ft hP hu.1 hu.2) (ax.bind (bx _ (by omega) (by omega)) ?_)
    refine ax.pE (by show(bd _).size+_≤_;omega) (ax.bind (bx _ (by omega) (by omega)) ?_)
    refine ax.pE (by rw[aF];show(bd _).size+_+(bd _).size≤_;omega) (ax.pE (by rw[aF,aF];show(bd _).size+_+(bd _).size+_≤_;omega) ?_)
    refine ax.bind (Ef hP hu.1 hu.2) (ax.bind (bx _ (by omega) (by omega)) ?_)
    refine ax.pE (by rw[aF,aF,aF];show(bd _).size+_+(bd _).size+_+(bd _).size≤_;omega) (ax.pE (by rw[aF,aF,aF,aF];show(bd _).size+_+(bd _).size+_+(bd _).size+_≤_;omega) ?_)
    refine ax.bind (bx _ (by omega) (by omega)) ?_
    refine ax.pE (by rw[aF,aF,aF,aF,aF];show(bd _).size+_+(bd _).size+_+(bd _).size+_+(bd _).size≤_;omega) ?_
    exact ax.const _
  ·refine⟨⟨#[]⟩,ax.run (fun k=>jJ k _ _) ?_,ax.run (fun k=>jx k _ _) ?_,Nat.zero_le _⟩
   ·simp only[kA]
    refine ax.bind e2 ?_
    simp only[Bool.not_true,cond_false]
    refine ax.bind (dZ u) ?_
    simp only[hu,decide_false,Bool.not_false,cond_true];exact ax.const _
   ·simp only[kj]
    refine ax.bind e1 ?_
    simp only[Bool.not_true,cond_false]
    refine ax.bind (ez u) ?_
    simp only[hu,decide_false,Bool.not_false,cond_true];exact ax.const _
end Go.Proofs.YtkdcfeopelbojaaGreatDoor

/- The tables, the residual functions and lemmas of this seat: parts of the proof of the law; conditions: those that each names. -/
import Derived.Test.YtmmgfgfkkpeedaaGreatDif
set_option linter.unusedVariables false
set_option linter.unusedSimpArgs false
set_option maxRecDepth 100000
namespace Go.Proofs.YtmmgfgfkkpeedaaGreat
open Go.Eng
abbrev Jf:=Bool×bt
theorem R2{f:jB}(hP:Fa f):∀s∈gj f,s.size=32:=by
 have key:∀i,∀s∈gp f i,s.size=32:=by
  intro i
  induction i with
  |zero=>
   intro s h
   simp only[gp,Nv,List.mem_append,List.mem_singleton]at h
   rcases h with rfl|h
   ·exact Kc hP
   ·rw[List.eq_of_mem_replicate h,xX]
  |succ i ih=>
   intro s h
   simp only[gp]at h
   cases hn:(fI f)[i]? with
   |none=>rw[hn]at h;exact ih s h
   |some n=>
    rw[hn]at h
    rcases List.mem_append.1 h with h|h
    ·exact ih s h
    ·have hz:=CG (hP.ino i n hn)
     simp only[Gk,List.mem_cons,List.not_mem_nil,or_false]at h
     rcases h with rfl|rfl|rfl<;>rw[ByteArray.size_extract]<;>omega
 intro s hs
 rcases List.mem_append.1 hs with hs|hs
 ·exact key 20 s hs
 ·obtain⟨i,hi⟩:=List.mem_iff_getElem?.1 hs
  exact hP.sz i s hi
def mc:Nat→ByteArray→List ByteArray
 |0,_=>[]
 |m+1,s=>if s.size=0 then []else if s.size≤32 then [s]else s.extract 0 32::mc m (s.extract 32 s.size)
theorem Ra:∀(m:Nat) (s:ByteArray),(mc m s).length≤m∧∀x∈mc m s,x.size≤32
 |0,s=>⟨Nat.le_refl _,fun x hx=>by cases hx⟩
 |m+1,s=>by
  simp only[mc]
  split
  ·exact⟨Nat.zero_le _,fun x hx=>by cases hx⟩
  ·split
   ·exact⟨by simp,fun x hx=>by rw[List.mem_singleton.1 hx];assumption⟩
   ·obtain⟨h1,h2⟩:=Ra m (s.extract 32 s.size)
    refine⟨by rw[List.length_cons];omega,fun x hx=> ?_⟩
    rcases List.mem_cons.1 hx with rfl|hx
    ·rw[ByteArray.size_extract];omega
    ·exact h2 x hx
theorem R7:∀(m:Nat) (s:ByteArray) (acc:List ByteArray),s.size≤m→m+acc.length≤1000000→bS dF (s,(32:Int),acc) (acc++mc m s):=by
 intro m
 induction m with
 |zero=>
  intro s acc hs ha
  have h0:s=⟨#[]⟩:=by refine NS ?_;exact List.eq_nil_of_length_eq_zero (by rw[Ap];omega)
  subst h0
  refine bS.stop ?_
  rw[mc,List.append_nil]
  simp only[dF,show ¬(32:Int)<(((⟨#[]⟩:ByteArray).size:Nat):Int)from by show ¬(32:Int)<0;decide,decide_false,cond_false,gb,Bool.not_true]
  exact au.const _
 |succ m ih=>
  intro s acc hs ha
  by_cases h32:32<s.size
  ·have hcap:(acc.length+([s.extract 0 (32:Int).toNat]:List ByteArray).length)*16≤af:=by show(acc.length+1)*16≤af;unfold af;omega
   have e:acc++mc (m+1) s=(acc++[s.extract 0 32])++mc m (s.extract 32 s.size):=by
    rw[mc,if_neg (by omega),if_neg (by omega),List.append_assoc];rfl
   rw[e]
   refine bS.step (d':=(s.extract 32 s.size,(32:Int),acc++[s.extract 0 32])) ?_ (ih _ _ (by rw[ByteArray.size_extract];omega) (by rw[List.length_append];show m+(acc.length+1)≤_;omega))
   simp only[m7,dF,show(32:Int)<(s.size:Int)by omega,decide_true,cond_true,show(0:Int)≤32 by decide,show(32:Int)≤(s.size:Int)by omega,if_true,hcap]
   exact au.const _
  ·refine bS.stop ?_
   simp only[dF,show ¬(32:Int)<(s.size:Int)by omega,decide_false,cond_false]
   by_cases h0:s.size=0
   ·have h0:s=⟨#[]⟩:=by refine NS ?_;exact List.eq_nil_of_length_eq_zero (by rw[Ap];omega)
    subst h0
    have e:mc (m+1) (⟨#[]⟩:ByteArray)=[]:=by simp only[mc];exact if_pos rfl
    rw[e,List.append_nil,gb]
    exact au.const _
   ·have hne:lB s ⟨#[]⟩=false:=by
     cases he:lB s ⟨#[]⟩with
     |false=>rfl
     |true=>rw[(cS _ _).1 he]at h0;exact absurd rfl h0
    have hcap:(acc.length+([s]:List ByteArray).length)*16≤af:=by show(acc.length+1)*16≤af;unfold af;omega
    have e:mc (m+1) s=[s]:=by simp only[mc];rw[if_neg h0,if_pos (show s.size≤32 by omega)]
    rw[hne,e]
    simp only[Bool.not_false,cond_true,if_pos hcap]
    exact au.const _
theorem S4:∀(m:Nat) (s:ByteArray) (acc:List ByteArray),s.size≤m→m+acc.length≤1000000→bS cP (s,(32:Int),acc) (acc++mc m s):=by
 intro m
 induction m with
 |zero=>
  intro s acc hs ha
  refine bS.stop ?_
  rw[mc,List.append_nil]
  simp only[cP,show ¬(0:Int)<(s.size:Int)by omega,decide_false,cond_false]
  exact au.const _
 |succ m ih=>
  intro s acc hs ha
  by_cases h0:s.size=0
  ·refine bS.stop ?_
   rw[mc,if_pos h0,List.append_nil]
   simp only[cP,show ¬(0:Int)<(s.size:Int)by omega,decide_false,cond_false]
   exact au.const _
  ·obtain⟨n,hn⟩:∃n:Nat,n=min 32 s.size:=⟨_,rfl⟩
   have hmin:min (32:Int) (s.size:Int)=(n:Int):=by omega
   have hcap:(acc.length+([s.extract 0 n]:List ByteArray).length)*16≤af:=by show(acc.length+1)*16≤af;unfold af;omega
   have hstep:m7 cP (s,(32:Int),acc) (s.extract n s.size,(32:Int),acc++[s.extract 0 n]):=by
    simp only[m7,cP,show(0:Int)<(s.size:Int)by omega,decide_true,cond_true,hmin,Int.natCast_nonneg,show(n:Int)≤(s.size:Int)by omega,if_true,Int.toNat_natCast,if_pos hcap]
    exact au.const _
   refine bS.step hstep ?_
   have:=ih (s.extract n s.size) (acc++[s.extract 0 n]) (by rw[ByteArray.size_extract];omega) (by rw[List.length_append];show m+(acc.length+1)≤_;omega)
   have e:acc++mc (m+1) s=(acc++[s.extract 0 n])++mc m (s.extract n s.size):=by
    rw[mc,if_neg h0]
    by_cases h32:s.size≤32
    ·have e1:n=s.size:=by omega
     rw[if_pos h32,e1]
     have z:(s.extract s.size s.size).size=0:=by rw[ByteArray.size_extract];omega
     have c0:mc m (s.extract s.size s.size)=[]:=by
      cases m with
      |zero=>rfl
      |succ m=>rw[mc,if_pos z]
     have e2:s.extract 0 s.size=s:=by
      refine NS ?_
      rw[Lib.extract_data,List.drop_zero,Nat.sub_zero,←Ap,List.take_length]
     rw[c0,List.append_nil,e2]
    ·have e1:n=32:=by omega
     rw[if_neg h32,e1,List.append_assoc];rfl
   rw[e];exact this
theorem Ny(s:ByteArray)(hs:s.size≤1000000):Ev (fun k=>kA k (s,(32:Int))) (mc s.size s):=by
 refine au.run (fun k=>w9 k _ _) ?_
 simp only[zb]
 refine au.bind (bH _ _ _) ?_
 rw[show decide ((1:Int)≤32∧(32:Int)≤1000)=true from rfl]
 simp only[Bool.not_true,cond_false]
 exact(R7 s.size s [] (Nat.le_refl _) (by simpa using hs)).ev
theorem NX(s:ByteArray)(hs:s.size≤1000000):Ev (fun k=>ku k (s,(32:Int))) (mc s.size s):=by
 refine au.run (fun k=>vZ k _ _) ?_
 simp only[zk,show ¬(32:Int)<1 by omega,show ¬(1000:Int)<32 by omega,decide_false,cond_false]
 exact(S4 s.size s [] (Nat.le_refl _) (by simpa using hs)).ev
def FW(l:List bt):Nat→ByteArray
 |0=>⟨#[]⟩
 |i+1=>match l[i]? with
  |some w=>FW l i++cZ w.1 2
  |none=>FW l i
theorem pW(l:List bt):∀i,(FW l i).size≤2*i
 |0=>Nat.le_refl _
 |i+1=>by
  have:=pW l i
  simp only[FW]
  split
  ·rename_i w _
   have:=aB w.1 2
   rw[aM];omega
  ·omega
def CK(l:List bt):Nat→List bt
 |0=>[]
 |i+1=>match l[i]? with
  |some w=>CK l i++[(((6+i:Nat):Int),w.2)]
  |none=>CK l i
theorem yA(l:List bt):∀i,i≤l.length→(CK l i).length=i
 |0,_=>rfl
 |i+1,h=>by
  have:=yA l i (by omega)
  have hx:l[i]? =some l[i]:=List.getElem?_eq_getElem (by omega)
  simp only[CK,hx,List.length_append,this];rfl
def EM(L:List ByteArray):Nat→List bt
 |0=>[]
 |i+1=>match L[i]? with
  |some s=>EM L i++[(((2+i:Nat):Int),xE s 32)]
  |none=>EM L i
theorem uD(L:List ByteArray):∀i,(EM L i).length≤i
 |0=>Nat.le_refl _
 |i+1=>by
  have:=uD L i
  simp only[EM]
  split
  ·rw[List.length_append];show _+1≤_;omega
  ·omega
def ed(l:List bt):List ByteArray:=mc (FW l l.length).size (FW l l.length)
theorem IQ(l:List bt)(hl:l.length≤200):(ed l).length≤400∧∀x∈ed l,x.size≤32:=by
 obtain⟨h1,h2⟩:=Ra (FW l l.length).size (FW l l.length)
 have:=pW l l.length
 exact⟨by unfold ed;omega,h2⟩
open Classical in
noncomputable def PA(l:List bt):List bt:=if Mm l then EM (ed l) (ed l).length++CK l l.length else []
abbrev Fx(l:List bt):Prop:=∀(i:Nat) w,l[i]? =some w→w.2.size=32
theorem wK{i j:Nat}(h:i+j<4611686018427387904):aa .i64 ((j:Int)+(i:Int))=((j+i:Nat):Int):=by rw[aR (by omega) (by omega)];omega
theorem PU(l:List bt)(hl:l.length≤200)(hz:Fx l):Ev (fun k=>jq k l) (PA l):=by
 refine au.run (fun k=>vM k _) ?_
 refine Ev.eq ?_
 simp only[qq]
 obtain⟨c1,c2⟩:=IQ l hl
 refine aj.pX (GD l (by omega)) fun b hb=>aj.bif (fun h=>aj.const _ (GR.ret ?_)) (fun h=> ?_)
 ·rw[PA,if_neg fun hP=>by rw[hb.2 hP]at h;cases h]
 have hP:=hb.1 (by simpa using h)
 rw[PA,if_pos hP]
 refine aj.list (L:=fun k _=>eW k) l (fun(st:ByteArray) i=>(l,([]:List bt),st,l,(l.length:Int),(i:Int))) (fun st i=>st=FW l i) (fun st i w hx hi inv=> ?_) (fun st inv=> ?_) _ rfl
 ·subst inv
  have hs:=pW l i
  have hw:=hz i w hx
  have hp:=aB w.1 2
  have e0:((w.2.size:Int) != 32)=false:=by rw[hw];rfl
  simp only[eW,Int.ofNat_lt,hi,decide_true,cond_true,Int.natCast_nonneg,if_true,Int.toNat_natCast,hx,Option.bind_some,iM (show i<_ by omega),e0,cond_false]
  refine aj.bind (aP w.1 2 (by omega) (by omega)) (aj.nA (by omega) (aj.const _ (GL.self _ rfl ?_)))
  simp only[FW,hx]
 ·subst inv
  have hs:=pW l l.length
  simp only[eW,Int.lt_irrefl,decide_false,cond_false]
  refine aj.bind (Ny _ (by omega)) ?_
  show aj (fun k (p:Unit×_)=>iter k (cJ k) (l,([]:List bt),ed l,((ed l).length:Int),(0:Int))) _
  refine aj.out (F:=fun k (_:Unit)=>iter k (cJ k) (l,([]:List bt),ed l,((ed l).length:Int),(0:Int))) ?_
  refine aj.list (L:=fun k _=>cJ k) (ed l) (fun(st:List bt) i=>(l,st,ed l,((ed l).length:Int),(i:Int))) (fun st i=>st=EM (ed l) i) (fun st i s hx hi inv=> ?_) (fun st inv=> ?_) _ rfl
  ·subst inv
   have ht:=uD (ed l) i
   have hs:=c2 s (List.mem_of_getElem? hx)
   simp only[cJ,Int.ofNat_lt,hi,decide_true,cond_true,Int.natCast_nonneg,if_true,Int.toNat_natCast,hx,Option.bind_some,iM (show i<_ by omega),show aa .i64 ((2:Int)+(i:Int))=((2+i:Nat):Int)from wK (i:=i) (j:=2) (by omega)]
   refine aj.bind (ir s 32 (by omega) (by omega)) (aj.nA (by show(_+1)*24≤af;unfold af;omega) (aj.const _ (GL.self _ rfl ?_)))
   simp only[EM,hx]
  ·subst inv
   have ht:=uD (ed l) (ed l).length
   simp only[cJ,Int.lt_irrefl,decide_false,cond_false]
   refine aj.out (F:=fun k (_:Unit)=>iter k (dy k) (EM (ed l) (ed l).length,l,(l.length:Int),(0:Int))) ?_
   refine aj.list (L:=fun k _=>dy k) l (fun(st:List bt) i=>(st,l,(l.length:Int),(i:Int))) (fun st i=>st=EM (ed l) (ed l).length++CK l i) (fun st i w hx hi inv=> ?_) (fun st inv=> ?_) _ (by rw[CK,List.append_nil])
   ·subst inv
    have hp:=yA l i (by omega)
    simp only[dy,Int.ofNat_lt,hi,decide_true,cond_true,Int.natCast_nonneg,if_true,Int.toNat_natCast,hx,Option.bind_some,iM (show i<_ by omega),show aa .i64 ((6:Int)+(i:Int))=((6+i:Nat):Int)from wK (i:=i) (j:=6) (by omega)]
    refine aj.nA (by rw[List.length_append];show(_+1)*24≤af;unfold af;omega) (aj.const _ (GL.self _ rfl ?_))
    simp only[CK,hx,List.append_assoc]
   ·subst inv
    simp only[dy,Int.lt_irrefl,decide_false,cond_false]
    exact aj.const _ (GE.ret (GR.ret rfl))
def Td(l:List bt):List Jf:=l.map fun w=>(false,w)
theorem Qq{α β:Type}(g:α→β){l:List α}{i:Nat}{c:α}(h:l[i]? =some c):(l.take (i+1)).map g=(l.take i).map g++[g c]:=by
 rw[List.take_add_one,h,List.map_append];rfl
def sX(c:ByteArray):List Jf:=[(true,(0:Int),⟨#[]⟩),(false,(1:Int),c),(true,(0:Int),⟨#[]⟩)]
open Classical in
noncomputable def O7(seq:Int)(l:List bt):List Jf:=if PA l=[]∨de seq l=⟨#[]⟩then []else(Td (PA l)++sX (de seq l))++(Td l++sX mK)
theorem Qs(l:List bt)(hl:l.length≤200):(PA l).length≤600:=by
 obtain⟨c1,c2⟩:=IQ l hl
 have h1:=uD (ed l) (ed l).length
 have h2:=yA l l.length (Nat.le_refl _)
 unfold PA
 split
 ·rw[List.length_append];omega
 ·exact Nat.zero_le _
theorem jA(l:List bt):(Td l).length=l.length:=by simp[Td]
theorem Qb(seq:Int)(l:List bt)(hl:l.length≤200)(hz:Fx l):Ev (fun k=>o5 k (seq,l)) (O7 seq l):=by
 refine au.run (fun k=>EY k _ _) ?_
 simp only[BQ]
 refine au.bind (ze seq l hl hz) (au.bind (PU l hl hz) ?_)
 have hj:=Qs l hl
 cases hc:lB (de seq l) ⟨#[]⟩with
 |true=>
  rw[O7,if_pos (.inr ((cS _ _).1 hc))]
  exact au.const _
 |false=>
  simp only[cond_false]
  have hcn:de seq l≠⟨#[]⟩:=fun e=>by rw[(cS _ _).2 e]at hc;cases hc
  by_cases h0:PA l=[]
  ·rw[O7,if_pos (.inl h0),h0]
   exact au.const _
  ·have:(((PA l).length:Int)==0)=false:=by
    rw[beq_eq_false_iff_ne]
    have:(PA l).length≠0:=fun e=>h0 (List.eq_nil_of_length_eq_zero e)
    omega
   rw[this,O7,if_neg fun h=>h.elim h0 hcn]
   simp only[cond_false]
   generalize de seq l=c
   generalize PA l=J at hj
   refine Ev.eq ?_
   refine aj.list (L:=fun k _=>jI k) J (fun(st:List Jf) i=>(l,st,c,J,(J.length:Int),(i:Int))) (fun st i=>st=Td (J.take i)) (fun st i w hx hi inv=> ?_) (fun st inv=> ?_) _ rfl
   ·subst inv
    simp only[jI,Int.ofNat_lt,hi,decide_true,cond_true,Int.natCast_nonneg,if_true,Int.toNat_natCast,hx,Option.bind_some,iM (show i<_ by omega)]
    refine aj.nA (by rw[jA,List.length_take];show(_+1)*32≤af;unfold af;omega) (aj.const _ (GL.self _ rfl ?_))
    exact(Qq _ hx).symm
   ·subst inv
    rw[List.take_length]
    simp only[jI,Int.lt_irrefl,decide_false,cond_false]
    refine aj.nA (by rw[jA];show(_+3)*32≤af;unfold af;omega) ?_
    refine aj.out (F:=fun k (_:Unit)=>iter k (fY k) (Td J++sX c,l,(l.length:Int),(0:Int))) ?_
    refine aj.list (L:=fun k _=>fY k) l (fun(st:List Jf) i=>(st,l,(l.length:Int),(i:Int))) (fun st i=>st=(Td J++sX c)++Td (l.take i)) (fun st i w hx hi inv=> ?_) (fun st inv=> ?_) _ (by show _=_++[];rw[List.append_nil])
    ·subst inv
     simp only[fY,Int.ofNat_lt,hi,decide_true,cond_true,Int.natCast_nonneg,if_true,Int.toNat_natCast,hx,Option.bind_some,iM (show i<_ by omega)]
     refine aj.nA (by rw[List.length_append,List.length_append,jA,jA,List.length_take];show(_+3+_+1)*32≤af;unfold af;omega) (aj.const _ (GL.self _ rfl ?_))
     rw[List.append_assoc]
     exact congrArg (_++ ·) (Qq _ hx).symm
    ·subst inv
     rw[List.take_length]
     have hcl:Ev (fun k=>o8 k ()) (sX mK):=by
      refine au.run (fun k=>EN k) ?_
      unfold BM
      exact au.bind Ot (au.const _)
     simp only[fY,Int.lt_irrefl,decide_false,cond_false]
     refine aj.bind hcl (aj.nA (by rw[List.length_append,List.length_append,jA,jA];show(_+3+_+3)*32≤af;unfold af;omega) (aj.const _ (GE.ret (GR.ret ?_))))
     rw[List.append_assoc]
theorem Kz(l:List bt)(hl:l.length≤1000000):Ev (fun k=>iH k l) (Td l):=by
 refine au.run (fun k=>AA k _) ?_
 refine Ev.eq ?_
 simp only[xm]
 refine aj.list (L:=fun k _=>gO k) l (fun(st:List Jf) i=>(st,l,(l.length:Int),(i:Int))) (fun st i=>st=Td (l.take i)) (fun st i w hx hi inv=> ?_) (fun st inv=> ?_) _ rfl
 ·subst inv
  simp only[gO,Int.ofNat_lt,hi,decide_true,cond_true,Int.natCast_nonneg,if_true,Int.toNat_natCast,hx,Option.bind_some,iM (show i<_ by omega)]
  refine aj.nA (by rw[jA,List.length_take];show(_+1)*32≤af;unfold af;omega) (aj.const _ (GL.self _ rfl ?_))
  exact(Qq _ hx).symm
 ·subst inv
  rw[List.take_length]
  simp only[gO,Int.lt_irrefl,decide_false,cond_false]
  exact aj.const _ (GE.ret (GR.ret rfl))
theorem QJ(l:List bt)(hl:l.length≤200):Ev (fun k=>kn k l) (Td l++sX mK):=by
 refine au.run (fun k=>xw k _) ?_
 simp only[rG]
 exact au.bind (Kz l (by omega)) (au.bind OY (au.nA (by rw[jA];show(_+3)*32≤af;unfold af;omega) (au.const _)))
theorem Qc(seq:Int)(l:List bt)(hl:l.length≤200)(hz:Fx l):Ev (fun k=>oU k (seq,l)) (O7 seq l):=by
 refine au.run (fun k=>E7 k _ _) ?_
 refine Ev.eq ?_
 simp only[Bm]
 obtain⟨c1,c2⟩:=IQ l hl
 refine aj.pX (Hi l (by omega)) fun b hb=>aj.bif (fun h=>aj.bind (rp seq l hl hz) (aj.const _ (GR.ret ?_))) (fun h=> ?_)
 ·rw[O7,if_pos (.inl (by rw[PA,if_neg fun hP=>by rw[hb.2 hP]at h;cases h]))]
 have hP:=hb.1 (by simpa using h)
 have hJ:PA l=EM (ed l) (ed l).length++CK l l.length:=by rw[PA,if_pos hP]
 refine aj.list (L:=fun k _=>kg k seq l) l (fun(st:ByteArray) i=>(st,CK l i,l,(l.length:Int),(i:Int))) (fun st i=>st=FW l i) (fun st i w hx hi inv=> ?_) (fun st inv=> ?_) _ rfl
 ·subst inv
  have hs:=pW l i
  have hw:=hz i w hx
  have hp:=aB w.1 2
  have hq:=yA l i (by omega)
  have e0:((w.2.size:Int) != 32)=false:=by rw[hw];rfl
  simp only[kg,Int.ofNat_lt,hi,decide_true,cond_true,Int.natCast_nonneg,if_true,Int.toNat_natCast,hx,Option.bind_some,iM (show i<_ by omega),e0,cond_false,show aa .i64 ((6:Int)+(i:Int))=((6+i:Nat):Int)from wK (i:=i) (j:=6) (by omega)]
  refine aj.bind (aQ w.1 2 (by omega) (by omega)) (aj.nA (by omega) (aj.nA (by rw[hq];show(_+1)*24≤af;unfold af;omega) (aj.const _ (GL.self (FW l i++cZ w.1 2) ?_ ?_))))
  ·simp only[CK,hx]
  ·simp only[FW,hx]
 ·subst inv
  have hs:=pW l l.length
  have hq:=yA l l.length (Nat.le_refl _)
  simp only[kg,Int.lt_irrefl,decide_false,cond_false]
  refine aj.bind (NX _ (by omega)) ?_
  refine aj.out (F:=fun k (_:Unit)=>iter k (fV k seq l) (CK l l.length,([]:List bt),ed l,((ed l).length:Int),(0:Int))) ?_
  refine aj.list (L:=fun k _=>fV k seq l) (ed l) (fun(st:List bt) i=>(CK l l.length,st,ed l,((ed l).length:Int),(i:Int))) (fun st i=>st=EM (ed l) i) (fun st i s hx hi inv=> ?_) (fun st inv=> ?_) _ rfl
  ·subst inv
   have ht:=uD (ed l) i
   have hs:=c2 s (List.mem_of_getElem? hx)
   simp only[fV,Int.ofNat_lt,hi,decide_true,cond_true,Int.natCast_nonneg,if_true,Int.toNat_natCast,hx,Option.bind_some,iM (show i<_ by omega),show aa .i64 ((2:Int)+(i:Int))=((2+i:Nat):Int)from wK (i:=i) (j:=2) (by omega)]
   refine aj.bind (ky s 32 (by omega) (by omega)) (aj.nA (by show(_+1)*24≤af;unfold af;omega) (aj.const _ (GL.self _ rfl ?_)))
   simp only[EM,hx]
  ·subst inv
   have ht:=uD (ed l) (ed l).length
   simp only[fV,Int.lt_irrefl,decide_false,cond_false]
   refine aj.nA (by show(_+_)*24≤af;unfold af;omega) (aj.bind (rp seq l hl hz) ?_)
   rw[←hJ]
   have hj0:(PA l).isEmpty=false:=by
    rw[List.isEmpty_eq_false_iff,hJ]
    intro e
    have h:=congrArg List.length e
    rw[List.length_append,hq,List.length_nil]at h
    have h1:=hP.2.1
    omega
   have hjn:PA l≠[]:=by simpa using hj0
   have hj:=Qs l hl
   refine aj.nA hj0 ?_
   cases hc:lB (de seq l) ⟨#[]⟩with
   |true=>
    rw[O7,if_pos (.inr ((cS _ _).1 hc))]
    simp only[cond_true]
    exact aj.const _ (GE.ret (GR.ret rfl))
   |false=>
    have hcn:de seq l≠⟨#[]⟩:=fun e=>by rw[(cS _ _).2 e]at hc;cases hc
    rw[O7,if_neg fun h=>h.elim hjn hcn]
    simp only[cond_false]
    refine aj.bind (Kz _ (by omega)) (aj.nA (by rw[jA];show(_+3)*32≤af;unfold af;omega) (aj.bind (QJ l hl) (aj.nA ?_ (aj.const _ (GE.ret (GR.ret rfl))))))
    rw[List.length_append,List.length_append,jA,jA]
    show((_+3)+(_+3))*32≤af;unfold af;omega
end Go.Proofs.YtmmgfgfkkpeedaaGreat

/- The tables, the residual functions and lemmas of this seat: parts of the proof of the law; conditions: those that each names. -/
import Derived.Test.YtkdcfeopelbojaaGreatDoorVll
import Derived.Test.YtkdcfeopelbojaaGreatDoorUge
import Derived.Test.YtkdcfeopelbojaaGreatDoorShw
set_option linter.unusedVariables false
set_option linter.unusedSimpArgs false
set_option maxRecDepth 100000
namespace Go.Proofs.YtkdcfeopelbojaaGreatDoor
open Go.Eng
abbrev xW:ByteArray:=⟨#[32]⟩
noncomputable def nr(n:az):ByteArray:=if n.1=2 then⟨#[100,105,114]⟩else⟨#[102,105,108,101]⟩
noncomputable def KN(n:az):List ByteArray:=[nr n,qF n.2.1,bd n.2.2.1,bd n.2.2.2.1,bd n.2.2.2.2.1,bd n.2.2.2.2.2.1,bd n.2.2.2.2.2.2.1,BJ (SK n),BJ (QC n)]
noncomputable def kE(n:az):ByteArray:=ti (KN n) xW
theorem K8(n:az):(nr n).size≤4:=by
 unfold nr;split
 ·show 3≤4;omega
 ·show 4≤4;omega
theorem ER{n:az}(h:mB n):∀x∈KN n,x.size≤1000:=by
 obtain⟨_,hh,a1,a2,_⟩:=h
 obtain⟨h1,h2,h3,h4,h5,h6,_⟩:=hh
 have k1:=K8 n
 have k2:=K3 n.2.1
 have i1:=bV n.2.2.1 (by omega) (by omega)
 have i2:=bV n.2.2.2.1 (by omega) (by omega)
 have i3:=bV n.2.2.2.2.1 (by omega) (by omega)
 have i4:=bV n.2.2.2.2.2.1 (by omega) (by omega)
 have i5:=bV n.2.2.2.2.2.2.1 (by omega) (by omega)
 have j1:=FH a1
 have j2:=FH a2
 intro x hx
 simp only[KN,List.mem_cons,List.not_mem_nil,or_false]at hx
 rcases hx with rfl|rfl|rfl|rfl|rfl|rfl|rfl|rfl|rfl<;>omega
theorem yu{n:az}(h:mB n):(kE n).size≤18000:=by
 have:=sf (sep:=xW) (by show 1≤1000;omega) (ER h)
 exact this
theorem Im{n:az}(h:mB n):Ev (fun k=>ow k n) (kE n):=by
 have hL:=ER h
 obtain⟨_,hh,a1,a2,_⟩:=h
 obtain⟨h1,h2,h3,h4,h5,h6,_⟩:=hh
 refine ax.run (fun k=>BC k n) ?_
 simp only[A7]
 refine Ev.eq ?_
 refine ak.jd ((),[nr n],n) True ?_ (fun _=> ?_)
 ·unfold nr
  by_cases c:n.1=2
  ·simp only[c,beq_self_eq_true,cond_true,if_true];exact ak.const _ (GT.inl trivial)
  ·have:(n.1==2)=false:=beq_eq_false_iff_ne.2 c
   simp only[this,cond_false,if_neg c];exact ak.const _ (GT.inl trivial)
 ·refine ak.bind (I7 h1) (ak.bind (bz n.2.2.1 (by omega) (by omega)) (ak.bind (bz n.2.2.2.1 (by omega) (by omega)) (ak.bind (bz n.2.2.2.2.1 (by omega) (by omega)) (ak.bind (bz n.2.2.2.2.2.1 (by omega) (by omega)) (ak.bind (bz n.2.2.2.2.2.2.1 (by omega) (by omega)) (ak.bind (CI a1) (ak.bind (CI a2) ?_)))))))
  refine ak.pE (by simp only[List.length_cons,List.length_nil,au];omega) ?_
  exact ak.bind (sJ (KN n) xW (by show 9≤1000;omega) (by show 1≤1000;omega) hL) (ak.const _ (GR.ret rfl))
theorem I5{f:dV}{n:az}{i:Int}(h0:0≤i)(hn:(fI f)[i.toNat]? =some n)(h:mB n):Ev (fun k=>oJ k (some f,i)) (kE n):=by
 have hL:=ER h
 obtain⟨_,hh,a1,a2,_⟩:=h
 obtain⟨h1,h2,h3,h4,h5,h6,_⟩:=hh
 refine ax.run (fun k=>BZ k _ _) ?_
 have hn':f.2.2.1[i.toNat]? =some n:=hn
 simp only[AG,Option.bind_some,h0,if_true,hn']
 refine Ev.eq ?_
 refine ak.jd ((),nr n,n) True ?_ (fun _=> ?_)
 ·unfold nr
  by_cases c:n.1=2
  ·simp only[c,beq_self_eq_true,cond_true,if_true];exact ak.const _ (GT.inl trivial)
  ·have:(n.1==2)=false:=beq_eq_false_iff_ne.2 c
   simp only[this,cond_false,if_neg c];exact ak.const _ (GT.inl trivial)
 ·refine ak.bind (IS h1) (ak.bind (bx n.2.2.1 (by omega) (by omega)) (ak.bind (bx n.2.2.2.1 (by omega) (by omega)) (ak.bind (bx n.2.2.2.2.1 (by omega) (by omega)) (ak.bind (bx n.2.2.2.2.2.1 (by omega) (by omega)) (ak.bind (bx n.2.2.2.2.2.2.1 (by omega) (by omega)) (ak.bind (CD a1) (ak.bind (CD a2) ?_)))))))
  exact ak.bind (rX (KN n) xW (by show 9≤1000;omega) (by show 1≤1000;omega) hL) (ak.const _ (GR.ret rfl))
theorem Q0{f:dV}(hP:qv f){c:cq}:∀(d:Nat) {k:Int},Kp f c d k→Ay f k
 |0,k,h=>by
  have h:k=0:=h
  subst h
  obtain⟨n,h1,h2⟩:=hP.root
  exact⟨n,h1,by omega⟩
 |d+1,k,⟨a,_,_,_,n,_,_,_,t,e,_,_,_,h⟩=>h
theorem NZ{f:dV}(hP:qv f){c:cq}{d:Nat}{k:Int}(h:reach f c d k):Ay f k:=by
 obtain⟨j,_,h⟩:=h
 exact Q0 hP j h
theorem Fk{u:List Bool}{P:Int→Prop}(h:eu u P):∀i,i≤20→∀x∈jy u i,0≤x∧x<20∧P x
 |0,_,x,hx=>by simp[jy]at hx
 |i+1,hi,x,hx=>by
  obtain⟨b,hb,h2⟩:=h.2 i (by omega)
  simp only[jy,hb]at hx
  cases b with
  |false=>exact Fk h i (by omega) x hx
  |true=>
   rcases List.mem_append.1 hx with hx|hx
   ·exact Fk h i (by omega) x hx
   ·rw[List.mem_singleton]at hx
    subst hx
    exact⟨by omega,by omega,h2.1 rfl⟩
noncomputable def Ke(f:dV)(x:Int):az:=((fI f)[x.toNat]?).getD MH
noncomputable def C8(f:dV)(c:cq)(x:Int):ByteArray:=
 let s:=(bd x++xW)++kE (Ke f x)
 bif Ds f c x 4 then(s++xW)++kn f (Ke f x)else s
noncomputable def px(f:dV)(c:cq)(l:List Int)(i:Nat):List ByteArray:=(l.take i).map (C8 f c)
theorem rp{f:dV}{c:cq}{l:List Int}{i:Nat}{x:Int}(h:l[i]? =some x):px f c l (i+1)=px f c l i++[C8 f c x]:=FU _ h
theorem uv(f:dV)(c:cq){l:List Int}(hl:l.length≤20)(i:Nat):(px f c l i).length≤20:=by
 rw[px,List.length_map,List.length_take];omega
theorem BN{f:dV}(hP:qv f){c:cq}{x:Int}(h0:0≤x)(h1:x<20)(hu:Ay f x):(C8 f c x).size≤60000∧∃n,(fI f)[x.toNat]? =some n∧Ke f x=n∧mB n∧n.1≠0:=by
 obtain⟨n,hn,hk⟩:=hu
 have e:Ke f x=n:=by rw[Ke,hn];rfl
 have hup:mB n:=(jV hk).1 (hP.ino _ _ hn)
 refine⟨?_,n,hn,e,hup,hk⟩
 have a1:=bV x (by omega) (by omega)
 have a2:=yu hup
 have a3:=yJ hP hn
 have a4:xW.size=1:=rfl
 unfold C8
 rw[e]
 cases Ds f c x 4<;>simp only[cond_true,cond_false,aF]<;>omega
section
variable {f:dV} {c:cq} {ut:ByteArray}
theorem FX(hP:qv f)(hs:cJ f)(hc:c.2.2.length<fu){l:List Int}(hl:l.length≤20)(hm:∀x∈l,0≤x∧x<20∧Ay f x)(hu:Ev (fun k=>ik k (f,c.1)) ut)(hz:ut.size≤1000):
  Ev (fun k=>iter k (gV k) ((),(),([]:List ByteArray),l,(l.length:Int),(0:Int),c,f)) (px f c l l.length++[(⟨#[117,115,97,103,101,32]⟩:ByteArray)++ut]):=by
 refine Ev.eq ?_
 refine ak.list (L:=fun k _=>gV k) l (fun(st:List ByteArray) i=>((),(),st,l,(l.length:Int),((i:Nat):Int),c,f)) (fun st i=>st=px f c l i) (fun st i x hx hi inv=> ?_) (fun st inv=> ?_) [] (by simp[px])
 ·subst inv
  have hvl:=uv f c hl i
  obtain⟨h0,h1,hx2⟩:=hm x (List.mem_of_getElem? hx)
  obtain⟨hts,n,hn,en,hup,hk⟩:=BN (c:=c) hP h0 h1 hx2
  have hn':f.2.2.1[x.toNat]? =some n:=hn
  have a1:=bV x (by omega) (by omega)
  have a2:=yu hup
  have a3:=yJ hP hn
  have a4:xW.size=1:=rfl
  have i1:(bd x++xW).size=(bd x).size+1:=by rw[aF];rfl
  have i2:((bd x++xW)++kE n).size=(bd x).size+1+(kE n).size:=by rw[aF,i1]
  have i3:(((bd x++xW)++kE n)++xW).size=(bd x).size+1+(kE n).size+1:=by rw[aF,i2];rfl
  have c3:∀x:ByteArray,((px f c l i).length+([x]:List ByteArray).length)*16≤au:=fun x=>by
   simp only[List.length_cons,List.length_nil,au];omega
  simp only[gV,Int.ofNat_lt,hi,decide_true,cond_true,Int.natCast_nonneg,if_true,Int.toNat_natCast,hx,Option.bind_some,h0,hn',wS i,c3]
  refine ak.bind (bz x (by omega) (by omega)) (ak.pE (by show(bd x).size+1≤_;omega) (ak.bind (Im hup) (ak.pE (by show((bd x)++xW).size+_≤_;omega) (ak.bind (uX hP hs hc h0 h1 4) ?_))))
  have fin:C8 f c x=bif Ds f c x 4 then(((bd x++xW)++kE n)++xW)++kn f n else(bd x++xW)++kE n:=by unfold C8;rw[en]
  refine ak.bif (fun hb=> ?_) (fun hb=> ?_)
  ·rw[hb,cond_true]at fin
   refine ak.bif (fun hk=> ?_) (fun hk=> ?_)
   ·have hk:n.1=2:=by simpa using hk
    rw[kn,if_pos hk]at fin a3
    refine ak.pE (by show(((bd x)++xW)++kE n).size+1≤_;omega) (ak.bind (mO hP h0 hn) (ak.bind (GS _ ?_) (ak.bind (sJ _ comma ?_ (by show 1≤1000;omega) Ek) (ak.pE (by show((((bd x)++xW)++kE n)++xW).size+_≤_;omega) (ak.const _ (GL.self _ rfl ?_))))))
    ·have:=rm (oy hP hn) (hP.ino _ _ hn);omega
    ·have:=Bq hP hn;omega
    ·rw[rp hx,fin];rfl
   ·have hk:n.1≠2:=by simpa using hk
    rw[kn,if_neg hk]at fin a3
    have hcs:=IK hP hn
    refine ak.pE (by show(((bd x)++xW)++kE n).size+1≤_;omega) (ak.bind (zT (oy hP hn) (hP.ino _ _ hn)) (ak.bind (Gm _ (by omega)) (ak.pE (by show((((bd x)++xW)++kE n)++xW).size+_≤_;omega) (ak.const _ (GL.self _ rfl ?_)))))
    rw[rp hx,fin];rfl
  ·rw[hb,cond_false]at fin
   refine ak.const _ (GL.self _ rfl ?_)
   rw[rp hx,fin];rfl
 ·subst inv
  have hvl:=uv f c hl l.length
  have s6:(⟨#[117,115,97,103,101,32]⟩:ByteArray).size=6:=rfl
  simp only[gV,Int.lt_irrefl,decide_false,cond_false]
  refine ak.bind hu (ak.pE (by omega) (ak.pE (by simp only[List.length_cons,List.length_nil,au];omega) (ak.const _ (GE.ret (GR.ret rfl)))))
theorem E9(hP:qv f)(hs:cJ f)(hc:c.2.2.length<fu){l:List Int}(hl:l.length≤20)(hm:∀x∈l,0≤x∧x<20∧Ay f x)(hu:Ev (fun k=>iM k (f,c.1)) ut)(hz:ut.size≤1000):
  Ev (fun k=>iter k (gU k) ((),(),([]:List ByteArray),l,(l.length:Int),(0:Int),c,f)) (px f c l l.length++[(⟨#[117,115,97,103,101,32]⟩:ByteArray)++ut]):=by
 refine Ev.eq ?_
 refine ak.list (L:=fun k _=>gU k) l (fun(st:List ByteArray) i=>((),(),st,l,(l.length:Int),((i:Nat):Int),c,f)) (fun st i=>st=px f c l i) (fun st i x hx hi inv=> ?_) (fun st inv=> ?_) [] (by simp[px])
 ·subst inv
  have hvl:=uv f c hl i
  obtain⟨h0,h1,hx2⟩:=hm x (List.mem_of_getElem? hx)
  obtain⟨hts,n,hn,en,hup,hk⟩:=BN (c:=c) hP h0 h1 hx2
  obtain⟨j,rfl⟩:=Int.eq_ofNat_of_zero_le h0
  have hnj:(fI f)[j]? =some n:=by simpa using hn
  have a1:=bV (j:Int) (by omega) (by omega)
  have a2:=yu hup
  have a3:=yJ hP hn
  have a4:xW.size=1:=rfl
  have i1:(bd (j:Int)++xW).size=(bd (j:Int)).size+1:=by rw[aF];rfl
  have i2:((bd (j:Int)++xW)++kE n).size=(bd (j:Int)).size+1+(kE n).size:=by rw[aF,i1]
  have i3:(xW++kn f n).size=1+(kn f n).size:=by rw[aF];rfl
  have c3:∀x:ByteArray,((px f c l i).length+([x]:List ByteArray).length)*16≤au:=fun x=>by
   simp only[List.length_cons,List.length_nil,au];omega
  simp only[gU,Int.ofNat_lt,hi,decide_true,cond_true,Int.natCast_nonneg,if_true,Int.toNat_natCast,hx,Option.bind_some,wS i,c3]
  refine ak.bind (bx (j:Int) (by omega) (by omega)) (ak.pE (by show(bd (j:Int)).size+1≤_;omega) (ak.bind (I5 h0 hn hup) (ak.pE (by show((bd (j:Int))++xW).size+_≤_;omega) (ak.bind (Cv hP hs hc h0 h1 hn hk 4) ?_))))
  have fin:C8 f c (j:Int)=bif Ds f c (j:Int) 4 then(((bd (j:Int)++xW)++kE n)++xW)++kn f n else(bd (j:Int)++xW)++kE n:=by unfold C8;rw[en]
  refine ak.bif (fun hb=> ?_) (fun hb=> ?_)
  ·rw[hb,cond_true,ByteArray.append_assoc (c:=kn f n)]at fin
   refine ak.bind (Gc hP (by omega) hnj) (ak.pE (by show 1+_≤_;omega) (ak.pE (by show(((bd (j:Int))++xW)++kE n).size+(xW++kn f n).size≤_;omega) (ak.const _ (GL.self _ rfl ?_))))
   rw[rp hx,fin];rfl
  ·rw[hb,cond_false]at fin
   refine ak.const _ (GL.self _ rfl ?_)
   rw[rp hx,fin];rfl
 ·subst inv
  have hvl:=uv f c hl l.length
  have s6:(⟨#[117,115,97,103,101,32]⟩:ByteArray).size=6:=rfl
  simp only[gU,Int.lt_irrefl,decide_false,cond_false]
  refine ak.bind hu (ak.pE (by omega) (ak.pE (by simp only[List.length_cons,List.length_nil,au];omega) (ak.const _ (GE.ret (GR.ret rfl)))))
end
end Go.Proofs.YtkdcfeopelbojaaGreatDoor

/- The tables, the residual functions and lemmas of this seat: parts of the proof of the law; conditions: those that each names. -/
import Derived.Test.YtkdcfeopelbojaaGreatDoorVll
import Derived.Test.YtkdcfeopelbojaaGreatDoorUge
import Derived.Test.YtkdcfeopelbojaaGreatDoorShw
set_option linter.unusedVariables false
set_option linter.unusedSimpArgs false
set_option maxRecDepth 100000
namespace Go.Proofs.YtkdcfeopelbojaaGreatDoor
open Go.Eng
abbrev xU:ByteArray:=⟨#[32]⟩
noncomputable def nF(n:az):ByteArray:=if n.1=2 then⟨#[100,105,114]⟩else⟨#[102,105,108,101]⟩
noncomputable def KQ(n:az):List ByteArray:=[nF n,rP n.2.1,bd n.2.2.1,bd n.2.2.2.1,bd n.2.2.2.2.1,bd n.2.2.2.2.2.1,bd n.2.2.2.2.2.2.1,B7 (Tl n),B7 (Rw n)]
noncomputable def kq(n:az):ByteArray:=ug (KQ n) xU
theorem MS(n:az):(nF n).size≤4:=by
 unfold nF;split
 ·show 3≤4;omega
 ·show 4≤4;omega
theorem Fp{n:az}(h:mT n):∀x∈KQ n,x.size≤1000:=by
 obtain⟨_,hh,a1,a2,_⟩:=h
 obtain⟨h1,h2,h3,h4,h5,h6,_⟩:=hh
 have k1:=MS n
 have k2:=MT n.2.1
 have i1:=bW n.2.2.1 (by omega) (by omega)
 have i2:=bW n.2.2.2.1 (by omega) (by omega)
 have i3:=bW n.2.2.2.2.1 (by omega) (by omega)
 have i4:=bW n.2.2.2.2.2.1 (by omega) (by omega)
 have i5:=bW n.2.2.2.2.2.2.1 (by omega) (by omega)
 have j1:=E4 a1
 have j2:=E4 a2
 intro x hx
 simp only[KQ,List.mem_cons,List.not_mem_nil,or_false]at hx
 rcases hx with rfl|rfl|rfl|rfl|rfl|rfl|rfl|rfl|rfl<;>omega
theorem zp{n:az}(h:mT n):(kq n).size≤18000:=by
 have:=so (sep:=xU) (by show 1≤1000;omega) (Fp h)
 exact this
theorem Jp{n:az}(h:mT n):Ev (fun k=>oT k n) (kq n):=by
 have hL:=Fp h
 obtain⟨_,hh,a1,a2,_⟩:=h
 obtain⟨h1,h2,h3,h4,h5,h6,_⟩:=hh
 refine aw.run (fun k=>CU k n) ?_
 simp only[Am]
 refine Ev.eq ?_
 refine ak.jm ((),[nF n],n) True ?_ (fun _=> ?_)
 ·unfold nF
  by_cases c:n.1=2
  ·simp only[c,beq_self_eq_true,cond_true,if_true];exact ak.const _ (GT.inl trivial)
  ·have:(n.1==2)=false:=beq_eq_false_iff_ne.2 c
   simp only[this,cond_false,if_neg c];exact ak.const _ (GT.inl trivial)
 ·refine ak.bind (Jh h1) (ak.bind (bz n.2.2.1 (by omega) (by omega)) (ak.bind (bz n.2.2.2.1 (by omega) (by omega)) (ak.bind (bz n.2.2.2.2.1 (by omega) (by omega)) (ak.bind (bz n.2.2.2.2.2.1 (by omega) (by omega)) (ak.bind (bz n.2.2.2.2.2.2.1 (by omega) (by omega)) (ak.bind (DL a1) (ak.bind (DL a2) ?_)))))))
  refine ak.pK (by simp only[List.length_cons,List.length_nil,au];omega) ?_
  exact ak.bind (sR (KQ n) xU (by show 9≤1000;omega) (by show 1≤1000;omega) hL) (ak.const _ (GR.ret rfl))
theorem Jg{f:eh}{n:az}{i:Int}(h0:0≤i)(hn:(fI f)[i.toNat]? =some n)(h:mT n):Ev (fun k=>om k (some f,i)) (kq n):=by
 have hL:=Fp h
 obtain⟨_,hh,a1,a2,_⟩:=h
 obtain⟨h1,h2,h3,h4,h5,h6,_⟩:=hh
 refine aw.run (fun k=>CI k _ _) ?_
 have hn':f.2.2.1[i.toNat]? =some n:=hn
 simp only[Br,Option.bind_some,h0,if_true,hn']
 refine Ev.eq ?_
 refine ak.jm ((),nF n,n) True ?_ (fun _=> ?_)
 ·unfold nF
  by_cases c:n.1=2
  ·simp only[c,beq_self_eq_true,cond_true,if_true];exact ak.const _ (GT.inl trivial)
  ·have:(n.1==2)=false:=beq_eq_false_iff_ne.2 c
   simp only[this,cond_false,if_neg c];exact ak.const _ (GT.inl trivial)
 ·refine ak.bind (J5 h1) (ak.bind (bx n.2.2.1 (by omega) (by omega)) (ak.bind (bx n.2.2.2.1 (by omega) (by omega)) (ak.bind (bx n.2.2.2.2.1 (by omega) (by omega)) (ak.bind (bx n.2.2.2.2.2.1 (by omega) (by omega)) (ak.bind (bx n.2.2.2.2.2.2.1 (by omega) (by omega)) (ak.bind (Dy a1) (ak.bind (Dy a2) ?_)))))))
  exact ak.bind (sf (KQ n) xU (by show 9≤1000;omega) (by show 1≤1000;omega) hL) (ak.const _ (GR.ret rfl))
theorem RX{f:eh}(hP:rN f){c:cw}:∀(d:Nat) {k:Int},LH f c d k→Az f k
 |0,k,h=>by
  have h:k=0:=h
  subst h
  obtain⟨n,h1,h2⟩:=hP.root
  exact⟨n,h1,by omega⟩
 |d+1,k,⟨a,_,_,_,n,_,_,_,t,e,_,_,_,h⟩=>h
theorem OK{f:eh}(hP:rN f){c:cw}{d:Nat}{k:Int}(h:reach f c d k):Az f k:=by
 obtain⟨j,_,h⟩:=h
 exact RX hP j h
theorem Gb{u:List Bool}{P:Int→Prop}(h:eu u P):∀i,i≤20→∀x∈jR u i,0≤x∧x<20∧P x
 |0,_,x,hx=>by simp[jR]at hx
 |i+1,hi,x,hx=>by
  obtain⟨b,hb,h2⟩:=h.2 i (by omega)
  simp only[jR,hb]at hx
  cases b with
  |false=>exact Gb h i (by omega) x hx
  |true=>
   rcases List.mem_append.1 hx with hx|hx
   ·exact Gb h i (by omega) x hx
   ·rw[List.mem_singleton]at hx
    subst hx
    exact⟨by omega,by omega,h2.1 rfl⟩
noncomputable def LB(f:eh)(x:Int):az:=((fI f)[x.toNat]?).getD MY
noncomputable def Db(f:eh)(c:cw)(x:Int):ByteArray:=
 let s:=(bd x++xU)++kq (LB f x)
 bif Ew f c x 4 then(s++xU)++lg f (LB f x)else s
noncomputable def o8(f:eh)(c:cw)(l:List Int)(i:Nat):List ByteArray:=(l.take i).map (Db f c)
theorem qL{f:eh}{c:cw}{l:List Int}{i:Nat}{x:Int}(h:l[i]? =some x):o8 f c l (i+1)=o8 f c l i++[Db f c x]:=F1 _ h
theorem vM(f:eh)(c:cw){l:List Int}(hl:l.length≤20)(i:Nat):(o8 f c l i).length≤20:=by
 rw[o8,List.length_map,List.length_take];omega
theorem CV{f:eh}(hP:rN f){c:cw}{x:Int}(h0:0≤x)(h1:x<20)(hu:Az f x):(Db f c x).size≤60000∧∃n,(fI f)[x.toNat]? =some n∧LB f x=n∧mT n∧n.1≠0:=by
 obtain⟨n,hn,hk⟩:=hu
 have e:LB f x=n:=by rw[LB,hn];rfl
 have hup:mT n:=(kh hk).1 (hP.ino _ _ hn)
 refine⟨?_,n,hn,e,hup,hk⟩
 have a1:=bW x (by omega) (by omega)
 have a2:=zp hup
 have a3:=zh hP hn
 have a4:xU.size=1:=rfl
 unfold Db
 rw[e]
 cases Ew f c x 4<;>simp only[cond_true,cond_false,aG]<;>omega
section
variable {f:eh} {c:cw} {ut:ByteArray}
theorem Gx(hP:rN f)(hs:cY f)(hc:c.2.2.length<ia){l:List Int}(hl:l.length≤20)(hm:∀x∈l,0≤x∧x<20∧Az f x)(hu:Ev (fun k=>iW k (f,c.1)) ut)(hz:ut.size≤1000):
  Ev (fun k=>iter k (ij k) ((),(),([]:List ByteArray),l,(l.length:Int),(0:Int),c,f)) (o8 f c l l.length++[(⟨#[117,115,97,103,101,32]⟩:ByteArray)++ut]):=by
 refine Ev.eq ?_
 refine ak.list (L:=fun k _=>ij k) l (fun(st:List ByteArray) i=>((),(),st,l,(l.length:Int),((i:Nat):Int),c,f)) (fun st i=>st=o8 f c l i) (fun st i x hx hi inv=> ?_) (fun st inv=> ?_) [] (by simp[o8])
 ·subst inv
  have hvl:=vM f c hl i
  obtain⟨h0,h1,hx2⟩:=hm x (List.mem_of_getElem? hx)
  obtain⟨hts,n,hn,en,hup,hk⟩:=CV (c:=c) hP h0 h1 hx2
  have hn':f.2.2.1[x.toNat]? =some n:=hn
  have a1:=bW x (by omega) (by omega)
  have a2:=zp hup
  have a3:=zh hP hn
  have a4:xU.size=1:=rfl
  have i1:(bd x++xU).size=(bd x).size+1:=by rw[aG];rfl
  have i2:((bd x++xU)++kq n).size=(bd x).size+1+(kq n).size:=by rw[aG,i1]
  have i3:(((bd x++xU)++kq n)++xU).size=(bd x).size+1+(kq n).size+1:=by rw[aG,i2];rfl
  have c3:∀x:ByteArray,((o8 f c l i).length+([x]:List ByteArray).length)*16≤au:=fun x=>by
   simp only[List.length_cons,List.length_nil,au];omega
  simp only[ij,Int.ofNat_lt,hi,decide_true,cond_true,Int.natCast_nonneg,if_true,Int.toNat_natCast,hx,Option.bind_some,h0,hn',wS i,c3]
  refine ak.bind (bz x (by omega) (by omega)) (ak.pK (by show(bd x).size+1≤_;omega) (ak.bind (Jp hup) (ak.pK (by show((bd x)++xU).size+_≤_;omega) (ak.bind (vh hP hs hc h0 h1 4) ?_))))
  have fin:Db f c x=bif Ew f c x 4 then(((bd x++xU)++kq n)++xU)++lg f n else(bd x++xU)++kq n:=by unfold Db;rw[en]
  refine ak.bif (fun hb=> ?_) (fun hb=> ?_)
  ·rw[hb,cond_true]at fin
   refine ak.bif (fun hk=> ?_) (fun hk=> ?_)
   ·have hk:n.1=2:=by simpa using hk
    rw[lg,if_pos hk]at fin a3
    refine ak.pK (by show(((bd x)++xU)++kq n).size+1≤_;omega) (ak.bind (nw hP h0 hn) (ak.bind (HH _ ?_) (ak.bind (sR _ comma ?_ (by show 1≤1000;omega) GD) (ak.pK (by show((((bd x)++xU)++kq n)++xU).size+_≤_;omega) (ak.const _ (GL.self _ rfl ?_))))))
    ·have:=rU (oz hP hn) (hP.ino _ _ hn);omega
    ·have:=CL hP hn;omega
    ·rw[qL hx,fin];rfl
   ·have hk:n.1≠2:=by simpa using hk
    rw[lg,if_neg hk]at fin a3
    have hcs:=I2 hP hn
    refine ak.pK (by show(((bd x)++xU)++kq n).size+1≤_;omega) (ak.bind (BG (oz hP hn) (hP.ino _ _ hn)) (ak.bind (G8 _ (by omega)) (ak.pK (by show((((bd x)++xU)++kq n)++xU).size+_≤_;omega) (ak.const _ (GL.self _ rfl ?_)))))
    rw[qL hx,fin];rfl
  ·rw[hb,cond_false]at fin
   refine ak.const _ (GL.self _ rfl ?_)
   rw[qL hx,fin];rfl
 ·subst inv
  have hvl:=vM f c hl l.length
  have s6:(⟨#[117,115,97,103,101,32]⟩:ByteArray).size=6:=rfl
  simp only[ij,Int.lt_irrefl,decide_false,cond_false]
  refine ak.bind hu (ak.pK (by omega) (ak.pK (by simp only[List.length_cons,List.length_nil,au];omega) (ak.const _ (GE.ret (GR.ret rfl)))))
theorem Gj(hP:rN f)(hs:cY f)(hc:c.2.2.length<ia){l:List Int}(hl:l.length≤20)(hm:∀x∈l,0≤x∧x<20∧Az f x)(hu:Ev (fun k=>iO k (f,c.1)) ut)(hz:ut.size≤1000):
  Ev (fun k=>iter k (ib k) ((),(),([]:List ByteArray),l,(l.length:Int),(0:Int),c,f)) (o8 f c l l.length++[(⟨#[117,115,97,103,101,32]⟩:ByteArray)++ut]):=by
 refine Ev.eq ?_
 refine ak.list (L:=fun k _=>ib k) l (fun(st:List ByteArray) i=>((),(),st,l,(l.length:Int),((i:Nat):Int),c,f)) (fun st i=>st=o8 f c l i) (fun st i x hx hi inv=> ?_) (fun st inv=> ?_) [] (by simp[o8])
 ·subst inv
  have hvl:=vM f c hl i
  obtain⟨h0,h1,hx2⟩:=hm x (List.mem_of_getElem? hx)
  obtain⟨hts,n,hn,en,hup,hk⟩:=CV (c:=c) hP h0 h1 hx2
  obtain⟨j,rfl⟩:=Int.eq_ofNat_of_zero_le h0
  have hnj:(fI f)[j]? =some n:=by simpa using hn
  have a1:=bW (j:Int) (by omega) (by omega)
  have a2:=zp hup
  have a3:=zh hP hn
  have a4:xU.size=1:=rfl
  have i1:(bd (j:Int)++xU).size=(bd (j:Int)).size+1:=by rw[aG];rfl
  have i2:((bd (j:Int)++xU)++kq n).size=(bd (j:Int)).size+1+(kq n).size:=by rw[aG,i1]
  have i3:(xU++lg f n).size=1+(lg f n).size:=by rw[aG];rfl
  have c3:∀x:ByteArray,((o8 f c l i).length+([x]:List ByteArray).length)*16≤au:=fun x=>by
   simp only[List.length_cons,List.length_nil,au];omega
  simp only[ib,Int.ofNat_lt,hi,decide_true,cond_true,Int.natCast_nonneg,if_true,Int.toNat_natCast,hx,Option.bind_some,wS i,c3]
  refine ak.bind (bx (j:Int) (by omega) (by omega)) (ak.pK (by show(bd (j:Int)).size+1≤_;omega) (ak.bind (Jg h0 hn hup) (ak.pK (by show((bd (j:Int))++xU).size+_≤_;omega) (ak.bind (Dn hP hs hc h0 h1 hn hk 4) ?_))))
  have fin:Db f c (j:Int)=bif Ew f c (j:Int) 4 then(((bd (j:Int)++xU)++kq n)++xU)++lg f n else(bd (j:Int)++xU)++kq n:=by unfold Db;rw[en]
  refine ak.bif (fun hb=> ?_) (fun hb=> ?_)
  ·rw[hb,cond_true,ByteArray.append_assoc (c:=lg f n)]at fin
   refine ak.bind (Ha hP (by omega) hnj) (ak.pK (by show 1+_≤_;omega) (ak.pK (by show(((bd (j:Int))++xU)++kq n).size+(xU++lg f n).size≤_;omega) (ak.const _ (GL.self _ rfl ?_))))
   rw[qL hx,fin];rfl
  ·rw[hb,cond_false]at fin
   refine ak.const _ (GL.self _ rfl ?_)
   rw[qL hx,fin];rfl
 ·subst inv
  have hvl:=vM f c hl l.length
  have s6:(⟨#[117,115,97,103,101,32]⟩:ByteArray).size=6:=rfl
  simp only[ib,Int.lt_irrefl,decide_false,cond_false]
  refine ak.bind hu (ak.pK (by omega) (ak.pK (by simp only[List.length_cons,List.length_nil,au];omega) (ak.const _ (GE.ret (GR.ret rfl)))))
end
end Go.Proofs.YtkdcfeopelbojaaGreatDoor

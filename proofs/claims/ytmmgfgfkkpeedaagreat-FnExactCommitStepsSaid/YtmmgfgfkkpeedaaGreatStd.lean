/- The tables, the residual functions and lemmas of this seat: parts of the proof of the law; conditions: those that each names. -/
import Derived.Test.YtmmgfgfkkpeedaaGreatRes
set_option linter.unusedVariables false
set_option linter.unusedSimpArgs false
set_option maxRecDepth 100000
namespace Go.Proofs.YtmmgfgfkkpeedaaGreat
open Go.Eng
theorem PC:∀(n:Nat) (s:ByteArray),s.size+n<9223372036854775000→∃r,bS jJ ((n:Int),s) r:=by
 intro n
 induction n using Nat.strongRecOn with
 |_ n ih=>
  intro s hs
  by_cases h0:n=0
  ·subst h0
   refine⟨(⟨#[109]⟩:ByteArray)++s,bS.stop ?_⟩
   have h1:(⟨#[109]⟩:ByteArray).size+s.size≤9223372036854775807:=by
    have:(⟨#[109]⟩:ByteArray).size=1:=rfl
    omega
   simp only[jJ,Int.ofNat_zero,Int.lt_irrefl,decide_false,cond_false,if_pos h1]
   exact au.const _
  ·have hc:(ofBytes [(aa .u8 (aa .i64 ((48:Int)+((n:Int).tmod (10:Int)))))]).size=1:=rfl
   obtain⟨r,hr⟩:=ih (n / 10) (by omega) (ofBytes [(aa .u8 (aa .i64 ((48:Int)+((n:Int).tmod (10:Int)))))]++s) (by rw[ByteArray.size_append,hc];omega)
   refine⟨r,bS.step (d':=(((n / 10:Nat):Int),ofBytes [(aa .u8 (aa .i64 ((48:Int)+((n:Int).tmod (10:Int)))))]++s)) ?_ hr⟩
   have h1:(0:Int)<(n:Int):=by omega
   have h2:aa .i64 ((n:Int).tdiv 10)=((n / 10:Nat):Int):=by
    have e:(n:Int).tdiv 10=((n / 10:Nat):Int):=by rw[Int.tdiv_eq_ediv_of_nonneg (by omega)];omega
    rw[e];exact wrap_i64 (by omega) (by omega)
   have h3:(ofBytes [(aa .u8 (aa .i64 ((48:Int)+((n:Int).tmod (10:Int)))))]).size+s.size≤9223372036854775807:=by rw[hc];omega
   have h4:(10:Int)≠0:=by decide
   simp only[m7,jJ,h1,decide_true,cond_true,if_pos h4,if_pos h3,h2]
   exact au.const _
open Classical in
noncomputable def N6(m:Int):ByteArray:=if h:∃s,Ev (fun k=>dn k m) s then h.choose else ByteArray.empty
theorem rS(m:Int)(h0:0≤m)(h1:m<4611686018427387904):Ev (fun k=>dn k m) (N6 m):=by
 have hex:∃s,Ev (fun k=>dn k m) s:=by
  by_cases hm:m≤0
  ·refine⟨(⟨#[109,48]⟩:ByteArray),au.run (fun k=>sr k m) ?_⟩
   simp only[tz,hm,decide_true,cond_true]
   exact au.const _
  ·obtain⟨n,rfl⟩:∃n:Nat,m=n:=⟨m.toNat,by omega⟩
   obtain⟨r,hr⟩:=PC n ByteArray.empty (by have:ByteArray.empty.size=0:=rfl;omega)
   refine⟨r,au.run (fun k=>sr k n) ?_⟩
   simp only[tz,hm,decide_false,cond_false]
   exact bS.ev hr
 unfold N6
 rw[dif_pos hex]
 exact hex.choose_spec
theorem Pp(x:(List az))(hx:Dy ((.list false dL)) x){left:Int}(h0:0≤left)(h1:left≤1048576):Ev (fun k=>pa k (x,left)) (dX x.length left):=by
 refine au.run (fun k=>E3 k x left) ?_
 simp only[AO]
 have b0:x.length≤9223372036854775807:=hx.1
 have e0:aa .i64 (left-(x.length:Int))=left-x.length:=wrap_i64 (by omega) (by omega)
 simp only[e0]
 by_cases c0:left-(x.length:Int)<0
 ·simp only[c0,decide_true,cond_true];exact⟨0,fun k _=>by rw[dX,if_neg (by omega)]⟩
 simp only[c0,decide_false,cond_false]
 exact⟨0,fun k _=>by rw[dX,if_pos (by omega)]⟩
theorem LW(x:(List Int))(hx:Dy ((.list false (.int .i64))) x){left:Int}(h0:0≤left)(h1:left≤1048576):Ev (fun k=>nO k (x,left)) (dX x.length left):=by
 refine au.run (fun k=>H5 k x left) ?_
 simp only[Hm]
 have b0:x.length≤9223372036854775807:=hx.1
 have e0:aa .i64 (left-(x.length:Int))=left-x.length:=wrap_i64 (by omega) (by omega)
 simp only[e0]
 by_cases c0:left-(x.length:Int)<0
 ·simp only[c0,decide_true,cond_true];exact⟨0,fun k _=>by rw[dX,if_neg (by omega)]⟩
 simp only[c0,decide_false,cond_false]
 exact⟨0,fun k _=>by rw[dX,if_pos (by omega)]⟩
theorem zN(x:(List av))(hx:Dy ((.list false bJ)) x){left:Int}(h0:0≤left)(h1:left≤1048576):Ev (fun k=>gA k (x,left)) (dX x.length left):=by
 refine au.run (fun k=>zm k x left) ?_
 simp only[uG]
 have b0:x.length≤9223372036854775807:=hx.1
 have e0:aa .i64 (left-(x.length:Int))=left-x.length:=wrap_i64 (by omega) (by omega)
 simp only[e0]
 by_cases c0:left-(x.length:Int)<0
 ·simp only[c0,decide_true,cond_true];exact⟨0,fun k _=>by rw[dX,if_neg (by omega)]⟩
 simp only[c0,decide_false,cond_false]
 exact⟨0,fun k _=>by rw[dX,if_pos (by omega)]⟩
def ck(x:ax):Nat:=x.2.2.2.2.2.2.2.1.length+x.2.2.2.2.2.2.2.2.1.length+x.2.2.2.2.2.2.2.2.2.length
theorem PL(x:ax)(hx:Dy (db) x){left:Int}(h0:0≤left)(h1:left≤1048576):Ev (fun k=>iW k (x,left)) (dX (ck x) left):=by
 refine au.run (fun k=>Fp k x left) ?_
 simp only[Em,ck]
 refine au.bind (LW x.2.2.2.2.2.2.2.1 hx.2.2.2.2.2.2.2.1 (left:=left) (by omega) (by omega)) ?_
 by_cases c0:dX x.2.2.2.2.2.2.2.1.length (left)<0
 ·simp only[c0,decide_true,cond_true];exact⟨0,fun k _=>by rw[dX,if_neg (by have:=gH c0;omega)]⟩
 obtain⟨d0,e0⟩:=cn c0
 simp only[c0,decide_false,cond_false]
 simp only[e0]
 refine au.bind (zN x.2.2.2.2.2.2.2.2.1 hx.2.2.2.2.2.2.2.2.1 (left:=left-(x.2.2.2.2.2.2.2.1.length:Int)) (by omega) (by omega)) ?_
 by_cases c1:dX x.2.2.2.2.2.2.2.2.1.length (left-(x.2.2.2.2.2.2.2.1.length:Int))<0
 ·simp only[c1,decide_true,cond_true];exact⟨0,fun k _=>by rw[dX,if_neg (by have:=gH c1;omega)]⟩
 obtain⟨d1,e1⟩:=cn c1
 simp only[c1,decide_false,cond_false]
 simp only[e1]
 refine au.bind (zN x.2.2.2.2.2.2.2.2.2 hx.2.2.2.2.2.2.2.2.2 (left:=left-(x.2.2.2.2.2.2.2.1.length:Int)-(x.2.2.2.2.2.2.2.2.1.length:Int)) (by omega) (by omega)) ?_
 by_cases c2:dX x.2.2.2.2.2.2.2.2.2.length (left-(x.2.2.2.2.2.2.2.1.length:Int)-(x.2.2.2.2.2.2.2.2.1.length:Int))<0
 ·simp only[c2,decide_true,cond_true];exact⟨0,fun k _=>by rw[dX,if_neg (by have:=gH c2;omega)]⟩
 obtain⟨d2,e2⟩:=cn c2
 simp only[c2,decide_false,cond_false]
 simp only[e2]
 exact⟨0,fun k _=>by first|rfl|(rw[dX,if_pos (by omega)];done)|(rw[dX,if_pos (by omega)];simp only[Option.some.injEq];omega)⟩
def cB(x:List ax):Nat:=x.length+(x.map ck).sum
theorem OT(x:(List ax))(hx:Dy ((.list false db)) x){left:Int}(h0:0≤left)(h1:left≤1048576):Ev (fun k=>py k (x,left)) (dX (cB x) left):=by
 refine au.run (fun k=>DE k x left) ?_
 simp only[BF]
 have b0:x.length≤9223372036854775807:=hx.1
 have e0:aa .i64 (left-(x.length:Int))=left-x.length:=wrap_i64 (by omega) (by omega)
 simp only[e0]
 by_cases c0:left-(x.length:Int)<0
 ·simp only[c0,decide_true,cond_true];exact⟨0,fun k _=>by rw[dX,if_neg (by simp only[cB];omega)]⟩
 simp only[c0,decide_false,cond_false]
 have hl2:vc=T5 iW:=rfl
 rw[hl2]
 have:=ND (c:=iW) (sz:=ck) (l:=x) (fun y hy l h0 h1=>PL y (hx.2 y hy) h0 h1) (by omega) (left:=left-x.length) (by omega) (by omega)
 rw[I0 (by omega)]at this
 exact this
def aW(x:List ByteArray):Nat:=x.length+(x.map fun y=>y.size).sum
theorem Dx(x:(List ByteArray))(hx:Dy ((.list false .str)) x){left:Int}(h0:0≤left)(h1:left≤1048576):Ev (fun k=>kf k (x,left)) (dX (aW x) left):=by
 refine au.run (fun k=>CW k x left) ?_
 simp only[yC]
 have b0:x.length≤9223372036854775807:=hx.1
 have e0:aa .i64 (left-(x.length:Int))=left-x.length:=wrap_i64 (by omega) (by omega)
 simp only[e0]
 by_cases c0:left-(x.length:Int)<0
 ·simp only[c0,decide_true,cond_true];exact⟨0,fun k _=>by rw[dX,if_neg (by simp only[aW];omega)]⟩
 simp only[c0,decide_false,cond_false]
 have hl2:sB=T5 Ce:=by funext k self d;rw[←Un k self d];rfl
 rw[hl2]
 have:=ND (c:=Ce) (sz:=fun(y:ByteArray)=>y.size) (l:=x) (fun y hy l h0 h1=>Uw y (hx.2 y hy) h0 h1) (by omega) (left:=left-x.length) (by omega) (by omega)
 rw[I0 (by omega)]at this
 exact this
def eg(x:cQ):Nat:=x.2.1.length+(cB x.2.2.1)+(aW x.2.2.2)
theorem Ri(x:cQ)(hx:Dy (lP) x){left:Int}(h0:0≤left)(h1:left≤1048576):Ev (fun k=>rV k (x,left)) (dX (eg x) left):=by
 refine au.run (fun k=>Lg k x left) ?_
 simp only[Mi,eg]
 refine au.bind (Pp x.2.1 hx.2.1 (left:=left) (by omega) (by omega)) ?_
 by_cases c0:dX x.2.1.length (left)<0
 ·simp only[c0,decide_true,cond_true];exact⟨0,fun k _=>by rw[dX,if_neg (by have:=gH c0;omega)]⟩
 obtain⟨d0,e0⟩:=cn c0
 simp only[c0,decide_false,cond_false]
 simp only[e0]
 refine au.bind (OT x.2.2.1 hx.2.2.1 (left:=left-(x.2.1.length:Int)) (by omega) (by omega)) ?_
 by_cases c1:dX (cB x.2.2.1) (left-(x.2.1.length:Int))<0
 ·simp only[c1,decide_true,cond_true];exact⟨0,fun k _=>by rw[dX,if_neg (by have:=gH c1;omega)]⟩
 obtain⟨d1,e1⟩:=cn c1
 simp only[c1,decide_false,cond_false]
 simp only[e1]
 refine au.bind (Dx x.2.2.2 hx.2.2.2 (left:=left-(x.2.1.length:Int)-((cB x.2.2.1):Int)) (by omega) (by omega)) ?_
 by_cases c2:dX (aW x.2.2.2) (left-(x.2.1.length:Int)-((cB x.2.2.1):Int))<0
 ·simp only[c2,decide_true,cond_true];exact⟨0,fun k _=>by rw[dX,if_neg (by have:=gH c2;omega)]⟩
 obtain⟨d2,e2⟩:=cn c2
 simp only[c2,decide_false,cond_false]
 simp only[e2]
 exact⟨0,fun k _=>by first|rfl|(rw[dX,if_pos (by omega)];done)|(rw[dX,if_pos (by omega)];simp only[Option.some.injEq];omega)⟩
theorem QB(x:az):Ev (fun k=>me k x) x:=by
 refine au.run (fun k=>FZ k x) ?_
 simp only[Dr]
 exact au.const _
theorem OA(x:(List az))(hx:x.length≤1073741824):Ev (fun k=>po k x) x:=by
 refine au.run (fun k=>Dc k x) ?_
 simp only[BY]
 simp only[if_pos (show(0:Int)≤(x.length:Int)by omega),if_pos (Int.le_refl (x.length:Int)),if_pos (show(x.length:Int)*16≤(af:Int)by simp only[af];omega)]
 have hl:u0=rX me:=rfl
 rw[hl]
 exact oG (fun y hy=>QB y) (by omega) _ (by simp)
theorem Lz(x:(List Int))(hx:x.length≤1073741824):Ev (fun k=>oh k x) x:=by
 refine au.run (fun k=>HQ k x) ?_
 simp only[GM]
 simp only[if_pos (show(0:Int)≤(x.length:Int)by omega),if_pos (Int.le_refl (x.length:Int)),if_pos (show(x.length:Int)*8≤(af:Int)by simp only[af];omega)]
 have hl:qw=rX fun _ y=>some y:=(show qw=NO from rfl).trans L6
 rw[hl]
 exact oG (fun y _=>au.const _) (by omega) _ (by simp)
theorem Lh(x:av):Ev (fun k=>iS k x) x:=by
 refine au.run (fun k=>Aw k x) ?_
 simp only[vY]
 exact au.const _
theorem yS(x:(List av))(hx:x.length≤1073741824):Ev (fun k=>gK k x) x:=by
 refine au.run (fun k=>zx k x) ?_
 simp only[tR]
 simp only[if_pos (show(0:Int)≤(x.length:Int)by omega),if_pos (Int.le_refl (x.length:Int)),if_pos (show(x.length:Int)*24≤(af:Int)by simp only[af];omega)]
 have hl:pB=rX iS:=rfl
 rw[hl]
 exact oG (fun y hy=>Lh y) (by omega) _ (by simp)
theorem PV(x:ax)(hx:(ck x)≤1073741824):Ev (fun k=>mZ k x) x:=by
 refine au.run (fun k=>Fc k x) ?_
 simp only[DW]
 simp only[ck]at hx
 refine au.bind (Lz x.2.2.2.2.2.2.2.1 (by omega)) ?_
 refine au.bind (yS x.2.2.2.2.2.2.2.2.1 (by omega)) ?_
 refine au.bind (yS x.2.2.2.2.2.2.2.2.2 (by omega)) ?_
 exact au.const _
theorem Oh(x:(List ax))(hx:(cB x)≤1073741824):Ev (fun k=>oY k x) x:=by
 refine au.run (fun k=>EI k x) ?_
 simp only[AR]
 have hx0:=hx
 simp only[cB]at hx
 simp only[if_pos (show(0:Int)≤(x.length:Int)by omega),if_pos (Int.le_refl (x.length:Int)),if_pos (show(x.length:Int)*128≤(af:Int)by simp only[af];omega)]
 have hl:uY=rX mZ:=rfl
 rw[hl]
 exact oG (fun y hy=>PV y (by have:=dU ck hy;omega)) (by omega) _ (by simp)
theorem El(x:(List ByteArray))(hx:(aW x)≤1073741824):Ev (fun k=>jG k x) x:=by
 refine au.run (fun k=>CD k x) ?_
 simp only[zd]
 have hx0:=hx
 simp only[aW]at hx
 simp only[if_pos (show(0:Int)≤(x.length:Int)by omega),if_pos (Int.le_refl (x.length:Int)),if_pos (show(x.length:Int)*16≤(af:Int)by simp only[af];omega)]
 have hl:mG=rX fun _ y=>some y:=(show mG=NO from rfl).trans L6
 rw[hl]
 exact oG (fun y _=>au.const _) (by omega) _ (by simp)
theorem Rr(x:cQ)(hx:(eg x)≤1073741824):Ev (fun k=>iZ k x) x:=by
 refine au.run (fun k=>Ll k x) ?_
 simp only[Lw]
 simp only[eg]at hx
 refine au.bind (OA x.2.1 (by omega)) ?_
 refine au.bind (Oh x.2.2.1 (by omega)) ?_
 refine au.bind (El x.2.2.2 (by omega)) ?_
 exact au.const _
theorem D9(x:(List ByteArray))(hx:(aW x)≤1073741824):Ev (fun k=>ke k (x,x)) true:=by
 refine au.run (fun k=>CH k x x) ?_
 simp only[zo]
 have hx0:=hx
 simp only[aW]at hx
 simp only[bne_self_eq_false,cond_false]
 have hl:so=SY (fun _ p=>some (lB p.1 p.2)):=rfl
 rw[hl]
 exact vU (fun y _=>by simp only[gb];exact au.const _) (by omega)
def eC(x:ar):Nat:=x.2.size
theorem JT(x:ar)(hx:(eC x)≤1073741824):Ev (fun k=>js k (x,x)) true:=by
 refine au.run (fun k=>Gc k x x) ?_
 simp only[DB]
 simp only[eC]at hx
 simp only[bne_self_eq_false,gb,Bool.not_true,cond_false]
 exact au.const _
def jj(x:List ar):Nat:=x.length+(x.map eC).sum
theorem O2(x:(List ar))(hx:(jj x)≤1073741824):Ev (fun k=>pg k (x,x)) true:=by
 refine au.run (fun k=>DR k x x) ?_
 simp only[BK]
 have hx0:=hx
 simp only[jj]at hx
 simp only[bne_self_eq_false,cond_false]
 have hl:u7=SY js:=rfl
 rw[hl]
 exact vU (fun y hy=>JT y (by have:=dU eC hy;omega)) (by omega)
def fq(x:bF):Nat:=(aW x.1)+(jj x.2)
theorem Sx(x:bF)(hx:(fq x)≤1073741824):Ev (fun k=>tn k (x,x)) true:=by
 refine au.run (fun k=>IE k x x) ?_
 simp only[GF]
 simp only[fq]at hx
 refine au.bind (D9 x.1 (by omega)) ?_
 simp only[Bool.not_true,cond_false]
 refine au.bind (O2 x.2 (by omega)) ?_
 simp only[Bool.not_true,cond_false]
 exact au.const _
theorem P7(x:az):Ev (fun k=>ml k (x,x)) true:=by
 refine au.run (fun k=>Ge k x x) ?_
 simp only[EE]
 simp only[bne_self_eq_false,gb,Bool.not_true,cond_false]
 exact au.const _
theorem OV(x:(List az))(hx:x.length≤1073741824):Ev (fun k=>ph k (x,x)) true:=by
 refine au.run (fun k=>Eu k x x) ?_
 simp only[Ba]
 simp only[bne_self_eq_false,cond_false]
 have hl:uh=SY ml:=rfl
 rw[hl]
 exact vU (fun y hy=>P7 y) (by omega)
theorem L4(x:(List Int))(hx:x.length≤1073741824):Ev (fun k=>n8 k (x,x)) true:=by
 refine au.run (fun k=>Iy k x x) ?_
 simp only[Hl]
 simp only[bne_self_eq_false,cond_false]
 have hl:yE=SY (fun _ p=>some (p.1==p.2)):=rfl
 rw[hl]
 exact vU (fun y _=>by simp only[beq_self_eq_true];exact au.const _) (by omega)
theorem K5(x:av):Ev (fun k=>iR k (x,x)) true:=by
 refine au.run (fun k=>As k x x) ?_
 simp only[xd]
 simp only[bne_self_eq_false,gb,Bool.not_true,cond_false]
 exact au.const _
theorem zI(x:(List av))(hx:x.length≤1073741824):Ev (fun k=>gC k (x,x)) true:=by
 refine au.run (fun k=>zz k x x) ?_
 simp only[u4]
 simp only[bne_self_eq_false,cond_false]
 have hl:pG=SY iR:=rfl
 rw[hl]
 exact vU (fun y hy=>K5 y) (by omega)
theorem Qa(x:ax)(hx:(ck x)≤1073741824):Ev (fun k=>mo k (x,x)) true:=by
 refine au.run (fun k=>Gd k x x) ?_
 simp only[Dp]
 simp only[ck]at hx
 simp only[bne_self_eq_false,gb,Bool.not_true,cond_false]
 refine au.bind (L4 x.2.2.2.2.2.2.2.1 (by omega)) ?_
 simp only[Bool.not_true,cond_false]
 refine au.bind (zI x.2.2.2.2.2.2.2.2.1 (by omega)) ?_
 simp only[Bool.not_true,cond_false]
 refine au.bind (zI x.2.2.2.2.2.2.2.2.2 (by omega)) ?_
 simp only[Bool.not_true,cond_false]
 exact au.const _
theorem Oj(x:(List ax))(hx:(cB x)≤1073741824):Ev (fun k=>pc k (x,x)) true:=by
 refine au.run (fun k=>Dk k x x) ?_
 simp only[BL]
 have hx0:=hx
 simp only[cB]at hx
 simp only[bne_self_eq_false,cond_false]
 have hl:uc=SY mo:=rfl
 rw[hl]
 exact vU (fun y hy=>Qa y (by have:=dU ck hy;omega)) (by omega)
theorem Q5(x:cQ)(hx:(eg x)≤1073741824):Ev (fun k=>rJ k (x,x)) true:=by
 refine au.run (fun k=>KY k x x) ?_
 simp only[Md]
 simp only[eg]at hx
 simp only[bne_self_eq_false,gb,Bool.not_true,cond_false]
 refine au.bind (OV x.2.1 (by omega)) ?_
 simp only[Bool.not_true,cond_false]
 refine au.bind (Oj x.2.2.1 (by omega)) ?_
 simp only[Bool.not_true,cond_false]
 refine au.bind (D9 x.2.2.2 (by omega)) ?_
 simp only[Bool.not_true,cond_false]
 exact au.const _
def kq(x:fG):Nat:=x.2.2.length
theorem Sk(x:fG)(hx:(kq x)≤1073741824):Ev (fun k=>tI k (x,x)) true:=by
 refine au.run (fun k=>H8 k x x) ?_
 simp only[G8]
 simp only[kq]at hx
 simp only[bne_self_eq_false,gb,Bool.not_true,cond_false]
 refine au.bind (L4 x.2.2 (by omega)) ?_
 simp only[Bool.not_true,cond_false]
 exact au.const _
theorem Sm(x:av):Ev (fun k=>nX k (x,x)) true:=by
 refine au.run (fun k=>HW k x x) ?_
 simp only[Hv]
 simp only[bne_self_eq_false,gb,Bool.not_true,cond_false]
 exact au.const _
theorem Qy(x:(List av))(hx:x.length≤1073741824):Ev (fun k=>qZ k (x,x)) true:=by
 refine au.run (fun k=>F5 k x x) ?_
 simp only[Di]
 simp only[bne_self_eq_false,cond_false]
 have hl:wQ=SY nX:=rfl
 rw[hl]
 exact vU (fun y hy=>Sm y) (by omega)
def ea(x:bL):Nat:=(kq x.1)+x.2.length
theorem S8(x:bL)(hx:(ea x)≤1073741824):Ev (fun k=>nP k (x,x)) true:=by
 refine au.run (fun k=>Ip k x x) ?_
 simp only[GW]
 simp only[ea]at hx
 refine au.bind (Sk x.1 (by omega)) ?_
 simp only[Bool.not_true,cond_false]
 refine au.bind (Qy x.2 (by omega)) ?_
 simp only[Bool.not_true,cond_false]
 exact au.const _
def ew(x:List bL):Nat:=x.length+(x.map ea).sum
theorem QV(x:(List bL))(hx:(ew x)≤1073741824):Ev (fun k=>ry k (x,x)) true:=by
 refine au.run (fun k=>F9 k x x) ?_
 simp only[ED]
 have hx0:=hx
 simp only[ew]at hx
 simp only[bne_self_eq_false,cond_false]
 have hl:wc=SY nP:=rfl
 rw[hl]
 exact vU (fun y hy=>S8 y (by have:=dU ea hy;omega)) (by omega)
def da(x:bx):Nat:=(eg x.1)+(ew x.2)
theorem PB(x:bx)(hx:(da x)≤1073741824):Ev (fun k=>pf k (x,x)) true:=by
 refine au.run (fun k=>Eg k x x) ?_
 simp only[A7]
 simp only[da]at hx
 refine au.bind (Q5 x.1 (by omega)) ?_
 simp only[Bool.not_true,cond_false]
 refine au.bind (QV x.2 (by omega)) ?_
 simp only[Bool.not_true,cond_false]
 exact au.const _
def c5(x:aY):Nat:=(fq x.1)+(da x.2.2)
theorem MQ(x:aY)(hx:(c5 x)≤1073741824):Ev (fun k=>nC k (x,x)) true:=by
 refine au.run (fun k=>Cd k x x) ?_
 simp only[xQ]
 simp only[c5]at hx
 simp only[bne_self_eq_false,gb,Bool.not_true,cond_false]
 refine au.bind (Sx x.1 (by omega)) ?_
 simp only[Bool.not_true,cond_false]
 refine au.bind (PB x.2.2 (by omega)) ?_
 simp only[Bool.not_true,cond_false]
 exact au.const _
noncomputable def Jw(_:az)(m:Int):az:=(m,m+1)
theorem Lo(l0:List az)(m0:Int)(h0:0≤m0)(h1:m0+2*l0.length<4611686018427387900):Ev (fun k=>mL k (l0,m0)) (m0+2*l0.length,ep Jw 2 l0 m0):=by
 refine au.run (fun k=>AB k l0 m0) ?_
 simp only[wU]
 refine bS.ev ?_
 refine qk (L:=gy) Jw 2 l0 m0 (fun a b=>(a,b)) ?_ ?_
 ·intro i l x hl hx hi
  have hil:i<l.length:=by omega
  have hM:0≤m0+2*(i:Int)∧m0+2*(i:Int)+2<4611686018427387904:=by omega
  have hM2:m0+2*((i+1:Nat):Int)=(m0+2*(i:Int))+1+1:=by omega
  simp only[hM2]
  generalize hMd:m0+2*(i:Int)=M at*
  have w1:aa .i64 (M+1)=M+1:=wrap_i64 (by omega) (by omega)
  have w2:aa .i64 (M+1+1)=M+1+1:=wrap_i64 (by omega) (by omega)
  simp only[m7,gy,Int.toNat_natCast,hx,Option.bind_some,Int.natCast_nonneg,if_true,Int.ofNat_lt,hil,decide_true,cond_true,List.length_set,List.getElem?_set_self hil,List.set_set,eH hil (by omega),Jw,w1,w2]
  exact au.const _
 ·intro l hl
  refine bS.stop ?_
  simp only[gy,hl,Int.ofNat_lt,Nat.lt_irrefl,decide_false,cond_false]
  exact au.const _
noncomputable def Jm(_:Int)(m:Int):Int:=m
theorem Hz(l0:List Int)(m0:Int)(h0:0≤m0)(h1:m0+1*l0.length<4611686018427387900):Ev (fun k=>kH k (l0,m0)) (m0+1*l0.length,ep Jm 1 l0 m0):=by
 refine au.run (fun k=>C3 k l0 m0) ?_
 simp only[BV]
 refine bS.ev ?_
 refine qk (L:=jD) Jm 1 l0 m0 (fun a b=>(a,b)) ?_ ?_
 ·intro i l x hl hx hi
  have hil:i<l.length:=by omega
  have hM:0≤m0+1*(i:Int)∧m0+1*(i:Int)+1<4611686018427387904:=by omega
  have hM2:m0+1*((i+1:Nat):Int)=(m0+1*(i:Int))+1:=by omega
  simp only[hM2]
  generalize hMd:m0+1*(i:Int)=M at*
  have w1:aa .i64 (M+1)=M+1:=wrap_i64 (by omega) (by omega)
  simp only[m7,jD,Int.toNat_natCast,hx,Option.bind_some,Int.natCast_nonneg,if_true,Int.ofNat_lt,hil,decide_true,cond_true,List.length_set,List.getElem?_set_self hil,List.set_set,eH hil (by omega),Jm,w1]
  exact au.const _
 ·intro l hl
  refine bS.stop ?_
  simp only[jD,hl,Int.ofNat_lt,Nat.lt_irrefl,decide_false,cond_false]
  exact au.const _
noncomputable def oK(_:av)(m:Int):av:=(m,m+1,m+1+1)
theorem u5(l0:List av)(m0:Int)(h0:0≤m0)(h1:m0+3*l0.length<4611686018427387900):Ev (fun k=>fj k (l0,m0)) (m0+3*l0.length,ep oK 3 l0 m0):=by
 refine au.run (fun k=>vG k l0 m0) ?_
 simp only[qO]
 refine bS.ev ?_
 refine qk (L:=eU) oK 3 l0 m0 (fun a b=>(a,b)) ?_ ?_
 ·intro i l x hl hx hi
  have hil:i<l.length:=by omega
  have hM:0≤m0+3*(i:Int)∧m0+3*(i:Int)+3<4611686018427387904:=by omega
  have hM2:m0+3*((i+1:Nat):Int)=(m0+3*(i:Int))+1+1+1:=by omega
  simp only[hM2]
  generalize hMd:m0+3*(i:Int)=M at*
  have w1:aa .i64 (M+1)=M+1:=wrap_i64 (by omega) (by omega)
  have w2:aa .i64 (M+1+1)=M+1+1:=wrap_i64 (by omega) (by omega)
  have w3:aa .i64 (M+1+1+1)=M+1+1+1:=wrap_i64 (by omega) (by omega)
  simp only[m7,eU,Int.toNat_natCast,hx,Option.bind_some,Int.natCast_nonneg,if_true,Int.ofNat_lt,hil,decide_true,cond_true,List.length_set,List.getElem?_set_self hil,List.set_set,eH hil (by omega),oK,w1,w2,w3]
  exact au.const _
 ·intro l hl
  refine bS.stop ?_
  simp only[eU,hl,Int.ofNat_lt,Nat.lt_irrefl,decide_false,cond_false]
  exact au.const _
noncomputable def Fl(_:ByteArray)(m:Int):ByteArray:=N6 (m)
theorem za(l0:List ByteArray)(m0:Int)(h0:0≤m0)(h1:m0+1*l0.length<4611686018427387900):Ev (fun k=>gN k (l0,m0)) (m0+1*l0.length,ep Fl 1 l0 m0):=by
 refine au.run (fun k=>zc k l0 m0) ?_
 simp only[uf]
 refine bS.ev ?_
 refine qk (L:=fL) Fl 1 l0 m0 (fun a b=>(a,b)) ?_ ?_
 ·intro i l x hl hx hi
  have hil:i<l.length:=by omega
  have hM:0≤m0+1*(i:Int)∧m0+1*(i:Int)+1<4611686018427387904:=by omega
  have hM2:m0+1*((i+1:Nat):Int)=(m0+1*(i:Int))+1:=by omega
  simp only[hM2]
  generalize hMd:m0+1*(i:Int)=M at*
  have w1:aa .i64 (M+1)=M+1:=wrap_i64 (by omega) (by omega)
  simp only[m7,fL,Int.toNat_natCast,hx,Option.bind_some,Int.natCast_nonneg,if_true,Int.ofNat_lt,hil,decide_true,cond_true,List.length_set,List.getElem?_set_self hil,List.set_set,eH hil (by omega),Fl,w1]
  refine au.bD (rS _ (by omega) (by omega)) ?_
  try simp only[Int.toNat_natCast,hx,Option.bind_some,Int.natCast_nonneg,if_true,Int.ofNat_lt,hil,decide_true,cond_true,List.length_set,List.getElem?_set_self hil,List.set_set,w1]
  exact au.const _
 ·intro l hl
  refine bS.stop ?_
  simp only[fL,hl,Int.ofNat_lt,Nat.lt_irrefl,decide_false,cond_false]
  exact au.const _
noncomputable def KE(_:ar)(m:Int):ar:=(m,N6 (m+1))
theorem K6(l0:List ar)(m0:Int)(h0:0≤m0)(h1:m0+2*l0.length<4611686018427387900):Ev (fun k=>mJ k (l0,m0)) (m0+2*l0.length,ep KE 2 l0 m0):=by
 refine au.run (fun k=>AE k l0 m0) ?_
 simp only[wO]
 refine bS.ev ?_
 refine qk (L:=gD) KE 2 l0 m0 (fun a b=>(a,b)) ?_ ?_
 ·intro i l x hl hx hi
  have hil:i<l.length:=by omega
  have hM:0≤m0+2*(i:Int)∧m0+2*(i:Int)+2<4611686018427387904:=by omega
  have hM2:m0+2*((i+1:Nat):Int)=(m0+2*(i:Int))+1+1:=by omega
  simp only[hM2]
  generalize hMd:m0+2*(i:Int)=M at*
  have w1:aa .i64 (M+1)=M+1:=wrap_i64 (by omega) (by omega)
  have w2:aa .i64 (M+1+1)=M+1+1:=wrap_i64 (by omega) (by omega)
  simp only[m7,gD,Int.toNat_natCast,hx,Option.bind_some,Int.natCast_nonneg,if_true,Int.ofNat_lt,hil,decide_true,cond_true,List.length_set,List.getElem?_set_self hil,List.set_set,eH hil (by omega),KE,w1,w2]
  refine au.bD (rS _ (by omega) (by omega)) ?_
  try simp only[Int.toNat_natCast,hx,Option.bind_some,Int.natCast_nonneg,if_true,Int.ofNat_lt,hil,decide_true,cond_true,List.length_set,List.getElem?_set_self hil,List.set_set,w1,w2]
  exact au.const _
 ·intro l hl
  refine bS.stop ?_
  simp only[gD,hl,Int.ofNat_lt,Nat.lt_irrefl,decide_false,cond_false]
  exact au.const _
noncomputable def IY(_:av)(m:Int):av:=(m,m+1,m+1+1)
theorem MN(l0:List av)(m0:Int)(h0:0≤m0)(h1:m0+3*l0.length<4611686018427387900):Ev (fun k=>nc k (l0,m0)) (m0+3*l0.length,ep IY 3 l0 m0):=by
 refine au.run (fun k=>Cx k l0 m0) ?_
 simp only[yp]
 refine bS.ev ?_
 refine qk (L:=iC) IY 3 l0 m0 (fun a b=>(a,b)) ?_ ?_
 ·intro i l x hl hx hi
  have hil:i<l.length:=by omega
  have hM:0≤m0+3*(i:Int)∧m0+3*(i:Int)+3<4611686018427387904:=by omega
  have hM2:m0+3*((i+1:Nat):Int)=(m0+3*(i:Int))+1+1+1:=by omega
  simp only[hM2]
  generalize hMd:m0+3*(i:Int)=M at*
  have w1:aa .i64 (M+1)=M+1:=wrap_i64 (by omega) (by omega)
  have w2:aa .i64 (M+1+1)=M+1+1:=wrap_i64 (by omega) (by omega)
  have w3:aa .i64 (M+1+1+1)=M+1+1+1:=wrap_i64 (by omega) (by omega)
  simp only[m7,iC,Int.toNat_natCast,hx,Option.bind_some,Int.natCast_nonneg,if_true,Int.ofNat_lt,hil,decide_true,cond_true,List.length_set,List.getElem?_set_self hil,List.set_set,eH hil (by omega),IY,w1,w2,w3]
  exact au.const _
 ·intro l hl
  refine bS.stop ?_
  simp only[iC,hl,Int.ofNat_lt,Nat.lt_irrefl,decide_false,cond_false]
  exact au.const _
theorem QN(x:ar)(hx:Dy (bO) x){left:Int}(h0:0≤left)(h1:left≤1048576):Ev (fun k=>jn k (x,left)) (dX (eC x) left):=by
 refine au.run (fun k=>Gq k x left) ?_
 simp only[Dt,eC]
 have b0:x.2.size≤9223372036854775807:=hx.2
 have e0:aa .i64 (left-(x.2.size:Int))=left-x.2.size:=wrap_i64 (by omega) (by omega)
 simp only[e0]
 by_cases c0:left-(x.2.size:Int)<0
 ·simp only[c0,decide_true,cond_true];exact⟨0,fun k _=>by rw[dX,if_neg (by omega)]⟩
 simp only[c0,decide_false,cond_false]
 exact⟨0,fun k _=>by first|rfl|(rw[dX,if_pos (by omega)];done)|(rw[dX,if_pos (by omega)];simp only[Option.some.injEq];omega)⟩
theorem ON(x:(List ar))(hx:Dy ((.list false bO)) x){left:Int}(h0:0≤left)(h1:left≤1048576):Ev (fun k=>oS k (x,left)) (dX (jj x) left):=by
 refine au.run (fun k=>Ek k x left) ?_
 simp only[Bs]
 have b0:x.length≤9223372036854775807:=hx.1
 have e0:aa .i64 (left-(x.length:Int))=left-x.length:=wrap_i64 (by omega) (by omega)
 simp only[e0]
 by_cases c0:left-(x.length:Int)<0
 ·simp only[c0,decide_true,cond_true];exact⟨0,fun k _=>by rw[dX,if_neg (by simp only[jj];omega)]⟩
 simp only[c0,decide_false,cond_false]
 have hl2:uP=T5 jn:=rfl
 rw[hl2]
 have:=ND (c:=jn) (sz:=eC) (l:=x) (fun y hy l h0 h1=>QN y (hx.2 y hy) h0 h1) (by omega) (left:=left-x.length) (by omega) (by omega)
 rw[I0 (by omega)]at this
 exact this
theorem Sa(x:bF)(hx:Dy (gL) x){left:Int}(h0:0≤left)(h1:left≤1048576):Ev (fun k=>tH k (x,left)) (dX (fq x) left):=by
 refine au.run (fun k=>Ic k x left) ?_
 simp only[G7,fq]
 refine au.bind (Dx x.1 hx.1 (left:=left) (by omega) (by omega)) ?_
 by_cases c0:dX (aW x.1) (left)<0
 ·simp only[c0,decide_true,cond_true];exact⟨0,fun k _=>by rw[dX,if_neg (by have:=gH c0;omega)]⟩
 obtain⟨d0,e0⟩:=cn c0
 simp only[c0,decide_false,cond_false]
 simp only[e0]
 refine au.bind (ON x.2 hx.2 (left:=left-((aW x.1):Int)) (by omega) (by omega)) ?_
 by_cases c1:dX (jj x.2) (left-((aW x.1):Int))<0
 ·simp only[c1,decide_true,cond_true];exact⟨0,fun k _=>by rw[dX,if_neg (by have:=gH c1;omega)]⟩
 obtain⟨d1,e1⟩:=cn c1
 simp only[c1,decide_false,cond_false]
 simp only[e1]
 exact⟨0,fun k _=>by first|rfl|(rw[dX,if_pos (by omega)];done)|(rw[dX,if_pos (by omega)];simp only[Option.some.injEq];omega)⟩
theorem S7(x:fG)(hx:Dy (tD) x){left:Int}(h0:0≤left)(h1:left≤1048576):Ev (fun k=>tg k (x,left)) (dX (kq x) left):=by
 refine au.run (fun k=>Iw k x left) ?_
 simp only[Hq,kq]
 refine au.bind (LW x.2.2 hx.2.2 (left:=left) (by omega) (by omega)) ?_
 by_cases c0:dX x.2.2.length (left)<0
 ·simp only[c0,decide_true,cond_true];exact⟨0,fun k _=>by rw[dX,if_neg (by have:=gH c0;omega)]⟩
 obtain⟨d0,e0⟩:=cn c0
 simp only[c0,decide_false,cond_false]
 simp only[e0]
 exact⟨0,fun k _=>by first|rfl|(rw[dX,if_pos (by omega)];done)|(rw[dX,if_pos (by omega)];simp only[Option.some.injEq];omega)⟩
theorem QG(x:(List av))(hx:Dy ((.list false bJ)) x){left:Int}(h0:0≤left)(h1:left≤1048576):Ev (fun k=>qm k (x,left)) (dX x.length left):=by
 refine au.run (fun k=>Fb k x left) ?_
 simp only[Er]
 have b0:x.length≤9223372036854775807:=hx.1
 have e0:aa .i64 (left-(x.length:Int))=left-x.length:=wrap_i64 (by omega) (by omega)
 simp only[e0]
 by_cases c0:left-(x.length:Int)<0
 ·simp only[c0,decide_true,cond_true];exact⟨0,fun k _=>by rw[dX,if_neg (by omega)]⟩
 simp only[c0,decide_false,cond_false]
 exact⟨0,fun k _=>by rw[dX,if_pos (by omega)]⟩
theorem SM(x:bL)(hx:Dy (k8) x){left:Int}(h0:0≤left)(h1:left≤1048576):Ev (fun k=>kD k (x,left)) (dX (ea x) left):=by
 refine au.run (fun k=>H4 k x left) ?_
 simp only[GU,ea]
 refine au.bind (S7 x.1 hx.1 (left:=left) (by omega) (by omega)) ?_
 by_cases c0:dX (kq x.1) (left)<0
 ·simp only[c0,decide_true,cond_true];exact⟨0,fun k _=>by rw[dX,if_neg (by have:=gH c0;omega)]⟩
 obtain⟨d0,e0⟩:=cn c0
 simp only[c0,decide_false,cond_false]
 simp only[e0]
 refine au.bind (QG x.2 hx.2 (left:=left-((kq x.1):Int)) (by omega) (by omega)) ?_
 by_cases c1:dX x.2.length (left-((kq x.1):Int))<0
 ·simp only[c1,decide_true,cond_true];exact⟨0,fun k _=>by rw[dX,if_neg (by have:=gH c1;omega)]⟩
 obtain⟨d1,e1⟩:=cn c1
 simp only[c1,decide_false,cond_false]
 simp only[e1]
 exact⟨0,fun k _=>by first|rfl|(rw[dX,if_pos (by omega)];done)|(rw[dX,if_pos (by omega)];simp only[Option.some.injEq];omega)⟩
theorem Qx(x:(List bL))(hx:Dy ((.list false k8)) x){left:Int}(h0:0≤left)(h1:left≤1048576):Ev (fun k=>rC k (x,left)) (dX (ew x) left):=by
 refine au.run (fun k=>Fh k x left) ?_
 simp only[EG]
 have b0:x.length≤9223372036854775807:=hx.1
 have e0:aa .i64 (left-(x.length:Int))=left-x.length:=wrap_i64 (by omega) (by omega)
 simp only[e0]
 by_cases c0:left-(x.length:Int)<0
 ·simp only[c0,decide_true,cond_true];exact⟨0,fun k _=>by rw[dX,if_neg (by simp only[ew];omega)]⟩
 simp only[c0,decide_false,cond_false]
 have hl2:wa=T5 kD:=rfl
 rw[hl2]
 have:=ND (c:=kD) (sz:=ea) (l:=x) (fun y hy l h0 h1=>SM y (hx.2 y hy) h0 h1) (by omega) (left:=left-x.length) (by omega) (by omega)
 rw[I0 (by omega)]at this
 exact this
theorem OK(x:bx)(hx:Dy (gU) x){left:Int}(h0:0≤left)(h1:left≤1048576):Ev (fun k=>o4 k (x,left)) (dX (da x) left):=by
 refine au.run (fun k=>D8 k x left) ?_
 simp only[A8,da]
 refine au.bind (Ri x.1 hx.1 (left:=left) (by omega) (by omega)) ?_
 by_cases c0:dX (eg x.1) (left)<0
 ·simp only[c0,decide_true,cond_true];exact⟨0,fun k _=>by rw[dX,if_neg (by have:=gH c0;omega)]⟩
 obtain⟨d0,e0⟩:=cn c0
 simp only[c0,decide_false,cond_false]
 simp only[e0]
 refine au.bind (Qx x.2 hx.2 (left:=left-((eg x.1):Int)) (by omega) (by omega)) ?_
 by_cases c1:dX (ew x.2) (left-((eg x.1):Int))<0
 ·simp only[c1,decide_true,cond_true];exact⟨0,fun k _=>by rw[dX,if_neg (by have:=gH c1;omega)]⟩
 obtain⟨d1,e1⟩:=cn c1
 simp only[c1,decide_false,cond_false]
 simp only[e1]
 exact⟨0,fun k _=>by first|rfl|(rw[dX,if_pos (by omega)];done)|(rw[dX,if_pos (by omega)];simp only[Option.some.injEq];omega)⟩
theorem Ng(x:aY)(hx:Dy (dC) x){left:Int}(h0:0≤left)(h1:left≤1048576):Ev (fun k=>ny k (x,left)) (dX (c5 x) left):=by
 refine au.run (fun k=>CX k x left) ?_
 simp only[yw,c5]
 refine au.bind (Sa x.1 hx.1 (left:=left) (by omega) (by omega)) ?_
 by_cases c0:dX (fq x.1) (left)<0
 ·simp only[c0,decide_true,cond_true];exact⟨0,fun k _=>by rw[dX,if_neg (by have:=gH c0;omega)]⟩
 obtain⟨d0,e0⟩:=cn c0
 simp only[c0,decide_false,cond_false]
 simp only[e0]
 refine au.bind (OK x.2.2 hx.2.2 (left:=left-((fq x.1):Int)) (by omega) (by omega)) ?_
 by_cases c1:dX (da x.2.2) (left-((fq x.1):Int))<0
 ·simp only[c1,decide_true,cond_true];exact⟨0,fun k _=>by rw[dX,if_neg (by have:=gH c1;omega)]⟩
 obtain⟨d1,e1⟩:=cn c1
 simp only[c1,decide_false,cond_false]
 simp only[e1]
 exact⟨0,fun k _=>by first|rfl|(rw[dX,if_pos (by omega)];done)|(rw[dX,if_pos (by omega)];simp only[Option.some.injEq];omega)⟩
theorem PR(x:ar)(hx:(eC x)≤1073741824):Ev (fun k=>mz k x) x:=by
 refine au.run (fun k=>FC k x) ?_
 simp only[E5]
 simp only[eC]at hx
 exact au.const _
theorem Pt(x:(List ar))(hx:(jj x)≤1073741824):Ev (fun k=>o6 k x) x:=by
 refine au.run (fun k=>DM k x) ?_
 simp only[Bv]
 have hx0:=hx
 simp only[jj]at hx
 simp only[if_pos (show(0:Int)≤(x.length:Int)by omega),if_pos (Int.le_refl (x.length:Int)),if_pos (show(x.length:Int)*24≤(af:Int)by simp only[af];omega)]
 have hl:tO=rX mz:=rfl
 rw[hl]
 exact oG (fun y hy=>PR y (by have:=dU eC hy;omega)) (by omega) _ (by simp)
theorem SS(x:bF)(hx:(fq x)≤1073741824):Ev (fun k=>sY k x) x:=by
 refine au.run (fun k=>HV k x) ?_
 simp only[Hu]
 simp only[fq]at hx
 refine au.bind (El x.1 (by omega)) ?_
 refine au.bind (Pt x.2 (by omega)) ?_
 exact au.const _
theorem SR(x:fG)(hx:(kq x)≤1073741824):Ev (fun k=>tf k x) x:=by
 refine au.run (fun k=>HZ k x) ?_
 simp only[Ha]
 simp only[kq]at hx
 refine au.bind (Lz x.2.2 (by omega)) ?_
 exact au.const _
theorem SN(x:av):Ev (fun k=>nR k x) x:=by
 refine au.run (fun k=>H9 k x) ?_
 simp only[GO]
 exact au.const _
theorem QE(x:(List av))(hx:x.length≤1073741824):Ev (fun k=>rl k x) x:=by
 refine au.run (fun k=>FO k x) ?_
 simp only[DQ]
 simp only[if_pos (show(0:Int)≤(x.length:Int)by omega),if_pos (Int.le_refl (x.length:Int)),if_pos (show(x.length:Int)*24≤(af:Int)by simp only[af];omega)]
 have hl:wD=rX nR:=rfl
 rw[hl]
 exact oG (fun y hy=>SN y) (by omega) _ (by simp)
theorem SW(x:bL)(hx:(ea x)≤1073741824):Ev (fun k=>nV k x) x:=by
 refine au.run (fun k=>HT k x) ?_
 simp only[GH]
 simp only[ea]at hx
 refine au.bind (SR x.1 (by omega)) ?_
 refine au.bind (QE x.2 (by omega)) ?_
 exact au.const _
theorem QX(x:(List bL))(hx:(ew x)≤1073741824):Ev (fun k=>rq k x) x:=by
 refine au.run (fun k=>Gr k x) ?_
 simp only[Dz]
 have hx0:=hx
 simp only[ew]at hx
 simp only[if_pos (show(0:Int)≤(x.length:Int)by omega),if_pos (Int.le_refl (x.length:Int)),if_pos (show(x.length:Int)*64≤(af:Int)by simp only[af];omega)]
 have hl:xj=rX nV:=rfl
 rw[hl]
 exact oG (fun y hy=>SW y (by have:=dU ea hy;omega)) (by omega) _ (by simp)
theorem PF(x:bx)(hx:(da x)≤1073741824):Ev (fun k=>pk k x) x:=by
 refine au.run (fun k=>DT k x) ?_
 simp only[BW]
 simp only[da]at hx
 refine au.bind (Rr x.1 (by omega)) ?_
 refine au.bind (QX x.2 (by omega)) ?_
 exact au.const _
theorem Nk(x:aY)(hx:(c5 x)≤1073741824):Ev (fun k=>eI k x) x:=by
 refine au.run (fun k=>Ct k x) ?_
 simp only[yP]
 simp only[c5]at hx
 refine au.bind (SS x.1 (by omega)) ?_
 refine au.bind (PF x.2.2 (by omega)) ?_
 exact au.const _
def lY(x:DStep):Nat:=(eC x.2)
theorem SV(x:DStep)(hx:(lY x)≤1073741824):Ev (fun k=>nW k (x,x)) true:=by
 refine au.run (fun k=>Ib k x x) ?_
 simp only[Hn]
 simp only[lY]at hx
 simp only[bne_self_eq_false,gb,Bool.not_true,cond_false]
 refine au.bind (JT x.2 (by omega)) ?_
 simp only[Bool.not_true,cond_false]
 exact au.const _
def zT(x:List DStep):Nat:=x.length+(x.map lY).sum
theorem Qo(x:(List DStep))(hx:(zT x)≤1073741824):Ev (fun k=>iX k (x,x)) true:=by
 refine au.run (fun k=>Fu k x x) ?_
 simp only[ER]
 have hx0:=hx
 simp only[zT]at hx
 simp only[bne_self_eq_false,cond_false]
 have hl:wC=SY nW:=rfl
 rw[hl]
 exact vU (fun y hy=>SV y (by have:=dU lY hy;omega)) (by omega)
end Go.Proofs.YtmmgfgfkkpeedaaGreat

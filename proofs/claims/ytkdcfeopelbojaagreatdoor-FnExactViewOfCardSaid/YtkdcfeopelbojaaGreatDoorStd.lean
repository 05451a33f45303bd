/- The tables, the residual functions and lemmas of this seat: parts of the proof of the law; conditions: those that each names. -/
import Derived.Test.YtkdcfeopelbojaaGreatDoorRes
set_option linter.unusedVariables false
set_option linter.unusedSimpArgs false
set_option maxRecDepth 100000
namespace Go.Proofs.YtkdcfeopelbojaaGreatDoor
open Go.Eng
theorem Kd:∀(n:Nat) (s:ByteArray),s.size+n<9223372036854775000→∃r,cI iJ ((n:Int),s) r:=by
 intro n
 induction n using Nat.strongRecOn with
 |_ n ih=>
  intro s hs
  by_cases h0:n=0
  ·subst h0
   refine⟨(⟨#[109]⟩:ByteArray)++s,cI.stop ?_⟩
   have h1:(⟨#[109]⟩:ByteArray).size+s.size≤9223372036854775807:=by
    have:(⟨#[109]⟩:ByteArray).size=1:=rfl
    omega
   simp only[iJ,Int.ofNat_zero,Int.lt_irrefl,decide_false,cond_false,if_pos h1]
   exact aw.const _
  ·have hc:(ofBytes [(aa .u8 (aa .i64 ((48:Int)+((n:Int).tmod (10:Int)))))]).size=1:=rfl
   obtain⟨r,hr⟩:=ih (n / 10) (by omega) (ofBytes [(aa .u8 (aa .i64 ((48:Int)+((n:Int).tmod (10:Int)))))]++s) (by rw[ByteArray.size_append,hc];omega)
   refine⟨r,cI.step (d':=(((n / 10:Nat):Int),ofBytes [(aa .u8 (aa .i64 ((48:Int)+((n:Int).tmod (10:Int)))))]++s)) ?_ hr⟩
   have h1:(0:Int)<(n:Int):=by omega
   have h2:aa .i64 ((n:Int).tdiv 10)=((n / 10:Nat):Int):=by
    have e:(n:Int).tdiv 10=((n / 10:Nat):Int):=by rw[Int.tdiv_eq_ediv_of_nonneg (by omega)];omega
    rw[e];exact wrap_i64 (by omega) (by omega)
   have h3:(ofBytes [(aa .u8 (aa .i64 ((48:Int)+((n:Int).tmod (10:Int)))))]).size+s.size≤9223372036854775807:=by rw[hc];omega
   have h4:(10:Int)≠0:=by decide
   simp only[rZ,iJ,h1,decide_true,cond_true,if_pos h4,if_pos h3,h2]
   exact aw.const _
open Classical in
noncomputable def Ph(m:Int):ByteArray:=if h:∃s,Ev (fun k=>ez k m) s then h.choose else ByteArray.empty
theorem DY(m:Int)(h0:0≤m)(h1:m<4611686018427387904):Ev (fun k=>ez k m) (Ph m):=by
 have hex:∃s,Ev (fun k=>ez k m) s:=by
  by_cases hm:m≤0
  ·refine⟨(⟨#[109,48]⟩:ByteArray),aw.run (fun k=>pA k m) ?_⟩
   simp only[qh,hm,decide_true,cond_true]
   exact aw.const _
  ·obtain⟨n,rfl⟩:∃n:Nat,m=n:=⟨m.toNat,by omega⟩
   obtain⟨r,hr⟩:=Kd n ByteArray.empty (by have:ByteArray.empty.size=0:=rfl;omega)
   refine⟨r,aw.run (fun k=>pA k n) ?_⟩
   simp only[qh,hm,decide_false,cond_false]
   exact cI.ev hr
 unfold Ph
 rw[dif_pos hex]
 exact hex.choose_spec
theorem KY(x:(List aF))(hx:He ((.list false ei)) x){left:Int}(h0:0≤left)(h1:left≤1048576):Ev (fun k=>nr k (x,left)) (ju x.length left):=by
 refine aw.run (fun k=>BL k x left) ?_
 simp only[yl]
 have b0:x.length≤9223372036854775807:=hx.1
 have e0:aa .i64 (left-(x.length:Int))=left-x.length:=wrap_i64 (by omega) (by omega)
 simp only[e0]
 by_cases c0:left-(x.length:Int)<0
 ·simp only[c0,decide_true,cond_true];exact⟨0,fun k _=>by rw[ju,if_neg (by omega)]⟩
 simp only[c0,decide_false,cond_false]
 exact⟨0,fun k _=>by rw[ju,if_pos (by omega)]⟩
theorem IC(x:(List Int))(hx:He ((.list false (.int .i64))) x){left:Int}(h0:0≤left)(h1:left≤1048576):Ev (fun k=>l7 k (x,left)) (ju x.length left):=by
 refine aw.run (fun k=>D6 k x left) ?_
 simp only[DW]
 have b0:x.length≤9223372036854775807:=hx.1
 have e0:aa .i64 (left-(x.length:Int))=left-x.length:=wrap_i64 (by omega) (by omega)
 simp only[e0]
 by_cases c0:left-(x.length:Int)<0
 ·simp only[c0,decide_true,cond_true];exact⟨0,fun k _=>by rw[ju,if_neg (by omega)]⟩
 simp only[c0,decide_false,cond_false]
 exact⟨0,fun k _=>by rw[ju,if_pos (by omega)]⟩
theorem vo(x:(List aj))(hx:He ((.list false aK)) x){left:Int}(h0:0≤left)(h1:left≤1048576):Ev (fun k=>fU k (x,left)) (ju x.length left):=by
 refine aw.run (fun k=>u4 k x left) ?_
 simp only[qD]
 have b0:x.length≤9223372036854775807:=hx.1
 have e0:aa .i64 (left-(x.length:Int))=left-x.length:=wrap_i64 (by omega) (by omega)
 simp only[e0]
 by_cases c0:left-(x.length:Int)<0
 ·simp only[c0,decide_true,cond_true];exact⟨0,fun k _=>by rw[ju,if_neg (by omega)]⟩
 simp only[c0,decide_false,cond_false]
 exact⟨0,fun k _=>by rw[ju,if_pos (by omega)]⟩
def cT(x:aA):Nat:=x.2.2.2.2.2.2.2.1.length+x.2.2.2.2.2.2.2.2.1.length+x.2.2.2.2.2.2.2.2.2.length
theorem ML(x:aA)(hx:He (cL) x){left:Int}(h0:0≤left)(h1:left≤1048576):Ev (fun k=>ix k (x,left)) (ju (cT x) left):=by
 refine aw.run (fun k=>Cs k x left) ?_
 simp only[AP,cT]
 refine aw.bind (IC x.2.2.2.2.2.2.2.1 hx.2.2.2.2.2.2.2.1 (left:=left) (by omega) (by omega)) ?_
 by_cases c0:ju x.2.2.2.2.2.2.2.1.length (left)<0
 ·simp only[c0,decide_true,cond_true];exact⟨0,fun k _=>by rw[ju,if_neg (by have:=sU c0;omega)]⟩
 obtain⟨d0,e0⟩:=eY c0
 simp only[c0,decide_false,cond_false]
 simp only[e0]
 refine aw.bind (vo x.2.2.2.2.2.2.2.2.1 hx.2.2.2.2.2.2.2.2.1 (left:=left-(x.2.2.2.2.2.2.2.1.length:Int)) (by omega) (by omega)) ?_
 by_cases c1:ju x.2.2.2.2.2.2.2.2.1.length (left-(x.2.2.2.2.2.2.2.1.length:Int))<0
 ·simp only[c1,decide_true,cond_true];exact⟨0,fun k _=>by rw[ju,if_neg (by have:=sU c1;omega)]⟩
 obtain⟨d1,e1⟩:=eY c1
 simp only[c1,decide_false,cond_false]
 simp only[e1]
 refine aw.bind (vo x.2.2.2.2.2.2.2.2.2 hx.2.2.2.2.2.2.2.2.2 (left:=left-(x.2.2.2.2.2.2.2.1.length:Int)-(x.2.2.2.2.2.2.2.2.1.length:Int)) (by omega) (by omega)) ?_
 by_cases c2:ju x.2.2.2.2.2.2.2.2.2.length (left-(x.2.2.2.2.2.2.2.1.length:Int)-(x.2.2.2.2.2.2.2.2.1.length:Int))<0
 ·simp only[c2,decide_true,cond_true];exact⟨0,fun k _=>by rw[ju,if_neg (by have:=sU c2;omega)]⟩
 obtain⟨d2,e2⟩:=eY c2
 simp only[c2,decide_false,cond_false]
 simp only[e2]
 exact⟨0,fun k _=>by first|rfl|(rw[ju,if_pos (by omega)];done)|(rw[ju,if_pos (by omega)];simp only[Option.some.injEq];omega)⟩
def cO(x:List aA):Nat:=x.length+(x.map cT).sum
theorem LI(x:(List aA))(hx:He ((.list false cL)) x){left:Int}(h0:0≤left)(h1:left≤1048576):Ev (fun k=>nB k (x,left)) (ju (cO x) left):=by
 refine aw.run (fun k=>Bt k x left) ?_
 simp only[yw]
 have b0:x.length≤9223372036854775807:=hx.1
 have e0:aa .i64 (left-(x.length:Int))=left-x.length:=wrap_i64 (by omega) (by omega)
 simp only[e0]
 by_cases c0:left-(x.length:Int)<0
 ·simp only[c0,decide_true,cond_true];exact⟨0,fun k _=>by rw[ju,if_neg (by simp only[cO];omega)]⟩
 simp only[c0,decide_false,cond_false]
 have hl2:qM=QX ix:=rfl
 rw[hl2]
 have:=PB (c:=ix) (sz:=cT) (l:=x) (fun y hy l h0 h1=>ML y (hx.2 y hy) h0 h1) (by omega) (left:=left-x.length) (by omega) (by omega)
 rw[NC (by omega)]at this
 exact this
def cp(x:List ByteArray):Nat:=x.length+(x.map fun y=>y.size).sum
theorem JV(x:(List ByteArray))(hx:He ((.list false .str)) x){left:Int}(h0:0≤left)(h1:left≤1048576):Ev (fun k=>lK k (x,left)) (ju (cp x) left):=by
 refine aw.run (fun k=>zR k x left) ?_
 simp only[vm]
 have b0:x.length≤9223372036854775807:=hx.1
 have e0:aa .i64 (left-(x.length:Int))=left-x.length:=wrap_i64 (by omega) (by omega)
 simp only[e0]
 by_cases c0:left-(x.length:Int)<0
 ·simp only[c0,decide_true,cond_true];exact⟨0,fun k _=>by rw[ju,if_neg (by simp only[cp];omega)]⟩
 simp only[c0,decide_false,cond_false]
 have hl2:pJ=QX zz:=by funext k self d;rw[←Pe k self d];rfl
 rw[hl2]
 have:=PB (c:=zz) (sz:=fun(y:ByteArray)=>y.size) (l:=x) (fun y hy l h0 h1=>Pq y (hx.2 y hy) h0 h1) (by omega) (left:=left-x.length) (by omega) (by omega)
 rw[NC (by omega)]at this
 exact this
def kJ(x:ck):Nat:=x.2.1.length+(cO x.2.2.1)+(cp x.2.2.2)
theorem RN(x:ck)(hx:He (fk) x){left:Int}(h0:0≤left)(h1:left≤1048576):Ev (fun k=>vJ k (x,left)) (ju (kJ x) left):=by
 refine aw.run (fun k=>HO k x left) ?_
 simp only[Ib,kJ]
 refine aw.bind (KY x.2.1 hx.2.1 (left:=left) (by omega) (by omega)) ?_
 by_cases c0:ju x.2.1.length (left)<0
 ·simp only[c0,decide_true,cond_true];exact⟨0,fun k _=>by rw[ju,if_neg (by have:=sU c0;omega)]⟩
 obtain⟨d0,e0⟩:=eY c0
 simp only[c0,decide_false,cond_false]
 simp only[e0]
 refine aw.bind (LI x.2.2.1 hx.2.2.1 (left:=left-(x.2.1.length:Int)) (by omega) (by omega)) ?_
 by_cases c1:ju (cO x.2.2.1) (left-(x.2.1.length:Int))<0
 ·simp only[c1,decide_true,cond_true];exact⟨0,fun k _=>by rw[ju,if_neg (by have:=sU c1;omega)]⟩
 obtain⟨d1,e1⟩:=eY c1
 simp only[c1,decide_false,cond_false]
 simp only[e1]
 refine aw.bind (JV x.2.2.2 hx.2.2.2 (left:=left-(x.2.1.length:Int)-((cO x.2.2.1):Int)) (by omega) (by omega)) ?_
 by_cases c2:ju (cp x.2.2.2) (left-(x.2.1.length:Int)-((cO x.2.2.1):Int))<0
 ·simp only[c2,decide_true,cond_true];exact⟨0,fun k _=>by rw[ju,if_neg (by have:=sU c2;omega)]⟩
 obtain⟨d2,e2⟩:=eY c2
 simp only[c2,decide_false,cond_false]
 simp only[e2]
 exact⟨0,fun k _=>by first|rfl|(rw[ju,if_pos (by omega)];done)|(rw[ju,if_pos (by omega)];simp only[Option.some.injEq];omega)⟩
def mK(x:aT):Nat:=x.2.2.length
theorem NV(x:aT)(hx:He (dL) x){left:Int}(h0:0≤left)(h1:left≤1048576):Ev (fun k=>qm k (x,left)) (ju (mK x) left):=by
 refine aw.run (fun k=>D9 k x left) ?_
 simp only[Dm,mK]
 refine aw.bind (IC x.2.2 hx.2.2 (left:=left) (by omega) (by omega)) ?_
 by_cases c0:ju x.2.2.length (left)<0
 ·simp only[c0,decide_true,cond_true];exact⟨0,fun k _=>by rw[ju,if_neg (by have:=sU c0;omega)]⟩
 obtain⟨d0,e0⟩:=eY c0
 simp only[c0,decide_false,cond_false]
 simp only[e0]
 exact⟨0,fun k _=>by first|rfl|(rw[ju,if_pos (by omega)];done)|(rw[ju,if_pos (by omega)];simp only[Option.some.injEq];omega)⟩
theorem Mi(x:aF):Ev (fun k=>la k x) x:=by
 refine aw.run (fun k=>BY k x) ?_
 simp only[AY]
 exact aw.const _
theorem Kg(x:(List aF))(hx:x.length≤1073741824):Ev (fun k=>mX k x) x:=by
 refine aw.run (fun k=>AG k x) ?_
 simp only[yF]
 simp only[if_pos (show(0:Int)≤(x.length:Int)by omega),if_pos (Int.le_refl (x.length:Int)),if_pos (show(x.length:Int)*16≤(au:Int)by simp only[au];omega)]
 have hl:rF=vn la:=rfl
 rw[hl]
 exact vi (fun y hy=>Mi y) (by omega) _ (by simp)
theorem IE(x:(List Int))(hx:x.length≤1073741824):Ev (fun k=>ml k x) x:=by
 refine aw.run (fun k=>Eu k x) ?_
 simp only[DM]
 simp only[if_pos (show(0:Int)≤(x.length:Int)by omega),if_pos (Int.le_refl (x.length:Int)),if_pos (show(x.length:Int)*8≤(au:Int)by simp only[au];omega)]
 have hl:oc=vn fun _ y=>some y:=(show oc=JJ from rfl).trans IB
 rw[hl]
 exact vi (fun y _=>aw.const _) (by omega) _ (by simp)
theorem HF(x:aj):Ev (fun k=>gS k x) x:=by
 refine aw.run (fun k=>xI k x) ?_
 simp only[uf]
 exact aw.const _
theorem vW(x:(List aj))(hx:x.length≤1073741824):Ev (fun k=>fV k x) x:=by
 refine aw.run (fun k=>vX k x) ?_
 simp only[ry]
 simp only[if_pos (show(0:Int)≤(x.length:Int)by omega),if_pos (Int.le_refl (x.length:Int)),if_pos (show(x.length:Int)*24≤(au:Int)by simp only[au];omega)]
 have hl:nC=vn gS:=rfl
 rw[hl]
 exact vi (fun y hy=>HF y) (by omega) _ (by simp)
theorem LX(x:aA)(hx:(cT x)≤1073741824):Ev (fun k=>kr k x) x:=by
 refine aw.run (fun k=>CG k x) ?_
 simp only[A8]
 simp only[cT]at hx
 refine aw.bind (IE x.2.2.2.2.2.2.2.1 (by omega)) ?_
 refine aw.bind (vW x.2.2.2.2.2.2.2.2.1 (by omega)) ?_
 refine aw.bind (vW x.2.2.2.2.2.2.2.2.2 (by omega)) ?_
 exact aw.const _
theorem Kr(x:(List aA))(hx:(cO x)≤1073741824):Ev (fun k=>mZ k x) x:=by
 refine aw.run (fun k=>AH k x) ?_
 simp only[yX]
 have hx0:=hx
 simp only[cO]at hx
 simp only[if_pos (show(0:Int)≤(x.length:Int)by omega),if_pos (Int.le_refl (x.length:Int)),if_pos (show(x.length:Int)*128≤(au:Int)by simp only[au];omega)]
 have hl:rq=vn kr:=rfl
 rw[hl]
 exact vi (fun y hy=>LX y (by have:=nZ cT hy;omega)) (by omega) _ (by simp)
theorem JQ(x:(List ByteArray))(hx:(cp x)≤1073741824):Ev (fun k=>lx k x) x:=by
 refine aw.run (fun k=>zM k x) ?_
 simp only[vC]
 have hx0:=hx
 simp only[cp]at hx
 simp only[if_pos (show(0:Int)≤(x.length:Int)by omega),if_pos (Int.le_refl (x.length:Int)),if_pos (show(x.length:Int)*16≤(au:Int)by simp only[au];omega)]
 have hl:kK=vn fun _ y=>some y:=(show kK=JJ from rfl).trans IB
 rw[hl]
 exact vi (fun y _=>aw.const _) (by omega) _ (by simp)
theorem QY(x:ck)(hx:(kJ x)≤1073741824):Ev (fun k=>kk k x) x:=by
 refine aw.run (fun k=>Hu k x) ?_
 simp only[ID]
 simp only[kJ]at hx
 refine aw.bind (Kg x.2.1 (by omega)) ?_
 refine aw.bind (Kr x.2.2.1 (by omega)) ?_
 refine aw.bind (JQ x.2.2.2 (by omega)) ?_
 exact aw.const _
theorem Ot(x:aT)(hx:(mK x)≤1073741824):Ev (fun k=>gD k x) x:=by
 refine aw.run (fun k=>Eg k x) ?_
 simp only[C9]
 simp only[mK]at hx
 refine aw.bind (IE x.2.2 (by omega)) ?_
 exact aw.const _
theorem AJ(x:(List ByteArray))(hx:(cp x)≤1073741824):Ev (fun k=>dR k (x,x)) true:=by
 refine aw.run (fun k=>zF k x x) ?_
 simp only[wi]
 have hx0:=hx
 simp only[cp]at hx
 simp only[bne_self_eq_false,cond_false]
 have hl:ph=R5 (fun _ p=>some (EJ p.1 p.2)):=rfl
 rw[hl]
 exact Fq (fun y _=>by simp only[oO];exact aw.const _) (by omega)
theorem MG(x:aF):Ev (fun k=>ko k (x,x)) true:=by
 refine aw.run (fun k=>Ch k x x) ?_
 simp only[AD]
 simp only[bne_self_eq_false,oO,Bool.not_true,cond_false]
 exact aw.const _
theorem LJ(x:(List aF))(hx:x.length≤1073741824):Ev (fun k=>nc k (x,x)) true:=by
 refine aw.run (fun k=>BT k x x) ?_
 simp only[yj]
 simp only[bne_self_eq_false,cond_false]
 have hl:qT=R5 ko:=rfl
 rw[hl]
 exact Fq (fun y hy=>MG y) (by omega)
theorem IV(x:(List Int))(hx:x.length≤1073741824):Ev (fun k=>l4 k (x,x)) true:=by
 refine aw.run (fun k=>D8 k x x) ?_
 simp only[Dd]
 simp only[bne_self_eq_false,cond_false]
 have hl:vg=R5 (fun _ p=>some (p.1==p.2)):=rfl
 rw[hl]
 exact Fq (fun y _=>by simp only[beq_self_eq_true];exact aw.const _) (by omega)
theorem G3(x:aj):Ev (fun k=>gK k (x,x)) true:=by
 refine aw.run (fun k=>xw k x x) ?_
 simp only[ui]
 simp only[bne_self_eq_false,oO,Bool.not_true,cond_false]
 exact aw.const _
theorem vD(x:(List aj))(hx:x.length≤1073741824):Ev (fun k=>fE k (x,x)) true:=by
 refine aw.run (fun k=>uW k x x) ?_
 simp only[rW]
 simp only[bne_self_eq_false,cond_false]
 have hl:nG=R5 gK:=rfl
 rw[hl]
 exact Fq (fun y hy=>G3 y) (by omega)
theorem Mk(x:aA)(hx:(cT x)≤1073741824):Ev (fun k=>kN k (x,x)) true:=by
 refine aw.run (fun k=>CJ k x x) ?_
 simp only[An]
 simp only[cT]at hx
 simp only[bne_self_eq_false,oO,Bool.not_true,cond_false]
 refine aw.bind (IV x.2.2.2.2.2.2.2.1 (by omega)) ?_
 simp only[Bool.not_true,cond_false]
 refine aw.bind (vD x.2.2.2.2.2.2.2.2.1 (by omega)) ?_
 simp only[Bool.not_true,cond_false]
 refine aw.bind (vD x.2.2.2.2.2.2.2.2.2 (by omega)) ?_
 simp only[Bool.not_true,cond_false]
 exact aw.const _
theorem Lw(x:(List aA))(hx:(cO x)≤1073741824):Ev (fun k=>nu k (x,x)) true:=by
 refine aw.run (fun k=>Ah k x x) ?_
 simp only[yr]
 have hx0:=hx
 simp only[cO]at hx
 simp only[bne_self_eq_false,cond_false]
 have hl:rA=R5 kN:=rfl
 rw[hl]
 exact Fq (fun y hy=>Mk y (by have:=nZ cT hy;omega)) (by omega)
theorem R2(x:ck)(hx:(kJ x)≤1073741824):Ev (fun k=>wI k (x,x)) true:=by
 refine aw.run (fun k=>HQ k x x) ?_
 simp only[Iw]
 simp only[kJ]at hx
 simp only[bne_self_eq_false,oO,Bool.not_true,cond_false]
 refine aw.bind (LJ x.2.1 (by omega)) ?_
 simp only[Bool.not_true,cond_false]
 refine aw.bind (Lw x.2.2.1 (by omega)) ?_
 simp only[Bool.not_true,cond_false]
 refine aw.bind (AJ x.2.2.2 (by omega)) ?_
 simp only[Bool.not_true,cond_false]
 exact aw.const _
theorem N1(x:aT)(hx:(mK x)≤1073741824):Ev (fun k=>ql k (x,x)) true:=by
 refine aw.run (fun k=>Ef k x x) ?_
 simp only[De]
 simp only[mK]at hx
 simp only[bne_self_eq_false,oO,Bool.not_true,cond_false]
 refine aw.bind (IV x.2.2 (by omega)) ?_
 simp only[Bool.not_true,cond_false]
 exact aw.const _
noncomputable def fq(_:ByteArray)(m:Int):ByteArray:=Ph (m)
theorem wF(l0:List ByteArray)(m0:Int)(h0:0≤m0)(h1:m0+1*l0.length<4611686018427387900):Ev (fun k=>fX k (l0,m0)) (m0+1*l0.length,fj fq 1 l0 m0):=by
 refine aw.run (fun k=>wH k l0 m0) ?_
 simp only[rG]
 refine cI.ev ?_
 refine AM (L:=fi) fq 1 l0 m0 (fun a b=>(a,b)) ?_ ?_
 ·intro i l x hl hx hi
  have hil:i<l.length:=by omega
  have hM:0≤m0+1*(i:Int)∧m0+1*(i:Int)+1<4611686018427387904:=by omega
  have hM2:m0+1*((i+1:Nat):Int)=(m0+1*(i:Int))+1:=by omega
  simp only[hM2]
  generalize hMd:m0+1*(i:Int)=M at*
  have w1:aa .i64 (M+1)=M+1:=wrap_i64 (by omega) (by omega)
  simp only[rZ,fi,Int.toNat_natCast,hx,Option.bind_some,Int.natCast_nonneg,if_true,Int.ofNat_lt,hil,decide_true,cond_true,List.length_set,List.getElem?_set_self hil,List.set_set,gx hil (by omega),fq,w1]
  refine aw.jt (DY _ (by omega) (by omega)) ?_
  try simp only[Int.toNat_natCast,hx,Option.bind_some,Int.natCast_nonneg,if_true,Int.ofNat_lt,hil,decide_true,cond_true,List.length_set,List.getElem?_set_self hil,List.set_set,w1]
  exact aw.const _
 ·intro l hl
  refine cI.stop ?_
  simp only[fi,hl,Int.ofNat_lt,Nat.lt_irrefl,decide_false,cond_false]
  exact aw.const _
noncomputable def GS(_:aF)(m:Int):aF:=(m,m+1)
theorem Hw(l0:List aF)(m0:Int)(h0:0≤m0)(h1:m0+2*l0.length<4611686018427387900):Ev (fun k=>kx k (l0,m0)) (m0+2*l0.length,fj GS 2 l0 m0):=by
 refine aw.run (fun k=>xA k l0 m0) ?_
 simp only[tP]
 refine cI.ev ?_
 refine AM (L:=fL) GS 2 l0 m0 (fun a b=>(a,b)) ?_ ?_
 ·intro i l x hl hx hi
  have hil:i<l.length:=by omega
  have hM:0≤m0+2*(i:Int)∧m0+2*(i:Int)+2<4611686018427387904:=by omega
  have hM2:m0+2*((i+1:Nat):Int)=(m0+2*(i:Int))+1+1:=by omega
  simp only[hM2]
  generalize hMd:m0+2*(i:Int)=M at*
  have w1:aa .i64 (M+1)=M+1:=wrap_i64 (by omega) (by omega)
  have w2:aa .i64 (M+1+1)=M+1+1:=wrap_i64 (by omega) (by omega)
  simp only[rZ,fL,Int.toNat_natCast,hx,Option.bind_some,Int.natCast_nonneg,if_true,Int.ofNat_lt,hil,decide_true,cond_true,List.length_set,List.getElem?_set_self hil,List.set_set,gx hil (by omega),GS,w1,w2]
  exact aw.const _
 ·intro l hl
  refine cI.stop ?_
  simp only[fL,hl,Int.ofNat_lt,Nat.lt_irrefl,decide_false,cond_false]
  exact aw.const _
noncomputable def Jz(_:Int)(m:Int):Int:=m
theorem Dk(l0:List Int)(m0:Int)(h0:0≤m0)(h1:m0+1*l0.length<4611686018427387900):Ev (fun k=>jB k (l0,m0)) (m0+1*l0.length,fj Jz 1 l0 m0):=by
 refine aw.run (fun k=>BJ k l0 m0) ?_
 simp only[xW]
 refine cI.ev ?_
 refine AM (L:=iC) Jz 1 l0 m0 (fun a b=>(a,b)) ?_ ?_
 ·intro i l x hl hx hi
  have hil:i<l.length:=by omega
  have hM:0≤m0+1*(i:Int)∧m0+1*(i:Int)+1<4611686018427387904:=by omega
  have hM2:m0+1*((i+1:Nat):Int)=(m0+1*(i:Int))+1:=by omega
  simp only[hM2]
  generalize hMd:m0+1*(i:Int)=M at*
  have w1:aa .i64 (M+1)=M+1:=wrap_i64 (by omega) (by omega)
  simp only[rZ,iC,Int.toNat_natCast,hx,Option.bind_some,Int.natCast_nonneg,if_true,Int.ofNat_lt,hil,decide_true,cond_true,List.length_set,List.getElem?_set_self hil,List.set_set,gx hil (by omega),Jz,w1]
  exact aw.const _
 ·intro l hl
  refine cI.stop ?_
  simp only[iC,hl,Int.ofNat_lt,Nat.lt_irrefl,decide_false,cond_false]
  exact aw.const _
noncomputable def mH(_:aj)(m:Int):aj:=(m,m+1,m+1+1)
theorem qF(l0:List aj)(m0:Int)(h0:0≤m0)(h1:m0+3*l0.length<4611686018427387900):Ev (fun k=>eL k (l0,m0)) (m0+3*l0.length,fj mH 3 l0 m0):=by
 refine aw.run (fun k=>sC k l0 m0) ?_
 simp only[oJ]
 refine cI.ev ?_
 refine AM (L:=eo) mH 3 l0 m0 (fun a b=>(a,b)) ?_ ?_
 ·intro i l x hl hx hi
  have hil:i<l.length:=by omega
  have hM:0≤m0+3*(i:Int)∧m0+3*(i:Int)+3<4611686018427387904:=by omega
  have hM2:m0+3*((i+1:Nat):Int)=(m0+3*(i:Int))+1+1+1:=by omega
  simp only[hM2]
  generalize hMd:m0+3*(i:Int)=M at*
  have w1:aa .i64 (M+1)=M+1:=wrap_i64 (by omega) (by omega)
  have w2:aa .i64 (M+1+1)=M+1+1:=wrap_i64 (by omega) (by omega)
  have w3:aa .i64 (M+1+1+1)=M+1+1+1:=wrap_i64 (by omega) (by omega)
  simp only[rZ,eo,Int.toNat_natCast,hx,Option.bind_some,Int.natCast_nonneg,if_true,Int.ofNat_lt,hil,decide_true,cond_true,List.length_set,List.getElem?_set_self hil,List.set_set,gx hil (by omega),mH,w1,w2,w3]
  exact aw.const _
 ·intro l hl
  refine cI.stop ?_
  simp only[eo,hl,Int.ofNat_lt,Nat.lt_irrefl,decide_false,cond_false]
  exact aw.const _
theorem Fk(l0:List ByteArray)(m0:Int)(h0:0≤m0)(h1:m0+1*l0.length<4611686018427387900):Ev (fun k=>fO k (fj fq 1 l0 m0,m0)) (m0+1*l0.length):=by
 refine aw.run (fun k=>vH k (fj fq 1 l0 m0) m0) ?_
 simp only[rH]
 refine cI.ev ?_
 have hlen:=fN fq 1 l0 m0
 refine O9 (L:=fg) (fun m i=>(fj fq 1 l0 m0,m,i)) fq 1 l0 m0 ?_ ?_
 ·intro i x hx hi
  have hil:i<(fj fq 1 l0 m0).length:=by omega
  generalize hG:fj fq 1 l0 m0=G at*
  have hM:0≤m0+1*(i:Int)∧m0+1*(i:Int)+1<4611686018427387904:=by omega
  have hM2:m0+1*((i+1:Nat):Int)=(m0+1*(i:Int))+1:=by omega
  simp only[hM2]
  generalize hMd:m0+1*(i:Int)=M at*
  have w1:aa .i64 (M+1)=M+1:=wrap_i64 (by omega) (by omega)
  simp only[fq]at hx
  simp only[rZ,fg,Int.toNat_natCast,hx,Option.bind_some,Int.natCast_nonneg,if_true,Int.ofNat_lt,hil,decide_true,cond_true,bne_self_eq_false,cond_false,gx hil (by omega),w1]
  refine aw.jt (DY _ (by omega) (by omega)) ?_
  try simp only[Int.toNat_natCast,hx,Option.bind_some,Int.natCast_nonneg,if_true,bne_self_eq_false,oO,Bool.not_true,cond_false,w1]
  exact aw.const _
 ·refine cI.stop ?_
  simp only[fg,hlen,Int.ofNat_lt,Nat.lt_irrefl,decide_false,cond_false]
  exact aw.const _
end Go.Proofs.YtkdcfeopelbojaaGreatDoor

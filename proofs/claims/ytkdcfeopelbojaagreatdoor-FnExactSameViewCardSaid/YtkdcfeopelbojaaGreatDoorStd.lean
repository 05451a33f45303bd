/- The tables, the residual functions and lemmas of this seat: parts of the proof of the law; conditions: those that each names. -/
import Derived.Test.YtkdcfeopelbojaaGreatDoorRes
set_option linter.unusedVariables false
set_option linter.unusedSimpArgs false
set_option maxRecDepth 100000
namespace Go.Proofs.YtkdcfeopelbojaaGreatDoor
open Go.Eng
theorem Jr(x:(List aI))(hx:F8 ((.list false eK)) x){left:Int}(h0:0≤left)(h1:left≤1048576):Ev (fun k=>mZ k (x,left)) (iY x.length left):=by
 refine ax.run (fun k=>zG k x left) ?_
 simp only[yk]
 have b0:x.length≤9223372036854775807:=hx.1
 have e0:aa .i64 (left-(x.length:Int))=left-x.length:=wrap_i64 (by omega) (by omega)
 simp only[e0]
 by_cases c0:left-(x.length:Int)<0
 ·simp only[c0,decide_true,cond_true];exact⟨0,fun k _=>by rw[iY,if_neg (by omega)]⟩
 simp only[c0,decide_false,cond_false]
 exact⟨0,fun k _=>by rw[iY,if_pos (by omega)]⟩
theorem Hh(x:(List Int))(hx:F8 ((.list false (.int .i64))) x){left:Int}(h0:0≤left)(h1:left≤1048576):Ev (fun k=>lV k (x,left)) (iY x.length left):=by
 refine ax.run (fun k=>Dn k x left) ?_
 simp only[CV]
 have b0:x.length≤9223372036854775807:=hx.1
 have e0:aa .i64 (left-(x.length:Int))=left-x.length:=wrap_i64 (by omega) (by omega)
 simp only[e0]
 by_cases c0:left-(x.length:Int)<0
 ·simp only[c0,decide_true,cond_true];exact⟨0,fun k _=>by rw[iY,if_neg (by omega)]⟩
 simp only[c0,decide_false,cond_false]
 exact⟨0,fun k _=>by rw[iY,if_pos (by omega)]⟩
theorem uR(x:(List aj))(hx:F8 ((.list false aL)) x){left:Int}(h0:0≤left)(h1:left≤1048576):Ev (fun k=>fC k (x,left)) (iY x.length left):=by
 refine ax.run (fun k=>vn k x left) ?_
 simp only[qn]
 have b0:x.length≤9223372036854775807:=hx.1
 have e0:aa .i64 (left-(x.length:Int))=left-x.length:=wrap_i64 (by omega) (by omega)
 simp only[e0]
 by_cases c0:left-(x.length:Int)<0
 ·simp only[c0,decide_true,cond_true];exact⟨0,fun k _=>by rw[iY,if_neg (by omega)]⟩
 simp only[c0,decide_false,cond_false]
 exact⟨0,fun k _=>by rw[iY,if_pos (by omega)]⟩
def c7(x:aE):Nat:=x.2.2.2.2.2.2.2.1.length+x.2.2.2.2.2.2.2.2.1.length+x.2.2.2.2.2.2.2.2.2.length
theorem LU(x:aE)(hx:F8 (cK) x){left:Int}(h0:0≤left)(h1:left≤1048576):Ev (fun k=>gW k (x,left)) (iY (c7 x) left):=by
 refine ax.run (fun k=>B8 k x left) ?_
 simp only[AB,c7]
 refine ax.bind (Hh x.2.2.2.2.2.2.2.1 hx.2.2.2.2.2.2.2.1 (left:=left) (by omega) (by omega)) ?_
 by_cases c0:iY x.2.2.2.2.2.2.2.1.length (left)<0
 ·simp only[c0,decide_true,cond_true];exact⟨0,fun k _=>by rw[iY,if_neg (by have:=sE c0;omega)]⟩
 obtain⟨d0,e0⟩:=ed c0
 simp only[c0,decide_false,cond_false]
 simp only[e0]
 refine ax.bind (uR x.2.2.2.2.2.2.2.2.1 hx.2.2.2.2.2.2.2.2.1 (left:=left-(x.2.2.2.2.2.2.2.1.length:Int)) (by omega) (by omega)) ?_
 by_cases c1:iY x.2.2.2.2.2.2.2.2.1.length (left-(x.2.2.2.2.2.2.2.1.length:Int))<0
 ·simp only[c1,decide_true,cond_true];exact⟨0,fun k _=>by rw[iY,if_neg (by have:=sE c1;omega)]⟩
 obtain⟨d1,e1⟩:=ed c1
 simp only[c1,decide_false,cond_false]
 simp only[e1]
 refine ax.bind (uR x.2.2.2.2.2.2.2.2.2 hx.2.2.2.2.2.2.2.2.2 (left:=left-(x.2.2.2.2.2.2.2.1.length:Int)-(x.2.2.2.2.2.2.2.2.1.length:Int)) (by omega) (by omega)) ?_
 by_cases c2:iY x.2.2.2.2.2.2.2.2.2.length (left-(x.2.2.2.2.2.2.2.1.length:Int)-(x.2.2.2.2.2.2.2.2.1.length:Int))<0
 ·simp only[c2,decide_true,cond_true];exact⟨0,fun k _=>by rw[iY,if_neg (by have:=sE c2;omega)]⟩
 obtain⟨d2,e2⟩:=ed c2
 simp only[c2,decide_false,cond_false]
 simp only[e2]
 exact⟨0,fun k _=>by first|rfl|(rw[iY,if_pos (by omega)];done)|(rw[iY,if_pos (by omega)];simp only[Option.some.injEq];omega)⟩
def dz(x:List aE):Nat:=x.length+(x.map c7).sum
theorem JS(x:(List aE))(hx:F8 ((.list false cK)) x){left:Int}(h0:0≤left)(h1:left≤1048576):Ev (fun k=>mU k (x,left)) (iY (dz x) left):=by
 refine ax.run (fun k=>zy k x left) ?_
 simp only[xJ]
 have b0:x.length≤9223372036854775807:=hx.1
 have e0:aa .i64 (left-(x.length:Int))=left-x.length:=wrap_i64 (by omega) (by omega)
 simp only[e0]
 by_cases c0:left-(x.length:Int)<0
 ·simp only[c0,decide_true,cond_true];exact⟨0,fun k _=>by rw[iY,if_neg (by simp only[dz];omega)]⟩
 simp only[c0,decide_false,cond_false]
 have hl2:qU=PW gW:=rfl
 rw[hl2]
 have:=Pc (c:=gW) (sz:=c7) (l:=x) (fun y hy l h0 h1=>LU y (hx.2 y hy) h0 h1) (by omega) (left:=left-x.length) (by omega) (by omega)
 rw[MG (by omega)]at this
 exact this
def dP(x:List ByteArray):Nat:=x.length+(x.map fun y=>y.size).sum
theorem IC(x:(List ByteArray))(hx:F8 ((.list false .str)) x){left:Int}(h0:0≤left)(h1:left≤1048576):Ev (fun k=>k8 k (x,left)) (iY (dP x) left):=by
 refine ax.run (fun k=>za k x left) ?_
 simp only[vA]
 have b0:x.length≤9223372036854775807:=hx.1
 have e0:aa .i64 (left-(x.length:Int))=left-x.length:=wrap_i64 (by omega) (by omega)
 simp only[e0]
 by_cases c0:left-(x.length:Int)<0
 ·simp only[c0,decide_true,cond_true];exact⟨0,fun k _=>by rw[iY,if_neg (by simp only[dP];omega)]⟩
 simp only[c0,decide_false,cond_false]
 have hl2:oP=PW zb:=by funext k self d;rw[←OR k self d];rfl
 rw[hl2]
 have:=Pc (c:=zb) (sz:=fun(y:ByteArray)=>y.size) (l:=x) (fun y hy l h0 h1=>Oq y (hx.2 y hy) h0 h1) (by omega) (left:=left-x.length) (by omega) (by omega)
 rw[MG (by omega)]at this
 exact this
def iT(x:bW):Nat:=x.2.1.length+(dz x.2.2.1)+(dP x.2.2.2)
theorem Mi(x:bW)(hx:F8 (dX) x){left:Int}(h0:0≤left)(h1:left≤1048576):Ev (fun k=>oO k (x,left)) (iY (iT x) left):=by
 refine ax.run (fun k=>Gu k x left) ?_
 simp only[Hj,iT]
 refine ax.bind (Jr x.2.1 hx.2.1 (left:=left) (by omega) (by omega)) ?_
 by_cases c0:iY x.2.1.length (left)<0
 ·simp only[c0,decide_true,cond_true];exact⟨0,fun k _=>by rw[iY,if_neg (by have:=sE c0;omega)]⟩
 obtain⟨d0,e0⟩:=ed c0
 simp only[c0,decide_false,cond_false]
 simp only[e0]
 refine ax.bind (JS x.2.2.1 hx.2.2.1 (left:=left-(x.2.1.length:Int)) (by omega) (by omega)) ?_
 by_cases c1:iY (dz x.2.2.1) (left-(x.2.1.length:Int))<0
 ·simp only[c1,decide_true,cond_true];exact⟨0,fun k _=>by rw[iY,if_neg (by have:=sE c1;omega)]⟩
 obtain⟨d1,e1⟩:=ed c1
 simp only[c1,decide_false,cond_false]
 simp only[e1]
 refine ax.bind (IC x.2.2.2 hx.2.2.2 (left:=left-(x.2.1.length:Int)-((dz x.2.2.1):Int)) (by omega) (by omega)) ?_
 by_cases c2:iY (dP x.2.2.2) (left-(x.2.1.length:Int)-((dz x.2.2.1):Int))<0
 ·simp only[c2,decide_true,cond_true];exact⟨0,fun k _=>by rw[iY,if_neg (by have:=sE c2;omega)]⟩
 obtain⟨d2,e2⟩:=ed c2
 simp only[c2,decide_false,cond_false]
 simp only[e2]
 exact⟨0,fun k _=>by first|rfl|(rw[iY,if_pos (by omega)];done)|(rw[iY,if_pos (by omega)];simp only[Option.some.injEq];omega)⟩
def mn(x:aS):Nat:=x.2.2.length
theorem NG(x:aS)(hx:F8 (df) x){left:Int}(h0:0≤left)(h1:left≤1048576):Ev (fun k=>pS k (x,left)) (iY (mn x) left):=by
 refine ax.run (fun k=>Dm k x left) ?_
 simp only[CW,mn]
 refine ax.bind (Hh x.2.2 hx.2.2 (left:=left) (by omega) (by omega)) ?_
 by_cases c0:iY x.2.2.length (left)<0
 ·simp only[c0,decide_true,cond_true];exact⟨0,fun k _=>by rw[iY,if_neg (by have:=sE c0;omega)]⟩
 obtain⟨d0,e0⟩:=ed c0
 simp only[c0,decide_false,cond_false]
 simp only[e0]
 exact⟨0,fun k _=>by first|rfl|(rw[iY,if_pos (by omega)];done)|(rw[iY,if_pos (by omega)];simp only[Option.some.injEq];omega)⟩
theorem LQ(x:aI):Ev (fun k=>kz k x) x:=by
 refine ax.run (fun k=>B2 k x) ?_
 simp only[zI]
 exact ax.const _
theorem JN(x:(List aI))(hx:x.length≤1073741824):Ev (fun k=>mM k x) x:=by
 refine ax.run (fun k=>Ac k x) ?_
 simp only[xF]
 simp only[if_pos (show(0:Int)≤(x.length:Int)by omega),if_pos (Int.le_refl (x.length:Int)),if_pos (show(x.length:Int)*16≤(au:Int)by simp only[au];omega)]
 have hl:qt=ue kz:=rfl
 rw[hl]
 exact vF (fun y hy=>LQ y) (by omega) _ (by simp)
theorem HK(x:(List Int))(hx:x.length≤1073741824):Ev (fun k=>lR k x) x:=by
 refine ax.run (fun k=>DK k x) ?_
 simp only[C3]
 simp only[if_pos (show(0:Int)≤(x.length:Int)by omega),if_pos (Int.le_refl (x.length:Int)),if_pos (show(x.length:Int)*8≤(au:Int)by simp only[au];omega)]
 have hl:oE=ue fun _ y=>some y:=(show oE=Jg from rfl).trans GV
 rw[hl]
 exact vF (fun y _=>ax.const _) (by omega) _ (by simp)
theorem Gj(x:aj):Ev (fun k=>gL k x) x:=by
 refine ax.run (fun k=>wP k x) ?_
 simp only[tn]
 exact ax.const _
theorem vJ(x:(List aj))(hx:x.length≤1073741824):Ev (fun k=>fR k x) x:=by
 refine ax.run (fun k=>vI k x) ?_
 simp only[rB]
 simp only[if_pos (show(0:Int)≤(x.length:Int)by omega),if_pos (Int.le_refl (x.length:Int)),if_pos (show(x.length:Int)*24≤(au:Int)by simp only[au];omega)]
 have hl:nj=ue gL:=rfl
 rw[hl]
 exact vF (fun y hy=>Gj y) (by omega) _ (by simp)
theorem Le(x:aE)(hx:(c7 x)≤1073741824):Ev (fun k=>kK k x) x:=by
 refine ax.run (fun k=>BO k x) ?_
 simp only[zM]
 simp only[c7]at hx
 refine ax.bind (HK x.2.2.2.2.2.2.2.1 (by omega)) ?_
 refine ax.bind (vJ x.2.2.2.2.2.2.2.2.1 (by omega)) ?_
 refine ax.bind (vJ x.2.2.2.2.2.2.2.2.2 (by omega)) ?_
 exact ax.const _
theorem Kl(x:(List aE))(hx:(dz x)≤1073741824):Ev (fun k=>mS k x) x:=by
 refine ax.run (fun k=>Aw k x) ?_
 simp only[xG]
 have hx0:=hx
 simp only[dz]at hx
 simp only[if_pos (show(0:Int)≤(x.length:Int)by omega),if_pos (Int.le_refl (x.length:Int)),if_pos (show(x.length:Int)*128≤(au:Int)by simp only[au];omega)]
 have hl:qR=ue kK:=rfl
 rw[hl]
 exact vF (fun y hy=>Le y (by have:=nS c7 hy;omega)) (by omega) _ (by simp)
theorem IW(x:(List ByteArray))(hx:(dP x)≤1073741824):Ev (fun k=>lh k x) x:=by
 refine ax.run (fun k=>yw k x) ?_
 simp only[vO]
 have hx0:=hx
 simp only[dP]at hx
 simp only[if_pos (show(0:Int)≤(x.length:Int)by omega),if_pos (Int.le_refl (x.length:Int)),if_pos (show(x.length:Int)*16≤(au:Int)by simp only[au];omega)]
 have hl:ki=ue fun _ y=>some y:=(show ki=Jg from rfl).trans GV
 rw[hl]
 exact vF (fun y _=>ax.const _) (by omega) _ (by simp)
theorem ML(x:bW)(hx:(iT x)≤1073741824):Ev (fun k=>fA k x) x:=by
 refine ax.run (fun k=>GM k x) ?_
 simp only[Hm]
 simp only[iT]at hx
 refine ax.bind (JN x.2.1 (by omega)) ?_
 refine ax.bind (Kl x.2.2.1 (by omega)) ?_
 refine ax.bind (IW x.2.2.2 (by omega)) ?_
 exact ax.const _
theorem No(x:aS)(hx:(mn x)≤1073741824):Ev (fun k=>iX k x) x:=by
 refine ax.run (fun k=>DI k x) ?_
 simp only[C9]
 simp only[mn]at hx
 refine ax.bind (HK x.2.2 (by omega)) ?_
 exact ax.const _
theorem Iu(x:(List ByteArray))(hx:(dP x)≤1073741824):Ev (fun k=>lB k (x,x)) true:=by
 refine ax.run (fun k=>yq k x x) ?_
 simp only[uj]
 have hx0:=hx
 simp only[dP]at hx
 simp only[bne_self_eq_false,cond_false]
 have hl:o5=Qx (fun _ p=>some (Cl p.1 p.2)):=rfl
 rw[hl]
 exact FI (fun y _=>by simp only[qW];exact ax.const _) (by omega)
theorem LK(x:aI):Ev (fun k=>ku k (x,x)) true:=by
 refine ax.run (fun k=>B4 k x x) ?_
 simp only[AK]
 simp only[bne_self_eq_false,qW,Bool.not_true,cond_false]
 exact ax.const _
theorem KP(x:(List aI))(hx:x.length≤1073741824):Ev (fun k=>mW k (x,x)) true:=by
 refine ax.run (fun k=>zQ k x x) ?_
 simp only[xw]
 simp only[bne_self_eq_false,cond_false]
 have hl:qV=Qx ku:=rfl
 rw[hl]
 exact FI (fun y hy=>LK y) (by omega)
theorem HY(x:(List Int))(hx:x.length≤1073741824):Ev (fun k=>lY k (x,x)) true:=by
 refine ax.run (fun k=>Dw k x x) ?_
 simp only[CC]
 simp only[bne_self_eq_false,cond_false]
 have hl:vg=Qx (fun _ p=>some (p.1==p.2)):=rfl
 rw[hl]
 exact FI (fun y _=>by simp only[beq_self_eq_true];exact ax.const _) (by omega)
theorem Gk(x:aj):Ev (fun k=>gS k (x,x)) true:=by
 refine ax.run (fun k=>wQ k x x) ?_
 simp only[tP]
 simp only[bne_self_eq_false,qW,Bool.not_true,cond_false]
 exact ax.const _
theorem uT(x:(List aj))(hx:x.length≤1073741824):Ev (fun k=>fO k (x,x)) true:=by
 refine ax.run (fun k=>uV k x x) ?_
 simp only[rq]
 simp only[bne_self_eq_false,cond_false]
 have hl:nk=Qx gS:=rfl
 rw[hl]
 exact FI (fun y hy=>Gk y) (by omega)
theorem LH(x:aE)(hx:(c7 x)≤1073741824):Ev (fun k=>kN k (x,x)) true:=by
 refine ax.run (fun k=>BR k x x) ?_
 simp only[Be]
 simp only[c7]at hx
 simp only[bne_self_eq_false,qW,Bool.not_true,cond_false]
 refine ax.bind (HY x.2.2.2.2.2.2.2.1 (by omega)) ?_
 simp only[Bool.not_true,cond_false]
 refine ax.bind (uT x.2.2.2.2.2.2.2.2.1 (by omega)) ?_
 simp only[Bool.not_true,cond_false]
 refine ax.bind (uT x.2.2.2.2.2.2.2.2.2 (by omega)) ?_
 simp only[Bool.not_true,cond_false]
 exact ax.const _
theorem JI(x:(List aE))(hx:(dz x)≤1073741824):Ev (fun k=>mY k (x,x)) true:=by
 refine ax.run (fun k=>A3 k x x) ?_
 simp only[xy]
 have hx0:=hx
 simp only[dz]at hx
 simp only[bne_self_eq_false,cond_false]
 have hl:rD=Qx kN:=rfl
 rw[hl]
 exact FI (fun y hy=>LH y (by have:=nS c7 hy;omega)) (by omega)
theorem M5(x:bW)(hx:(iT x)≤1073741824):Ev (fun k=>pC k (x,x)) true:=by
 refine ax.run (fun k=>Gd k x x) ?_
 simp only[GW]
 simp only[iT]at hx
 simp only[bne_self_eq_false,qW,Bool.not_true,cond_false]
 refine ax.bind (KP x.2.1 (by omega)) ?_
 simp only[Bool.not_true,cond_false]
 refine ax.bind (JI x.2.2.1 (by omega)) ?_
 simp only[Bool.not_true,cond_false]
 refine ax.bind (Iu x.2.2.2 (by omega)) ?_
 simp only[Bool.not_true,cond_false]
 exact ax.const _
theorem Nf(x:aS)(hx:(mn x)≤1073741824):Ev (fun k=>pZ k (x,x)) true:=by
 refine ax.run (fun k=>DB k x x) ?_
 simp only[CO]
 simp only[mn]at hx
 simp only[bne_self_eq_false,qW,Bool.not_true,cond_false]
 refine ax.bind (HY x.2.2 (by omega)) ?_
 simp only[Bool.not_true,cond_false]
 exact ax.const _
end Go.Proofs.YtkdcfeopelbojaaGreatDoor

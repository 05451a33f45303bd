/- The tables, the residual functions and lemmas of this seat: parts of the proof of the law; conditions: those that each names. -/
import Derived.Test.YtkdcfeopelbojaaGreatDoorSml
set_option linter.unusedVariables false
set_option linter.unusedSimpArgs false
set_option maxRecDepth 100000
namespace Go.Proofs.YtkdcfeopelbojaaGreatDoor
open Go.Eng
theorem Jk:(10:Int)≠0:=by decide
theorem Np:∀(k u:Nat) (s:ByteArray),u<10 ^(k+1)→u<9223372036854775808→s.size+k≤1000→cZ eF ((u:Int),s) ⟨(Lib.decDigits u++s.data.toList).toArray⟩:=by
 intro k
 induction k with
 |zero=>
  intro u s h _ hs
  have hu:u<10:=by simpa using h
  have h9:¬(9:Int)<(u:Int):=by omega
  refine cZ.stop ?_
  have hsz:(ofBytes [((48+u:Nat):Int)]).size+s.size≤9223372036854775807:=by rw[cP,List.length_singleton];omega
  have e:ofBytes [((48+u:Nat):Int)]++s=⟨(Lib.decDigits u++s.data.toList).toArray⟩:=Bd (by rw[ByteArray.toList_data_append,lC,fZ hu])
  simp only[eF,h9,decide_false,cond_false,lL hu,if_pos hsz,e]
  exact ax.const _
 |succ k ih=>
  intro u s h h63 hs
  by_cases hu:u<10
  ·exact(by
    have h9:¬(9:Int)<(u:Int):=by omega
    refine cZ.stop ?_
    have hsz:(ofBytes [((48+u:Nat):Int)]).size+s.size≤9223372036854775807:=by rw[cP,List.length_singleton];omega
    have e:ofBytes [((48+u:Nat):Int)]++s=⟨(Lib.decDigits u++s.data.toList).toArray⟩:=Bd (by rw[ByteArray.toList_data_append,lC,fZ hu])
    simp only[eF,h9,decide_false,cond_false,lL hu,if_pos hsz,e]
    exact ax.const _)
  ·have h9:(9:Int)<(u:Int):=by omega
   have hm:u % 10<10:=by omega
   have hsz:(ofBytes [((48+u % 10:Nat):Int)]).size+s.size≤9223372036854775807:=by rw[cP,List.length_singleton];omega
   have hq:aa .i64 ((u / 10:Nat):Int)=((u / 10:Nat):Int):=by rw[aa,wrap_i64 (by omega) (by omega)]
   have hn:=ih (u / 10) (ofBytes [((48+u % 10:Nat):Int)]++s) (by rw[Nat.pow_succ]at h;omega) (by omega) (by rw[ByteArray.size_append,cP,List.length_singleton];omega)
   have e:Lib.decDigits (u / 10)++(ofBytes [((48+u % 10:Nat):Int)]++s).data.toList=Lib.decDigits u++s.data.toList:=by
    rw[ByteArray.toList_data_append,lC,pT hu,List.append_assoc]
   rw[e]at hn
   refine cZ.step ?_ hn
   simp only[wK,eF,h9,decide_true,cond_true,if_pos Jk,L9,DZ,lL hm,if_pos hsz,hq]
   exact ax.const _
theorem RC:∀(k m:Nat),0<m→m<10 ^(k+1)→m≤9223372036854775808→k≤100→Ev (fun n=>aZ n (-(m:Int))) ⟨(45::Lib.decDigits m).toArray⟩:=by
 intro k
 induction k with
 |zero=>
  intro m h0 h _ _
  have hm:m<10:=by simpa using h
  refine ax.run (fun n=>jG n _) ?_
  have hneg: -(m:Int)<0:=by omega
  have hq:(aa .i64 ((-(m:Int)).tdiv 10)==(0:Int))=true:=by
   rw[Int.neg_tdiv,DZ,show m / 10=0 by omega];rfl
  have hb:aa .u8 (aa .i64 ((48:Int)- -(m:Int)))=((48+m:Nat):Int):=by
   rw[show(48:Int)- -(m:Int)=48+m by omega];exact lL hm
  have hsz:(⟨#[45]⟩:ByteArray).size+(ofBytes [((48+m:Nat):Int)]).size≤9223372036854775807:=by rw[cP];show 1+1≤_;omega
  have e:(⟨#[45]⟩:ByteArray)++ofBytes [((48+m:Nat):Int)]=⟨(45::Lib.decDigits m).toArray⟩:=Bd (by rw[ByteArray.toList_data_append,lC,fZ hm];rfl)
  simp only[hY,hneg,decide_true,cond_true,if_pos Jk,hq,hb,if_pos hsz,e]
  exact ax.const _
 |succ k ih=>
  intro m h0 h h63 hk
  refine ax.run (fun n=>jG n _) ?_
  have hneg: -(m:Int)<0:=by omega
  by_cases hm:m<10
  ·have hq:(aa .i64 ((-(m:Int)).tdiv 10)==(0:Int))=true:=by
    rw[Int.neg_tdiv,DZ,show m / 10=0 by omega];rfl
   have hb:aa .u8 (aa .i64 ((48:Int)- -(m:Int)))=((48+m:Nat):Int):=by
    rw[show(48:Int)- -(m:Int)=48+m by omega];exact lL hm
   have hsz:(⟨#[45]⟩:ByteArray).size+(ofBytes [((48+m:Nat):Int)]).size≤9223372036854775807:=by rw[cP];show 1+1≤_;omega
   have e:(⟨#[45]⟩:ByteArray)++ofBytes [((48+m:Nat):Int)]=⟨(45::Lib.decDigits m).toArray⟩:=Bd (by rw[ByteArray.toList_data_append,lC,fZ hm];rfl)
   simp only[hY,hneg,decide_true,cond_true,if_pos Jk,hq,hb,if_pos hsz,e]
   exact ax.const _
  ·have hw:aa .i64 ((-(m:Int)).tdiv 10)= -((m / 10:Nat):Int):=by
    rw[Int.neg_tdiv,DZ,aa,wrap_i64 (by omega) (by omega)]
   have hq:(-((m / 10:Nat):Int)==(0:Int))=false:=by rw[beq_eq_false_iff_ne];omega
   have hd:m % 10<10:=by omega
   have hb:aa .u8 (aa .i64 ((48:Int)-(-(m:Int)).tmod 10))=((48+m % 10:Nat):Int):=by
    rw[Int.neg_tmod,L9,show(48:Int)- -((m % 10:Nat):Int)=48+((m % 10:Nat):Int)by omega];exact lL hd
   have hn:=ih (m / 10) (by omega) (by rw[Nat.pow_succ]at h;omega) (by omega) (by omega)
   have hl:=me k (m / 10) (by rw[Nat.pow_succ]at h;omega)
   have hsz:(⟨(45::Lib.decDigits (m / 10)).toArray⟩:ByteArray).size+(ofBytes [((48+m % 10:Nat):Int)]).size≤9223372036854775807:=by
    rw[cP,←uG,List.length_singleton]
    show(45::Lib.decDigits (m / 10)).length+1≤_
    rw[List.length_cons];omega
   have e:(⟨(45::Lib.decDigits (m / 10)).toArray⟩:ByteArray)++ofBytes [((48+m % 10:Nat):Int)]=⟨(45::Lib.decDigits m).toArray⟩:=Bd (by
    rw[ByteArray.toList_data_append,lC,pT hm];rfl)
   simp only[hY,hneg,decide_true,cond_true,if_pos Jk,hw,hq,cond_false,hb]
   refine ax.bind hn ?_
   simp only[if_pos hsz,e]
   exact ax.const _
theorem bz(n:Int)(h0: -9223372036854775808≤n)(h1:n≤9223372036854775807):Ev (fun k=>aZ k n) ⟨(Lib.itoa n).toArray⟩:=by
 unfold Lib.itoa
 by_cases hn:n<0
 ·rw[if_pos hn]
  obtain⟨m,rfl⟩:∃m:Nat,n= -(m:Int):=⟨n.natAbs,by omega⟩
  rw[Int.natAbs_neg,Int.natAbs_natCast]
  exact RC 19 m (by omega) (by omega) (by omega) (by omega)
 ·rw[if_neg hn]
  obtain⟨m,rfl⟩:∃m:Nat,n=(m:Int):=⟨n.toNat,by omega⟩
  rw[Int.toNat_natCast]
  refine ax.run (fun k=>jG k _) ?_
  simp only[hY,hn,decide_false,cond_false]
  have:=Np 19 m ByteArray.empty (by omega) (by omega) (by show 0+19≤1000;omega)
  rw[show(ByteArray.empty).data.toList=[]from rfl,List.append_nil]at this
  exact this.ev
theorem bx(n:Int)(h0: -9223372036854775808≤n)(h1:n≤9223372036854775807):Ev (fun k=>bn k n) ⟨(Lib.itoa n).toArray⟩:=by
 refine ax.run (fun k=>yQ k _) ?_
 simp only[vN]
 refine ax.bind (ax.run (fun k=>yl k _) ?_) (ax.const _)
 simp only[dU,if_pos (And.intro h0 h1)]
 exact ax.const _
end Go.Proofs.YtkdcfeopelbojaaGreatDoor

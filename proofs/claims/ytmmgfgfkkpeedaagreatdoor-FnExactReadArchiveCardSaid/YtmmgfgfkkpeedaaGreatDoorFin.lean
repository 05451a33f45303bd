/- The tables, the residual functions and lemmas of this seat: parts of the proof of the law; conditions: those that each names. -/
import Derived.Test.YtmmgfgfkkpeedaaGreatDoorAcl
set_option linter.unusedVariables false
set_option linter.unusedSimpArgs false
set_option maxRecDepth 100000
namespace Go.Proofs.YtmmgfgfkkpeedaaGreatDoor
open Go.Eng
theorem ten_ne:(10:Int)≠0:=by decide
theorem digits_ev:∀(k u:Nat) (s:ByteArray),u<10 ^(k+1)→u<9223372036854775808→s.size+k≤1000→EvL spec_FormatInt_l1 ((u:Int),s) ⟨(Lib.decDigits u++s.data.toList).toArray⟩:=by
 intro k
 induction k with
 |zero=>
  intro u s h _ hs
  have hu:u<10:=by simpa using h
  have h9:¬(9:Int)<(u:Int):=by omega
  refine EvL.stop ?_
  have hsz:(ofBytes [((48+u:Nat):Int)]).size+s.size≤9223372036854775807:=by rw[ofBytes_size,List.length_singleton];omega
  have e:ofBytes [((48+u:Nat):Int)]++s=⟨(Lib.decDigits u++s.data.toList).toArray⟩:=bext (by rw[ByteArray.toList_data_append,digit_list,decDigits_small hu])
  simp only[spec_FormatInt_l1,h9,decide_false,cond_false,digit_byte hu,if_pos hsz,e]
  exact EvQ.const _
 |succ k ih=>
  intro u s h h63 hs
  by_cases hu:u<10
  ·exact(by
    have h9:¬(9:Int)<(u:Int):=by omega
    refine EvL.stop ?_
    have hsz:(ofBytes [((48+u:Nat):Int)]).size+s.size≤9223372036854775807:=by rw[ofBytes_size,List.length_singleton];omega
    have e:ofBytes [((48+u:Nat):Int)]++s=⟨(Lib.decDigits u++s.data.toList).toArray⟩:=bext (by rw[ByteArray.toList_data_append,digit_list,decDigits_small hu])
    simp only[spec_FormatInt_l1,h9,decide_false,cond_false,digit_byte hu,if_pos hsz,e]
    exact EvQ.const _)
  ·have h9:(9:Int)<(u:Int):=by omega
   have hm:u % 10<10:=by omega
   have hsz:(ofBytes [((48+u % 10:Nat):Int)]).size+s.size≤9223372036854775807:=by rw[ofBytes_size,List.length_singleton];omega
   have hq:wrapK .i64 ((u / 10:Nat):Int)=((u / 10:Nat):Int):=by rw[wrapK,wrap_i64 (by omega) (by omega)]
   have hn:=ih (u / 10) (ofBytes [((48+u % 10:Nat):Int)]++s) (by rw[Nat.pow_succ]at h;omega) (by omega) (by rw[ByteArray.size_append,ofBytes_size,List.length_singleton];omega)
   have e:Lib.decDigits (u / 10)++(ofBytes [((48+u % 10:Nat):Int)]++s).data.toList=Lib.decDigits u++s.data.toList:=by
    rw[ByteArray.toList_data_append,digit_list,decDigits_big hu,List.append_assoc]
   rw[e]at hn
   refine EvL.step ?_ hn
   simp only[EvS,spec_FormatInt_l1,h9,decide_true,cond_true,if_pos ten_ne,tmod_10,tdiv_10,digit_byte hm,if_pos hsz,hq]
   exact EvQ.const _
theorem neg_ev:∀(k m:Nat),0<m→m<10 ^(k+1)→m≤9223372036854775808→k≤100→Ev (fun n=>c_spec_FormatInt n (-(m:Int))) ⟨(45::Lib.decDigits m).toArray⟩:=by
 intro k
 induction k with
 |zero=>
  intro m h0 h _ _
  have hm:m<10:=by simpa using h
  refine EvQ.run (fun n=>spec_FormatInt_run n _) ?_
  have hneg: -(m:Int)<0:=by omega
  have hq:(wrapK .i64 ((-(m:Int)).tdiv 10)==(0:Int))=true:=by
   rw[Int.neg_tdiv,tdiv_10,show m / 10=0 by omega];rfl
  have hb:wrapK .u8 (wrapK .i64 ((48:Int)- -(m:Int)))=((48+m:Nat):Int):=by
   rw[show(48:Int)- -(m:Int)=48+m by omega];exact digit_byte hm
  have hsz:(⟨#[45]⟩:ByteArray).size+(ofBytes [((48+m:Nat):Int)]).size≤9223372036854775807:=by rw[ofBytes_size];show 1+1≤_;omega
  have e:(⟨#[45]⟩:ByteArray)++ofBytes [((48+m:Nat):Int)]=⟨(45::Lib.decDigits m).toArray⟩:=bext (by rw[ByteArray.toList_data_append,digit_list,decDigits_small hm];rfl)
  simp only[spec_FormatInt,hneg,decide_true,cond_true,if_pos ten_ne,hq,hb,if_pos hsz,e]
  exact EvQ.const _
 |succ k ih=>
  intro m h0 h h63 hk
  refine EvQ.run (fun n=>spec_FormatInt_run n _) ?_
  have hneg: -(m:Int)<0:=by omega
  by_cases hm:m<10
  ·have hq:(wrapK .i64 ((-(m:Int)).tdiv 10)==(0:Int))=true:=by
    rw[Int.neg_tdiv,tdiv_10,show m / 10=0 by omega];rfl
   have hb:wrapK .u8 (wrapK .i64 ((48:Int)- -(m:Int)))=((48+m:Nat):Int):=by
    rw[show(48:Int)- -(m:Int)=48+m by omega];exact digit_byte hm
   have hsz:(⟨#[45]⟩:ByteArray).size+(ofBytes [((48+m:Nat):Int)]).size≤9223372036854775807:=by rw[ofBytes_size];show 1+1≤_;omega
   have e:(⟨#[45]⟩:ByteArray)++ofBytes [((48+m:Nat):Int)]=⟨(45::Lib.decDigits m).toArray⟩:=bext (by rw[ByteArray.toList_data_append,digit_list,decDigits_small hm];rfl)
   simp only[spec_FormatInt,hneg,decide_true,cond_true,if_pos ten_ne,hq,hb,if_pos hsz,e]
   exact EvQ.const _
  ·have hw:wrapK .i64 ((-(m:Int)).tdiv 10)= -((m / 10:Nat):Int):=by
    rw[Int.neg_tdiv,tdiv_10,wrapK,wrap_i64 (by omega) (by omega)]
   have hq:(-((m / 10:Nat):Int)==(0:Int))=false:=by rw[beq_eq_false_iff_ne];omega
   have hd:m % 10<10:=by omega
   have hb:wrapK .u8 (wrapK .i64 ((48:Int)-(-(m:Int)).tmod 10))=((48+m % 10:Nat):Int):=by
    rw[Int.neg_tmod,tmod_10,show(48:Int)- -((m % 10:Nat):Int)=48+((m % 10:Nat):Int)by omega];exact digit_byte hd
   have hn:=ih (m / 10) (by omega) (by rw[Nat.pow_succ]at h;omega) (by omega) (by omega)
   have hl:=decDigits_len k (m / 10) (by rw[Nat.pow_succ]at h;omega)
   have hsz:(⟨(45::Lib.decDigits (m / 10)).toArray⟩:ByteArray).size+(ofBytes [((48+m % 10:Nat):Int)]).size≤9223372036854775807:=by
    rw[ofBytes_size,←blen,List.length_singleton]
    show(45::Lib.decDigits (m / 10)).length+1≤_
    rw[List.length_cons];omega
   have e:(⟨(45::Lib.decDigits (m / 10)).toArray⟩:ByteArray)++ofBytes [((48+m % 10:Nat):Int)]=⟨(45::Lib.decDigits m).toArray⟩:=bext (by
    rw[ByteArray.toList_data_append,digit_list,decDigits_big hm];rfl)
   simp only[spec_FormatInt,hneg,decide_true,cond_true,if_pos ten_ne,hw,hq,cond_false,hb]
   refine EvQ.bind hn ?_
   simp only[if_pos hsz,e]
   exact EvQ.const _
theorem spec_FormatInt_ev(n:Int)(h0: -9223372036854775808≤n)(h1:n≤9223372036854775807):Ev (fun k=>c_spec_FormatInt k n) ⟨(Lib.itoa n).toArray⟩:=by
 unfold Lib.itoa
 by_cases hn:n<0
 ·rw[if_pos hn]
  obtain⟨m,rfl⟩:∃m:Nat,n= -(m:Int):=⟨n.natAbs,by omega⟩
  rw[Int.natAbs_neg,Int.natAbs_natCast]
  exact neg_ev 19 m (by omega) (by omega) (by omega) (by omega)
 ·rw[if_neg hn]
  obtain⟨m,rfl⟩:∃m:Nat,n=(m:Int):=⟨n.toNat,by omega⟩
  rw[Int.toNat_natCast]
  refine EvQ.run (fun k=>spec_FormatInt_run k _) ?_
  simp only[spec_FormatInt,hn,decide_false,cond_false]
  have:=digits_ev 19 m ByteArray.empty (by omega) (by omega) (by show 0+19≤1000;omega)
  rw[show(ByteArray.empty).data.toList=[]from rfl,List.append_nil]at this
  exact this.ev
theorem impl_FormatInt_ev(n:Int)(h0: -9223372036854775808≤n)(h1:n≤9223372036854775807):Ev (fun k=>c_impl_FormatInt k n) ⟨(Lib.itoa n).toArray⟩:=by
 refine EvQ.run (fun k=>impl_FormatInt_run k _) ?_
 simp only[impl_FormatInt]
 refine EvQ.bind (EvQ.run (fun k=>c_strconv_Itoa_run k _) ?_) (EvQ.const _)
 simp only[ext_strconv_Itoa,if_pos (And.intro h0 h1)]
 exact EvQ.const _
end Go.Proofs.YtmmgfgfkkpeedaaGreatDoor

/- The tables, the residual functions and lemmas of this seat: parts of the proof of the law; conditions: those that each names. -/
import Derived.Test.YtmmgfgfkkpeedaaGreatDoorCtt
set_option linter.unusedVariables false
set_option linter.unusedSimpArgs false
set_option maxRecDepth 100000
namespace Go.Proofs.YtmmgfgfkkpeedaaGreatDoor
open Go.Eng
theorem wrap_in(n:Int): -9223372036854775808≤wrapK .i64 n∧wrapK .i64 n≤9223372036854775807:=by
 have e:IntKind.i64.wrap n=if n % 18446744073709551616≥9223372036854775808 then n % 18446744073709551616-18446744073709551616 else n % 18446744073709551616:=by
  show(if(true&&decide (n % (2 ^ 64:Int)≥(2 ^ 63:Int)))=true then n % (2 ^ 64:Int)-(2 ^ 64:Int)else n % (2 ^ 64:Int))=_
  simp
 rw[wrapK,e]
 split<;>omega
theorem Ev.uniq{R:Type}{f:Nat→Option R}{a b:R}(h:Ev f a)(h':Ev f b):a=b:=by
 obtain⟨N,h⟩:=h
 obtain⟨M,h'⟩:=h'
 have h1:=h (N+M) (by omega)
 have h2:=h' (N+M) (by omega)
 rw[h1]at h2
 injection h2
def digP(s:ByteArray):Prop:=0<s.size∧∀(i:Nat) b,s[i]? =some b→48≤b.toNat∧b.toNat≤57
theorem digits_say(s:ByteArray)(hs:s.size≤1048576):Say (fun k=>c_spec_IsDigits k s) (digP s):=by
 refine Say.run (fun k=>spec_IsDigits_run k s) (Say.of ?_)
 simp only[spec_IsDigits]
 refine EvX.upto (L:=fun k _=>spec_IsDigits_l1 k) s.size (fun(_:Unit) i=>(s,(i:Int))) (fun _ i=>∀(j:Nat) b,j<i→s[j]? =some b→48≤b.toNat∧b.toNat≤57) (fun _ i hi inv=> ?_) (fun _ inv=> ?_) () 0 (Nat.zero_le _) (by simp)
 ·have hx:s[i]? =some s[i]:=getElem?_pos s i hi
  simp only[spec_IsDigits_l1,Int.ofNat_lt,hi,decide_true,cond_true,Int.natCast_nonneg,if_true,Int.toNat_natCast,hx,Option.map_some,Option.bind_some,wS i]
  refine EvX.bif (fun h=>EvX.const _ (GL.ret (GP.no fun hP=> ?_))) (fun h=>EvX.bif (fun h2=>EvX.const _ (GL.ret (GP.no fun hP=> ?_))) (fun h2=>EvX.const _ (GL.self () rfl fun j b hj hb=> ?_)))
  ·have:=hP.2 i _ hx;have:=of_decide_eq_true h;omega
  ·have:=hP.2 i _ hx;have:=of_decide_eq_true h2;omega
  ·by_cases e:j=i
   ·subst e;rw[hx]at hb;cases hb
    have:=of_decide_eq_false h;have:=of_decide_eq_false h2;omega
   ·exact inv j b (by omega) hb
 ·simp only[spec_IsDigits_l1,Int.lt_irrefl,decide_false,cond_false]
  refine EvX.const _ (GE.ret (GP.ret ?_))
  rw[decide_eq_true_eq]
  refine⟨fun h=>⟨by omega,fun i b hb=>inv i b ?_ hb⟩,fun h=>by have:=h.1;omega⟩
  rcases Nat.lt_or_ge i s.size with h'|h'
  ·exact h'
  ·rw[getElem?_neg _ i (by omega)]at hb;cases hb
theorem pint_ex(s:ByteArray)(hs:s.size≤1048576):∃r,Ev (fun k=>c_spec_ParseInt k s) r:=by
 suffices h:∃r,Ev (fun k=>c_spec_ParseInt k s) r∧True by obtain⟨r,h,_⟩:=h;exact⟨r,h⟩
 refine Ev.of (f:=fun k=>c_spec_ParseInt k s) (Q:=fun _=>True) ?_
 have run:EvX (fun k (_:Unit)=>spec_ParseInt k s) (GR fun _=>True):=by
  simp only[spec_ParseInt]
  have rest:∀(u:ByteArray) (b:Bool),u.size≤1048576→EvX (fun k (_:Unit)=>(c_spec_IsDigits k u).bind fun y4=>
    (bif (!y4)then some ((0:Int),false)else(bif (decide ((19:Int)<(u.size:Int)))then some ((0:Int),false)else iter k (spec_ParseInt_l1 k) (s,b,u,(0:Int),(0:Int))))) (GR fun _=>True):=by
   intro u b hu
   refine EvX.say (digits_say u hu) fun q hq=>EvX.bif (fun h=>EvX.const _ (GR.ret trivial)) (fun h=>EvX.bif (fun h=>EvX.const _ (GR.ret trivial)) (fun h=> ?_))
   refine EvX.upto (L:=fun k _=>spec_ParseInt_l1 k) u.size (fun(n:Int) i=>(s,b,u,n,(i:Int))) (fun n _=> -9223372036854775808≤n∧n≤9223372036854775807) (fun n i hi inv=> ?_) (fun n inv=> ?_) 0 0 (Nat.zero_le _) (by omega)
   ·have hx:u[i]? =some u[i]:=getElem?_pos u i hi
    simp only[spec_ParseInt_l1,Int.ofNat_lt,hi,decide_true,cond_true,Int.natCast_nonneg,if_true,Int.toNat_natCast,hx,Option.map_some,Option.bind_some,wS i,if_pos ten_ne]
    refine EvX.bif (fun h=>EvX.const _ (GL.ret (GR.ret trivial))) (fun h=>EvX.const _ (GL.self _ rfl (wrap_in _)))
   ·simp only[spec_ParseInt_l1,Int.lt_irrefl,decide_false,cond_false]
    have fin:∀m:Int,-9223372036854775808≤m∧m≤9223372036854775807→EvX (fun k (p:Unit×(ByteArray×Bool×ByteArray×Int×Int→Option (Int×Bool)))=>(c_spec_FormatInt k m).bind fun v3=>(bif (!(eqS v3 s))then some ((0:Int),false)else some (m,true))) (GE (GR fun _=>True)):=fun m hm=>
     EvX.bind (spec_FormatInt_ev m hm.1 hm.2) (EvX.bif (fun h=>EvX.const _ (GE.ret (GR.ret trivial))) (fun h=>EvX.const _ (GE.ret (GR.ret trivial))))
    cases b with
    |true=>simp only[Bool.not_true,cond_false,joinK];exact fin n inv
    |false=>
     simp only[Bool.not_false,cond_true]
     cases hb:(n== -9223372036854775808)with
     |true=>simp only[cond_true,Option.map_some,joinK];exact EvX.const _ (GE.ret (GR.ret trivial))
     |false=>simp only[cond_false,joinK];exact fin _ (wrap_in _)
  have rest2:∀b:Bool,(b=true→0<s.size)→EvX (fun k (_:Unit)=>(joinK (R:=(Int×Bool)) ((bif b then(if 0≤(1:Int)then(if(1:Int)≤(s.size:Int)then some (.inl (s,b,(s.extract ((1:Int).toNat) s.size)))else none)else none)else some (.inl (s,b,s)))) fun(d3:(ByteArray×(Bool×ByteArray)))=>(c_spec_IsDigits k d3.2.2).bind fun y4=>
    (bif (!y4)then some ((0:Int),false)else(bif (decide ((19:Int)<(d3.2.2.size:Int)))then some ((0:Int),false)else iter k (spec_ParseInt_l1 k) (d3.1,d3.2.1,d3.2.2,(0:Int),(0:Int)))))) (GR fun _=>True):=by
   intro b hb
   cases b with
   |true=>
    have:=hb rfl
    simp only[cond_true,show(0:Int)≤1 by decide,if_true,show(1:Int)≤(s.size:Int)by omega,joinK]
    exact rest _ _ (by rw[ByteArray.size_extract];omega)
   |false=>simp only[cond_false,joinK];exact rest _ _ hs
  by_cases h0:0<s.size
  ·have hx:s[0]? =some s[0]:=getElem?_pos s 0 h0
   simp only[show(0:Int)<(s.size:Int)by omega,decide_true,cond_true,Int.le_refl,if_true,show(0:Int).toNat=0 from rfl,hx,Option.map_some,Option.bind_some]
   exact rest2 _ fun _=>h0
  ·simp only[show ¬(0:Int)<(s.size:Int)by omega,decide_false,cond_false]
   exact rest2 false fun h=>by cases h
 obtain⟨o,⟨N,h1⟩,h2⟩:=run
 exact⟨o,EvQ.run (fun k=>by funext _;exact spec_ParseInt_run k s) ⟨N,h1⟩,h2⟩
theorem itoa_small{n:Nat}(h:n<10):itoaB (n:Int)=⟨#[UInt8.ofNat (48+n)]⟩:=by
 rw[itoaB,Lib.itoa,if_neg (by omega),Int.toNat_natCast,decDigits_small h]
theorem room_all:∀d:Fin 10,decide ((0:Int)<wrapK .i64 ((wrapK .i64 ((-9223372036854775808:Int)+(d.val:Int))).tdiv 10))=false∧(UInt8.ofNat (48+d.val)).toNat=48+d.val:=by decide+kernel
theorem pint_digit{n:Nat}(h:n<10):Ev (fun k=>c_spec_ParseInt k (⟨#[UInt8.ofNat (48+n)]⟩:ByteArray)) ((n:Int),true):=by
 obtain⟨r1,r2⟩:=room_all ⟨n,h⟩
 simp only at r1 r2
 have hx:(⟨#[UInt8.ofNat (48+n)]⟩:ByteArray)[0]? =some (UInt8.ofNat (48+n)):=rfl
 have hz:(⟨#[UInt8.ofNat (48+n)]⟩:ByteArray).size=1:=rfl
 generalize hs:(⟨#[UInt8.ofNat (48+n)]⟩:ByteArray)=s at hx hz
 have hdig:digP s:=⟨by omega,fun i b hb=>by
  have hi:i=0:=by
   rcases Nat.lt_or_ge i s.size with h'|h'
   ·omega
   ·rw[getElem?_neg _ i (by omega)]at hb;cases hb
  subst hi
  rw[hx]at hb
  cases hb
  rw[r2];omega⟩
 refine EvQ.run (fun k=>spec_ParseInt_run k s) ?_
 have h45:(((UInt8.ofNat (48+n)).toNat:Int)==45)=false:=by rw[r2,beq_eq_false_iff_ne];omega
 simp only[spec_ParseInt,hz,show decide ((0:Int)<((1:Nat):Int))=true from rfl,cond_true,Int.le_refl,if_true,show(0:Int).toNat=0 from rfl,hx,Option.map_some,Option.bind_some,joinK,h45,cond_false]
 obtain⟨q,q1,q2⟩:=digits_say s (by omega)
 refine EvQ.bind q1 ?_
 rw[q2.2 hdig]
 simp only[Bool.not_true,cond_false,show decide ((19:Int)<((1:Nat):Int))=false from rfl]
 refine EvL.ev ?_
 have w0:wrapK .i64 ((UInt8.ofNat (48+n)).toNat:Int)=((48+n:Nat):Int):=by rw[r2,i64w (by omega) (by omega)]
 have w1:wrapK .i64 (((48+n:Nat):Int)-48)=(n:Int):=by rw[i64w (by omega) (by omega)];omega
 have w2:wrapK .i64 ((0:Int)*10)=0:=rfl
 have w3:wrapK .i64 ((0:Int)-(n:Int))= -(n:Int):=by rw[i64w (by omega) (by omega)];omega
 have w4:wrapK .i64 ((0:Int)+1)=1:=rfl
 refine EvL.step (d':=(s,false,s,-(n:Int),(1:Int))) ?_ (EvL.stop ?_)
 ·simp only[EvS,spec_ParseInt_l1,hz,show decide ((0:Int)<((1:Nat):Int))=true from rfl,cond_true,Int.le_refl,if_true,show(0:Int).toNat=0 from rfl,hx,Option.map_some,Option.bind_some,if_pos ten_ne,w0,w1,r1,cond_false,w2,w3,w4]
  exact EvQ.const _
 ·have hmin:(-(n:Int)== -9223372036854775808)=false:=by rw[beq_eq_false_iff_ne];omega
  have w5:wrapK .i64 (0- -(n:Int))=(n:Int):=by rw[i64w (by omega) (by omega)];omega
  simp only[spec_ParseInt_l1,hz,show decide ((1:Int)<((1:Nat):Int))=false from rfl,cond_false,Bool.not_false,cond_true,hmin,joinK,w5]
  refine EvQ.bindS (spec_FormatInt_ev (n:Int) (by omega) (by omega)) ?_
  have:(⟨(Lib.itoa (n:Int)).toArray⟩:ByteArray)=s:=by rw[←hs];exact itoa_small h
  rw[this,eqS_refl]
  exact EvQ.const _
open Classical in
noncomputable def piV(s:ByteArray):Int×Bool:=if h:∃r,Ev (fun k=>c_spec_ParseInt k s) r then h.choose else(0,false)
theorem piV_ev(s:ByteArray)(hs:s.size≤1048576):Ev (fun k=>c_spec_ParseInt k s) (piV s):=by
 have h:=pint_ex s hs
 rw[piV,dif_pos h]
 exact h.choose_spec
theorem piV_digit{n:Nat}(h:n<10):piV ⟨#[UInt8.ofNat (48+n)]⟩=((n:Int),true):=
 Ev.uniq (piV_ev _ (by show 1≤_;omega)) (pint_digit h)
end Go.Proofs.YtmmgfgfkkpeedaaGreatDoor

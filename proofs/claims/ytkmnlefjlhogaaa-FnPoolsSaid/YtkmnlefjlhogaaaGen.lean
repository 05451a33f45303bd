/- The tables, the residual functions and lemmas of this seat: parts of the proof of the law; conditions: those that each names. -/
import Derived.Test.YtkmnlefjlhogaaaStd
import Derived.Test.YtkmnlefjlhogaaaEng5
set_option linter.unusedVariables false
set_option linter.unusedSimpArgs false
set_option maxRecDepth 100000
namespace Go.Proofs.Ytkmnlefjlhogaaa
open Go.Eng
def curOK(c:Dl01Cur):Prop:=c.1.length≤1048576∧0≤c.2.1
theorem ex2{α β:Type}{f:Nat→Option (α×β)}{Q:α→β→Prop}{r:α×β}(h:Ev f r)(hq:Q r.1 r.2):∃v c,Ev f (v,c)∧Q v c:=⟨r.1,r.2,h,hq⟩
theorem byte_ev(c:Dl01Cur)(h:curOK c):∃v c',Ev (fun k=>c_spec_l01Byte k c) (v,c')∧curOK c'∧0≤v∧v≤255:=by
 obtain⟨l,p,s⟩:=c
 obtain⟨h1,h2⟩:=h
 simp only at h1 h2
 by_cases hp:p<(l.length:Int)
 ·obtain⟨n,rfl⟩:∃n:Nat,p=n:=⟨p.toNat,by omega⟩
  have hn:n<l.length:=by omega
  have hw:wrapK .i64 ((n:Int)+1)=((n+1:Nat):Int):=wrap_succ hn (by omega)
  apply ex2
  ·refine EvQ.run (fun k=>spec_l01Byte_run k _) ?_
   simp only[spec_l01Byte,if_pos (show(0:Int)≤33 by decide),if_pos (show(0:Int)≤45 by decide),hp,decide_true,cond_true,if_pos h2,Int.toNat_natCast,List.getElem?_eq_getElem hn,Option.bind_some,hw]
   exact EvQ.const _
  ·exact⟨⟨h1,by simp only;omega⟩,and_255 _⟩
 ·apply ex2
  ·refine EvQ.run (fun k=>spec_l01Byte_run k _) ?_
   simp only[spec_l01Byte,if_pos (show(0:Int)≤33 by decide),if_pos (show(0:Int)≤45 by decide),hp,decide_false,cond_false]
   exact EvQ.const _
  ·exact⟨⟨h1,h2⟩,and_255 _⟩
theorem below_ev(c:Dl01Cur)(h:curOK c)(n:Int):∃v c',Ev (fun k=>c_spec_l01Below k (c,n)) (v,c')∧curOK c'∧(0<n→n<4294967296→0≤v∧v<n)∧(n≤0→v=0):=by
 by_cases h0:n≤0
 ·refine⟨0,c,EvQ.run (fun k=>spec_l01Below_run k _ _) ?_,h,fun hn=>by omega,fun _=>rfl⟩
  simp only[spec_l01Below,h0,decide_true,cond_true]
  exact EvQ.const _
 ·have hne:n≠0:=by omega
  by_cases h2:n≤256
  ·obtain⟨v,c',e1,e2,e3,e4⟩:=byte_ev c h
   refine⟨v.tmod n,c',EvQ.run (fun k=>spec_l01Below_run k _ _) ?_,e2,fun hn _=> ?_,fun hn=>absurd hn h0⟩
   ·simp only[spec_l01Below,h0,h2,decide_true,decide_false,cond_true,cond_false]
    refine EvQ.bind e1 ?_
    simp only[if_pos hne]
    exact EvQ.const _
   ·rw[Int.tmod_eq_emod_of_nonneg e3]
    exact⟨Int.emod_nonneg _ hne,Int.emod_lt_of_pos _ hn⟩
  ·obtain⟨v1,c1,a1,a2,a3,a4⟩:=byte_ev c h
   obtain⟨v2,c2,b1,b2,b3,b4⟩:=byte_ev c1 a2
   obtain⟨v3,c3,d1,d2,d3,d4⟩:=byte_ev c2 b2
   obtain⟨v4,c4,f1,f2,f3,f4⟩:=byte_ev c3 d2
   apply ex2
   ·refine EvQ.run (fun k=>spec_l01Below_run k _ _) ?_
    simp only[spec_l01Below,h0,h2,decide_false,cond_false]
    refine EvQ.bind a1 (EvQ.bind b1 (EvQ.bind d1 (EvQ.bind f1 ?_)))
    simp only[if_pos hne]
    exact EvQ.const _
   ·refine⟨f2,fun hn _=> ?_,fun hn=>absurd hn h0⟩
    have w1:wrapK .i64 (v1*16777216)=v1*16777216:=by rw[wrapK,wrap_i64 (by omega) (by omega)]
    have w2:wrapK .i64 (v2*65536)=v2*65536:=by rw[wrapK,wrap_i64 (by omega) (by omega)]
    have w3:wrapK .i64 (v3*256)=v3*256:=by rw[wrapK,wrap_i64 (by omega) (by omega)]
    have w4:wrapK .i64 (v1*16777216+v2*65536)=v1*16777216+v2*65536:=by rw[wrapK,wrap_i64 (by omega) (by omega)]
    have w5:wrapK .i64 (v1*16777216+v2*65536+v3*256)=v1*16777216+v2*65536+v3*256:=by rw[wrapK,wrap_i64 (by omega) (by omega)]
    have w6:wrapK .i64 (v1*16777216+v2*65536+v3*256+v4)=v1*16777216+v2*65536+v3*256+v4:=by rw[wrapK,wrap_i64 (by omega) (by omega)]
    simp only[w1,w2,w3,w4,w5,w6]
    rw[Int.tmod_eq_emod_of_nonneg (by omega)]
    exact⟨Int.emod_nonneg _ hne,Int.emod_lt_of_pos _ hn⟩
theorem pick_ev(c:Dl01Cur)(h:curOK c)(l:List Int)(hl:0<l.length)(hl2:l.length≤1000):∃v c',Ev (fun k=>c_spec_l01Pick k (c,l)) (v,c')∧curOK c'∧v∈l:=by
 obtain⟨n,c',e1,e2,e3,e4⟩:=below_ev c h (l.length:Int)
 obtain⟨f1,f2⟩:=e3 (by omega) (by omega)
 obtain⟨m,rfl⟩:∃m:Nat,n=m:=⟨n.toNat,by omega⟩
 have hm:m<l.length:=by omega
 refine⟨l[m],c',EvQ.run (fun k=>spec_l01Pick_run k _ _) ?_,e2,List.getElem_mem hm⟩
 simp only[spec_l01Pick]
 refine EvQ.bind e1 ?_
 simp only[if_pos f1,Int.toNat_natCast,List.getElem?_eq_getElem hm,Option.bind_some]
 exact EvQ.const _
theorem bytes_ev(c:Dl01Cur)(h:curOK c)(n:Nat)(hn:n<255):∃s c',Ev (fun k=>c_spec_l02Bytes k (c,(n:Int))) (s,c')∧curOK c'∧s.size≤n:=by
 obtain⟨m,c1,e1,e2,e3,_⟩:=below_ev c h ((n:Int)+1)
 obtain⟨f1,f2⟩:=e3 (by omega) (by omega)
 obtain⟨⟨s,c'⟩,g1,g2,g3⟩:∃r:ByteArray×Dl01Cur,EvL spec_l02Bytes_l1 ((),([]:List Int),m,c1) r∧(curOK r.2∧r.1.size≤n):=by
  refine EvL.ex (L:=spec_l02Bytes_l1) (fun d=>curOK d.2.2.2∧0≤d.2.2.1∧(d.2.1.length:Int)+d.2.2.1≤n) _ (fun d=>d.2.2.1.toNat) ?_ ⟨e2,f1,by simp only[List.length_nil];omega⟩
  rintro⟨u,acc,i,c⟩ ⟨h1,h2,h3⟩
  simp only at h1 h2 h3
  by_cases hi:0<i
  ·obtain⟨v,c1,a1,a2,a3,a4⟩:=byte_ev c h1
   obtain⟨x,c2,b1,b2,b3⟩:=pick_ev c1 a2 [0,1,65,97,255,v] (by simp) (by simp)
   have hw:wrapK .i64 (i-1)=i-1:=by rw[wrapK,wrap_i64 (by omega) (by omega)]
   refine .inr ⟨((),acc++[wrapK .u8 x],i-1,c2),⟨b2,by simp only;omega,by simp only[List.length_append,List.length_singleton];omega⟩,by simp only;omega, ?_⟩
   have hcap:(acc.length+([wrapK .u8 x]:List Int).length)*1≤capBytes:=by simp only[List.length_singleton,capBytes];omega
   simp only[EvS,spec_l02Bytes_l1,hi,decide_true,cond_true]
   refine EvQ.bindS a1 (EvQ.bindS b1 ?_)
   simp only[if_pos hcap,hw]
   exact EvQ.const _
  ·refine .inl ⟨(ofBytes acc,c), ?_,h1, ?_⟩
   ·simp only[spec_l02Bytes_l1,hi,decide_false,cond_false]
    exact EvQ.const _
   ·rw[ofBytes_size];omega
 refine⟨s,c',EvQ.run (fun k=>spec_l02Bytes_run k _ _) ?_,g2,g3⟩
 have hw:wrapK .i64 ((n:Int)+1)=(n:Int)+1:=by rw[wrapK,wrap_i64 (by omega) (by omega)]
 simp only[spec_l02Bytes,hw]
 exact EvQ.bind e1 g1.ev
theorem skip_ev{R:Type}{L:Nat→((Int×(Unit×(Int×Dl01Cur)))→Option R)→(Int×(Unit×(Int×Dl01Cur)))→Option R}{Q:R→Prop}(n:Nat)(hn:n<1000)
  (hL:∀k self d,L k self d=(bif (decide (d.2.2.1<d.1))then(c_spec_l01Byte k d.2.2.2).bind fun v0=>self (d.1,(),(wrapK .i64 (d.2.2.1+(1:Int))),v0.2)else L k (fun _=>none) d))
  (he:∀i c,(n:Int)≤i→curOK c→∃r,Ev (fun k=>L k (fun _=>none) ((n:Int),(),i,c)) r∧Q r) (c:Dl01Cur) (hc:curOK c):∃r,EvL L ((n:Int),(),(0:Int),c) r∧Q r:=by
 refine EvL.ex (fun d:Int×(Unit×(Int×Dl01Cur))=>d.1=(n:Int)∧curOK d.2.2.2∧0≤d.2.2.1∧d.2.2.1≤(n:Int)) Q (fun d:Int×(Unit×(Int×Dl01Cur))=>((n:Int)-d.2.2.1).toNat) ?_ ⟨rfl,hc,by simp,by simp only;omega⟩
 rintro⟨m,u,i,c⟩ ⟨h1,h2,h3,h4⟩
 simp only at h1 h2 h3 h4
 subst h1
 by_cases hi:i<(n:Int)
 ·obtain⟨v,c1,a1,a2,a3,a4⟩:=byte_ev c h2
  have hw:wrapK .i64 (i+1)=i+1:=by rw[wrapK,wrap_i64 (by omega) (by omega)]
  refine .inr ⟨((n:Int),(),i+1,c1),⟨rfl,a2,by simp only;omega,by simp only;omega⟩,by simp only;omega, ?_⟩
  refine EvQ.congr (fun k=>funext fun self=>hL k self _) ?_
  simp only[hi,decide_true,cond_true]
  refine EvQ.bindS a1 ?_
  simp only[hw]
  exact EvQ.const _
 ·obtain⟨r,e1,e2⟩:=he i c (by omega) h2
  refine .inl ⟨r, ?_,e2⟩
  refine EvQ.congr (fun k=>funext fun self=>hL k self _) ?_
  simp only[hi,decide_false,cond_false]
  exact EvQ.lift e1
theorem hash_ev{R:Type}{L:Nat→(Dl01Cur→Option R)→Dl01Cur→Option R}{Q:R→Prop}{l:List Int}(hl:l.length≤1048576)
  (hL:∀k self d,L k self d=(bif (decide (d.2.2<(d.1.length:Int)))then(bif (decide (d.2.2<(4000:Int)))then(if 0≤d.2.2 then(d.1[d.2.2.toNat]?).bind fun v0=>
   self (d.1,(intBits .and .i64 (wrapK .i64 ((wrapK .i64 ((wrapK .i64 (d.2.1*(73:Int)))+(wrapK .i64 v0)))+(7:Int))) (1073741823:Int)),(wrapK .i64 (d.2.2+(1:Int))))else none)else L k (fun _=>none) (d.1,d.2.1,(d.1.length:Int)))else L k (fun _=>none) (d.1,d.2.1,(d.1.length:Int))))
  (he:∀h,∃r,Ev (fun k=>L k (fun _=>none) (l,h,(l.length:Int))) r∧Q r) (h0:Int):∃r,EvL L (l,h0,(0:Int)) r∧Q r:=by
 refine EvL.ex (fun d:Dl01Cur=>d.1=l∧0≤d.2.2) Q (fun d:Dl01Cur=>((l.length:Int)-d.2.2).toNat) ?_ ⟨rfl,by simp⟩
 rintro⟨m,h,i⟩ ⟨h1,h2⟩
 simp only at h1 h2
 subst h1
 obtain⟨n,rfl⟩:∃n:Nat,i=n:=⟨i.toNat,by omega⟩
 by_cases hi:(n:Int)<(m.length:Int)
 ·by_cases h4:(n:Int)<4000
  ·have hn:n<m.length:=by omega
   refine .inr ⟨(m,(intBits .and .i64 (wrapK .i64 ((wrapK .i64 ((wrapK .i64 (h*(73:Int)))+(wrapK .i64 m[n])))+(7:Int))) (1073741823:Int)),((n+1:Nat):Int)),⟨rfl,by simp only;omega⟩,by simp only;omega, ?_⟩
   refine EvQ.congr (fun k=>funext fun self=>hL k self _) ?_
   simp only[hi,h4,decide_true,cond_true,if_pos h2,Int.toNat_natCast,List.getElem?_eq_getElem hn,Option.bind_some,wrap_succ hn (show m.length<4611686018427387904 by omega)]
   exact EvQ.const _
  ·obtain⟨r,e1,e2⟩:=he h
   refine .inl ⟨r, ?_,e2⟩
   refine EvQ.congr (fun k=>funext fun self=>hL k self _) ?_
   simp only[hi,h4,decide_true,decide_false,cond_true,cond_false]
   exact EvQ.lift e1
 ·obtain⟨r,e1,e2⟩:=he h
  refine .inl ⟨r, ?_,e2⟩
  refine EvQ.congr (fun k=>funext fun self=>hL k self _) ?_
  simp only[hi,decide_false,cond_false]
  exact EvQ.lift e1
end Go.Proofs.Ytkmnlefjlhogaaa

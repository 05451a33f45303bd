/- The tables, the residual functions and lemmas of this seat: parts of the proof of the law; conditions: those that each names. -/
import Derived.Test.YtkmnlefjlhogaaaFsS
set_option linter.unusedVariables false
set_option linter.unusedSimpArgs false
set_option maxRecDepth 100000
namespace Go.Proofs.Ytkmnlefjlhogaaa
open Go.Eng
def lowB(n:Int):Nat→List Int
 |0=>[]
 |j+1=>((n / 256 ^ j) % 256)::lowB n j
theorem lowB_len(n:Int):∀j,(lowB n j).length=j
 |0=>rfl
 |j+1=>by simp[lowB,lowB_len n j]
def emptyB:ByteArray:=⟨#[]⟩
def putB(n:Int)(w:Nat):ByteArray:=if 0≤n∧n<256 ^ w then ofBytes (lowB n w)else emptyB
theorem putB_size(n:Int)(w:Nat):(putB n w).size≤w:=by
 unfold putB
 split
 ·rw[ofBytes_size,lowB_len];exact Nat.le_refl _
 ·exact Nat.zero_le _
theorem put_set(n:Int){w j:Nat}(h:j<w):(List.replicate (w-j) (0:Int)++lowB n j).set (w-1-j) ((n / 256 ^ j) % 256)=List.replicate (w-(j+1)) 0++lowB n (j+1):=by
 have e1:w-j=(w-(j+1))+1:=by omega
 have e2:w-1-j=(List.replicate (w-(j+1)) (0:Int)).length:=by rw[List.length_replicate];omega
 rw[e1,List.replicate_succ',List.append_assoc,e2,List.set_append_right _ _ (Nat.le_refl _),Nat.sub_self]
 rfl
theorem pow_le6{w:Nat}(h:w≤6):(256:Int)^ w≤281474976710656:=by
 have:w=0∨w=1∨w=2∨w=3∨w=4∨w=5∨w=6:=by omega
 rcases this with rfl|rfl|rfl|rfl|rfl|rfl|rfl<;>decide
theorem div_pow(n:Int)(j:Nat):n / 256 ^ j / 256=n / 256 ^(j+1):=by
 rw[Int.pow_succ,Int.ediv_ediv_of_nonneg (Int.le_of_lt (Int.pow_pos (by omega)))]
theorem div_le(n:Int)(h:0≤n)(j:Nat):0≤n / 256 ^ j∧n / 256 ^ j≤n:=by
 have hp:(0:Int)<256 ^ j:=Int.pow_pos (by omega)
 exact⟨Int.ediv_nonneg h (Int.le_of_lt hp),Int.ediv_le_self _ h⟩
theorem put_loop{L:Nat→(Int×List Int×Int→Option ByteArray)→Int×List Int×Int→Option ByteArray}(n:Int)(w:Nat)(hw:w≤6)(h0:0≤n)(h1:n<281474976710656)
  (hs:∀k self (m:Int) (b:List Int) (i:Nat),0≤m→m<281474976710656→i<b.length→b.length≤6→L k self (m,b,(i:Int))=self (m / 256,b.set i (m % 256),(i:Int)-1)) (he:∀k self m b,L k self (m,b,(-1:Int))=some (ofBytes b)):
  Ev (fun k=>iter k (L k) (n,List.replicate w (0:Int),(w:Int)-1)) (ofBytes (lowB n w)):=by
 refine Ev.eq ?_
 refine EvX.congr (F':=fun k (_:Unit)=>iter k (L k) (n / 256 ^ 0,List.replicate w (0:Int),(w:Int)-1-(0:Nat))) (fun k _=>by simp) ?_
 refine EvX.upto (L:=fun k _=>L k) w (fun(st:List Int) j=>(n / 256 ^ j,st,(w:Int)-1-(j:Nat))) (fun st j=>st=List.replicate (w-j) 0++lowB n j) (fun st j hj inv=> ?_) (fun st inv=> ?_) _ 0 (Nat.zero_le _) (by simp[lowB])
 ·subst inv
  have e:(w:Int)-1-(j:Nat)=((w-1-j:Nat):Int):=by omega
  obtain⟨d1,d2⟩:=div_le n h0 j
  have hl:(List.replicate (w-j) (0:Int)++lowB n j).length=w:=by simp[lowB_len];omega
  have hq:=put_set n hj
  refine EvX.congr (F':=fun k p=>p.2 (n / 256 ^ j / 256,List.replicate (w-(j+1)) 0++lowB n (j+1),((w-1-j:Nat):Int)-1)) (fun k p=>by rw[e,←hq];exact hs k p.2 _ _ _ d1 (by omega) (by omega) (by omega)) ?_
  refine EvX.const _ (GL.self (List.replicate (w-(j+1)) 0++lowB n (j+1)) ?_ rfl)
  rw[div_pow]
  have e2:((w-1-j:Nat):Int)-1=(w:Int)-1-((j+1:Nat):Int):=by omega
  rw[e2]
 ·have e:(w:Int)-1-(w:Nat)= -1:=by omega
  refine EvX.congr (F':=fun _ _=>some (ofBytes st)) (fun k p=>by rw[e];exact he k p.2 _ _) ?_
  refine EvX.const _ (GE.ret (GR.ret ?_))
  rw[inv,Nat.sub_self,List.replicate_zero,List.nil_append]
theorem six{w:Nat}(h1:1≤w)(h2:w≤6):w=1∨w=2∨w=3∨w=4∨w=5∨w=6:=by omega
theorem spec_PutNumber_ev(n:Int)(w:Nat)(h1:1≤w)(h2:w≤6):Ev (fun k=>c_spec_PutNumber k (n,(w:Int))) (putB n w):=by
 refine EvQ.run (fun k=>spec_PutNumber_run k _ _) ?_
 have a3:(wrapK .u64 ((8:Int)*(wrapK .u64 (w:Int))))=8*w:=by
  rcases six h1 h2 with rfl|rfl|rfl|rfl|rfl|rfl<;>rfl
 have a4:(0:Int)≤8*w:=by omega
 have a5:wrapK .i64 ((1:Int)*2 ^(min ((8:Int)*w).toNat (IntKind.bits .i64)))=256 ^ w:=by
  rcases six h1 h2 with rfl|rfl|rfl|rfl|rfl|rfl<;>rfl
 have a6:(w:Int)*1≤(capBytes:Int):=by unfold capBytes;omega
 have a7:wrapK .i64 ((w:Int)-1)=(w:Int)-1:=i64w (by omega) (by omega)
 have a8:decide ((1:Int)≤w∧(w:Int)≤6)=true:=decide_eq_true (by omega)
 simp only[spec_PutNumber]
 refine EvQ.bind (l01In_ev _ _ _) ?_
 simp only[a3,a4,a5,a6,a7,a8,Bool.not_true,cond_false,if_true,Int.natCast_nonneg,Int.le_refl,Int.toNat_natCast]
 by_cases c1:n<0
 ·simp only[c1,decide_true,cond_true,putB,show ¬(0≤n∧n<256 ^ w)by omega,if_false];exact EvQ.const _
 by_cases c2:(256:Int)^ w≤n
 ·simp only[c1,c2,decide_true,decide_false,cond_true,cond_false,putB,show ¬(0≤n∧n<256 ^ w)by omega,if_false];exact EvQ.const _
 have hp:=pow_le6 h2
 simp only[c1,c2,decide_false,cond_false,putB,show(0≤n∧n<256 ^ w)by omega,and_self,if_true]
 refine put_loop n w h2 (by omega) (by omega) (L:=spec_PutNumber_l1) (fun k self m b i hm0 hm1 hi hb=> ?_) (fun k self m b=> ?_)
 ·obtain⟨v,hv⟩:∃v,b[i]? =some v:=⟨_,List.getElem?_eq_getElem hi⟩
  have e1:m.tdiv 256=m / 256:=Int.tdiv_eq_ediv_of_nonneg hm0
  have e1':wrapK .i64 (m / 256)=m / 256:=i64w (by omega) (by omega)
  have e2:wrapK .i64 ((i:Int)-1)=(i:Int)-1:=i64w (by omega) (by omega)
  have e3:wrapK .u8 (m.tmod 256)=m % 256:=by rw[wrapK,wrap_u8_mod,Int.tmod_eq_emod_of_nonneg hm0];omega
  simp only[spec_PutNumber_l1,Int.natCast_nonneg,decide_true,cond_true,if_true,Int.ofNat_lt,hi,Int.toNat_natCast,hv,Option.bind_some,ne_eq,show ¬((256:Int)=0)by decide,not_false_eq_true,e1,e1',e2,e3]
 ·simp only[spec_PutNumber_l1,show ¬(0:Int)≤ -1 by omega,decide_false,cond_false]
theorem bytesOf_len(s:ByteArray):(bytesOf s).length=s.size:=by simp[bytesOf,blen]
theorem bytes_id(s:ByteArray):(bytesOf s).map (fun n=>UInt8.ofNat n.toNat)=s.data.toList:=by
 rw[bytesOf,List.map_map,show((fun n:Int=>UInt8.ofNat n.toNat)∘ fun c:UInt8=>(c.toNat:Int))=id from funext fun c=>by simp,List.map_id]
theorem EvQ.ifp{α:Type}{p:Prop}[Decidable p]{F:Nat→Option α}{r:Option α}(hp:p)(h:EvQ F r):EvQ (fun k=>if p then F k else none) r:=by
 simp only[if_pos hp];exact h
theorem of_bytesOf(s:ByteArray):ofBytes (bytesOf s)=s:=by
 refine bext ?_
 rw[ofBytes_list]
 exact bytes_id s
def padB(s:ByteArray)(n:Nat):ByteArray:=ofBytes (bytesOf s++List.replicate (n-s.size) (0:Int))
theorem spec_PadTo_ev(s:ByteArray)(n:Nat)(hn:n≤100000)(hs:s.size≤1073741824):Ev (fun k=>c_spec_PadTo k (s,(n:Int))) (padB s n):=by
 refine EvQ.run (fun k=>spec_PadTo_run k _ _) ?_
 have a1:¬(100000:Int)<(n:Int):=by omega
 simp only[spec_PadTo,a1,decide_false,cond_false]
 refine EvL.ev ?_
 have:=EvL.count (L:=spec_PadTo_l1) (r:=padB s n) (fun i=>((n:Int),bytesOf s++List.replicate i (0:Int))) (n-s.size) (fun i hi=> ?_) (EvL.stop ?_)
 ·simpa using this
 ·have c1:((bytesOf s++List.replicate i (0:Int)).length:Int)<(n:Int):=by simp[bytesOf_len];omega
  have c2:((bytesOf s++List.replicate i (0:Int)).length+([(0:Int)]:List Int).length)*1≤capBytes:=by simp[bytesOf_len,capBytes];omega
  simp only[EvS,spec_PadTo_l1,c1,decide_true,cond_true,if_pos c2,List.append_assoc]
  rw[←List.replicate_succ']
  exact EvQ.const _
 ·have c1:¬((bytesOf s++List.replicate (n-s.size) (0:Int)).length:Int)<(n:Int):=by simp[bytesOf_len];omega
  simp only[spec_PadTo_l1,c1,decide_false,cond_false]
  exact EvQ.const _
theorem repeatL_zero:∀n:Nat,Lib.repeatL [(0:UInt8)] n=List.replicate n 0
 |0=>by simp[Lib.repeatL]
 |n+1=>by
  have:=repeatL_zero n
  simp only[Lib.repeatL]at this ⊢
  simp[List.replicate_succ,this]
theorem append_list(a b:ByteArray):(a++b).data.toList=a.data.toList++b.data.toList:=by
 rw[ByteArray.data_append,Array.toList_append]
theorem app_size(a b:ByteArray):(a++b).size=a.size+b.size:=ByteArray.size_append
theorem app_assoc(a b c:ByteArray):(a++b)++c=a++(b++c):=by
 refine bext ?_
 simp only[append_list,List.append_assoc]
theorem wS(i:Nat)(h:i<1000000000000:=by omega):wrapK .i64 ((i:Int)+1)=((i+1:Nat):Int):=by rw[i64w (by omega) (by omega)];omega
end Go.Proofs.Ytkmnlefjlhogaaa

/- The tables, the residual functions and lemmas of this seat: parts of the proof of the law; conditions: those that each names. -/
import Derived.Test.YtkdcfeopelbojaaGreatDoorFsS
set_option linter.unusedVariables false
set_option linter.unusedSimpArgs false
set_option maxRecDepth 100000
namespace Go.Proofs.YtkdcfeopelbojaaGreatDoor
open Go.Eng
def DD(n:Int):Nat→List Int
 |0=>[]
 |j+1=>((n / 256 ^ j) % 256)::DD n j
theorem ET(n:Int):∀j,(DD n j).length=j
 |0=>rfl
 |j+1=>by simp[DD,ET n j]
def Lf:ByteArray:=⟨#[]⟩
def ur(n:Int)(w:Nat):ByteArray:=if 0≤n∧n<256 ^ w then ofBytes (DD n w)else Lf
theorem iv(n:Int)(w:Nat):(ur n w).size≤w:=by
 unfold ur
 split
 ·rw[cP,ET];exact Nat.le_refl _
 ·exact Nat.zero_le _
theorem Qz(n:Int){w j:Nat}(h:j<w):(List.replicate (w-j) (0:Int)++DD n j).set (w-1-j) ((n / 256 ^ j) % 256)=List.replicate (w-(j+1)) 0++DD n (j+1):=by
 have e1:w-j=(w-(j+1))+1:=by omega
 have e2:w-1-j=(List.replicate (w-(j+1)) (0:Int)).length:=by rw[List.length_replicate];omega
 rw[e1,List.replicate_succ',List.append_assoc,e2,List.set_append_right _ _ (Nat.le_refl _),Nat.sub_self]
 rfl
theorem Mb{w:Nat}(h:w≤6):(256:Int)^ w≤281474976710656:=by
 have:w=0∨w=1∨w=2∨w=3∨w=4∨w=5∨w=6:=by omega
 rcases this with rfl|rfl|rfl|rfl|rfl|rfl|rfl<;>decide
theorem div_pow(n:Int)(j:Nat):n / 256 ^ j / 256=n / 256 ^(j+1):=by
 rw[Int.pow_succ,Int.ediv_ediv_of_nonneg (Int.le_of_lt (Int.pow_pos (by omega)))]
theorem RQ(n:Int)(h:0≤n)(j:Nat):0≤n / 256 ^ j∧n / 256 ^ j≤n:=by
 have hp:(0:Int)<256 ^ j:=Int.pow_pos (by omega)
 exact⟨Int.ediv_nonneg h (Int.le_of_lt hp),Int.ediv_le_self _ h⟩
theorem Ka{L:Nat→(Int×List Int×Int→Option ByteArray)→Int×List Int×Int→Option ByteArray}(n:Int)(w:Nat)(hw:w≤6)(h0:0≤n)(h1:n<281474976710656)
  (hs:∀k self (m:Int) (b:List Int) (i:Nat),0≤m→m<281474976710656→i<b.length→b.length≤6→L k self (m,b,(i:Int))=self (m / 256,b.set i (m % 256),(i:Int)-1)) (he:∀k self m b,L k self (m,b,(-1:Int))=some (ofBytes b)):
  Ev (fun k=>iter k (L k) (n,List.replicate w (0:Int),(w:Int)-1)) (ofBytes (DD n w)):=by
 refine Ev.eq ?_
 refine ak.congr (F':=fun k (_:Unit)=>iter k (L k) (n / 256 ^ 0,List.replicate w (0:Int),(w:Int)-1-(0:Nat))) (fun k _=>by simp) ?_
 refine ak.upto (L:=fun k _=>L k) w (fun(st:List Int) j=>(n / 256 ^ j,st,(w:Int)-1-(j:Nat))) (fun st j=>st=List.replicate (w-j) 0++DD n j) (fun st j hj inv=> ?_) (fun st inv=> ?_) _ 0 (Nat.zero_le _) (by simp[DD])
 ·subst inv
  have e:(w:Int)-1-(j:Nat)=((w-1-j:Nat):Int):=by omega
  obtain⟨d1,d2⟩:=RQ n h0 j
  have hl:(List.replicate (w-j) (0:Int)++DD n j).length=w:=by simp[ET];omega
  have hq:=Qz n hj
  refine ak.congr (F':=fun k p=>p.2 (n / 256 ^ j / 256,List.replicate (w-(j+1)) 0++DD n (j+1),((w-1-j:Nat):Int)-1)) (fun k p=>by rw[e,←hq];exact hs k p.2 _ _ _ d1 (by omega) (by omega) (by omega)) ?_
  refine ak.const _ (GL.self (List.replicate (w-(j+1)) 0++DD n (j+1)) ?_ rfl)
  rw[div_pow]
  have e2:((w-1-j:Nat):Int)-1=(w:Int)-1-((j+1:Nat):Int):=by omega
  rw[e2]
 ·have e:(w:Int)-1-(w:Nat)= -1:=by omega
  refine ak.congr (F':=fun _ _=>some (ofBytes st)) (fun k p=>by rw[e];exact he k p.2 _ _) ?_
  refine ak.const _ (GE.ret (GR.ret ?_))
  rw[inv,Nat.sub_self,List.replicate_zero,List.nil_append]
theorem S8{w:Nat}(h1:1≤w)(h2:w≤6):w=1∨w=2∨w=3∨w=4∨w=5∨w=6:=by omega
theorem oU(n:Int)(w:Nat)(h1:1≤w)(h2:w≤6):Ev (fun k=>iH k (n,(w:Int))) (ur n w):=by
 refine ax.run (fun k=>yR k _ _) ?_
 have a1:¬(w:Int)<1:=by omega
 have a2:¬(6:Int)<(w:Int):=by omega
 have a3:aa .i64 ((8:Int)*w)=8*w:=aV (by omega) (by omega)
 have a4:(0:Int)≤8*w:=by omega
 have a5:aa .i64 ((1:Int)*2 ^(min ((8:Int)*w).toNat (IntKind.bits .i64)))=256 ^ w:=by
  rcases S8 h1 h2 with rfl|rfl|rfl|rfl|rfl|rfl<;>rfl
 have a6:(w:Int)*1≤(au:Int):=by unfold au;omega
 have a7:aa .i64 ((w:Int)-1)=(w:Int)-1:=aV (by omega) (by omega)
 simp only[vQ,a1,a2,a3,a4,a5,a6,a7,decide_false,cond_false,if_true,Int.natCast_nonneg,Int.le_refl,Int.toNat_natCast]
 by_cases c1:n<0
 ·simp only[c1,decide_true,cond_true,ur,show ¬(0≤n∧n<256 ^ w)by omega,if_false];exact ax.const _
 by_cases c2:(256:Int)^ w≤n
 ·simp only[c1,c2,decide_true,decide_false,cond_true,cond_false,ur,show ¬(0≤n∧n<256 ^ w)by omega,if_false];exact ax.const _
 have hp:=Mb h2
 simp only[c1,c2,decide_false,cond_false,ur,show(0≤n∧n<256 ^ w)by omega,and_self,if_true]
 refine Ka n w h2 (by omega) (by omega) (L:=gF) (fun k self m b i hm0 hm1 hi hb=> ?_) (fun k self m b=> ?_)
 ·obtain⟨v,hv⟩:∃v,b[i]? =some v:=⟨_,List.getElem?_eq_getElem hi⟩
  have e1:m.fdiv (2 ^(min (8:Int).toNat (IntKind.bits .i64)))=m / 256:=by
   have:(2:Int)^(min (8:Int).toNat (IntKind.bits .i64))=256:=rfl
   rw[this,Int.fdiv_eq_ediv_of_nonneg _ (by omega)]
  have e2:aa .i64 ((i:Int)-1)=(i:Int)-1:=aV (by omega) (by omega)
  simp only[gF,Int.natCast_nonneg,decide_true,cond_true,if_true,Int.ofNat_lt,hi,Int.toNat_natCast,hv,Option.bind_some,show(0:Int)≤8 by omega,e1,e2,aa,Dh]
 ·simp only[gF,show ¬(0:Int)≤ -1 by omega,decide_false,cond_false]
theorem pB(n:Int)(w:Nat)(h1:1≤w)(h2:w≤6):Ev (fun k=>ix k (n,(w:Int))) (ur n w):=by
 refine ax.run (fun k=>zp k _ _) ?_
 have a3:(aa .u64 ((8:Int)*(aa .u64 (w:Int))))=8*w:=by
  rcases S8 h1 h2 with rfl|rfl|rfl|rfl|rfl|rfl<;>rfl
 have a4:(0:Int)≤8*w:=by omega
 have a5:aa .i64 ((1:Int)*2 ^(min ((8:Int)*w).toNat (IntKind.bits .i64)))=256 ^ w:=by
  rcases S8 h1 h2 with rfl|rfl|rfl|rfl|rfl|rfl<;>rfl
 have a6:(w:Int)*1≤(au:Int):=by unfold au;omega
 have a7:aa .i64 ((w:Int)-1)=(w:Int)-1:=aV (by omega) (by omega)
 have a8:decide ((1:Int)≤w∧(w:Int)≤6)=true:=decide_eq_true (by omega)
 simp only[uk]
 refine ax.bind (cA _ _ _) ?_
 simp only[a3,a4,a5,a6,a7,a8,Bool.not_true,cond_false,if_true,Int.natCast_nonneg,Int.le_refl,Int.toNat_natCast]
 by_cases c1:n<0
 ·simp only[c1,decide_true,cond_true,ur,show ¬(0≤n∧n<256 ^ w)by omega,if_false];exact ax.const _
 by_cases c2:(256:Int)^ w≤n
 ·simp only[c1,c2,decide_true,decide_false,cond_true,cond_false,ur,show ¬(0≤n∧n<256 ^ w)by omega,if_false];exact ax.const _
 have hp:=Mb h2
 simp only[c1,c2,decide_false,cond_false,ur,show(0≤n∧n<256 ^ w)by omega,and_self,if_true]
 refine Ka n w h2 (by omega) (by omega) (L:=gC) (fun k self m b i hm0 hm1 hi hb=> ?_) (fun k self m b=> ?_)
 ·obtain⟨v,hv⟩:∃v,b[i]? =some v:=⟨_,List.getElem?_eq_getElem hi⟩
  have e1:m.tdiv 256=m / 256:=Int.tdiv_eq_ediv_of_nonneg hm0
  have e1':aa .i64 (m / 256)=m / 256:=aV (by omega) (by omega)
  have e2:aa .i64 ((i:Int)-1)=(i:Int)-1:=aV (by omega) (by omega)
  have e3:aa .u8 (m.tmod 256)=m % 256:=by rw[aa,Dh,Int.tmod_eq_emod_of_nonneg hm0];omega
  simp only[gC,Int.natCast_nonneg,decide_true,cond_true,if_true,Int.ofNat_lt,hi,Int.toNat_natCast,hv,Option.bind_some,ne_eq,show ¬((256:Int)=0)by decide,not_false_eq_true,e1,e1',e2,e3]
 ·simp only[gC,show ¬(0:Int)≤ -1 by omega,decide_false,cond_false]
theorem uK(s:ByteArray):(bytesOf s).length=s.size:=by simp[bytesOf,uG]
theorem JU(s:ByteArray):(bytesOf s).map (fun n=>UInt8.ofNat n.toNat)=s.data.toList:=by
 rw[bytesOf,List.map_map,show((fun n:Int=>UInt8.ofNat n.toNat)∘ fun c:UInt8=>(c.toNat:Int))=id from funext fun c=>by simp,List.map_id]
theorem ax.pE{α:Type}{p:Prop}[Decidable p]{F:Nat→Option α}{r:Option α}(hp:p)(h:ax F r):ax (fun k=>if p then F k else none) r:=by
 simp only[if_pos hp];exact h
theorem LR(s:ByteArray):ofBytes (bytesOf s)=s:=by
 refine Bd ?_
 rw[iL]
 exact JU s
def Ij(s:ByteArray)(n:Nat):ByteArray:=ofBytes (bytesOf s++List.replicate (n-s.size) (0:Int))
theorem xi(s:ByteArray)(n:Nat)(hn:n≤100000)(hs:s.size≤1073741824):Ev (fun k=>kO k (s,(n:Int))) (Ij s n):=by
 refine ax.run (fun k=>Em k _ _) ?_
 have a1:¬(100000:Int)<(n:Int):=by omega
 simp only[Ey,a1,decide_false,cond_false]
 refine cZ.ev ?_
 have:=cZ.count (L:=lZ) (r:=Ij s n) (fun i=>((n:Int),bytesOf s++List.replicate i (0:Int))) (n-s.size) (fun i hi=> ?_) (cZ.stop ?_)
 ·simpa using this
 ·have c1:((bytesOf s++List.replicate i (0:Int)).length:Int)<(n:Int):=by simp[uK];omega
  have c2:((bytesOf s++List.replicate i (0:Int)).length+([(0:Int)]:List Int).length)*1≤au:=by simp[uK,au];omega
  simp only[wK,lZ,c1,decide_true,cond_true,if_pos c2,List.append_assoc]
  rw[←List.replicate_succ']
  exact ax.const _
 ·have c1:¬((bytesOf s++List.replicate (n-s.size) (0:Int)).length:Int)<(n:Int):=by simp[uK];omega
  simp only[lZ,c1,decide_false,cond_false]
  exact ax.const _
theorem Am:∀n:Nat,Lib.repeatL [(0:UInt8)] n=List.replicate n 0
 |0=>by simp[Lib.repeatL]
 |n+1=>by
  have:=Am n
  simp only[Lib.repeatL]at this ⊢
  simp[List.replicate_succ,this]
theorem CG(a b:ByteArray):(a++b).data.toList=a.data.toList++b.data.toList:=by
 rw[ByteArray.data_append,Array.toList_append]
theorem GQ(s:ByteArray)(n:Nat)(hn:n≤100000)(hs:s.size≤1073741824):Ev (fun k=>sy k (s,(n:Int))) (Ij s n):=by
 refine ax.run (fun k=>Fb k _ _) ?_
 simp only[E5]
 by_cases c1:(n:Int)≤(s.size:Int)
 ·have:Ij s n=s:=by
   have:n-s.size=0:=by omega
   simp only[Ij,this,List.replicate_zero,List.append_nil,LR]
  simp only[c1,decide_true,cond_true,this];exact ax.const _
 have a1:¬(100000:Int)<(n:Int):=by omega
 have a2:aa .i64 ((n:Int)-(s.size:Int))=((n-s.size:Nat):Int):=by rw[aV (by omega) (by omega)];omega
 simp only[c1,a1,a2,decide_false,cond_false]
 refine ax.bind (ax.run (fun k=>uP k _) (r:=some ⟨(Lib.repeatL [(0:UInt8)] (n-s.size)).toArray⟩) ?_) ?_
 ·have hsz:(⟨#[0]⟩:ByteArray).size=1:=rfl
  have:(0:Int)≤((n-s.size:Nat):Int)∧((n-s.size:Nat):Int)≤9223372036854775807∧(⟨#[0]⟩:ByteArray).size*((n-s.size:Nat):Int).toNat≤140737488355328:=by rw[hsz];omega
  simp only[da]
  refine ax.pE this ?_
  rw[Int.toNat_natCast]
  exact ax.const _
 ·rw[Am]
  have c2:s.size+(⟨(List.replicate (n-s.size) (0:UInt8)).toArray⟩:ByteArray).size≤9223372036854775807:=by
   have:(⟨(List.replicate (n-s.size) (0:UInt8)).toArray⟩:ByteArray).size=n-s.size:=by rw[←uG];simp
   rw[this];omega
  rw[if_pos c2]
  have:s++(⟨(List.replicate (n-s.size) (0:UInt8)).toArray⟩:ByteArray)=Ij s n:=by
   refine Bd ?_
   rw[CG,Ij,iL,List.map_append]
   congr 1
   ·exact(JU s).symm
   ·simp
  rw[this]
  exact ax.const _
def NI(f:dV):Nat→ByteArray
 |0=>(⟨#[70,83,89,83]⟩:ByteArray)++ur f.1 4
 |i+1=>match(fQ f)[i]? with
  |some q=>(NI f i++ur q.1 1)++ur q.2 1
  |none=>NI f i
theorem aF(a b:ByteArray):(a++b).size=a.size+b.size:=ByteArray.size_append
theorem Pb(f:dV):∀i,(NI f i).size≤8+2*i
 |0=>by
  have:=iv f.1 4
  have e:(⟨#[70,83,89,83]⟩:ByteArray).size=4:=rfl
  simp only[NI,aF,e];omega
 |i+1=>by
  have h:=Pb f i
  simp only[NI]
  cases hq:(fQ f)[i]? with
  |none=>simp only;omega
  |some q=>
   have h1:=iv q.1 1
   have h2:=iv q.2 1
   simp only[aF];omega
def Te(f:dV):ByteArray:=Ij (NI f (fQ f).length) 32
theorem R2(a b c:ByteArray):(a++b)++c=a++(b++c):=by
 refine Bd ?_
 simp only[CG,List.append_assoc]
end Go.Proofs.YtkdcfeopelbojaaGreatDoor

/- The tables, the residual functions and lemmas of this seat: parts of the proof of the law; conditions: those that each names. -/
import Derived.Test.YtkdcfeopelbojaaGreatDoorEnt
set_option linter.unusedVariables false
set_option linter.unusedSimpArgs false
set_option maxRecDepth 100000
namespace Go.Proofs.YtkdcfeopelbojaaGreatDoor
open Go.Eng
theorem n7(s:ByteArray)(a b:Nat):(s.extract a b).data.toList=(s.data.toList.drop a).take (b-a):=by
 rw[ByteArray.data_extract,Array.toList_extract,List.extract_eq_take_drop]
theorem ext_get{s:ByteArray}{a b j:Nat}(h:a+j<b):(s.extract a b)[j]? =s[a+j]? :=by
 rw[N3,N3,n7,List.getElem?_take,if_pos (by omega),List.getElem?_drop]
theorem E7{s:ByteArray}{a b j:Nat}(h:a+j<b):bI (s.extract a b) j=bI s (a+j):=by
 unfold bI;rw[ext_get h]
theorem vG{α:Type}{l:List α}{n:Nat}(h:l.length≤n):l.take n=l:=List.take_of_length_le h
def aM(s:ByteArray)(i:Nat):ByteArray:=s.extract (16*i) (16*i+16)
theorem yF{s:ByteArray}{i:Nat}:(aM s i).size=min (16*i+16) s.size-16*i:=ByteArray.size_extract
theorem LP{s:ByteArray}{i:Nat}(h:16*i+16≤s.size):(aM s i).size=16:=by rw[yF];omega
theorem QO(s:ByteArray)(i:Nat){n:Nat}(h:n≤12):(aM s i).extract 3 (3+n)=s.extract (16*i+3) (16*i+3+n):=by
 unfold aM
 rw[ByteArray.extract_extract,show min (16*i+(3+n)) (16*i+16)=16*i+3+n by omega]
def zj(s:ByteArray)(i:Nat):List ByteArray:=(List.range i).map (aM s)
theorem EF(s:ByteArray)(i:Nat):(zj s i).length=i:=by simp[zj]
theorem NK(s:ByteArray)(i:Nat):zj s (i+1)=zj s i++[aM s i]:=by simp[zj,List.range_succ]
theorem Pz{s:ByteArray}{m i:Nat}(h:i<m):(zj s m)[i]? =some (aM s i):=by simp[zj,h]
def chunks(s:ByteArray):Nat:=(s.size+15) / 16
theorem Eo(s:ByteArray)(hs:s.size≤100000):Ev (fun k=>pH k (s,(16:Int))) (zj s (chunks s)):=by
 refine ax.run (fun k=>Dt k _ _) ?_
 have hm:16*chunks s<s.size+16∧s.size≤16*chunks s:=by unfold chunks;omega
 simp only[CK,show ¬(16:Int)<1 by omega,show ¬(1000:Int)<16 by omega,decide_false,cond_false]
 refine cZ.ev ?_
 have:=cZ.count (L:=kT) (r:=zj s (chunks s)) (fun i=>(s.extract (16*i) s.size,(16:Int),zj s i)) (chunks s) (fun i hi=> ?_) (cZ.stop ?_)
 ·simpa[zj,ByteArray.extract_zero_size]using this
 ·have hsz:(s.extract (16*i) s.size).size=s.size-16*i:=by rw[ByteArray.size_extract];omega
  have h0:(0:Int)<((s.extract (16*i) s.size).size:Int):=by omega
  obtain⟨k,hk⟩:∃k:Nat,min 16 (s.size-16*i)=k:=⟨_,rfl⟩
  have hmin:min (16:Int) ((s.extract (16*i) s.size).size:Int)=(k:Int):=by omega
  have hk2:(k:Int)≤((s.extract (16*i) s.size).size:Int):=by omega
  have e1:(s.extract (16*i) s.size).extract 0 k=aM s i:=by
   refine Bd ?_
   rw[n7,n7,aM,n7,List.drop_zero,Nat.sub_zero]
   have hl:=uG s
   rw[List.take_take]
   by_cases h16:16*i+16≤s.size
   ·congr 1;omega
   ·rw[vG (n:=16*i+16-16*i) (by rw[List.length_drop];omega),vG (by rw[List.length_drop];omega)]
  have e2:(s.extract (16*i) s.size).extract k (s.extract (16*i) s.size).size=s.extract (16*(i+1)) s.size:=by
   refine Bd ?_
   have hl:=uG s
   rw[n7,n7,n7,hsz,vG (n:=s.size-16*i) (by rw[List.length_drop];omega),List.drop_drop,vG (n:=s.size-16*i-k) (by rw[List.length_drop];omega),vG (n:=s.size-16*(i+1)) (by rw[List.length_drop];omega)]
   by_cases h16:16*i+16≤s.size
   ·congr 1;omega
   ·rw[List.drop_eq_nil_of_le (by omega),List.drop_eq_nil_of_le (by omega)]
  have hc:=EF s i
  have hcap:((zj s i).length+([aM s i]:List ByteArray).length)*16≤au:=by simp only[hc,List.length_singleton,au];omega
  simp only[wK,kT,h0,decide_true,cond_true,hmin,Int.natCast_nonneg,if_true,hk2,Int.toNat_natCast,e1,e2,hcap,NK]
  exact ax.const _
 ·have h0:¬(0:Int)<((s.extract (16*chunks s) s.size).size:Int):=by rw[ByteArray.size_extract];omega
  simp only[kT,h0,decide_false,cond_false]
  exact ax.const _
abbrev tU:=ByteArray×Int
open Classical in
noncomputable def NR(c:ByteArray):Option tU:=
 if c.size=16∧bI c 2≤12∧(1≤two c 0∧two c 0≤20)∧Ei (c.extract 3 (3+bI c 2))∧Ov (c.extract 3 (3+bI c 2),(two c 0:Int)-1)=c then some (c.extract 3 (3+bI c 2),(two c 0:Int)-1)else none
noncomputable def w5(s:ByteArray):Nat→List tU
 |0=>[]
 |i+1=>w5 s i++(NR (aM s i)).toList
theorem A2(s:ByteArray):∀i,(w5 s i).length≤i
 |0=>Nat.le_refl _
 |i+1=>by
  have:=A2 s i
  have h2:(NR (aM s i)).toList.length≤1:=by cases NR (aM s i)<;>simp
  simp only[w5,List.length_append];omega
theorem kR{s:ByteArray}{i:Nat}(h:¬((aM s i).size=16∧bI (aM s i) 2≤12∧(1≤two (aM s i) 0∧two (aM s i) 0≤20)∧Ei ((aM s i).extract 3 (3+bI (aM s i) 2))∧Ov ((aM s i).extract 3 (3+bI (aM s i) 2),(two (aM s i) 0:Int)-1)=aM s i)):w5 s (i+1)=w5 s i:=by
 simp only[w5,NR,if_neg h,Option.toList_none,List.append_nil]
theorem Kr{s:ByteArray}{i:Nat}(h:(aM s i).size=16∧bI (aM s i) 2≤12∧(1≤two (aM s i) 0∧two (aM s i) 0≤20)∧Ei ((aM s i).extract 3 (3+bI (aM s i) 2))∧Ov ((aM s i).extract 3 (3+bI (aM s i) 2),(two (aM s i) 0:Int)-1)=aM s i):w5 s (i+1)=w5 s i++[((aM s i).extract 3 (3+bI (aM s i) 2),(two (aM s i) 0:Int)-1)]:=by
 simp only[w5,NR,if_pos h,Option.toList_some]
noncomputable def Pd(s:ByteArray):List tU:=w5 s (s.size / 16)
theorem M3{s:ByteArray}:∀{i:Nat} {e:tU},e∈w5 s i→Ei e.1∧0≤e.2∧e.2<20
 |0,e,h=>by cases h
 |i+1,e,h=>by
  simp only[w5,List.mem_append]at h
  rcases h with h|h
  ·exact M3 h
  ·unfold NR at h
   split at h
   ·rename_i hc
    simp at h
    subst h
    exact⟨hc.2.2.2.1,by have:=hc.2.2.1;simp only;omega,by have:=hc.2.2.1;simp only;omega⟩
   ·cases h
set_option maxHeartbeats 400000 in
theorem Ar(s:ByteArray)(hs:s.size≤1000):Ev (fun k=>iter k (ek k) (([]:List tU),zj s (chunks s),((zj s (chunks s)).length:Int),(0:Int))) (w5 s (chunks s)):=by
 refine Ev.eq ?_
 have hm:16*chunks s<s.size+16∧s.size≤16*chunks s:=by unfold chunks;omega
 rw[EF]
 refine ak.upto (L:=fun k _=>ek k) (chunks s) (fun(st:List tU) i=>(st,zj s (chunks s),(chunks s:Int),(i:Int))) (fun st i=>st=w5 s i) (fun st i hi inv=> ?_) (fun st inv=> ?_) [] 0 (Nat.zero_le _) rfl
 ·subst inv
  have hw:aa .i64 ((i:Int)+1)=((i+1:Nat):Int):=by rw[aV (by omega) (by omega)];omega
  have hl:=EF s (chunks s)
  have hel:=A2 s i
  simp only[ek,Int.ofNat_lt,hi,hl,decide_true,cond_true,Int.natCast_nonneg,if_true,Int.toNat_natCast,Pz hi,Option.bind_some,hw]
  have hcs:=yF (s:=s) (i:=i)
  refine ak.bif (fun h=>ak.const _ (GL.self _ rfl (kR fun hc=>by simp at h;omega).symm)) (fun h1=> ?_)
  have h16:(aM s i).size=16:=by simp at h1;omega
  have hb2:(aM s i)[2]?.map (fun c=>(c.toNat:Int))=some (bI (aM s i) 2:Int):=byte_at (by omega)
  have hlt:=mH (aM s i) 2
  have wn:aa .i64 (bI (aM s i) 2:Int)=(bI (aM s i) 2:Int):=LW (by omega)
  have w3:aa .i64 ((3:Int)+(bI (aM s i) 2:Int))=((3+bI (aM s i) 2:Nat):Int):=by rw[aV (by omega) (by omega)];omega
  have ht:=Pw (aM s i) 0
  have wt:aa .i64 ((two (aM s i) 0:Int)-1)=(two (aM s i) 0:Int)-1:=aV (by omega) (by omega)
  simp only[show(0:Int)≤2 by omega,if_true,show(2:Int).toNat=2 from rfl,show(3:Int).toNat=3 from rfl,hb2,Option.bind_some,wn]
  refine ak.bif (fun h=>ak.const _ (GL.self _ rfl (kR fun hc=>by simp at h;omega).symm)) (fun h2=> ?_)
  have hn:bI (aM s i) 2≤12:=by simp at h2;omega
  refine ak.bind (IU (aM s i) 0 (by omega) (by omega)) ?_
  simp only[w3,wt,Int.natCast_nonneg,if_true,Int.toNat_natCast,show(0:Int)≤3 by omega]
  refine ak.pE (by rw[h16];omega) (ak.pE (by omega) ?_)
  have hns:((aM s i).extract 3 (3+bI (aM s i) 2)).size≤12:=by rw[ByteArray.size_extract];omega
  refine ak.bif (fun h3=> ?_) (fun h=>ak.const _ (GL.self _ rfl (kR fun hc=>by simp at h;omega).symm))
  refine ak.bif (fun h4=> ?_) (fun h=>ak.const _ (GL.self _ rfl (kR fun hc=>by simp at h;omega).symm))
  refine ak.CB (GG _ (by unfold fu;omega)) fun b hb=> ?_
  simp at h3 h4
  refine ak.bif (fun h5=> ?_) (fun h=>ak.const _ (GL.self _ rfl (kR fun hc=>by have:=hb.2 hc.2.2.2.1;rw[h]at this;cases this).symm))
  refine ak.bind (Eh (_,_) (by simp only;omega) (by simp only;omega) (by simp only;omega)) ?_
  refine ak.bif (fun h6=> ?_) (fun h=>ak.const _ (GL.self _ rfl (kR fun hc=>by rw[(fg _ _).2 hc.2.2.2.2]at h;cases h).symm))
  refine ak.pE (by simp only[List.length_singleton,au];omega) ?_
  exact ak.const _ (GL.self _ rfl (Kr ⟨h16,hn,⟨by omega,by omega⟩,hb.1 h5,(fg _ _).1 h6⟩).symm)
 ·subst inv
  simp only[ek,Int.lt_irrefl,decide_false,cond_false]
  exact ak.const _ (GE.ret (GR.ret rfl))
theorem Px(s:ByteArray):w5 s (chunks s)=Pd s:=by
 unfold Pd
 by_cases h:chunks s=s.size / 16
 ·rw[h]
 ·have h2:chunks s=s.size / 16+1:=by unfold chunks at h ⊢;omega
  rw[h2]
  exact kR fun hc=>by have:=hc.1;rw[yF]at this;unfold chunks at h2 h;omega
set_option maxHeartbeats 400000 in
theorem Aq(s:ByteArray)(hs:s.size≤1000):Ev (fun k=>iter k (ei k) (([]:List tU),s,(0:Int))) (Pd s):=by
 refine Ev.eq ?_
 refine ak.upto (L:=fun k _=>ei k) (s.size / 16) (fun(st:List tU) i=>(st,s,((16*i:Nat):Int))) (fun st i=>st=w5 s i) (fun st i hi inv=> ?_) (fun st inv=> ?_) [] 0 (Nat.zero_le _) rfl
 ·subst inv
  have hf:16*i+16≤s.size:=by omega
  have hel:=A2 s i
  have h16:=LP hf
  have w16:aa .i64 (((16*i:Nat):Int)+16)=((16*(i+1):Nat):Int):=by rw[aV (by omega) (by omega)];omega
  have w2:aa .i64 (((16*i:Nat):Int)+2)=((16*i+2:Nat):Int):=by rw[aV (by omega) (by omega)];omega
  have w3:aa .i64 (((16*i:Nat):Int)+3)=((16*i+3:Nat):Int):=by rw[aV (by omega) (by omega)];omega
  have hc1:((16*(i+1):Nat):Int)≤(s.size:Int):=by omega
  have eb:bI s (16*i+2)=bI (aM s i) 2:=(E7 (by omega)).symm
  have et:two s (16*i)=two (aM s i) 0:=by
   unfold two
   have:=E7 (s:=s) (a:=16*i) (b:=16*i+16) (j:=0) (by omega)
   have h2:=E7 (s:=s) (a:=16*i) (b:=16*i+16) (j:=1) (by omega)
   unfold aM
   rw[this,h2];rfl
  have hlt:=mH (aM s i) 2
  have wn:aa .i64 (bI (aM s i) 2:Int)=(bI (aM s i) 2:Int):=LW (by omega)
  have w3n:aa .i64 (((16*i+3:Nat):Int)+(bI (aM s i) 2:Int))=((16*i+3+bI (aM s i) 2:Nat):Int):=by rw[aV (by omega) (by omega)];omega
  have ht:=Pw (aM s i) 0
  have wt:aa .i64 ((two (aM s i) 0:Int)-1)=(two (aM s i) 0:Int)-1:=aV (by omega) (by omega)
  have hg:=IF s (16*i) (by omega) (by omega)
  rw[et]at hg
  simp only[ei,w16,hc1,decide_true,cond_true]
  refine ak.bind hg ?_
  simp only[w2,Int.natCast_nonneg,if_true,Int.toNat_natCast,byte_at (show 16*i+2<s.size by omega),eb,Option.bind_some,wn,wt]
  refine ak.bind (cA _ _ _) ?_
  refine ak.bif (fun h=>ak.const _ (GL.self _ rfl (kR fun hc=>by simp at h;omega).symm)) (fun h3=> ?_)
  refine ak.bif (fun h=>ak.const _ (GL.self _ rfl (kR fun hc=>by simp at h;omega).symm)) (fun h2=> ?_)
  have hn:bI (aM s i) 2≤12:=by simp at h2;omega
  simp at h3
  have en:s.extract (16*i+3) (16*i+3+bI (aM s i) 2)=(aM s i).extract 3 (3+bI (aM s i) 2):=(QO s i hn).symm
  have ec:s.extract (16*i) (16*(i+1))=aM s i:=by rw[show 16*(i+1)=16*i+16 by omega];rfl
  have q2:((16*i:Nat):Int)≤((16*(i+1):Nat):Int):=by omega
  have q3:((16*i+3+bI (aM s i) 2:Nat):Int)≤(s.size:Int):=by omega
  have q4:((16*i+3:Nat):Int)≤((16*i+3+bI (aM s i) 2:Nat):Int):=by omega
  simp only[w3,w3n,Int.natCast_nonneg,if_true,Int.toNat_natCast,en,ec,hc1,q2,q3,q4]
  have hns:((aM s i).extract 3 (3+bI (aM s i) 2)).size≤12:=by rw[ByteArray.size_extract];omega
  refine ak.CB (Ge _ (by unfold fu;omega)) fun b hb=> ?_
  refine ak.bif (fun h5=> ?_) (fun h=>ak.const _ (GL.self _ rfl (kR fun hc=>by have:=hb.2 hc.2.2.2.1;rw[h]at this;cases this).symm))
  refine ak.bind (FY (_,_) (by simp only;omega) (by simp only;omega) (by simp only;omega)) ?_
  refine ak.bif (fun h6=> ?_) (fun h=>ak.const _ (GL.self _ rfl (kR fun hc=>by rw[(fg _ _).2 hc.2.2.2.2]at h;cases h).symm))
  refine ak.pE (by simp only[List.length_singleton,au];omega) ?_
  exact ak.const _ (GL.self _ rfl (Kr ⟨h16,hn,⟨by omega,by omega⟩,hb.1 h5,(fg _ _).1 h6⟩).symm)
 ·subst inv
  have w16:aa .i64 (((16*(s.size / 16):Nat):Int)+16)=((16*(s.size / 16)+16:Nat):Int):=by rw[aV (by omega) (by omega)];omega
  have hc1:¬((16*(s.size / 16)+16:Nat):Int)≤(s.size:Int):=by omega
  simp only[ei,w16,hc1,decide_false,cond_false]
  exact ak.const _ (GE.ret (GR.ret rfl))
noncomputable def bR(f:dV)(n:az):List tU:=Pd (qX f n)
theorem KB{f:dV}{n:az}{e:tU}(h:e∈bR f n):Ei e.1∧0≤e.2∧e.2<20:=M3 h
theorem rm{f:dV}{n:az}(h:EK f n)(hi:dy n):(bR f n).length≤16:=by
 have h1:=A2 (qX f n) ((qX f n).size / 16)
 have h2:=wI h hi
 have h3:=sA hi
 unfold bR Pd
 omega
theorem mV{f:dV}(hP:qv f){n:az}{i:Int}(h0:0≤i)(hn:(fI f)[i.toNat]? =some n):Ev (fun k=>eL k (some f,i)) (bR f n):=by
 have hb:=oy hP hn
 have hi:=hP.ino _ _ hn
 have hs:=wI hb hi
 have hz:=sA hi
 refine ax.run (fun k=>wY k _ _) ?_
 simp only[tM]
 refine ax.bind (sY h0 hn hb hi) (ax.bind (Eo _ (by omega)) ?_)
 unfold bR
 rw[←Px]
 exact Ar _ (by omega)
theorem mO{f:dV}(hP:qv f){n:az}{i:Int}(h0:0≤i)(hn:(fI f)[i.toNat]? =some n):Ev (fun k=>eH k (f,i)) (bR f n):=by
 have hb:=oy hP hn
 have hi:=hP.ino _ _ hn
 have hs:=wI hb hi
 have hz:=sA hi
 refine ax.run (fun k=>w6 k _ _) ?_
 have hn':f.2.2.1[i.toNat]? =some n:=hn
 simp only[sX,h0,if_true,hn',Option.bind_some]
 exact ax.bind (zT hb hi) (Aq _ (by omega))
end Go.Proofs.YtkdcfeopelbojaaGreatDoor

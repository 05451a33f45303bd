/- The tables, the residual functions and lemmas of this seat: parts of the proof of the law; conditions: those that each names. -/
import Derived.Test.YtkdcfeopelbojaaGreatDoorEnt
set_option linter.unusedVariables false
set_option linter.unusedSimpArgs false
set_option maxRecDepth 100000
namespace Go.Proofs.YtkdcfeopelbojaaGreatDoor
open Go.Eng
theorem n6(s:ByteArray)(a b:Nat):(s.extract a b).data.toList=(s.data.toList.drop a).take (b-a):=by
 rw[ByteArray.data_extract,Array.toList_extract,List.extract_eq_take_drop]
theorem ext_get{s:ByteArray}{a b j:Nat}(h:a+j<b):(s.extract a b)[j]? =s[a+j]? :=by
 rw[Of,Of,n6,List.getElem?_take,if_pos (by omega),List.getElem?_drop]
theorem E7{s:ByteArray}{a b j:Nat}(h:a+j<b):bJ (s.extract a b) j=bJ s (a+j):=by
 unfold bJ;rw[ext_get h]
theorem uO{α:Type}{l:List α}{n:Nat}(h:l.length≤n):l.take n=l:=List.take_of_length_le h
def aN(s:ByteArray)(i:Nat):ByteArray:=s.extract (16*i) (16*i+16)
theorem zV{s:ByteArray}{i:Nat}:(aN s i).size=min (16*i+16) s.size-16*i:=ByteArray.size_extract
theorem Me{s:ByteArray}{i:Nat}(h:16*i+16≤s.size):(aN s i).size=16:=by rw[zV];omega
theorem Rk(s:ByteArray)(i:Nat){n:Nat}(h:n≤12):(aN s i).extract 3 (3+n)=s.extract (16*i+3) (16*i+3+n):=by
 unfold aN
 rw[ByteArray.extract_extract,show min (16*i+(3+n)) (16*i+16)=16*i+3+n by omega]
def zd(s:ByteArray)(i:Nat):List ByteArray:=(List.range i).map (aN s)
theorem Gd(s:ByteArray)(i:Nat):(zd s i).length=i:=by simp[zd]
theorem NZ(s:ByteArray)(i:Nat):zd s (i+1)=zd s i++[aN s i]:=by simp[zd,List.range_succ]
theorem Qo{s:ByteArray}{m i:Nat}(h:i<m):(zd s m)[i]? =some (aN s i):=by simp[zd,h]
def chunks(s:ByteArray):Nat:=(s.size+15) / 16
theorem Gz(s:ByteArray)(hs:s.size≤100000):Ev (fun k=>qq k (s,(16:Int))) (zd s (chunks s)):=by
 refine aw.run (fun k=>Ed k _ _) ?_
 have hm:16*chunks s<s.size+16∧s.size≤16*chunks s:=by unfold chunks;omega
 simp only[C1,show ¬(16:Int)<1 by omega,show ¬(1000:Int)<16 by omega,decide_false,cond_false]
 refine cI.ev ?_
 have:=cI.count (L:=lf) (r:=zd s (chunks s)) (fun i=>(s.extract (16*i) s.size,(16:Int),zd s i)) (chunks s) (fun i hi=> ?_) (cI.stop ?_)
 ·simpa[zd,ByteArray.extract_zero_size]using this
 ·have hsz:(s.extract (16*i) s.size).size=s.size-16*i:=by rw[ByteArray.size_extract];omega
  have h0:(0:Int)<((s.extract (16*i) s.size).size:Int):=by omega
  obtain⟨k,hk⟩:∃k:Nat,min 16 (s.size-16*i)=k:=⟨_,rfl⟩
  have hmin:min (16:Int) ((s.extract (16*i) s.size).size:Int)=(k:Int):=by omega
  have hk2:(k:Int)≤((s.extract (16*i) s.size).size:Int):=by omega
  have e1:(s.extract (16*i) s.size).extract 0 k=aN s i:=by
   refine AR ?_
   rw[n6,n6,aN,n6,List.drop_zero,Nat.sub_zero]
   have hl:=vS s
   rw[List.take_take]
   by_cases h16:16*i+16≤s.size
   ·congr 1;omega
   ·rw[uO (n:=16*i+16-16*i) (by rw[List.length_drop];omega),uO (by rw[List.length_drop];omega)]
  have e2:(s.extract (16*i) s.size).extract k (s.extract (16*i) s.size).size=s.extract (16*(i+1)) s.size:=by
   refine AR ?_
   have hl:=vS s
   rw[n6,n6,n6,hsz,uO (n:=s.size-16*i) (by rw[List.length_drop];omega),List.drop_drop,uO (n:=s.size-16*i-k) (by rw[List.length_drop];omega),uO (n:=s.size-16*(i+1)) (by rw[List.length_drop];omega)]
   by_cases h16:16*i+16≤s.size
   ·congr 1;omega
   ·rw[List.drop_eq_nil_of_le (by omega),List.drop_eq_nil_of_le (by omega)]
  have hc:=Gd s i
  have hcap:((zd s i).length+([aN s i]:List ByteArray).length)*16≤au:=by simp only[hc,List.length_singleton,au];omega
  simp only[rZ,lf,h0,decide_true,cond_true,hmin,Int.natCast_nonneg,if_true,hk2,Int.toNat_natCast,e1,e2,hcap,NZ]
  exact aw.const _
 ·have h0:¬(0:Int)<((s.extract (16*chunks s) s.size).size:Int):=by rw[ByteArray.size_extract];omega
  simp only[lf,h0,decide_false,cond_false]
  exact aw.const _
abbrev uE:=ByteArray×Int
open Classical in
noncomputable def OB(c:ByteArray):Option uE:=
 if c.size=16∧bJ c 2≤12∧(1≤two c 0∧two c 0≤20)∧Ge (c.extract 3 (3+bJ c 2))∧PX (c.extract 3 (3+bJ c 2),(two c 0:Int)-1)=c then some (c.extract 3 (3+bJ c 2),(two c 0:Int)-1)else none
noncomputable def xz(s:ByteArray):Nat→List uE
 |0=>[]
 |i+1=>xz s i++(OB (aN s i)).toList
theorem AS(s:ByteArray):∀i,(xz s i).length≤i
 |0=>Nat.le_refl _
 |i+1=>by
  have:=AS s i
  have h2:(OB (aN s i)).toList.length≤1:=by cases OB (aN s i)<;>simp
  simp only[xz,List.length_append];omega
theorem kI{s:ByteArray}{i:Nat}(h:¬((aN s i).size=16∧bJ (aN s i) 2≤12∧(1≤two (aN s i) 0∧two (aN s i) 0≤20)∧Ge ((aN s i).extract 3 (3+bJ (aN s i) 2))∧PX ((aN s i).extract 3 (3+bJ (aN s i) 2),(two (aN s i) 0:Int)-1)=aN s i)):xz s (i+1)=xz s i:=by
 simp only[xz,OB,if_neg h,Option.toList_none,List.append_nil]
theorem KE{s:ByteArray}{i:Nat}(h:(aN s i).size=16∧bJ (aN s i) 2≤12∧(1≤two (aN s i) 0∧two (aN s i) 0≤20)∧Ge ((aN s i).extract 3 (3+bJ (aN s i) 2))∧PX ((aN s i).extract 3 (3+bJ (aN s i) 2),(two (aN s i) 0:Int)-1)=aN s i):xz s (i+1)=xz s i++[((aN s i).extract 3 (3+bJ (aN s i) 2),(two (aN s i) 0:Int)-1)]:=by
 simp only[xz,OB,if_pos h,Option.toList_some]
noncomputable def PJ(s:ByteArray):List uE:=xz s (s.size / 16)
theorem Nt{s:ByteArray}:∀{i:Nat} {e:uE},e∈xz s i→Ge e.1∧0≤e.2∧e.2<20
 |0,e,h=>by cases h
 |i+1,e,h=>by
  simp only[xz,List.mem_append]at h
  rcases h with h|h
  ·exact Nt h
  ·unfold OB at h
   split at h
   ·rename_i hc
    simp at h
    subst h
    exact⟨hc.2.2.2.1,by have:=hc.2.2.1;simp only;omega,by have:=hc.2.2.1;simp only;omega⟩
   ·cases h
set_option maxHeartbeats 400000 in
theorem Ap(s:ByteArray)(hs:s.size≤1000):Ev (fun k=>iter k (dY k) (([]:List uE),zd s (chunks s),((zd s (chunks s)).length:Int),(0:Int))) (xz s (chunks s)):=by
 refine Ev.eq ?_
 have hm:16*chunks s<s.size+16∧s.size≤16*chunks s:=by unfold chunks;omega
 rw[Gd]
 refine ak.upto (L:=fun k _=>dY k) (chunks s) (fun(st:List uE) i=>(st,zd s (chunks s),(chunks s:Int),(i:Int))) (fun st i=>st=xz s i) (fun st i hi inv=> ?_) (fun st inv=> ?_) [] 0 (Nat.zero_le _) rfl
 ·subst inv
  have hw:aa .i64 ((i:Int)+1)=((i+1:Nat):Int):=by rw[aV (by omega) (by omega)];omega
  have hl:=Gd s (chunks s)
  have hel:=AS s i
  simp only[dY,Int.ofNat_lt,hi,hl,decide_true,cond_true,Int.natCast_nonneg,if_true,Int.toNat_natCast,Qo hi,Option.bind_some,hw]
  have hcs:=zV (s:=s) (i:=i)
  refine ak.bif (fun h=>ak.const _ (GL.self _ rfl (kI fun hc=>by simp at h;omega).symm)) (fun h1=> ?_)
  have h16:(aN s i).size=16:=by simp at h1;omega
  have hb2:(aN s i)[2]?.map (fun c=>(c.toNat:Int))=some (bJ (aN s i) 2:Int):=byte_at (by omega)
  have hlt:=mL (aN s i) 2
  have wn:aa .i64 (bJ (aN s i) 2:Int)=(bJ (aN s i) 2:Int):=MN (by omega)
  have w3:aa .i64 ((3:Int)+(bJ (aN s i) 2:Int))=((3+bJ (aN s i) 2:Nat):Int):=by rw[aV (by omega) (by omega)];omega
  have ht:=PY (aN s i) 0
  have wt:aa .i64 ((two (aN s i) 0:Int)-1)=(two (aN s i) 0:Int)-1:=aV (by omega) (by omega)
  simp only[show(0:Int)≤2 by omega,if_true,show(2:Int).toNat=2 from rfl,show(3:Int).toNat=3 from rfl,hb2,Option.bind_some,wn]
  refine ak.bif (fun h=>ak.const _ (GL.self _ rfl (kI fun hc=>by simp at h;omega).symm)) (fun h2=> ?_)
  have hn:bJ (aN s i) 2≤12:=by simp at h2;omega
  refine ak.bind (Je (aN s i) 0 (by omega) (by omega)) ?_
  simp only[w3,wt,Int.natCast_nonneg,if_true,Int.toNat_natCast,show(0:Int)≤3 by omega]
  refine ak.pK (by rw[h16];omega) (ak.pK (by omega) ?_)
  have hns:((aN s i).extract 3 (3+bJ (aN s i) 2)).size≤12:=by rw[ByteArray.size_extract];omega
  refine ak.bif (fun h3=> ?_) (fun h=>ak.const _ (GL.self _ rfl (kI fun hc=>by simp at h;omega).symm))
  refine ak.bif (fun h4=> ?_) (fun h=>ak.const _ (GL.self _ rfl (kI fun hc=>by simp at h;omega).symm))
  refine ak.Ds (Ho _ (by unfold ia;omega)) fun b hb=> ?_
  simp at h3 h4
  refine ak.bif (fun h5=> ?_) (fun h=>ak.const _ (GL.self _ rfl (kI fun hc=>by have:=hb.2 hc.2.2.2.1;rw[h]at this;cases this).symm))
  refine ak.bind (E8 (_,_) (by simp only;omega) (by simp only;omega) (by simp only;omega)) ?_
  refine ak.bif (fun h6=> ?_) (fun h=>ak.const _ (GL.self _ rfl (kI fun hc=>by rw[(gQ _ _).2 hc.2.2.2.2]at h;cases h).symm))
  refine ak.pK (by simp only[List.length_singleton,au];omega) ?_
  exact ak.const _ (GL.self _ rfl (KE ⟨h16,hn,⟨by omega,by omega⟩,hb.1 h5,(gQ _ _).1 h6⟩).symm)
 ·subst inv
  simp only[dY,Int.lt_irrefl,decide_false,cond_false]
  exact ak.const _ (GE.ret (GR.ret rfl))
theorem Qj(s:ByteArray):xz s (chunks s)=PJ s:=by
 unfold PJ
 by_cases h:chunks s=s.size / 16
 ·rw[h]
 ·have h2:chunks s=s.size / 16+1:=by unfold chunks at h ⊢;omega
  rw[h2]
  exact kI fun hc=>by have:=hc.1;rw[zV]at this;unfold chunks at h2 h;omega
set_option maxHeartbeats 400000 in
theorem BB(s:ByteArray)(hs:s.size≤1000):Ev (fun k=>iter k (eg k) (([]:List uE),s,(0:Int))) (PJ s):=by
 refine Ev.eq ?_
 refine ak.upto (L:=fun k _=>eg k) (s.size / 16) (fun(st:List uE) i=>(st,s,((16*i:Nat):Int))) (fun st i=>st=xz s i) (fun st i hi inv=> ?_) (fun st inv=> ?_) [] 0 (Nat.zero_le _) rfl
 ·subst inv
  have hf:16*i+16≤s.size:=by omega
  have hel:=AS s i
  have h16:=Me hf
  have w16:aa .i64 (((16*i:Nat):Int)+16)=((16*(i+1):Nat):Int):=by rw[aV (by omega) (by omega)];omega
  have w2:aa .i64 (((16*i:Nat):Int)+2)=((16*i+2:Nat):Int):=by rw[aV (by omega) (by omega)];omega
  have w3:aa .i64 (((16*i:Nat):Int)+3)=((16*i+3:Nat):Int):=by rw[aV (by omega) (by omega)];omega
  have hc1:((16*(i+1):Nat):Int)≤(s.size:Int):=by omega
  have eb:bJ s (16*i+2)=bJ (aN s i) 2:=(E7 (by omega)).symm
  have et:two s (16*i)=two (aN s i) 0:=by
   unfold two
   have:=E7 (s:=s) (a:=16*i) (b:=16*i+16) (j:=0) (by omega)
   have h2:=E7 (s:=s) (a:=16*i) (b:=16*i+16) (j:=1) (by omega)
   unfold aN
   rw[this,h2];rfl
  have hlt:=mL (aN s i) 2
  have wn:aa .i64 (bJ (aN s i) 2:Int)=(bJ (aN s i) 2:Int):=MN (by omega)
  have w3n:aa .i64 (((16*i+3:Nat):Int)+(bJ (aN s i) 2:Int))=((16*i+3+bJ (aN s i) 2:Nat):Int):=by rw[aV (by omega) (by omega)];omega
  have ht:=PY (aN s i) 0
  have wt:aa .i64 ((two (aN s i) 0:Int)-1)=(two (aN s i) 0:Int)-1:=aV (by omega) (by omega)
  have hg:=Jb s (16*i) (by omega) (by omega)
  rw[et]at hg
  simp only[eg,w16,hc1,decide_true,cond_true]
  refine ak.bind hg ?_
  simp only[w2,Int.natCast_nonneg,if_true,Int.toNat_natCast,byte_at (show 16*i+2<s.size by omega),eb,Option.bind_some,wn,wt]
  refine ak.bind (cy _ _ _) ?_
  refine ak.bif (fun h=>ak.const _ (GL.self _ rfl (kI fun hc=>by simp at h;omega).symm)) (fun h3=> ?_)
  refine ak.bif (fun h=>ak.const _ (GL.self _ rfl (kI fun hc=>by simp at h;omega).symm)) (fun h2=> ?_)
  have hn:bJ (aN s i) 2≤12:=by simp at h2;omega
  simp at h3
  have en:s.extract (16*i+3) (16*i+3+bJ (aN s i) 2)=(aN s i).extract 3 (3+bJ (aN s i) 2):=(Rk s i hn).symm
  have ec:s.extract (16*i) (16*(i+1))=aN s i:=by rw[show 16*(i+1)=16*i+16 by omega];rfl
  have q2:((16*i:Nat):Int)≤((16*(i+1):Nat):Int):=by omega
  have q3:((16*i+3+bJ (aN s i) 2:Nat):Int)≤(s.size:Int):=by omega
  have q4:((16*i+3:Nat):Int)≤((16*i+3+bJ (aN s i) 2:Nat):Int):=by omega
  simp only[w3,w3n,Int.natCast_nonneg,if_true,Int.toNat_natCast,en,ec,hc1,q2,q3,q4]
  have hns:((aN s i).extract 3 (3+bJ (aN s i) 2)).size≤12:=by rw[ByteArray.size_extract];omega
  refine ak.Ds (HJ _ (by unfold ia;omega)) fun b hb=> ?_
  refine ak.bif (fun h5=> ?_) (fun h=>ak.const _ (GL.self _ rfl (kI fun hc=>by have:=hb.2 hc.2.2.2.1;rw[h]at this;cases this).symm))
  refine ak.bind (F3 (_,_) (by simp only;omega) (by simp only;omega) (by simp only;omega)) ?_
  refine ak.bif (fun h6=> ?_) (fun h=>ak.const _ (GL.self _ rfl (kI fun hc=>by rw[(gQ _ _).2 hc.2.2.2.2]at h;cases h).symm))
  refine ak.pK (by simp only[List.length_singleton,au];omega) ?_
  exact ak.const _ (GL.self _ rfl (KE ⟨h16,hn,⟨by omega,by omega⟩,hb.1 h5,(gQ _ _).1 h6⟩).symm)
 ·subst inv
  have w16:aa .i64 (((16*(s.size / 16):Nat):Int)+16)=((16*(s.size / 16)+16:Nat):Int):=by rw[aV (by omega) (by omega)];omega
  have hc1:¬((16*(s.size / 16)+16:Nat):Int)≤(s.size:Int):=by omega
  simp only[eg,w16,hc1,decide_false,cond_false]
  exact ak.const _ (GE.ret (GR.ret rfl))
noncomputable def bT(f:eh)(n:az):List uE:=PJ (rh f n)
theorem Ln{f:eh}{n:az}{e:uE}(h:e∈bT f n):Ge e.1∧0≤e.2∧e.2<20:=Nt h
theorem rU{f:eh}{n:az}(h:Gk f n)(hi:du n):(bT f n).length≤16:=by
 have h1:=AS (rh f n) ((rh f n).size / 16)
 have h2:=xh h hi
 have h3:=sP hi
 unfold bT PJ
 omega
theorem nj{f:eh}(hP:rN f){n:az}{i:Int}(h0:0≤i)(hn:(fI f)[i.toNat]? =some n):Ev (fun k=>eJ k (some f,i)) (bT f n):=by
 have hb:=oz hP hn
 have hi:=hP.ino _ _ hn
 have hs:=xh hb hi
 have hz:=sP hi
 refine aw.run (fun k=>xF k _ _) ?_
 simp only[ti]
 refine aw.bind (tJ h0 hn hb hi) (aw.bind (Gz _ (by omega)) ?_)
 unfold bT
 rw[←Qj]
 exact Ap _ (by omega)
theorem nw{f:eh}(hP:rN f){n:az}{i:Int}(h0:0≤i)(hn:(fI f)[i.toNat]? =some n):Ev (fun k=>eN k (f,i)) (bT f n):=by
 have hb:=oz hP hn
 have hi:=hP.ino _ _ hn
 have hs:=xh hb hi
 have hz:=sP hi
 refine aw.run (fun k=>xM k _ _) ?_
 have hn':f.2.2.1[i.toNat]? =some n:=hn
 simp only[tT,h0,if_true,hn',Option.bind_some]
 exact aw.bind (BG hb hi) (BB _ (by omega))
end Go.Proofs.YtkdcfeopelbojaaGreatDoor

/- The tables, the residual functions and lemmas of this seat: parts of the proof of the law; conditions: those that each names. -/
import Derived.Test.YtbpfenmkhapeiaaGreatEnt
set_option linter.unusedVariables false
set_option linter.unusedSimpArgs false
set_option maxRecDepth 100000
namespace Go.Proofs.YtbpfenmkhapeiaaGreat
open Go.Eng
theorem ext_list(s:ByteArray)(a b:Nat):(s.extract a b).data.toList=(s.data.toList.drop a).take (b-a):=by
 rw[ByteArray.data_extract,Array.toList_extract,List.extract_eq_take_drop]
theorem ext_get{s:ByteArray}{a b j:Nat}(h:a+j<b):(s.extract a b)[j]? =s[a+j]? :=by
 rw[bget,bget,ext_list,List.getElem?_take,if_pos (by omega),List.getElem?_drop]
theorem ext_byte{s:ByteArray}{a b j:Nat}(h:a+j<b):byteN (s.extract a b) j=byteN s (a+j):=by
 unfold byteN;rw[ext_get h]
theorem take_big{α:Type}{l:List α}{n:Nat}(h:l.length≤n):l.take n=l:=List.take_of_length_le h
def chunkB(s:ByteArray)(i:Nat):ByteArray:=s.extract (16*i) (16*i+16)
theorem chunk_size{s:ByteArray}{i:Nat}:(chunkB s i).size=min (16*i+16) s.size-16*i:=ByteArray.size_extract
theorem chunk_full{s:ByteArray}{i:Nat}(h:16*i+16≤s.size):(chunkB s i).size=16:=by rw[chunk_size];omega
theorem sub_ext(s:ByteArray)(i:Nat){n:Nat}(h:n≤12):(chunkB s i).extract 3 (3+n)=s.extract (16*i+3) (16*i+3+n):=by
 unfold chunkB
 rw[ByteArray.extract_extract,show min (16*i+(3+n)) (16*i+16)=16*i+3+n by omega]
def cutL(s:ByteArray)(i:Nat):List ByteArray:=(List.range i).map (chunkB s)
theorem cutL_len(s:ByteArray)(i:Nat):(cutL s i).length=i:=by simp[cutL]
theorem cutL_succ(s:ByteArray)(i:Nat):cutL s (i+1)=cutL s i++[chunkB s i]:=by simp[cutL,List.range_succ]
theorem cutL_get{s:ByteArray}{m i:Nat}(h:i<m):(cutL s m)[i]? =some (chunkB s i):=by simp[cutL,h]
def chunks(s:ByteArray):Nat:=(s.size+15) / 16
theorem impl_CutAll_ev(s:ByteArray)(hs:s.size≤100000):Ev (fun k=>c_impl_CutAll k (s,(16:Int))) (cutL s (chunks s)):=by
 refine EvQ.run (fun k=>impl_CutAll_run k _ _) ?_
 have hm:16*chunks s<s.size+16∧s.size≤16*chunks s:=by unfold chunks;omega
 simp only[impl_CutAll,show ¬(16:Int)<1 by omega,show ¬(1000:Int)<16 by omega,decide_false,cond_false]
 refine EvL.ev ?_
 have:=EvL.count (L:=impl_CutAll_l1) (r:=cutL s (chunks s)) (fun i=>(s.extract (16*i) s.size,(16:Int),cutL s i)) (chunks s) (fun i hi=> ?_) (EvL.stop ?_)
 ·simpa[cutL,ByteArray.extract_zero_size]using this
 ·have hsz:(s.extract (16*i) s.size).size=s.size-16*i:=by rw[ByteArray.size_extract];omega
  have h0:(0:Int)<((s.extract (16*i) s.size).size:Int):=by omega
  obtain⟨k,hk⟩:∃k:Nat,min 16 (s.size-16*i)=k:=⟨_,rfl⟩
  have hmin:min (16:Int) ((s.extract (16*i) s.size).size:Int)=(k:Int):=by omega
  have hk2:(k:Int)≤((s.extract (16*i) s.size).size:Int):=by omega
  have e1:(s.extract (16*i) s.size).extract 0 k=chunkB s i:=by
   refine bext ?_
   rw[ext_list,ext_list,chunkB,ext_list,List.drop_zero,Nat.sub_zero]
   have hl:=blen s
   rw[List.take_take]
   by_cases h16:16*i+16≤s.size
   ·congr 1;omega
   ·rw[take_big (n:=16*i+16-16*i) (by rw[List.length_drop];omega),take_big (by rw[List.length_drop];omega)]
  have e2:(s.extract (16*i) s.size).extract k (s.extract (16*i) s.size).size=s.extract (16*(i+1)) s.size:=by
   refine bext ?_
   have hl:=blen s
   rw[ext_list,ext_list,ext_list,hsz,take_big (n:=s.size-16*i) (by rw[List.length_drop];omega),List.drop_drop,take_big (n:=s.size-16*i-k) (by rw[List.length_drop];omega),take_big (n:=s.size-16*(i+1)) (by rw[List.length_drop];omega)]
   by_cases h16:16*i+16≤s.size
   ·congr 1;omega
   ·rw[List.drop_eq_nil_of_le (by omega),List.drop_eq_nil_of_le (by omega)]
  have hc:=cutL_len s i
  have hcap:((cutL s i).length+([chunkB s i]:List ByteArray).length)*16≤capBytes:=by simp only[hc,List.length_singleton,capBytes];omega
  simp only[EvS,impl_CutAll_l1,h0,decide_true,cond_true,hmin,Int.natCast_nonneg,if_true,hk2,Int.toNat_natCast,e1,e2,hcap,cutL_succ]
  exact EvQ.const _
 ·have h0:¬(0:Int)<((s.extract (16*chunks s) s.size).size:Int):=by rw[ByteArray.size_extract];omega
  simp only[impl_CutAll_l1,h0,decide_false,cond_false]
  exact EvQ.const _
abbrev PEnt:=ByteArray×Int
open Classical in
noncomputable def entO(c:ByteArray):Option PEnt:=
 if c.size=16∧byteN c 2≤12∧(1≤two c 0∧two c 0≤20)∧nameP (c.extract 3 (3+byteN c 2))∧recV (c.extract 3 (3+byteN c 2),(two c 0:Int)-1)=c then some (c.extract 3 (3+byteN c 2),(two c 0:Int)-1)else none
noncomputable def entL(s:ByteArray):Nat→List PEnt
 |0=>[]
 |i+1=>entL s i++(entO (chunkB s i)).toList
theorem entL_len(s:ByteArray):∀i,(entL s i).length≤i
 |0=>Nat.le_refl _
 |i+1=>by
  have:=entL_len s i
  have h2:(entO (chunkB s i)).toList.length≤1:=by cases entO (chunkB s i)<;>simp
  simp only[entL,List.length_append];omega
theorem entL_no{s:ByteArray}{i:Nat}(h:¬((chunkB s i).size=16∧byteN (chunkB s i) 2≤12∧(1≤two (chunkB s i) 0∧two (chunkB s i) 0≤20)∧nameP ((chunkB s i).extract 3 (3+byteN (chunkB s i) 2))∧recV ((chunkB s i).extract 3 (3+byteN (chunkB s i) 2),(two (chunkB s i) 0:Int)-1)=chunkB s i)):entL s (i+1)=entL s i:=by
 simp only[entL,entO,if_neg h,Option.toList_none,List.append_nil]
theorem entL_yes{s:ByteArray}{i:Nat}(h:(chunkB s i).size=16∧byteN (chunkB s i) 2≤12∧(1≤two (chunkB s i) 0∧two (chunkB s i) 0≤20)∧nameP ((chunkB s i).extract 3 (3+byteN (chunkB s i) 2))∧recV ((chunkB s i).extract 3 (3+byteN (chunkB s i) 2),(two (chunkB s i) 0:Int)-1)=chunkB s i):entL s (i+1)=entL s i++[((chunkB s i).extract 3 (3+byteN (chunkB s i) 2),(two (chunkB s i) 0:Int)-1)]:=by
 simp only[entL,entO,if_pos h,Option.toList_some]
noncomputable def entV(s:ByteArray):List PEnt:=entL s (s.size / 16)
theorem ent_mem{s:ByteArray}:∀{i:Nat} {e:PEnt},e∈entL s i→nameP e.1∧0≤e.2∧e.2<20
 |0,e,h=>by cases h
 |i+1,e,h=>by
  simp only[entL,List.mem_append]at h
  rcases h with h|h
  ·exact ent_mem h
  ·unfold entO at h
   split at h
   ·rename_i hc
    simp at h
    subst h
    exact⟨hc.2.2.2.1,by have:=hc.2.2.1;simp only;omega,by have:=hc.2.2.1;simp only;omega⟩
   ·cases h
set_option maxHeartbeats 400000 in
theorem entries_loop_impl(s:ByteArray)(hs:s.size≤1000):Ev (fun k=>iter k (impl_FS_entries_l1 k) (([]:List PEnt),cutL s (chunks s),((cutL s (chunks s)).length:Int),(0:Int))) (entL s (chunks s)):=by
 refine Ev.eq ?_
 have hm:16*chunks s<s.size+16∧s.size≤16*chunks s:=by unfold chunks;omega
 rw[cutL_len]
 refine EvX.upto (L:=fun k _=>impl_FS_entries_l1 k) (chunks s) (fun(st:List PEnt) i=>(st,cutL s (chunks s),(chunks s:Int),(i:Int))) (fun st i=>st=entL s i) (fun st i hi inv=> ?_) (fun st inv=> ?_) [] 0 (Nat.zero_le _) rfl
 ·subst inv
  have hw:wrapK .i64 ((i:Int)+1)=((i+1:Nat):Int):=by rw[i64w (by omega) (by omega)];omega
  have hl:=cutL_len s (chunks s)
  have hel:=entL_len s i
  simp only[impl_FS_entries_l1,Int.ofNat_lt,hi,hl,decide_true,cond_true,Int.natCast_nonneg,if_true,Int.toNat_natCast,cutL_get hi,Option.bind_some,hw]
  have hcs:=chunk_size (s:=s) (i:=i)
  refine EvX.bif (fun h=>EvX.const _ (GL.self _ rfl (entL_no fun hc=>by simp at h;omega).symm)) (fun h1=> ?_)
  have h16:(chunkB s i).size=16:=by simp at h1;omega
  have hb2:(chunkB s i)[2]?.map (fun c=>(c.toNat:Int))=some (byteN (chunkB s i) 2:Int):=byte_at (by omega)
  have hlt:=byteN_lt (chunkB s i) 2
  have wn:wrapK .i64 (byteN (chunkB s i) 2:Int)=(byteN (chunkB s i) 2:Int):=wnat (by omega)
  have w3:wrapK .i64 ((3:Int)+(byteN (chunkB s i) 2:Int))=((3+byteN (chunkB s i) 2:Nat):Int):=by rw[i64w (by omega) (by omega)];omega
  have ht:=two_lt (chunkB s i) 0
  have wt:wrapK .i64 ((two (chunkB s i) 0:Int)-1)=(two (chunkB s i) 0:Int)-1:=i64w (by omega) (by omega)
  simp only[show(0:Int)≤2 by omega,if_true,show(2:Int).toNat=2 from rfl,show(3:Int).toNat=3 from rfl,hb2,Option.bind_some,wn]
  refine EvX.bif (fun h=>EvX.const _ (GL.self _ rfl (entL_no fun hc=>by simp at h;omega).symm)) (fun h2=> ?_)
  have hn:byteN (chunkB s i) 2≤12:=by simp at h2;omega
  refine EvX.bind (impl_Get2_ev (chunkB s i) 0 (by omega) (by omega)) ?_
  simp only[w3,wt,Int.natCast_nonneg,if_true,Int.toNat_natCast,show(0:Int)≤3 by omega]
  refine EvX.ifp (by rw[h16];omega) (EvX.ifp (by omega) ?_)
  have hns:((chunkB s i).extract 3 (3+byteN (chunkB s i) 2)).size≤12:=by rw[ByteArray.size_extract];omega
  refine EvX.bif (fun h3=> ?_) (fun h=>EvX.const _ (GL.self _ rfl (entL_no fun hc=>by simp at h;omega).symm))
  refine EvX.bif (fun h4=> ?_) (fun h=>EvX.const _ (GL.self _ rfl (entL_no fun hc=>by simp at h;omega).symm))
  refine EvX.say (impl_name_say _ (by unfold big;omega)) fun b hb=> ?_
  simp at h3 h4
  refine EvX.bif (fun h5=> ?_) (fun h=>EvX.const _ (GL.self _ rfl (entL_no fun hc=>by have:=hb.2 hc.2.2.2.1;rw[h]at this;cases this).symm))
  refine EvX.bind (impl_record_ev (_,_) (by simp only;omega) (by simp only;omega) (by simp only;omega)) ?_
  refine EvX.bif (fun h6=> ?_) (fun h=>EvX.const _ (GL.self _ rfl (entL_no fun hc=>by rw[(eqS_iff _ _).2 hc.2.2.2.2]at h;cases h).symm))
  refine EvX.ifp (by simp only[List.length_singleton,capBytes];omega) ?_
  exact EvX.const _ (GL.self _ rfl (entL_yes ⟨h16,hn,⟨by omega,by omega⟩,hb.1 h5,(eqS_iff _ _).1 h6⟩).symm)
 ·subst inv
  simp only[impl_FS_entries_l1,Int.lt_irrefl,decide_false,cond_false]
  exact EvX.const _ (GE.ret (GR.ret rfl))
theorem entL_end(s:ByteArray):entL s (chunks s)=entV s:=by
 unfold entV
 by_cases h:chunks s=s.size / 16
 ·rw[h]
 ·have h2:chunks s=s.size / 16+1:=by unfold chunks at h ⊢;omega
  rw[h2]
  exact entL_no fun hc=>by have:=hc.1;rw[chunk_size]at this;unfold chunks at h2 h;omega
set_option maxHeartbeats 400000 in
theorem entries_loop_spec(s:ByteArray)(hs:s.size≤1000):Ev (fun k=>iter k (spec_l10Entries_l1 k) (([]:List PEnt),s,(0:Int))) (entV s):=by
 refine Ev.eq ?_
 refine EvX.upto (L:=fun k _=>spec_l10Entries_l1 k) (s.size / 16) (fun(st:List PEnt) i=>(st,s,((16*i:Nat):Int))) (fun st i=>st=entL s i) (fun st i hi inv=> ?_) (fun st inv=> ?_) [] 0 (Nat.zero_le _) rfl
 ·subst inv
  have hf:16*i+16≤s.size:=by omega
  have hel:=entL_len s i
  have h16:=chunk_full hf
  have w16:wrapK .i64 (((16*i:Nat):Int)+16)=((16*(i+1):Nat):Int):=by rw[i64w (by omega) (by omega)];omega
  have w2:wrapK .i64 (((16*i:Nat):Int)+2)=((16*i+2:Nat):Int):=by rw[i64w (by omega) (by omega)];omega
  have w3:wrapK .i64 (((16*i:Nat):Int)+3)=((16*i+3:Nat):Int):=by rw[i64w (by omega) (by omega)];omega
  have hc1:((16*(i+1):Nat):Int)≤(s.size:Int):=by omega
  have eb:byteN s (16*i+2)=byteN (chunkB s i) 2:=(ext_byte (by omega)).symm
  have et:two s (16*i)=two (chunkB s i) 0:=by
   unfold two
   have:=ext_byte (s:=s) (a:=16*i) (b:=16*i+16) (j:=0) (by omega)
   have h2:=ext_byte (s:=s) (a:=16*i) (b:=16*i+16) (j:=1) (by omega)
   unfold chunkB
   rw[this,h2];rfl
  have hlt:=byteN_lt (chunkB s i) 2
  have wn:wrapK .i64 (byteN (chunkB s i) 2:Int)=(byteN (chunkB s i) 2:Int):=wnat (by omega)
  have w3n:wrapK .i64 (((16*i+3:Nat):Int)+(byteN (chunkB s i) 2:Int))=((16*i+3+byteN (chunkB s i) 2:Nat):Int):=by rw[i64w (by omega) (by omega)];omega
  have ht:=two_lt (chunkB s i) 0
  have wt:wrapK .i64 ((two (chunkB s i) 0:Int)-1)=(two (chunkB s i) 0:Int)-1:=i64w (by omega) (by omega)
  have hg:=spec_Get2_ev s (16*i) (by omega) (by omega)
  rw[et]at hg
  simp only[spec_l10Entries_l1,w16,hc1,decide_true,cond_true]
  refine EvX.bind hg ?_
  simp only[w2,Int.natCast_nonneg,if_true,Int.toNat_natCast,byte_at (show 16*i+2<s.size by omega),eb,Option.bind_some,wn,wt]
  refine EvX.bind (l01In_ev _ _ _) ?_
  refine EvX.bif (fun h=>EvX.const _ (GL.self _ rfl (entL_no fun hc=>by simp at h;omega).symm)) (fun h3=> ?_)
  refine EvX.bif (fun h=>EvX.const _ (GL.self _ rfl (entL_no fun hc=>by simp at h;omega).symm)) (fun h2=> ?_)
  have hn:byteN (chunkB s i) 2≤12:=by simp at h2;omega
  simp at h3
  have en:s.extract (16*i+3) (16*i+3+byteN (chunkB s i) 2)=(chunkB s i).extract 3 (3+byteN (chunkB s i) 2):=(sub_ext s i hn).symm
  have ec:s.extract (16*i) (16*(i+1))=chunkB s i:=by rw[show 16*(i+1)=16*i+16 by omega];rfl
  have q2:((16*i:Nat):Int)≤((16*(i+1):Nat):Int):=by omega
  have q3:((16*i+3+byteN (chunkB s i) 2:Nat):Int)≤(s.size:Int):=by omega
  have q4:((16*i+3:Nat):Int)≤((16*i+3+byteN (chunkB s i) 2:Nat):Int):=by omega
  simp only[w3,w3n,Int.natCast_nonneg,if_true,Int.toNat_natCast,en,ec,hc1,q2,q3,q4]
  have hns:((chunkB s i).extract 3 (3+byteN (chunkB s i) 2)).size≤12:=by rw[ByteArray.size_extract];omega
  refine EvX.say (spec_name_say _ (by unfold big;omega)) fun b hb=> ?_
  refine EvX.bif (fun h5=> ?_) (fun h=>EvX.const _ (GL.self _ rfl (entL_no fun hc=>by have:=hb.2 hc.2.2.2.1;rw[h]at this;cases this).symm))
  refine EvX.bind (spec_record_ev (_,_) (by simp only;omega) (by simp only;omega) (by simp only;omega)) ?_
  refine EvX.bif (fun h6=> ?_) (fun h=>EvX.const _ (GL.self _ rfl (entL_no fun hc=>by rw[(eqS_iff _ _).2 hc.2.2.2.2]at h;cases h).symm))
  refine EvX.ifp (by simp only[List.length_singleton,capBytes];omega) ?_
  exact EvX.const _ (GL.self _ rfl (entL_yes ⟨h16,hn,⟨by omega,by omega⟩,hb.1 h5,(eqS_iff _ _).1 h6⟩).symm)
 ·subst inv
  have w16:wrapK .i64 (((16*(s.size / 16):Nat):Int)+16)=((16*(s.size / 16)+16:Nat):Int):=by rw[i64w (by omega) (by omega)];omega
  have hc1:¬((16*(s.size / 16)+16:Nat):Int)≤(s.size:Int):=by omega
  simp only[spec_l10Entries_l1,w16,hc1,decide_false,cond_false]
  exact EvX.const _ (GE.ret (GR.ret rfl))
noncomputable def entsV(f:PFS)(n:PInode):List PEnt:=entV (contV f n)
theorem ents_mem{f:PFS}{n:PInode}{e:PEnt}(h:e∈entsV f n):nameP e.1∧0≤e.2∧e.2<20:=ent_mem h
theorem ents_len{f:PFS}{n:PInode}(h:blkOK f n)(hi:inodeP n):(entsV f n).length≤16:=by
 have h1:=entL_len (contV f n) ((contV f n).size / 16)
 have h2:=cont_size h hi
 have h3:=size_ok hi
 unfold entsV entV
 omega
theorem impl_entries_ev{f:PFS}(hP:fsP f){n:PInode}{i:Int}(h0:0≤i)(hn:(fI f)[i.toNat]? =some n):Ev (fun k=>c_impl_FS_entries k (some f,i)) (entsV f n):=by
 have hb:=blk_ok hP hn
 have hi:=hP.ino _ _ hn
 have hs:=cont_size hb hi
 have hz:=size_ok hi
 refine EvQ.run (fun k=>impl_FS_entries_run k _ _) ?_
 simp only[impl_FS_entries]
 refine EvQ.bind (impl_content_ev h0 hn hb hi) (EvQ.bind (impl_CutAll_ev _ (by omega)) ?_)
 unfold entsV
 rw[←entL_end]
 exact entries_loop_impl _ (by omega)
theorem spec_entries_ev{f:PFS}(hP:fsP f){n:PInode}{i:Int}(h0:0≤i)(hn:(fI f)[i.toNat]? =some n):Ev (fun k=>c_spec_l10Entries k (f,i)) (entsV f n):=by
 have hb:=blk_ok hP hn
 have hi:=hP.ino _ _ hn
 have hs:=cont_size hb hi
 have hz:=size_ok hi
 refine EvQ.run (fun k=>spec_l10Entries_run k _ _) ?_
 have hn':f.2.2.1[i.toNat]? =some n:=hn
 simp only[spec_l10Entries,h0,if_true,hn',Option.bind_some]
 exact EvQ.bind (spec_text_ev hb hi) (entries_loop_spec _ (by omega))
end Go.Proofs.YtbpfenmkhapeiaaGreat

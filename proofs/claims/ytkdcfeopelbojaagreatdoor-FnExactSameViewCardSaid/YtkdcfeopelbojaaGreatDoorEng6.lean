/- The engine, part 6: a symbolic interpreter of the model's programs and the proof that its runs are what the functions do; conditions: those that its theorems name. -/
import Derived.Test.YtkdcfeopelbojaaGreatDoorEng5
import Derived.Shelf.Strings.IndexAnyAll
import Derived.Laws.Runes
import Derived.Laws.RangeAny
import Derived.Shelf.Small.Utf8
import Derived.Shelf.RegionOpenPlain
set_option linter.unusedVariables false
set_option linter.unusedSimpArgs false
namespace Go.Eng
section
open Go.Proofs Go.Shelf Go.RowKit Go.Lib
variable {P:Program} {ρ:Ren}
set_option maxHeartbeats 4000000 in
set_option maxRecDepth 1000000 in
theorem Gv(L:Lays.n152 P ρ)(s:ByteArray)(w:World)(hascii:∀(j:Nat) b,s.data.toList[j]? =some b→b.toNat<128):
  Calls P (ρ.f 152) #[.string s,.int .i32 65533] w fun e w'=>e= .returned (.int .i64 (-1))∧∃pos,w'=w.iter s pos:=by
 have HA:Aside (∀(j:Nat) b,s.data.toList[j]? =some b→b.toNat<128):=hascii
 clear hascii
 have t3:=L.t3;have a3:=L.a3;have z3:=L.z3;have v3:=L.v3
 have t4:=L.t4;have a4:=L.a4;have z4:=L.z4;have v4:=L.v4
 have t5:=L.t5;have a5:=L.a5;have z5:=L.z5;have v5:=L.v5
 have t9:=L.t9;have a9:=L.a9;have z9:=L.z9;have v9:=L.v9
 have t21:=L.t21;have a21:=L.a21;have z21:=L.z21;have v21:=L.v21
 go_enter L.f152,Body.n152_ntmps ρ
 go_wp2
 go_loopg [5,6] s.size (fun g _ _ wx=>∃i:Nat,i+g=s.size∧wx=w.iter s i)
 case atStart=>exact⟨0,by omega,rfl⟩
 case round=>
  obtain⟨i,hig,rfl⟩:=hrel
  cases gk with
  |zero=>
   obtain rfl:i=s.size:=by omega
   have hnx:=run_next_end (P:=P) w s s.size
   go_wp2
   go_ret
   exact⟨rfl,_,rfl⟩
  |succ g=>
   have hi:i<s.size:=by omega
   obtain⟨x,hx⟩:∃x:UInt8,s[i]'hi=x:=⟨_,rfl⟩
   have hxl:s.data.toList[i]? =some x:=by rw[←hx];exact Lib.data_getElem? s i hi
   have hx128:x.toNat<128:=HA.out i x hxl
   have hnx:=fun ty=>run_next_ascii (P:=P) w s i ty hi (by rw[hx];exact hx128)
   rw[hx]at hnx
   clear hxl hx
   have hne:¬((x.toNat:Int)=65533):=by omega
   go_wp2
   go_roundg g
   case measure=>omega
   case rel=>exact⟨i+1,by omega,rfl⟩
set_option maxHeartbeats 8000000 in
set_option maxRecDepth 1000000 in
theorem F5(L:Lays.n152 P ρ)(s:ByteArray)(r:Int)(w:World)(h128:128≤r)(hne:r≠65533)(hle:r≤2147483647)(hascii:∀b∈s.data.toList,b.toNat<128):
  Calls P (ρ.f 152) #[.string s,.int .i32 r] w fun e w'=>e= .returned (.int .i64 (-1))∧Below w.heap.size w w':=by
 have HA:Aside (∀b∈s.data.toList,b.toNat<128):=hascii
 clear hascii
 have t3:=L.t3;have a3:=L.a3;have z3:=L.z3;have v3:=L.v3
 have t4:=L.t4;have a4:=L.a4;have z4:=L.z4;have v4:=L.v4
 have t5:=L.t5;have a5:=L.a5;have z5:=L.z5;have v5:=L.v5
 have t9:=L.t9;have a9:=L.a9;have z9:=L.z9;have v9:=L.v9
 have t21:=L.t21;have a21:=L.a21;have z21:=L.z21;have v21:=L.v21
 have t46:=L.t46;have a46:=L.a46;have z46:=L.z46;have v46:=L.v46
 have e119:∀args w,(callFunc (ρ.f 119) args).run P w= .ok (.enter (ρ.f 119) args) w:=enters_of L.f119 (by kernel_rfl) rfl
 have e137:∀args w,(callFunc (ρ.f 137) args).run P w= .ok (.enter (ρ.f 137) args) w:=enters_of L.f137 (by kernel_rfl) rfl
 have hn1:¬(r<128):=by omega
 cases hv:Lib.validRune r
 ·go_enter L.f152,Body.n152_ntmps ρ
  go_wp2_with (go_at_fn (ρ.f 119);refine(Any.utf8_ValidRune {L with} _ _).mono ?_;rintro e w' ⟨rfl,hw⟩;rw[hw,hv])
  go_ret
  exact⟨rfl,Below.refl _ _⟩
 ·go_enter L.f152,Body.n152_ntmps ρ
  go_wp2_with (go_at_fn (ρ.f 119);refine(Any.utf8_ValidRune {L with} _ _).mono ?_;rintro e w' ⟨rfl,hw⟩;rw[hw,hv])
  have hs21:(P.underlying (ρ.t 21)).isSome=true:=by rw[t21];rfl
  have hcv:=run_convert_int_string (P:=P) w (ρ.t 21) (ρ.t 9) .i32 r hs21 t9
  obtain⟨rs,hrs⟩:∃rs,Utf8.encode r=rs:=⟨_,rfl⟩
  rw[hrs]at hcv
  have hb:=encode_facts r (by rw[validRune_eq];exact hv) h128
  rw[hrs]at hb
  obtain⟨b1,b2,b3⟩:=hb
  have hlast:=b3 (by omega)
  obtain⟨N,hN⟩:∃N,rs.size=N+1:=⟨rs.size-1,by omega⟩
  have hNl:N<rs.size:=by omega
  obtain⟨c,hc⟩:∃c:UInt8,rs[N]'hNl=c:=⟨_,rfl⟩
  have hNe:rs.size-1=N:=by omega
  have hcl:128≤c.toNat:=by
   rw[←hc]
   simpa only[hNe]using hlast
  clear hlast b3
  have hz:wrap64 ((rs.size:Int)-1)=(N:Int):=by unfold wrap64;omega
  clear hNe
  go_step3
  go_wp2
  go_loopg [9] 1 (fun g t9 wx=>g=1∧t9= .int .i64 (N:Int)∧wx=w)
  case atStart=>exact⟨rfl,rfl,rfl⟩
  case round=>
   obtain⟨rfl,rfl,rfl⟩:=hrel
   by_cases hi:N<s.size
   ·obtain⟨x,hx⟩:∃x:UInt8,s[N]'hi=x:=⟨_,rfl⟩
    have hx128:x.toNat<128:=by
     refine HA.out x ?_
     rw[←hx];exact Array.getElem_mem_toList (xs:=s.data) hi
    have hxc:((x.toNat:Int) != (c.toNat:Int))=true:=by
     have:¬((x.toNat:Int)=(c.toNat:Int)):=by omega
     simpa using this
    have hext:Lib.indexByte (s.extract (N+1) s.size).data.toList ((c.toNat:Int)).toNat.toUInt8= -1:=by
     have hback:((c.toNat:Int)).toNat.toUInt8=c:=by simp
     rw[hback]
     have hcon:=Lib.contains_iff_indexByte (s.extract (N+1) s.size).data.toList c
     have hno:(s.extract (N+1) s.size).data.toList.contains c=false:=by
      rw[←Bool.not_eq_true,List.contains_iff_mem]
      intro hm
      have:=HA.out c (mem_extract hm)
      omega
     rw[hno]at hcon
     have h1:=of_decide_eq_false hcon.symm
     have h2:=Lib.indexByte_ge (s.extract (N+1) s.size).data.toList c
     omega
    have hi1:(N:Int)<(s.size:Int):=by omega
    have hi2:(N:Int)<(rs.size:Int):=by omega
    obtain⟨M,hM⟩:∃M,M=N+1:=⟨_,rfl⟩
    have hz6:IntKind.i64.wrap ((N:Int)+1)=(M:Int):=by rw[IntKind.wrap_i64];omega
    have hz7:(M:Int)≤(s.size:Int):=by omega
    have hz8:M≤s.size:=by omega
    rw[←hM]at hext
    clear hM
    have mixed:=L.mixed
    clear hN
    go_wp2
    go_step3
    go_wp2
    go_quiet_o (fail)
    go_wp2
    obtain⟨wq,hwq⟩:∃wq,wr.drewN nq=wq:=⟨_,rfl⟩
    rw[hwq]
    have HW:Aside (wr.drewN nq=wq):=hwq
    clear hwq
    go_quiet_o ((go_at_fn (ρ.f 137);refine Calls.quiet_of_same (Any.strings_IndexByte {L with} _ _ _)))
    have hext2:Lib.indexByte (List.take (s.size-M) (List.drop M s.data.toList)) c= -1:=by simpa using hext
    rw[hext2]
    go_wp2
    refine(show bodyPost P (Body.n152 ρ) (fun e w'=>e=Ending.returned (Value.int IntKind.i64 (-1))∧Below wr.heap.size wr w') Exit.ret _ _ from ?_)
    go_ret
    exact⟨rfl,by rw[←HW.out];exact⟨rfl,rfl,rfl,Nat.le_refl _,fun _ _=>rfl⟩⟩
   ·go_wp2
    rw[Exit.noGoto_ret]
    go_ret
    exact⟨rfl,Below.refl _ _⟩
theorem JY(s:ByteArray)(pos:Nat)(h:pos<s.size)(ha:128≤(s[pos]'h).toNat)(j:Nat)(hj:pos≤j)(hj2:j<pos+(Utf8.decode s pos).2)(hjs:j<s.size):128≤(s[j]'hjs).toNat:=by
 have hn:¬(s[pos]'h).toNat<128:=by omega
 by_cases hjp:j=pos
 ·subst hjp;exact ha
 have hget:∀k (hk:pos+k<s.size),s.get! (pos+k)=s[pos+k]'hk:=fun k hk=>get_at s (pos+k) hk
 have hcont:∀k,(decide (pos+k<s.size)&&((s.get! (pos+k)).toNat / 64==2))=true→∀hk:pos+k<s.size,128≤(s[pos+k]'hk).toNat:=fun k hc hk=>by
  rw[Bool.and_eq_true,beq_iff_eq,hget k hk]at hc
  omega
 simp only[Utf8.decode,get_at s pos h,hn,if_false]at hj2
 have fin:∀k,j=pos+k→(decide (pos+k<s.size)&&((s.get! (pos+k)).toNat / 64==2))=true→128≤(s[j]'hjs).toNat:=fun k hk hc=>by
  subst hk;exact hcont k hc hjs
 split at hj2
 ·rename_i hc
  simp only[Bool.and_eq_true]at hc
  split at hj2
  ·exact fin 1 (by omega) (by simpa using hc.2)
  ·omega
 ·split at hj2
  ·rename_i hc
   simp only[Bool.and_eq_true]at hc
   split at hj2
   ·by_cases h1:j=pos+1
    ·exact fin 1 h1 (by simpa using hc.1.2)
    ·exact fin 2 (by omega) (by simpa using hc.2)
   ·omega
  ·split at hj2
   ·rename_i hc
    simp only[Bool.and_eq_true]at hc
    split at hj2
    ·by_cases h1:j=pos+1
     ·exact fin 1 h1 (by simpa using hc.1.1.2)
     by_cases h2:j=pos+2
     ·exact fin 2 h2 (by simpa using hc.1.2)
     ·exact fin 3 (by omega) (by simpa using hc.2)
    ·omega
   ·omega
theorem Gn(w:World)(b:Nat)(s:ByteArray)(pos:Nat)(ty:TypeId)(hb:w.heap[b]? =some (.stringIter s pos))(h:pos<s.size):
  (Instr.next (.pointer (some ⟨b,0,none⟩)) true ty).run P w=
   .ok (.tuple #[.bool true,.int .i64 pos,.int .i32 (Utf8.decode s pos).1]) {w with heap:=w.heap.setIfInBounds b (.stringIter s (pos+(Utf8.decode s pos).2))}:=by
 have hbs:b<w.heap.size:=(Array.getElem?_eq_some_iff.1 hb).1
 simp only[Instr.next,getObj,setObj,Sem.run_bind,Sem.run,hb,Result.andThen,h,if_true,hbs]
 rfl
theorem zF(w:World)(b:Nat)(s:ByteArray)(pos:Nat)(ty:TypeId)(hb:w.heap[b]? =some (.stringIter s pos))(h:¬pos<s.size):
  (Instr.next (.pointer (some ⟨b,0,none⟩)) true ty).run P w= .ok (.tuple #[.bool false]) w:=by
 simp[Instr.next,getObj,Sem.run,hb,h]
theorem Jb(L:Lays.n152 P ρ)(s:ByteArray)(r:Int)(w:World)(h128:128≤r)(hle:r≤2147483647)(hascii:∀(j:Nat) b,s.data.toList[j]? =some b→b.toNat<128):
  Calls P (ρ.f 152) #[.string s,.int .i32 r] w fun e w'=>e= .returned (.int .i64 (-1))∧Below w.heap.size w w':=by
 by_cases h:r=65533
 ·subst h
  refine(Gv L s w hascii).mono fun e w' ⟨h1,pos,h2⟩=>⟨h1, ?_⟩
  rw[h2]
  exact(Below.refl _ _).alloc (Nat.le_refl _) _
 ·refine F5 L s r w h128 h hle fun b hb=> ?_
  obtain⟨j,hj⟩:=List.mem_iff_getElem?.1 hb
  exact hascii j b hj
theorem L6{s chars:List UInt8}{i k:Nat}(h:Lib.NoAny s chars i)(hk:∀(j:Nat) b,i≤j→j<k→s[j]? =some b→128≤b.toNat)(hc:∀(j:Nat) b,chars[j]? =some b→b.toNat<128):Lib.NoAny s chars k:=fun j b hj hb=>by
 by_cases hji:j<i
 ·exact h j b hji hb
 ·have h1:=hk j b (by omega) hj hb
  rw[←Bool.not_eq_true,List.contains_iff_mem]
  intro hm
  obtain⟨n,hn⟩:=List.mem_iff_getElem?.1 hm
  have:=hc n b hn
  omega
set_option maxHeartbeats 8000000 in
set_option maxRecDepth 1000000 in
theorem E2(L:Lays.n153 P ρ)(s chars:ByteArray)(w:World)(h2:2≤chars.size)(h8:s.size≤8)(hac:∀(j:Nat) b,chars.data.toList[j]? =some b→b.toNat<128):
  Calls P (ρ.f 153) #[.string s,.string chars] w fun e w'=>e= .returned (.int .i64 (Lib.indexAny s.data.toList chars.data.toList))∧Below w.heap.size w w':=by
 have HC:Aside (∀(j:Nat) b,chars.data.toList[j]? =some b→b.toNat<128):=hac
 clear hac
 have hemp:chars.toList.isEmpty=false:=by
  rw[Lib.toList_data]
  cases h:chars.data.toList with
  |nil=>have:=Lib.size_eq chars;rw[h,List.length_nil]at this;omega
  |cons _ _=>rfl
 have hn1:((chars.size:Int)==1)=false:=beq_eq_false_iff_ne.2 (by omega)
 have h8z:decide ((8:Int)<(s.size:Int))=false:=decide_eq_false (by omega)
 have t3:=L.t3;have a3:=L.a3;have z3:=L.z3;have v3:=L.v3
 have t4:=L.t4;have a4:=L.a4;have z4:=L.z4;have v4:=L.v4
 have t5:=L.t5;have a5:=L.a5;have z5:=L.z5;have v5:=L.v5
 have t9:=L.t9;have a9:=L.a9;have z9:=L.z9;have v9:=L.v9
 have t21:=L.t21;have a21:=L.a21;have z21:=L.z21;have v21:=L.v21
 have e152:∀args w,(callFunc (ρ.f 152) args).run P w= .ok (.enter (ρ.f 152) args) w:=enters_of L.f152 (by kernel_rfl) rfl
 have e226:∀args w,(callFunc (ρ.f 226) args).run P w= .ok (.enter (ρ.f 226) args) w:=enters_of L.f226 (by kernel_rfl) rfl
 go_enter L.f153,Body.n153_ntmps ρ
 go_wp2_with (go_at_fn (ρ.f 226);refine(Any.strings_shouldUseASCIISet {L with} _ _).mono ?_;rintro e w' ⟨rfl,hw⟩;rw[hw,h8z])
 go_loopg [9,10] s.size (fun g _ _ wx=>∃i:Nat,s.size≤i+g∧wx.heap[w.heap.size]? =some (.stringIter s i)∧Below w.heap.size w wx∧Lib.NoAny s.data.toList chars.data.toList i)
 case atStart=>exact⟨0,by omega,World.iter_heap w s 0,(Below.refl _ _).alloc (Nat.le_refl _) _,Lib.NoAny.zero _ _⟩
 case round=>
  obtain⟨i,hig,hit,hbe,hno⟩:=hrel
  have HN:Aside (Lib.NoAny s.data.toList chars.data.toList i):=hno
  have HB:Aside (Below w.heap.size w wr):=hbe
  have HI:Aside (wr.heap[w.heap.size]? =some (.stringIter s i)):=hit
  clear hno hbe
  by_cases hi:i<s.size
  ·have hgp:0<gk:=by omega
   obtain⟨g,rfl⟩:∃g,gk=g+1:=⟨gk-1,by omega⟩
   have hnx:=fun ty=>Gn (P:=P) wr w.heap.size s i ty hit hi
   obtain⟨wn,hwn⟩:∃wn,({wr with heap:=wr.heap.setIfInBounds w.heap.size (.stringIter s (i+(Utf8.decode s i).2))}:World)=wn:=⟨_,rfl⟩
   have hbs:w.heap.size<wr.heap.size:=(Array.getElem?_eq_some_iff.1 hit).1
   rw[hwn]at hnx
   have HW:Aside (wn.heap[w.heap.size]? =some (.stringIter s (i+(Utf8.decode s i).2))∧Below w.heap.size w wn∧w.heap.size<wn.heap.size):=by
    subst hwn
    refine⟨by simp[hbs],HB.out.trans ⟨rfl,rfl,rfl,by simp,fun k hk=>by show(wr.heap.setIfInBounds _ _)[k]? =_;rw[Array.getElem?_setIfInBounds_ne (by omega)]⟩,by simpa using hbs⟩
   clear hwn hit
   obtain⟨x,hx⟩:∃x:UInt8,s[i]'hi=x:=⟨_,rfl⟩
   have hxl:s.data.toList[i]? =some x:=by rw[←hx];exact Lib.data_getElem? s i hi
   have Hx:Aside (s.data.toList[i]? =some x):=hxl
   have hle:=decode_le s i
   by_cases hxa:x.toNat<128
   ·have hdec:=decode_ascii s i hi (by rw[hx];exact hxa)
    rw[hx]at hdec
    rw[hdec]at HW hnx
    clear hx hxl
    have hcon:=Lib.contains_iff_indexByte chars.data.toList x
    have hback:((x.toNat:Int)).toNat.toUInt8=x:=by simp
    cases hin:chars.data.toList.contains x
    ·rw[hin]at hcon
     have hlt:¬((0:Int)≤Lib.indexByte chars.data.toList x):=of_decide_eq_false hcon.symm
     clear hcon
     go_wp2_with (go_at_fn (ρ.f 152);refine(Any.strings_IndexRune_ascii {L with} _ _ _ (by omega) (by omega)).mono ?_;rintro e w' ⟨rfl,hw⟩;rw[hw,hback])
     go_roundg g
     case measure=>omega
     case rel=>exact⟨i+1,by omega,HW.out.1,HW.out.2.1,HN.out.succ Hx.out hin⟩
    ·rw[hin]at hcon
     have hge:(0:Int)≤Lib.indexByte chars.data.toList x:=of_decide_eq_true hcon.symm
     clear hcon
     go_wp2_with (go_at_fn (ρ.f 152);refine(Any.strings_IndexRune_ascii {L with} _ _ _ (by omega) (by omega)).mono ?_;rintro e w' ⟨rfl,hw⟩;rw[hw,hback])
     go_ret
     exact⟨by rw[Lib.indexAny_hit HN.out Hx.out hin];rfl,HW.out.2.1⟩
   ·have hhi:=decode_high s i hi (by rw[hx];omega)
    have hsk:=JY s i hi (by rw[hx];omega)
    have HN2:Aside (Lib.NoAny s.data.toList chars.data.toList (i+(Utf8.decode s i).2)):=by
     refine L6 HN.out (fun j b h1 h2 h3=> ?_) HC.out
     have hjs:j<s.size:=by rw[Lib.size_eq];exact(List.getElem?_eq_some_iff.1 h3).1
     have:=hsk j h1 h2 hjs
     rw[Lib.data_getElem? s j hjs]at h3
     injection h3 with h3
     rw[←h3];exact this
    obtain⟨R,hR⟩:∃R,(Utf8.decode s i).1=R:=⟨_,rfl⟩
    obtain⟨K,hK⟩:∃K,(Utf8.decode s i).2=K:=⟨_,rfl⟩
    rw[hR]at hnx hle
    rw[hR,hK]at hhi
    rw[hK]at HW HN2
    clear hsk hx hxl hR hK
    have hR1:(128:Int)≤(R:Int):=by omega
    have hR2:(R:Int)≤2147483647:=by omega
    go_wp2_with (go_at_fn (ρ.f 152);refine(Jb {L with} _ _ _ hR1 hR2 HC.out).mono ?_;rintro e w' ⟨rfl,hw⟩)
    go_roundg g
    case measure=>omega
    case rel=>
     refine⟨i+K,by omega, ?_,HW.out.2.1.trans ⟨hw.os,hw.tape,hw.output,hw.size,fun k hk=>hw.block k (by have:=HW.out.2.2;omega)⟩,HN2.out⟩
     rw[hw.block _ HW.out.2.2]
     exact HW.out.1
  ·have hnx:=fun ty=>zF (P:=P) wr w.heap.size s i ty hit hi
   clear hit
   go_wp2
   go_ret
   refine⟨?_,HB.out⟩
   rw[Lib.indexAny_none (fun j b hj hb=>HN.out j b (by rw[←Lib.size_eq]at hj;omega) hb)]
   rfl
theorem IA(L:Lays.n153 P ρ)(h116:(P.info? (ρ.t 116)).map (fun i=>(i.zero,i.size))=some (some (.agg (Array.replicate 256 (.bool false))),256))(s chars:ByteArray)(w:World)(hs:s.size<4294967281)(hcs:chars.size<4294967281)(hac:∀(j:Nat) b,chars.data.toList[j]? =some b→b.toNat<128):
  Calls P (ρ.f 153) #[.string s,.string chars] w fun e w'=>e= .returned (.int .i64 (Lib.indexAny s.data.toList chars.data.toList))∧Below w.heap.size w w':=by
 by_cases h0:chars.size=0
 ·exact(Any.strings_IndexAny_none L s chars w h0).mono fun e w' ⟨h1,h2⟩=>⟨h1,h2▸Below.refl _ _⟩
 by_cases h1:chars.size=1
 ·exact(Any.strings_IndexAny_one L s chars w h1 hac).mono fun e w' ⟨h1,h2⟩=>⟨h1,h2▸Below.refl _ _⟩
 by_cases h8:s.size≤8
 ·exact E2 L s chars w (by omega) h8 hac
 ·refine(Any.strings_IndexAny_long L (zero_of_info h116).1 (zero_of_info h116).2 s chars w (by omega) (by omega) hs hcs hac).mono fun e w' ⟨h1,h2⟩=>⟨h1, ?_⟩
  rw[h2]
  exact((Below.refl _ _).alloc (Nat.le_refl _) _).alloc (by simp) _
set_option maxHeartbeats 1000000 in
theorem DH(L:Lays.n150 P ρ)(h116:(P.info? (ρ.t 116)).map (fun i=>(i.zero,i.size))=some (some (.agg (Array.replicate 256 (.bool false))),256))(s chars:ByteArray)(w:World)(hs:s.size<4294967281)(hcs:chars.size<4294967281)(hac:∀(j:Nat) b,chars.data.toList[j]? =some b→b.toNat<128):
  Calls P (ρ.f 150) #[.string s,.string chars] w fun e w'=>e= .returned (.bool (Lib.containsAny s.data.toList chars.data.toList))∧Below w.heap.size w w':=by
 have c:=IA {L with} h116 s chars w hs hcs hac
 have t3:=L.t3;have a3:=L.a3;have z3:=L.z3;have v3:=L.v3
 have t4:=L.t4;have a4:=L.a4;have z4:=L.z4;have v4:=L.v4
 have t9:=L.t9;have a9:=L.a9;have z9:=L.z9;have v9:=L.v9
 have e153:∀args w,(callFunc (ρ.f 153) args).run P w= .ok (.enter (ρ.f 153) args) w:=enters_of L.f153 (by kernel_rfl) rfl
 go_enter L.f150,Body.n150_ntmps ρ
 go_wp2_with (go_at_fn (ρ.f 153);refine c.mono ?_;rintro e w' ⟨rfl,hw⟩)
 go_ret
 exact⟨rfl,hw⟩
theorem Co{P:Program}{τ:dM}{f:Nat}{fn:Func}{c:Code}(hf:P.funcs[f]? =some fn)(hn:(fn.name== "runtime.NumGoroutine")=false)(hc:fn.body=some c)
  (h:∀(s chars:ByteArray) (w:World),s.size<4294967281→chars.size<4294967281→(∀(j:Nat) b,chars.data.toList[j]? =some b→b.toNat<128)→Calls P f #[.string s,.string chars] w fun e w'=>e= .returned (.bool (Lib.containsAny s.data.toList chars.data.toList))∧RowKit.Below w.heap.size w w'):
  ln P τ f ⟨[.val .str,.val .str],[.bool],none⟩ bK:=by
 refine rG hf hn hc rfl fun{w KS gs x z} hx hz _ _ _=> ?_
 obtain⟨y1,y2,rfl,h1,h2⟩:=ES hx
 obtain⟨g1,rfl,e1⟩:=oR h1
 obtain⟨g2,rfl,e2⟩:=oR h2
 have hz':bK x=some z:=hz
 unfold bK at hz'
 split at hz'
 ·rename_i hq
  injection hz' with hz'
  subst hz'
  refine⟨⟨.bool,_⟩,rfl,rfl,fun _ _=>trivial, ?_⟩
  have e1':(g1:ByteArray)=x.1:=e1
  have e2':(g2:ByteArray)=x.2:=e2
  show Calls P f #[.string g1,.string g2] w _
  rw[e1',e2']
  refine Calls.mono (h x.1 x.2 w hq.1 hq.2.1 fun j b hb=> ?_) fun e w' hp=>⟨?_,mh.below hp.2⟩
  ·have:=List.all_eq_true.1 hq.2.2 b (List.mem_iff_getElem?.2 ⟨j,hb⟩)
   exact of_decide_eq_true this
  ·rw[hp.1];rfl
 ·cases hz'
end
end Go.Eng

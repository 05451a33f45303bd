/- The engine, part 6: a symbolic interpreter of the model's programs and the proof that its runs are what the functions do; conditions: those that its theorems name. -/
import Derived.Test.YtmmgfgfkkpeedaaGreatDoorEng5
import Derived.Shelf.Strings.Split
set_option linter.unusedVariables false
set_option linter.unusedSimpArgs false
namespace Go.Eng
section
open Go.Proofs Go.Shelf Go.RowKit Go.Lib
section
variable {P:Program} {ρ:Ren}
set_option maxHeartbeats 1000000 in
theorem splitOne_any(L:Lays.n146 P ρ)(hi9:(P.info? (ρ.t 9)).map (fun i=>(i.zero,i.size,i.bytes))=some (some (.string ByteArray.empty),1,16))(s:ByteArray)(c:UInt8)(w:World)(hs:s.size<4294967281):
  Calls P (ρ.f 146) #[.string s,.string ⟨#[c]⟩] w fun e w'=>
   e= .returned (.slice (some ⟨w.heap.size,0,none⟩) (Lib.countB s ⟨#[c]⟩+1) (Lib.countB s ⟨#[c]⟩+1))∧w'=w.alloc (.cells ((Lib.splitB ⟨#[c]⟩ 0 (Lib.countB s ⟨#[c]⟩) s).map Value.string).toArray (ρ.t 9)):=by
 have h1:1≤(⟨#[c]⟩:ByteArray).size:=Nat.le_refl _
 have hle:=Lib.countB_le (⟨#[c]⟩:ByteArray) h1 s.size s (Nat.le_refl _)
 have hlen:=Lib.splitB_all (⟨#[c]⟩:ByteArray) h1 0 _ s rfl
 have hC:Calls P (ρ.f 138) #[.string s,.string ⟨#[c]⟩] w fun e w'=>e= .returned (.int .i64 (Lib.countB s ⟨#[c]⟩))∧w'=w:=by
  refine(Any.strings_Count_one {L with} s c w).mono fun e w' ⟨he,hw⟩=>⟨?_,hw⟩
  rw[he]
  show _=Ending.returned (Value.int .i64 ((Lib.count s.data.toList [c]:Nat):Int))
  rw[Lib.count_one]
  rfl
 have hI:∀(x:ByteArray) (cs:Array Value),x.size≤s.size→Calls P (ρ.f 143) #[.string x,.string ⟨#[c]⟩] (w.alloc (.cells cs (ρ.t 9))) fun e w'=>e= .returned (.int .i64 (Lib.indexB x ⟨#[c]⟩))∧w'=w.alloc (.cells cs (ρ.t 9)):=fun x cs _=>by
  refine(Any.strings_Index_one {L with} x c _).mono fun e w' ⟨he,hw⟩=>⟨?_,hw⟩
  rw[he]
  show _=Ending.returned (Value.int .i64 (Lib.index x.data.toList [c]))
  rw[Lib.index_one]
 have cc:=Any.strings_genSplit_core {L with} hi9 s ⟨#[c]⟩ 0 (-1) (Lib.countB s ⟨#[c]⟩+1) w hs h1 (Nat.zero_le _) hI hC (by decide) (by decide) (by rw[if_pos (by decide)];omega)
 rw[Nat.add_sub_cancel,hlen]at cc
 have e2:Lib.cellsOf (Lib.splitB ⟨#[c]⟩ 0 (Lib.countB s ⟨#[c]⟩) s) (Lib.countB s ⟨#[c]⟩+1)=((Lib.splitB ⟨#[c]⟩ 0 (Lib.countB s ⟨#[c]⟩) s).map Value.string).toArray:=by rw[←hlen];exact Lib.cellsOf_full _
 rw[e2]at cc
 have t3:=L.t3;have t9:=L.t9;have t31:=L.t31
 have a3:=L.a3;have a9:=L.a9;have a31:=L.a31
 have z3:=L.z3;have v3:=L.v3;have z9:=L.z9;have v9:=L.v9;have z31:=L.z31;have v31:=L.v31
 have e221:∀args w,(callFunc (ρ.f 221) args).run P w= .ok (.enter (ρ.f 221) args) w:=enters_of L.f221 (by kernel_rfl) rfl
 go_enter L.f146,Body.n146_ntmps ρ
 go_wp2_with (go_at_fn (ρ.f 221);refine cc.mono ?_;rintro e w' ⟨rfl,hw⟩;rw[hw])
 go_ret
 exact⟨rfl,rfl⟩
end
def ext_strings_HasSuffix(x:ByteArray×ByteArray):Option Bool:=if x.1.size≤9223372036854775807 then some (Lib.hasSuffix x.1.data.toList x.2.data.toList)else none
theorem fnOK_HasSuffix{P:Program}{τ:Tabs}{f:Nat}{fn:Func}{c:Code}(hf:P.funcs[f]? =some fn)(hn:(fn.name== "runtime.NumGoroutine")=false)(hc:fn.body=some c)
  (h:∀(s p:ByteArray) (w:World),s.size≤9223372036854775807→Calls P f #[.string s,.string p] w fun e w'=>e= .returned (.bool (Lib.hasSuffix s.data.toList p.data.toList))∧w'=w):
  FnOK P τ f ⟨[.val .str,.val .str],[.bool],none⟩ ext_strings_HasSuffix:=by
 refine fnOK_ext hf hn hc rfl fun{w KS gs x z} hx hz _ _ _=> ?_
 obtain⟨y1,y2,rfl,h1,h2⟩:=two_of hx
 obtain⟨g1,rfl,e1⟩:=sg_of h1
 obtain⟨g2,rfl,e2⟩:=sg_of h2
 have hz':ext_strings_HasSuffix x=some z:=hz
 unfold ext_strings_HasSuffix at hz'
 split at hz'
 ·rename_i hq
  injection hz' with hz'
  subst hz'
  have e1':(g1:ByteArray)=x.1:=e1
  have e2':(g2:ByteArray)=x.2:=e2
  refine⟨⟨.bool,_⟩,rfl,rfl,fun _ _=>trivial, ?_⟩
  show Calls P f #[.string g1,.string g2] w _
  rw[e1',e2']
  refine Calls.mono (h x.1 x.2 w hq) fun e w' hp=>⟨?_,hp.2▸KeptM.refl _⟩
  rw[hp.1]
  rfl
 ·cases hz'
def ext_strings_Split(x:ByteArray×ByteArray):Option (List ByteArray):=if x.1.size<4294967281∧x.2.size=1 then some (Lib.splitB x.2 0 (Lib.countB x.1 x.2) x.1)else none
theorem fnOK_Split{P:Program}{τ:Tabs}{f:Nat}{fn:Func}{c:Code}{te:TypeId}(hf:P.funcs[f]? =some fn)(hn:(fn.name== "runtime.NumGoroutine")=false)(hc:fn.body=some c)
  (h:∀(s:ByteArray) (c:UInt8) (w:World),s.size<4294967281→Calls P f #[.string s,.string ⟨#[c]⟩] w fun e w'=>
   e= .returned (.slice (some ⟨w.heap.size,0,none⟩) (Lib.countB s ⟨#[c]⟩+1) (Lib.countB s ⟨#[c]⟩+1))∧w'=w.alloc (.cells ((Lib.splitB ⟨#[c]⟩ 0 (Lib.countB s ⟨#[c]⟩) s).map Value.string).toArray te)):
  FnOK P τ f ⟨[.val .str,.val .str],[.list true .str],none⟩ ext_strings_Split:=by
 refine fnOK_extN hf hn hc rfl fun{w KS gs x z} hx hz hok hKS _=> ?_
 obtain⟨y1,y2,rfl,h1,h2⟩:=two_of hx
 obtain⟨g1,rfl,e1⟩:=sg_of h1
 obtain⟨g2,rfl,e2⟩:=sg_of h2
 have hz':ext_strings_Split x=some z:=hz
 have e1':(g1:ByteArray)=x.1:=e1
 have e2':(g2:ByteArray)=x.2:=e2
 unfold ext_strings_Split at hz'
 split at hz'
 ·rename_i hq
  injection hz' with hz'
  subst hz'
  obtain⟨c,hc1⟩:=Lib.one_byte x.2 hq.2
  show Calls P f #[.string g1,.string g2] w _
  rw[e1',e2',hc1]
  refine Calls.mono (h x.1 c w hq.1) fun e w' hp=> ?_
  obtain⟨p1,p2⟩:=hp
  have hlen:=Lib.splitB_all (⟨#[c]⟩:ByteArray) (Nat.le_refl _) 0 _ x.1 rfl
  have hle:=Lib.countB_le (⟨#[c]⟩:ByteArray) (Nat.le_refl _) x.1.size x.1 (Nat.le_refl _)
  generalize hR:Lib.splitB ⟨#[c]⟩ 0 (Lib.countB x.1 ⟨#[c]⟩) x.1=R at hlen p2
  have hq1:=hq.1
  subst p2
  rw[←hlen]at p1
  have row:(w.alloc (.cells (R.map Value.string).toArray te)).ownsRow w.heap.size te 1 (.slice (some ⟨w.heap.size,0,none⟩) R.length R.length) R.length (R.map Value.string):=by
   refine⟨by simp,.inr ⟨w.heap.size,R.length,(R.map Value.string).toArray,rfl,Nat.le_refl _,by show(Array.push w.heap _)[w.heap.size]? =_;exact Array.getElem?_push_size, ?_, ?_, ?_, ?_⟩⟩
   ·exact Nat.le_refl _
   ·unfold maxLen;omega
   ·simp
   ·simp only[Nat.mul_one];exact List.take_of_length_le (by simp)
  obtain⟨g,s1,s2,s3,s4,s5⟩:=ownG_of_row (te:= .str) (KS:=KS) row R rfl (flat_str R) (fun r _=>trivial) (fun r _=>rfl)
  refine⟨⟨.list true .str,g⟩,by rw[p1,s1];rfl, ?_,s3,s4,s5,KeptM.below ((Below.refl _ w).alloc (Nat.le_refl _) _)⟩
  have hd:er (.list true .str) g=R:=by
   show g.rows.map (er .str)=_
   rw[s2];exact List.map_id' _
  show _=[(⟨.list true .str,er (.list true .str) g⟩:Dyn)]
  rw[hd]
  rfl
 ·cases hz'
end
end Go.Eng

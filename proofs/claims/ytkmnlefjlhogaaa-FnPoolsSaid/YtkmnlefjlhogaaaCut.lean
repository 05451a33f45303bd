/- The tables, the residual functions and lemmas of this seat: parts of the proof of the law; conditions: those that each names. -/
import Derived.Test.YtkmnlefjlhogaaaNxt
set_option linter.unusedVariables false
set_option linter.unusedSimpArgs false
set_option maxRecDepth 100000
namespace Go.Proofs.Ytkmnlefjlhogaaa
open Go.Eng
def zero32:ByteArray:=padB ⟨#[]⟩ 32
theorem pad32_ev:Ev (fun k=>c_spec_PadTo k ((⟨#[]⟩:ByteArray),(32:Int))) zero32:=spec_PadTo_ev ⟨#[]⟩ 32 (by omega) (by decide)
def cutV:Nat→ByteArray→List ByteArray
 |0,_=>[]
 |m+1,s=>if s.size=0 then []else if s.size≤32 then [s]else s.extract 0 32::cutV m (s.extract 32 s.size)
theorem cutV_ok:∀(m:Nat) (s:ByteArray),(cutV m s).length≤m∧∀x∈cutV m s,x.size≤32
 |0,s=>⟨Nat.le_refl _,fun x hx=>by cases hx⟩
 |m+1,s=>by
  simp only[cutV]
  split
  ·exact⟨Nat.zero_le _,fun x hx=>by cases hx⟩
  ·split
   ·exact⟨by simp,fun x hx=>by rw[List.mem_singleton.1 hx];assumption⟩
   ·obtain⟨h1,h2⟩:=cutV_ok m (s.extract 32 s.size)
    refine⟨by rw[List.length_cons];omega,fun x hx=> ?_⟩
    rcases List.mem_cons.1 hx with rfl|hx
    ·rw[ByteArray.size_extract];omega
    ·exact h2 x hx
theorem spec_cutl:∀(m:Nat) (s:ByteArray) (acc:List ByteArray),s.size≤m→m+acc.length≤1000000→EvL spec_CutAll_l1 (s,(32:Int),acc) (acc++cutV m s):=by
 intro m
 induction m with
 |zero=>
  intro s acc hs ha
  have h0:s=⟨#[]⟩:=by refine bext ?_;exact List.eq_nil_of_length_eq_zero (by rw[blen];omega)
  subst h0
  refine EvL.stop ?_
  rw[cutV,List.append_nil]
  simp only[spec_CutAll_l1,show ¬(32:Int)<(((⟨#[]⟩:ByteArray).size:Nat):Int)from by show ¬(32:Int)<0;decide,decide_false,cond_false,eqS_refl,Bool.not_true]
  exact EvQ.const _
 |succ m ih=>
  intro s acc hs ha
  by_cases h32:32<s.size
  ·have hcap:(acc.length+([s.extract 0 (32:Int).toNat]:List ByteArray).length)*16≤capBytes:=by show(acc.length+1)*16≤capBytes;unfold capBytes;omega
   have e:acc++cutV (m+1) s=(acc++[s.extract 0 32])++cutV m (s.extract 32 s.size):=by
    rw[cutV,if_neg (by omega),if_neg (by omega),List.append_assoc];rfl
   rw[e]
   refine EvL.step (d':=(s.extract 32 s.size,(32:Int),acc++[s.extract 0 32])) ?_ (ih _ _ (by rw[ByteArray.size_extract];omega) (by rw[List.length_append];show m+(acc.length+1)≤_;omega))
   simp only[EvS,spec_CutAll_l1,show(32:Int)<(s.size:Int)by omega,decide_true,cond_true,show(0:Int)≤32 by decide,show(32:Int)≤(s.size:Int)by omega,if_true,hcap]
   exact EvQ.const _
  ·refine EvL.stop ?_
   simp only[spec_CutAll_l1,show ¬(32:Int)<(s.size:Int)by omega,decide_false,cond_false]
   by_cases h0:s.size=0
   ·have h0:s=⟨#[]⟩:=by refine bext ?_;exact List.eq_nil_of_length_eq_zero (by rw[blen];omega)
    subst h0
    have e:cutV (m+1) (⟨#[]⟩:ByteArray)=[]:=by simp only[cutV];exact if_pos rfl
    rw[e,List.append_nil,eqS_refl]
    exact EvQ.const _
   ·have hne:eqS s ⟨#[]⟩=false:=by
     cases he:eqS s ⟨#[]⟩with
     |false=>rfl
     |true=>rw[(eqS_iff _ _).1 he]at h0;exact absurd rfl h0
    have hcap:(acc.length+([s]:List ByteArray).length)*16≤capBytes:=by show(acc.length+1)*16≤capBytes;unfold capBytes;omega
    have e:cutV (m+1) s=[s]:=by simp only[cutV];rw[if_neg h0,if_pos (show s.size≤32 by omega)]
    rw[hne,e]
    simp only[Bool.not_false,cond_true,if_pos hcap]
    exact EvQ.const _
theorem spec_cutV_ev(s:ByteArray)(hs:s.size≤1000000):Ev (fun k=>c_spec_CutAll k (s,(32:Int))) (cutV s.size s):=by
 refine EvQ.run (fun k=>spec_CutAll_run k _ _) ?_
 simp only[spec_CutAll]
 refine EvQ.bind (l01In_ev _ _ _) ?_
 rw[show decide ((1:Int)≤32∧(32:Int)≤1000)=true from rfl]
 simp only[Bool.not_true,cond_false]
 exact(spec_cutl s.size s [] (Nat.le_refl _) (by simpa using hs)).ev
end Go.Proofs.Ytkmnlefjlhogaaa

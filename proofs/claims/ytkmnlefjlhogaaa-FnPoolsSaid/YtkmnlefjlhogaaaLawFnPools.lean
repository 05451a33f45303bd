/- The law FnPools, whatever it is called with, answers true and leaves its arguments as they were; condition: none beyond the row's own. -/
import Derived.Test.YtkmnlefjlhogaaaEnv
import Derived.Test.YtkmnlefjlhogaaaExt
import Derived.Test.YtkmnlefjlhogaaaJf
import Derived.Test.YtkmnlefjlhogaaaPLaw
import Derived.Test.YtkmnlefjlhogaaaRows
import Derived.WalkKit
import Derived.ProofKit
import Derived.OpenShut
import Derived.ShutString
import Derived.ChangeOld
import Derived.Below
import Derived.SizedLaws
set_option linter.unusedVariables false
set_option maxRecDepth 100000
namespace Go.Proofs.Ytkmnlefjlhogaaa
open Go.ChangeShapes Go.WideShapes Go.ChangeAt Go.RowKit Go.Eng
theorem fnPools_lifted(os:Os)(started:os.Started)(H:Type)(enc:TypeId×Value→H):
  ReturnsInHanded {} Try.checked os 3 .any (Rows.fnPoolsSpec.pre6 enc Try.prog Try.f3 Rows.fnPoolsRow.domain false) (Rows.fnPoolsSpec.post enc Try.prog Try.f3 false true false false):=by
 refine returnsInHanded_of_change_sized (C:=Try.checked) own started (by kernel_rfl) Try.func3
  (ChangeSpec.witness6 (enc:=enc) (C:=Try.checked) false ⟨#[], #[.slice none 0 0],[]⟩ 8 (by kernel_rfl) (by kernel_rfl) (by kernel_rfl) (by kernel_rfl)) ?_
 intro W base args ds gs before hval0 hW hcnd hsz0 _
 have hW':=hW
 obtain⟨p,q,hA,hV,rfl,hfz,hnd⟩:=hW
 obtain⟨rfl,rfl⟩:=trodVars_none hV
 have hlen:=trod_len hA
 obtain⟨d0,rfl⟩:∃d0,ds=[d0]:=by
  match ds,hlen with
  |[d0],_=>exact⟨d0,rfl⟩
 refine Calls.mono (law_calls envOK fnsOK extOK H1 (f:=3) (s:=s_laws_FnPools) rfl rfl (fn:=Try.f3) rfl rfl laid (tysR_of (by kernel_rfl)) (fun x hx=> ?_) trivial (fun _ h=>h.elim) (fun j t v h1 h2=>⟨_,_,hval0 j t v (by rw[←Array.getElem?_toList];exact h1) (by rw[←Array.getElem?_toList];exact h2)⟩) hA) ?_
 ·obtain⟨N,hN⟩:=laws_FnPools_ev x (hx ⟨_,x⟩ (List.Mem.head _))
  exact⟨N,true,hN N (Nat.le_refl N),rfl⟩
 ·rintro e W' ⟨rfl,h1,h2⟩
  exact⟨_,rfl,_,_,_,[],_,[],hW',trodAll_mk1 (shut_bool boolT _),h1,rfl,h2 _,fun h=>by cases h⟩
theorem fnPools_over:Rows.fnPoolsRow.holds Try.pinned (OpenSpec.ofChange Rows.fnPoolsSpec):=
 OpenClaim.holds_of_wide 3 Try.f3 rfl rfl rfl rfl rfl rfl rfl ⟨rfl,rfl,rfl,rfl,rfl⟩ rfl rfl rfl rfl rfl (by kernel_rfl) Try.func3 jf
  (of_decide_eq_true (by kernel_rfl)) (by unfold Func.isWrapper;first|(rw[if_pos (by decide+kernel)];kernel_rfl)|(rw[if_neg (by decide+kernel)];exact⟨rfl,rfl⟩))
  (fun os started H enc _=>fnPools_lifted os started H enc)
theorem fnPools_holds:Rows.FnPoolsSaid:=fnPools_over
#print axioms fnPools_holds
end Go.Proofs.Ytkmnlefjlhogaaa

/- The law FnExactCommitSteps, whatever it is called with, answers true and leaves its arguments as they were; condition: none beyond the row's own. -/
import Derived.Test.YtmmgfgfkkpeedaaGreatEnv
import Derived.Test.YtmmgfgfkkpeedaaGreatExt
import Derived.Test.YtmmgfgfkkpeedaaGreatCms
import Derived.Test.YtmmgfgfkkpeedaaGreatRows
import Derived.WalkKit
import Derived.ProofKit
import Derived.OpenShut
import Derived.ShutString
import Derived.ChangeOld
import Derived.Below
import Derived.SizedLaws
set_option linter.unusedVariables false
set_option maxRecDepth 100000
namespace Go.Proofs.YtmmgfgfkkpeedaaGreat
open Go.ChangeShapes Go.WideShapes Go.ChangeAt Go.RowKit Go.Eng
theorem rE(os:Os)(started:os.Started)(H:Type)(enc:TypeId×Value→H):
  ReturnsInHanded {} Tryz.checked os 6 .any (Rows.fnExactCommitStepsSpec.pre6 enc Tryz.prog Tryz.f6 Rows.fnExactCommitStepsRow.domain false) (Rows.fnExactCommitStepsSpec.post enc Tryz.prog Tryz.f6 false true false false):=by
 refine returnsInHanded_of_change_sized (C:=Tryz.checked) own started (by kernel_rfl) Tryz.func6
  (ChangeSpec.witness6 (enc:=enc) (C:=Tryz.checked) false ⟨#[], #[.agg #[.slice none 0 0,.slice none 0 0,.int .i64 0,.int .i64 0,.slice none 0 0,.slice none 0 0,.slice none 0 0,.slice none 0 0],.agg #[.int .i64 0,.slice none 0 0,.slice none 0 0,.slice none 0 0]],[]⟩ 8 (by kernel_rfl) (by kernel_rfl) (by kernel_rfl) (by kernel_rfl)) ?_
 intro W base args ds gs before hval0 hW hcnd hsz0 _
 have hW':=hW
 obtain⟨p,q,hA,hV,rfl,hfz,hnd⟩:=hW
 obtain⟨rfl,rfl⟩:=trodVars_none hV
 have hlen:=N3 hA
 obtain⟨d0,d1,rfl⟩:∃d0 d1,ds=[d0,d1]:=by
  match ds,hlen with
  |[d0,d1],_=>exact⟨d0,d1,rfl⟩
 refine Calls.mono (Sy W9 WZ Xa H1 (f:=6) (s:=fa) rfl rfl (fn:=Tryz.f6) rfl rfl laid (RH (by kernel_rfl)) (fun x hx=> ?_) trivial (fun _ h=>h.elim) (fun j t v h1 h2=>⟨_,_,hval0 j t v (by rw[←Array.getElem?_toList];exact h1) (by rw[←Array.getElem?_toList];exact h2)⟩) hA) ?_
 ·obtain⟨N,hN⟩:=qN x.1 x.2 (hx ⟨_,x.1⟩ (List.Mem.head _)) (hx ⟨_,x.2⟩ (List.Mem.tail _ (List.Mem.head _)))
  exact⟨N,true,hN N (Nat.le_refl N),rfl⟩
 ·rintro e W' ⟨rfl,h1,h2⟩
  exact⟨_,rfl,_,_,_,[],_,[],hW',trodAll_mk1 (shut_bool RZ _),h1,rfl,h2 _,fun h=>by cases h⟩
theorem uO:Rows.fnExactCommitStepsRow.holds Tryz.pinned (OpenSpec.ofChange Rows.fnExactCommitStepsSpec):=
 OpenClaim.holds_of_wide 6 Tryz.f6 rfl rfl rfl rfl rfl rfl rfl ⟨rfl,rfl,rfl,rfl,rfl⟩ rfl rfl rfl rfl rfl (by kernel_rfl) Tryz.func6 (by kernel_rfl)
  (of_decide_eq_true (by kernel_rfl)) (by unfold Func.isWrapper;first|(rw[if_pos (by decide+kernel)];kernel_rfl)|(rw[if_neg (by decide+kernel)];exact⟨rfl,rfl⟩))
  (fun os started H enc _=>rE os started H enc)
theorem fnExactCommitSteps_holds:Rows.FnExactCommitStepsSaid:=uO
#print axioms fnExactCommitSteps_holds
end Go.Proofs.YtmmgfgfkkpeedaaGreat

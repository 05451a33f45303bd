/- The law FnExactFormatItem, whatever it is called with, answers true and leaves its arguments as they were, and its card; condition: none beyond the card's own. -/
import Derived.Test.YtmmgfgfkkpeedaaDoorEnv
import Derived.Test.YtmmgfgfkkpeedaaDoorExt
import Derived.Test.YtmmgfgfkkpeedaaDoorFit
import Derived.Test.YtmmgfgfkkpeedaaDoorRows
import Derived.Test.YtmmgfgfkkpeedaaDoorTie
import Derived.Test.YtmmgfgfkkpeedaaDoorCards
import Derived.WalkKit
import Derived.ProofKit
import Derived.OpenShut
import Derived.ShutString
import Derived.ChangeOld
import Derived.Below
import Derived.SizedLaws
import Derived.LaidLaws
import Derived.Handed
import Derived.Lay
import Derived.LaidOnce
import Derived.SevenTiedAt
set_option linter.unusedVariables false
set_option maxRecDepth 100000
namespace Go.Proofs.YtmmgfgfkkpeedaaDoor
open Go.ChangeShapes Go.WideShapes Go.ChangeAt Go.RowKit Go.Eng
theorem fnExactFormatItem_met(os:Os)(args:Array Value):laidMet Tryd.prog Rows.fnExactFormatItemRow.laid ((World.laidAll Tryd.prog os Rows.fnExactFormatItemRow.laid).forCall (fun _ _=>0) ⟨#[],args,[]⟩).memory:=
 laidMet_laidAll args (by kernel_rfl) (by kernel_rfl)
theorem fnExactFormatItem_tab{W:World}(h:laidMet Tryd.prog Rows.fnExactFormatItemRow.laid W):tabs1.T W:=
 laidMet_tab (g:=1) (t:=92) (e:=83) (n:=20) (by kernel_rfl) (by kernel_rfl) (by kernel_rfl) (by kernel_rfl) (by kernel_rfl) (by kernel_rfl) h (List.Mem.tail _ (List.Mem.tail _ (List.Mem.head _)))
theorem fnExactFormatItem_lifted(os:Os)(started:os.Started)(H:Type)(enc:TypeId×Value→H):
  ReturnsInHanded {} Tryd.checked os 3 .any (fun w args=>(Rows.fnExactFormatItemSpec.pre enc Tryd.prog Tryd.f3 Rows.fnExactFormatItemRow.domain false w args∧laidMet Tryd.prog Rows.fnExactFormatItemRow.laid w)∧sizedMet enc Tryd.prog Tryd.f3 (OpenSpec.ofChange Rows.fnExactFormatItemSpec) false w args)
   (Rows.fnExactFormatItemSpec.post enc Tryd.prog Tryd.f3 false true false false):=by
 refine returnsInHanded_of_change_and (C:=Tryd.checked) (X:=fun w _=>laidMet Tryd.prog Rows.fnExactFormatItemRow.laid w) (fun _ _ _ hh h=>h.of_heap hh) own started (by kernel_rfl) Tryd.func3
  (ChangeSpec.witness_at (enc:=enc) (C:=Tryd.checked) (os:=os) (X:=fun w _=>laidMet Tryd.prog Rows.fnExactFormatItemRow.laid w) false (World.laidAll Tryd.prog os Rows.fnExactFormatItemRow.laid) #[.agg #[.bool false,.string ByteArray.empty,.int .i64 0,.slice none 0 0,.string ByteArray.empty]] 8 (World.laidAll_os _ _ _) (by kernel_rfl) (by kernel_rfl) (by kernel_rfl) (by kernel_rfl) (by kernel_rfl) (fnExactFormatItem_met os _)) ?_
 intro W base args ds gs before hval0 hW hcnd hsz0 hL _
 have hW':=hW
 obtain⟨p,q,hA,hV,rfl,hfz,hnd⟩:=hW
 obtain⟨rfl,rfl⟩:=trodVars_none hV
 have hlen:=trod_len hA
 obtain⟨d0,rfl⟩:∃d0,ds=[d0]:=by
  match ds,hlen with
  |[d0],_=>exact⟨d0,rfl⟩
 refine Calls.mono (law_calls envOK fnsOK extOK H1 (f:=3) (s:=s_laws_FnExactFormatItem) rfl rfl (fn:=Tryd.f3) rfl rfl laid (tysR_of (by kernel_rfl)) (fun x hx=> ?_) (fnExactFormatItem_tab hL) (tabIs_lt (fnExactFormatItem_tab hL)) (fun j t v h1 h2=>⟨_,_,hval0 j t v (by rw[←Array.getElem?_toList];exact h1) (by rw[←Array.getElem?_toList];exact h2)⟩) hA) ?_
 ·obtain⟨N,hN⟩:=laws_FnExactFormatItem_ev x (hx ⟨_,x⟩ (List.Mem.head _))
  exact⟨N,true,hN N (Nat.le_refl N),rfl⟩
 ·rintro e W' ⟨rfl,h1,h2⟩
  exact⟨_,rfl,_,_,_,[],_,[],hW',trodAll_mk1 (shut_bool boolT _),h1,rfl,h2 _,fun h=>by cases h⟩
theorem fnExactFormatItem_holds:Rows.FnExactFormatItemSaid:=
 OpenClaim.holds_of_wide 3 Tryd.f3 rfl rfl rfl rfl rfl rfl rfl ⟨rfl,rfl,rfl,rfl,rfl⟩ rfl rfl rfl rfl rfl (by kernel_rfl) Tryd.func3 (by kernel_rfl)
  (of_decide_eq_true (by kernel_rfl)) (by unfold Func.isWrapper;first|(rw[if_pos (by decide+kernel)];kernel_rfl)|(rw[if_neg (by decide+kernel)];exact⟨rfl,rfl⟩))
  (fun os started H enc _=>fnExactFormatItem_lifted os started H enc)
theorem fnExactFormatItem_card_holds:Rows.FnExactFormatItemCardSaid:=
 Claim7.holds_tied_plain_at .later [] [.data,.data,.data] true (true, "a6543d5f6eec85864b818eee1d3e16822b264a8ff0861cd0d2459dfee1c2dcca") false
  fnExactFormatItem_holds (fun _ h=>by cases h) (by kernel_rfl) (fun _ h=>by cases h) fnExactFormatItem_row_tie rfl ⟨rfl,rfl⟩ (by kernel_rfl) rfl
  (fun f fn hf hfn=>by
   have hf0:Tryd.prog.funcNamed Rows.fnExactFormatItemRow.func=some 3:=by kernel_rfl
   obtain rfl:f=3:=(Option.some.inj (hf0.symm.trans hf)).symm
   obtain rfl:fn=Tryd.f3:=(Option.some.inj (Tryd.func3.symm.trans hfn)).symm
   exact⟨by kernel_rfl,fun j t ht=>by
    rw[Tryd.params3]at ht
    have hm:t∈[24]:=by simpa using Array.mem_of_getElem? ht
    have hall:([24].all fun u=> !Tryd.prog.wantsStandIn u)=true:=by kernel_rfl
    exact(show Tryd.prog.wantsStandIn t=false by simpa using List.all_eq_true.1 hall t hm)⟩)
  (by kernel_rfl)
#print axioms fnExactFormatItem_card_holds
end Go.Proofs.YtmmgfgfkkpeedaaDoor

/- The law FnExactReadArchive, whatever it is called with, answers true and leaves its arguments as they were, and its card; condition: none beyond the card's own. -/
import Derived.Test.YtmmgfgfkkpeedaaGreatDoorEnv
import Derived.Test.YtmmgfgfkkpeedaaGreatDoorExt
import Derived.Test.YtmmgfgfkkpeedaaGreatDoorRLaw
import Derived.Test.YtmmgfgfkkpeedaaGreatDoorRows
import Derived.Test.YtmmgfgfkkpeedaaGreatDoorTie
import Derived.Test.YtmmgfgfkkpeedaaGreatDoorCards
import Derived.WalkKit
import Derived.ProofKit
import Derived.OpenShut
import Derived.ShutString
import Derived.ChangeOld
import Derived.Below
import Derived.SizedLaws
import Derived.LaidLaws
import Derived.Handed
import Derived.Lay
import Derived.LaidOnce
import Derived.SevenTiedAt
set_option linter.unusedVariables false
set_option maxRecDepth 100000
namespace Go.Proofs.YtmmgfgfkkpeedaaGreatDoor
open Go.ChangeShapes Go.WideShapes Go.ChangeAt Go.RowKit Go.Eng
theorem fnExactReadArchive_met(os:Os)(args:Array Value):laidMet Tryz.prog Rows.fnExactReadArchiveRow.laid ((World.laidAll Tryz.prog os Rows.fnExactReadArchiveRow.laid).forCall (fun _ _=>0) ⟨#[],args,[]⟩).memory:=
 laidMet_laidAll args (by kernel_rfl) (by kernel_rfl)
theorem fnExactReadArchive_tab{W:World}(h:laidMet Tryz.prog Rows.fnExactReadArchiveRow.laid W):tabs1.T W:=
 laidMet_tab (g:=3) (t:=110) (e:=99) (n:=20) (by kernel_rfl) (by kernel_rfl) (by kernel_rfl) (by kernel_rfl) (by kernel_rfl) (by kernel_rfl) h (List.Mem.tail _ (List.Mem.tail _ (List.Mem.head _)))
theorem fnExactReadArchive_lifted(os:Os)(started:os.Started)(H:Type)(enc:TypeId×Value→H):
  ReturnsInHanded {} Tryz.checked os 3 .any (fun w args=>(Rows.fnExactReadArchiveSpec.pre enc Tryz.prog Tryz.f3 Rows.fnExactReadArchiveRow.domain false w args∧laidMet Tryz.prog Rows.fnExactReadArchiveRow.laid w)∧sizedMet enc Tryz.prog Tryz.f3 (OpenSpec.ofChange Rows.fnExactReadArchiveSpec) false w args)
   (Rows.fnExactReadArchiveSpec.post enc Tryz.prog Tryz.f3 false true false false):=by
 refine returnsInHanded_of_change_and (C:=Tryz.checked) (X:=fun w _=>laidMet Tryz.prog Rows.fnExactReadArchiveRow.laid w) (fun _ _ _ hh h=>h.of_heap hh) own started (by kernel_rfl) Tryz.func3
  (ChangeSpec.witness_at (enc:=enc) (C:=Tryz.checked) (os:=os) (X:=fun w _=>laidMet Tryz.prog Rows.fnExactReadArchiveRow.laid w) false (World.laidAll Tryz.prog os Rows.fnExactReadArchiveRow.laid) #[.string ByteArray.empty] 8 (World.laidAll_os _ _ _) (by kernel_rfl) (by kernel_rfl) (by kernel_rfl) (by kernel_rfl) (by kernel_rfl) (fnExactReadArchive_met os _)) ?_
 intro W base args ds gs before hval0 hW hcnd hsz0 hL _
 have hW':=hW
 obtain⟨p,q,hA,hV,rfl,hfz,hnd⟩:=hW
 obtain⟨rfl,rfl⟩:=trodVars_none hV
 have hlen:=trod_len hA
 obtain⟨d0,rfl⟩:∃d0,ds=[d0]:=by
  match ds,hlen with
  |[d0],_=>exact⟨d0,rfl⟩
 refine Calls.mono (law_calls envOK fnsOK extOK H1 (f:=3) (s:=s_laws_FnExactReadArchive) rfl rfl (fn:=Tryz.f3) rfl rfl laid (tysR_of (by kernel_rfl)) (fun x hx=> ?_) (fnExactReadArchive_tab hL) (tabIs_lt (fnExactReadArchive_tab hL)) (fun j t v h1 h2=>⟨_,_,hval0 j t v (by rw[←Array.getElem?_toList];exact h1) (by rw[←Array.getElem?_toList];exact h2)⟩) hA) ?_
 ·obtain⟨N,hN⟩:=laws_FnExactReadArchive_ev x (hx ⟨_,x⟩ (List.Mem.head _))
  exact⟨N,true,hN N (Nat.le_refl N),rfl⟩
 ·rintro e W' ⟨rfl,h1,h2⟩
  exact⟨_,rfl,_,_,_,[],_,[],hW',trodAll_mk1 (shut_bool boolT _),h1,rfl,h2 _,fun h=>by cases h⟩
theorem fnExactReadArchive_holds:Rows.FnExactReadArchiveSaid:=
 OpenClaim.holds_of_wide 3 Tryz.f3 rfl rfl rfl rfl rfl rfl rfl ⟨rfl,rfl,rfl,rfl,rfl⟩ rfl rfl rfl rfl rfl (by kernel_rfl) Tryz.func3 (by kernel_rfl)
  (of_decide_eq_true (by kernel_rfl)) (by unfold Func.isWrapper;first|(rw[if_pos (by decide+kernel)];kernel_rfl)|(rw[if_neg (by decide+kernel)];exact⟨rfl,rfl⟩))
  (fun os started H enc _=>fnExactReadArchive_lifted os started H enc)
theorem fnExactReadArchive_card_holds:Rows.FnExactReadArchiveCardSaid:=
 Claim7.holds_tied_plain_at .later [] [.data,.data,.data,.data,.pinned] true (true, "913cfec2e92272f4c717a386f3edf65a84195864aebc6f266c119b4427dbb5b9") false
  fnExactReadArchive_holds (fun _ h=>by cases h) (by kernel_rfl) (fun _ h=>by cases h) fnExactReadArchive_row_tie rfl ⟨rfl,rfl⟩ (by kernel_rfl) rfl
  (fun f fn hf hfn=>by
   have hf0:Tryz.prog.funcNamed Rows.fnExactReadArchiveRow.func=some 3:=by kernel_rfl
   obtain rfl:f=3:=(Option.some.inj (hf0.symm.trans hf)).symm
   obtain rfl:fn=Tryz.f3:=(Option.some.inj (Tryz.func3.symm.trans hfn)).symm
   exact⟨by kernel_rfl,fun j t ht=>by
    rw[Tryz.params3]at ht
    have hm:t∈[9]:=by simpa using Array.mem_of_getElem? ht
    have hall:([9].all fun u=> !Tryz.prog.wantsStandIn u)=true:=by kernel_rfl
    exact(show Tryz.prog.wantsStandIn t=false by simpa using List.all_eq_true.1 hall t hm)⟩)
  (by kernel_rfl)
#print axioms fnExactReadArchive_card_holds
end Go.Proofs.YtmmgfgfkkpeedaaGreatDoor

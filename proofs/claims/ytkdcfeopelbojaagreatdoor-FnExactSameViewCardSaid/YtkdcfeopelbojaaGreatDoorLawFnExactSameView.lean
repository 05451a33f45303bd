/- The law FnExactSameView, whatever it is called with, answers true and leaves its arguments as they were, and its card; condition: none beyond the card's own. -/
import Derived.Test.YtkdcfeopelbojaaGreatDoorEnv
import Derived.Test.YtkdcfeopelbojaaGreatDoorExt
import Derived.Test.YtkdcfeopelbojaaGreatDoorJf
import Derived.Test.YtkdcfeopelbojaaGreatDoorXLaw
import Derived.Test.YtkdcfeopelbojaaGreatDoorRows
import Derived.Test.YtkdcfeopelbojaaGreatDoorTie
import Derived.Test.YtkdcfeopelbojaaGreatDoorCards
import Derived.WalkKit
import Derived.ProofKit
import Derived.OpenShut
import Derived.ShutString
import Derived.ChangeOld
import Derived.Below
import Derived.SizedLaws
import Derived.LaidLaws
import Derived.Handed
import Derived.Lay
import Derived.LaidOnce
import Derived.SevenTiedAt
set_option linter.unusedVariables false
set_option maxRecDepth 100000
namespace Go.Proofs.YtkdcfeopelbojaaGreatDoor
open Go.ChangeShapes Go.WideShapes Go.ChangeAt Go.RowKit Go.Eng
theorem wZ(os:Os)(args:Array Value):laidMet Tryz.prog Rows.fnExactSameViewRow.laid ((World.laidAll Tryz.prog os Rows.fnExactSameViewRow.laid).forCall (fun _ _=>0) ⟨#[],args,[]⟩).memory:=
 laidMet_laidAll args (by kernel_rfl) (by kernel_rfl)
theorem ng{W:World}(h:laidMet Tryz.prog Rows.fnExactSameViewRow.laid W):OV.T W:=
 JG (g:=0) (t:=246) (e:=222) (n:=20) (by kernel_rfl) (by kernel_rfl) (by kernel_rfl) (by kernel_rfl) (by kernel_rfl) (by kernel_rfl) h (List.Mem.tail _ (List.Mem.tail _ (List.Mem.head _)))
theorem rY(os:Os)(started:os.Started)(H:Type)(enc:TypeId×Value→H):
  ReturnsInHanded {} Tryz.checked os 4 .any (fun w args=>(Rows.fnExactSameViewSpec.pre enc Tryz.prog Tryz.f4 Rows.fnExactSameViewRow.domain false w args∧laidMet Tryz.prog Rows.fnExactSameViewRow.laid w)∧sizedMet enc Tryz.prog Tryz.f4 (OpenSpec.ofChange Rows.fnExactSameViewSpec) false w args)
   (Rows.fnExactSameViewSpec.post enc Tryz.prog Tryz.f4 false true false false):=by
 refine returnsInHanded_of_change_and (C:=Tryz.checked) (X:=fun w _=>laidMet Tryz.prog Rows.fnExactSameViewRow.laid w) (fun _ _ _ hh h=>h.of_heap hh) own started (by kernel_rfl) Tryz.func4
  (ChangeSpec.witness_at (enc:=enc) (C:=Tryz.checked) (os:=os) (X:=fun w _=>laidMet Tryz.prog Rows.fnExactSameViewRow.laid w) false (World.laidAll Tryz.prog os Rows.fnExactSameViewRow.laid) #[.agg #[.int .i64 0,.slice none 0 0,.slice none 0 0,.slice none 0 0],.agg #[.int .i64 0,.slice none 0 0,.slice none 0 0,.slice none 0 0],.agg #[.int .i64 0,.int .i64 0,.slice none 0 0]] 8 (World.laidAll_os _ _ _) (by kernel_rfl) (by kernel_rfl) (by kernel_rfl) (by kernel_rfl) (by kernel_rfl) (wZ os _)) ?_
 intro W base args ds gs before hval0 hW hcnd hsz0 hL _
 have hW':=hW
 obtain⟨p,q,hA,hV,rfl,hfz,hnd⟩:=hW
 obtain⟨rfl,rfl⟩:=trodVars_none hV
 have hlen:=JL hA
 obtain⟨d0,d1,d2,rfl⟩:∃d0 d1 d2,ds=[d0,d1,d2]:=by
  match ds,hlen with
  |[d0,d1,d2],_=>exact⟨d0,d1,d2,rfl⟩
 refine Calls.mono (M9 Sf SO SB H1 (f:=4) (s:=fG) rfl rfl (fn:=Tryz.f4) rfl rfl laid (Mh (by kernel_rfl)) (fun x hx=> ?_) (ng hL) (OI (ng hL)) (fun j t v h1 h2=>⟨_,_,hval0 j t v (by rw[←Array.getElem?_toList];exact h1) (by rw[←Array.getElem?_toList];exact h2)⟩) hA) ?_
 ·obtain⟨N,hN⟩:=qx x.1 x.2.1 x.2.2 (hx ⟨_,x.1⟩ (List.Mem.head _)) (hx ⟨_,x.2.1⟩ (List.Mem.tail _ (List.Mem.head _))) (hx ⟨_,x.2.2⟩ (List.Mem.tail _ (List.Mem.tail _ (List.Mem.head _))))
  exact⟨N,true,hN N (Nat.le_refl N),rfl⟩
 ·rintro e W' ⟨rfl,h1,h2⟩
  exact⟨_,rfl,_,_,_,[],_,[],hW',trodAll_mk1 (shut_bool MN _),h1,rfl,h2 _,fun h=>by cases h⟩
theorem uc:Rows.FnExactSameViewSaid:=
 OpenClaim.holds_of_wide 4 Tryz.f4 rfl rfl rfl rfl rfl rfl rfl ⟨rfl,rfl,rfl,rfl,rfl⟩ rfl rfl rfl rfl rfl (by kernel_rfl) Tryz.func4 jf
  (of_decide_eq_true (by kernel_rfl)) (by unfold Func.isWrapper;first|(rw[if_pos (by decide+kernel)];kernel_rfl)|(rw[if_neg (by decide+kernel)];exact⟨rfl,rfl⟩))
  (fun os started H enc _=>rY os started H enc)
theorem fnExactSameView_card_holds:Rows.FnExactSameViewCardSaid:=
 Claim7.holds_tied_plain_at .later [] [.data,.data,.data] true (true, "9f70ba96585e83dbb63df35b58dfb5ceff079dd83b4619b22f3ecc9b713c0bb2") false
  uc (fun _ h=>by cases h) (by kernel_rfl) (fun _ h=>by cases h) fnExactSameView_row_tie rfl ⟨rfl,rfl⟩ (by kernel_rfl) rfl
  (fun f fn hf hfn=>by
   have hf0:Tryz.prog.funcNamed Rows.fnExactSameViewRow.func=some 4:=by kernel_rfl
   obtain rfl:f=4:=(Option.some.inj (hf0.symm.trans hf)).symm
   obtain rfl:fn=Tryz.f4:=(Option.some.inj (Tryz.func4.symm.trans hfn)).symm
   exact⟨by kernel_rfl,fun j t ht=>by
    rw[Tryz.params4]at ht
    have hm:t∈[26,26,29]:=by simpa using Array.mem_of_getElem? ht
    have hall:([26,26,29].all fun u=> !Tryz.prog.wantsStandIn u)=true:=by kernel_rfl
    exact(show Tryz.prog.wantsStandIn t=false by simpa using List.all_eq_true.1 hall t hm)⟩)
  (by kernel_rfl)
#print axioms fnExactSameView_card_holds
end Go.Proofs.YtkdcfeopelbojaaGreatDoor

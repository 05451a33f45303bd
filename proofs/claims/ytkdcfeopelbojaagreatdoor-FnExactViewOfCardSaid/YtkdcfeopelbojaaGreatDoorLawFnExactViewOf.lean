/- The law FnExactViewOf, whatever it is called with, answers true and leaves its arguments as they were, and its card; condition: none beyond the card's own. -/
import Derived.Test.YtkdcfeopelbojaaGreatDoorEnv
import Derived.Test.YtkdcfeopelbojaaGreatDoorExt
import Derived.Test.YtkdcfeopelbojaaGreatDoorJf
import Derived.Test.YtkdcfeopelbojaaGreatDoorWLaw
import Derived.Test.YtkdcfeopelbojaaGreatDoorRows
import Derived.Test.YtkdcfeopelbojaaGreatDoorTie
import Derived.Test.YtkdcfeopelbojaaGreatDoorCards
import Derived.WalkKit
import Derived.ProofKit
import Derived.OpenShut
import Derived.ShutString
import Derived.ChangeOld
import Derived.Below
import Derived.SizedLaws
import Derived.LaidLaws
import Derived.Handed
import Derived.Lay
import Derived.LaidOnce
import Derived.SevenTiedAt
set_option linter.unusedVariables false
set_option maxRecDepth 100000
namespace Go.Proofs.YtkdcfeopelbojaaGreatDoor
open Go.ChangeShapes Go.WideShapes Go.ChangeAt Go.RowKit Go.Eng
theorem A2(os:Os)(args:Array Value):laidMet Tryz.prog Rows.fnExactViewOfRow.laid ((World.laidAll Tryz.prog os Rows.fnExactViewOfRow.laid).forCall (fun _ _=>0) ⟨#[],args,[]⟩).memory:=
 laidMet_laidAll args (by kernel_rfl) (by kernel_rfl)
theorem pz{W:World}(h:laidMet Tryz.prog Rows.fnExactViewOfRow.laid W):QD.T W:=
 LG (g:=0) (t:=246) (e:=222) (n:=20) (by kernel_rfl) (by kernel_rfl) (by kernel_rfl) (by kernel_rfl) (by kernel_rfl) (by kernel_rfl) h (List.Mem.tail _ (List.Mem.tail _ (List.Mem.head _)))
theorem uY(os:Os)(started:os.Started)(H:Type)(enc:TypeId×Value→H):
  ReturnsInHanded {} Tryz.checked os 3 .any (fun w args=>(Rows.fnExactViewOfSpec.pre enc Tryz.prog Tryz.f3 Rows.fnExactViewOfRow.domain false w args∧laidMet Tryz.prog Rows.fnExactViewOfRow.laid w)∧sizedMet enc Tryz.prog Tryz.f3 (OpenSpec.ofChange Rows.fnExactViewOfSpec) false w args)
   (Rows.fnExactViewOfSpec.post enc Tryz.prog Tryz.f3 false true false false):=by
 refine returnsInHanded_of_change_and (C:=Tryz.checked) (X:=fun w _=>laidMet Tryz.prog Rows.fnExactViewOfRow.laid w) (fun _ _ _ hh h=>h.of_heap hh) own started (by kernel_rfl) Tryz.func3
  (ChangeSpec.witness_at (enc:=enc) (C:=Tryz.checked) (os:=os) (X:=fun w _=>laidMet Tryz.prog Rows.fnExactViewOfRow.laid w) false (World.laidAll Tryz.prog os Rows.fnExactViewOfRow.laid) #[.agg #[.int .i64 0,.slice none 0 0,.slice none 0 0,.slice none 0 0],.agg #[.int .i64 0,.int .i64 0,.slice none 0 0]] 8 (World.laidAll_os _ _ _) (by kernel_rfl) (by kernel_rfl) (by kernel_rfl) (by kernel_rfl) (by kernel_rfl) (A2 os _)) ?_
 intro W base args ds gs before hval0 hW hcnd hsz0 hL _
 have hW':=hW
 obtain⟨p,q,hA,hV,rfl,hfz,hnd⟩:=hW
 obtain⟨rfl,rfl⟩:=trodVars_none hV
 have hlen:=LD hA
 obtain⟨d0,d1,rfl⟩:∃d0 d1,ds=[d0,d1]:=by
  match ds,hlen with
  |[d0,d1],_=>exact⟨d0,d1,rfl⟩
 refine Calls.mono (OJ Td Ts Tj H1 (f:=3) (s:=ir) rfl rfl (fn:=Tryz.f3) rfl rfl laid (Ng (by kernel_rfl)) (fun x hx=> ?_) (pz hL) (Qp (pz hL)) (fun j t v h1 h2=>⟨_,_,hval0 j t v (by rw[←Array.getElem?_toList];exact h1) (by rw[←Array.getElem?_toList];exact h2)⟩) hA) ?_
 ·obtain⟨N,hN⟩:=uA x.1 x.2 (hx ⟨_,x.1⟩ (List.Mem.head _)) (hx ⟨_,x.2⟩ (List.Mem.tail _ (List.Mem.head _)))
  exact⟨N,true,hN N (Nat.le_refl N),rfl⟩
 ·rintro e W' ⟨rfl,h1,h2⟩
  exact⟨_,rfl,_,_,_,[],_,[],hW',trodAll_mk1 (shut_bool NL _),h1,rfl,h2 _,fun h=>by cases h⟩
theorem xN:Rows.FnExactViewOfSaid:=
 OpenClaim.holds_of_wide 3 Tryz.f3 rfl rfl rfl rfl rfl rfl rfl ⟨rfl,rfl,rfl,rfl,rfl⟩ rfl rfl rfl rfl rfl (by kernel_rfl) Tryz.func3 jf
  (of_decide_eq_true (by kernel_rfl)) (by unfold Func.isWrapper;first|(rw[if_pos (by decide+kernel)];kernel_rfl)|(rw[if_neg (by decide+kernel)];exact⟨rfl,rfl⟩))
  (fun os started H enc _=>uY os started H enc)
theorem fnExactViewOf_card_holds:Rows.FnExactViewOfCardSaid:=
 Claim7.holds_tied_plain_at .later [] [.data,.data,.data] true (true, "9f70ba96585e83dbb63df35b58dfb5ceff079dd83b4619b22f3ecc9b713c0bb2") false
  xN (fun _ h=>by cases h) (by kernel_rfl) (fun _ h=>by cases h) fnExactViewOf_row_tie rfl ⟨rfl,rfl⟩ (by kernel_rfl) rfl
  (fun f fn hf hfn=>by
   have hf0:Tryz.prog.funcNamed Rows.fnExactViewOfRow.func=some 3:=by kernel_rfl
   obtain rfl:f=3:=(Option.some.inj (hf0.symm.trans hf)).symm
   obtain rfl:fn=Tryz.f3:=(Option.some.inj (Tryz.func3.symm.trans hfn)).symm
   exact⟨by kernel_rfl,fun j t ht=>by
    rw[Tryz.params3]at ht
    have hm:t∈[26,29]:=by simpa using Array.mem_of_getElem? ht
    have hall:([26,29].all fun u=> !Tryz.prog.wantsStandIn u)=true:=by kernel_rfl
    exact(show Tryz.prog.wantsStandIn t=false by simpa using List.all_eq_true.1 hall t hm)⟩)
  (by kernel_rfl)
#print axioms fnExactViewOf_card_holds
end Go.Proofs.YtkdcfeopelbojaaGreatDoor

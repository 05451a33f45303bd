/- The engine, part 5: a symbolic interpreter of the model's programs and the proof that its runs are what the functions do; conditions: those that its theorems name. -/
import Derived.Test.YtkmnlefjlhogaaaEng4
import Derived.Shelf.SlicesE.Clone
set_option linter.unusedVariables false
set_option linter.unusedSimpArgs false
namespace Go.Eng
section
open Go.Proofs Go.Shelf Go.RowKit Go.Lib
section
variable {P:Program} {ρ:Ren}
set_option maxHeartbeats 2000000 in
set_option maxRecDepth 100000 in
theorem cloneE_zero(L:SlLaysE0.n41 P ρ)(i0:TypeInfo)(z:Value)(size bytes:Nat)(hi:P.info? (ρ.t 23)=some i0)(hz0:i0.zero=some z)(hz1:i0.size=size)(hz2:i0.bytes=bytes)(hzs:z.cells.size=size)(hsz:0<size)
  (z23:∀w,(Go.sizeOf (ρ.t 23)).run P w= .ok size w) (a:Addr) (c:Nat) (w:World):
  Calls P (ρ.f 41) #[.slice (some a) 0 c] w fun e w'=>∃v',e= .returned v'∧w'.ownsRow w.heap.size (ρ.t 23) size v' 0 []∧v'≠ .slice none 0 0∧Below w.heap.size w w':=by
 have mixed:=L.mixed;have t4:=L.t4;have a4:=L.a4;have z4:=L.z4;have v4:=L.v4;have t22:=L.t22;have a22:=L.a22;have z22:=L.z22;have v22:=L.v22
 have q22:∀(w:World) (a:Option Addr) (n c n' c':Nat),(binOp .eql (ρ.t 22) (.slice a n c) (.slice none n' c')).run P w= .ok (.bool a.isNone) w:=fun w a n c n' c'=>Lib.run_eql_slice_nil w _ _ a n c n' c' L.t22
 have u22:∀w,Sem.run P (underlying (ρ.t 22)) w= .ok (TypeDesc.slice (ρ.t 23)) w:=run_underlying t22
 obtain⟨_,_,FG⟩:=L.f41
 go_enter FG,SlBodyN.n41_ntmps ρ
 go_wp2_with (at_builtin;refine wpList_append_own _ rfl _ _ (ρ.t 22) rfl w.heap.size (ρ.t 23) i0 z size bytes t22 hi hz0 hz1 hz2 hzs hsz _ _ _ rfl (World.ownsRow_made w #[] 0 (Nat.le_refl _) (Nat.zero_le _) (by simp)) a 0 c [] rfl (by simp) (by intro j u hj;simp at hj) (by intro u hu;cases hu) (by unfold maxLen;omega) (by omega) (by simp) ?_)
 intro v' w1 hown hgrow hnil
 go_wp2
 go_ret
 refine⟨v',rfl,by simpa using hown, ?_, ?_⟩
 ·first|exact hnil|(intro e;exact absurd (hnil.1 e).1 (by simp))
 ·exact((Below.refl _ w).alloc (Nat.le_refl _) _).grown hgrow (by simp) (by intro k hk;simp[Value.ownBlock]at hk;omega)
theorem fnOK_CloneE{τ:Tabs}{fn:Func}{cd:Code}(L:SlLaysE0.n41 P ρ){te:Ty}{bytes:Nat}(hte:te.flatT=true)(hf:P.funcs[ρ.f 41]? =some fn)(hn:(fn.name== "runtime.NumGoroutine")=false)(hc:fn.body=some cd)
  (i0:TypeInfo) (z:Value) (hi:P.info? (ρ.t 23)=some i0) (hz0:i0.zero=some z) (hz1:i0.size=te.sz) (hz2:i0.bytes=bytes) (hzs:z.cells.size=te.sz) (hsz:0<te.sz)
  (z23:∀w,(Go.sizeOf (ρ.t 23)).run P w= .ok te.sz w):FnOK P τ (ρ.f 41) ⟨[.val (.list false te)],[.list true te],none⟩ (ext_Clone te bytes):=by
 refine fnOK_Clone (e:=ρ.t 23) hte hf hn hc (fun b off n c gs w h1 h2 h3 h4=> ?_) (fun n c w=>AnyE.slices_Clone_nil L n c w) (fun a c w=>cloneE_zero L i0 z te.sz bytes hi hz0 hz1 hz2 hzs hsz z23 a c w)
 have hok:∀gs:List te.G,(gs.flatMap (cl te)).length=gs.length*te.sz∧∀u∈gs.flatMap (cl te),u.oneCell'=true:=by
  have one:∀{te:Ty},te.flatT=true→∀g:te.G,(cl te g).length=te.sz∧∀u∈cl te g,u.oneCell'=true:=by
   intro te
   induction te with
   |int k=>intro _ g;exact⟨rfl,fun u hu=>by simp[cl]at hu;subst hu;rfl⟩
   |bool=>intro _ g;exact⟨rfl,fun u hu=>by simp[cl]at hu;subst hu;rfl⟩
   |str=>intro _ g;exact⟨rfl,fun u hu=>by simp[cl]at hu;subst hu;rfl⟩
   |pair a b iha ihb=>
    intro hf g
    simp only[Ty.flatT,Bool.and_eq_true]at hf
    obtain⟨p1,p2⟩:=iha hf.1 g.1
    obtain⟨q1,q2⟩:=ihb hf.2 g.2
    refine⟨by simp only[cl,List.length_append,p1,q1,Ty.sz],fun u hu=> ?_⟩
    simp only[cl]at hu
    rcases List.mem_append.1 hu with hu|hu
    ·exact p2 u hu
    ·exact q2 u hu
   |unit=>intro hf;cases hf
   |list o t _=>intro hf;cases hf
   |ptr t _=>intro hf;cases hf
   |arr n t _=>intro hf;cases hf
   |gone n=>intro hf;cases hf
   |ti=>intro _ g;exact⟨rfl,fun u hu=>by simp[cl]at hu;subst hu;rfl⟩
  intro gs
  induction gs with
  |nil=>exact⟨by simp,fun u hu=>by cases hu⟩
  |cons g gs ih=>
   obtain⟨p1,p2⟩:=one hte g
   refine⟨by rw[List.flatMap_cons,List.length_append,p1,ih.1,List.length_cons,Nat.succ_mul,Nat.add_comm],fun u hu=> ?_⟩
   rw[List.flatMap_cons]at hu
   rcases List.mem_append.1 hu with hu|hu
   ·exact p2 u hu
   ·exact ih.2 u hu
 obtain⟨k1,k2⟩:=hok gs
 exact AnyE.slices_Clone L i0 z te.sz bytes hi hz0 hz1 hz2 hzs hsz z23 b off n c _ w (by rw[k1,h1]) h2 h3 h4 k2
end
abbrev ext_slices_Clone_impl_Write_impl_Write:List (Int×ByteArray)→Option (List (Int×ByteArray)):=ext_Clone (.pair (.int .i64) .str) 24
end
end Go.Eng

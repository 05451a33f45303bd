/- The tables, the residual functions and lemmas of this seat: parts of the proof of the law; conditions: those that each names. -/
import Derived.Test.YtbpfenmkhapeiaaGreatPth
import Derived.Test.YtbpfenmkhapeiaaGreatSrt
import Derived.Test.YtbpfenmkhapeiaaGreatHxs
set_option linter.unusedVariables false
set_option linter.unusedSimpArgs false
set_option maxRecDepth 100000
namespace Go.Proofs.YtbpfenmkhapeiaaGreat
open Go.Eng
abbrev comma:ByteArray:=⟨#[44]⟩
noncomputable def shownV(f:PFS)(n:PInode):ByteArray:=if n.1=2 then joinB (sortD (namesV (entsV f n))) comma else ofBytes (hexL (contV f n))
noncomputable def pathT(f:PFS)(i:Nat):ByteArray:=match pathN f 8 (i:Int) []with
 |some l=>pathB l
 |none=>⟨#[63]⟩
noncomputable def lineV(f:PFS)(i:Nat)(n:PInode):ByteArray:=(pathT f i++(⟨#[32]⟩:ByteArray))++shownV f n
noncomputable def filN(f:PFS):Nat→List ByteArray
 |0=>[]
 |i+1=>filN f i++match(fI f)[i]? with
  |some n=>if n.1=0 then []else [lineV f i n]
  |none=>[]
theorem filN_yes{f:PFS}{i:Nat}{n:PInode}(h:(fI f)[i]? =some n)(h0:n.1≠0):filN f (i+1)=filN f i++[lineV f i n]:=by
 rw[filN,h];simp[h0]
theorem filN_no{f:PFS}{i:Nat}{n:PInode}(h:(fI f)[i]? =some n)(h0:n.1=0):filN f (i+1)=filN f i:=by
 rw[filN,h];simp[h0]
theorem names_ok{f:PFS}{n:PInode}:∀x∈sortD (namesV (entsV f n)),x.size≤1000:=fun x hx=>by
 have hx:=(sortD_ok _).1.mem_iff.1 hx
 obtain⟨e,he,rfl⟩:=List.mem_map.1 hx
 have:=(ents_mem he).1.1.2
 omega
theorem names_len{f:PFS}(hP:fsP f){i:Nat}{n:PInode}(h:(fI f)[i]? =some n):(sortD (namesV (entsV f n))).length≤16:=by
 rw[sortD_len,namesV,List.length_map]
 exact ents_len (blk_ok hP h) (hP.ino _ _ h)
theorem cont_le{f:PFS}(hP:fsP f){i:Nat}{n:PInode}(h:(fI f)[i]? =some n):(contV f n).size≤256:=by
 rw[cont_size (blk_ok hP h) (hP.ino _ _ h)]
 have:=size_ok (hP.ino _ _ h)
 omega
theorem shown_size{f:PFS}(hP:fsP f){i:Nat}{n:PInode}(h:(fI f)[i]? =some n):(shownV f n).size≤32000:=by
 rw[shownV]
 split
 ·have h1:=joinB_size (sep:=comma) (by show 1≤1000;omega) (names_ok (f:=f) (n:=n))
  have h2:=names_len hP h
  omega
 ·rw[ofBytes_size,hexL_len]
  have:=cont_le hP h
  omega
theorem pathT_size{f:PFS}{i:Nat}:(pathT f i).size≤2000001:=by
 rw[pathT]
 split
 ·rename_i l hl
  obtain⟨q1,q2⟩:=path_ok 8 _ [] l (by simp) (fun _ hx=>(by cases hx)) hl
  exact pathB_size (by omega) q2
 ·show 1≤2000001;omega
theorem line_size{f:PFS}(hP:fsP f){i:Nat}{n:PInode}(h:(fI f)[i]? =some n):(lineV f i n).size≤3000000:=by
 have h1:=shown_size hP h
 have h2:=pathT_size (f:=f) (i:=i)
 rw[lineV,ByteArray.size_append,ByteArray.size_append]
 show _+1+_≤_
 omega
theorem filN_len{f:PFS}:∀i,(filN f i).length≤i
 |0=>Nat.le_refl _
 |i+1=>by
  have ih:=filN_len (f:=f) i
  rw[filN,List.length_append]
  split
  ·split
   ·simp;omega
   ·simp;omega
  ·simp;omega
theorem filN_sz{f:PFS}(hP:fsP f):∀i,szM_StringS (filN f i)≤4000000*i
 |0=>Nat.le_refl _
 |i+1=>by
  have ih:=filN_sz hP i
  have e:∀(l:List ByteArray) (x:ByteArray),szM_StringS (l++[x])=szM_StringS l+(1+x.size):=fun l x=>by
   simp[szM_StringS];omega
  cases h:(fI f)[i]? with
  |none=>rw[filN,h];simp;omega
  |some n=>
   by_cases h0:n.1=0
   ·rw[filN_no h h0];omega
   ·rw[filN_yes h h0,e]
    have:=line_size hP h
    omega
theorem spec_files_ev{f:PFS}(hP:fsP f)(h:Ev (fun k=>c_spec_IsFS k f) true):Ev (fun k=>c_spec_FilesOf k f) (filN f 20):=by
 have hni:=hP.ni
 refine EvQ.run (fun k=>spec_FilesOf_run k _) ?_
 simp only[spec_FilesOf]
 refine EvQ.bind h ?_
 simp only[Bool.not_true,cond_false]
 refine Ev.eq ?_
 refine EvX.list (L:=fun k _=>spec_FilesOf_l1 k) (fI f) (fun(st:List ByteArray) i=>((),st,fI f,((fI f).length:Int),((i:Nat):Int),f)) (fun st i=>st=filN f i) (fun st i n hx hi inv=> ?_) (fun st inv=> ?_) [] rfl
 ·have hi20:i<20:=by rw[hni]at hi;exact hi
  have hl:=filN_len (f:=f) i
  rw[←inv]at hl
  have hps:=pathT_size (f:=f) (i:=i)
  have hss:=shown_size hP hx
  simp only[spec_FilesOf_l1,Int.ofNat_lt,hi,decide_true,cond_true,Int.natCast_nonneg,if_true,Int.toNat_natCast,hx,Option.bind_some,wS i]
  refine EvX.bif (fun h0=>EvX.const _ (GL.self _ rfl ?_)) (fun h0=> ?_)
  ·rw[filN_no hx (eq_of_beq h0)];exact inv
  ·have h0':n.1≠0:=fun hh=>by rw[hh]at h0;cases h0
   refine EvX.bind (spec_PathOf_ev hP h (i:Int)) ?_
   refine EvX.joinT ((),st,(i:Int),(),pathT f i,fI f,((fI f).length:Int),(i:Int),n,f) True ?_ (fun _=> ?_)
   ·cases hp:pathN f 8 (i:Int) []with
    |none=>
     have:pathT f i=⟨#[63]⟩:=by rw[pathT,hp]
     simp only[pathQ,Bool.not_false,cond_true,this]
     exact EvX.const _ (GT.inl trivial)
    |some l=>
     have:pathT f i=pathB l:=by rw[pathT,hp]
     simp only[pathQ,Bool.not_true,cond_false,this]
     exact EvX.const _ (GT.inl trivial)
   ·have c1:(pathT f i).size+(⟨#[32]⟩:ByteArray).size≤9223372036854775807:=by
     show _+1≤_;omega
    have c2:(pathT f i++(⟨#[32]⟩:ByteArray)).size+(shownV f n).size≤9223372036854775807:=by
     rw[ByteArray.size_append];show _+1+_≤_;omega
    have c3:∀x:ByteArray,(st.length+([x]:List ByteArray).length)*16≤capBytes:=fun x=>by
     simp only[List.length_cons,List.length_nil,capBytes];omega
    refine EvX.bif (fun h2=> ?_) (fun h2=> ?_)
    ·have h2':n.1=2:=eq_of_beq h2
     have hsv:shownV f n=joinB (sortD (namesV (entsV f n))) comma:=by rw[shownV,if_pos h2']
     rw[hsv]at c2
     have hnl:=names_len hP hx
     simp only[if_pos c1]
     refine EvX.bind (spec_entries_ev hP (by omega) (nat_at hx)) (EvX.bind (spec_names_ev _ ?_) (EvX.bind (spec_Join_ev _ comma (by omega) (by show 1≤1000;omega) names_ok) ?_))
     ·have:=ents_len (blk_ok hP hx) (hP.ino _ _ hx)
      omega
     ·simp only[if_pos c2,if_pos (c3 _),wS i]
      refine EvX.const _ (GL.self _ rfl ?_)
      rw[filN_yes hx h0',inv,lineV,hsv]
    ·have h2':n.1≠2:=fun hh=>by rw[hh]at h2;cases h2
     have hsv:shownV f n=ofBytes (hexL (contV f n)):=by rw[shownV,if_neg h2']
     rw[hsv]at c2
     have hcs:=cont_le hP hx
     simp only[if_pos c1]
     refine EvX.bind (spec_text_ev (blk_ok hP hx) (hP.ino _ _ hx)) (EvX.bind (spec_HexOf_ev _ (by omega)) ?_)
     simp only[if_pos c2,if_pos (c3 _),wS i]
     refine EvX.const _ (GL.self _ rfl ?_)
     rw[filN_yes hx h0',inv,lineV,hsv]
 ·simp only[spec_FilesOf_l1,Int.lt_irrefl,decide_false,cond_false]
  rw[hni]at inv
  exact EvX.const _ (GE.ret (GR.ret inv))
theorem impl_shown_ev{f:PFS}(hP:fsP f){i:Nat}{n:PInode}(h1:i<20)(hx:(fI f)[i]? =some n):Ev (fun k=>c_impl_FS_shown k (some f,(i:Int))) (shownV f n):=by
 refine EvQ.run (fun k=>impl_FS_shown_run k _ _) ?_
 simp only[impl_FS_shown]
 refine EvQ.bind (isDir_ev (by omega) (by omega) (nat_at hx)) ?_
 have hnl:=names_len hP hx
 have hcs:=cont_le hP hx
 by_cases h2:n.1=2
 ·have hb:(n.1==2)=true:=beq_iff_eq.2 h2
  simp only[hb,cond_true]
  rw[shownV,if_pos h2]
  exact EvQ.bind (impl_names_ev hP (by omega) (nat_at hx)) (EvQ.bind (impl_Join_ev _ comma (by omega) (by show 1≤1000;omega) names_ok) (EvQ.const _))
 ·have hb:(n.1==2)=false:=beq_eq_false_iff_ne.2 h2
  simp only[hb,cond_false]
  rw[shownV,if_neg h2]
  exact EvQ.bind (impl_content_ev (by omega) (nat_at hx) (blk_ok hP hx) (hP.ino _ _ hx)) (EvQ.bind (impl_HexOf_ev _ (by omega)) (EvQ.const _))
theorem impl_files_ev{f:PFS}(hP:fsP f)(h:Ev (fun k=>c_impl_IsFS k f) true):Ev (fun k=>c_impl_FilesOf k f) (filN f 20):=by
 have hni:=hP.ni
 refine EvQ.run (fun k=>impl_FilesOf_run k _) ?_
 simp only[impl_FilesOf]
 refine EvQ.bind h ?_
 simp only[Bool.not_true,cond_false]
 refine Ev.eq ?_
 refine EvX.upto (L:=fun k _=>impl_FilesOf_l1 k) 20 (fun(st:List ByteArray) i=>((),st,((i:Nat):Int),f)) (fun st i=>st=filN f i) (fun st i hi inv=> ?_) (fun st inv=> ?_) [] 0 (by omega) rfl
 ·obtain⟨n,hx'⟩:=node_at hP (i:=(i:Int)) (by omega) (by omega)
  have hx:(fI f)[i]? =some n:=by rwa[Int.toNat_natCast]at hx'
  have hl:=filN_len (f:=f) i
  rw[←inv]at hl
  have hps:=pathT_size (f:=f) (i:=i)
  have hss:=shown_size hP hx
  have c0:(i:Int)<20:=by omega
  simp only[impl_FilesOf_l1,c0,decide_true,cond_true,wS i]
  refine EvX.bind (has_ev _ (by omega) (by omega) hx') ?_
  refine EvX.bif (fun h0=>EvX.const _ (GL.self _ rfl ?_)) (fun h0=> ?_)
  ·have:n.1=0:=by simpa using h0
   rw[filN_no hx this];exact inv
  ·have h0':n.1≠0:=by simpa using h0
   refine EvX.bind (impl_PathOf_ev hP h (i:Int)) ?_
   refine EvX.joinT ((),st,(i:Int),pathT f i,(i:Int),f) True ?_ (fun _=> ?_)
   ·cases hp:pathN f 8 (i:Int) []with
    |none=>
     have:pathT f i=⟨#[63]⟩:=by rw[pathT,hp]
     simp only[pathQ,Bool.not_false,cond_true,this]
     exact EvX.const _ (GT.inl trivial)
    |some l=>
     have:pathT f i=pathB l:=by rw[pathT,hp]
     simp only[pathQ,Bool.not_true,cond_false,this]
     exact EvX.const _ (GT.inl trivial)
   ·have c1:(pathT f i).size+(⟨#[32]⟩:ByteArray).size≤9223372036854775807:=by
     show _+1≤_;omega
    have c2:(pathT f i++(⟨#[32]⟩:ByteArray)).size+(shownV f n).size≤9223372036854775807:=by
     rw[ByteArray.size_append];show _+1+_≤_;omega
    have c3:∀x:ByteArray,(st.length+([x]:List ByteArray).length)*16≤capBytes:=fun x=>by
     simp only[List.length_cons,List.length_nil,capBytes];omega
    simp only[if_pos c1]
    refine EvX.bind (impl_shown_ev hP hi hx) ?_
    simp only[if_pos c2,if_pos (c3 _),wS i]
    refine EvX.const _ (GL.self _ rfl ?_)
    rw[filN_yes hx h0',inv,lineV]
 ·simp only[impl_FilesOf_l1,show ¬((20:Nat):Int)<20 by omega,decide_false,cond_false]
  exact EvX.const _ (GE.ret (GR.ret inv))
theorem files_same(x:PFS)(hs:fsSmall x)(hb:∀s∈fD x,s.size<big):∃r:List ByteArray,Ev (fun k=>c_spec_FilesOf k x) r∧Ev (fun k=>c_impl_FilesOf k x) r∧szM_StringS r≤80000000∧r.length≤20:=by
 obtain⟨b,e1,e2,e3⟩:=(impl_IsFS_say x hs).same (spec_IsFS_say x hs hb)
 cases b with
 |false=>
  refine⟨[],EvQ.run (fun k=>spec_FilesOf_run k _) ?_,EvQ.run (fun k=>impl_FilesOf_run k _) ?_,Nat.zero_le _,Nat.zero_le _⟩
  ·simp only[spec_FilesOf];exact EvQ.bind e2 (EvQ.const _)
  ·simp only[impl_FilesOf];exact EvQ.bind e1 (EvQ.const _)
 |true=>
  have hP:=e3.1 rfl
  exact⟨filN x 20,spec_files_ev hP e2,impl_files_ev hP e1,filN_sz hP 20,filN_len 20⟩
end Go.Proofs.YtbpfenmkhapeiaaGreat

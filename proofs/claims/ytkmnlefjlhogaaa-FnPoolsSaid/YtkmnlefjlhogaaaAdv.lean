/- The tables, the residual functions and lemmas of this seat: parts of the proof of the law; conditions: those that each names. -/
import Derived.Test.YtkmnlefjlhogaaaAdj
set_option linter.unusedVariables false
set_option linter.unusedSimpArgs false
set_option maxRecDepth 100000
namespace Go.Proofs.Ytkmnlefjlhogaaa
open Go.Eng
theorem cutV_size0{s:ByteArray}(h:s.size=0):cutV s.size s=[]:=by rw[h];rfl
theorem add_ev{f0:PFS}{i dir:Nat}{n0 x0 d:PInode}{t name data:ByteArray}(hw:wfs f0)(hx:(fI f0)[i]? =some x0)(hxb:xBlk x0=[])(hn:xBlk n0=[])(hs:xSize n0=0)(hu0:0≤xUid n0)(hu3:xUid n0≤3)
  (hA:(xAcl n0).length≤1000) (hD:(xDef n0).length≤1000) (hd:(fI f0)[dir]? =some d) (hne:dir≠i) (ht:Dir1 f0 d t) (hdu0:0≤xUid d) (hdu3:xUid d≤3) (hname:name.size≤13) (hdata:data.size≤255):
  ∃r,Ev (fun k=>c_spec_l08Add k (f0,(dir:Int),name,(i:Int),n0,data)) r∧AddQ f0 dir name i n0 d t (cutV data.size data) r:=by
 obtain⟨q,hq⟩:∃q,(fQ f0)[(xUid n0).toNat]? =some q:=⟨_,List.getElem?_eq_getElem (by rw[hw.nq];omega)⟩
 have hlen:=cutV_len data.size data (Nat.le_refl _)
 obtain⟨r,h1,h2⟩:∃r,Ev (fun k=>spec_l08Add k f0 (dir:Int) name (i:Int) n0 data) r∧AddQ f0 dir name i n0 d t (cutV data.size data) r:=by
  refine Ev.of ?_
  simp only[spec_l08Add]
  refine EvX.join ?_
  refine EvX.bind (spec_cutV_ev data (by omega)) ?_
  obtain⟨o,ho1,m,n,f,hm,hC,ho⟩:=add_pieces (l:=cutV data.size data) hw hx hxb hn hs hu0 hu3 hq (by omega) (fun j s hj=>by have:=cutV_at data.size data (Nat.le_refl _) j s hj;exact⟨this.2.1,this.2.2⟩) hA hD (dir:Int) name ((0:Int),[],[],[])
  refine⟨o,ho1,.inl ⟨_,ho, ?_⟩⟩
  obtain⟨r,hr1,hr2⟩:=add_tail hC hm hw hx hxb hu0 hu3 (by omega) hA hD hd hne ht hdu0 hdu3 hname ((0:Int),[],[],[]) f0 (dir:Int) name (i:Int) n0 data
  exact EvX.ofEv hr1 ⟨r,fun _=>rfl,hr2⟩
 exact⟨r,EvQ.run (fun k=>spec_l08Add_run k _ _ _ _ _ _) h1,h2⟩
theorem ofB_zero{l:List Int}{a:Nat}(h:∀(j:Nat) v,a≤j→l[j]? =some v→v=0):zeroS ((ofBytes l).extract a (ofBytes l).size):=by
 intro j c hc
 rw[bget,Lib.extract_data,List.getElem?_take]at hc
 have hb:(ofBytes l).data.toList[a+j]? =some c:=by
  split at hc
  ·rw[List.getElem?_drop]at hc;exact hc
  ·cases hc
 rw[ofBytes_list,List.getElem?_map]at hb
 cases hl:l[a+j]? with
 |none=>rw[hl]at hb;cases hb
 |some v=>
  rw[hl]at hb
  have:=h (a+j) v (by omega) hl
  subst this
  injection hb with hb
  rw[←hb];rfl
theorem pad_zero{s:ByteArray}{n a:Nat}(h:s.size≤a):zeroS ((padB s n).extract a (padB s n).size):=by
 rw[padB]
 refine ofB_zero fun j v hj hv=> ?_
 rw[List.getElem?_append_right (by rw[bytesOf_len];omega),List.getElem?_replicate]at hv
 split at hv
 ·injection hv with hv;exact hv.symm
 ·cases hv
theorem ext_all(s:ByteArray):s.extract 0 s.size=s:=by
 refine bext ?_
 rw[Lib.extract_data,List.drop_zero,Nat.sub_zero,←blen,List.take_length]
theorem zero32_zero:zeroS zero32:=by
 have:=pad_zero (s:=⟨#[]⟩) (n:=32) (a:=0) (Nat.le_refl _)
 rw[ext_all]at this
 exact this
theorem zero32_size:zero32.size=32:=padB_size _ _
end Go.Proofs.Ytkmnlefjlhogaaa

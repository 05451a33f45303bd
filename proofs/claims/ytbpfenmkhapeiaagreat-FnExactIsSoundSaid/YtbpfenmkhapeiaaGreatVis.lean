/- The tables, the residual functions and lemmas of this seat: parts of the proof of the law; conditions: those that each names. -/
import Derived.Test.YtbpfenmkhapeiaaGreatAlx
import Derived.Test.YtbpfenmkhapeiaaGreatFnd
set_option linter.unusedVariables false
set_option linter.unusedSimpArgs false
set_option maxRecDepth 100000
namespace Go.Proofs.YtbpfenmkhapeiaaGreat
open Go.Eng
noncomputable def mayV(f:PFS)(c:PCred)(i w:Int):Bool:=open Classical in if h:∃b,Ev (fun k=>c_spec_l11May k (f,c,i,w)) b then h.choose else false
theorem may_same{f:PFS}(hP:fsP f)(hs:fsSmall f){c:PCred}(hc:c.2.2.length<big){i:Int}{n:PInode}(h0:0≤i)(h1:i<20)(hn:(fI f)[i.toNat]? =some n)(w:Int):
  ∃b,Ev (fun k=>c_spec_l11May k (f,c,i,w)) b∧(n.1≠0→Ev (fun k=>c_impl_FS_may k (some f,c,i,w)) b):=by
 have hsm:=hs n (List.mem_of_getElem? hn)
 have hn':f.2.2.1[i.toNat]? =some n:=hn
 obtain⟨b,e1,e2⟩:=allowed_same c n.2.2.1 n.2.2.2.1 n.2.1 n.2.2.2.2.2.2.2.2.1 w hc hsm.2.1
 refine⟨b,EvQ.run (fun k=>spec_l11May_run k _ _ _ _) ?_,fun hk=>EvQ.run (fun k=>impl_FS_may_run k _ _ _ _) ?_⟩
 ·simp only[spec_l11May,h0,if_true,hn',Option.bind_some]
  exact EvQ.bind e2 (EvQ.const _)
 ·simp only[impl_FS_may]
  refine EvQ.bind (has_ev i h0 h1 hn) ?_
  have:(n.1 != 0)=true:=by simpa using hk
  simp only[this,Bool.not_true,cond_false,Option.bind_some,h0,if_true,hn']
  exact EvQ.bind e1 (EvQ.const _)
theorem spec_may_ev{f:PFS}(hP:fsP f)(hs:fsSmall f){c:PCred}(hc:c.2.2.length<big){i:Int}(h0:0≤i)(h1:i<20)(w:Int):Ev (fun k=>c_spec_l11May k (f,c,i,w)) (mayV f c i w):=by
 obtain⟨n,hn⟩:=node_at hP h0 h1
 obtain⟨b,e1,_⟩:=may_same hP hs hc h0 h1 hn w
 have h:∃b,Ev (fun k=>c_spec_l11May k (f,c,i,w)) b:=⟨b,e1⟩
 unfold mayV
 rw[dif_pos h]
 exact h.choose_spec
theorem impl_may_ev{f:PFS}(hP:fsP f)(hs:fsSmall f){c:PCred}(hc:c.2.2.length<big){i:Int}{n:PInode}(h0:0≤i)(h1:i<20)(hn:(fI f)[i.toNat]? =some n)(hk:n.1≠0)(w:Int):Ev (fun k=>c_impl_FS_may k (some f,c,i,w)) (mayV f c i w):=by
 obtain⟨b,e1,e2⟩:=may_same hP hs hc h0 h1 hn w
 rw[←ev_unique e1 (spec_may_ev hP hs hc h0 h1 w)]
 exact e2 hk
def bitsP(u:List Bool)(P:Int→Prop):Prop:=u.length=20∧∀b:Nat,b<20→∃x,u[b]? =some x∧(x=true↔P (b:Int))
theorem bits_get{u:List Bool}{P:Int→Prop}(h:bitsP u P){b:Int}(h0:0≤b)(h1:b<20):∃x,u[b.toNat]? =some x∧(x=true↔P b):=by
 obtain⟨x,h2,h3⟩:=h.2 b.toNat (by omega)
 rw[Int.toNat_of_nonneg h0]at h3
 exact⟨x,h2,h3⟩
theorem bits_iff{u:List Bool}{P Q:Int→Prop}(h:bitsP u P)(e:∀k,0≤k→k<20→(P k↔Q k)):bitsP u Q:=
 ⟨h.1,fun b hb=>by obtain⟨x,h1,h2⟩:=h.2 b hb;exact⟨x,h1,h2.trans (e b (by omega) (by omega))⟩⟩
theorem bits_set{u:List Bool}{P:Int→Prop}(h:bitsP u P){b:Int}(h0:0≤b):bitsP (u.set b.toNat true) (fun k=>P k∨k=b):=by
 refine⟨by rw[List.length_set];exact h.1,fun k hk=> ?_⟩
 obtain⟨x,h1,h2⟩:=h.2 k hk
 by_cases e:b.toNat=k
 ·refine⟨true, ?_,⟨fun _=> .inr (by omega),fun _=>rfl⟩⟩
  rw[List.getElem?_set,if_pos e,if_pos (by rw[h.1];omega)]
 ·refine⟨x, ?_,h2.trans ⟨.inl,fun h=>h.resolve_right fun hk=>e (by omega)⟩⟩
  rw[List.getElem?_set,if_neg e,h1]
theorem bits_none:bitsP (List.replicate 20 false) (fun _=>False):=⟨by simp,fun b hb=>⟨false,by rw[List.getElem?_replicate,if_pos hb],by simp⟩⟩
theorem bits_ext{u v:List Bool}{P:Int→Prop}(h:bitsP u P)(h':bitsP v P):u=v:=by
 refine List.ext_getElem? fun i=> ?_
 by_cases hi:i<20
 ·obtain⟨x,h1,h2⟩:=h.2 i hi
  obtain⟨y,h3,h4⟩:=h'.2 i hi
  have:x=y:=by cases x<;>cases y<;>simp_all
  rw[h1,h3,this]
 ·rw[List.getElem?_eq_none (by rw[h.1];omega),List.getElem?_eq_none (by rw[h'.1];omega)]
def inUse(f:PFS)(k:Int):Prop:=∃m,(fI f)[k.toNat]? =some m∧m.1≠0
def tgt(f:PFS)(n:PInode)(j:Nat)(k:Int):Prop:=∃(t:Nat) (e:PEnt),t<j∧(entsV f n)[t]? =some e∧(findV (entsV f n) e.1).1=k∧inUse f k
def edge(f:PFS)(c:PCred)(i k:Int):Prop:=∃n,(fI f)[i.toNat]? =some n∧n.1=2∧mayV f c i 1=true∧tgt f n (entsV f n).length k
def lev(f:PFS)(c:PCred):Nat→Int→Prop
 |0,k=>k=0
 |d+1,k=>∃a,0≤a∧a<20∧lev f c d a∧edge f c a k
def reach(f:PFS)(c:PCred)(d:Nat)(k:Int):Prop:=∃j,j≤d∧lev f c j k
theorem tgt_succ{f:PFS}{n:PInode}{j:Nat}{e:PEnt}(h:(entsV f n)[j]? =some e)(k:Int):tgt f n (j+1) k↔tgt f n j k∨((findV (entsV f n) e.1).1=k∧inUse f k):=by
 constructor
 ·rintro⟨t,e',ht,h1,h2⟩
  by_cases htj:t=j
  ·subst htj;rw[h]at h1;cases h1;exact .inr h2
  ·exact .inl ⟨t,e',by omega,h1,h2⟩
 ·rintro(⟨t,e',ht,h1,h2⟩|h2)
  ·exact⟨t,e',by omega,h1,h2⟩
  ·exact⟨j,e,by omega,h,h2⟩
theorem inUse_iff{f:PFS}{k:Int}{m:PInode}(h:(fI f)[k.toNat]? =some m):(m.1 != 0)=true↔inUse f k:=by
 rw[bne_iff_ne]
 exact⟨fun h1=>⟨m,h,h1⟩,fun⟨m',h1,h2⟩=>by rw[h]at h1;cases h1;exact h2⟩
end Go.Proofs.YtbpfenmkhapeiaaGreat

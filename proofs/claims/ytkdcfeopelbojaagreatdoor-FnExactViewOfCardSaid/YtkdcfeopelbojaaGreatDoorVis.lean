/- The tables, the residual functions and lemmas of this seat: parts of the proof of the law; conditions: those that each names. -/
import Derived.Test.YtkdcfeopelbojaaGreatDoorAlx
import Derived.Test.YtkdcfeopelbojaaGreatDoorFnd
set_option linter.unusedVariables false
set_option linter.unusedSimpArgs false
set_option maxRecDepth 100000
namespace Go.Proofs.YtkdcfeopelbojaaGreatDoor
open Go.Eng
noncomputable def Ew(f:eh)(c:cw)(i w:Int):Bool:=open Classical in if h:∃b,Ev (fun k=>eU k (f,c,i,w)) b then h.choose else false
theorem Kq{f:eh}(hP:rN f)(hs:cY f){c:cw}(hc:c.2.2.length<ia){i:Int}{n:az}(h0:0≤i)(h1:i<20)(hn:(fI f)[i.toNat]? =some n)(w:Int):
  ∃b,Ev (fun k=>eU k (f,c,i,w)) b∧(n.1≠0→Ev (fun k=>jn k (some f,c,i,w)) b):=by
 have hsm:=hs n (List.mem_of_getElem? hn)
 have hn':f.2.2.1[i.toNat]? =some n:=hn
 obtain⟨b,e1,e2⟩:=I5 c n.2.2.1 n.2.2.2.1 n.2.1 n.2.2.2.2.2.2.2.2.1 w hc hsm.2.1
 refine⟨b,aw.run (fun k=>D7 k _ _ _ _) ?_,fun hk=>aw.run (fun k=>Eh k _ _ _ _) ?_⟩
 ·simp only[Dt,h0,if_true,hn',Option.bind_some]
  exact aw.bind e2 (aw.const _)
 ·simp only[Dq]
  refine aw.bind (LR i h0 h1 hn) ?_
  have:(n.1 != 0)=true:=by simpa using hk
  simp only[this,Bool.not_true,cond_false,Option.bind_some,h0,if_true,hn']
  exact aw.bind e1 (aw.const _)
theorem vh{f:eh}(hP:rN f)(hs:cY f){c:cw}(hc:c.2.2.length<ia){i:Int}(h0:0≤i)(h1:i<20)(w:Int):Ev (fun k=>eU k (f,c,i,w)) (Ew f c i w):=by
 obtain⟨n,hn⟩:=AX hP h0 h1
 obtain⟨b,e1,_⟩:=Kq hP hs hc h0 h1 hn w
 have h:∃b,Ev (fun k=>eU k (f,c,i,w)) b:=⟨b,e1⟩
 unfold Ew
 rw[dif_pos h]
 exact h.choose_spec
theorem Dn{f:eh}(hP:rN f)(hs:cY f){c:cw}(hc:c.2.2.length<ia){i:Int}{n:az}(h0:0≤i)(h1:i<20)(hn:(fI f)[i.toNat]? =some n)(hk:n.1≠0)(w:Int):Ev (fun k=>jn k (some f,c,i,w)) (Ew f c i w):=by
 obtain⟨b,e1,e2⟩:=Kq hP hs hc h0 h1 hn w
 rw[←HZ e1 (vh hP hs hc h0 h1 w)]
 exact e2 hk
def eu(u:List Bool)(P:Int→Prop):Prop:=u.length=20∧∀b:Nat,b<20→∃x,u[b]? =some x∧(x=true↔P (b:Int))
theorem Kl{u:List Bool}{P:Int→Prop}(h:eu u P){b:Int}(h0:0≤b)(h1:b<20):∃x,u[b.toNat]? =some x∧(x=true↔P b):=by
 obtain⟨x,h2,h3⟩:=h.2 b.toNat (by omega)
 rw[Int.toNat_of_nonneg h0]at h3
 exact⟨x,h2,h3⟩
theorem cv{u:List Bool}{P Q:Int→Prop}(h:eu u P)(e:∀k,0≤k→k<20→(P k↔Q k)):eu u Q:=
 ⟨h.1,fun b hb=>by obtain⟨x,h1,h2⟩:=h.2 b hb;exact⟨x,h1,h2.trans (e b (by omega) (by omega))⟩⟩
theorem vV{u:List Bool}{P:Int→Prop}(h:eu u P){b:Int}(h0:0≤b):eu (u.set b.toNat true) (fun k=>P k∨k=b):=by
 refine⟨by rw[List.length_set];exact h.1,fun k hk=> ?_⟩
 obtain⟨x,h1,h2⟩:=h.2 k hk
 by_cases e:b.toNat=k
 ·refine⟨true, ?_,⟨fun _=> .inr (by omega),fun _=>rfl⟩⟩
  rw[List.getElem?_set,if_pos e,if_pos (by rw[h.1];omega)]
 ·refine⟨x, ?_,h2.trans ⟨.inl,fun h=>h.resolve_right fun hk=>e (by omega)⟩⟩
  rw[List.getElem?_set,if_neg e,h1]
theorem xf:eu (List.replicate 20 false) (fun _=>False):=⟨by simp,fun b hb=>⟨false,by rw[List.getElem?_replicate,if_pos hb],by simp⟩⟩
theorem KO{u v:List Bool}{P:Int→Prop}(h:eu u P)(h':eu v P):u=v:=by
 refine List.ext_getElem? fun i=> ?_
 by_cases hi:i<20
 ·obtain⟨x,h1,h2⟩:=h.2 i hi
  obtain⟨y,h3,h4⟩:=h'.2 i hi
  have:x=y:=by cases x<;>cases y<;>simp_all
  rw[h1,h3,this]
 ·rw[List.getElem?_eq_none (by rw[h.1];omega),List.getElem?_eq_none (by rw[h'.1];omega)]
def Az(f:eh)(k:Int):Prop:=∃m,(fI f)[k.toNat]? =some m∧m.1≠0
def QL(f:eh)(n:az)(j:Nat)(k:Int):Prop:=∃(t:Nat) (e:uE),t<j∧(bT f n)[t]? =some e∧(mw (bT f n) e.1).1=k∧Az f k
def MU(f:eh)(c:cw)(i k:Int):Prop:=∃n,(fI f)[i.toNat]? =some n∧n.1=2∧Ew f c i 1=true∧QL f n (bT f n).length k
def LH(f:eh)(c:cw):Nat→Int→Prop
 |0,k=>k=0
 |d+1,k=>∃a,0≤a∧a<20∧LH f c d a∧MU f c a k
def reach(f:eh)(c:cw)(d:Nat)(k:Int):Prop:=∃j,j≤d∧LH f c j k
theorem rb{f:eh}{n:az}{j:Nat}{e:uE}(h:(bT f n)[j]? =some e)(k:Int):QL f n (j+1) k↔QL f n j k∨((mw (bT f n) e.1).1=k∧Az f k):=by
 constructor
 ·rintro⟨t,e',ht,h1,h2⟩
  by_cases htj:t=j
  ·subst htj;rw[h]at h1;cases h1;exact .inr h2
  ·exact .inl ⟨t,e',by omega,h1,h2⟩
 ·rintro(⟨t,e',ht,h1,h2⟩|h2)
  ·exact⟨t,e',by omega,h1,h2⟩
  ·exact⟨j,e,by omega,h,h2⟩
theorem wZ{f:eh}{k:Int}{m:az}(h:(fI f)[k.toNat]? =some m):(m.1 != 0)=true↔Az f k:=by
 rw[bne_iff_ne]
 exact⟨fun h1=>⟨m,h,h1⟩,fun⟨m',h1,h2⟩=>by rw[h]at h1;cases h1;exact h2⟩
end Go.Proofs.YtkdcfeopelbojaaGreatDoor

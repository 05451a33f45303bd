/- The tables, the residual functions and lemmas of this seat: parts of the proof of the law; conditions: those that each names. -/
import Derived.Test.YtkdcfeopelbojaaGreatDoorAlx
import Derived.Test.YtkdcfeopelbojaaGreatDoorFnd
set_option linter.unusedVariables false
set_option linter.unusedSimpArgs false
set_option maxRecDepth 100000
namespace Go.Proofs.YtkdcfeopelbojaaGreatDoor
open Go.Eng
noncomputable def Ds(f:dV)(c:cq)(i w:Int):Bool:=open Classical in if h:∃b,Ev (fun k=>eQ k (f,c,i,w)) b then h.choose else false
theorem Ky{f:dV}(hP:qv f)(hs:cJ f){c:cq}(hc:c.2.2.length<fu){i:Int}{n:az}(h0:0≤i)(h1:i<20)(hn:(fI f)[i.toNat]? =some n)(w:Int):
  ∃b,Ev (fun k=>eQ k (f,c,i,w)) b∧(n.1≠0→Ev (fun k=>jb k (some f,c,i,w)) b):=by
 have hsm:=hs n (List.mem_of_getElem? hn)
 have hn':f.2.2.1[i.toNat]? =some n:=hn
 obtain⟨b,e1,e2⟩:=It c n.2.2.1 n.2.2.2.1 n.2.1 n.2.2.2.2.2.2.2.2.1 w hc hsm.2.1
 refine⟨b,ax.run (fun k=>Du k _ _ _ _) ?_,fun hk=>ax.run (fun k=>DO k _ _ _ _) ?_⟩
 ·simp only[CU,h0,if_true,hn',Option.bind_some]
  exact ax.bind e2 (ax.const _)
 ·simp only[CZ]
  refine ax.bind (Lj i h0 h1 hn) ?_
  have:(n.1 != 0)=true:=by simpa using hk
  simp only[this,Bool.not_true,cond_false,Option.bind_some,h0,if_true,hn']
  exact ax.bind e1 (ax.const _)
theorem uX{f:dV}(hP:qv f)(hs:cJ f){c:cq}(hc:c.2.2.length<fu){i:Int}(h0:0≤i)(h1:i<20)(w:Int):Ev (fun k=>eQ k (f,c,i,w)) (Ds f c i w):=by
 obtain⟨n,hn⟩:=A1 hP h0 h1
 obtain⟨b,e1,_⟩:=Ky hP hs hc h0 h1 hn w
 have h:∃b,Ev (fun k=>eQ k (f,c,i,w)) b:=⟨b,e1⟩
 unfold Ds
 rw[dif_pos h]
 exact h.choose_spec
theorem Cv{f:dV}(hP:qv f)(hs:cJ f){c:cq}(hc:c.2.2.length<fu){i:Int}{n:az}(h0:0≤i)(h1:i<20)(hn:(fI f)[i.toNat]? =some n)(hk:n.1≠0)(w:Int):Ev (fun k=>jb k (some f,c,i,w)) (Ds f c i w):=by
 obtain⟨b,e1,e2⟩:=Ky hP hs hc h0 h1 hn w
 rw[←Hr e1 (uX hP hs hc h0 h1 w)]
 exact e2 hk
def eu(u:List Bool)(P:Int→Prop):Prop:=u.length=20∧∀b:Nat,b<20→∃x,u[b]? =some x∧(x=true↔P (b:Int))
theorem Kn{u:List Bool}{P:Int→Prop}(h:eu u P){b:Int}(h0:0≤b)(h1:b<20):∃x,u[b.toNat]? =some x∧(x=true↔P b):=by
 obtain⟨x,h2,h3⟩:=h.2 b.toNat (by omega)
 rw[Int.toNat_of_nonneg h0]at h3
 exact⟨x,h2,h3⟩
theorem cw{u:List Bool}{P Q:Int→Prop}(h:eu u P)(e:∀k,0≤k→k<20→(P k↔Q k)):eu u Q:=
 ⟨h.1,fun b hb=>by obtain⟨x,h1,h2⟩:=h.2 b hb;exact⟨x,h1,h2.trans (e b (by omega) (by omega))⟩⟩
theorem ug{u:List Bool}{P:Int→Prop}(h:eu u P){b:Int}(h0:0≤b):eu (u.set b.toNat true) (fun k=>P k∨k=b):=by
 refine⟨by rw[List.length_set];exact h.1,fun k hk=> ?_⟩
 obtain⟨x,h1,h2⟩:=h.2 k hk
 by_cases e:b.toNat=k
 ·refine⟨true, ?_,⟨fun _=> .inr (by omega),fun _=>rfl⟩⟩
  rw[List.getElem?_set,if_pos e,if_pos (by rw[h.1];omega)]
 ·refine⟨x, ?_,h2.trans ⟨.inl,fun h=>h.resolve_right fun hk=>e (by omega)⟩⟩
  rw[List.getElem?_set,if_neg e,h1]
theorem wh:eu (List.replicate 20 false) (fun _=>False):=⟨by simp,fun b hb=>⟨false,by rw[List.getElem?_replicate,if_pos hb],by simp⟩⟩
theorem Ki{u v:List Bool}{P:Int→Prop}(h:eu u P)(h':eu v P):u=v:=by
 refine List.ext_getElem? fun i=> ?_
 by_cases hi:i<20
 ·obtain⟨x,h1,h2⟩:=h.2 i hi
  obtain⟨y,h3,h4⟩:=h'.2 i hi
  have:x=y:=by cases x<;>cases y<;>simp_all
  rw[h1,h3,this]
 ·rw[List.getElem?_eq_none (by rw[h.1];omega),List.getElem?_eq_none (by rw[h'.1];omega)]
def Ay(f:dV)(k:Int):Prop:=∃m,(fI f)[k.toNat]? =some m∧m.1≠0
def PL(f:dV)(n:az)(j:Nat)(k:Int):Prop:=∃(t:Nat) (e:tU),t<j∧(bR f n)[t]? =some e∧(mm (bR f n) e.1).1=k∧Ay f k
def Lc(f:dV)(c:cq)(i k:Int):Prop:=∃n,(fI f)[i.toNat]? =some n∧n.1=2∧Ds f c i 1=true∧PL f n (bR f n).length k
def Kp(f:dV)(c:cq):Nat→Int→Prop
 |0,k=>k=0
 |d+1,k=>∃a,0≤a∧a<20∧Kp f c d a∧Lc f c a k
def reach(f:dV)(c:cq)(d:Nat)(k:Int):Prop:=∃j,j≤d∧Kp f c j k
theorem ry{f:dV}{n:az}{j:Nat}{e:tU}(h:(bR f n)[j]? =some e)(k:Int):PL f n (j+1) k↔PL f n j k∨((mm (bR f n) e.1).1=k∧Ay f k):=by
 constructor
 ·rintro⟨t,e',ht,h1,h2⟩
  by_cases htj:t=j
  ·subst htj;rw[h]at h1;cases h1;exact .inr h2
  ·exact .inl ⟨t,e',by omega,h1,h2⟩
 ·rintro(⟨t,e',ht,h1,h2⟩|h2)
  ·exact⟨t,e',by omega,h1,h2⟩
  ·exact⟨j,e,by omega,h,h2⟩
theorem vX{f:dV}{k:Int}{m:az}(h:(fI f)[k.toNat]? =some m):(m.1 != 0)=true↔Ay f k:=by
 rw[bne_iff_ne]
 exact⟨fun h1=>⟨m,h,h1⟩,fun⟨m',h1,h2⟩=>by rw[h]at h1;cases h1;exact h2⟩
end Go.Proofs.YtkdcfeopelbojaaGreatDoor

/- The tables, the residual functions and lemmas of this seat: parts of the proof of the law; conditions: those that each names. -/
import Derived.Test.YtmmgfgfkkpeedaaGreatIno
import Derived.Test.YtmmgfgfkkpeedaaGreatFsS
set_option linter.unusedVariables false
set_option linter.unusedSimpArgs false
set_option maxRecDepth 100000
namespace Go.Proofs.YtmmgfgfkkpeedaaGreat
open Go.Eng
theorem Gv(a b:JL):((a.1==b.1)&&(a.2==b.2))=true↔a=b:=by
 rw[Bool.and_eq_true,beq_iff_eq,beq_iff_eq]
 exact⟨fun h=>Prod.ext h.1 h.2,fun h=>by subst h;exact⟨rfl,rfl⟩⟩
theorem K8(a b:List ByteArray)(hl:a.length<m6):cA (fun k=>dW k (a,b)) (a=b):=by
 refine cA.run (fun k=>nE k a b) (cA.of ?_)
 simp only[iY]
 refine aj.bif (fun h=>aj.const _ (GP.no (tG h))) (fun h=> ?_)
 exact cA.iter (nL lB cS (L:=cI) a b (fun i=>(a,b,(a.length:Int),(i:Int))) (fun k self i x y hx hy hi _ hw=>by
  simp only[cI,Int.ofNat_lt,hi,decide_true,cond_true,Int.natCast_nonneg,if_true,Int.toNat_natCast,hx,hy,Option.bind_some,hw]) (fun k self=>by
  simp only[cI,Int.lt_irrefl,decide_false,cond_false]) (tB h) hl)
theorem Ss(a b:List ByteArray)(hl:a.length<m6):cA (fun k=>pj k (a,b)) (a=b):=by
 refine cA.run (fun k=>Dg k a b) (cA.of ?_)
 simp only[Bn]
 refine aj.bif (fun h=>aj.const _ (GP.no (tG h))) (fun h=> ?_)
 exact cA.iter (nL lB cS (L:=jQ) a b (fun i=>(b,a,(a.length:Int),(i:Int))) (fun k self i x y hx hy hi _ hw=>by
  simp only[jQ,Int.ofNat_lt,hi,decide_true,cond_true,Int.natCast_nonneg,if_true,Int.toNat_natCast,hx,hy,Option.bind_some,hw]) (fun k self=>by
  simp only[jQ,Int.lt_irrefl,decide_false,cond_false]) (tB h) hl)
theorem IA(a b:List JL)(hl:a.length<m6):cA (fun k=>cC k (a,b)) (a=b):=by
 refine cA.run (fun k=>ji k a b) (cA.of ?_)
 simp only[eM]
 refine aj.bif (fun h=>aj.const _ (GP.no (tG h))) (fun h=> ?_)
 exact cA.iter (nL (fun a b=>(a.1==b.1)&&(a.2==b.2)) Gv (L:=bU) a b (fun i=>(a,b,(a.length:Int),(i:Int))) (fun k self i x y hx hy hi _ hw=>by
  simp only[bU,Int.ofNat_lt,hi,decide_true,cond_true,Int.natCast_nonneg,if_true,Int.toNat_natCast,hx,hy,Option.bind_some,hw]) (fun k self=>by
  simp only[bU,Int.lt_irrefl,decide_false,cond_false]) (tB h) hl)
def NV(a:jB):Prop:=(fQ a).length<m6∧(fI a).length<m6∧(fD a).length<m6
theorem UB{a b:jB}(h1:a.1=b.1)(h2:fQ a=fQ b)(h3:fI a=fI b)(h4:fD a=fD b):a=b:=Prod.ext h1 (Prod.ext h2 (Prod.ext h3 h4))
theorem HP(a b:jB)(hs:eR a)(hl:NV a):cA (fun k=>s8 k (a,b)) (a=b):=by
 obtain⟨l1,l2,l3⟩:=hl
 refine cA.run (fun k=>Io k a b) (cA.of ?_)
 simp only[Hb]
 refine aj.bif (fun h1=> ?_) (fun h1=>aj.const _ (GP.no fun hP=>by subst hP;simp at h1))
 have h1:a.1=b.1:=by simpa using h1
 refine aj.pX (IA a.2.1 b.2.1 l1) fun y hy=>aj.bif (fun h2=> ?_) (fun h2=>aj.const _ (GP.no fun hP=>by subst hP;rw[hy.2 rfl]at h2;cases h2))
 have h2:=hy.1 h2
 refine aj.bif (fun h=>aj.const _ (GP.no fun hP=>tG h (by rw[hP]))) (fun h=> ?_)
 have h3:=tB h
 unfold m6 at l2
 refine aj.list (L:=fun k _=>mh k) (fI a) (fun(_:Unit) i=>(fI b,(),fI a,((fI a).length:Int),(i:Int),b,a)) (fun _ i=>(fI a).take i=(fI b).take i) (fun _ i e hx hi inv=> ?_) (fun _ inv=> ?_) () (by simp)
 ·have hw:aa .i64 ((i:Int)+1)=((i+1:Nat):Int):=by rw[aR (by omega) (by omega)];omega
  have hlen:(fI a).length=(fI b).length:=h3
  have hy':(fI b)[i]? =some (fI b)[i]:=List.getElem?_eq_getElem (by omega)
  simp only[mh,Int.ofNat_lt,hi,decide_true,cond_true,Int.natCast_nonneg,if_true,Int.toNat_natCast,hx,hy',Option.bind_some,hw]
  refine aj.pX (ru e (fI b)[i] (hs e (List.mem_of_getElem? hx))) fun z hz=>aj.bif (fun h4=> ?_) (fun h4=> ?_)
  ·refine aj.const _ (GL.ret (GP.no fun hP=> ?_))
   subst hP
   rw[hx]at hy'
   rw[hz.2 (Option.some.inj hy')]at h4;cases h4
  ·refine aj.const _ (GL.self () rfl ?_)
   have:e=(fI b)[i]:=hz.1 (by simpa using h4)
   rw[List.take_add_one,List.take_add_one,inv,hx,hy',this]
 ·simp only[mh,Int.lt_irrefl,decide_false,cond_false]
  refine aj.pX (K8 a.2.2.2 b.2.2.2 l3) fun z hz=>aj.const _ (GE.ret (GP.ret ?_))
  rw[hz]
  have hI:fI a=fI b:=by
   have hlen:(fI a).length=(fI b).length:=h3
   rw[List.take_length,hlen,List.take_length]at inv;exact inv
  exact⟨fun h=>UB h1 h2 hI h,fun h=>by rw[h]⟩
theorem IC(a b:jB)(hs:eR a)(hl:NV a):cA (fun k=>tc k (a,b)) (a=b):=by
 obtain⟨l1,l2,l3⟩:=hl
 refine cA.run (fun k=>H0 k a b) (cA.of ?_)
 simp only[GG]
 refine aj.bif (fun h1=>aj.const _ (GP.no fun hP=>by subst hP;simp at h1)) (fun h1=> ?_)
 have h1:a.1=b.1:=by simpa using h1
 refine aj.bif (fun h=>aj.const _ (GP.no fun hP=>tG h (by rw[hP]))) (fun h=> ?_)
 have hq:=tB h
 refine aj.bif (fun h=>aj.const _ (GP.no fun hP=>tG h (by rw[hP]))) (fun h=> ?_)
 have h3:=tB h
 refine aj.pX (Ss a.2.2.2 b.2.2.2 l3) fun y hy=>aj.bif (fun h4=>aj.const _ (GP.no fun hP=>by subst hP;rw[hy.2 rfl]at h4;cases h4)) (fun h4=> ?_)
 have h4:=hy.1 (by simpa using h4)
 unfold m6 at l1 l2
 refine aj.list (L:=fun k _=>mB k) (fQ a) (fun(_:Unit) i=>((),(),fQ a,((fQ a).length:Int),(i:Int),b,a)) (fun _ i=>(fQ a).take i=(fQ b).take i) (fun _ i e hx hi inv=> ?_) (fun _ inv=> ?_) () (by simp)
 ·have hw:aa .i64 ((i:Int)+1)=((i+1:Nat):Int):=by rw[aR (by omega) (by omega)];omega
  have hlen:(fQ a).length=(fQ b).length:=hq
  have hy':(fQ b)[i]? =some (fQ b)[i]:=List.getElem?_eq_getElem (by omega)
  simp only[mB,Int.ofNat_lt,hi,decide_true,cond_true,Int.natCast_nonneg,if_true,Int.toNat_natCast,hx,hy',Option.bind_some,hw]
  refine aj.bif (fun h5=> ?_) (fun h5=> ?_)
  ·refine aj.const _ (GL.ret (GP.no fun hP=> ?_))
   subst hP
   rw[hx]at hy'
   rw[(Gv _ _).2 (Option.some.inj hy')]at h5;cases h5
  ·refine aj.const _ (GL.self () rfl ?_)
   have:e=(fQ b)[i]:=(Gv _ _).1 (by simpa using h5)
   rw[List.take_add_one,List.take_add_one,inv,hx,hy',this]
 ·simp only[mB,Int.lt_irrefl,decide_false,cond_false]
  have hQ:fQ a=fQ b:=by
   have hlen:(fQ a).length=(fQ b).length:=hq
   rw[List.take_length,hlen,List.take_length]at inv;exact inv
  refine aj.out (F:=fun k _=>iter k (jg k) ((),fI a,((fI a).length:Int),(0:Int),b)) ?_
  refine aj.list (L:=fun k _=>jg k) (fI a) (fun(_:Unit) i=>((),fI a,((fI a).length:Int),(i:Int),b)) (fun _ i=>(fI a).take i=(fI b).take i) (fun _ i e hx hi inv2=> ?_) (fun _ inv2=> ?_) () (by simp)
  ·have hw:aa .i64 ((i:Int)+1)=((i+1:Nat):Int):=by rw[aR (by omega) (by omega)];omega
   have hlen:(fI a).length=(fI b).length:=h3
   have hy':(fI b)[i]? =some (fI b)[i]:=List.getElem?_eq_getElem (by omega)
   simp only[jg,Int.ofNat_lt,hi,decide_true,cond_true,Int.natCast_nonneg,if_true,Int.toNat_natCast,hx,hy',Option.bind_some,hw]
   refine aj.pX (qB e (fI b)[i] (hs e (List.mem_of_getElem? hx))) fun z hz=>aj.bif (fun h6=> ?_) (fun h6=> ?_)
   ·refine aj.const _ (GL.ret (GP.no fun hP=> ?_))
    subst hP
    rw[hx]at hy'
    rw[hz.2 (Option.some.inj hy')]at h6;cases h6
   ·refine aj.const _ (GL.self () rfl ?_)
    have:e=(fI b)[i]:=hz.1 (by simpa using h6)
    rw[List.take_add_one,List.take_add_one,inv2,hx,hy',this]
  ·simp only[jg,Int.lt_irrefl,decide_false,cond_false]
   refine aj.const _ (GE.ret (GP.yes ?_))
   have hI:fI a=fI b:=by
    have hlen:(fI a).length=(fI b).length:=h3
    rw[List.take_length,hlen,List.take_length]at inv2;exact inv2
   exact UB h1 hQ hI h4
end Go.Proofs.YtmmgfgfkkpeedaaGreat

/- The tables, the residual functions and lemmas of this seat: parts of the proof of the law; conditions: those that each names. -/
import Derived.Test.YtbpfenmkhapeiaaGreatVis
set_option linter.unusedVariables false
set_option linter.unusedSimpArgs false
set_option maxRecDepth 100000
namespace Go.Proofs.YtbpfenmkhapeiaaGreat
open Go.Eng
def seenI(f:PFS)(c:PCred)(d:Nat)(i:Nat)(k:Int):Prop:=(∃j,j<d∧lev f c j k)∨(k<i∧lev f c d k)
def nextI(f:PFS)(c:PCred)(d:Nat)(i:Nat)(k:Int):Prop:=d<8∧∃a:Int,0≤a∧a<i∧lev f c d a∧edge f c a k
section
variable {f:PFS} {c:PCred} {S:Type}
abbrev VD:=Option PFS×Unit×Unit×Unit×Unit×Int×Unit×Int×List Bool×Int×List Bool×List Bool×List Bool×List Bool×PCred
def mk2(f:PFS)(c:PCred)(d:Nat)(lv old:List Bool)(st:List Bool×List Bool)(i:Nat):VD:=
 (some f,(),(),(),(),(d:Int),(),(d:Int),lv,(i:Int),st.2,lv,st.1,old,c)
theorem impl_V1(hP:fsP f){d i:Nat}(hi:i<20){lv old se:List Bool}{n:PInode}(hn:(fI f)[i]? =some n){nx:List Bool}(Q:Int→Prop)(hnx:bitsP nx Q){inv:List Bool×List Bool→Nat→Prop}{G:(S→Option (List Bool))→Prop}
  (hinv:∀nx',bitsP nx' (fun k=>Q k∨tgt f n (entsV f n).length k)→inv (se,nx') (i+1)):
  EvX (fun k (p:S×(VD→Option (List Bool)))=>iter k (impl_FS_visible_l1 k p.2) (some f,(),(),(),(),(d:Int),(),(i:Int),(d:Int),lv,(i:Int),entsV f n,((entsV f n).length:Int),(0:Int),se,nx,lv,old,c))
   (GL (mk2 f c d lv old) inv i G):=by
 have hn':(fI f)[((i:Nat):Int).toNat]? =some n:=by rw[Int.toNat_natCast];exact hn
 have hel:=ents_len (blk_ok hP hn') (hP.ino _ _ hn')
 refine EvX.list (L:=fun k (p:S×(VD→Option (List Bool)))=>impl_FS_visible_l1 k p.2) (entsV f n) (fun(st:List Bool) j=>(some f,(),(),(),(),(d:Int),(),(i:Int),(d:Int),lv,(i:Int),entsV f n,((entsV f n).length:Int),((j:Nat):Int),se,st,lv,old,c)) (fun st j=>bitsP st (fun k=>Q k∨tgt f n j k)) (fun st j e hx hj inv=> ?_) (fun st inv=> ?_) nx (bits_iff hnx fun k _ _=>⟨.inl,fun h=>h.resolve_right fun⟨t,_,ht,_⟩=>by omega⟩)
 ·have hw:wrapK .i64 ((j:Int)+1)=((j+1:Nat):Int):=by rw[i64w (by omega) (by omega)];omega
  have hf:=find_facts hP hn' e.1
  obtain⟨m,hm⟩:=node_at hP hf.2.1 hf.2.2
  simp only[impl_FS_visible_l1,Int.ofNat_lt,hj,decide_true,cond_true,Int.natCast_nonneg,if_true,Int.toNat_natCast,hx,Option.bind_some,hw]
  refine EvX.bind (impl_find_ev hP (by omega) hn' e.1) (EvX.bind (has_ev _ hf.2.1 hf.2.2 hm) ?_)
  refine EvX.bif (fun h=> ?_) (fun h=>EvX.const _ (GL.self st rfl (bits_iff inv fun k _ _=> ?_)))
  ·obtain⟨x,hg,_⟩:=bits_get inv hf.2.1 hf.2.2
   simp only[hf.2.1,hf.2.2,if_true,hg,Option.bind_some]
   refine EvX.const _ (GL.self _ rfl (bits_iff (bits_set inv hf.2.1) fun k _ _=> ?_))
   rw[tgt_succ hx]
   constructor
   ·rintro((h1|h1)|rfl)
    ·exact .inl h1
    ·exact .inr (.inl h1)
    ·exact .inr (.inr ⟨rfl,(inUse_iff hm).1 h⟩)
   ·rintro(h1|h1|⟨h1,h2⟩)
    ·exact .inl (.inl h1)
    ·exact .inl (.inr h1)
    ·exact .inr h1.symm
  ·rw[tgt_succ hx]
   constructor
   ·rintro(h1|h1)
    ·exact .inl h1
    ·exact .inr (.inl h1)
   ·rintro(h1|h1|⟨h1,h2⟩)
    ·exact .inl h1
    ·exact .inr h1
    ·subst h1
     have:=(inUse_iff hm).2 h2
     rw[h]at this;cases this
 ·have hw:wrapK .i64 ((i:Int)+1)=((i+1:Nat):Int):=by rw[i64w (by omega) (by omega)];omega
  simp only[impl_FS_visible_l1,Int.lt_irrefl,decide_false,cond_false,hw]
  refine EvX.const _ (GE.up (S:=S×(VD→Option (List Bool))) (fun p=>p.2 (mk2 f c d lv old (se,st) (i+1))) ?_)
  exact GL.self (se,st) rfl (hinv st inv)
theorem impl_V2(hP:fsP f)(hs:fsSmall f)(hc:c.2.2.length<big){d:Nat}(hd:d<9){lv old se:List Bool}(hlv:bitsP lv (lev f c d))(hse:bitsP se (fun k=>∃j,j<d∧lev f c j k))
  {D:Type} {mk:List Bool×List Bool×List Bool→Nat→D} {inv:List Bool×List Bool×List Bool→Nat→Prop} {G:(S→Option (List Bool))→Prop}
  {a0:S×(D→Option (List Bool))→Option PFS×Unit×Unit×Unit×Unit×Int×List Bool×List Bool×List Bool×PCred→Option (List Bool)}
  (hend:∀nx' se',bitsP nx' (nextI f c d 20)→bitsP se' (seenI f c d 20)→GL mk inv d G (fun p=>a0 p (some f,(),(),(),(),((d+1:Nat):Int),nx',se',old,c))):
  EvX (fun k (p:S×(D→Option (List Bool)))=>iter k (impl_FS_visible_l2 k (a0 p)) (mk2 f c d lv old (se,List.replicate 20 false) 0)) (GL mk inv d G):=by
 refine EvX.upto (L:=fun k (p:S×(D→Option (List Bool)))=>impl_FS_visible_l2 k (a0 p)) 20 (mk2 f c d lv old) (fun st i=>bitsP st.1 (seenI f c d i)∧bitsP st.2 (nextI f c d i)) (fun st i hi inv=> ?_) (fun st inv=> ?_) (se,List.replicate 20 false) 0 (Nat.zero_le _)
  ⟨bits_iff hse fun k h0 _=>⟨.inl,fun h=>h.resolve_right fun h=>by omega⟩,bits_iff bits_none fun k _ _=>⟨False.elim,fun⟨_,a,h1,h2,_⟩=>by omega⟩⟩
 ·obtain⟨se1,nx1⟩:=st
  obtain⟨v1,v2⟩:=inv
  simp only at v1 v2
  have hw:wrapK .i64 ((i:Int)+1)=((i+1:Nat):Int):=by rw[i64w (by omega) (by omega)];omega
  obtain⟨n,hn⟩:=node_at hP (i:=(i:Int)) (by omega) (by omega)
  obtain⟨b,hb,hb2⟩:=hlv.2 i hi
  obtain⟨x,hx,_⟩:=v1.2 i hi
  have hn2:=hn
  rw[Int.toNat_natCast]at hn2
  simp only[mk2,impl_FS_visible_l2,show(i:Int)<20 by omega,decide_true,cond_true,Int.natCast_nonneg,if_true,Int.toNat_natCast,hb,Option.bind_some,hw,hx]
  have same:¬lev f c d i→∀k:Int,(seenI f c d i k↔seenI f c d (i+1) k):=fun hl k=>by
   constructor
   ·rintro(h|⟨h1,h2⟩)
    ·exact .inl h
    ·exact .inr ⟨by omega,h2⟩
   ·rintro(h|⟨h1,h2⟩)
    ·exact .inl h
    ·refine .inr ⟨?_,h2⟩
     rcases Int.lt_or_le k i with h|h
     ·exact h
     ·exact absurd (show lev f c d i by rw[show(i:Int)=k by omega];exact h2) hl
  have nsame:(d<8→lev f c d i→∀k,¬edge f c i k)→∀k:Int,(nextI f c d i k↔nextI f c d (i+1) k):=fun hl k=>by
   constructor
   ·rintro⟨h0,a,h1,h2,h3⟩
    exact⟨h0,a,h1,by omega,h3⟩
   ·rintro⟨h0,a,h1,h2,h3,h4⟩
    refine⟨h0,a,h1, ?_,h3,h4⟩
    rcases Int.lt_or_le a i with h|h
    ·exact h
    ·have e:a=(i:Int):=by omega
     subst e
     exact absurd h4 (hl h0 h3 k)
  refine EvX.bif (fun h=> ?_) (fun h=> ?_)
  ·have hl:¬lev f c d i:=fun hl=>by rw[hb2.2 hl]at h;cases h
   exact EvX.const _ (GL.self (se1,nx1) rfl ⟨bits_iff v1 fun k _ _=>same hl k,bits_iff v2 fun k _ _=>nsame (fun _ h=>absurd h hl) k⟩)
  have hl:lev f c d i:=hb2.1 (by simpa using h)
  have seen':bitsP (se1.set i true) (seenI f c d (i+1)):=by
   have:=bits_set v1 (b:=(i:Int)) (by omega)
   rw[Int.toNat_natCast]at this
   refine bits_iff this fun k _ _=> ?_
   constructor
   ·rintro((h|⟨h1,h2⟩)|rfl)
    ·exact .inl h
    ·exact .inr ⟨by omega,h2⟩
    ·exact .inr ⟨by omega,hl⟩
   ·rintro(h|⟨h1,h2⟩)
    ·exact .inl (.inl h)
    ·by_cases e:k=i
     ·exact .inr e
     ·exact .inl (.inr ⟨by omega,h2⟩)
  refine EvX.bif (fun h1=> ?_) (fun h1=> ?_)
  ·have h1:(d:Int)=8:=by simpa using h1
   exact EvX.const _ (GL.self (se1.set i true,nx1) rfl ⟨seen',bits_iff v2 fun k _ _=>nsame (fun h=>by omega) k⟩)
  have hd8:d<8:=by
   have:¬(d:Int)=8:=by simpa using h1
   omega
  refine EvX.bind (isDir_ev (by omega) (by omega) hn) ?_
  refine EvX.bif (fun h2=> ?_) (fun h2=> ?_)
  ·have hne:n.1≠2:=by simpa using h2
   exact EvX.const _ (GL.self (se1.set i true,nx1) rfl ⟨seen',bits_iff v2 fun k _ _=>nsame (fun _ _ k ⟨n',e1,e2,_⟩=>by rw[Int.toNat_natCast,hn2]at e1;cases e1;exact hne e2) k⟩)
  have h2:n.1=2:=by simpa using h2
  refine EvX.bind (impl_may_ev hP hs hc (by omega) (by omega) hn (by rw[h2];decide) 1) ?_
  refine EvX.bif (fun h3=> ?_) (fun h3=> ?_)
  ·have h3:mayV f c i 1=false:=by simpa using h3
   exact EvX.const _ (GL.self (se1.set i true,nx1) rfl ⟨seen',bits_iff v2 fun k _ _=>nsame (fun _ _ k ⟨n',e1,e2,e3,_⟩=>by rw[h3]at e3;cases e3) k⟩)
  have h3:mayV f c i 1=true:=by simpa using h3
  refine EvX.bind (impl_entries_ev hP (by omega) hn) ?_
  refine EvX.congr (F':=fun k (p:(S×(D→Option (List Bool)))×(VD→Option (List Bool)))=>iter k (impl_FS_visible_l1 k p.2) (some f,(),(),(),(),(d:Int),(),(i:Int),(d:Int),lv,(i:Int),entsV f n,((entsV f n).length:Int),(0:Int),se1.set i true,nx1,lv,old,c)) (fun k p=>rfl) ?_
  refine impl_V1 hP hi hn2 (nextI f c d i) v2 (inv:=fun st i=>bitsP st.1 (seenI f c d i)∧bitsP st.2 (nextI f c d i)) fun nx' hb=>⟨seen',bits_iff hb fun k _ _=> ?_⟩
  constructor
  ·rintro(⟨h0,a,g1,g2,g3⟩|hk)
   ·exact⟨h0,a,g1,by omega,g3⟩
   ·exact⟨hd8,i,by omega,by omega,hl,n,hn,h2,h3,hk⟩
  ·rintro⟨h0,a,g1,g2,g3,g4⟩
   by_cases e:a=i
   ·subst e
    obtain⟨n',e1,_,_,e4⟩:=g4
    rw[hn]at e1;cases e1
    exact .inr e4
   ·exact .inl ⟨h0,a,g1,by omega,g3,g4⟩
 ·obtain⟨se1,nx1⟩:=st
  have hw:wrapK .i64 ((d:Int)+1)=((d+1:Nat):Int):=by rw[i64w (by omega) (by omega)];omega
  simp only[mk2,impl_FS_visible_l2,show ¬((20:Nat):Int)<20 by omega,decide_false,cond_false,hw]
  exact EvX.const _ (GE.up (S:=S×(D→Option (List Bool))) (fun p=>a0 p (some f,(),(),(),(),((d+1:Nat):Int),nx1,se1,old,c)) (hend nx1 se1 inv.2 inv.1))
theorem impl_visible_ev(hP:fsP f)(hs:fsSmall f)(hc:c.2.2.length<big):∃u,Ev (fun k=>c_impl_FS_visible k (some f,c)) u∧bitsP u (reach f c 8):=by
 refine Ev.of (Q:=fun u=>bitsP u (reach f c 8)) ?_ |>.imp fun n h=>⟨EvQ.run (fun k=>impl_FS_visible_run k _ _) h.1,h.2⟩
 simp only[impl_FS_visible,show(0:Int)≤0 by omega,show(0:Int)<20 by omega,if_true,show((List.replicate 20 false)[(0:Int).toNat]?)=some false from rfl,Option.bind_some]
 refine EvX.upto (L:=fun k _=>impl_FS_visible_l3 k) 9 (fun(st:List Bool×List Bool×List Bool) d=>(some f,(),(),(),(),((d:Nat):Int),st.1,st.2.1,st.2.2,c)) (fun st d=>(d<9→bitsP st.1 (lev f c d))∧bitsP st.2.1 (fun k=>∃j,j<d∧lev f c j k)) (fun st d hd inv=> ?_) (fun st inv=> ?_) ((List.replicate 20 false).set 0 true,List.replicate 20 false,List.replicate 20 false) 0 (Nat.zero_le _)
  ⟨fun _=>bits_iff (bits_set bits_none (b:=0) (by omega)) fun k _ _=>⟨fun h=>h.resolve_left id,.inr⟩,bits_iff bits_none fun k _ _=>⟨False.elim,fun⟨j,h,_⟩=>by omega⟩⟩
 ·obtain⟨lv,se,old⟩:=st
  obtain⟨v1,v2⟩:=inv
  simp only[impl_FS_visible_l3,show((d:Int)<9)by omega,decide_true,cond_true]
  refine impl_V2 (a0:=fun p=>p.2) hP hs hc hd (v1 hd) v2 fun nx' se' h1 h2=>GL.self (nx',se',old) rfl ⟨fun hd9=>bits_iff h1 fun k _ _=> ?_,bits_iff h2 fun k h0 h20=> ?_⟩
  ·constructor
   ·rintro⟨_,a,g1,g2,g3⟩;exact⟨a,g1,by omega,g3⟩
   ·rintro⟨a,g1,g2,g3⟩;exact⟨by omega,a,g1,by omega,g3⟩
  ·constructor
   ·rintro(⟨j,g1,g2⟩|⟨g1,g2⟩)
    ·exact⟨j,by omega,g2⟩
    ·exact⟨d,by omega,g2⟩
   ·rintro⟨j,g1,g2⟩
    by_cases e:j=d
    ·subst e;exact .inr ⟨by omega,g2⟩
    ·exact .inl ⟨j,by omega,g2⟩
 ·simp only[impl_FS_visible_l3,show ¬((9:Nat):Int)<9 by omega,decide_false,cond_false]
  refine EvX.const _ (GE.ret (GR.ret (bits_iff inv.2 fun k _ _=> ?_)))
  exact⟨fun⟨j,h1,h2⟩=>⟨j,by omega,h2⟩,fun⟨j,h1,h2⟩=>⟨j,by omega,h2⟩⟩
end
end Go.Proofs.YtbpfenmkhapeiaaGreat

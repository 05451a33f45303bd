/- The engine, part 4: a symbolic interpreter of the model's programs and the proof that its runs are what the functions do; conditions: those that its theorems name. -/
import Derived.Test.YtkmnlefjlhogaaaEng3
set_option linter.unusedVariables false
set_option linter.unusedSimpArgs false
namespace Go.Eng
section
section
variable {P:Program} {τ:Tabs} {E:Env} {call:CallT} {c:Ctx} {KS KS':Nat→Prop} {e:GEnv} {F:Fs} {ρ ρ' ρE:Roots} {w w':World}
def hdrOf:SG→Option (Option Addr×Nat×Nat)
 |⟨.list true _,gl⟩=>some (gl.ad,gl.rows.length,gl.cap)
 |_=>none
def ctxOf(w:World)(KS FB:Nat→Prop)(io:Option (Bool×Ty))(A:Addr)(gs:List SG):Ctx:=
 {w0:=w,K0:=KS,FB:=FB,FT:=fun b o=>isPtr io=true∧∃y,gs.head?=some y∧b=A.block∧A.off≤o∧o<A.off+y.t.sz,
  pin:=fun n=>if isPtr io=true∧n=1 then some A else none,
  hdr:=fun n=>if isPtr io=false∧io.isSome=true∧n=1 then gs.head?.bind hdrOf else none}
theorem ctxOf_ok{FB:Nat→Prop}{io:Option (Bool×Ty)}{A:Addr}{gs:List SG}(hT:τ.T w)(hB:∀b,τ.B b→b<w.heap.size∧¬FB b∧(isPtr io=true→A.block≠b)):CtxOK τ (ctxOf w KS FB io A gs):=by
 refine⟨fun w' hfr=>τ.stable w w' (fun b hb=> ?_) hT,fun b hb=>⟨(hB b hb).1,(hB b hb).2.1,fun n A' h=> ?_⟩,fun n A' h=> ?_,fun n h' h=> ?_⟩
 ·obtain⟨t1,t2,t3,t4⟩:=hfr.keep b (hB b hb).1 (hB b hb).2.1
  exact⟨t1,⟨t2,fun o=>t3 o fun hft=>(hB b hb).2.2 hft.1 (by obtain⟨_,y,_,h3,_⟩:=hft;exact h3.symm)⟩,t4⟩
 ·simp only[ctxOf]at h
  split at h
  ·rename_i h1;injection h with h;subst h;exact(hB b hb).2.2 h1.1
  ·cases h
 ·simp only[ctxOf]at h
  split at h
  ·rename_i h1;omega
  ·cases h
 ·simp only[ctxOf]at h
  split at h
  ·rename_i h1
   refine⟨by omega,fun A' hA'=> ?_⟩
   simp[ctxOf,h1.1]at hA'
  ·cases h
def env0:GEnv:=⟨fun _=>none,fun _=>default,fun _=>undef,fun _=>[]⟩
theorem Inv.start{l:List (Nat×SG)}{FB:Nat→Prop}{A:Addr}{gs:List SG}(hok:∀x∈l,okG w KS x.2.t x.2.g)(hn:(l.flatMap fun x=>x.2.fp).Nodup)(hf:∀b∈l.flatMap fun x=>x.2.fp,FB b∧b<w.heap.size∧¬KS b)
  (hlt:∀b,KS b→b<w.heap.size):Inv (ctxOf w KS FB none A gs) KS (newE env0 l) [] (newB l) w:=by
 have hg:∀n,getB (newB l) n=match findN l n with|some y=>some (.data false y.t (er y.t y.g) none)|none=>none:=fun n=>by
  have:=getB_newB (ρ:=[]) (n:=n) l
  rw[List.append_nil]at this
  exact this
 have hb:∀n,blk (newB l) (newE env0 l) n=match findN l n with|some y=>y.fp|none=>[]:=fun n=>by
  unfold blk
  rw[hg]
  cases hq:findN l n with
  |none=>rfl
  |some y=>simp[newE,hq,SG.fp]
 have hm:∀n b,b∈blk (newB l) (newE env0 l) n→b∈l.flatMap fun x=>x.2.fp:=fun n b h=>by
  rw[hb]at h
  cases hq:findN l n with
  |none=>rw[hq]at h;cases h
  |some y=>rw[hq]at h;exact List.mem_flatMap.2 ⟨_,findN_mem hq,h⟩
 refine⟨(fun p hp=>by cases hp), ?_, ?_, ?_,fun n b h=>(hf b (hm n b h)).2.2,hlt,fun n b h=>(hf b (hm n b h)).2.1,fun n b h=> .inr (.inl (hf b (hm n b h)).1),(fun n A h=>by simp[ctxOf,isPtr]at h),(fun n A h=>by simp[ctxOf]at h),fun b h=> .inl h, ?_⟩
 ·intro n
  unfold RootOK
  rw[hg]
  cases hq:findN l n with
  |none=>trivial
  |some y=>exact⟨none,y.g,by simp[newE,hq],rfl,hok _ (findN_mem hq),fun h=>(by cases h),fun _=>rfl,by simp[newE,hq]⟩
 ·intro n
  rw[hb]
  cases hq:findN l n with
  |none=>simp
  |some y=>exact nodup_of_mem hn (findN_mem hq)
 ·intro n m hnm b h1 h2
  rw[hb]at h1 h2
  cases hq:findN l n with
  |none=>rw[hq]at h1;cases h1
  |some y=>
   cases hq2:findN l m with
   |none=>rw[hq2]at h2;cases h2
   |some z=>
    rw[hq]at h1;rw[hq2]at h2
    exact findN_disj hn hnm hq hq2 b h1 h2
 ·exact⟨Grew.refl _,fun b _ _=>⟨rfl,fun _=>rfl,fun _ _=>rfl,.inl rfl⟩⟩
theorem Inv.startIO{l:List (Nat×SG)}{c:Ctx}(hw:c.w0=w)(hK0:c.K0=KS){y:SG}{ad:Option Addr}{re:Bool}(hre:re=true→∃A,ad=some A)(hre':re=false→ad=none)
  (hrow:∀A,ad=some A→RowAt w A (cl y.t y.g)∧A.block<w.heap.size∧¬KS A.block∧A.block∉y.fp++l.flatMap fun x=>x.2.fp)
  (hok:∀x∈l,okG w KS x.2.t x.2.g) (hoky:okG w KS y.t y.g) (hn:(y.fp++l.flatMap fun x=>x.2.fp).Nodup) (hf:∀b∈y.fp++l.flatMap fun x=>x.2.fp,c.FB b∧b<w.heap.size∧¬KS b)
  (hlt:∀b,KS b→b<w.heap.size) (hl1:∀x∈l,x.1≠1)
  (hpin:∀n A,c.pin n=some A→n=1∧ad=some A) (hFT:∀A,ad=some A→c.pin 1=some A∧∀o,A.off≤o→o<A.off+y.t.sz→c.FT A.block o)
  (hhdr:∀n h,c.hdr n=some h→n=1∧ad=none∧∃te,∃gl:OwnL te.G,y=⟨.list true te,gl⟩∧h=(gl.ad,gl.rows.length,gl.cap)):
  Inv c KS ((newE env0 l).put 1 ⟨ad,y.t,y.g⟩) [] ((1,some (.data re y.t (er y.t y.g) none))::newB l) w:=by
 have hl0:findN l 1=none:=by
  cases hq:findN l 1 with
  |none=>rfl
  |some z=>exact absurd rfl (hl1 _ (findN_mem hq))
 have hg1:getB ((1,some (.data re y.t (er y.t y.g) none))::newB l) 1=some (.data re y.t (er y.t y.g) none):=getB_cons_eq
 have hg:∀n,n≠1→getB ((1,some (.data re y.t (er y.t y.g) none))::newB l) n=match findN l n with|some y=>some (.data false y.t (er y.t y.g) none)|none=>none:=fun n hne=>by
  rw[getB_cons_ne hne]
  have:=getB_newB (ρ:=[]) (n:=n) l
  rw[List.append_nil]at this
  exact this
 have hb1:blk ((1,some (.data re y.t (er y.t y.g) none))::newB l) ((newE env0 l).put 1 ⟨ad,y.t,y.g⟩) 1=(ad.map (·.block)).toList++y.fp:=by
  simp[blk,hg1,GEnv.put,SG.fp]
 have hb:∀n,n≠1→blk ((1,some (.data re y.t (er y.t y.g) none))::newB l) ((newE env0 l).put 1 ⟨ad,y.t,y.g⟩) n=match findN l n with|some y=>y.fp|none=>[]:=fun n hne=>by
  unfold blk
  rw[hg n hne]
  cases hq:findN l n with
  |none=>rfl
  |some y=>simp[newE,GEnv.put,hq,SG.fp,hne]
 have hn':=List.nodup_append.1 hn
 have hadm:∀b∈(ad.map (·.block)).toList,∃A,ad=some A∧b=A.block:=fun b hb=>by
  cases hA:ad with
  |none=>rw[hA]at hb;simp at hb
  |some A=>rw[hA]at hb;simp at hb;exact⟨A,rfl,hb⟩
 have hm:∀n,n≠1→∀b,b∈blk ((1,some (.data re y.t (er y.t y.g) none))::newB l) ((newE env0 l).put 1 ⟨ad,y.t,y.g⟩) n→b∈l.flatMap fun x=>x.2.fp:=fun n hne b h=>by
  rw[hb n hne]at h
  cases hq:findN l n with
  |none=>rw[hq]at h;cases h
  |some y=>rw[hq]at h;exact List.mem_flatMap.2 ⟨_,findN_mem hq,h⟩
 have all:∀n b,b∈blk ((1,some (.data re y.t (er y.t y.g) none))::newB l) ((newE env0 l).put 1 ⟨ad,y.t,y.g⟩) n→b<w.heap.size∧¬KS b∧(c.FB b∨∃A,c.pin n=some A∧A.block=b):=fun n b h=>by
  by_cases hne:n=1
  ·subst hne
   rw[hb1]at h
   rcases List.mem_append.1 h with h|h
   ·obtain⟨A,hA,rfl⟩:=hadm b h
    obtain⟨k1,k2,k3,k4⟩:=hrow A hA
    exact⟨k2,k3,.inr ⟨A,(hFT A hA).1,rfl⟩⟩
   ·obtain⟨k1,k2,k3⟩:=hf b (by simp[h])
    exact⟨k2,k3,.inl k1⟩
  ·obtain⟨k1,k2,k3⟩:=hf b (List.mem_append.2 (.inr (hm n hne b h)))
   exact⟨k2,k3,.inl k1⟩
 have cross:∀n,n≠1→∀b,b∈blk ((1,some (.data re y.t (er y.t y.g) none))::newB l) ((newE env0 l).put 1 ⟨ad,y.t,y.g⟩) 1→b∈blk ((1,some (.data re y.t (er y.t y.g) none))::newB l) ((newE env0 l).put 1 ⟨ad,y.t,y.g⟩) n→False:=fun n hne b h1 h2=>by
  have h3:=hm n hne b h2
  rw[hb1]at h1
  rcases List.mem_append.1 h1 with h|h
  ·obtain⟨A,hA,rfl⟩:=hadm b h
   exact(hrow A hA).2.2.2 (List.mem_append.2 (.inr h3))
  ·exact hn'.2.2 b h b h3 rfl
 refine⟨(fun p hp=>by cases hp), ?_, ?_, ?_,fun n b h=>(all n b h).2.1,hlt,fun n b h=>(all n b h).1,fun n b h=> ?_, ?_, ?_,fun b h=> .inl (by rw[hK0];exact h), ?_⟩
 ·intro n
  unfold RootOK
  by_cases hne:n=1
  ·subst hne
   rw[hg1]
   refine⟨ad,y.g,by simp[GEnv.put],rfl,hoky,fun h=> ?_,hre',by simp[GEnv.put]⟩
   obtain⟨A,hA⟩:=hre h
   exact⟨A,hA,(hrow A hA).1⟩
  ·rw[hg n hne]
   cases hq:findN l n with
   |none=>trivial
   |some z=>exact⟨none,z.g,by simp[newE,GEnv.put,hq,hne],rfl,hok _ (findN_mem hq),fun h=>(by cases h),fun _=>rfl,by simp[newE,GEnv.put,hq,hne]⟩
 ·intro n
  by_cases hne:n=1
  ·subst hne
   rw[hb1]
   refine List.nodup_append.2 ⟨by cases ad<;>simp,hn'.1,fun a ha b hb e0=> ?_⟩
   obtain⟨A,hA,rfl⟩:=hadm a ha
   exact(hrow A hA).2.2.2 (List.mem_append.2 (.inl (e0▸hb)))
  ·rw[hb n hne]
   cases hq:findN l n with
   |none=>simp
   |some z=>exact nodup_of_mem hn'.2.1 (findN_mem hq)
 ·intro n m hnm b h1 h2
  by_cases hne:n=1
  ·subst hne;exact cross m (Ne.symm hnm) b h1 h2
  ·by_cases hme:m=1
   ·subst hme;exact cross n hne b h2 h1
   ·rw[hb n hne]at h1;rw[hb m hme]at h2
    cases hq:findN l n with
    |none=>rw[hq]at h1;cases h1
    |some y=>
     cases hq2:findN l m with
     |none=>rw[hq2]at h2;cases h2
     |some z=>
      rw[hq]at h1;rw[hq2]at h2
      exact findN_disj hn'.2.1 hnm hq hq2 b h1 h2
 ·rcases(all n b h).2.2 with h1|h1
  ·exact .inr (.inl h1)
  ·exact .inr (.inr h1)
 ·intro n A hp
  obtain⟨rfl,hA⟩:=hpin n A hp
  refine⟨fun q hq=>(by rw[hg1]at hq;cases hq),fun re' t' x' pd' hd=> ?_⟩
  rw[hg1]at hd;cases hd
  exact⟨⟨y.g,by simp[GEnv.put,hA]⟩,(hFT A hA).2⟩
 ·intro n hh hp re' t' x' pd' hd
  obtain⟨rfl,hA,te,gl,rfl,e2⟩:=hhdr n hh hp
  exact⟨te,gl,by simp[GEnv.put,hA],e2⟩
 ·rw[hw]
  exact⟨Grew.refl _,fun b _ _=>⟨rfl,fun _=>rfl,fun _ _=>rfl,.inl rfl⟩⟩
theorem Convs.snoc{v:Dyn}:∀(a l:List Dyn),Convs (a++[v]) l→∃l1 v',l=l1++[v']∧Convs a l1∧conv v.1 v'.1 v.2=some v'.2
 |[],[],h=>h.elim
 |[],[v'],h=>⟨[],v',rfl,trivial,h.1⟩
 |[],_::_::_,h=>h.2.elim
 |a::as,[],h=>h.elim
 |a::as,b::bs,h=>by
  obtain⟨l1,v',rfl,h2,h3⟩:=Convs.snoc as bs h.2
  exact⟨b::l1,v',rfl,⟨h.1,h2⟩,h3⟩
theorem ret_ok{s:Sig}(hpins:∀n A,c.pin n=some A→n=1∧s.io.isSome=true)(hC:CtxOK τ c)(h:Inv c KS e F ρ w){KS0:Nat→Prop}(hK0:c.K0=KS0)(hKS:∀b,KS0 b→KS b){xs:List RV}{vs:List Value}(hx:RVoks w KS ρ e xs vs){z:s.outT.D}(hr:(retS ρ s xs).run=some z):
  ∃(KSc:Nat→Prop) (os is:List SG),(∀b,KS0 b→KSc b)∧os.map SG.v=vs∧((os++is).map SG.d=unD s.outTs z∧is.length=if s.io.isSome then 1 else 0)∧(∀y∈os++is,okG w KSc y.t y.g)∧((os++is).flatMap SG.fp).Nodup∧
   (∀b∈(os++is).flatMap SG.fp,¬KSc b∧((c.w0.heap.size≤b∧b<w.heap.size)∨c.FB b))∧(∀b,KSc b→KS0 b∨(c.w0.heap.size≤b∧b<w.heap.size)∨c.FB b)∧
   ∀y∈is,(∀A,c.pin 1=some A→RowAt w A (cl y.t y.g))∧
    ∀hh,c.hdr 1=some hh→∃te,∃gl:OwnL te.G,y=⟨.list true te,gl⟩∧hh=(gl.ad,gl.rows.length,gl.cap):=by
 unfold retS at hr
 replace hr:=Cm.run_bind_some hr;obtain⟨⟨ds,rs,kl⟩,hgt,hr⟩:=hr
 replace hr:=Cm.run_bind_some hr;obtain⟨⟨ds2,used⟩,hgs,hr⟩:=hr
 have hl:=rvoks_len hx
 simp only at hgs hr
 obtain⟨KS1,e1,H1,k1,T1,hTK⟩:=gatherT_ok hC (N:=32768) (by omega) hl (s.outs.map .val) 0 xs vs (by simp) (by simp) hl hgt (Taken.start (h.ops hx))
 simp only[List.append_nil]at T1
 simp only at T1 hTK
 have htt:(s.outs.map Prm.val).map Prm.t=s.outs:=by rw[List.map_map];exact List.map_id' s.outs
 -- the in-out content
 have hio:∃(cds:List Dyn) (is:List SG),Convs ds2 cds∧cds.map (·.1)=s.outs∧unD s.outTs z=cds++is.map SG.d∧is.length=(if s.io.isSome then 1 else 0)∧
   ∀y∈is,(∀n∈used,n≠1)∧∃re pd ad,getB (hid H1++(rs++purgesB kl ρ)) 1=some (.data re y.t (er y.t y.g) pd)∧e1.gr 1=some ⟨ad,y.t,y.g⟩:=by
  cases hq:s.io with
  |none=>
   rw[hq]at hr
   obtain⟨hcv,hty⟩:=packD_ok _ _ _ hr
   have hoT:s.outTs=s.outs:=by simp[Sig.outTs,Sig.ioT,hq]
   exact⟨unD s.outTs z,[],hcv,hty.trans hoT,by simp,rfl,by simp⟩
  |some pt=>
   obtain⟨ptr,t⟩:=pt
   rw[hq]at hr
   simp only at hr
   split at hr
   ·rename_i re t' x pd hb
    replace hr:=Cm.run_chk hr;obtain⟨hck,hr⟩:=hr
    simp only[Bool.and_eq_true,Bool.not_eq_true']at hck
    obtain⟨hcv,hty⟩:=packD_ok _ _ _ hr
    have hoT:s.outTs=s.outs++[t]:=by simp[Sig.outTs,Sig.ioT,hq]
    have hty:=hty.trans hoT
    have ht':=Ty.beq_eq hck.1
    subst ht'
    have hb2:=T1.sub _ _ _ _ _ hb
    obtain⟨ad,g,q1,q2,q3,q4,q5,q6⟩:=T1.inv.root hb2
    subst q2
    obtain⟨l1,v',e0,hc1,hc2⟩:=Convs.snoc _ _ hcv
    rw[e0,List.map_append]at hty
    have h9:=List.append_inj' hty rfl
    have h10:v'.1=t':=by have:=h9.2;simpa using this
    obtain⟨vt,vx⟩:=v'
    simp only at h10
    subst h10
    have h11:vx=er vt g:=conv_self hc2
    refine⟨l1,[⟨vt,g⟩],hc1,h9.1,by rw[e0,h11];rfl,rfl,fun y hy=> ?_⟩
    simp only[List.mem_singleton]at hy
    subst hy
    refine⟨fun n hn e0=> ?_,re,pd,ad,hb2,q1⟩
    have:=List.any_eq_false.1 hck.2 n hn
    rw[e0]at this
    simp at this
   ·cases hr
 obtain⟨cds,is,hcv,hty,hz,hilen,his⟩:=hio
 obtain⟨dr,fps,p1,p2,p3⟩:=gatherS_ok hl T1 hTK 0 xs (by simp) (by simp) (fun y hy=>(T1.each y hy).1) hgs hcv (by rw[htt];exact hty)
 simp only at p2 p3
 have hnd3:=List.nodup_append.1 (nodup_perm p1 T1.nodup)
 have hmem:∀b,(b∈fps∨b∈dr)→∃x∈H1,b∈fp x.t x.g:=fun b hb=>by
  have:b∈H1.flatMap fun y=>fp y.t y.g:=p1.mem_iff.2 (by simpa using hb)
  exact List.mem_flatMap.1 this
 generalize hKSc:(fun b=>KS1 b∨b∈dr∨∃n∈used,b∈blk (hid H1++(rs++purgesB kl ρ)) e1 n)=KSc
 have hKSc':∀b,KSc b↔KS1 b∨b∈dr∨∃n∈used,b∈blk (hid H1++(rs++purgesB kl ρ)) e1 n:=fun b=>by rw[←hKSc]
 obtain⟨gs,g1,g2,g3,g4⟩:=p3 KSc (fun b hb=>(hKSc' b).2 (.inl hb)) (fun b hb=>(hKSc' b).2 (.inr (.inl hb))) (fun n hn b hb=>(hKSc' b).2 (.inr (.inr ⟨n,hn,hb⟩)))
 have hHm:∀b,(b∈fps∨b∈dr)→(c.w0.heap.size≤b∧b<w.heap.size)∨c.FB b:=fun b hb=>by
  obtain⟨x,hx,hbx⟩:=hmem b hb
  have h32:=(T1.fr x hx).2
  rw[←T1.hblk x hx]at hbx
  rcases T1.inv.may _ b hbx with h1|h1|⟨A,h1,_⟩
  ·exact .inl ⟨h1,T1.inv.blt _ b hbx⟩
  ·exact .inr h1
  ·have:=hC.pin _ _ h1;omega
 have hone:∀x∈H1,x.n≠1:=fun x hx e0=>by have:=(T1.fr x hx).2;omega
 have isB:∀y∈is,okG w KS1 y.t y.g∧y.fp.Nodup∧(∀b∈y.fp,b∈blk (hid H1++(rs++purgesB kl ρ)) e1 1∧¬KSc b∧b∉fps∧((c.w0.heap.size≤b∧b<w.heap.size)∨c.FB b))∧
   (∀A,c.pin 1=some A→RowAt w A (cl y.t y.g))∧∀hh,c.hdr 1=some hh→∃te,∃gl:OwnL te.G,y=⟨.list true te,gl⟩∧hh=(gl.ad,gl.rows.length,gl.cap):=fun y hy=>by
  obtain⟨hu1,re,pd,ad,hb,hgr⟩:=his y hy
  obtain⟨ad',g',q1,q2,q3,q4,q5,q6⟩:=T1.inv.root hb
  rw[hgr]at q1
  injection q1 with q1
  obtain⟨yt,yg⟩:=y
  simp only at hb hgr q1 q2 q3 q4 q6
  injection q1 with j1 _ j3
  subst j1
  cases j3
  have nd:=T1.inv.nd 1
  rw[q6]at nd
  simp only[List.nodup_append]at nd
  obtain⟨⟨nd1,nd2,nd3⟩,_,_⟩:=nd
  have bin:∀b∈fp yt yg,b∈blk (hid H1++(rs++purgesB kl ρ)) e1 1:=fun b hb=>by rw[q6];simp[hb]
  have hpA:∀A,c.pin 1=some A→ad=some A:=fun A hA=>by
   obtain⟨_,h2⟩:=T1.inv.pin 1 A hA
   obtain⟨⟨g2,h3⟩,_⟩:=h2 _ _ _ _ hb
   rw[hgr]at h3
   injection h3 with h3
   exact congrArg GRoot.ad h3
  refine⟨q3,nd2,fun b hb1=>⟨bin b hb1,fun hk=> ?_,fun hf=> ?_, ?_⟩,fun A hA=>(q4 A (hpA A hA)).2,fun hh hhd=> ?_⟩
  ·rcases(hKSc' b).1 hk with h1|h1|⟨n,hn,h1⟩
   ·exact T1.inv.ks _ b (bin b hb1) h1
   ·obtain⟨x,hx,hbx⟩:=hmem b (.inr h1)
    rw[←T1.hblk x hx]at hbx
    exact T1.inv.dj _ _ (hone x hx) b hbx (bin b hb1)
   ·exact T1.inv.dj n 1 (hu1 n hn) b h1 (bin b hb1)
  ·obtain⟨x,hx,hbx⟩:=hmem b (.inl hf)
   rw[←T1.hblk x hx]at hbx
   exact T1.inv.dj _ _ (hone x hx) b hbx (bin b hb1)
  ·rcases T1.inv.may 1 b (bin b hb1)with h1|h1|⟨A,h1,h2⟩
   ·exact .inl ⟨h1,T1.inv.blt _ b (bin b hb1)⟩
   ·exact .inr h1
   ·exact absurd h2 fun e0=>nd3 A.block (by simp[hpA A h1]) b hb1 e0
  ·obtain⟨te,gl,e2,e3⟩:=T1.inv.hdr 1 hh hhd _ _ _ _ hb
   rw[hgr]at e2
   injection e2 with e2
   injection e2 with j1 j2 j3
   subst j2
   cases j3
   exact⟨te,_,rfl,e3⟩
 have hdj1:(gs.flatMap SG.fp++is.flatMap SG.fp).Nodup:=by
  refine List.nodup_append.2 ⟨by rw[g3];exact hnd3.1, ?_,fun a ha b hb e0=> ?_⟩
  ·have hle:is.length≤1:=by rw[hilen];split<;>omega
   match is,hle,isB with
   |[],_,_=>simp
   |[y],_,isB=>simpa using(isB y (by simp)).2.1
   |_::_::_,hh,_=>simp at hh
  ·rw[g3]at ha
   obtain⟨y,hy,hby⟩:=List.mem_flatMap.1 hb
   exact((isB y hy).2.2.1 b hby).2.2.1 (e0▸ha)
 refine⟨KSc,gs,is,fun b hb=>(hKSc' b).2 (.inl (k1 b (hKS b hb))),g2,⟨by rw[List.map_append,g1,hz],hilen⟩,fun y hy=> ?_,by rw[List.flatMap_append];exact hdj1,fun b hb=> ?_,fun b hb=> ?_,fun y hy=>(isB y hy).2.2.2⟩
 ·rcases List.mem_append.1 hy with hy|hy
  ·exact g4 y hy
  ·exact okG_KS (fun b hb=>(hKSc' b).2 (.inl hb)) _ _ (isB y hy).1
 ·rw[List.flatMap_append,g3]at hb
  rcases List.mem_append.1 hb with hb|hb
  ·refine⟨fun hk=> ?_,hHm b (.inl hb)⟩
   obtain⟨x,hx,hbx⟩:=hmem b (.inl hb)
   rcases(hKSc' b).1 hk with h1|h1|⟨n,hn,h1⟩
   ·exact((T1.each x hx).2 b hbx).2 h1
   ·exact hnd3.2.2 b hb b h1 rfl
   ·obtain⟨re,t,y,pd,hn1⟩:=p2 n hn
    have hne:x.n≠n:=fun e=>by
     rw[←e]at hn1
     rw[getB_append rs ρ x.n fun z hz e2=>(T1.noal z hz).2 (by rw[e2];exact(T1.fr x hx).1),(T1.fr x hx).1]at hn1
     cases hn1
    rw[←T1.hblk x hx]at hbx
    exact T1.inv.dj _ _ hne b hbx h1
  ·obtain⟨y,hy,hby⟩:=List.mem_flatMap.1 hb
   have:=(isB y hy).2.2.1 b hby
   exact⟨this.2.1,this.2.2.2⟩
 ·rcases(hKSc' b).1 hb with h1|h1|⟨n,hn,h1⟩
  ·rcases T1.inv.kso b h1 with h2|h2|h2
   ·exact .inl (by rw[←hK0];exact h2)
   ·exact .inr (.inl ⟨h2,T1.inv.lt b h1⟩)
   ·exact .inr (.inr h2)
  ·rcases hHm b (.inr h1)with h2|h2
   ·exact .inr (.inl h2)
   ·exact .inr (.inr h2)
  ·rcases T1.inv.may n b h1 with h2|h2|⟨A,h2,h3⟩
   ·exact .inr (.inl ⟨h2,T1.inv.blt n b h1⟩)
   ·exact .inr (.inr h2)
   ·obtain⟨hn1,hsome⟩:=hpins n A h2
    rw[hsome]at hilen
    match is,hilen,his with
    |[y],_,his=>exact absurd hn1 ((his y (by simp)).1 n hn)
def ExtOK(P:Program)(E:Env)(τ:Tabs):Prop:=∀f s,E.body f=none→FnOK P τ f s (E.ext f s)
section
variable {call:CallT}
theorem body_ok(hE:EnvOK P E)(hN:FnsOK P E)(hcall:CallOK P E τ call){H:Nat→Hints}{k m:Nat}{f:Nat}{fn:Func}{code:Code}(hfn:E.body f=some fn)(hcode:fn.body=some code)
  {s:Sig} {io:Option (Bool×Ty)} (hioe:s.io=io) {FB:Nat→Prop} {A:Addr} {gs0:List SG} (h0:Inv (ctxOf w KS FB io A gs0) KS e [] ρ w) {xs:List RV} {vs:List Value} (hrv:RVoks w KS ρ e xs vs)
  {z:s.outT.D} (hrun:den E call (inlN E call k H m) k (H f) code (setParams xs 0) [] ρ (fun e g _ ρ=>match e with
   | .ret=>((resC E g ρ fn.results.toList).bind fun xs=>retS ρ s xs).runK some
   | .normal=>((resC E g ρ fn.results.toList).bind fun xs=>retS ρ s xs).runK some
   |_=>none)=some z) (hFB:∀b,FB b↔b∈gs0.flatMap SG.fp) (hT:τ.T w) (hB:∀b,τ.B b→b<w.heap.size∧¬FB b∧(isPtr io=true→A.block≠b))
  (hAF:isPtr io=true→¬FB A.block∧A.block<w.heap.size∧∃y,gs0.head?=some y∧io.isSome=true∧io.map (·.2)=some y.t)
  (hios:isPtr io=false→io.isSome=true→∃te,∃gl:OwnL te.G,gs0.head?=some ⟨.list true te,gl⟩):
  Does P (callFunc f vs.toArray) w (FnPost s.io A w KS gs0 (unD s.outTs z)):=by
 refine does_call hE hN hfn hcode ?_
 have hI:=h0.params hrv (fn.ntmps-vs.toArray.size)
 have hsz:fn.ntmps≤(vs.toArray++Array.replicate (fn.ntmps-vs.toArray.size) undef).size:=by simp;omega
 refine den_ok (sk:=[]) (as:=[]) (reg_ok hE hcall (inl_ok hE hN hcall k H m)) (ctxOf_ok hT hB) k (H f) code hrun hI rfl (codeOK_mono hsz code (hN.code f fn code hfn hcode)) ?_
 intro ex g' sk' ρ' a' w' KS' e' h1 h2 h3 h4 h5 h6
 have fin:(((resC E g' ρ' fn.results.toList).bind fun xs=>retS ρ' s xs).runK some)=some z→
   a'.defers=[]∧∃v,(Go.results fn a'.tmps).run P w'= .ok v w'∧∃v',Ending.returned v= .returned v'∧FnPost s.io A w KS gs0 (unD s.outTs z) v' w':=by
  intro hf
  rw[Cm.runK_eq]at hf
  cases hq:((resC E g' ρ' fn.results.toList).bind fun xs=>retS ρ' s xs).run with
  |none=>rw[hq]at hf;cases hf
  |some z'=>
   rw[hq]at hf
   have hzz:z'=z:=by injection hf
   subst hzz
   replace hq:=Cm.run_bind_some hq;obtain⟨xs,hxs,hq⟩:=hq
   obtain⟨vs,r1,r2⟩:=results_ok hE h4 hxs
   have hpn:∀n A',(ctxOf w KS FB io A gs0).pin n=some A'→n=1∧A'=A∧isPtr io=true:=fun n A' h=>by
    simp only[ctxOf]at h
    split at h
    ·rename_i h1;injection h with h;exact⟨h1.2,h.symm,h1.1⟩
    ·cases h
   obtain⟨KSc,os,is,q1,q2,⟨q3,q3'⟩,q4,q5,q6,q7,q8⟩:=ret_ok (s:=s) (fun n A' h=>⟨(hpn n A' h).1,by
    have:=(hpn n A' h).2.2
    rw[hioe]
    cases hio2:io with
    |none=>rw[hio2]at this;cases this
    |some _=>rfl⟩) (ctxOf_ok hT hB) h4 rfl h1 r2 hq
   subst q2
   refine⟨h6,_,r1,_,rfl,KSc,os,is,q1,rfl,⟨q3,q3'⟩,q4,q5,fun b hb=>⟨(q6 b hb).1,(q6 b hb).2.imp id (hFB b).1⟩,fun b hb=>(q7 b hb).imp id fun h=>h.imp id (hFB b).1,h4.fr.size,fun b hb hnb hA=> ?_,fun hp y hy=> ?_,fun hp y hy x hx=> ?_⟩
   ·obtain⟨t1,t2,t3,t4⟩:=h4.fr.keep b hb (fun h=>hnb ((hFB b).1 h))
    refine⟨t1,⟨t2,fun o=>t3 o fun hft=> ?_⟩,t4⟩
    obtain⟨j1,y,j2,j3,_⟩:=hft
    exact hA (by rw[hioe];exact j1) j3.symm
   ·rw[hioe]at hp
    obtain⟨j1,j2,y0,j3,j4,j5⟩:=hAF hp
    have hyt:y.t=y0.t:=by
     have hio1:∃b t,io=some (b,t):=by
      cases hio2:io with
      |none=>rw[hio2]at j4;cases j4
      |some x=>exact⟨x.1,x.2,rfl⟩
     obtain⟨pb,t,hio2⟩:=hio1
     rw[hio2]at j5
     simp at j5
     rw[hioe,hio2]at q3'
     simp at q3'
     match is,q3',hy with
     |[y'],_,hy=>
      simp at hy;subst hy
      have:=congrArg (List.map (·.1)) q3
      have h9:=this.trans (unD_ty s.outTs z')
      have hoT:s.outTs=s.outs++[t]:=by simp[Sig.outTs,Sig.ioT,hioe,hio2]
      rw[hoT,List.map_append,List.map_append]at h9
      have h10:=(List.append_inj' h9 rfl).2
      simp at h10
      exact h10.trans j5
    have hrow:=(q8 y hy).1 A (by simp[ctxOf,hp])
    obtain⟨t1,t2,t3,t4⟩:=h4.fr.keep A.block j2 j1
    have hsz:y.t.sz=y0.t.sz:=by rw[hyt]
    exact⟨t1,⟨t2,fun o ho=>t3 o fun hft=>by
     obtain⟨_,y1,k2,_,k4,k5⟩:=hft
     rw[j3]at k2;injection k2 with k2;subst k2
     rw[hsz]at ho
     exact ho ⟨k4,k5⟩,hrow.2.1⟩,t4⟩
   ·rw[hioe]at hp
    cases hio2:io with
    |none=>
     rw[hioe,hio2]at q3'
     have:is=[]:=List.eq_nil_of_length_eq_zero q3'
     rw[this]at hy;cases hy
    |some pt=>
     obtain⟨te,gl,j1⟩:=hios hp (by rw[hio2];rfl)
     rw[j1]at hx
     have hx':(⟨.list true te,gl⟩:SG)=x:=by simpa using hx
     subst hx'
     obtain⟨te2,gl2,k1,k2⟩:=(q8 y hy).2 (gl.ad,gl.rows.length,gl.cap) (by rw[hio2]at hp;simp[ctxOf,hp,hio2,j1,hdrOf])
     subst k1
     injection k2 with k2 k3
     injection k3 with k3 k4
     simp only[cl,k2,k3,k4]
 cases ex with
 |ret=>exact fin h3
 |normal=>exact fin h3
 |exit j=>cases h3
end
theorem all_ty{gs:List SG}{ts:List Ty}(h1:(gs.map SG.d).map (·.1)=ts)(h2:ts.all (fun t=>t.shared|| !t.isList||isOwnL t)=true):(gs.map SG.d).all (fun y=>y.1.shared|| !y.1.isList||isOwnL y.1)=true:=by
 rw[←h1]at h2
 rw[List.all_map]at h2
 exact h2
theorem runF_ok(hE:EnvOK P E)(hN:FnsOK P E)(hX:ExtOK P E τ)(H:Nat→Hints):∀k f s,FnOK P τ f s (runF E H k f s)
 |0,f,s=>fun _ _ hz=>by cases hz
 |k+1,f,s=>by
  rename_i w KS gs A x z
  intro hval hgs hrun hok hnd hfp hlt hAp hT hTB
  have ih:∀f s,FnOK P τ f s (runF E H k f s):=fun f s=> @runF_ok hE hN hX H k f s
  simp only[runF]at hrun
  split at hrun
  ·rename_i fn hfn
   split at hrun
   ·rename_i code hcode
    split at hrun
    ·rename_i hty
     simp only[Sig.okIns,Bool.and_eq_true]at hty
     rw[hgs]at hrun
     have hcall:CallOK P E τ (runF E H k):=callOK fun f s _=>ih f s
     have htys:(gs.map SG.d).map (·.1)=s.inTs:=by rw[←hgs];exact unD_ty _ _
     have newRv:∀(l:List SG) (c:GEnv),(∀y∈l,okG w KS y.t y.g)→True:=fun _ _ _=>trivial
     cases hio:s.io with
     |none=>
      have hi0:s.inTs=s.ins.map Prm.t:=by simp[Sig.inTs,Sig.ioT,hio]
      have hse:startE s (gs.map SG.d)=outs 32768 (gs.map SG.d):=by simp only[startE,hio]
      rw[hse]at hrun
      have hI0:Inv (ctxOf w KS (fun b=>b∈gs.flatMap SG.fp) none A gs) KS (newE env0 (newsOf 32768 gs)) [] (newB (newsOf 32768 gs)) w:=Inv.start (fun x hx=>hok x.2 (newsOf_lt hx).2.2.1) (by rw[newsOf_fp];exact hnd) (fun b hb=>by rw[newsOf_fp]at hb;exact⟨hb,hfp b hb⟩) hlt
      have hty2:=all_ty htys (by rw[hi0,List.all_map];exact hty.1)
      have hrv:RVoks w KS (newB (newsOf 32768 gs)) (newE env0 (newsOf 32768 gs)) (outs 32768 (gs.map SG.d)).1 (gs.map SG.v):=outs_rv gs 32768 (fun x hx=>by
       have h1:=newsOf_find (show(x.1,x.2)∈newsOf 32768 gs from hx)
       refine⟨h1, ?_⟩
       have h2:=getB_newB (ρ:=[]) (n:=x.1) (newsOf 32768 gs)
       rw[List.append_nil,h1]at h2
       exact h2) hty2 hok
      rw[outs_newB]at hrun
      have:=body_ok hE hN hcall hfn hcode (s:=s) hio hI0 hrv hrun (fun b=>Iff.rfl) hT (fun b hb=>⟨(hTB b hb).1,(hTB b hb).2.1,fun h=>by cases h⟩) (fun h=>by cases h) (fun _ h=>by cases h)
      rw[argVs_none (by rfl)]
      rw[hio]at this
      exact this
     |some pt=>
      obtain⟨ptr,t⟩:=pt
      have hi0:s.inTs=t::s.ins.map Prm.t:=by simp[Sig.inTs,Sig.ioT,hio]
      rw[hi0]at htys
      match gs,htys,hgs,hrun,hok,hnd,hfp,hAp,hTB with
      |y::ys,htys,hgs,hrun,hok,hnd,hfp,hAp,hTB=>
      simp only[List.map_cons,List.cons.injEq]at htys
      have hyt:y.t=t:=htys.1
      have hse:startE s ((y::ys).map SG.d)=((if ptr then .rf ⟨1,[]⟩else .wl ⟨1,[]⟩)::(outs 32768 (ys.map SG.d)).1,(1,some (.data ptr y.t (er y.t y.g) none))::(outs 32768 (ys.map SG.d)).2):=by simp only[startE,hio,List.map_cons];rfl
      rw[hse,outs_newB]at hrun
      have hty2:=all_ty htys.2 (by rw[List.all_map];exact hty.1)
      have hpt:isPtr (some (ptr,t))=ptr:=by cases ptr<;>rfl
      rw[hio,hpt]at hAp
      have hpo:ptr=false→∃te,∃gl:OwnL te.G,y=⟨.list true te,gl⟩:=fun hp=>by
       have:=hty.2
       rw[hio]at this
       simp only[hp,Bool.false_or]at this
       obtain⟨yt,yg⟩:=y
       simp only at hyt
       subst hyt
       match yt,this with
       | .list true te,_=>exact⟨te,yg,rfl⟩
      have h1n:∀x∈newsOf 32768 ys,x.1≠1:=fun x hx e0=>by have:=(newsOf_lt (show(x.1,x.2)∈newsOf 32768 ys from hx)).1;omega
      have hfl:(y::ys).flatMap SG.fp=y.fp++ys.flatMap SG.fp:=by simp
      have hI0:Inv (ctxOf w KS (fun b=>b∈(y::ys).flatMap SG.fp) (some (ptr,t)) A (y::ys)) KS ((newE env0 (newsOf 32768 ys)).put 1 ⟨if ptr then some A else none,y.t,y.g⟩) [] ((1,some (.data ptr y.t (er y.t y.g) none))::newB (newsOf 32768 ys)) w:=by
       refine Inv.startIO rfl rfl (fun h=>⟨A,by rw[h];rfl⟩) (fun h=>by rw[h];rfl) (fun A' hA'=> ?_) (fun x hx=>hok x.2 (List.mem_cons_of_mem _ (newsOf_lt hx).2.2.1)) (hok y (by simp)) (by rw[newsOf_fp,←hfl];exact hnd) (fun b hb=>by rw[newsOf_fp,←hfl]at hb;exact⟨hb,hfp b hb⟩) hlt h1n (fun n A' h=> ?_) (fun A' hA'=> ?_) (fun n hh h=> ?_)
       ·cases hp:ptr with
        |false=>rw[hp]at hA';cases hA'
        |true=>
         rw[hp]at hA'
         simp at hA';subst hA'
         obtain⟨k1,k2,k3,k4⟩:=hAp hp y (by simp)
         rw[newsOf_fp,←hfl]
         exact⟨k4,k1,k2,k3⟩
       ·simp only[ctxOf,hpt]at h
        split at h
        ·rename_i h1;injection h with h;subst h;exact⟨h1.2,by rw[h1.1];rfl⟩
        ·cases h
       ·cases hp:ptr with
        |false=>rw[hp]at hA';cases hA'
        |true=>
         rw[hp]at hA'
         simp at hA';subst hA'
         exact⟨by simp[ctxOf,isPtr],fun o h1 h2=>⟨rfl,y,rfl,rfl,h1,h2⟩⟩
       ·simp only[ctxOf,hpt]at h
        split at h
        ·rename_i h1
         obtain⟨te,gl,rfl⟩:=hpo h1.1
         simp[hdrOf]at h
         exact⟨h1.2.2,by rw[h1.1];rfl,te,gl,rfl,h.symm⟩
        ·cases h
      have hrv:RVoks w KS ((1,some (.data ptr y.t (er y.t y.g) none))::newB (newsOf 32768 ys)) ((newE env0 (newsOf 32768 ys)).put 1 ⟨if ptr then some A else none,y.t,y.g⟩) ((if ptr then .rf ⟨1,[]⟩else .wl ⟨1,[]⟩)::(outs 32768 (ys.map SG.d)).1) (argVs (some (ptr,t)) A (y::ys)):=by
       refine⟨_,_,rfl, ?_,outs_rv' ys 32768 (fun x hx=> ?_) hty2 fun z hz=>hok z (by simp[hz])⟩
       ·rw[hpt]
        cases hp:ptr with
        |true=>
         refine⟨⟨y.t,y.g,some A⟩,A, ?_,rfl,rfl⟩
         simp only[if_true,spotOf,getB_cons_eq,spotD,GEnv.put,Option.bind_some,loc_nil]
        |false=>
         obtain⟨te,gl,rfl⟩:=hpo hp
         refine⟨⟨_,_,_,_,getB_cons_eq⟩,te,gl,none, ?_,rfl⟩
         simp[spotD,GEnv.put,loc_nil]
       ·have h1:=newsOf_find (show(x.1,x.2)∈newsOf 32768 ys from hx)
        have hne:=h1n x hx
        refine⟨by simp[GEnv.put,newE,h1,hne], ?_⟩
        rw[getB_cons_ne hne]
        have h2:=getB_newB (ρ:=[]) (n:=x.1) (newsOf 32768 ys)
        rw[List.append_nil,h1]at h2
        exact h2
      have:=body_ok hE hN hcall hfn hcode (s:=s) hio hI0 hrv hrun (fun b=>Iff.rfl) hT (fun b hb=>⟨(hTB b hb).1,(hTB b hb).2.1,fun h=>(hTB b hb).2.2 (by rw[hio];exact h)⟩) (fun hp=>by
       rw[hpt]at hp
       obtain⟨k1,k2,k3,k4⟩:=hAp hp y (by simp)
       exact⟨k3,k1,y,rfl,rfl,by simp[hyt]⟩) (fun hp _=>by
       rw[hpt]at hp
       obtain⟨te,gl,h9⟩:=hpo hp
       exact⟨te,gl,by rw[h9];rfl⟩)
      rw[hio]at this
      exact this
    ·cases hrun
   ·cases hrun
  ·rename_i hb
   exact hX f s hb hval hgs hrun hok hnd hfp hlt hAp hT hTB
end
end
section
def cellIs:Value→Value→Bool
 | .int k n,.int k' m=>kindB k k'&&decide (n=m)
 | .bool a,.bool b=>a==b
 | .string s,.string t=>decide (s.data.toList.length=0)&&decide (t.data.toList.length=0)
 | .slice none 0 0,.slice none 0 0=>true
 | .pointer none,.pointer none=>true
 |_,_=>false
theorem bytes_nil{s:ByteArray}(h:s.data.toList.length=0):s=ByteArray.empty:=by
 obtain⟨⟨l⟩⟩:=s
 simp only at h
 have:l=[]:=List.eq_nil_of_length_eq_zero h
 subst this
 rfl
theorem cellIs_ok:∀{v u:Value},cellIs v u=true→v=u:=by
 intro v u h
 unfold cellIs at h
 split at h
 ·simp only[Bool.and_eq_true,decide_eq_true_eq]at h
  rw[kindB_eq h.1,h.2]
 ·rw[eq_of_beq h]
 ·simp only[Bool.and_eq_true,decide_eq_true_eq]at h
  rw[bytes_nil h.1,bytes_nil h.2]
 ·rfl
 ·rfl
 ·cases h
def cellsIs:List Value→List Value→Bool
 |[],[]=>true
 |v::l,u::m=>cellIs v u&&cellsIs l m
 |_,_=>false
theorem cellsIs_ok:∀{l m:List Value},cellsIs l m=true→l=m
 |[],[],_=>rfl
 |v::l,u::m,h=>by
  simp only[cellsIs,Bool.and_eq_true]at h
  rw[cellIs_ok h.1,cellsIs_ok h.2]
 |[],_::_,h=>by cases h
 |_::_,[],h=>by cases h
def zeroChk(t:Ty)(z:Value):Bool:=
 bif t.agg then(match z with| .agg a=>cellsIs a.toList (zeros t)|_=>false)
 else cellsIs [z] (zeros t)
theorem zeroChk_ok{t:Ty}{z:Value}(h:zeroChk t z=true):z=val t (zeros t):=by
 unfold zeroChk at h
 cases ha:t.agg with
 |true=>
  rw[ha]at h
  simp only[cond_true]at h
  split at h
  ·rename_i a
   rw[val_agg ha,←cellsIs_ok h]
  ·cases h
 |false=>
  rw[ha]at h
  simp only[cond_false]at h
  rw[←cellsIs_ok h]
  cases t<;>first|(cases ha;done)|rfl
def factChk(P:Program)(tid:TypeId)(t:Ty):Bool:=
 Nat.blt 0 t.sz&&(match P.info? tid with
  |some i=>Nat.beq i.size t.sz&&(match i.zero with|some z=>zeroChk t z|none=>false)
  |none=>false)
theorem factChk_ok{P:Program}{tid:TypeId}{t:Ty}{d:TypeDesc}(hu:P.underlying tid=some d)(h:factChk P tid t=true):TyF P tid d t:=by
 unfold factChk at h
 simp only[Bool.and_eq_true]at h
 obtain⟨h1,h2⟩:=h
 split at h2
 ·rename_i i hi
  simp only[Bool.and_eq_true]at h2
  obtain⟨h2,h3⟩:=h2
  split at h3
  ·rename_i z hz
   exact⟨hu,Nat.le_of_ble_eq_true h1,i,z,hi,Nat.eq_of_beq_eq_true h2,hz,zeroChk_ok h3⟩
  ·cases h3
 ·cases h2
def fldChk(f:TypeId→Ty→Bool):List Field→Nat→Ty→Bool
 |[],_,_=>false
 |[fd],off,t=>Nat.beq fd.offset off&&f fd.type t
 |fd::f2::fs,off,t=>match t with
  | .pair a b=>Nat.beq fd.offset off&&(f fd.type a&&fldChk f (f2::fs) (off+a.sz) b)
  |_=>false
def tyChk(P:Program):Nat→TypeId→Ty→Bool
 |0,_,_=>false
 |n+1,tid,t=>factChk P tid t&&match P.underlying tid,t with
  |some (.int k),.int k'=>kindB k k'
  |some (.int .i64),.ti=>true
  |some .bool,.bool=>true
  |some .string,.str=>true
  |some (.slice e),.list _ u=>tyChk P n e u
  |some (.pointer e),.ptr u=>tyChk P n e u
  |some (.array m e),.arr m' u=>Nat.beq m m'&&tyChk P n e u
  |some (.struct fs),.pair a b=>fldChk (tyChk P n) fs.toList 0 (.pair a b)
  |_,_=>false
theorem fldChk_ok{P:Program}{f:TypeId→Ty→Bool}(hf:∀tid t,f tid t=true→TyR P tid t):∀(fs:List Field) (off:Nat) (t:Ty),fldChk f fs off t=true→FldR P fs off t
 |[],off,t,h=>by cases h
 |[fd],off,t,h=>by
  simp only[fldChk,Bool.and_eq_true]at h
  exact .one (Nat.eq_of_beq_eq_true h.1) (hf _ _ h.2)
 |fd::f2::fs,off,t,h=>by
  simp only[fldChk]at h
  split at h
  ·simp only[Bool.and_eq_true]at h
   exact .cons (Nat.eq_of_beq_eq_true h.1) (hf _ _ h.2.1) (fldChk_ok hf (f2::fs) _ _ h.2.2)
  ·cases h
theorem tyChk_ok{P:Program}:∀(n:Nat) (tid:TypeId) (t:Ty),tyChk P n tid t=true→TyR P tid t
 |0,tid,t,h=>by cases h
 |n+1,tid,t,h=>by
  simp only[tyChk,Bool.and_eq_true]at h
  obtain⟨h1,h2⟩:=h
  split at h2
  ·rename_i hu
   have hk:=kindB_eq h2
   subst hk
   exact .int (factChk_ok hu h1)
  ·rename_i hu;exact .ti (factChk_ok hu h1)
  ·rename_i hu;exact .bool (factChk_ok hu h1)
  ·rename_i hu;exact .str (factChk_ok hu h1)
  ·rename_i hu;exact .list (factChk_ok hu h1) (tyChk_ok n _ _ h2)
  ·rename_i hu;exact .ptr (factChk_ok hu h1) (tyChk_ok n _ _ h2)
  ·rename_i hu
   simp only[Bool.and_eq_true]at h2
   have hm:=Nat.eq_of_beq_eq_true h2.1
   subst hm
   exact .arr (factChk_ok hu h1) (tyChk_ok n _ _ h2.2)
  ·rename_i hu;exact .struct (factChk_ok hu h1) (fldChk_ok (fun tid t h=>tyChk_ok n tid t h) _ _ _ h2)
  ·cases h2
def look{α:Type}:List (Nat×α)→Nat→Option α
 |[],_=>none
 |(k,x)::l,n=>bif Nat.beq k n then some x else look l n
theorem look_mem{α:Type}:∀{l:List (Nat×α)} {n:Nat} {x:α},look l n=some x→(n,x)∈l
 |(k,y)::l,n,x,h=>by
  simp only[look]at h
  cases hb:Nat.beq k n with
  |true=>
   rw[hb]at h
   injection h with h
   subst h
   rw[Nat.eq_of_beq_eq_true hb];simp
  |false=>rw[hb]at h;exact List.mem_cons_of_mem _ (look_mem h)
structure Tab where
 ty:List (Nat×Ty)
 nf:List (Nat×Nat)
 el:List (Nat×Nat×Nat)
 fnT:List Nat
 eqs:List Nat
 sig:List (Nat×Sig)
 body:List (Nat×Func)
def Tab.env(T:Tab)(ext:CallT):Env:=
 {ty:=look T.ty,nf:=fun t=>(look T.nf t).getD 0,el:=look T.el,fnT:=fun t=>T.fnT.any (Nat.beq t),eqs:=fun t=>T.eqs.any (Nat.beq t),sig:=look T.sig,body:=look T.body,ext:=ext}
def tabChk(P:Program)(T:Tab):Bool:=
 (T.ty.all fun x=>tyChk P 40 x.1 x.2&&x.2.solid)&&
 ((T.nf.all fun x=>match P.underlying x.1 with|some (.struct fs)=>Nat.beq x.2 fs.size|_=>false)&&
 ((T.el.all fun x=>match P.underlying x.1 with
  |some (.slice e)=>Nat.beq e x.2.1&&(match P.info? e with|some i=>Nat.beq i.bytes x.2.2|none=>false)
  |_=>false)&&
 ((T.fnT.all fun t=>match P.underlying t with|some (.func _ _ _)=>true|_=>false)&&
 ((T.eqs.all fun t=>eqPlain P 20 t&& !(P.eqGuardType P.depth t))&&
 (T.body.all fun x=> !(x.2.name== "runtime.NumGoroutine")&&(match x.2.body with|some c=>codeOK x.2.ntmps c|none=>true))))))
theorem any_mem{l:List Nat}{t:Nat}(h:l.any (Nat.beq t)=true):t∈l:=by
 obtain⟨x,hx,hb⟩:=List.any_eq_true.1 h
 rw[Nat.eq_of_beq_eq_true hb];exact hx
theorem tab_ok{P:Program}{T:Tab}(h:tabChk P T=true)(hm:P.follows .mixedOrders=true)(hb:∀x∈T.body,P.funcs[x.1]? =some x.2)(ext:CallT):EnvOK P (T.env ext)∧FnsOK P (T.env ext):=by
 simp only[tabChk,Bool.and_eq_true]at h
 obtain⟨h1,h2,h3,h4,h5,h6⟩:=h
 refine⟨⟨fun tid t ht=> ?_,fun tid t ht=> ?_,fun tid ht=> ?_,fun tid e b ht=> ?_,fun tid ht=> ?_,fun tid ht=> ?_,fun f fn hf=>hb _ (look_mem hf),hm⟩,⟨fun f fn c hf hc=> ?_,fun f fn hf=> ?_⟩⟩
 ·have:=List.all_eq_true.1 h1 _ (look_mem ht)
  simp only[Bool.and_eq_true]at this
  exact tyChk_ok _ _ _ this.1
 ·have:=List.all_eq_true.1 h1 _ (look_mem ht)
  simp only[Bool.and_eq_true]at this
  exact this.2
 ·cases hl:look T.nf tid with
  |none=>simp[Tab.env,hl]at ht
  |some n=>
   have:=List.all_eq_true.1 h2 _ (look_mem hl)
   simp only at this
   split at this
   ·rename_i fs hu
    exact⟨fs,hu,by simp[Tab.env,hl,Nat.eq_of_beq_eq_true this]⟩
   ·cases this
 ·have:=List.all_eq_true.1 h3 _ (look_mem (show look T.el tid=some (e,b)from ht))
  simp only at this
  split at this
  ·rename_i e' hu
   simp only[Bool.and_eq_true]at this
   obtain⟨q1,q2⟩:=this
   have he:=Nat.eq_of_beq_eq_true q1
   subst he
   split at q2
   ·rename_i i hi
    exact⟨hu,i,hi,Nat.eq_of_beq_eq_true q2⟩
   ·cases q2
  ·cases this
 ·have:=List.all_eq_true.1 h4 _ (any_mem ht)
  split at this
  ·rename_i ps rs v hu
   exact⟨ps,rs,v,hu⟩
  ·cases this
 ·have:=List.all_eq_true.1 h5 _ (any_mem ht)
  simp only[Bool.and_eq_true,Bool.not_eq_true']at this
  exact this
 ·have:=List.all_eq_true.1 h6 _ (look_mem hf)
  simp only[Bool.and_eq_true]at this
  have h7:=this.2
  rw[hc]at h7
  exact h7
 ·have:=List.all_eq_true.1 h6 _ (look_mem hf)
  simp only[Bool.and_eq_true,Bool.not_eq_true']at this
  exact this.1
end
section
def tysBeq:List Ty→List Ty→Bool
 |[],[]=>true
 |a::l,b::m=>a.beq b&&tysBeq l m
 |_,_=>false
theorem tysBeq_eq:∀{l m:List Ty},tysBeq l m=true→l=m
 |[],[],_=>rfl
 |a::l,b::m,h=>by
  simp only[tysBeq,Bool.and_eq_true]at h
  rw[Ty.beq_eq h.1,tysBeq_eq h.2]
 |[],_::_,h=>by cases h
 |_::_,[],h=>by cases h
def prmsBeq:List Prm→List Prm→Bool
 |[],[]=>true
 | .val a::l,.val b::m=>a.beq b&&prmsBeq l m
 |_,_=>false
theorem prmsBeq_eq:∀{l m:List Prm},prmsBeq l m=true→l=m
 |[],[],_=>rfl
 | .val a::l,.val b::m,h=>by
  simp only[prmsBeq,Bool.and_eq_true]at h
  rw[Ty.beq_eq h.1,prmsBeq_eq h.2]
 |[],_::_,h=>by cases h
 |_::_,[],h=>by simp[prmsBeq]at h
 | .io _::_,_::_,h=>by simp[prmsBeq]at h
 | .val _::_,.io _::_,h=>by simp[prmsBeq]at h
def ioBeq:Option (Bool×Ty)→Option (Bool×Ty)→Bool
 |none,none=>true
 |some (a,t),some (b,u)=>(a==b)&&t.beq u
 |_,_=>false
theorem ioBeq_eq:∀{a b:Option (Bool×Ty)},ioBeq a b=true→a=b
 |none,none,_=>rfl
 |some (a,t),some (b,u),h=>by
  simp only[ioBeq,Bool.and_eq_true,beq_iff_eq]at h
  rw[h.1,Ty.beq_eq h.2]
 |none,some _,h=>by cases h
 |some _,none,h=>by cases h
def Sig.beq(a b:Sig):Bool:=prmsBeq a.ins b.ins&&(tysBeq a.outs b.outs&&ioBeq a.io b.io)
theorem Sig.beq_eq{a b:Sig}(h:a.beq b=true):a=b:=by
 simp only[Sig.beq,Bool.and_eq_true]at h
 obtain⟨ai,ao,aio⟩:=a
 obtain⟨bi,bo,bio⟩:=b
 simp only at h
 rw[prmsBeq_eq h.1,tysBeq_eq h.2.1,ioBeq_eq h.2.2]
structure ExtE where
 f:Nat
 s:Sig
 G:s.inT.D→Option s.outT.D
def extOf:List ExtE→CallT
 |[],_,_,_=>none
 |e::l,f,s,x=>bif Nat.beq f e.f then(if h:s.beq e.s=true then cast (by rw[Sig.beq_eq h]) (e.G (cast (by rw[Sig.beq_eq h]) x))else none)else extOf l f s x
theorem extOf_ok{P:Program}{τ:Tabs}:∀(l:List ExtE),(∀e∈l,FnOK P τ e.f e.s e.G)→∀f s,FnOK P τ f s (extOf l f s)
 |[],_,f,s=>fun _ _ hz=>by cases hz
 |e::l,h,f,s=>by
  have key:∀G G':s.inT.D→Option s.outT.D,G'=G→FnOK P τ f s G→FnOK P τ f s G':=fun G G' hg hG=>by subst hg;exact hG
  have ih:FnOK P τ f s (extOf l f s):= @extOf_ok P τ l (fun x hx=> @h x (by simp[hx])) f s
  have h0:FnOK P τ e.f e.s e.G:= @h e (by simp)
  by_cases hb:Nat.beq f e.f=true
  ·have hf:=Nat.eq_of_beq_eq_true hb
   by_cases hs:s.beq e.s=true
   ·have hse:=Sig.beq_eq hs
    obtain⟨ef,es,eG⟩:=e
    simp only at hb hs hse hf h0
    subst hf
    subst hse
    refine key eG _ ?_ h0
    funext x
    simp only[extOf,hb,cond_true,hs,dif_pos,cast_eq]
   ·refine key (fun _=>none) _ ?_ fun _ _ hz=>by cases hz
    funext x
    simp only[extOf,hb,cond_true]
    rw[dif_neg hs]
  ·refine key _ _ ?_ ih
   funext x
   simp only[Bool.not_eq_true]at hb
   simp only[extOf,hb,cond_false]
end
section
theorem kept_of{w w':World}(hg:Grew w w')(hs:∀b,b<w.heap.size→Same w w' b)(may:MemPlace→Prop):w.keptBut w' may:=by
 refine⟨hg.os,hg.output,fun i hi=> ?_⟩
 have hS:=hs i hi
 rcases hS.kin with h|⟨c,c',t,fr,h1,h2,h3⟩
 ·rw[h]
  split<;>simp_all
 ·rw[h1,h2]
  refine⟨rfl,rfl,h3,fun j _=> ?_⟩
  have:=hS.rest.2 j
  simpa[World.cell?,h1,h2]using this
end
section
def EvQ{β:Type}(f:Nat→β)(b:β):Prop:=∃N,∀k,N≤k→f k=b
abbrev Ev{α:Type}(f:Nat→Option α)(r:α):Prop:=EvQ f (some r)
section
variable {α β D R:Type}
theorem EvQ.const(b:β):EvQ (fun _=>b) b:=⟨0,fun _ _=>rfl⟩
theorem EvQ.bind{f:Nat→Option α}{g:Nat→α→Option β}{a:α}{r:Option β}(h:Ev f a)(hg:EvQ (fun k=>g k a) r):EvQ (fun k=>(f k).bind (g k)) r:=by
 obtain⟨N,h⟩:=h
 obtain⟨M,hg⟩:=hg
 refine⟨N+M,fun k hk=> ?_⟩
 have:=hg k (by omega)
 simp only[h k (by omega),Option.bind_some]
 exact this
theorem EvQ.run{c F:Nat→β}{r:β}(h:∀k,c (k+1)=F k)(hF:EvQ F r):EvQ c r:=by
 obtain⟨N,hF⟩:=hF
 refine⟨N+1,fun k hk=> ?_⟩
 obtain⟨m,rfl⟩:∃m,k=m+1:=⟨k-1,by omega⟩
 rw[h m,hF m (by omega)]
theorem EvQ.back{c F:Nat→β}{r:β}(h:∀k,c (k+1)=F k)(hc:EvQ c r):EvQ F r:=by
 obtain⟨N,hc⟩:=hc
 exact⟨N,fun k hk=>by rw[←h k];exact hc (k+1) (by omega)⟩
theorem EvQ.congr{f g:Nat→β}{r:β}(h:∀k,f k=g k)(hg:EvQ g r):EvQ f r:=by
 obtain⟨N,hg⟩:=hg
 exact⟨N,fun k hk=>by rw[h k,hg k hk]⟩
abbrev EvS(L:Nat→(D→Option R)→D→Option R)(d d':D):Prop:=EvQ (fun k (self:D→Option R)=>L k self d) (fun self=>self d')
theorem EvQ.bindS{f:Nat→Option α}{g:Nat→(D→Option R)→α→Option β}{a:α}{r:(D→Option R)→Option β}(h:Ev f a)(hg:EvQ (fun k self=>g k self a) r):EvQ (fun k self=>(f k).bind (g k self)) r:=by
 obtain⟨N,h⟩:=h
 obtain⟨M,hg⟩:=hg
 refine⟨N+M,fun k hk=> ?_⟩
 have:=hg k (by omega)
 simp only[h k (by omega),Option.bind_some]
 exact this
def EvL(L:Nat→(D→Option R)→D→Option R)(d:D)(r:R):Prop:=∃N,∀n k,N≤n→N≤k→iter n (L k) d=some r
theorem EvL.ev{L:Nat→(D→Option R)→D→Option R}{d:D}{r:R}(h:EvL L d r):Ev (fun k=>iter k (L k) d) r:=by
 obtain⟨N,h⟩:=h
 exact⟨N,fun k hk=>h k k hk hk⟩
theorem EvL.step{L:Nat→(D→Option R)→D→Option R}{d d':D}{r:R}(hs:EvS L d d')(h:EvL L d' r):EvL L d r:=by
 obtain⟨N,hs⟩:=hs
 obtain⟨M,h⟩:=h
 refine⟨N+M+1,fun n k hn hk=> ?_⟩
 obtain⟨m,rfl⟩:∃m,n=m+1:=⟨n-1,by omega⟩
 have h1:L k (iter m (L k)) d=iter m (L k) d':=congrFun (hs k (by omega)) (iter m (L k))
 simp only[iter]
 rw[h1,h m k (by omega) (by omega)]
theorem EvL.stop{L:Nat→(D→Option R)→D→Option R}{d:D}{r:R}(h:EvQ (fun k (self:D→Option R)=>L k self d) (fun _=>some r)):EvL L d r:=by
 obtain⟨N,h⟩:=h
 refine⟨N+1,fun n k hn hk=> ?_⟩
 obtain⟨m,rfl⟩:∃m,n=m+1:=⟨n-1,by omega⟩
 have:=congrFun (h k (by omega)) (iter m (L k))
 simp only[iter]
 exact this
def foldE{σ:Type}(f:σ→Nat→α→σ ⊕ R)(fin:σ→R):σ→Nat→List α→R
 |s,_,[]=>fin s
 |s,i,x::l=>match f s i x with
  | .inl s'=>foldE f fin s' (i+1) l
  | .inr r=>r
theorem EvL.fold{σ:Type}{L:Nat→(D→Option R)→D→Option R}(b:List α)(mk:σ→Nat→D)(f:σ→Nat→α→σ ⊕ R)(fin:σ→R)(inv:σ→Nat→Prop)
  (hs:∀s i x,b[i]? =some x→inv s i→match f s i x with
   | .inl s'=>EvS L (mk s i) (mk s' (i+1))∧inv s' (i+1)
   | .inr r=>EvL L (mk s i) r)
  (he:∀s,inv s b.length→EvL L (mk s b.length) (fin s)) (s0:σ) (h0:inv s0 0):EvL L (mk s0 0) (foldE f fin s0 0 b):=by
 have key:∀(l:List α) (i:Nat) (s:σ),b.drop i=l→i≤b.length→inv s i→EvL L (mk s i) (foldE f fin s i l):=by
  intro l
  induction l with
  |nil=>
   intro i s hd hi hv
   have:b.length≤i:=List.drop_eq_nil_iff.1 hd
   have:i=b.length:=by omega
   subst this
   exact he s hv
  |cons x l ih=>
   intro i s hd hi hv
   have hlt:i<b.length:=by
    rcases Nat.lt_or_ge i b.length with h|h
    ·exact h
    ·rw[List.drop_eq_nil_iff.2 h]at hd;cases hd
   have hx:b[i]? =some x:=by
    have:=List.getElem?_drop (xs:=b) (i:=i) (j:=0)
    rw[hd]at this
    simpa using this.symm
   have:=hs s i x hx hv
   simp only[foldE]
   cases he':f s i x with
   |inl s'=>
    rw[he']at this
    exact EvL.step this.1 (ih (i+1) s' (by rw[←List.tail_drop,hd];rfl) (by omega) this.2)
   |inr r=>
    rw[he']at this
    exact this
 exact key b 0 s0 rfl (Nat.zero_le _) h0
theorem EvL.count {L : Nat → (D → Option R) → D → Option R} (st : Nat → D) (n : Nat) {r : R} (hs : ∀ i, i < n → EvS L (st i) (st (i + 1))) (he : EvL L (st n) r) : EvL L (st 0) r := by
  have key : ∀ m i, i + m = n → EvL L (st i) r := by
    intro m
    induction m with
    | zero => intro i hi; have : i = n := by omega
              subst this; exact he
    | succ m ih => intro i hi; exact EvL.step (hs i (by omega)) (ih (i + 1) (by omega))
  exact key n 0 (by omega)
end
theorem wrap_i64{n:Int}(h1: -9223372036854775808≤n)(h2:n<9223372036854775808):IntKind.i64.wrap n=n:=by
 have e:IntKind.i64.wrap n=if n % 18446744073709551616≥9223372036854775808 then n % 18446744073709551616-18446744073709551616 else n % 18446744073709551616:=by
  show(if(true&&decide (n % (2 ^ 64:Int)≥(2 ^ 63:Int)))=true then n % (2 ^ 64:Int)-(2 ^ 64:Int)else n % (2 ^ 64:Int))=_
  simp
 rw[e]
 split<;>omega
theorem wrap_u8{n:Int}(h1:0≤n)(h2:n<256):IntKind.u8.wrap n=n:=by
 have e:IntKind.u8.wrap n=n % 256:=by
  show(if(false&&decide (n % (2 ^ 8:Int)≥(2 ^ 7:Int)))=true then n % (2 ^ 8:Int)-(2 ^ 8:Int)else n % (2 ^ 8:Int))=_
  simp
 rw[e];omega
theorem wrap_u8_mod(n:Int):IntKind.u8.wrap n=n % 256:=by
 show(if(false&&decide (n % (2 ^ 8:Int)≥(2 ^ 7:Int)))=true then n % (2 ^ 8:Int)-(2 ^ 8:Int)else n % (2 ^ 8:Int))=_
 simp
end
section
def Ty.plainT:Ty→Bool
 | .int _| .bool| .str=>true
 | .list _ t=>t.plainT
 | .pair a b=>a.plainT&&b.plainT
 |_=>false
def okD:(t:Ty)→t.D→Prop
 | .int k,n=>(Lit.int k n).wf=true
 | .str,(s:ByteArray)=>s.size≤maxLen
 | .list _ t,(l:List t.D)=>l.length≤maxLen∧∀x∈l,okD t x
 | .pair a b,x=>okD a x.1∧okD b x.2
 |_,_=>True
abbrev wrapK(k:IntKind)(n:Int):Int:=k.wrap n
section
variable {α:Type}
def copyL(c:Nat→α→Option α)(k:Nat)(self:(List α×(List α×Int))→Option (List α))(d:(List α×(List α×Int))):Option (List α):=
 (bif (decide (d.2.2<(d.1.length:Int)))then(if 0≤d.2.2 then(d.1[d.2.2.toNat]?).bind fun v0=>
  (c k v0).bind fun v1=>
  (if 0≤d.2.2 then(if d.2.2<(d.2.1.length:Int)then(d.2.1[d.2.2.toNat]?).bind fun v2=>
  self (d.1,(d.2.1.set d.2.2.toNat v1),(wrapK .i64 (d.2.2+(1:Int))))else none)else none)else none)else some d.2.1)
def copyL0(k:Nat)(self:(List α×(List α×Int))→Option (List α))(d:(List α×(List α×Int))):Option (List α):=
 (bif (decide (d.2.2<(d.1.length:Int)))then(if 0≤d.2.2 then(d.1[d.2.2.toNat]?).bind fun v0=>
  (if 0≤d.2.2 then(if d.2.2<(d.2.1.length:Int)then(d.2.1[d.2.2.toNat]?).bind fun v1=>
  self (d.1,(d.2.1.set d.2.2.toNat v0),(wrapK .i64 (d.2.2+(1:Int))))else none)else none)else none)else some d.2.1)
theorem wrap_succ{i n:Nat}(h:i<n)(hn:n<4611686018427387904):wrapK .i64 ((i:Int)+1)=((i+1:Nat):Int):=by
 rw[wrapK,wrap_i64 (by omega) (by omega)];omega
theorem take_set_drop{l m:List α}{i:Nat}{x:α}(hx:l[i]? =some x)(hm:m.length=l.length):(l.take i++m.drop i).set i x=l.take (i+1)++m.drop (i+1):=by
 have hi:i<l.length:=(List.getElem?_eq_some_iff.1 hx).1
 have ht:(l.take i).length=i:=by simp;omega
 rw[List.set_append_right _ _ (by omega),ht,Nat.sub_self,List.drop_eq_getElem_cons (by omega:i<m.length),List.set_cons_zero,List.take_add_one,hx]
 simp
theorem copyL_ev{c:Nat→α→Option α}{l:List α}(h:∀x∈l,Ev (fun k=>c k x) x)(hl:l.length<4611686018427387904)(m:List α)(hm:m.length=l.length):
  Ev (fun k=>iter k (copyL c k) (l,m,(0:Int))) l:=by
 refine EvL.ev ?_
 have:=EvL.count (L:=copyL c) (r:=l) (fun i=>(l,l.take i++m.drop i,(i:Int))) l.length (fun i hi=> ?_) (EvL.stop ?_)
 ·simpa using this
 ·have hx:l[i]? =some l[i]:=List.getElem?_eq_getElem hi
  have hlen:i<(l.take i++m.drop i).length:=by simp;omega
  have e1:EvQ (fun k=>c k l[i]) (some l[i]):=h _ (List.getElem_mem hi)
  simp only[EvS,copyL,Int.toNat_natCast,hx,Option.bind_some,Int.natCast_nonneg,if_true,Int.ofNat_lt,hi,decide_true,cond_true,hlen,List.getElem?_eq_getElem hlen]
  refine EvQ.bindS e1 ?_
  simp only[take_set_drop hx hm,wrap_succ hi hl]
  exact EvQ.const _
 ·simp only[copyL,Int.ofNat_lt,Nat.lt_irrefl,decide_false,cond_false]
  have:l.take l.length++m.drop l.length=l:=by rw[←hm];simp[hm]
  rw[this]
  exact EvQ.const _
theorem copyL0_eq:(copyL0:Nat→_→_→Option (List α))=copyL fun _ x=>some x:=by
 funext k self d
 simp[copyL0,copyL]
def eqL(c:Nat→α×α→Option Bool)(k:Nat)(self:(List α×(List α×Int))→Option Bool)(d:(List α×(List α×Int))):Option Bool:=
 (bif (decide (d.2.2<(d.1.length:Int)))then(if 0≤d.2.2 then(d.1[d.2.2.toNat]?).bind fun v0=>
  (if 0≤d.2.2 then(d.2.1[d.2.2.toNat]?).bind fun v1=>
  (c k (v0,v1)).bind fun v2=>
  (bif (!v2)then some false else self (d.1,d.2.1,(wrapK .i64 (d.2.2+(1:Int)))))else none)else none)else some true)
theorem eqL_ev{c:Nat→α×α→Option Bool}{l:List α}(h:∀x∈l,Ev (fun k=>c k (x,x)) true)(hl:l.length<4611686018427387904):Ev (fun k=>iter k (eqL c k) (l,l,(0:Int))) true:=by
 refine EvL.ev ?_
 have:=EvL.count (L:=eqL c) (r:=true) (fun i=>(l,l,(i:Int))) l.length (fun i hi=> ?_) (EvL.stop ?_)
 ·simpa using this
 ·have hx:l[i]? =some l[i]:=List.getElem?_eq_getElem hi
  have e1:EvQ (fun k=>c k (l[i],l[i])) (some true):=h _ (List.getElem_mem hi)
  simp only[EvS,eqL,Int.toNat_natCast,hx,Option.bind_some,Int.natCast_nonneg,if_true,Int.ofNat_lt,hi,decide_true,cond_true]
  refine EvQ.bindS e1 ?_
  simp only[wrap_succ hi hl,Bool.not_true,cond_false]
  exact EvQ.const _
 ·simp only[eqL,Int.ofNat_lt,Nat.lt_irrefl,decide_false,cond_false]
  exact EvQ.const _
def szR(m:Nat)(left:Int):Int:=if(m:Int)≤left then left-m else-1
theorem szR_nonneg{m:Nat}{left:Int}(h:¬szR m left<0):(m:Int)≤left∧szR m left=left-m:=by
 unfold szR at*
 split
 ·rename_i h1;exact⟨h1,rfl⟩
 ·rename_i h1;rw[if_neg h1]at h;omega
def szL(c:Nat→α×Int→Option Int)(k:Nat)(self:(List α×(Int×Int))→Option Int)(d:(List α×(Int×Int))):Option Int:=
 (bif (decide (d.2.2<(d.1.length:Int)))then(if 0≤d.2.2 then(d.1[d.2.2.toNat]?).bind fun v0=>
  (c k (v0,d.2.1)).bind fun v1=>
  (bif (decide (v1<(0:Int)))then some (-1:Int)else self (d.1,v1,(wrapK .i64 (d.2.2+(1:Int)))))else none)else some d.2.1)
theorem szL_ev{c:Nat→α×Int→Option Int}{sz:α→Nat}{l:List α}(h:∀x∈l,∀left:Int,0≤left→left≤1048576→Ev (fun k=>c k (x,left)) (szR (sz x) left))(hl:l.length<4611686018427387904){left:Int}(h0:0≤left)(h1:left≤1048576):
  Ev (fun k=>iter k (szL c k) (l,left,(0:Int))) (szR (l.map sz).sum left):=by
 refine EvL.ev ?_
 have key:∀(m:List α) (i:Nat) (left:Int),l.drop i=m→i≤l.length→0≤left→left≤1048576→EvL (szL c) (l,left,(i:Int)) (szR (m.map sz).sum left):=by
  intro m
  induction m with
  |nil=>
   intro i left hd hi h0 h1
   have:l.length≤i:=List.drop_eq_nil_iff.1 hd
   have:i=l.length:=by omega
   subst this
   refine EvL.stop ?_
   simp only[szL,Int.ofNat_lt,Nat.lt_irrefl,decide_false,cond_false]
   have:szR (List.map sz []).sum left=left:=by simp[szR,h0]
   rw[this]
   exact EvQ.const _
  |cons x m ih=>
   intro i left hd hi h0 h1
   have hlt:i<l.length:=by
    rcases Nat.lt_or_ge i l.length with h|h
    ·exact h
    ·rw[List.drop_eq_nil_iff.2 h]at hd;cases hd
   have hx:l[i]? =some x:=by
    have:=List.getElem?_drop (xs:=l) (i:=i) (j:=0)
    rw[hd]at this
    simpa using this.symm
   have e1:EvQ (fun k=>c k (x,left)) (some (szR (sz x) left)):=h x (List.mem_of_getElem? hx) left h0 h1
   have htl:l.drop (i+1)=m:=by rw[←List.tail_drop,hd];rfl
   by_cases hneg:szR (sz x) left<0
   ·refine EvL.stop ?_
    simp only[szL,Int.toNat_natCast,hx,Option.bind_some,Int.natCast_nonneg,if_true,Int.ofNat_lt,hlt,decide_true,cond_true]
    refine EvQ.bindS e1 ?_
    simp only[hneg,decide_true,cond_true]
    have:szR (List.map sz (x::m)).sum left= -1:=by
     simp only[szR,List.map_cons,List.sum_cons]at hneg ⊢
     split at hneg
     ·omega
     ·rw[if_neg (by omega)]
    rw[this]
    exact EvQ.const _
   ·obtain⟨k1,k2⟩:=szR_nonneg hneg
    refine EvL.step (d':=(l,szR (sz x) left,((i+1:Nat):Int))) ?_ ?_
    ·simp only[EvS,szL,Int.toNat_natCast,hx,Option.bind_some,Int.natCast_nonneg,if_true,Int.ofNat_lt,hlt,decide_true,cond_true]
     refine EvQ.bindS e1 ?_
     simp only[hneg,decide_false,cond_false,wrap_succ hlt hl]
     exact EvQ.const _
    ·have:=ih (i+1) (szR (sz x) left) htl (by omega) (by omega) (by omega)
     have e2:szR (List.map sz m).sum (szR (sz x) left)=szR (List.map sz (x::m)).sum left:=by
      rw[k2]
      simp only[szR,List.map_cons,List.sum_cons]
      split<;>split<;>omega
     rw[e2]at this
     exact this
 exact key l 0 left rfl (Nat.zero_le _) h0 h1
def markF(e:α→Int→α)(n:Int):List α→Int→List α
 |[],_=>[]
 |x::l,m=>e x m::markF e n l (m+n)
theorem markF_length(e:α→Int→α)(n:Int):∀(l:List α) (m:Int),(markF e n l m).length=l.length
 |[],m=>rfl
 |x::l,m=>by simp[markF,markF_length e n l]
theorem markF_get(e:α→Int→α)(n:Int):∀(l:List α) (m:Int) (i:Nat) (x:α),l[i]? =some x→(markF e n l m)[i]? =some (e x (m+n*i))
 |y::l,m,0,x,h=>by simp at h;subst h;simp[markF]
 |y::l,m,i+1,x,h=>by
  simp only[List.getElem?_cons_succ]at h
  simp only[markF,List.getElem?_cons_succ]
  rw[markF_get e n l (m+n) i x h]
  congr 2
  have:((i+1:Nat):Int)=(i:Int)+1:=by omega
  rw[this,Int.mul_add,Int.mul_one]
  omega
 |[],m,i,x,h=>by simp at h
theorem markL_ev{β:Type}{L:Nat→((Unit×(Int×(Int×List α)))→Option β)→(Unit×(Int×(Int×List α)))→Option β}(e:α→Int→α)(n:Int)(l0:List α)(m0:Int)(fin:Int→List α→β)
  (hs:∀(i:Nat) (l:List α) (x:α),l.length=l0.length→l[i]? =some x→i<l0.length→EvS L ((),m0+n*i,(i:Int),l) ((),m0+n*(i+1:Nat),((i+1:Nat):Int),l.set i (e x (m0+n*i))))
  (he:∀(l:List α),l.length=l0.length→EvL L ((),m0+n*l0.length,(l0.length:Int),l) (fin (m0+n*l0.length) l)):
  EvL L ((),m0,(0:Int),l0) (fin (m0+n*l0.length) (markF e n l0 m0)):=by
 have:=EvL.count (L:=L) (r:=fin (m0+n*l0.length) (markF e n l0 m0)) (fun i=>((),m0+n*i,(i:Int),(markF e n l0 m0).take i++l0.drop i)) l0.length (fun i hi=> ?_) ?_
 ·simpa using this
 ·have hx:l0[i]? =some l0[i]:=List.getElem?_eq_getElem hi
  have hlen:((markF e n l0 m0).take i++l0.drop i).length=l0.length:=by simp[markF_length];omega
  have ht:((markF e n l0 m0).take i).length=i:=by simp[markF_length];omega
  have hg:((markF e n l0 m0).take i++l0.drop i)[i]? =some l0[i]:=by
   rw[List.getElem?_append_right (by omega),ht,Nat.sub_self,List.getElem?_drop]
   simp
  have h1:=hs i _ _ hlen hg hi
  rw[take_set_drop (markF_get e n l0 m0 i _ hx) (markF_length e n l0 m0).symm]at h1
  exact h1
 ·have h2:(markF e n l0 m0).take l0.length++l0.drop l0.length=markF e n l0 m0:=by
   rw[List.take_of_length_le (by rw[markF_length];exact Nat.le_refl _)];simp
  simp only[h2]
  exact he _ (markF_length e n l0 m0)
theorem heldL_ev{D β:Type}{L:Nat→(D→Option β)→D→Option β}(st:Int→Int→D)(e:α→Int→α)(n:Int)(l0:List α)(m0:Int){r:β}
  (hs:∀(i:Nat) (x:α),(markF e n l0 m0)[i]? =some (e x (m0+n*i))→i<l0.length→EvS L (st (m0+n*i) (i:Int)) (st (m0+n*(i+1:Nat)) ((i+1:Nat):Int)))
  (he:EvL L (st (m0+n*l0.length) (l0.length:Int)) r):EvL L (st m0 0) r:=by
 have:=EvL.count (L:=L) (r:=r) (fun i=>st (m0+n*i) (i:Int)) l0.length (fun i hi=>hs i l0[i] (markF_get e n l0 m0 i _ (List.getElem?_eq_getElem hi)) hi) he
 simpa using this
end
theorem eqS_iff(a b:ByteArray):eqS a b=true↔a=b:=by
 have h0:eqS a b=(a.data==b.data):=rfl
 rw[h0,beq_iff_eq]
 constructor
 ·intro h;cases a;cases b;exact congrArg ByteArray.mk h
 ·intro h;rw[h]
theorem eqS_refl(a:ByteArray):eqS a a=true:=(eqS_iff a a).2 rfl
theorem le_sum_map{α:Type}(f:α→Nat):∀{l:List α} {x:α},x∈l→f x≤(l.map f).sum
 |y::l,x,h=>by
  simp only[List.map_cons,List.sum_cons]
  rcases List.mem_cons.1 h with rfl|h
  ·omega
  ·have:=le_sum_map f h;omega
theorem szR_neg{m:Nat}{left:Int}(h:szR m left<0)(h0:0≤left:=by omega):left<m:=by
 unfold szR at h
 split at h
 ·omega
 ·omega
theorem szR_add{n m:Nat}{left:Int}(h:(n:Int)≤left):szR m (left-n)=szR (n+m) left:=by
 simp only[szR]
 split<;>split<;>omega
def szStrC(_:Nat)(p:ByteArray×Int):Option Int:=bif decide (wrapK .i64 (p.2-(p.1.size:Int))<0)then some (-1)else some (wrapK .i64 (p.2-(p.1.size:Int)))
theorem szStr_ev(s:ByteArray)(hs:okD .str s){left:Int}(h0:0≤left)(h1:left≤1048576):Ev (fun k=>szStrC k (s,left)) (szR s.size left):=by
 have hn:s.size≤9223372036854775807:=hs
 have e0:wrapK .i64 (left-(s.size:Int))=left-s.size:=wrap_i64 (by omega) (by omega)
 simp only[szStrC,e0]
 by_cases c0:left-(s.size:Int)<0
 ·simp only[c0,decide_true,cond_true];exact⟨0,fun k _=>by rw[szR,if_neg (by omega)]⟩
 ·simp only[c0,decide_false,cond_false];exact⟨0,fun k _=>by rw[szR,if_pos (by omega)]⟩
theorem szStr_eq(k:Nat)(self:(List ByteArray×(Int×Int))→Option Int)(d:List ByteArray×(Int×Int)):
  (bif (decide (d.2.2<(d.1.length:Int)))then(if 0≤d.2.2 then(d.1[d.2.2.toNat]?).bind fun v0=>
   (bif (decide ((wrapK .i64 (d.2.1-(v0.size:Int)))<(0:Int)))then some (-1:Int)else self (d.1,(wrapK .i64 (d.2.1-(v0.size:Int))),(wrapK .i64 (d.2.2+(1:Int)))))else none)else some d.2.1)=szL szStrC k self d:=by
 simp only[szL]
 congr 1
 split
 ·congr 1
  funext v0
  cases hd:decide (wrapK .i64 (d.2.1-(v0.size:Int))<0)with
  |true=>simp[szStrC,hd]
  |false=>simp[szStrC,hd]
 ·rfl
theorem decide_neg_of(z:Int)(h:0≤z):decide (z<(0:Int))=false:=decide_eq_false (by omega)
end
section
section
variable {H:Type} {enc:TypeId×Value→H} {P:Program} {W:World} {sp:Nat→Bool}
theorem cells?_stand{a:Addr}{n:Nat}{cs:List Value}(h:W.cells? 0 a n=some cs)(hn:0<n):a.spot=none∧cs.length=n∧a.block<W.heap.size∧∀i v,cs[i]? =some v→W.cell? ⟨a.block,a.off+i,none⟩=some v:=by
 unfold World.cells? at h
 rw[if_pos (Nat.zero_le _)]at h
 have hl:=mapM_some_length h
 have hg:=fun i v hi=>mapM_some_get h i v hi
 have h0:a.spot=none∧a.block<W.heap.size:=by
  have:=hg 0 0 (by simp[hn])
  have hl0:0<cs.length:=by rw[hl];simpa using hn
  rw[List.getElem?_eq_getElem hl0]at this
  have e0:a.add 0=a:=by simp[Addr.add]
  rw[e0]at this
  unfold World.cell? at this
  split at this
  ·rename_i c t fr hb
   refine⟨?_, ?_⟩
   ·cases hs:a.spot with
    |none=>rfl
    |some x=>rw[hs]at this;simp at this
   ·exact(Array.getElem?_eq_some_iff.1 hb).1
  ·cases this
 refine⟨h0.1,by rw[hl];simp,h0.2,fun i v hi=> ?_⟩
 have hi':i<n:=by have:=(List.getElem?_eq_some_iff.1 hi).1;rw[hl]at this;simpa using this
 have:=hg i i (by simp[hi'])
 rw[hi]at this
 rw[←this]
 congr 1
 unfold Addr.add
 split
 ·rename_i hz;subst hz;obtain⟨b,o,s⟩:=a;simp at h0;simp[h0.1]
 ·rfl
theorem rows_of_elems{α:Type}{R:α→List Value→Prop}{a:Addr}{sz:Nat}(hsz:0<sz):∀(n:Nat) (f:Nat→Option (List Value)),(∀i,i<n→∃cs x,f i=some cs∧W.cells? 0 (a.add (i*sz)) sz=some cs∧R x cs)→
  ∃(l:List α) (rows:List Value),l.length=n∧Rows' R l rows∧rows.length=n*sz∧(∀j v,rows[j]? =some v→W.cell? ⟨a.block,a.off+j,none⟩=some v)∧∀x∈l,∃i cs,i<n∧f i=some cs∧R x cs
 |0,f,h=>⟨[],[],rfl,rfl,by simp,by simp,by simp⟩
 |n+1,f,h=>by
  obtain⟨l,rows,h1,h2,h3,h4,h5⟩:=rows_of_elems hsz n f fun i hi=>h i (by omega)
  obtain⟨cs,x,k1,k2,k3⟩:=h n (by omega)
  obtain⟨j1,j2,j3,j4⟩:=cells?_stand k2 hsz
  have happ:∀(l:List α) (rows:List Value),Rows' R l rows→Rows' R (l++[x]) (rows++cs):=by
   intro l
   induction l with
   |nil=>intro rows hr;simp only[Rows']at hr;subst hr;exact⟨cs,[],by simp,k3,rfl⟩
   |cons y ys ih=>
    intro rows hr
    obtain⟨c1,c2,rfl,r1,r2⟩:=hr
    exact⟨c1,c2++cs,by simp,r1,ih c2 r2⟩
  refine⟨l++[x],rows++cs,by simp[h1],happ l rows h2,by simp[h3,j2,Nat.add_mul],fun j v hj=> ?_,fun y hy=> ?_⟩
  ·by_cases hlt:j<rows.length
   ·rw[List.getElem?_append_left hlt]at hj
    exact h4 j v hj
   ·rw[List.getElem?_append_right (by omega)]at hj
    have:=j4 _ _ hj
    have e1:(a.add (n*sz)).block=a.block:=by unfold Addr.add;split<;>rfl
    have e2:(a.add (n*sz)).off=a.off+n*sz:=by
     unfold Addr.add
     split
     ·rename_i hz;rw[hz];rfl
     ·rfl
    rw[e1,e2]at this
    rw[←this]
    congr 2
    omega
  ·rcases List.mem_append.1 hy with hy|hy
   ·obtain⟨i,c,q1,q2,q3⟩:=h5 y hy
    exact⟨i,c,by omega,q2,q3⟩
   ·simp at hy;subst hy
    exact⟨n,cs,by omega,k1,k3⟩
theorem cellsOf_tyR{tid:TypeId}{t:Ty}(h:TyR P tid t):P.cellsOf tid=t.sz∧0<t.sz:=by
 have key:∀{d:TypeDesc},TyF P tid d t→P.cellsOf tid=t.sz∧0<t.sz:=fun hf=>by
  obtain⟨i,z,h1,h2,_,_⟩:=hf.info
  exact⟨by simp[Program.cellsOf,h1,h2],hf.pos⟩
 cases h<;>rename_i h1<;>first|exact key h1|(rename_i h2 _;exact key h2)|(rename_i h2;exact key h2)
mutual
theorem open_rep:∀{t:Ty} {tid:TypeId},TyR P tid t→t.shared=true→t.plainT=true→∀{fuel:Nat} {cs:List Value} {x:DataW H×List MemPlace},
  DataW.trod enc P W 0 sp true fuel tid cs=some x→∃y:t.D,RepK W (fun b=>b<W.heap.size) t y cs∧okD t y
 |_,_,.int (k:=k) h,_,_,fuel,cs,x,hx=>by
  obtain⟨n,rfl,_,hw⟩:=DataW.trod_int h.und hx
  exact⟨n,rfl,hw⟩
 |_,_,.ti _,_,hpl,_,_,_,_=>by cases hpl
 |_,_,.bool h,_,_,fuel,cs,x,hx=>by
  obtain⟨b,rfl,_⟩:=DataW.trod_bool h.und hx
  exact⟨b,rfl,trivial⟩
 |_,_,.str h,_,_,fuel,cs,x,hx=>by
  obtain⟨s,rfl,_,hs⟩:=DataW.trod_string h.und hx
  exact⟨s,rfl,hs⟩
 |_,tid,.list (e:=e) (o:=o) (t:=t) h he,hsh,hpl,fuel,cs,x,hx=>by
  simp only[Ty.shared,Bool.and_eq_true]at hsh
  simp only[Ty.plainT]at hpl
  obtain⟨hce,hpos⟩:=cellsOf_tyR he
  rcases DataW.trod_slice h.und hx with⟨rfl,_⟩|⟨a,len,cap,elems,rest,n,_,rfl,_,_,hlc,hcm,hel,hget,_⟩
  ·exact⟨([]:List t.D),⟨none,0,rfl,⟨Nat.le_refl _,fun _ _=>rfl⟩,.inl rfl⟩,by simp,by simp⟩
  ·have hrow:∀i,i<len→∃cs y,W.cells? 0 (a.add (i*P.cellsOf e)) (P.cellsOf e)=some cs∧W.cells? 0 (a.add (i*P.cellsOf e)) (P.cellsOf e)=some cs∧(RepK W (fun b=>b<W.heap.size) t y cs∧okD t y):=fun i hi=>by
    have h1:=hget i hi
    rw[List.getElem?_eq_getElem (by omega)]at h1
    obtain⟨cs,h2,h3⟩:=Option.bind_eq_some_iff.1 h1
    obtain⟨y,h4⟩:=open_rep he hsh.2 hpl h3
    exact⟨cs,y,h2,h2,h4⟩
   rw[hce]at hrow
   obtain⟨l,rows,r1,r2,r3,r4,r5⟩:=rows_of_elems (a:=a) (R:=fun y cs=>RepK W (fun b=>b<W.heap.size) t y cs∧okD t y) hpos len (fun i=>W.cells? 0 (a.add (i*t.sz)) t.sz) hrow
   refine⟨l,⟨some a,cap,by rw[r1],⟨by rw[r1];exact hlc,fun e=>by cases t<;>first|(cases hpl;done)|(cases e;done)⟩, ?_⟩,by rw[r1];omega,fun y hy=> ?_⟩
   ·by_cases hl0:len=0
    ·left;rw[hl0]at r1;exact List.eq_nil_of_length_eq_zero r1
    ·right
     obtain⟨cs0,y0,_,h2,_⟩:=hrow 0 (by omega)
     have e0:a.add (0*t.sz)=a:=by simp[Addr.add]
     rw[e0]at h2
     obtain⟨j1,_,j3,_⟩:=cells?_stand h2 hpos
     exact⟨a,rows,rfl,j1,j3,r4,rows_mono (fun _ _ hr=>hr.1) _ _ r2⟩
   ·obtain⟨i,cs,_,_,hr⟩:=r5 y hy
    exact hr.2
 |_,_,.ptr _ _,_,hpl,_,_,_,_=>by cases hpl
 |_,_,.arr _ _,_,hpl,_,_,_,_=>by cases hpl
 |_,tid,.struct (fs:=fs) (a:=a) (b:=b) h hf,hsh,hpl,fuel,cs,x,hx=>by
  obtain⟨xs,n,_,_,hlen,hxl,hget⟩:=DataW.trod_struct h.und hx
  obtain⟨i,z,h1,h2,_,_⟩:=h.info
  have hsz:cs.length=(Ty.pair a b).sz:=by rw[hlen];simp[Program.cellsOf,h1,h2]
  have:=open_reps hf hsh hpl (fuel:=n) (cs:=cs) (by simpa using hsz) fun f hfm=>by
   obtain⟨j,hj⟩:=List.mem_iff_getElem?.1 hfm
   have hj':fs[j]? =some f:=by simpa using hj
   have hlt:j<xs.length:=by rw[hxl];exact(Array.getElem?_eq_some_iff.1 hj').1
   rw[hget j f hj',List.getElem?_eq_getElem hlt]
   exact⟨_,rfl⟩
  simpa using this
theorem open_reps:∀{t:Ty} {fs:List Field} {off:Nat},FldR P fs off t→t.shared=true→t.plainT=true→∀{fuel:Nat} {cs:List Value},cs.length=off+t.sz→
  (∀f∈fs,∃x,DataW.trod enc P W 0 sp true fuel f.type ((cs.drop f.offset).take (P.cellsOf f.type))=some x)→∃y:t.D,RepK W (fun b=>b<W.heap.size) t y (cs.drop off)∧okD t y
 |t,[f],off,.one ho ht,hsh,hpl,fuel,cs,hl,hx=>by
  obtain⟨x,hx⟩:=hx f (by simp)
  obtain⟨hc,hp⟩:=cellsOf_tyR ht
  rw[ho,hc,List.take_of_length_le (by rw[List.length_drop,hl];omega)]at hx
  exact open_rep ht hsh hpl hx
 |_,f::f2::fs,off,.cons (a:=a) (b:=b) ho ha hb,hsh,hpl,fuel,cs,hl,hx=>by
  simp only[Ty.shared,Ty.plainT,Bool.and_eq_true]at hsh hpl
  obtain⟨x,hx1⟩:=hx f (by simp)
  obtain⟨hc,hp⟩:=cellsOf_tyR ha
  rw[ho,hc]at hx1
  obtain⟨y,k1,k2⟩:=open_rep ha hsh.1 hpl.1 hx1
  obtain⟨z,k3,k4⟩:=open_reps hb hsh.2 hpl.2 (cs:=cs) (by rw[hl,Ty.sz];omega) fun f' hf'=>hx f' (by simp[hf'])
  refine⟨(y,z),⟨_,_, ?_,k1,k3⟩,k2,k4⟩
  rw[←List.drop_drop,List.take_append_drop]
end
end
end
section
section
variable {H:Type} {enc:TypeId×Value→H} {P:Program} {W:World} {sp:Nat→Bool}
theorem val_wide{t:Ty}{tid:TypeId}{r:Reach}{b:Nat}{v:Value}(ht:TyR P tid t)(hp:t.plainT=true)(hv:Value.okWide P W r b tid v):v=val t v.cells.toList:=by
 cases ht with
 |int h=>obtain⟨n,rfl⟩:=WideShapes.okWide_int h.und hv;rfl
 |bool h=>obtain⟨n,rfl⟩:=WideShapes.okWide_bool h.und hv;rfl
 |str h=>obtain⟨n,rfl⟩:=WideShapes.okWide_string h.und hv;rfl
 |list h _=>obtain⟨a,l,c,rfl⟩:=WideShapes.okWide_slice h.und hv;rfl
 |ptr _ _=>cases hp
 |arr _ _=>cases hp
 |struct h _=>
  obtain⟨cs,rfl,_⟩:=WideShapes.okWide_struct h.und hv
  simp[val,Value.cells]
 |ti _=>cases hp
def tysR(P:Program):List TypeId→List Ty→Prop
 |[],[]=>True
 |a::l,t::m=>TyR P a t∧t.shared=true∧t.plainT=true∧P.readableRec a=true∧a<P.types.size∧tysR P l m
 |_,_=>False
def tysRB(P:Program):List TypeId→List Ty→Bool
 |[],[]=>true
 |a::l,t::m=>tyChk P 40 a t&&(t.shared&&(t.plainT&&(P.readableRec a&&(Nat.blt a P.types.size&&tysRB P l m))))
 |_,_=>false
theorem tysR_of:∀{l:List TypeId} {m:List Ty},tysRB P l m=true→tysR P l m
 |[],[],_=>trivial
 |a::l,t::m,h=>by
  simp only[tysRB,Bool.and_eq_true]at h
  exact⟨tyChk_ok 40 _ _ h.1,h.2.1,h.2.2.1,h.2.2.2.1,Nat.le_of_ble_eq_true h.2.2.2.2.1,tysR_of h.2.2.2.2.2⟩
 |[],_::_,h=>by cases h
 |_::_,[],h=>by cases h
theorem open_args:∀{tids:List TypeId} {ts:List Ty} {vs:List Value} {ds:List (DataW H)} {ps:List MemPlace},DataW.TrodAll enc P W 0 sp true tids vs ds ps→tysR P tids ts→
  (∀(j:Nat) t v,tids[j]? =some t→vs[j]? =some v→∃r b,Value.okWide P W r b t v)→
  ∃gs:List SG,gs.map SG.v=vs∧gs.map SG.t=ts∧∀y∈gs,okG W (fun b=>b<W.heap.size) y.t y.g∧y.fp=[]∧okD y.t (er y.t y.g)
 |[],[],[],[],ps,_,_,_=>⟨[],rfl,rfl,by simp⟩
 |a::tids,t::ts,v::vs,d::ds,ps,hA,hT,hv=>by
  obtain⟨p,q,h1,h2,_⟩:=hA
  obtain⟨k1,k2,k3,k4,k5,k6⟩:=hT
  obtain⟨gs,g1,g2,g3⟩:=open_args h2 k6 fun j t' v' hj hj'=>hv (j+1) t' v' (by simpa using hj) (by simpa using hj')
  obtain⟨fuel,hf⟩:=h1
  obtain⟨y,r1,r2⟩:=open_rep k1 k2 k3 hf
  obtain⟨g,e1,e2,e3,e4⟩:=repK_okG t k2 y _ r1
  obtain⟨r,b,hw⟩:=hv 0 a v rfl rfl
  have hval:=val_wide k1 k3 hw
  refine⟨⟨t,g⟩::gs, ?_,by simp[g2],fun z hz=> ?_⟩
  ·rw[List.map_cons,g1,SG.v,e3,←hval]
  ·rcases List.mem_cons.1 hz with rfl|hz
   ·exact⟨e1,e4,by rw[e2];exact r2⟩
   ·exact g3 z hz
 |[],_::_,_,_,_,_,h,_=>h.elim
 |_::_,[],_,_,_,_,h,_=>h.elim
 |[],[],_::_,_,_,h,_,_=>by cases ‹List (DataW H)› <;>exact h.elim
 |[],[],[],_::_,_,h,_,_=>h.elim
 |_::_,_::_,[],_,_,h,_,_=>h.elim
 |_::_,_::_,_::_,[],_,h,_,_=>h.elim
theorem packG:∀(ts:List Ty) (gs:List SG),gs.map SG.t=ts→∃x:(mkT ts).D,unD ts x=gs.map SG.d
 |[],[],_=>⟨(),rfl⟩
 |[t],[y],h=>by
  simp only[List.map_cons,List.map_nil,List.cons.injEq,and_true]at h
  subst h
  exact⟨er y.t y.g,rfl⟩
 |t::u::ts,y::z::gs,h=>by
  simp only[List.map_cons,List.cons.injEq]at h
  obtain⟨rfl,h2⟩:=h
  obtain⟨x,hx⟩:=packG (u::ts) (z::gs) (by simpa using h2)
  exact⟨(er y.t y.g,x),by simp only[unD,hx];rfl⟩
 |[],_::_,h=>by cases h
 |[_],[],h=>by cases h
 |[_],_::_::_,h=>by simp at h
 |_::_::_,[],h=>by cases h
 |_::_::_,[_],h=>by simp at h
theorem Same.heap{w w':World}{b:Nat}(h:Same w w' b):w'.heap[b]? =w.heap[b]? :=by
 rcases h.kin with h1|⟨c,c',t,fr,h1,h2,h3⟩
 ·exact h1
 ·rw[h1,h2]
  have:c'=c:=by
   apply Array.ext h3
   intro i hi hi'
   have:=h.rest.2 i
   simp only[World.cell?,h1,h2]at this
   simpa[hi,hi']using this
  rw[this]
end
theorem law_calls{H:Type}{enc:TypeId×Value→H}{P:Program}{E:Env}{τ:Tabs}(hE:EnvOK P E)(hN:FnsOK P E)(hX:ExtOK P E τ)(Hs:Nat→Hints){f:Nat}{s:Sig}{fn:Func}{c:Code}(hio:s.io=none)(hval:s.ins.all Prm.isVal=true)
  (hfn:E.body f=some fn) (hc:fn.body=some c) (hl:laidOutB P=true) (hT:tysR P fn.params.toList s.inTs)
  (pure:∀x:s.inT.D,(∀d∈unD s.inTs x,okD d.1 d.2)→∃k z,runF E Hs k f s x=some z∧unD s.outTs z=[⟨.bool,true⟩])
  {W:World} (hTab:τ.T W) (hTB:∀b,τ.B b→b<W.heap.size) {args:Array Value} {ds:List (DataW H)} {p:List MemPlace} (hwide:∀(j:Nat) t v,fn.params.toList[j]? =some t→args.toList[j]? =some v→∃r b,Value.okWide P W r b t v)
  (hA:DataW.TrodAll enc P W 0 (fun _=>true) true fn.params.toList args.toList ds p):
  Calls P f args W fun e W'=>e= .returned (.bool true)∧DataW.TrodAll enc P W' 0 (fun b=>decide (b<W.heap.size)) true fn.params.toList args.toList ds p∧∀may:MemPlace→Prop,W.keptBut W' may:=by
 obtain⟨gs,g1,g2,g3⟩:=open_args hA hT hwide
 obtain⟨x,hx⟩:=packG s.inTs gs g2
 obtain⟨k,z,hk,hz⟩:=pure x (by
  rw[hx]
  intro d hd
  obtain⟨y,hy,rfl⟩:=List.mem_map.1 hd
  exact(g3 y hy).2.2)
 have hfp:gs.flatMap SG.fp=[]:=by
  rw[List.flatMap_eq_nil_iff]
  exact fun y hy=>(g3 y hy).2.1
 have hrun:=runF_ok hE hN hX Hs k f s (w:=W) (KS:=fun b=>b<W.heap.size) (A:=⟨0,0,none⟩) hval hx hk (fun y hy=>(g3 y hy).1) (by rw[hfp];exact List.nodup_nil) (by rw[hfp];simp) (fun b hb=>hb) (by rw[hio];intro h;cases h) hTab (fun b hb=>⟨hTB b hb,by rw[hfp];simp,by rw[hio];intro h;cases h⟩)
 rw[argVs_none (by rw[hio];rfl),g1,Array.toArray_toList]at hrun
 unfold Does at hrun
 rw[callFunc_run hE hN hfn hc]at hrun
 refine Calls.mono hrun fun e W' hp=> ?_
 obtain⟨v,rfl,KS',os,is,q1,q2,⟨q3,q4⟩,q5,q6,q7,q8,q9,q10,_,_⟩:=hp
 have his:is=[]:=by rw[hio]at q4;exact List.eq_nil_of_length_eq_zero q4
 subst his
 rw[List.append_nil]at q3
 have hall:∀b,b<W.heap.size→Same W W' b:=fun b hb=>q10 b hb (by rw[hfp];simp) (by rw[hio];intro h;cases h)
 have hd:os.map SG.d=[⟨.bool,true⟩]:=q3.trans hz
 have hv:v= .bool true:=by
  rw[q2]
  obtain⟨y,hy⟩:∃y,os=[y]:=by
   match os,hd with
   |[y],_=>exact⟨y,rfl⟩
   |[],h=>cases h
   |_::_::_,h=>simp at h
  subst hy
  simp only[List.map_cons,List.map_nil,List.cons.injEq,and_true]at hd
  obtain⟨yt,yg⟩:=y
  simp only[SG.d]at hd
  injection hd with h1 h2
  subst h1
  have h2:yg=true:=eq_of_heq h2
  subst h2
  rfl
 refine⟨by rw[hv], ?_,kept_of q9 hall⟩
 have hlt:=DataW.TrodAll.lt hA
 -- below the old heap nothing has changed
 have hB:RowKit.Below W.heap.size W {W' with tape:=W.tape,os:=W.os,output:=W.output}:=⟨rfl,rfl,rfl,q9.size,fun k hk=>(hall k hk).heap⟩
 have key:∀{tids:List TypeId} {ts:List Ty} {vs:List Value} {ds:List (DataW H)} {ps:List MemPlace},DataW.TrodAll enc P W 0 (fun _=>true) true tids vs ds ps→tysR P tids ts→(∀x∈ps,x.block<W.heap.size)→
   DataW.TrodAll enc P W' 0 (fun b=>decide (b<W.heap.size)) true tids vs ds ps:=by
  intro tids
  induction tids with
  |nil=>intro ts vs ds ps h _ _;cases vs<;>cases ds<;>first|exact h|exact h.elim
  |cons a tids ih=>
   intro ts vs ds ps h hT hlt
   match ts,vs,ds,hT,h with
   |t::ts,v::vs,d::ds,hT,h=>
    obtain⟨p1,q1,h1,h2,rfl⟩:=h
    obtain⟨k1,k2,k3,k4,k5,k6⟩:=hT
    have h3:=RowKit.Below.trod hl k4 k5 h1 hB fun x hx=>hlt x (by simp[hx])
    exact⟨p1,q1,DataW.Trod.of_heap (show({W' with tape:=W.tape,os:=W.os,output:=W.output}:World).heap=W'.heap from rfl) h3,ih h2 k6 fun x hx=>hlt x (by simp[hx]),rfl⟩
 exact key hA hT hlt
theorem trod_len{H:Type}{enc:TypeId×Value→H}{P:Program}{w:World}{base:Nat}{sp:Nat→Bool}{held:Bool}:∀{ts:List TypeId} {vs:List Value} {ds:List (DataW H)} {ps:List MemPlace},DataW.TrodAll enc P w base sp held ts vs ds ps→ds.length=ts.length
 |[],[],[],_,_=>rfl
 |_::_,_::_,_::_,_,⟨_,_,_,h,_⟩=>by simp only[List.length_cons];rw[trod_len h]
 |[],_::_,_,_,h=>h.elim
 |[],[],_::_,_,h=>h.elim
 |_::_,[],_,_,h=>h.elim
 |_::_,_::_,[],_,h=>h.elim
end
section
def KeptM(w w':World):Prop:=Grew w w'∧∀b,b<w.heap.size→w'.heap[b]? =w.heap[b]?
theorem KeptM.below{w w':World}(h:RowKit.Below w.heap.size w w'):KeptM w w':=⟨⟨h.size,h.os,h.output⟩,h.block⟩
theorem KeptM.refl(w:World):KeptM w w:=⟨Grew.refl w,fun _ _=>rfl⟩
def tabs0:Tabs:=⟨fun _=>True,fun _=>False,fun _ _ _ _=>trivial⟩
def tabsOf(P:Program)(name:String)(k:IntKind)(zs:List Int):Tabs where
 T w:=Lib.TabIs P w name k zs
 B b:=P.globalNamed name=some b
 stable w w' h ht:=by
  unfold Lib.TabIs World.var? at*
  cases hg:P.globalNamed name with
  |none=>rw[hg]at ht;cases ht
  |some g=>
   rw[hg]at ht
   simp only[Option.bind_some]at ht ⊢
   rw[(h g hg).heap]
   exact ht
theorem fnOK_ext{P:Program}{τ:Tabs}{f:Nat}{fn:Func}{c:Code}{s:Sig}{G:s.inT.D→Option s.outT.D}(hf:P.funcs[f]? =some fn)(hn:(fn.name== "runtime.NumGoroutine")=false)(hc:fn.body=some c)(hio:s.io=none)
  (h:∀{w:World} {KS:Nat→Prop} {gs:List SG} {x:s.inT.D} {z:s.outT.D},unD s.inTs x=gs.map SG.d→G x=some z→(∀y∈gs,okG w KS y.t y.g)→(∀b,KS b→b<w.heap.size)→τ.T w→
   ∃y:SG,unD s.outTs z=[y.d]∧y.fp=[]∧(∀w KS,okG w KS y.t y.g)∧Calls P f (gs.map SG.v).toArray w fun e w'=>e= .returned y.v∧KeptM w w'):FnOK P τ f s G:=by
 intro w KS gs A x z _ hx hz hok hnd hfp hKS _ hT _
 obtain⟨y,h1,h2,h3,h4⟩:=h hx hz hok hKS hT
 rw[argVs_none (by rw[hio];rfl)]
 have hrun:(callFunc f (gs.map SG.v).toArray).run P w= .ok (.enter f (gs.map SG.v).toArray) w:=by
  unfold callFunc
  rw[Sem.run_bind]
  have h1:(program:Sem Program).run P w= .ok P w:=rfl
  rw[h1]
  simp only[Result.andThen_ok,hf,hn,hc,Option.isNone_some,Bool.false_eq_true,if_false,Sem.run_pure]
 unfold Does
 rw[hrun]
 refine Calls.mono h4 fun e w' hp=> ?_
 obtain⟨rfl,hb⟩:=hp
 refine⟨y.v,rfl,KS,[y],[],fun b hb=>hb,rfl,⟨by rw[h1];rfl,by rw[hio];rfl⟩, ?_, ?_, ?_,fun b hb=> .inl hb,hb.1, ?_, ?_, ?_⟩
 ·intro u hu
  simp only[List.append_nil,List.mem_singleton]at hu
  subst hu;exact h3 w' KS
 ·simp[h2]
 ·simp[h2]
 ·intro b hlt _ _
  exact .of (hb.2 b hlt)
 ·intro hh;rw[hio]at hh;cases hh
 ·intro _ u hu;cases hu
theorem sg_of{y:SG}{t:Ty}{x:t.D}(h:(⟨t,x⟩:Dyn)=y.d):∃g:t.G,y=⟨t,g⟩∧er t g=x:=by
 obtain⟨t',g⟩:=y
 simp only[SG.d]at h
 injection h with h1 h2
 subst h1
 exact⟨g,rfl,(eq_of_heq h2).symm⟩
theorem two_of{gs:List SG}{a b:Dyn}(h:[a,b]=gs.map SG.d):∃y z:SG,gs=[y,z]∧a=y.d∧b=z.d:=by
 match gs,h with
 |[y,z],h=>simp only[List.map_cons,List.map_nil,List.cons.injEq,and_true]at h;exact⟨y,z,rfl,h.1,h.2⟩
 |[],h=>cases h
 |[_],h=>simp at h
 |_::_::_::_,h=>simp at h
theorem one_of{gs:List SG}{a:Dyn}(h:[a]=gs.map SG.d):∃y:SG,gs=[y]∧a=y.d:=by
 match gs,h with
 |[y],h=>simp only[List.map_cons,List.map_nil,List.cons.injEq,and_true]at h;exact⟨y,rfl,h⟩
 |[],h=>cases h
 |_::_::_,h=>simp at h
def ext_strings_IndexByte(x:ByteArray×Int):Option Int:=some (Lib.indexByte x.1.data.toList x.2.toNat.toUInt8)
theorem fnOK_IndexByte{P:Program}{τ:Tabs}{f:Nat}{fn:Func}{c:Code}(hf:P.funcs[f]? =some fn)(hn:(fn.name== "runtime.NumGoroutine")=false)(hc:fn.body=some c)
  (h:∀(s:ByteArray) (c:Int) (w:World),Calls P f #[.string s,.int .u8 c] w fun e w'=>e= .returned (.int .i64 (Lib.indexByte s.data.toList c.toNat.toUInt8))∧w'=w):
  FnOK P τ f ⟨[.val .str,.val (.int .u8)],[.int .i64],none⟩ ext_strings_IndexByte:=by
 refine fnOK_ext hf hn hc rfl fun{w KS gs x z} hx hz _ _ _=> ?_
 obtain⟨y1,y2,rfl,h1,h2⟩:=two_of hx
 obtain⟨g1,rfl,e1⟩:=sg_of h1
 obtain⟨g2,rfl,e2⟩:=sg_of h2
 injection hz with hz
 subst hz
 refine⟨⟨.int .i64,_⟩,rfl,rfl,fun _ _=>trivial, ?_⟩
 refine Calls.mono (h g1 g2 w) fun e w' hp=>⟨?_,hp.2▸KeptM.refl _⟩
 rw[hp.1]
 show _=Ending.returned (.int .i64 (Lib.indexByte x.1.data.toList x.2.toNat.toUInt8))
 rw[←e1,←e2]
 rfl
def ext_strings_ContainsAny(x:ByteArray×ByteArray):Option Bool:=
 if x.1.size<4294967281∧x.2.size<4294967281∧x.2.data.toList.all (fun b=>decide (b.toNat<128))=true then some (Lib.containsAny x.1.data.toList x.2.data.toList)else none
def ext_strings_Repeat(x:ByteArray×Int):Option ByteArray:=
 if 0≤x.2∧x.2≤9223372036854775807∧x.1.size*x.2.toNat≤140737488355328 then some ⟨(Lib.repeatL x.1.data.toList x.2.toNat).toArray⟩else none
theorem fnOK_Repeat{P:Program}{τ:Tabs}{f:Nat}{fn:Func}{c:Code}(hf:P.funcs[f]? =some fn)(hn:(fn.name== "runtime.NumGoroutine")=false)(hc:fn.body=some c)
  (h:∀(s:ByteArray) (c:Nat) (w:World),c≤9223372036854775807→s.size*c≤140737488355328→Calls P f #[.string s,.int .i64 c] w fun e w'=>e= .returned (.string ⟨(Lib.repeatL s.data.toList c).toArray⟩)∧RowKit.Below w.heap.size w w'):
  FnOK P τ f ⟨[.val .str,.val (.int .i64)],[.str],none⟩ ext_strings_Repeat:=by
 refine fnOK_ext hf hn hc rfl fun{w KS gs x z} hx hz _ _ _=> ?_
 obtain⟨y1,y2,rfl,h1,h2⟩:=two_of hx
 obtain⟨g1,rfl,e1⟩:=sg_of h1
 obtain⟨g2,rfl,e2⟩:=sg_of h2
 have hz':ext_strings_Repeat x=some z:=hz
 unfold ext_strings_Repeat at hz'
 split at hz'
 ·rename_i hq
  injection hz' with hz'
  subst hz'
  refine⟨⟨.str,_⟩,rfl,rfl,fun _ _=>trivial, ?_⟩
  have e2':(g2:Int)=x.2:=e2
  have e1':(g1:ByteArray)=x.1:=e1
  have hn:(g2:Int)=((x.2.toNat:Nat):Int):=e2'.trans (Int.toNat_of_nonneg hq.1).symm
  show Calls P f #[.string g1,.int .i64 g2] w _
  have hq1:=hq.2.1
  have hq0:=hq.1
  rw[hn,e1']
  refine Calls.mono (h x.1 x.2.toNat w (by have:=hq.2.1;omega) hq.2.2) fun e w' hp=>⟨?_,KeptM.below hp.2⟩
  rw[hp.1];rfl
 ·cases hz'
def joinD(l:List ByteArray)(sep:ByteArray):List UInt8:=Lib.join (l.map (·.data.toList)) sep.data.toList
def ext_strings_Join(x:List ByteArray×ByteArray):Option ByteArray:=
 if x.1.length≤140737488355328∧(joinD x.1 x.2).length≤140737488355328 then some ⟨(joinD x.1 x.2).toArray⟩else none
theorem rows_str{w:World}{KS:Nat→Prop}:∀{l:List ByteArray} {rows:List Value},Rows' (RepK w KS .str) l rows→rows=l.map Value.string
 |[],_,h=>h
 |x::l,_,⟨c1,c2,e,h1,h2⟩=>by
  have h1:c1=[.string x]:=h1
  rw[e,h1,rows_str h2];rfl
theorem map_get_str{l:List ByteArray}{j:Nat}{y:ByteArray}(h:l[j]? =some y):(l.map Value.string)[j]? =some (.string y):=by rw[List.getElem?_map,h];rfl
theorem fnOK_Join{P:Program}{τ:Tabs}{f:Nat}{fn:Func}{c:Code}(hf:P.funcs[f]? =some fn)(hn:(fn.name== "runtime.NumGoroutine")=false)(hc:fn.body=some c)
  (h:∀(bk o c:Nat) (xs:List ByteArray) (sep:ByteArray) (w:World),(∀(j:Nat) x,xs[j]? =some x→w.cell? ⟨bk,o+j,none⟩=some (.string x))→bk<w.heap.size→xs.length≤140737488355328→xs.length≤c→
   (Lib.join (xs.map (·.data.toList)) sep.data.toList).length≤140737488355328→
   Calls P f #[.slice (some ⟨bk,o,none⟩) xs.length c,.string sep] w fun e w'=>e= .returned (.string ⟨(Lib.join (xs.map (·.data.toList)) sep.data.toList).toArray⟩)∧RowKit.Below w.heap.size w w')
  (h0:∀(a:Option Addr) (c:Nat) (sep:ByteArray) (w:World),Calls P f #[.slice a 0 c,.string sep] w fun e w'=>e= .returned (.string ⟨#[]⟩)∧w'=w):
  FnOK P τ f ⟨[.val (.list false .str),.val .str],[.str],none⟩ ext_strings_Join:=by
 refine fnOK_ext hf hn hc rfl fun{w KS gs x z} hx hz hok hKS _=> ?_
 obtain⟨y1,y2,rfl,h1,h2⟩:=two_of hx
 obtain⟨g1,rfl,e1⟩:=sg_of h1
 obtain⟨g2,rfl,e2⟩:=sg_of h2
 have hz':ext_strings_Join x=some z:=hz
 unfold ext_strings_Join at hz'
 split at hz'
 ·rename_i hq
  injection hz' with hz'
  subst hz'
  refine⟨⟨.str,_⟩,rfl,rfl,fun _ _=>trivial, ?_⟩
  have e1':(g1:ShL ByteArray).l=x.1:=e1
  have e2':(g2:ByteArray)=x.2:=e2
  have hk:RepK w KS (.list false .str) (g1:ShL ByteArray).l [.slice (g1:ShL ByteArray).ad (g1:ShL ByteArray).l.length (g1:ShL ByteArray).cap]:=hok _ (List.mem_cons_self ..)
  obtain⟨ad,cap,k1,k2,k3⟩:=hk
  show Calls P f #[.slice (g1:ShL ByteArray).ad (g1:ShL ByteArray).l.length (g1:ShL ByteArray).cap,.string g2] w _
  simp only[List.cons.injEq,and_true,Value.slice.injEq]at k1
  obtain⟨ka,_,kc⟩:=k1
  rw[e1']at k2 k3 ⊢
  rw[e2',ka,kc]
  rcases k3 with hnil|⟨a,rows,ra,rs,rk,rst,rr⟩
  ·rw[hnil]
   refine Calls.mono (h0 ad cap x.2 w) fun e w' hp=>⟨?_,hp.2▸KeptM.refl _⟩
   rw[hp.1];rfl
  ·subst ra
   obtain⟨ab,ao,asp⟩:=a
   simp only at rs
   subst rs
   refine Calls.mono (h ab ao cap x.1 x.2 w (fun j y hj=> ?_) (hKS _ rk) hq.1 k2.1 hq.2) fun e w' hp=>⟨?_,KeptM.below hp.2⟩
   ·have hrow:=map_get_str hj
    exact rst j (.string y) ((rows_str rr).symm▸hrow)
   ·rw[hp.1];rfl
 ·cases hz'
def ext_strconv_Itoa(x:Int):Option ByteArray:=
 if-9223372036854775808≤x∧x≤9223372036854775807 then some ⟨(Lib.itoa x).toArray⟩else none
theorem fnOK_Itoa{P:Program}{τ:Tabs}{f:Nat}{fn:Func}{c:Code}{name:String}(hf:P.funcs[f]? =some fn)(hn:(fn.name== "runtime.NumGoroutine")=false)(hc:fn.body=some c)
  (h:∀(n:Int),-9223372036854775808≤n→n≤9223372036854775807→∀w:World,Lib.TabIs P w name .u64 Lib.pow10Tab→Calls P f #[.int .i64 n] w fun e w'=>e= .returned (.string ⟨(Lib.itoa n).toArray⟩)∧∃k os,w'=Sort.grow (w.drewN k) os)
  (hT:∀w,τ.T w→Lib.TabIs P w name .u64 Lib.pow10Tab):
  FnOK P τ f ⟨[.val (.int .i64)],[.str],none⟩ ext_strconv_Itoa:=by
 refine fnOK_ext hf hn hc rfl fun{w KS gs x z} hx hz _ _ ht=> ?_
 obtain⟨y1,rfl,h1⟩:=one_of hx
 obtain⟨g1,rfl,e1⟩:=sg_of h1
 have hz':ext_strconv_Itoa x=some z:=hz
 unfold ext_strconv_Itoa at hz'
 split at hz'
 ·rename_i hq
  injection hz' with hz'
  subst hz'
  refine⟨⟨.str,_⟩,rfl,rfl,fun _ _=>trivial, ?_⟩
  have e1':(g1:Int)=x:=e1
  show Calls P f #[.int .i64 g1] w _
  rw[e1']
  refine Calls.mono (h x hq.1 hq.2 w (hT w ht)) fun e w' hp=>⟨?_, ?_⟩
  ·rw[hp.1];rfl
  ·obtain⟨_,k,os,rfl⟩:=hp
   refine⟨⟨?_,rfl,rfl⟩,fun b hb=> ?_⟩
   ·show w.heap.size≤(w.heap++os).size
    rw[Array.size_append];exact Nat.le_add_right ..
   ·show(w.heap++os)[b]? =w.heap[b]?
    exact Array.getElem?_append_left hb
 ·cases hz'
theorem laidVars_tab{P:Program}{W:World}{name:String}{k:IntKind}{zs:List Int}{g:Nat}{t e:TypeId}{n:Nat}
  (hg:P.globalNamed name=some g) (hty:(P.globals[g]?).map (·.type)=some t) (ht:P.underlying t=some (.array n e)) (he:P.underlying e=some (.int k)) (hce:P.cellsOf e=1) (hct:P.cellsOf t=n):
  ∀{l:List (String×DataW Unit)} {ps:List MemPlace},DataW.LaidVars P W l ps→(name,Lib.tabData k zs)∈l→Lib.TabIs P W name k zs
 |[],_,_,hm=>by cases hm
 |(n',d')::r,ps,h,hm=>by
  obtain⟨g',t',cs,fuel,p,q,h1,h2,h3,h4,h5,_⟩:=h
  rcases List.mem_cons.1 hm with e0|e0
  ·cases e0
   obtain rfl:=Option.some.inj (hg.symm.trans h1)
   obtain rfl:=Option.some.inj (hty.symm.trans h2)
   unfold Lib.TabIs
   rw[h3,←Lib.cells_of_tab ht he hce hct h4]
  ·exact laidVars_tab hg hty ht he hce hct h5 e0
theorem laidMet_tab{P:Program}{W:World}{name:String}{k:IntKind}{zs:List Int}{g:Nat}{t e:TypeId}{n:Nat}{l:List (String×DataW Unit)}
  (hg:P.globalNamed name=some g) (hty:(P.globals[g]?).map (·.type)=some t) (ht:P.underlying t=some (.array n e)) (he:P.underlying e=some (.int k)) (hce:P.cellsOf e=1) (hct:P.cellsOf t=n)
  (h:laidMet P l W) (hm:(name,Lib.tabData k zs)∈l):Lib.TabIs P W name k zs:=
 let⟨_,hv,_⟩:=h
 laidVars_tab hg hty ht he hce hct hv hm
theorem tabIs_lt{P:Program}{W:World}{name:String}{k:IntKind}{zs:List Int}(h:Lib.TabIs P W name k zs):∀b,(tabsOf P name k zs).B b→b<W.heap.size:=by
 intro b hb
 have hb:P.globalNamed name=some b:=hb
 unfold Lib.TabIs World.var? at h
 rw[hb]at h
 simp only[Option.bind_some]at h
 split at h
 ·rename_i h1
  exact(Array.getElem?_eq_some_iff.1 h1).1
 ·cases h
theorem fnOK_extN{P:Program}{τ:Tabs}{f:Nat}{fn:Func}{c:Code}{s:Sig}{G:s.inT.D→Option s.outT.D}(hf:P.funcs[f]? =some fn)(hn:(fn.name== "runtime.NumGoroutine")=false)(hc:fn.body=some c)(hio:s.io=none)
  (h:∀{w:World} {KS:Nat→Prop} {gs:List SG} {x:s.inT.D} {z:s.outT.D},unD s.inTs x=gs.map SG.d→G x=some z→(∀y∈gs,okG w KS y.t y.g)→(∀b,KS b→b<w.heap.size)→τ.T w→
   Calls P f (gs.map SG.v).toArray w fun e w'=>∃y:SG,e= .returned y.v∧unD s.outTs z=[y.d]∧okG w' KS y.t y.g∧y.fp.Nodup∧(∀b∈y.fp,w.heap.size≤b∧b<w'.heap.size)∧KeptM w w'):FnOK P τ f s G:=by
 intro w KS gs A x z _ hx hz hok hnd hfp hKS _ hT _
 have h4:=h hx hz hok hKS hT
 rw[argVs_none (by rw[hio];rfl)]
 have hrun:(callFunc f (gs.map SG.v).toArray).run P w= .ok (.enter f (gs.map SG.v).toArray) w:=by
  unfold callFunc
  rw[Sem.run_bind]
  have h1:(program:Sem Program).run P w= .ok P w:=rfl
  rw[h1]
  simp only[Result.andThen_ok,hf,hn,hc,Option.isNone_some,Bool.false_eq_true,if_false,Sem.run_pure]
 unfold Does
 rw[hrun]
 refine Calls.mono h4 fun e w' hp=> ?_
 obtain⟨y,rfl,h1,h2,h3,h5,hb⟩:=hp
 refine⟨y.v,rfl,KS,[y],[],fun b hb=>hb,rfl,⟨by rw[h1];rfl,by rw[hio];rfl⟩, ?_, ?_, ?_,fun b hb=> .inl hb,hb.1, ?_, ?_, ?_⟩
 ·intro u hu
  simp only[List.append_nil,List.mem_singleton]at hu
  subst hu;exact h2
 ·simpa using h3
 ·intro b hbm
  have hbm:b∈y.fp:=by simpa using hbm
  obtain⟨q1,q2⟩:=h5 b hbm
  exact⟨fun hk=>by have:=hKS b hk;omega,.inl ⟨q1,q2⟩⟩
 ·intro b hlt _ _
  exact .of (hb.2 b hlt)
 ·intro hh;rw[hio]at hh;cases hh
 ·intro _ u hu;cases hu
theorem ownG_of_row{w:World}{KS:Nat→Prop}{B:Nat}{e:TypeId}{te:Ty}{v:Value}{n:Nat}{xs:List Value}(h:w.ownsRow B e te.sz v n xs)(rows:List te.G)(hn:rows.length=n)
  (hx:rows.flatMap (cl te)=xs) (hok:∀r∈rows,okG w KS te r) (hfp:∀r∈rows,fp te r=[]) (hT:te.isT=false):
  ∃g:OwnL te.G,v= .slice g.ad g.rows.length g.cap∧g.rows=rows∧okG w KS (.list true te) g∧(fp (.list true te) g).Nodup∧∀b∈fp (.list true te) g,B≤b∧b<w.heap.size:=by
 obtain⟨hl,h⟩:=h
 rcases h with⟨rfl,h0⟩|⟨g,cap,cur,rfl,hb,hg,hnc,hcm,hcs,hct⟩
 ·subst h0
  have hr:rows=[]:=List.eq_nil_of_length_eq_zero hn
  subst hr
  exact⟨⟨none,0,[]⟩,rfl,rfl,.inl ⟨rfl,rfl⟩,List.nodup_nil,fun b hb=>by cases hb⟩
 ·have hlt:g<w.heap.size:=(Array.getElem?_eq_some_iff.1 hg).1
  have hff:rows.flatMap (fp te)=[]:=List.flatMap_eq_nil_iff.2 hfp
  refine⟨⟨some ⟨g,0,none⟩,cap,rows⟩,by rw[hn],rfl, ?_, ?_, ?_⟩
  ·by_cases hc0:cap=0
   ·have hr:rows=[]:=List.eq_nil_of_length_eq_zero (by omega)
    exact .inl ⟨hc0,hr⟩
   ·refine .inr ⟨g,cur.toList.drop (n*te.sz),rfl,by show 0<cap;omega,⟨by show rows.length≤cap;omega,fun e=>by rw[hT]at e;cases e⟩, ?_, ?_,hok⟩
    ·have hcur:rows.flatMap (cl te)++cur.toList.drop (n*te.sz)=cur.toList:=by
      rw[hx,←hct,List.take_append_drop]
     rw[hcur]
     refine⟨⟨e, ?_⟩, ?_, ?_⟩
     ·simp only[World.shape?,hg,Array.length_toList]
     ·intro j u hj
      have hj':cur[j]? =some u:=by rw[←Array.getElem?_toList];exact hj
      simp[World.cell?,hg,hj']
     ·intro j hj
      simp[World.frozen?,hg]
    ·have hcur:rows.flatMap (cl te)++cur.toList.drop (n*te.sz)=cur.toList:=by
      rw[hx,←hct,List.take_append_drop]
     rw[hcur,Array.length_toList]
     exact hcs
  ·simp only[fp]
   split
   ·exact List.nodup_nil
   ·rw[hff];simp
  ·intro b hbm
   simp only[fp]at hbm
   split at hbm
   ·cases hbm
   ·rw[hff]at hbm
    simp at hbm
    subst hbm
    exact⟨hb,hlt⟩
def Ty.flatT:Ty→Bool
 | .int _| .bool| .str=>true
 | .pair a b=>a.flatT&&b.flatT
 |_=>false
theorem flat_notT{te:Ty}(h:te.flatT=true):te.isT=false:=by cases te<;>first|rfl|cases h
theorem flat_rep{w:World}{KS:Nat→Prop}:∀{te:Ty},te.flatT=true→∀{x:te.D} {cs:List Value},RepK w KS te x cs→∃g:te.G,er te g=x∧cl te g=cs∧(∀w' KS',okG w' KS' te g)∧fp te g=[]∧∀u∈cs,u.oneCell'=true:=by
 intro te
 induction te with
 |int k=>intro _ x cs h;exact⟨x,rfl,Eq.symm h,fun _ _=>trivial,rfl,fun u hu=>by rw[h]at hu;simp at hu;subst hu;rfl⟩
 |bool=>intro _ x cs h;exact⟨x,rfl,Eq.symm h,fun _ _=>trivial,rfl,fun u hu=>by rw[h]at hu;simp at hu;subst hu;rfl⟩
 |str=>intro _ x cs h;exact⟨x,rfl,Eq.symm h,fun _ _=>trivial,rfl,fun u hu=>by rw[h]at hu;simp at hu;subst hu;rfl⟩
 |pair a b iha ihb=>
  intro hf x cs h
  simp only[Ty.flatT,Bool.and_eq_true]at hf
  obtain⟨c1,c2,rfl,h1,h2⟩:=h
  obtain⟨g1,p1,p2,p3,p4,p5⟩:=iha hf.1 h1
  obtain⟨g2,q1,q2,q3,q4,q5⟩:=ihb hf.2 h2
  refine⟨(g1,g2),by simp only[er,p1,q1],by simp only[cl,p2,q2],fun w' KS'=>⟨p3 w' KS',q3 w' KS'⟩,by simp only[fp,p4,q4,List.append_nil],fun u hu=> ?_⟩
  rcases List.mem_append.1 hu with hu|hu
  ·exact p5 u hu
  ·exact q5 u hu
 |unit=>intro hf;cases hf
 |list o t _=>intro hf;cases hf
 |ptr t _=>intro hf;cases hf
 |arr n t _=>intro hf;cases hf
 |gone n=>intro hf;cases hf
 |ti=>intro hf;cases hf
theorem flat_rows{w:World}{KS:Nat→Prop}{te:Ty}(hte:te.flatT=true):∀{l:List te.D} {rows:List Value},Rows' (RepK w KS te) l rows→
  ∃gs:List te.G,gs.map (er te)=l∧gs.flatMap (cl te)=rows∧(∀r∈gs,(∀w' KS',okG w' KS' te r)∧fp te r=[])∧∀u∈rows,u.oneCell'=true
 |[],cs,h=>by
  have h:cs=[]:=h
  subst h
  exact⟨[],rfl,rfl,(fun r hr=>by cases hr),(fun u hu=>by cases hu)⟩
 |x::l,_,⟨c1,c2,e,h1,h2⟩=>by
  subst e
  obtain⟨g,p1,p2,p3,p4,p5⟩:=flat_rep hte h1
  obtain⟨gs,q1,q2,q3,q4⟩:=flat_rows hte h2
  refine⟨g::gs,by simp[p1,q1],by simp[p2,q2],fun r hr=> ?_,fun u hu=> ?_⟩
  ·rcases List.mem_cons.1 hr with rfl|hr
   ·exact⟨p3,p4⟩
   ·exact q3 r hr
  ·rcases List.mem_append.1 hu with hu|hu
   ·exact p5 u hu
   ·exact q4 u hu
def ext_Clone(te:Ty)(bytes:Nat)(x:List te.D):Option (List te.D):=if x.length≤maxLen∧x.length*bytes≤140737488355328 then some x else none
theorem fnOK_Clone{P:Program}{τ:Tabs}{f:Nat}{fn:Func}{c:Code}{te:Ty}{bytes:Nat}{e:TypeId}(hte:te.flatT=true)(hf:P.funcs[f]? =some fn)(hn:(fn.name== "runtime.NumGoroutine")=false)(hc:fn.body=some c)
  (h:∀(b off n c:Nat) (gs:List te.G) (w:World),gs.length=n→n≤maxLen→n*bytes≤140737488355328→(∀j u,(gs.flatMap (cl te))[j]? =some u→w.cell? ⟨b,off+j,none⟩=some u)→
   Calls P f #[.slice (some ⟨b,off,none⟩) n c] w fun x w'=>∃v',x= .returned v'∧w'.ownsRow w.heap.size e te.sz v' n (gs.flatMap (cl te))∧v'≠ .slice none 0 0∧RowKit.Below w.heap.size w w')
  (hnil:∀(n c:Nat) (w:World),Calls P f #[.slice none n c] w fun x w'=>x= .returned (.slice none 0 0)∧w'=w)
  (hzero:∀(a:Addr) (c:Nat) (w:World),Calls P f #[.slice (some a) 0 c] w fun x w'=>∃v',x= .returned v'∧w'.ownsRow w.heap.size e te.sz v' 0 []∧v'≠ .slice none 0 0∧RowKit.Below w.heap.size w w'):
  FnOK P τ f ⟨[.val (.list false te)],[.list true te],none⟩ (ext_Clone te bytes):=by
 refine fnOK_extN hf hn hc rfl fun{w KS gs x z} hx hz hok hKS _=> ?_
 obtain⟨y1,rfl,h1⟩:=one_of hx
 obtain⟨g1,rfl,e1⟩:=sg_of h1
 have hz':ext_Clone te bytes x=some z:=hz
 unfold ext_Clone at hz'
 split at hz'
 ·rename_i hq
  injection hz' with hz'
  subst hz'
  have e1':(g1:ShL te.D).l=x:=e1
  have hk:RepK w KS (.list false te) (g1:ShL te.D).l [.slice (g1:ShL te.D).ad (g1:ShL te.D).l.length (g1:ShL te.D).cap]:=hok _ (List.mem_cons_self ..)
  obtain⟨ad,cap,k1,k2,k3⟩:=hk
  show Calls P f #[.slice (g1:ShL te.D).ad (g1:ShL te.D).l.length (g1:ShL te.D).cap] w _
  simp only[List.cons.injEq,and_true,Value.slice.injEq]at k1
  obtain⟨ka,_,kc⟩:=k1
  rw[e1']at k2 k3 ⊢
  rw[ka,kc]
  have fin:∀(news:List Value) (gs:List te.G) (b off:Nat),gs.map (er te)=x→gs.flatMap (cl te)=news→(∀r∈gs,(∀w' KS',okG w' KS' te r)∧fp te r=[])→(∀u∈news,u.oneCell'=true)→
    (∀j u,news[j]? =some u→w.cell? ⟨b,off+j,none⟩=some u)→
    Calls P f #[.slice (some ⟨b,off,none⟩) x.length cap] w fun e w'=>∃y:SG,e= .returned y.v∧unD (Sig.mk [.val (.list false te)] [.list true te] none).outTs x=[y.d]∧okG w' KS y.t y.g∧y.fp.Nodup∧(∀b∈y.fp,w.heap.size≤b∧b<w'.heap.size)∧KeptM w w':=by
   intro news gs b off p1 p2 p3 p4 p5
   have hlen:gs.length=x.length:=by rw[←p1,List.length_map]
   have hnl:news.length=x.length*te.sz:=by
    rw[←p2,←hlen]
    have:∀l:List te.G,(∀r∈l,okG w KS te r)→(l.flatMap (cl te)).length=l.length*te.sz:=by
     intro l
     induction l with
     |nil=>intro _;simp
     |cons a l ih=>
      intro hl
      rw[List.flatMap_cons,List.length_append,okG_len te a (hl a (by simp)),ih fun r hr=>hl r (by simp[hr]),List.length_cons,Nat.succ_mul,Nat.add_comm]
    exact this gs fun r hr=>(p3 r hr).1 w KS
   subst p2
   refine Calls.mono (h b off x.length cap gs w hlen hq.1 hq.2 p5) fun e w' hp=> ?_
   obtain⟨v',rfl,r1,_,r2⟩:=hp
   obtain⟨g,s1,s2,s3,s4,s5⟩:=ownG_of_row (KS:=KS) r1 gs hlen rfl (fun r hr=>(p3 r hr).1 w' KS) (fun r hr=>(p3 r hr).2) (flat_notT hte)
   refine⟨⟨.list true te,g⟩,by rw[s1];rfl, ?_,s3,s4,s5,KeptM.below r2⟩
   show [(⟨.list true te,x⟩:Dyn)]=[⟨.list true te,g.rows.map (er te)⟩]
   rw[s2,p1]
  rcases k3 with hnil'|⟨a,rows,ra,rs,rk,rst,rr⟩
  ·cases ad with
   |none=>
    refine Calls.mono (hnil x.length cap w) fun e w' hp=> ?_
    obtain⟨rfl,rfl⟩:=hp
    refine⟨⟨.list true te,(⟨none,0,[]⟩:OwnL te.G)⟩,rfl, ?_,.inl ⟨rfl,rfl⟩,List.nodup_nil,(fun b hb=>by cases hb),KeptM.refl _⟩
    show [(⟨.list true te,x⟩:Dyn)]=[⟨.list true te,[]⟩]
    rw[hnil']
   |some a=>
    rw[hnil']
    refine Calls.mono (hzero a cap w) fun e w' hp=> ?_
    obtain⟨v',rfl,r1,_,r2⟩:=hp
    obtain⟨g,s1,s2,s3,s4,s5⟩:=ownG_of_row (te:=te) (KS:=KS) r1 [] rfl rfl (fun r hr=>by cases hr) (fun r hr=>by cases hr) (flat_notT hte)
    refine⟨⟨.list true te,g⟩,by rw[s1];rfl, ?_,s3,s4,s5,KeptM.below r2⟩
    show [(⟨.list true te,[]⟩:Dyn)]=[⟨.list true te,g.rows.map (er te)⟩]
    rw[s2];rfl
  ·subst ra
   obtain⟨ab,ao,asp⟩:=a
   simp only at rs
   subst rs
   obtain⟨gs,p1,p2,p3,p4⟩:=flat_rows hte rr
   exact fin rows gs ab ao p1 p2 p3 p4 (fun j u hj=>rst j u hj)
 ·cases hz'
theorem flat_int(k:IntKind):∀gs:List Int,gs.flatMap (cl (.int k))=gs.map (Value.int k)
 |[]=>rfl
 |a::l=>by rw[List.flatMap_cons,flat_int k l];rfl
theorem flat_str:∀gs:List ByteArray,gs.flatMap (cl .str)=gs.map Value.string
 |[]=>rfl
 |a::l=>by rw[List.flatMap_cons,flat_str l];rfl
abbrev ext_slices_Clone_int_int:List Int→Option (List Int):=ext_Clone (.int .i64) 8
abbrev ext_slices_Clone_string_string:List ByteArray→Option (List ByteArray):=ext_Clone .str 16
theorem fnOK_Clone_int{P:Program}{τ:Tabs}{f:Nat}{fn:Func}{c:Code}{e:TypeId}(hf:P.funcs[f]? =some fn)(hn:(fn.name== "runtime.NumGoroutine")=false)(hc:fn.body=some c)
  (h:∀(b off n c:Nat) (zs:List Int) (w:World),n≤zs.length→n*8≤140737488355328→(∀j,j<zs.length→w.cell? ⟨b,off+j,none⟩=some (.int .i64 (zs.getD j 0)))→
   Calls P f #[.slice (some ⟨b,off,none⟩) n c] w fun x w'=>∃v',x= .returned v'∧w'.ownsRow w.heap.size e 1 v' n ((zs.take n).map (Value.int .i64))∧v'≠ .slice none 0 0∧RowKit.Below w.heap.size w w')
  (hnil:∀(n c:Nat) (w:World),Calls P f #[.slice none n c] w fun x w'=>x= .returned (.slice none 0 0)∧w'=w)
  (hzero:∀(a:Addr) (c:Nat) (w:World),Calls P f #[.slice (some a) 0 c] w fun x w'=>∃v',x= .returned v'∧w'.ownsRow w.heap.size e 1 v' 0 []∧v'≠ .slice none 0 0∧RowKit.Below w.heap.size w w'):
  FnOK P τ f ⟨[.val (.list false (.int .i64))],[.list true (.int .i64)],none⟩ ext_slices_Clone_int_int:=by
 refine fnOK_Clone (te:= .int .i64) (bytes:=8) (e:=e) rfl hf hn hc (fun b off n c gs w h1 h2 h3 h4=> ?_) hnil hzero
 have h4':∀j,j<(gs:List Int).length→w.cell? ⟨b,off+j,none⟩=some (.int .i64 ((gs:List Int).getD j 0)):=fun j hj=>by
  refine h4 j _ ?_
  rw[flat_int .i64 gs,List.getElem?_map,List.getElem?_eq_getElem hj]
  simp[List.getD,hj]
 have:=h b off n c gs w (Nat.le_of_eq h1.symm) h3 h4'
 rw[←h1,List.take_length,←flat_int .i64 gs]at this
 rw[←h1]
 exact this
theorem fnOK_Clone_string{P:Program}{τ:Tabs}{f:Nat}{fn:Func}{c:Code}{e:TypeId}(hf:P.funcs[f]? =some fn)(hn:(fn.name== "runtime.NumGoroutine")=false)(hc:fn.body=some c)
  (h:∀(b off n c:Nat) (zs:List ByteArray) (w:World),n≤zs.length→n*16≤140737488355328→(∀j,j<zs.length→w.cell? ⟨b,off+j,none⟩=some (.string (zs.getD j ByteArray.empty)))→
   Calls P f #[.slice (some ⟨b,off,none⟩) n c] w fun x w'=>∃v',x= .returned v'∧w'.ownsRow w.heap.size e 1 v' n ((zs.take n).map Value.string)∧v'≠ .slice none 0 0∧RowKit.Below w.heap.size w w')
  (hnil:∀(n c:Nat) (w:World),Calls P f #[.slice none n c] w fun x w'=>x= .returned (.slice none 0 0)∧w'=w)
  (hzero:∀(a:Addr) (c:Nat) (w:World),Calls P f #[.slice (some a) 0 c] w fun x w'=>∃v',x= .returned v'∧w'.ownsRow w.heap.size e 1 v' 0 []∧v'≠ .slice none 0 0∧RowKit.Below w.heap.size w w'):
  FnOK P τ f ⟨[.val (.list false .str)],[.list true .str],none⟩ ext_slices_Clone_string_string:=by
 refine fnOK_Clone (te:= .str) (bytes:=16) (e:=e) rfl hf hn hc (fun b off n c gs w h1 h2 h3 h4=> ?_) hnil hzero
 have h4':∀j,j<(gs:List ByteArray).length→w.cell? ⟨b,off+j,none⟩=some (.string ((gs:List ByteArray).getD j ByteArray.empty)):=fun j hj=>by
  refine h4 j _ ?_
  rw[flat_str gs,List.getElem?_map,List.getElem?_eq_getElem hj]
  simp[List.getD,hj]
 have:=h b off n c gs w (Nat.le_of_eq h1.symm) h3 h4'
 rw[←h1,List.take_length,←flat_str gs]at this
 rw[←h1]
 exact this
def ext_slices_Repeat_string_string(x:List ByteArray×Int):Option (List ByteArray):=
 match x.1 with
 |[z]=>if 1≤x.2∧x.2≤1000 then some (List.replicate x.2.toNat z)else none
 |_=>none
theorem fnOK_SlRepeat{P:Program}{τ:Tabs}{f:Nat}{fn:Func}{c:Code}{te:TypeId}(hf:P.funcs[f]? =some fn)(hn:(fn.name== "runtime.NumGoroutine")=false)(hc:fn.body=some c)
  (h:∀(b off c n:Nat) (z:ByteArray) (w:World),w.cell? ⟨b,off,none⟩=some (.string z)→b<w.heap.size→1≤n→n≤1000→
   Calls P f #[.slice (some ⟨b,off,none⟩) 1 c,.int .i64 n] w fun e w'=>e= .returned (.slice (some ⟨w.heap.size,0,none⟩) n n)∧w'.heap[w.heap.size]? =some (.cells (List.replicate n (Value.string z)).toArray te (0,0))∧RowKit.Below w.heap.size w w'):
  FnOK P τ f ⟨[.val (.list false .str),.val (.int .i64)],[.list true .str],none⟩ ext_slices_Repeat_string_string:=by
 refine fnOK_extN hf hn hc rfl fun{w KS gs x z} hx hz hok hKS _=> ?_
 obtain⟨y1,y2,rfl,h1,h2⟩:=two_of hx
 obtain⟨g1,rfl,e1⟩:=sg_of h1
 obtain⟨g2,rfl,e2⟩:=sg_of h2
 have hz':ext_slices_Repeat_string_string x=some z:=hz
 have e1':(g1:ShL ByteArray).l=x.1:=e1
 have e2':(g2:Int)=x.2:=e2
 unfold ext_slices_Repeat_string_string at hz'
 split at hz'
 ·rename_i v hv
  split at hz'
  ·rename_i hq
   injection hz' with hz'
   subst hz'
   have hk:RepK w KS (.list false .str) (g1:ShL ByteArray).l [.slice (g1:ShL ByteArray).ad (g1:ShL ByteArray).l.length (g1:ShL ByteArray).cap]:=hok _ (List.mem_cons_self ..)
   obtain⟨ad,cap,k1,k2,k3⟩:=hk
   show Calls P f #[.slice (g1:ShL ByteArray).ad (g1:ShL ByteArray).l.length (g1:ShL ByteArray).cap,.int .i64 g2] w _
   simp only[List.cons.injEq,and_true,Value.slice.injEq]at k1
   obtain⟨ka,_,kc⟩:=k1
   rw[e1',hv]at k2 k3
   rw[e1',hv,e2',ka,kc]
   rcases k3 with hnil|⟨a,rows,ra,rs,rk,rst,rr⟩
   ·cases hnil
   ·subst ra
    obtain⟨ab,ao,asp⟩:=a
    simp only at rs
    subst rs
    obtain⟨m,hm⟩:∃m:Int,x.2=m:=⟨_,rfl⟩
    rw[hm]at hq ⊢
    have q1:(1:Int)≤m:=hq.1
    have q2:m≤(1000:Int):=hq.2
    obtain⟨n,rfl⟩:∃n:Nat,m=(n:Int):=⟨m.toNat,by omega⟩
    have hcell:w.cell? ⟨ab,ao,none⟩=some (.string v):=by
     have:=rst 0 (.string v) (by rw[rows_str rr];rfl)
     simpa using this
    refine Calls.mono (h ab ao cap n v w hcell (hKS _ rk) (by omega) (by omega)) fun e w' hp=> ?_
    obtain⟨p1,p2,p3⟩:=hp
    have row:w'.ownsRow w.heap.size te 1 (.slice (some ⟨w.heap.size,0,none⟩) n n) n (List.replicate n (Value.string v)):=by
     refine⟨by simp,.inr ⟨w.heap.size,n,_,rfl,Nat.le_refl _,p2, ?_, ?_, ?_, ?_⟩⟩
     ·exact Nat.le_refl _
     ·unfold maxLen;omega
     ·simp
     ·simp
    obtain⟨g,s1,s2,s3,s4,s5⟩:=ownG_of_row (te:= .str) (KS:=KS) row (List.replicate n v) (by simp) (by simp[cl,List.flatMap]) (fun r _=>trivial) (fun r _=>rfl) rfl
    refine⟨⟨.list true .str,g⟩,by rw[p1,s1];rfl, ?_,s3,s4,s5,KeptM.below p3⟩
    have hd:er (.list true .str) g=List.replicate n v:=by
     show g.rows.map (er .str)=_
     rw[s2];exact List.map_id' _
    show _=[(⟨.list true .str,er (.list true .str) g⟩:Dyn)]
    rw[hd]
    rfl
  ·cases hz'
 ·cases hz'
end
section
section
variable {D R:Type}
theorem EvQ.lift{f:Nat→Option R}{r:R}(h:Ev f r):EvQ (fun k (self:D→Option R)=>f k) (fun _=>some r):=by
 obtain⟨N,h⟩:=h
 exact⟨N,fun k hk=>by funext self;exact h k hk⟩
theorem EvL.ex{L:Nat→(D→Option R)→D→Option R}(Inv:D→Prop)(Q:R→Prop)(m:D→Nat)
  (h:∀d,Inv d→(∃r,EvQ (fun k (self:D→Option R)=>L k self d) (fun _=>some r)∧Q r)∨∃d',Inv d'∧m d'<m d∧EvS L d d') {d:D} (hd:Inv d):∃r,EvL L d r∧Q r:=by
 have key:∀n d,m d≤n→Inv d→∃r,EvL L d r∧Q r:=by
  intro n
  induction n with
  |zero=>
   intro d hm hd
   rcases h d hd with⟨r,h1,h2⟩|⟨d',h1,h2,h3⟩
   ·exact⟨r,EvL.stop h1,h2⟩
   ·omega
  |succ n ih=>
   intro d hm hd
   rcases h d hd with⟨r,h1,h2⟩|⟨d',h1,h2,h3⟩
   ·exact⟨r,EvL.stop h1,h2⟩
   ·obtain⟨r,h4,h5⟩:=ih d' (by omega) h1
    exact⟨r,EvL.step h3 h4,h5⟩
 exact key (m d) d (Nat.le_refl _) hd
end
theorem bget(s:ByteArray)(i:Nat):s[i]? =s.data.toList[i]? :=by
 by_cases h:i<s.size
 ·rw[getElem?_pos s i h,ByteArray.getElem_eq_getElem_data]
  rw[Array.getElem?_toList]
  exact(Array.getElem?_eq_getElem _).symm
 ·rw[getElem?_neg s i h,Array.getElem?_toList]
  exact(Array.getElem?_eq_none (by rw[ByteArray.size_data];omega)).symm
theorem blen(s:ByteArray):s.data.toList.length=s.size:=by rw[Array.length_toList,ByteArray.size_data]
theorem bext{a b:ByteArray}(h:a.data.toList=b.data.toList):a=b:=ByteArray.ext (Array.toList_inj.1 h)
theorem ofBytes_list(l:List Int):(ofBytes l).data.toList=l.map fun n=>UInt8.ofNat n.toNat:=rfl
theorem ofBytes_size(l:List Int):(ofBytes l).size=l.length:=by rw[←blen,ofBytes_list,List.length_map]
theorem i64_nonneg(k:Nat)(h:k<9223372036854775808):IntKind.i64.wrap (k:Int)=k:=wrap_i64 (by omega) (by omega)
theorem and_255(x:Int):0≤intBits .and .i64 x 255∧intBits .and .i64 x 255≤255:=by
 have h:(BitVec.ofInt 64 x&&& BitVec.ofInt 64 255).toNat≤255:=by
  rw[BitVec.toNat_and]
  have h2:(BitVec.ofInt 64 255).toNat=255:=rfl
  rw[h2]
  exact Nat.and_le_right
 have:intBits .and .i64 x 255=IntKind.i64.wrap ((BitVec.ofInt 64 x&&& BitVec.ofInt 64 255).toNat:Nat):=rfl
 rw[this,i64_nonneg _ (by omega)]
 omega
theorem ofInt_nat(n:Nat)(h:n<18446744073709551616):(BitVec.ofInt 64 (n:Int)).toNat=n:=by
 rw[BitVec.toNat_ofInt]
 have:(n:Int) % ((2 ^ 64:Nat):Int)=n:=Int.emod_eq_of_lt (by omega) (by omega)
 rw[this,Int.toNat_natCast]
theorem or_256(v b:Nat)(hv:v<1099511627776)(hb:b<256):intBits .or .i64 ((v*256:Nat):Int) (b:Int)=((v*256+b:Nat):Int):=by
 have h1:intBits .or .i64 ((v*256:Nat):Int) (b:Int)=IntKind.i64.wrap ((BitVec.ofInt 64 ((v*256:Nat):Int)|||BitVec.ofInt 64 (b:Int)).toNat:Nat):=rfl
 rw[h1,BitVec.toNat_or,ofInt_nat _ (by omega),ofInt_nat _ (by omega)]
 have h2:=Nat.two_pow_add_eq_or_of_lt (i:=8) (b:=b) (by omega) v
 rw[show v*256=2 ^ 8*v by omega,←h2,i64_nonneg _ (by omega)]
theorem okD_i64{n:Int}(h:okD (.int .i64) n): -9223372036854775808≤n∧n≤9223372036854775807:=by
 have h:(Lit.int .i64 n).wf=true:=h
 simp only[Lit.wf,Bool.and_eq_true,decide_eq_true_eq]at h
 exact h
theorem decDigits_small{u:Nat}(h:u<10):Lib.decDigits u=[UInt8.ofNat (48+u)]:=by rw[Lib.decDigits,dif_pos h]
theorem decDigits_big{u:Nat}(h:¬u<10):Lib.decDigits u=Lib.decDigits (u / 10)++[UInt8.ofNat (48+u % 10)]:=by rw[Lib.decDigits,dif_neg h]
theorem decDigits_len:∀(k u:Nat),u<10 ^(k+1)→(Lib.decDigits u).length≤k+1
 |k,u,h=>by
  by_cases hu:u<10
  ·rw[decDigits_small hu];simp
  ·match k,h with
   |0,h=>omega
   |k+1,h=>
    rw[decDigits_big hu,List.length_append,List.length_singleton]
    have:=decDigits_len k (u / 10) (by rw[Nat.pow_succ]at h;omega)
    omega
theorem itoa_len{n:Int}(h0: -9223372036854775808≤n)(h1:n≤9223372036854775807):(Lib.itoa n).length≤21:=by
 unfold Lib.itoa
 split
 ·have:=decDigits_len 19 n.natAbs (by omega)
  rw[List.length_cons];omega
 ·have:=decDigits_len 19 n.toNat (by omega)
  omega
theorem digit_byte{d:Nat}(h:d<10):wrapK .u8 (wrapK .i64 ((48:Int)+(d:Int)))=((48+d:Nat):Int):=by
 have:wrapK .i64 ((48:Int)+(d:Int))=48+d:=by rw[wrapK,wrap_i64 (by omega) (by omega)]
 rw[this,wrapK,wrap_u8 (by omega) (by omega)];omega
theorem digit_list(d:Nat):(ofBytes [((48+d:Nat):Int)]).data.toList=[UInt8.ofNat (48+d)]:=by
 rw[ofBytes_list,List.map_cons,List.map_nil,Int.toNat_natCast]
theorem tdiv_10(m:Nat):(m:Int).tdiv 10=((m / 10:Nat):Int):=(Int.ofNat_tdiv m 10).symm
theorem tmod_10(m:Nat):(m:Int).tmod 10=((m % 10:Nat):Int):=(Int.ofNat_tmod m 10).symm
section
variable {α β D:Type}
def markG(e:α→Int→α×Int):List α→Int→List α×Int
 |[],m=>([],m)
 |x::l,m=>((e x m).1::(markG e l (e x m).2).1,(markG e l (e x m).2).2)
theorem markG_length(e:α→Int→α×Int):∀(l:List α) (m:Int),(markG e l m).1.length=l.length
 |[],m=>rfl
 |x::l,m=>by simp only[markG,List.length_cons,markG_length e l]
theorem markG_bound{e:α→Int→α×Int}{c:α→Nat}{B:Int}:∀{l:List α} {m:Int},0≤m→m+((l.map c).sum:Nat)<B→(∀x∈l,∀m,0≤m→m+(c x:Int)<B→m≤(e x m).2∧(e x m).2≤m+c x)→
  m≤(markG e l m).2∧(markG e l m).2≤m+((l.map c).sum:Nat)
 |[],m,_,_,_=>⟨Int.le_refl _,by simp[markG]⟩
 |x::l,m,h0,hb,he=>by
  simp only[List.map_cons,List.sum_cons]at hb ⊢
  obtain⟨h1,h2⟩:=he x (by simp) m h0 (by omega)
  obtain⟨h3,h4⟩:= @markG_bound e c B l (e x m).2 (by omega) (by omega) fun y hy=>he y (by simp[hy])
  simp only[markG]
  omega
theorem markG_ev{L:Nat→((Unit×(Int×(Int×List α)))→Option β)→(Unit×(Int×(Int×List α)))→Option β}(e:α→Int→α×Int)(c:α→Nat)(B:Int)(l0:List α)(m0:Int)(fin:Int→List α→β)
  (h0:0≤m0) (hb:m0+((l0.map c).sum:Nat)<B) (he:∀x∈l0,∀m,0≤m→m+(c x:Int)<B→m≤(e x m).2∧(e x m).2≤m+c x)
  (hs:∀(pre:List α) x (post:List α) (m:Int),x∈l0→0≤m→m+(c x:Int)<B→pre.length+(post.length+1)=l0.length→EvS L ((),m,(pre.length:Int),pre++x::post) ((),(e x m).2,((pre.length+1:Nat):Int),pre++(e x m).1::post))
  (hf:∀(m:Int) (l:List α),l.length=l0.length→EvL L ((),m,(l0.length:Int),l) (fin m l)):EvL L ((),m0,(0:Int),l0) (fin (markG e l0 m0).2 (markG e l0 m0).1):=by
 have key:∀(post pre:List α) (m:Int),pre.length+post.length=l0.length→(∀x∈post,x∈l0)→0≤m→m+((post.map c).sum:Nat)<B→
   EvL L ((),m,(pre.length:Int),pre++post) (fin (markG e post m).2 (pre++(markG e post m).1)):=by
  intro post
  induction post with
  |nil=>
   intro pre m hl _ _ _
   simp only[List.length_nil,Nat.add_zero]at hl
   rw[hl]
   exact hf m (pre++[]) (by simpa using hl)
  |cons x post ih=>
   intro pre m hl hx hm hB
   simp only[List.length_cons]at hl
   simp only[List.map_cons,List.sum_cons]at hB
   obtain⟨h1,h2⟩:=he x (hx x (by simp)) m hm (by omega)
   refine EvL.step (hs pre x post m (hx x (by simp)) hm (by omega) hl) ?_
   have:=ih (pre++[(e x m).1]) (e x m).2 (by simp;omega) (fun y hy=>hx y (by simp[hy])) (by omega) (by omega)
   simp only[List.length_append,List.length_singleton,List.append_assoc,List.singleton_append]at this
   exact this
 have:=key l0 [] m0 (by simp) (fun x hx=>hx) h0 hb
 simpa using this
theorem heldG_ev{L:Nat→(D→Option β)→D→Option β}(st:Int→Int→D)(e:α→Int→α×Int)(c:α→Nat)(B:Int)(l0:List α)(m0:Int){r:β}
  (h0:0≤m0) (hb:m0+((l0.map c).sum:Nat)<B) (he:∀x∈l0,∀m,0≤m→m+(c x:Int)<B→m≤(e x m).2∧(e x m).2≤m+c x)
  (hs:∀(i:Nat) x (m:Int),x∈l0→0≤m→m+(c x:Int)<B→i<l0.length→(markG e l0 m0).1[i]? =some (e x m).1→EvS L (st m (i:Int)) (st (e x m).2 ((i+1:Nat):Int)))
  (hf:EvL L (st (markG e l0 m0).2 (l0.length:Int)) r):EvL L (st m0 (0:Int)) r:=by
 have key:∀(post pre:List α) (m:Int) (q:List α),pre.length+post.length=l0.length→(∀x∈post,x∈l0)→0≤m→m+((post.map c).sum:Nat)<B→(markG e l0 m0).1=q++(markG e post m).1→q.length=pre.length→(markG e l0 m0).2=(markG e post m).2→
   EvL L (st m (pre.length:Int)) r:=by
  intro post
  induction post with
  |nil=>
   intro pre m q hl _ _ _ _ _ h2
   simp only[List.length_nil,Nat.add_zero]at hl
   rw[h2,←hl]at hf
   exact hf
  |cons x post ih=>
   intro pre m q hl hx hm hB h1 hq h2
   simp only[List.length_cons]at hl
   simp only[List.map_cons,List.sum_cons]at hB
   obtain⟨k1,k2⟩:=he x (hx x (by simp)) m hm (by omega)
   simp only[markG]at h1 h2
   refine EvL.step (hs pre.length x m (hx x (by simp)) hm (by omega) (by omega) ?_) ?_
   ·rw[h1,List.getElem?_append_right (by omega),hq];simp
   ·have:=ih (pre++[x]) (e x m).2 (q++[(e x m).1]) (by simp;omega) (fun y hy=>hx y (by simp[hy])) (by omega) (by omega) (by rw[h1];simp) (by simp[hq]) h2
    simp only[List.length_append,List.length_singleton]at this
    exact this
 exact key l0 [] m0 [] (by simp) (fun x hx=>hx) h0 hb (by simp) rfl rfl
end
end
section
section
variable {S D R α σ β T:Type}
def EvX(F:Nat→S→Option R)(G:(S→Option R)→Prop):Prop:=∃o,EvQ F o∧G o
theorem EvX.const(o:S→Option R){G:(S→Option R)→Prop}(h:G o):EvX (fun _=>o) G:=⟨o,EvQ.const o,h⟩
theorem EvX.congr{F F':Nat→S→Option R}{G:(S→Option R)→Prop}(h:∀k s,F k s=F' k s)(hF:EvX F' G):EvX F G:=by
 obtain⟨o,h1,h2⟩:=hF
 exact⟨o,EvQ.congr (fun k=>funext (h k)) h1,h2⟩
theorem EvX.bif{c:Bool}{F H:Nat→S→Option R}{G:(S→Option R)→Prop}(h1:c=true→EvX F G)(h2:c=false→EvX H G):EvX (fun k s=>bif c then F k s else H k s) G:=by
 cases c
 ·exact h2 rfl
 ·exact h1 rfl
theorem EvX.ifp{p:Prop}[Decidable p]{F:Nat→S→Option R}{G:(S→Option R)→Prop}(hp:p)(h:EvX F G):EvX (fun k s=>if p then F k s else none) G:=by
 simp only[if_pos hp];exact h
theorem EvX.get{o:Option α}{a:α}{g:Nat→S→α→Option R}{G:(S→Option R)→Prop}(h:o=some a)(hg:EvX (fun k s=>g k s a) G):EvX (fun k s=>o.bind (g k s)) G:=by
 simp only[h,Option.bind_some];exact hg
theorem EvX.bind{f:Nat→Option α}{a:α}{g:Nat→S→α→Option R}{G:(S→Option R)→Prop}(h:Ev f a)(hg:EvX (fun k s=>g k s a) G):EvX (fun k s=>(f k).bind (g k s)) G:=by
 obtain⟨o,⟨M,hg⟩,hG⟩:=hg
 obtain⟨N,h⟩:=h
 refine⟨o,⟨N+M,fun k hk=> ?_⟩,hG⟩
 have:=hg k (by omega)
 simp only[h k (by omega),Option.bind_some]
 exact this
def Say(f:Nat→Option Bool)(P:Prop):Prop:=∃b,Ev f b∧(b=true↔P)
theorem Say.run{c F:Nat→Option Bool}{P:Prop}(h:∀k,c (k+1)=F k)(hF:Say F P):Say c P:=by
 obtain⟨b,h1,h2⟩:=hF
 exact⟨b,EvQ.run h h1,h2⟩
theorem Say.iff{f:Nat→Option Bool}{P Q:Prop}(h:Say f P)(e:P↔Q):Say f Q:=by
 obtain⟨b,h1,h2⟩:=h
 exact⟨b,h1,h2.trans e⟩
theorem Say.same{f g:Nat→Option Bool}{P:Prop}(h:Say f P)(h':Say g P):∃b,Ev f b∧Ev g b∧(b=true↔P):=by
 obtain⟨b,h1,h2⟩:=h
 obtain⟨b',h1',h2'⟩:=h'
 have:b'=b:=by
  cases b<;>cases b'<;>simp_all
 subst this
 exact⟨_,h1,h1',h2⟩
theorem EvX.say{f:Nat→Option Bool}{Q:Prop}{g:Nat→S→Bool→Option R}{G:(S→Option R)→Prop}(h:Say f Q)(hg:∀b,(b=true↔Q)→EvX (fun k s=>g k s b) G):EvX (fun k s=>(f k).bind (g k s)) G:=by
 obtain⟨b,h1,h2⟩:=h
 exact EvX.bind h1 (hg b h2)
def GP(P:Prop)(o:S→Option Bool):Prop:=∃b:Bool,(∀s,o s=some b)∧(b=true↔P)
theorem GP.ret{P:Prop}{b:Bool}(h:b=true↔P):GP P (fun _:S=>some b):=⟨b,fun _=>rfl,h⟩
theorem GP.no{P:Prop}(h:¬P):GP P (fun _:S=>some false):=GP.ret (by simp[h])
theorem GP.yes{P:Prop}(h:P):GP P (fun _:S=>some true):=GP.ret ⟨fun _=>h,fun _=>rfl⟩
theorem Say.of{f:Nat→Option Bool}{P:Prop}(h:EvX (fun k (_:Unit)=>f k) (GP P)):Say f P:=by
 obtain⟨o,⟨N,h1⟩,b,h2,h3⟩:=h
 exact⟨b,⟨N,fun k hk=>by have:=congrFun (h1 k hk) ();rw[h2]at this;exact this⟩,h3⟩
def GR(Q:R→Prop)(o:S→Option R):Prop:=∃r,(∀s,o s=some r)∧Q r
theorem GR.ret{Q:R→Prop}{r:R}(h:Q r):GR Q (fun _:S=>some r):=⟨r,fun _=>rfl,h⟩
theorem Ev.of{f:Nat→Option R}{Q:R→Prop}(h:EvX (fun k (_:Unit)=>f k) (GR Q)):∃r,Ev f r∧Q r:=by
 obtain⟨o,⟨N,h1⟩,r,h2,h3⟩:=h
 exact⟨r,⟨N,fun k hk=>by have:=congrFun (h1 k hk) ();rw[h2]at this;exact this⟩,h3⟩
theorem Ev.eq{f:Nat→Option R}{r:R}(h:EvX (fun k (_:Unit)=>f k) (GR fun x=>x=r)):Ev f r:=by
 obtain⟨x,h1,rfl⟩:=Ev.of h
 exact h1
theorem EvX.ofEv{f:Nat→Option R}{r:R}{G:(S→Option R)→Prop}(h:Ev f r)(hG:G fun _=>some r):EvX (fun k (_:S)=>f k) G:=by
 obtain⟨N,h⟩:=h
 exact⟨fun _=>some r,⟨N,fun k hk=>funext fun _=>h k hk⟩,hG⟩
theorem EvX.join{X:Nat→S→Option (T ⊕ R)}{g:Nat→S→T→Option R}{G:(S→Option R)→Prop}
  (h:EvX X fun o=>(∃t,(∀s,o s=some (.inl t))∧EvX (fun k s=>g k s t) G)∨∃b,(∀s,o s=some (.inr b))∧G fun _=>some b):EvX (fun k s=>joinK (X k s) (g k s)) G:=by
 obtain⟨o,⟨N,h1⟩,h2⟩:=h
 rcases h2 with⟨t,h2,o',⟨M,h3⟩,h4⟩|⟨b,h2,h3⟩
 ·refine⟨o',⟨N+M,fun k hk=>funext fun s=> ?_⟩,h4⟩
  have e1:=congrFun (h1 k (by omega)) s
  have e2:=congrFun (h3 k (by omega)) s
  simp only[joinK,e1,h2];exact e2
 ·refine⟨fun _=>some b,⟨N,fun k hk=>funext fun s=> ?_⟩,h3⟩
  have e1:=congrFun (h1 k (by omega)) s
  simp only[joinK,e1,h2]
def GT(t:T)(Q:Prop)(G:(S→Option R)→Prop)(o:S→Option (T ⊕ R)):Prop:=((∀s,o s=some (.inl t))∧Q)∨∃b,(∀s,o s=some (.inr b))∧G fun _=>some b
theorem EvX.joinT{X:Nat→S→Option (T ⊕ R)}{g:Nat→S→T→Option R}{G:(S→Option R)→Prop}(t:T)(Q:Prop)
  (h:EvX X (GT t Q G)) (hg:Q→EvX (fun k s=>g k s t) G):EvX (fun k s=>joinK (X k s) (g k s)) G:=by
 refine EvX.join ?_
 obtain⟨o,h1,h2⟩:=h
 refine⟨o,h1,h2.imp (fun h=>⟨t,h.1,hg h.2⟩) id⟩
theorem GT.inl{G:(S→Option R)→Prop}{t:T}{Q:Prop}(h:Q):GT t Q G (fun _=>some (.inl t)):=Or.inl ⟨fun _=>rfl,h⟩
theorem GT.inr{G:(S→Option R)→Prop}{t:T}{Q:Prop}{b:R}(h:G fun _=>some b):GT t Q G (fun _=>some (.inr b)):=Or.inr ⟨b,fun _=>rfl,h⟩
def GL(mk:σ→Nat→D)(inv:σ→Nat→Prop)(i:Nat)(G:(S→Option R)→Prop)(o:(S×(D→Option R))→Option R):Prop:=
 (∃st,(∀p,o p=p.2 (mk st (i+1)))∧inv st (i+1))∨∃o',(∀p,o p=o' p.1)∧G o'
theorem GL.self{mk:σ→Nat→D}{inv:σ→Nat→Prop}{i:Nat}{G:(S→Option R)→Prop}{d:D}(st:σ)(hd:d=mk st (i+1))(h:inv st (i+1)):GL mk inv i G (fun p=>p.2 d):=by
 subst hd;exact .inl ⟨st,fun _=>rfl,h⟩
theorem GL.up{mk:σ→Nat→D}{inv:σ→Nat→Prop}{i:Nat}{G:(S→Option R)→Prop}(o':S→Option R)(h:G o'):GL mk inv i G (fun p=>o' p.1):= .inr ⟨o',fun _=>rfl,h⟩
theorem GL.ret{mk:σ→Nat→D}{inv:σ→Nat→Prop}{i:Nat}{G:(S→Option R)→Prop}{b:R}(h:G fun _=>some b):GL mk inv i G (fun _=>some b):= .inr ⟨fun _=>some b,fun _=>rfl,h⟩
def GE(G:(S→Option R)→Prop)(o:(S×(D→Option R))→Option R):Prop:=∃o',(∀p,o p=o' p.1)∧G o'
theorem GE.up{G:(S→Option R)→Prop}(o':S→Option R)(h:G o'):GE (D:=D) G (fun p=>o' p.1):=⟨o',fun _=>rfl,h⟩
theorem GE.ret{G:(S→Option R)→Prop}{b:R}(h:G fun _=>some b):GE (D:=D) G (fun _=>some b):=⟨fun _=>some b,fun _=>rfl,h⟩
theorem EvX.out{F:Nat→S→Option R}{G:(S→Option R)→Prop}(h:EvX F G):EvX (fun k (p:S×(D→Option R))=>F k p.1) (GE G):=by
 obtain⟨o,⟨N,h1⟩,h2⟩:=h
 exact⟨fun p=>o p.1,⟨N,fun k hk=>funext fun p=>congrFun (h1 k hk) p.1⟩,o,fun _=>rfl,h2⟩
theorem EvX.outL{mk:σ→Nat→D}{inv:σ→Nat→Prop}{i:Nat}{F:Nat→S→Option R}{G:(S→Option R)→Prop}(h:EvX F G):EvX (fun k (p:S×(D→Option R))=>F k p.1) (GL mk inv i G):=by
 obtain⟨o,⟨N,h1⟩,h2⟩:=h
 exact⟨fun p=>o p.1,⟨N,fun k hk=>funext fun p=>congrFun (h1 k hk) p.1⟩,.inr ⟨o,fun _=>rfl,h2⟩⟩
theorem EvX.upto{L:Nat→S→(D→Option R)→D→Option R}(n:Nat)(mk:σ→Nat→D)(inv:σ→Nat→Prop){G:(S→Option R)→Prop}
  (hs:∀st i,i<n→inv st i→EvX (fun k (p:S×(D→Option R))=>L k p.1 p.2 (mk st i)) (GL mk inv i G))
  (he:∀st,inv st n→EvX (fun k (p:S×(D→Option R))=>L k p.1 p.2 (mk st n)) (GE G)) (s0:σ) (i0:Nat) (hi:i0≤n) (h0:inv s0 i0):
  EvX (fun k s=>iter k (L k s) (mk s0 i0)) G:=by
 have key:∀m i st,i+m=n→inv st i→∃o,(∃N,∀r k,N≤r→N≤k→∀s,iter r (L k s) (mk st i)=o s)∧G o:=by
  intro m
  induction m with
  |zero=>
   intro i st hi hv
   have:i=n:=by omega
   subst this
   obtain⟨o,⟨N,h1⟩,o',h2,h3⟩:=he st hv
   refine⟨o',⟨N+1,fun r k hr hk s=> ?_⟩,h3⟩
   obtain⟨m,rfl⟩:∃m,r=m+1:=⟨r-1,by omega⟩
   have:L k s (iter m (L k s)) (mk st i)=o (s,iter m (L k s)):=congrFun (h1 k (by omega)) (s,iter m (L k s))
   simp only[iter]
   rw[this,h2]
  |succ m ih=>
   intro i st hi hv
   obtain⟨o,⟨N,h1⟩,h2⟩:=hs st i (by omega) hv
   rcases h2 with⟨st',h2,h3⟩|⟨o',h2,h3⟩
   ·obtain⟨o',⟨M,h4⟩,h5⟩:=ih (i+1) st' (by omega) h3
    refine⟨o',⟨N+M+1,fun r k hr hk s=> ?_⟩,h5⟩
    obtain⟨m,rfl⟩:∃m,r=m+1:=⟨r-1,by omega⟩
    have:L k s (iter m (L k s)) (mk st i)=o (s,iter m (L k s)):=congrFun (h1 k (by omega)) (s,iter m (L k s))
    simp only[iter]
    rw[this,h2]
    exact h4 m k (by omega) (by omega) s
   ·refine⟨o',⟨N+1,fun r k hr hk s=> ?_⟩,h3⟩
    obtain⟨m,rfl⟩:∃m,r=m+1:=⟨r-1,by omega⟩
    have:L k s (iter m (L k s)) (mk st i)=o (s,iter m (L k s)):=congrFun (h1 k (by omega)) (s,iter m (L k s))
    simp only[iter]
    rw[this,h2]
 obtain⟨o,⟨N,h1⟩,h2⟩:=key (n-i0) i0 s0 (by omega) h0
 exact⟨o,⟨N,fun k hk=>funext fun s=>h1 k k hk hk s⟩,h2⟩
theorem EvX.list{L:Nat→S→(D→Option R)→D→Option R}(l:List α)(mk:σ→Nat→D)(inv:σ→Nat→Prop){G:(S→Option R)→Prop}
  (hs:∀st i x,l[i]? =some x→i<l.length→inv st i→EvX (fun k (p:S×(D→Option R))=>L k p.1 p.2 (mk st i)) (GL mk inv i G))
  (he:∀st,inv st l.length→EvX (fun k (p:S×(D→Option R))=>L k p.1 p.2 (mk st l.length)) (GE G)) (s0:σ) (h0:inv s0 0):
  EvX (fun k s=>iter k (L k s) (mk s0 0)) G:=
 EvX.upto l.length mk inv (fun st i hi hv=>hs st i l[i] (List.getElem?_eq_getElem hi) hi hv) he s0 0 (Nat.zero_le _) h0
end
end
end Go.Eng

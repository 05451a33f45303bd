/- The tables, the residual functions and lemmas of this seat: parts of the proof of the law; conditions: those that each names. -/
import Derived.Test.YtmmgfgfkkpeedaaGreatDrp
import Derived.Test.YtmmgfgfkkpeedaaGreatSyt
import Derived.Test.YtmmgfgfkkpeedaaGreatPck
set_option linter.unusedVariables false
set_option linter.unusedSimpArgs false
set_option maxRecDepth 100000
namespace Go.Proofs.YtmmgfgfkkpeedaaGreat
open Go.Eng
abbrev PMach:=PDisk×Int×PSys
theorem zAll_mem{s:ByteArray}:∀(l:List Int) (d:List ByteArray),s∈zAll d l→s∈d∨s=zero32
 |[],d,h=> .inl h
 |b::l,d,h=>by
  rcases zAll_mem l (d.set b.toNat zero32) h with h|h
  ·exact List.mem_or_eq_of_mem_set h
  ·exact .inr h
def okF(f:PFS):Prop:=fsSmall f∧∀s∈fD f,s.size<big
theorem okF_free{f:PFS}(h:okF f)(i:Nat):okF (freeV f i):=by
 refine⟨fun n hn=> ?_,fun s hs=> ?_⟩
 ·rcases List.mem_or_eq_of_mem_set (show n∈(fI f).set i zeroI from hn)with h'|h'
  ·exact h.1 n h'
  ·rw[h'];exact⟨by show 0<big;unfold big;omega,by show 0<big;unfold big;omega,by show 0<big;unfold big;omega⟩
 ·rcases zAll_mem _ _ (show s∈zAll (fD f) _ from hs)with h'|h'
  ·exact h.2 s h'
  ·rw[h',zero32_size];unfold big;omega
theorem okF_drop:∀(l:List Int) {f:PFS},okF f→okF (dropL f l)
 |[],f,h=>h
 |i::l,f,h=>by
  show okF (dropL (if i=0 then f else freeV f i.toNat) l)
  split
  ·exact okF_drop l h
  ·exact okF_drop l (okF_free h _)
def mkP(c:PCred):PProc:=(c,List.replicate 3 (0,0,0))
noncomputable def newS(f:PFS)(l:List PCred):PSys:=(dropV f,l.map mkP)
def zSys:PSys:=((0,[],[],[]),[])
open Classical in
noncomputable def newV(f:PFS)(l:List PCred):PSys:=if sysP (newS f l)then newS f l else zSys
theorem newS_small{f:PFS}{l:List PCred}(h:okF f)(hl:l.length<4611686018427387904)(hc:∀c∈l,c.2.2.length≤100000000):sysSmall (newS f l):=by
 obtain⟨h1,h2⟩:=okF_drop (orphV f) h
 refine⟨⟨by show(l.map mkP).length<_;rw[List.length_map];exact hl,fun p hp=> ?_⟩,h1,h2⟩
 obtain⟨c,hcm,rfl⟩:=List.mem_map.1 (show p∈l.map mkP from hp)
 have:=hc c hcm
 exact⟨by show(List.replicate 3 _).length<_;rw[List.length_replicate];omega,by show c.2.2.length<_;omega⟩
theorem zSys_small:sysSmall zSys:=⟨⟨by show 0<_;omega,fun p hp=>by cases hp⟩,(fun n hn=>by cases hn),(fun s hs=>by cases hs)⟩
theorem zSys_no:¬sysP zSys:=fun h=>absurd h.np (by decide)
theorem take_map{α β:Type}(g:α→β){l:List α}{i:Nat}{c:α}(h:l[i]? =some c):(l.take (i+1)).map g=(l.take i).map g++[g c]:=by
 rw[List.take_add_one,h,List.map_append];rfl
theorem spec_copyCred_ev(c:PCred)(h:c.2.2.length≤100000000):Ev (fun k=>c_spec_l06Copy k c) c:=by
 refine EvQ.run (fun k=>spec_l06Copy_run k c) ?_
 simp only[spec_l06Copy,List.length_nil,Nat.zero_add,if_pos (sc c.2.2.length 8),List.nil_append]
 exact EvQ.const _
theorem impl_copyCred_ev(c:PCred)(h:c.2.2.length≤100000000):Ev (fun k=>c_impl_copyCred k c) c:=by
 refine EvQ.run (fun k=>impl_copyCred_run k c) ?_
 simp only[impl_copyCred]
 exact EvQ.bind (cl_int _ h) (EvQ.const _)
theorem three_ok:(0:Int)≤3∧(3:Int)≤3∧(3:Int)*24≤(capBytes:Int):=by unfold capBytes;omega
theorem spec_New_ev{f:PFS}{l:List PCred}(h:okF f)(hf:fsCap f)(hl:l.length≤1048576)(hc:∀c∈l,c.2.2.length≤100000000):Ev (fun k=>c_spec_NewSystem k (f,l)) (newV f l):=by
 refine EvQ.run (fun k=>spec_NewSystem_run k _ _) ?_
 simp only[spec_NewSystem]
 refine EvQ.bind (drop_same h.1 h.2 hf).1 (EvL.ev ?_)
 refine EvL.count (L:=spec_NewSystem_l1) (r:=newV f l) (fun i=>((),(),l,(l.length:Int),(i:Int),(dropV f,(l.take i).map mkP),zSys)) l.length (fun i hi=> ?_) (EvL.stop ?_)
 ·have hx:l[i]? =some l[i]:=List.getElem?_eq_getElem hi
  have hw:wrapK .i64 ((i:Int)+1)=((i+1:Nat):Int):=by rw[i64w (by omega) (by omega)];omega
  have hcap:(((l.take i).map mkP).length+([(l[i],List.replicate (3:Int).toNat ((0:Int),(0:Int),(0:Int)))]:List PProc).length)*64≤capBytes:=by
   rw[List.length_map,List.length_take];show(_+1)*64≤capBytes;exact sc _ _
  simp only[EvS,spec_NewSystem_l1,Int.ofNat_lt,hi,decide_true,cond_true,Int.natCast_nonneg,if_true,Int.toNat_natCast,hx,Option.bind_some,hw]
  refine EvQ.bindS (spec_copyCred_ev l[i] (hc _ (List.getElem_mem hi))) ?_
  simp only[three_ok,if_true,hcap]
  rw[take_map mkP hx]
  exact EvQ.const _
 ·simp only[spec_NewSystem_l1,Int.lt_irrefl,decide_false,cond_false,List.take_length]
  have hsay:=spec_IsSystem_say (newS f l) (newS_small h (by omega) hc)
  by_cases hP:sysP (newS f l)
  ·refine EvQ.bindS (say_true hsay hP) ?_
   rw[newV,if_pos hP]
   simp only[Bool.not_true,cond_false]
   exact EvQ.const _
  ·refine EvQ.bindS (say_false hsay hP) ?_
   rw[newV,if_neg hP]
   simp only[Bool.not_false,cond_true]
   exact EvQ.const _
theorem impl_New_ev{f:PFS}{l:List PCred}(h:okF f)(hf:fsCap f)(hl:l.length≤1048576)(hc:∀c∈l,c.2.2.length≤100000000):Ev (fun k=>c_impl_NewSystem k (f,l)) (newV f l):=by
 refine EvQ.run (fun k=>impl_NewSystem_run k _ _) ?_
 simp only[impl_NewSystem]
 by_cases h4:l.length=4
 case neg=>
  rw[show((l.length:Int) != (4:Int))=true by simp;omega]
  simp only[cond_true]
  rw[newV,if_neg fun hP=>h4 (by have:=hP.np;rw[←List.length_map (f:=mkP)];exact this)]
  exact EvQ.const _
 rw[show((l.length:Int) != (4:Int))=false by simp;omega]
 simp only[cond_false]
 refine EvQ.bind (drop_same h.1 h.2 hf).2 (EvL.ev ?_)
 refine EvL.count (L:=impl_NewSystem_l1) (r:=newV f l) (fun i=>((),(),l,(l.length:Int),(i:Int),(dropV f,(l.take i).map mkP),zSys)) l.length (fun i hi=> ?_) (EvL.stop ?_)
 ·have hx:l[i]? =some l[i]:=List.getElem?_eq_getElem hi
  have hw:wrapK .i64 ((i:Int)+1)=((i+1:Nat):Int):=by rw[i64w (by omega) (by omega)];omega
  have hcap:(((l.take i).map mkP).length+([(l[i],List.replicate (3:Int).toNat ((0:Int),(0:Int),(0:Int)))]:List PProc).length)*64≤capBytes:=by
   rw[List.length_map,List.length_take];show(_+1)*64≤capBytes;exact sc _ _
  simp only[EvS,impl_NewSystem_l1,Int.ofNat_lt,hi,decide_true,cond_true,Int.natCast_nonneg,if_true,Int.toNat_natCast,hx,Option.bind_some,hw]
  refine EvQ.bindS (impl_copyCred_ev l[i] (hc _ (List.getElem_mem hi))) ?_
  simp only[three_ok,if_true,hcap]
  rw[take_map mkP hx]
  exact EvQ.const _
 ·simp only[impl_NewSystem_l1,Int.lt_irrefl,decide_false,cond_false,List.take_length]
  have hsay:=impl_IsSystem_say (newS f l) (newS_small h (by omega) hc)
  by_cases hP:sysP (newS f l)
  ·refine EvQ.bindS (say_true hsay hP) ?_
   rw[newV,if_pos hP]
   simp only[Bool.not_true,cond_false]
   exact EvQ.const _
  ·refine EvQ.bindS (say_false hsay hP) ?_
   rw[newV,if_neg hP]
   simp only[Bool.not_false,cond_true]
   exact EvQ.const _
open Classical in
noncomputable def startV(f:PFS)(l:List PCred):PMach×Bool:=if sysP (newS f l)then(((packV (dropV f),[]),0,newS f l),true)else((([],[]),0,zSys),false)
theorem impl_Start_ev{f:PFS}{l:List PCred}(h:okF f)(hf:fsCap f)(hl:l.length≤1048576)(hc:∀c∈l,c.2.2.length≤100000000):Ev (fun k=>c_impl_StartMachine k (f,l)) (startV f l):=by
 refine EvQ.run (fun k=>impl_StartMachine_run k _ _) ?_
 simp only[impl_StartMachine]
 refine EvQ.bind (impl_New_ev h hf hl hc) ?_
 by_cases hP:sysP (newS f l)
 ·rw[newV,startV,if_pos hP,if_pos hP]
  have hsm:=newS_small h (by omega) hc
  refine EvQ.bind (say_true (impl_IsSystem_say _ hsm) hP) ?_
  simp only[Bool.not_true,cond_false]
  refine EvQ.bind (EvQ.run (fun k=>impl_FormatFS_run k _) ?_) (EvQ.const _)
  simp only[impl_FormatFS]
  exact EvQ.bind (impl_Pack_ev hP.fs hsm.2.1 (say_true (impl_IsFS_say _ hsm.2.1) hP.fs)) (EvQ.const _)
 ·rw[newV,startV,if_neg hP,if_neg hP]
  refine EvQ.bind (say_false (impl_IsSystem_say _ zSys_small) zSys_no) ?_
  simp only[Bool.not_false,cond_true]
  exact EvQ.const _
theorem spec_Start_ev{f:PFS}{l:List PCred}(h:okF f)(hf:fsCap f)(hl:l.length≤1048576)(hc:∀c∈l,c.2.2.length≤100000000):Ev (fun k=>c_spec_StartMachine k (f,l)) (startV f l):=by
 refine EvQ.run (fun k=>spec_StartMachine_run k _ _) ?_
 simp only[spec_StartMachine]
 refine EvQ.bind (spec_New_ev h hf hl hc) ?_
 by_cases hP:sysP (newS f l)
 ·rw[newV,startV,if_pos hP,if_pos hP]
  have hsm:=newS_small h (by omega) hc
  rw[show(((newS f l).2.length:Int)==0)=false by rw[hP.np];rfl]
  simp only[cond_false]
  refine EvQ.bind (EvQ.run (fun k=>spec_FormatFS_run k _) ?_) (EvQ.const _)
  simp only[spec_FormatFS]
  refine EvQ.bind (say_true (spec_IsFS_say _ hsm.2.1 hsm.2.2) hP.fs) ?_
  simp only[Bool.not_true,cond_false]
  exact EvQ.bind (spec_Pack_ev hP.fs hsm.2.1) (EvQ.const _)
 ·rw[newV,startV,if_neg hP,if_neg hP]
  exact EvQ.const _
theorem acl_len{l:List PAcl}(h:aclP l):l.length≤6:=h.1
theorem ino_size{n:PInode}(h:inodeP n):szM_Inode n≤2000:=by
 have e:szM_Inode n=(xBlk n).length+(xAcl n).length+(xDef n).length:=rfl
 rcases h with h|h
 ·rw[h];exact Nat.zero_le _
 ·have h1:=acl_len h.2.2.1
  have h2:=acl_len h.2.2.2.1
  have h3:=h.2.1
  have h4:=h3.2.2.2.2.2.2
  have h5:0≤xSize n∧xSize n≤256:=h3.2.2.2.2.1
  have:(xBlk n).length≤100:=by
   unfold needI at h4
   split at h4<;>omega
  omega
theorem sum_le{α:Type}(g:α→Nat)(B:Nat):∀l:List α,(∀x∈l,g x≤B)→(l.map g).sum≤B*l.length
 |[],_=>Nat.zero_le _
 |x::l,h=>by
  have h1:=h x (List.mem_cons_self ..)
  have h2:=sum_le g B l fun y hy=>h y (List.mem_cons_of_mem _ hy)
  simp only[List.map_cons,List.sum_cons,List.length_cons,Nat.mul_succ];omega
theorem fs_size{f:PFS}(h:fsP f):szM_FS f≤100000:=by
 have e:szM_FS f=(fQ f).length+((fI f).length+((fI f).map szM_Inode).sum)+((fD f).length+((fD f).map fun y=>y.size).sum):=rfl
 have h1:=sum_le szM_Inode 2000 (fI f) fun n hn=>by
  obtain⟨i,hi⟩:=List.mem_iff_getElem?.1 hn
  exact ino_size (h.ino i n hi)
 have h2:=sum_le (fun y:ByteArray=>y.size) 32 (fD f) fun s hs=>by
  obtain⟨i,hi⟩:=List.mem_iff_getElem?.1 hs
  exact Nat.le_of_eq (h.sz i s hi)
 have h3:=h.nq
 have h4:=h.ni
 have h5:=h.nd
 rw[e];omega
theorem start_size{f:PFS}{l:List PCred}(hl:szM_CredS l≤1048576):szM_Machine (startV f l).1≤10000000:=by
 unfold startV
 split
 ·rename_i hP
  have h1:=fs_size hP.fs
  obtain⟨q1,q2⟩:=packV_ok hP.fs
  have h2:szM_StringS (packV (dropV f))≤1000000:=szM_small q1 q2
  have e:szM_Machine ((packV (dropV f),[]),0,newS f l)=(szM_StringS (packV (dropV f))+0)+(szM_FS (dropV f)+(((l.map mkP).length+((l.map mkP).map szM_Proc).sum))):=rfl
  have e2:szM_CredS l=l.length+(l.map szM_Cred).sum:=rfl
  have h3:∀l:List PCred,((l.map mkP).map szM_Proc).sum=(l.map szM_Cred).sum+3*l.length:=by
   intro l
   induction l with
   |nil=>rfl
   |cons c l ih=>
    have:szM_Proc (mkP c)=szM_Cred c+3:=rfl
    simp only[List.map_cons,List.sum_cons,List.length_cons,this,ih];omega
  have h1':szM_FS (dropV f)≤100000:=h1
  rw[e,h3,List.length_map];omega
 ·exact(by decide:szM_Machine ((([]:List ByteArray),([]:List PWrite)),(0:Int),zSys)≤10000000)
end Go.Proofs.YtmmgfgfkkpeedaaGreat

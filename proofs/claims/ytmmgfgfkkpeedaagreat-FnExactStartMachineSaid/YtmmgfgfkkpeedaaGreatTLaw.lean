/- The tables, the residual functions and lemmas of this seat: parts of the proof of the law; conditions: those that each names. -/
import Derived.Test.YtmmgfgfkkpeedaaGreatSta
import Derived.Test.YtmmgfgfkkpeedaaGreatHlm
import Derived.Test.YtmmgfgfkkpeedaaGreatMkc
set_option linter.unusedVariables false
set_option linter.unusedSimpArgs false
set_option maxRecDepth 100000
namespace Go.Proofs.YtmmgfgfkkpeedaaGreat
open Go.Eng
theorem m3_le(x:DFS)(hs:szM_FS x≤1048576):m3 x≤1000000000:=by
 have e2:szM_FS x=x.2.1.length+szM_InodeS x.2.2.1+szM_StringS x.2.2.2:=rfl
 have e3:szM_InodeS x.2.2.1=x.2.2.1.length+(x.2.2.1.map szM_Inode).sum:=rfl
 have e4:szM_StringS x.2.2.2=x.2.2.2.length+(x.2.2.2.map fun y=>y.size).sum:=rfl
 have s1:=sum_inodes x.2.2.1
 have hm1:m1 x=1+2*x.2.1.length:=rfl
 have bI:=markG_bound (e:=mkInodeG) (c:=fun x=>7+(inB x).length+3*(inA x).length+3*(inD x).length) (B:=4611686018427387800) (l:=x.2.2.1) (m:=m1 x) (by omega) (by omega) (fun x _ m _ _=>mkInodeG_le x m)
 have hm2:m2 x=(markG mkInodeG x.2.2.1 (m1 x)).2:=rfl
 have hm3:m3 x=m2 x+1*x.2.2.2.length:=rfl
 omega
theorem laws_FnExactStartMachine_ev(x0:DFS)(x1:List DCred)(hx0:okD (TFSk) x0)(hx1:okD (.list false TCredk) x1):Ev (fun k=>c_laws_FnExactStartMachine k (x0,x1)) true:=by
 refine EvQ.run (fun k=>laws_FnExactStartMachine_run k x0 x1) ?_
 simp only[laws_FnExactStartMachine]
 refine EvQ.bind (szFS_ev x0 hx0 (left:=1048576) (by omega) (by omega)) ?_
 by_cases c0:szR (szM_FS x0) 1048576<0
 ·simp only[c0,decide_true,cond_true];exact EvQ.const _
 obtain⟨d0,e0⟩:=szR_nonneg c0
 simp only[c0,decide_false,cond_false]
 rw[e0]
 refine EvQ.bind (szCredS_ev x1 hx1 (left:=1048576-szM_FS x0) (by omega) (by omega)) ?_
 by_cases c1:szR (szM_CredS x1) (1048576-szM_FS x0)<0
 ·simp only[c1,decide_true,cond_true];exact EvQ.const _
 obtain⟨d1,e1⟩:=szR_nonneg c1
 simp only[c1,decide_false,cond_false]
 have hS:szM_FS x0≤1048576:=by omega
 have hC:szM_CredS x1≤1048576:=by omega
 have eC:szM_CredS x1=x1.length+(x1.map szM_Cred).sum:=rfl
 have tF:=toFS_ev x0 (by omega)
 have tC:=toCredS_ev x1 (by omega)
 obtain⟨h1,h2,h3⟩:=fs_small hS
 have hgl:∀c∈x1,c.2.2.length≤100000000:=fun c hc=>by
  have:=le_sum_map szM_Cred hc
  have e:szM_Cred c=c.2.2.length:=rfl
  omega
 have s1:=spec_Start_ev (f:=x0) (l:=x1) ⟨h1,h2⟩ (cap_of hS) (by omega) hgl
 have s2:=impl_Start_ev (f:=x0) (l:=x1) ⟨h1,h2⟩ (cap_of hS) (by omega) hgl
 have hR:=start_size (f:=x0) hC
 generalize startV x0 x1=r at s1 s2 hR
 have eqR:=eqMachine_ev r.1 (by omega)
 obtain⟨a1,a2,a3,a4,a5⟩:=markParts x0 (by omega)
 obtain⟨k1,k2,k3,k4,k5,k6,S,W,Q,I,D,P,b1,b2,b3,b4,b5,b6,b7,b8⟩:=machParts r.1 (by omega)
 have hcs:∀l:List DCred,(l.map fun x=>2+x.2.2.length).sum=2*l.length+(l.map szM_Cred).sum:=by
  intro l
  induction l with
  |nil=>rfl
  |cons c l ih=>
   have:szM_Cred c=c.2.2.length:=rfl
   simp only[List.map_cons,List.sum_cons,List.length_cons,this,ih];omega
 have hcs1:=hcs x1
 have m3le:m3 x0≤1000000000:=m3_le x0 hS
 have mC:=markCredS_ev x1 (m3 x0) a5 (by omega) (by omega)
 have bC:=markG_bound (e:=mkCredG) (c:=fun x=>2+x.2.2.length) (B:=4611686018427387800) (l:=x1) (m:=m3 x0) a5 (by omega) (fun x _ m _ _=>mkCredG_le x m)
 have n1:decide ((markG mkCredG x1 (m3 x0)).2<0)=false:=decide_eq_false (by omega)
 have n2:decide (k6<0)=false:=decide_eq_false (by omega)
 refine EvQ.bind tF (EvQ.bind tC (EvQ.bind s1 (EvQ.bind tF (EvQ.bind tC (EvQ.bind s2 (EvQ.bind eqR ?_))))))
 simp only[Bool.not_true,cond_false,bne_self_eq_false]
 refine EvQ.bind tF (EvQ.bind (eqFS_ev x0 (by omega)) ?_)
 simp only[Bool.not_true,cond_false]
 refine EvQ.bind tC (EvQ.bind (eqCredS_ev x1 (by omega)) ?_)
 simp only[Bool.not_true,cond_false]
 refine EvQ.bind a1 (EvQ.bind a2 (EvQ.bind a3 (EvQ.bind mC ?_)))
 simp only[n1,cond_false]
 refine EvQ.bind eqR ?_
 simp only[Bool.not_true,cond_false,bne_self_eq_false]
 refine EvQ.bind b1 (EvQ.bind b2 (EvQ.bind b3 (EvQ.bind b4 (EvQ.bind b5 (EvQ.bind b6 (EvQ.bind b7 ?_))))))
 simp only[n2,cond_false,bne_self_eq_false]
 refine EvQ.bind tF (EvQ.bind tC (EvQ.bind s2 (EvQ.bind eqR ?_)))
 simp only[Bool.not_true,cond_false,bne_self_eq_false]
 refine EvQ.bind b7 ?_
 simp only[n2,cond_false,bne_self_eq_false]
 exact EvQ.const _
end Go.Proofs.YtmmgfgfkkpeedaaGreat

/- The tables, the residual functions and lemmas of this seat: parts of the proof of the law; conditions: those that each names. -/
import Derived.Test.YtmmgfgfkkpeedaaGreatMkp
set_option linter.unusedVariables false
set_option linter.unusedSimpArgs false
set_option maxRecDepth 100000
namespace Go.Proofs.YtmmgfgfkkpeedaaGreat
open Go.Eng
theorem sum_procs:∀l:List DProc,(l.map fun x=>2+x.1.2.2.length+3*x.2.length).sum≤2*l.length+3*(l.map szM_Proc).sum
 |[]=>by simp
 |x::l=>by
  have:=sum_procs l
  have h:szM_Proc x=x.1.2.2.length+x.2.length:=rfl
  simp only[List.map_cons,List.sum_cons,List.length_cons,h]
  omega
theorem machParts(m:DMachine)(hs:szM_Machine m≤100000000):∃(k1 k2 k3 k4 k5 k6:Int) (S W Q I D P:_),
  Ev (fun k=>c_laws_markStringS k (m.1.1,(1:Int))) (k1,S)∧Ev (fun k=>c_laws_markWriteS k (m.1.2,k1)) (k2,W)∧Ev (fun k=>c_laws_markQuotaS k (m.2.2.1.2.1,k2)) (k3,Q)∧
  Ev (fun k=>c_laws_markInodeS k (m.2.2.1.2.2.1,k3)) (k4,I)∧Ev (fun k=>c_laws_markStringS k (m.2.2.1.2.2.2,k4)) (k5,D)∧Ev (fun k=>c_laws_markProcS k (m.2.2.2,k5)) (k6,P)∧
  Ev (fun k=>c_laws_heldMachine k (((S,W),m.2.1,(m.2.2.1.1,Q,I,D),P),(1:Int))) k6∧0≤k6:=by
 obtain⟨⟨S,W⟩,seq,⟨tick,Q,I,D⟩,P⟩:=m
 have e0:szM_Machine ((S,W),seq,(tick,Q,I,D),P)=((S.length+(S.map fun y=>y.size).sum)+(W.length+(W.map szM_Write).sum))+((Q.length+(I.length+(I.map szM_Inode).sum)+(D.length+(D.map fun y=>y.size).sum))+(P.length+(P.map szM_Proc).sum)):=rfl
 have s1:=sum_inodes I
 have s2:=sum_procs P
 have b3:(1:Int)+1*S.length+2*W.length+2*Q.length≤1000000000:=by omega
 have h1:=markStringS_ev S 1 (by omega) (by omega)
 have h2:=markWriteS_ev W (1+1*S.length) (by omega) (by omega)
 have h3:=markQuotaS_ev Q (1+1*S.length+2*W.length) (by omega) (by omega)
 have g1:=heldStringS_ev S 1 (by omega) (by omega)
 have g2:=heldWriteS_ev W (1+1*S.length) (by omega) (by omega)
 have g3:=heldQuotaS_ev Q (1+1*S.length+2*W.length) (by omega) (by omega)
 have n1:decide ((1:Int)+1*S.length<0)=false:=decide_eq_false (by omega)
 have n2:decide ((1:Int)+1*S.length+2*W.length<0)=false:=decide_eq_false (by omega)
 have n3:decide ((1:Int)+1*S.length+2*W.length+2*Q.length<0)=false:=decide_eq_false (by omega)
 have p3:0≤(1:Int)+1*S.length+2*W.length+2*Q.length:=by omega
 generalize (1:Int)+1*S.length+2*W.length+2*Q.length=k3 at h3 g3 b3 n3 p3
 have h4:=markInodeS_ev I k3 p3 (by omega) (by omega)
 have g4:=heldInodeS_ev I k3 p3 (by omega) (by omega)
 have b4:=markG_bound (e:=mkInodeG) (c:=fun x=>7+(inB x).length+3*(inA x).length+3*(inD x).length) (B:=4611686018427387800) (l:=I) (m:=k3) p3 (by omega) (fun x _ m _ _=>mkInodeG_le x m)
 generalize (markG mkInodeG I k3).2=k4 at h4 g4 b4
 generalize (markG mkInodeG I k3).1=I' at h4 g4
 have n4:decide (k4<0)=false:=decide_eq_false (by omega)
 have h5:=markStringS_ev D k4 (by omega) (by omega)
 have g5:=heldStringS_ev D k4 (by omega) (by omega)
 have n5:decide (k4+1*(D.length:Int)<0)=false:=decide_eq_false (by omega)
 have q5:0≤k4+1*(D.length:Int)∧k4+1*(D.length:Int)≤2000000000:=by omega
 generalize k4+1*(D.length:Int)=k5 at h5 g5 n5 q5
 have h6:=markProcS_ev P k5 q5.1 (by omega) (by omega)
 have g6:=heldProcS_ev P k5 q5.1 (by omega) (by omega)
 have b6:=markG_bound (e:=mkProcG) (c:=fun x=>2+x.1.2.2.length+3*x.2.length) (B:=4611686018427387800) (l:=P) (m:=k5) q5.1 (by omega) (fun x _ m _ _=>mkProcG_le x m)
 generalize (markG mkProcG P k5).2=k6 at h6 g6 b6
 generalize (markG mkProcG P k5).1=P' at h6 g6
 have n6:decide (k6<0)=false:=decide_eq_false (by omega)
 refine⟨_,_,k3,k4,k5,k6,_,_,_,_,_,_,h1,h2,h3,h4,h5,h6, ?_,by omega⟩
 have gD:Ev (fun k=>c_laws_heldDisk k ((markF mkStringS 1 S 1,markF mkWriteS 2 W (1+1*S.length)),(1:Int))) (1+1*S.length+2*W.length):=by
  refine EvQ.run (fun k=>laws_heldDisk_run k _ _) ?_
  simp only[laws_heldDisk]
  refine EvQ.bind g1 ?_
  simp only[n1,cond_false]
  refine EvQ.bind g2 ?_
  simp only[n2,cond_false]
  exact EvQ.const _
 have gF:Ev (fun k=>c_laws_heldFS k ((tick,markF mkQuotaS 2 Q (1+1*S.length+2*W.length),I',markF mkStringS 1 D k4),(1+1*S.length+2*W.length:Int))) k5:=by
  refine EvQ.run (fun k=>laws_heldFS_run k _ _) ?_
  simp only[laws_heldFS]
  refine EvQ.bind g3 ?_
  simp only[n3,cond_false]
  refine EvQ.bind g4 ?_
  simp only[n4,cond_false]
  refine EvQ.bind g5 ?_
  simp only[n5,cond_false]
  exact EvQ.const _
 have gS:Ev (fun k=>c_laws_heldSystem k (((tick,markF mkQuotaS 2 Q (1+1*S.length+2*W.length),I',markF mkStringS 1 D k4),P'),(1+1*S.length+2*W.length:Int))) k6:=by
  refine EvQ.run (fun k=>laws_heldSystem_run k _ _) ?_
  simp only[laws_heldSystem]
  refine EvQ.bind gF ?_
  simp only[n5,cond_false]
  refine EvQ.bind g6 ?_
  simp only[n6,cond_false]
  exact EvQ.const _
 refine EvQ.run (fun k=>laws_heldMachine_run k _ _) ?_
 simp only[laws_heldMachine]
 refine EvQ.bind gD ?_
 simp only[n2,cond_false]
 refine EvQ.bind gS ?_
 simp only[n6,cond_false]
 exact EvQ.const _
end Go.Proofs.YtmmgfgfkkpeedaaGreat

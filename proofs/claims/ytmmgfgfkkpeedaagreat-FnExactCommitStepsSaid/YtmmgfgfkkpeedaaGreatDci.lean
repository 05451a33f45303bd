/- The tables, the residual functions and lemmas of this seat: parts of the proof of the law; conditions: those that each names. -/
import Derived.Test.YtmmgfgfkkpeedaaGreatDca
set_option linter.unusedVariables false
set_option linter.unusedSimpArgs false
set_option maxRecDepth 100000
namespace Go.Proofs.YtmmgfgfkkpeedaaGreat
open Go.Eng
open Classical in
noncomputable def mQ(n:aN):ByteArray:=if cN n then pF n else⟨#[]⟩
theorem CE(n:aN)(hs:gV n):Ev (fun k=>eu k n) (mQ n):=by
 by_cases h:cN n
 ·rw[mQ,if_pos h];exact sL h hs
 ·rw[mQ,if_neg h]
  obtain⟨b,e1,e2⟩:=nF n hs
  have hb:b=false:=by
   cases b with
   |false=>rfl
   |true=>exact absurd (e2.1 rfl) h
  subst hb
  refine au.run (fun k=>qu k _) ?_
  simp only[qT]
  refine au.bind e1 ?_
  simp only[Bool.not_false,cond_true]
  exact au.const _
theorem qd(n:aN)(hs:gV n):Ev (fun k=>cj k n) (mQ n):=by
 by_cases h:cN n
 ·rw[mQ,if_pos h];exact sy h hs
 ·rw[mQ,if_neg h]
  obtain⟨b,e1,e2⟩:=nr n hs
  have hb:b=false:=by
   cases b with
   |false=>rfl
   |true=>exact absurd (e2.1 rfl) h
  subst hb
  refine au.run (fun k=>qY k _) ?_
  simp only[qh]
  refine au.bind e1 ?_
  simp only[Bool.not_false,cond_true]
  exact au.const _
theorem lC{n:Int}{w:Nat}(h0:0≤n)(h1:n<256 ^ w):(cZ n w).size=w:=by
 rw[cZ,if_pos ⟨h0,h1⟩,mN,yi]
theorem QO{n:aN}(h:cN n):(Pl n).size=13:=by
 have key:(0≤n.1∧n.1≤2)∧(0≤n.2.1∧n.2.1≤2047)∧(0≤n.2.2.1∧n.2.2.1≤3)∧(0≤n.2.2.2.1∧n.2.2.2.1≤3)∧(0≤n.2.2.2.2.1∧n.2.2.2.2.1≤1000)∧(0≤n.2.2.2.2.2.1∧n.2.2.2.2.2.1≤256)∧(0≤n.2.2.2.2.2.2.1∧n.2.2.2.2.2.2.1≤1000000000):=by
  rcases h with rfl|h
  ·simp[Kd]
  ·obtain⟨h1,⟨a1,a2,a3,a4,a5,a6,_⟩,_⟩:=h
   exact⟨by omega,a1,a2,a3,a4,a5,a6⟩
 obtain⟨k1,k2,k3,k4,k5,k6,k7⟩:=key
 have h1:(cZ n.1 1).size=1:=lC k1.1 (by show n.1<256;omega)
 have h2:(cZ n.2.1 2).size=2:=lC k2.1 (by show n.2.1<65536;omega)
 have h3:(cZ n.2.2.1 1).size=1:=lC k3.1 (by show n.2.2.1<256;omega)
 have h4:(cZ n.2.2.2.1 1).size=1:=lC k4.1 (by show n.2.2.2.1<256;omega)
 have h5:(cZ n.2.2.2.2.1 2).size=2:=lC k5.1 (by show n.2.2.2.2.1<65536;omega)
 have h6:(cZ n.2.2.2.2.2.1 2).size=2:=lC k6.1 (by show n.2.2.2.2.2.1<65536;omega)
 have h7:(cZ n.2.2.2.2.2.2.1 4).size=4:=lC k7.1 (by show n.2.2.2.2.2.2.1<4294967296;omega)
 simp only[Pl,aM,h1,h2,h3,h4,h5,h6,h7]
theorem Mc{n:aN}(h:cN n):∀i,(ur n i).size=13+2*i
 |0=>QO h
 |i+1=>by
  have h1:=Mc h i
  obtain⟨b1,b2⟩:=Ke h i
  have h2:(cZ (gY n i+1) 2).size=2:=lC (by omega) (by show gY n i+1<65536;omega)
  simp only[ur,aM,h1,h2];omega
theorem Ps(s:ByteArray)(a b:Nat):(s.extract a b).data.toList=(s.data.toList.take b).drop a:=by
 rw[ByteArray.data_extract,Array.toList_extract,List.extract_eq_take_drop,List.drop_take]
theorem XF{n:aN}(h:cN n):(pF n).extract 29 48=fx (FE n)∧(pF n).extract 48 67=fx (FN n):=by
 obtain⟨a1,a2⟩:=IN h
 have h1:=gP a1.1
 have h2:=gP a2.1
 have h3:=Mc h 8
 constructor
 ·refine NS ?_
  rw[Ps,pF,Gw,eo,eo]
  rw[List.append_assoc,List.append_assoc,List.take_append,List.drop_append]
  simp[Ap,h1,h2,h3]
 ·refine NS ?_
  rw[Ps,pF,Gw,eo,eo]
  simp[Ap,h1,h2,h3,List.take_append,List.drop_append]
theorem UI:yb []:=⟨by simp,(fun i e he=>by simp at he),.inl rfl⟩
theorem G6:lQ (fx [])=([],true):=by
 have h1:(fx []).size=19:=gP (by simp)
 have h2:bm (fx []) 0=0:=Hp (by simp)
 have h3:vd (Cb (fx []) (bm (fx []) 0))=fx []:=by rw[h2];exact if_pos UI
 rw[lQ,if_pos ⟨h1,by omega,h3⟩,h2];rfl
theorem Ko{s:ByteArray}(h:(lQ s).2=false):(lQ s).1=[]:=by
 unfold lQ at h ⊢
 split at h
 ·cases h
 ·rename_i hn;rw[if_neg hn]
theorem Ef(s:ByteArray):(lQ s).1.length≤6:=by
 unfold lQ
 split
 ·rename_i h;rw[qM];exact h.2.1
 ·exact Nat.zero_le _
def kC(s:ByteArray):Nat→List Int
 |0=>[]
 |i+1=>if(i:Int)<lM (br s 7 2:Int)then kC s i++[(br s (13+2*i) 2:Int)-1]else kC s i
theorem zj(s:ByteArray):∀i,(kC s i).length≤i
 |0=>Nat.le_refl _
 |i+1=>by
  have:=zj s i
  rw[kC];split
  ·rw[List.length_append];show _+1≤_;omega
  ·omega
theorem LO(s:ByteArray){m:Nat}(h:lM (br s 7 2:Int)≤m):∀j,kC s (m+j)=kC s m
 |0=>rfl
 |j+1=>by
  show kC s (m+j+1)=_
  rw[kC,if_neg (by omega),LO s h j]
noncomputable def ino(s:ByteArray):aN:=((br s 0 1:Int),(br s 1 2:Int),(br s 3 1:Int),(br s 4 1:Int),(br s 5 2:Int),(br s 7 2:Int),(br s 9 4:Int),kC s 8,(lQ (s.extract 29 48)).1,(lQ (s.extract 48 67)).1)
theorem Rs(s:ByteArray):bK (ino s)=kC s 8:=by rw[ino]
theorem Jq(s:ByteArray):FE (ino s)=(lQ (s.extract 29 48)).1:=by rw[ino]
theorem Jb(s:ByteArray):FN (ino s)=(lQ (s.extract 48 67)).1:=by rw[ino]
theorem QS{n:Nat}(h:n≤100):n<m6:=by unfold m6;omega
theorem zU(s:ByteArray):gV (ino s):=by
 have h1:=zj s 8
 have h2:=Ef (s.extract 29 48)
 have h3:=Ef (s.extract 48 67)
 rw[←Rs]at h1
 rw[←Jq]at h2
 rw[←Jb]at h3
 exact⟨QS (Nat.le_trans h1 (by omega)),QS (Nat.le_trans h2 (by omega)),QS (Nat.le_trans h3 (by omega))⟩
open Classical in
noncomputable def lO(s:ByteArray):aN×Bool:=if s.size=96∧mQ (ino s)=s then(ino s,true)else(Kd,false)
theorem Xv{s:ByteArray}(h:(lO s).2=true):lO s=(ino s,true)∧cN (ino s):=by
 unfold lO at h ⊢
 split at h
 ·rename_i hc
  rw[if_pos hc]
  refine⟨rfl, ?_⟩
  apply Classical.byContradiction
  intro hn
  have:=hc.2
  rw[mQ,if_neg hn]at this
  have h2:=hc.1
  rw[←this]at h2
  exact absurd h2 (by decide)
 ·cases h
theorem My{s:ByteArray}(h:s.size=96)(hp:mQ (ino s)=s):(lQ (s.extract 29 48)).2=true∧(lQ (s.extract 48 67)).2=true:=by
 have hP:cN (ino s):=by
  apply Classical.byContradiction
  intro hn
  rw[mQ,if_neg hn]at hp
  rw[←hp]at h
  exact absurd h (by decide)
 rw[mQ,if_pos hP]at hp
 obtain⟨e1,e2⟩:=XF hP
 rw[hp]at e1 e2
 constructor
 ·cases hq:(lQ (s.extract 29 48)).2 with
  |true=>rfl
  |false=>
   have hx:FE (ino s)=[]:=by rw[Jq];exact Ko hq
   rw[e1,hx,G6]at hq
   cases hq
 ·cases hq:(lQ (s.extract 48 67)).2 with
  |true=>rfl
  |false=>
   have hx:FN (ino s)=[]:=by rw[Jb];exact Ko hq
   rw[e2,hx,G6]at hq
   cases hq
theorem M0{s:ByteArray}{a w:Nat}(h:a+w≤s.size):bq s a w=((br s a w:Int),true):=if_pos h
theorem I1(s:ByteArray)(a:Nat){w:Nat}(hw:w≤4):(br s a w:Int)<4294967296:=by
 have h1:=IS s a w
 have h2:256 ^ w≤256 ^ 4:=Nat.pow_le_pow_right (by omega) hw
 have h3:256 ^ 4=4294967296:=rfl
 omega
theorem Py{D:Type}(s:ByteArray)(h:s.size=96):au (fun k (self:D→Option (aN×Bool))=>(c4 k (s.extract 29 48)).bind fun v2=>(c4 k (s.extract 48 67)).bind fun v3=>
  (cj k ((br s 0 1:Int),(br s 1 2:Int),(br s 3 1:Int),(br s 4 1:Int),(br s 5 2:Int),(br s 7 2:Int),(br s 9 4:Int),kC s 8,v2.1,v3.1)).bind fun v4=>
  (bif (lB v4 (⟨#[]⟩:ByteArray))then some (((0:Int),(0:Int),(0:Int),(0:Int),(0:Int),(0:Int),(0:Int),([]:List Int),([]:List dK),([]:List dK)),false)else(cj k ((br s 0 1:Int),(br s 1 2:Int),(br s 3 1:Int),(br s 4 1:Int),(br s 5 2:Int),(br s 7 2:Int),(br s 9 4:Int),kC s 8,v2.1,v3.1)).bind fun v5=>
  (bif (!(lB v5 s))then some (((0:Int),(0:Int),(0:Int),(0:Int),(0:Int),(0:Int),(0:Int),([]:List Int),([]:List dK),([]:List dK)),false)else some (((br s 0 1:Int),(br s 1 2:Int),(br s 3 1:Int),(br s 4 1:Int),(br s 5 2:Int),(br s 7 2:Int),(br s 9 4:Int),kC s 8,v2.1,v3.1),true)))) (fun _=>some (lO s)):=by
 refine au.bD (rH _) (au.bD (rH _) (au.bD (qd (ino s) (zU s)) ?_))
 cases hq:lB (mQ (ino s)) ⟨#[]⟩with
 |true=>
  have e:=(cS _ _).1 hq
  simp only[cond_true]
  rw[lO,if_neg fun h'=>by rw[e]at h';rw[←h'.2]at h;exact absurd h (by decide)]
  exact au.const _
 |false=>
  simp only[cond_false]
  refine au.bD (qd (ino s) (zU s)) ?_
  cases hr:lB (mQ (ino s)) s with
  |true=>
   simp only[Bool.not_true,cond_false]
   rw[lO,if_pos ⟨h,(cS _ _).1 hr⟩]
   exact au.const _
  |false=>
   simp only[Bool.not_false,cond_true]
   rw[lO,if_neg fun h'=>by rw[(cS _ _).2 h'.2]at hr;cases hr]
   exact au.const _
theorem pD(s:ByteArray)(hs:s.size≤10000000):Ev (fun k=>la k s) (lO s):=by
 refine au.run (fun k=>yz k _) ?_
 simp only[uq]
 by_cases h:s.size=96
 case neg=>
  rw[show((s.size:Int) != (96:Int))=true by simp;omega]
  simp only[cond_true]
  rw[lO,if_neg fun h'=>h h'.1];exact au.const _
 rw[show((s.size:Int) != (96:Int))=false by simp;omega]
 simp only[cond_false]
 have g:∀a w:Nat,1≤w→w≤6→a+w≤96→Ev (fun k=>bg k (s,(a:Int),(w:Int))) ((br s a w:Int),true):=fun a w h1 h2 h3=>by
  have:=yc s a w h1 h2 (by omega) hs
  rw[M0 (by omega)]at this;exact this
 refine au.bind (g 0 1 (by omega) (by omega) (by omega)) (au.bind (g 1 2 (by omega) (by omega) (by omega)) (au.bind (g 3 1 (by omega) (by omega) (by omega)) (au.bind (g 4 1 (by omega) (by omega) (by omega)) (au.bind (g 5 2 (by omega) (by omega) (by omega)) (au.bind (g 7 2 (by omega) (by omega) (by omega)) (au.bind (g 9 4 (by omega) (by omega) (by omega)) (bS.ev ?_)))))))
 have hz:=I1 s 7 (show 2≤4 by omega)
 have hn0:0≤lM (br s 7 2:Int):=by unfold lM;split<;>omega
 obtain⟨m,hm⟩:∃m:Nat,(m:Int)=min (lM (br s 7 2:Int)) 8:=⟨(min (lM (br s 7 2:Int)) 8).toNat,by omega⟩
 have hm8:m≤8:=by omega
 have hmb:kC s m=kC s 8:=by
  by_cases h8:m=8
  ·rw[h8]
  ·have:=LO s (m:=m) (by omega) (8-m)
   rw[show m+(8-m)=8 by omega]at this;exact this.symm
 refine bS.count (L:=fO) (r:=lO s) (fun i=>(s,(),(),(i:Int),((br s 0 1:Int),(br s 1 2:Int),(br s 3 1:Int),(br s 4 1:Int),(br s 5 2:Int),(br s 7 2:Int),(br s 9 4:Int),kC s i,[],[]),Kd)) m (fun i hi=> ?_) (bS.stop ?_)
 ·have w1:aa .i64 ((2:Int)*(i:Int))=((2*i:Nat):Int):=by rw[aR (by omega) (by omega)];omega
  have w2:aa .i64 ((13:Int)+((2*i:Nat):Int))=((13+2*i:Nat):Int):=by rw[aR (by omega) (by omega)];omega
  have w5:aa .i64 ((i:Int)+1)=((i+1:Nat):Int):=by rw[aR (by omega) (by omega)];omega
  have hb:=zj s i
  have hv:=I1 s (13+2*i) (show 2≤4 by omega)
  have w6:aa .i64 ((br s (13+2*i) 2:Int)-1)=(br s (13+2*i) 2:Int)-1:=aR (by omega) (by omega)
  have hc:((kC s i).length+[aa .i64 ((br s (13+2*i) 2:Int)-1)].length)*8≤af:=by
   show((kC s i).length+1)*8≤af;unfold af;omega
  have he:kC s (i+1)=kC s i++[aa .i64 ((br s (13+2*i) 2:Int)-1)]:=by rw[kC,if_pos (by omega),w6]
  simp only[m7,fO]
  refine au.bD (jk _ (by omega)) ?_
  simp only[show(i:Int)<lM (br s 7 2:Int)by omega,show(i:Int)<8 by omega,decide_true,cond_true,w1,w2,w5]
  refine au.bD (g (13+2*i) 2 (by omega) (by omega) (by omega)) ?_
  refine au.congr (fun k=> ?_) (au.const _)
  funext self
  rw[he]
  exact if_pos hc
 ·simp only[fO]
  refine au.bD (jk _ (by omega)) ?_
  rw[hmb]
  have c1:(48:Int)≤(s.size:Int):=by omega
  have c2:(67:Int)≤(s.size:Int):=by omega
  have k1:(0:Int)≤48∧(0:Int)≤29∧(0:Int)≤67∧(29:Int)≤((48:Nat):Int)∧(48:Int)≤((67:Nat):Int):=by omega
  by_cases hmn:(m:Int)<lM (br s 7 2:Int)
  ·have h8:¬(m:Int)<8:=by omega
   simp only[hmn,h8,decide_true,decide_false,cond_true,cond_false,k1,c1,c2,if_true,show((48:Int).toNat)=48 from rfl,show((29:Int).toNat)=29 from rfl,show((67:Int).toNat)=67 from rfl]
   exact Py s h
  ·simp only[hmn,decide_true,decide_false,cond_true,cond_false,k1,c1,c2,if_true,show((48:Int).toNat)=48 from rfl,show((29:Int).toNat)=29 from rfl,show((67:Int).toNat)=67 from rfl]
   exact Py s h
end Go.Proofs.YtmmgfgfkkpeedaaGreat

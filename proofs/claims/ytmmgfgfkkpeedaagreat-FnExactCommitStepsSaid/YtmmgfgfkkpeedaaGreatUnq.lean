/- The tables, the residual functions and lemmas of this seat: parts of the proof of the law; conditions: those that each names. -/
import Derived.Test.YtmmgfgfkkpeedaaGreatUnp
set_option linter.unusedVariables false
set_option linter.unusedSimpArgs false
set_option maxRecDepth 100000
namespace Go.Proofs.YtmmgfgfkkpeedaaGreat
open Go.Eng
theorem Ya(l:List ByteArray)(h:l.length≤1000):Ev (fun k=>dT k l) l:=
 au.run (fun k=>lX k l) (by
  show au (fun _=>jK .str 16 l) (some l)
  rw[show jK .str 16 l=some l from if_pos ⟨by unfold maxLen;omega,by omega⟩];exact au.const _)
variable {l:List ByteArray}
theorem VB(hl:l.length=186)(hs:∀i,(km l i).size≤1048576):bS gh (l,(),KH l 0,(),(0:Int),((bq (km l 0) 4 4).1,qL l 4,iL l 0,[]),KT) (pV l):=by
 refine bS.count (L:=gh) (r:=pV l) (fun i=>(l,(),KH l i,(),(i:Int),((bq (km l 0) 4 4).1,qL l 4,iL l i,[]),KT)) 20 (fun i hi=> ?_) (bS.stop ?_)
 ·have w1:aa .i64 ((3:Int)*(i:Int))=((3*i:Nat):Int):=by rw[aR (by omega) (by omega)];omega
  have w2:aa .i64 ((70:Int)+((3*i:Nat):Int))=((70+3*i:Nat):Int):=by rw[aR (by omega) (by omega)];omega
  have w3:aa .i64 (((70+3*i:Nat):Int)+3)=((70+3*i+3:Nat):Int):=by rw[aR (by omega) (by omega)];omega
  have w5:aa .i64 ((i:Int)+1)=((i+1:Nat):Int):=by rw[aR (by omega) (by omega)];omega
  have c1:((70+3*i+3:Nat):Int)≤(l.length:Int):=by omega
  have c2:((70+3*i:Nat):Int)≤((70+3*i+3:Nat):Int):=by omega
  have hsz:(sI l i).size≤10000000:=by
   have h1:=hs (70+3*i);have h2:=hs (71+3*i);have h3:=hs (72+3*i)
   rw[sI,aM,aM];omega
  have e71:km l (70+3*i+1)=km l (71+3*i):=by rw[show 70+3*i+1=71+3*i by omega]
  have e72:km l (70+3*i+2)=km l (72+3*i):=by rw[show 70+3*i+2=72+3*i by omega]
  have hj:=TW (km l (70+3*i)) (km l (70+3*i+1)) (km l (70+3*i+2)) (by have:=hs (70+3*i);omega) (by have:=hs (70+3*i+1);omega) (by have:=hs (70+3*i+2);omega)
  have hc:((iL l i).length+[(lO (sI l i)).1].length)*128≤af:=by
   rw[NM];show(i+1)*128≤af;unfold af;omega
  rw[e71,e72]at hj
  simp only[m7,gh,show(i:Int)<20 by omega,decide_true,cond_true,w1,w2,w3,w5,Int.natCast_nonneg,if_true,c1,c2,Int.toNat_natCast,three (show 70+3*i+3≤l.length by omega),e71,e72]
  refine au.bD hj (au.bD (Ar (sI l i) hsz) ?_)
  refine au.congr (g:=fun k self=>bif KH l i then self (l,(),(lO (sI l i)).2,(),((i+1:Nat):Int),((bq (km l 0) 4 4).1,qL l 4,iL l (i+1),[]),KT)else self (l,(),false,(),((i+1:Nat):Int),((bq (km l 0) 4 4).1,qL l 4,iL l (i+1),[]),KT)) (fun k=> ?_) ?_
  ·funext self
   exact if_pos hc
  ·cases ho:KH l i with
   |true=>
    have e:KH l (i+1)=(lO (sI l i)).2:=by rw[KH,ho];rfl
    simp only[cond_true,e]
    exact au.const _
   |false=>
    have e:KH l (i+1)=false:=by rw[KH,ho];rfl
    simp only[cond_false,e]
    exact au.const _
 ·have c1:(130:Int)≤(l.length:Int):=by omega
  have hd:(l.drop 130).length=56:=by rw[List.length_drop];omega
  have hu:pV l=I9 l (KH l 20) (KU l):=if_pos hl
  simp only[gh,show ¬((20:Nat):Int)<20 by omega,decide_false,cond_false,show(0:Int)≤130 by omega,c1,if_true,List.take_length,show((130:Int).toNat)=130 from rfl]
  refine au.bD (Ya (l.drop 130) (by omega)) ?_
  rw[hu]
  cases ho:KH l 20 with
  |false=>
   simp only[Bool.not_false,cond_true]
   rw[I9,if_neg (by simp)]
   exact au.const _
  |true=>
   simp only[Bool.not_true,cond_false]
   by_cases hP:Fa (KU l)
   ·have e1:=ya (kB (KU l) (nH l)) hP
    refine au.bD e1 ?_
    simp only[Bool.not_true,cond_false]
    refine au.bD (vT hP (nH l) e1) ?_
    rw[I9,if_pos ⟨rfl,hP⟩]
    exact au.lift (bS.ev (Pw (OM hP).1 hl _ 0 (by omega)))
   ·refine au.bD (Af (kB (KU l) (nH l)) hP) ?_
    simp only[Bool.not_false,cond_true]
    rw[I9,if_neg fun h=>hP h.2]
    exact au.const _
theorem F3(hs:∀i,(km l i).size≤1048576)(hl8:l.length≤1048576):Ev (fun k=>kO k l) (pV l):=by
 refine au.run (fun k=>EV k _) ?_
 simp only[A4]
 by_cases hl:l.length=186
 case neg=>
  rw[show((l.length:Int) != (186:Int))=true by simp;omega]
  simp only[cond_true]
  rw[pV,if_neg hl];exact au.const _
 rw[show((l.length:Int) != (186:Int))=false by simp;omega]
 have g:∀a w:Nat,1≤w→w≤6→a≤100→Ev (fun k=>aU k (km l 0,(a:Int),(w:Int))) (bq (km l 0) a w):=fun a w h1 h2 h3=>zq _ a w h1 h2 (by omega) (by have:=hs 0;omega)
 simp only[cond_false,Int.le_refl,if_true,show((0:Int).toNat)=0 from rfl,cU (show 0<l.length by omega),Option.bind_some]
 refine au.bind (g 4 4 (by omega) (by omega) (by omega)) (bS.ev ?_)
 refine bS.count (L:=jZ) (r:=pV l) (fun i=>(l,(),Q6 l i,(),(i:Int),((bq (km l 0) 4 4).1,qL l i,[],[]),KT)) 4 (fun i hi=> ?_) (bS.stop ?_)
 ·have w1:aa .i64 ((2:Int)*(i:Int))=((2*i:Nat):Int):=by rw[aR (by omega) (by omega)];omega
  have w2:aa .i64 ((8:Int)+((2*i:Nat):Int))=((8+2*i:Nat):Int):=by rw[aR (by omega) (by omega)];omega
  have w3:aa .i64 ((9:Int)+((2*i:Nat):Int))=((9+2*i:Nat):Int):=by rw[aR (by omega) (by omega)];omega
  have w5:aa .i64 ((i:Int)+1)=((i+1:Nat):Int):=by rw[aR (by omega) (by omega)];omega
  have hc:((qL l i).length+[((qR l i).1.1,(qR l i).2.1)].length)*16≤af:=by
   rw[Nr];show(i+1)*16≤af;unfold af;omega
  simp only[m7,jZ,show(i:Int)<4 by omega,decide_true,cond_true,w1,w2,w3,w5,Int.le_refl,if_true,show((0:Int).toNat)=0 from rfl,cU (show 0<l.length by omega),Option.bind_some]
  refine au.bD (g (8+2*i) 1 (by omega) (by omega) (by omega)) (au.bD (g (9+2*i) 1 (by omega) (by omega) (by omega)) ?_)
  refine au.congr (g:=fun k self=>bif Q6 l i then(bif (qR l i).1.2 then self (l,(),(qR l i).2.2,(),((i+1:Nat):Int),((bq (km l 0) 4 4).1,qL l (i+1),[],[]),KT)else self (l,(),false,(),((i+1:Nat):Int),((bq (km l 0) 4 4).1,qL l (i+1),[],[]),KT))else self (l,(),false,(),((i+1:Nat):Int),((bq (km l 0) 4 4).1,qL l (i+1),[],[]),KT)) (fun k=> ?_) ?_
  ·funext self
   exact if_pos hc
  ·cases ho:Q6 l i with
   |true=>
    cases hr:(qR l i).1.2 with
    |true=>
     have e:Q6 l (i+1)=(qR l i).2.2:=by rw[Q6,ho,hr];rfl
     simp only[cond_true,e]
     exact au.const _
    |false=>
     have e:Q6 l (i+1)=false:=by rw[Q6,ho,hr];rfl
     simp only[cond_true,cond_false,e]
     exact au.const _
   |false=>
    have e:Q6 l (i+1)=false:=by rw[Q6,ho];rfl
    simp only[cond_false,e]
    exact au.const _
 ·simp only[jZ,show ¬((4:Nat):Int)<4 by omega,decide_false,cond_false]
  exact au.lift (bS.ev (VB hl hs))
theorem Et{s:ByteArray}{a:Nat}(h:a<s.size):bq s a 1=((bm s a:Int),true):=by
 rw[bq,if_pos (by omega)]
 show(((0*256+bm s (a+0):Nat):Int),true)=_
 rw[Nat.zero_mul,Nat.zero_add,Nat.add_zero]
theorem Pg(h:(km l 0).size=32):∀i,i≤4→Q6 l i=true
 |0,_=>by rw[Q6,M0 (by omega)]
 |i+1,hi=>by
  rw[Q6,Pg h i (by omega),qR,Et (by omega),Et (by omega)];rfl
theorem RB(hl:l.length=186)(hs:∀i,(km l i).size≤1048576):∀m i,i+m=20→KH l i=true→bS gd (l,(),(),(i:Int),((bq (km l 0) 4 4).1,qL l 4,iL l i,[]),KT) (pV l)
 |0,i,h,ho=>by
  have hi:i=20:=by omega
  subst hi
  refine bS.stop ?_
  have c1:(130:Int)≤(l.length:Int):=by omega
  have hd:(l.drop 130).length=56:=by rw[List.length_drop];omega
  have hu:pV l=I9 l (KH l 20) (KU l):=if_pos hl
  have hc:(([]:List ByteArray).length+(l.drop 130).length)*16≤af:=by rw[hd];unfold af;simp
  simp only[gd,show ¬((20:Nat):Int)<20 by omega,decide_false,cond_false,show(0:Int)≤130 by omega,c1,if_true,List.take_length,show((130:Int).toNat)=130 from rfl,List.nil_append,hc]
  rw[hu,ho]
  have hb:∀s∈fD (KU l),s.size<m6:=fun s hsm=>by
   have hm:s∈l:=List.mem_of_mem_drop (show s∈l.drop 130 from hsm)
   obtain⟨j,hj⟩:=List.mem_iff_getElem?.1 hm
   have hjl:j<l.length:=(List.getElem?_eq_some_iff.1 hj).1
   have:=hs j
   rw[cU hjl]at hj
   injection hj with hj
   rw[←hj];unfold m6;omega
  by_cases hP:Fa (KU l)
  ·refine au.bD (ya (ou (KU l) (nH l) hb) hP) ?_
   simp only[Bool.not_true,cond_false]
   refine au.bD (vn hP (nH l)) ?_
   rw[I9,if_pos ⟨rfl,hP⟩]
   exact au.lift (bS.ev (Pm (OM hP).1 hl _ 0 (by omega)))
  ·refine au.bD (Af (ou (KU l) (nH l) hb) hP) ?_
   simp only[Bool.not_false,cond_true]
   rw[I9,if_neg fun h=>hP h.2]
   exact au.const _
 |m+1,i,h,ho=>by
  have w1:aa .i64 ((3:Int)*(i:Int))=((3*i:Nat):Int):=by rw[aR (by omega) (by omega)];omega
  have w2:aa .i64 ((70:Int)+((3*i:Nat):Int))=((70+3*i:Nat):Int):=by rw[aR (by omega) (by omega)];omega
  have w3:aa .i64 (((70+3*i:Nat):Int)+1)=((71+3*i:Nat):Int):=by rw[aR (by omega) (by omega)];omega
  have w4:aa .i64 (((70+3*i:Nat):Int)+2)=((72+3*i:Nat):Int):=by rw[aR (by omega) (by omega)];omega
  have w5:aa .i64 ((i:Int)+1)=((i+1:Nat):Int):=by rw[aR (by omega) (by omega)];omega
  have h1:=hs (70+3*i)
  have h2:=hs (71+3*i)
  have h3:=hs (72+3*i)
  have hsz:(sI l i).size≤10000000:=by
   rw[sI,aM,aM];omega
  have k1:(km l (70+3*i)).size+(km l (71+3*i)).size≤9223372036854775807:=by omega
  have k2:(km l (70+3*i)++km l (71+3*i)).size+(km l (72+3*i)).size≤9223372036854775807:=by rw[aM];omega
  have hc:((iL l i).length+[(lO (sI l i)).1].length)*128≤af:=by
   rw[NM];show(i+1)*128≤af;unfold af;omega
  cases hr:(lO (sI l i)).2 with
  |false=>
   have hx:KH l (i+1)=false:=by rw[KH,ho,hr];rfl
   have h20:KH l 20=false:=by
    have:=OS hx m
    rw[show i+1+m=20 by omega]at this;exact this
   have hu:pV l=(KT,false):=by rw[pV,if_pos hl,I9,if_neg (by rw[h20];simp)]
   rw[hu]
   refine bS.stop ?_
   simp only[gd,show(i:Int)<20 by omega,decide_true,cond_true,w1,w2,w3,w4,w5,Int.natCast_nonneg,if_true,Int.toNat_natCast,cU (show 70+3*i<l.length by omega),cU (show 71+3*i<l.length by omega),cU (show 72+3*i<l.length by omega),Option.bind_some,k1,k2]
   refine au.bD (pD (sI l i) hsz) ?_
   simp only[hr,Bool.not_false,cond_true]
   exact au.const _
  |true=>
   have hx:KH l (i+1)=true:=by rw[KH,ho,hr];rfl
   refine bS.step ?_ (RB hl hs m (i+1) (by omega) hx)
   simp only[m7,gd,show(i:Int)<20 by omega,decide_true,cond_true,w1,w2,w3,w4,w5,Int.natCast_nonneg,if_true,Int.toNat_natCast,cU (show 70+3*i<l.length by omega),cU (show 71+3*i<l.length by omega),cU (show 72+3*i<l.length by omega),Option.bind_some,k1,k2]
   refine au.bD (pD (sI l i) hsz) ?_
   simp only[hr,Bool.not_true,cond_false]
   refine au.congr (fun k=> ?_) (au.const _)
   funext self
   exact if_pos hc
theorem Kc{f:jB}(hP:Fa f):(lj f).size=32:=by
 have h1:=qe f (fQ f).length
 have h2:=hP.nq
 rw[lj,p9];omega
theorem QQ(f:jB):(gj f)[0]? =some (lj f):=by
 have key:∀i,(gp f i)[0]? =some (lj f):=by
  intro i
  induction i with
  |zero=>rfl
  |succ i ih=>
   simp only[gp]
   cases(fI f)[i]? with
   |none=>exact ih
   |some n=>simp only[List.getElem?_append_left (List.getElem?_eq_some_iff.1 ih).1,ih]
 rw[gj,List.getElem?_append_left (List.getElem?_eq_some_iff.1 (key 20)).1,key]
theorem Sf(h:(km l 0).size≠32):pV l=(KT,false):=by
 unfold pV
 split
 ·unfold I9
  split
  ·rename_i hq
   have h0:=QQ (KU l)
   have hlen:0<(gj (KU l)).length:=(List.getElem?_eq_some_iff.1 h0).1
   obtain⟨m,hm⟩:∃m,(gj (KU l)).length=m+1:=⟨(gj (KU l)).length-1,by omega⟩
   have he:km (gj (KU l)) 0=lj (KU l):=by rw[km,h0];rfl
   rw[hm]
   exact if_pos ⟨.inl (by omega),fun e=>by rw[he]at e;rw[←e,Kc hq.2]at h;exact h rfl⟩
  ·rfl
 ·rfl
theorem FX(hs:∀i,(km l i).size≤1048576)(hl8:l.length≤1048576):Ev (fun k=>kJ k l) (pV l):=by
 refine au.run (fun k=>DJ k _) ?_
 simp only[BG]
 by_cases hl:l.length=186
 case neg=>
  rw[show((l.length:Int) != (186:Int))=true by simp;omega]
  simp only[cond_true]
  rw[pV,if_neg hl];exact au.const _
 rw[show((l.length:Int) != (186:Int))=false by simp;omega]
 simp only[cond_false,Int.le_refl,if_true,show((0:Int).toNat)=0 from rfl,cU (show 0<l.length by omega),Option.bind_some]
 by_cases h32:(km l 0).size=32
 case neg=>
  rw[show(((km l 0).size:Int) != (32:Int))=true by simp;omega]
  simp only[cond_true]
  rw[Sf h32];exact au.const _
 rw[show(((km l 0).size:Int) != (32:Int))=false by simp;omega]
 simp only[cond_false]
 refine au.bind (yc (km l 0) 4 4 (by omega) (by omega) (by omega) (by have:=hs 0;omega)) (bS.ev ?_)
 refine bS.count (L:=jE) (r:=pV l) (fun i=>(l,(),(),(i:Int),((bq (km l 0) 4 4).1,qL l i,[],[]),KT)) 4 (fun i hi=> ?_) (bS.stop ?_)
 ·have w1:aa .i64 ((2:Int)*(i:Int))=((2*i:Nat):Int):=by rw[aR (by omega) (by omega)];omega
  have w2:aa .i64 ((8:Int)+((2*i:Nat):Int))=((8+2*i:Nat):Int):=by rw[aR (by omega) (by omega)];omega
  have w3:aa .i64 ((9:Int)+((2*i:Nat):Int))=((9+2*i:Nat):Int):=by rw[aR (by omega) (by omega)];omega
  have w5:aa .i64 ((i:Int)+1)=((i+1:Nat):Int):=by rw[aR (by omega) (by omega)];omega
  have b1:=eO (km l 0) (8+2*i)
  have b2:=eO (km l 0) (9+2*i)
  have hc:((qL l i).length+[((bm (km l 0) (8+2*i):Int),(bm (km l 0) (9+2*i):Int))].length)*16≤af:=by
   rw[Nr];show(i+1)*16≤af;unfold af;omega
  have e:qL l (i+1)=qL l i++[((bm (km l 0) (8+2*i):Int),(bm (km l 0) (9+2*i):Int))]:=by
   rw[qL,qR,Et (by omega),Et (by omega)]
  simp only[m7,jE,show(i:Int)<4 by omega,decide_true,cond_true,w1,w2,w3,w5,Int.le_refl,if_true,show((0:Int).toNat)=0 from rfl,cU (show 0<l.length by omega),Option.bind_some,Int.natCast_nonneg,Int.toNat_natCast,gS (show 8+2*i<(km l 0).size by omega),gS (show 9+2*i<(km l 0).size by omega),CO (show bm (km l 0) (8+2*i)<4611686018427387904 by omega),CO (show bm (km l 0) (9+2*i)<4611686018427387904 by omega),e]
  refine au.congr (fun k=> ?_) (au.const _)
  funext self
  exact if_pos hc
 ·simp only[jE,show ¬((4:Nat):Int)<4 by omega,decide_false,cond_false]
  exact au.lift (bS.ev (RB hl hs 20 0 (by omega) (Pg h32 4 (by omega))))
end Go.Proofs.YtmmgfgfkkpeedaaGreat

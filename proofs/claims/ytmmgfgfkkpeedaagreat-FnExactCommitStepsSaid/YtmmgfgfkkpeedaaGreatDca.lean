/- The tables, the residual functions and lemmas of this seat: parts of the proof of the law; conditions: those that each names. -/
import Derived.Test.YtmmgfgfkkpeedaaGreatGet
import Derived.Test.YtmmgfgfkkpeedaaGreatPck
set_option linter.unusedVariables false
set_option linter.unusedSimpArgs false
set_option maxRecDepth 100000
namespace Go.Proofs.YtmmgfgfkkpeedaaGreat
open Go.Eng
theorem ld(s:ByteArray)(i:Nat):bm s i=match s.data.toList[i]? with|some c=>c.toNat|none=>0:=by
 unfold bm
 by_cases h:i<s.size
 ·have h1:s[i]? =some s[i]:=getElem?_pos s i h
  have h2:s.data.toList[i]? =some (s.data.toList[i]'(by rw[Ap];exact h)):=List.getElem?_eq_getElem (by rw[Ap];exact h)
  rw[h1,h2]
  rfl
 ·have h1:s[i]? =none:=getElem?_neg s i h
  have h2:s.data.toList[i]? =none:=List.getElem?_eq_none (by rw[Ap];omega)
  rw[h1,h2]
theorem R6{a b:ByteArray}{i:Nat}(h:i<a.size):bm (a++b) i=bm a i:=by
 rw[ld,ld,eo,List.getElem?_append_left (by rw[Ap];exact h)]
theorem Wk{a b:ByteArray}{i:Nat}:bm (a++b) (a.size+i)=bm b i:=by
 rw[ld,ld,eo,List.getElem?_append_right (by rw[Ap];omega),Ap,Nat.add_sub_cancel_left]
theorem Gw(s:ByteArray)(n:Nat):(xE s n).data.toList=s.data.toList++List.replicate (n-s.size) 0:=by
 rw[xE,jU,List.map_append,JV,List.map_replicate]
 rfl
theorem S6{s:ByteArray}{n i:Nat}(h:i<s.size):bm (xE s n) i=bm s i:=by
 rw[ld,ld,Gw,List.getElem?_append_left (by rw[Ap];exact h)]
theorem SZ{x:Nat}(h:x<256):bm (cZ (x:Int) 1) 0=x:=by
 rw[ld,cZ,if_pos ⟨by omega,by show(x:Int)<256;omega⟩,jU]
 have e:Ez (x:Int) 1=[(x:Int)]:=by
  simp only[Ez,List.append_nil,List.nil_append,Int.pow_zero,Int.ediv_one]
  rw[Int.emod_eq_of_lt (by omega) (by omega)]
 rw[e]
 simp only[List.map_cons,List.map_nil,List.getElem?_cons_zero,Int.toNat_natCast]
 rw[UInt8.toNat_ofNat']
 exact Nat.mod_eq_of_lt h
theorem JO{l:List dK}(h:l.length≤6):∀i,bm (qS l i) 0=l.length∧0<(qS l i).size
 |0=>by
  refine⟨SZ (by omega), ?_⟩
  rw[qS,cZ,if_pos ⟨by omega,by show(l.length:Int)<256;omega⟩,mN,yi];omega
 |i+1=>by
  obtain⟨h1,h2⟩:=JO h i
  simp only[qS]
  cases l[i]? with
  |none=>exact⟨h1,h2⟩
  |some e=>exact⟨by show bm (qS l i++QH e) 0=_;rw[R6 h2,h1],by show 0<(qS l i++QH e).size;rw[aM];omega⟩
theorem Hp{l:List dK}(h:l.length≤6):bm (fx l) 0=l.length:=by
 obtain⟨h1,h2⟩:=JO h l.length
 rw[fx,S6 h2,h1]
open Classical in
noncomputable def vd(l:List dK):ByteArray:=if yb l then fx l else⟨#[]⟩
theorem FR(l:List dK):Ev (fun k=>fT k l) (vd l):=by
 by_cases h:yb l
 ·rw[vd,if_pos h];exact oV h
 ·rw[vd,if_neg h]
  obtain⟨b,e1,e2⟩:=mI l
  have hb:b=false:=by
   cases b with
   |false=>rfl
   |true=>exact absurd (e2.1 rfl) h
  subst hb
  refine au.run (fun k=>tS k _) ?_
  simp only[vK]
  refine au.bind e1 ?_
  simp only[Bool.not_false,cond_true]
  exact au.const _
theorem F1(l:List dK)(hl:l.length<m6):Ev (fun k=>dI k l) (vd l):=by
 by_cases h:yb l
 ·rw[vd,if_pos h];exact oW h
 ·rw[vd,if_neg h]
  obtain⟨b,e1,e2⟩:=mU l hl
  have hb:b=false:=by
   cases b with
   |false=>rfl
   |true=>exact absurd (e2.1 rfl) h
  subst hb
  refine au.run (fun k=>uA k _) ?_
  simp only[vk]
  refine au.bind e1 ?_
  simp only[Bool.not_false,cond_true]
  exact au.const _
def Wy(s:ByteArray)(i:Nat):dK:=((bm s (3*i+1):Int),(bm s (3*i+2):Int),(bm s (3*i+3):Int))
def Cb(s:ByteArray):Nat→List dK
 |0=>[]
 |n+1=>Cb s n++[Wy s n]
theorem qM(s:ByteArray):∀n,(Cb s n).length=n
 |0=>rfl
 |n+1=>by rw[Cb,List.length_append,qM s n];rfl
open Classical in
noncomputable def lQ(s:ByteArray):List dK×Bool:=if s.size=19∧bm s 0≤6∧vd (Cb s (bm s 0))=s then(Cb s (bm s 0),true)else([],false)
theorem Mf{s:ByteArray}(h:¬s.size=19):lQ s=([],false):=by
 rw[lQ,if_neg fun h'=>h h'.1]
theorem PH{s:ByteArray}(h:6<bm s 0):lQ s=([],false):=by
 rw[lQ,if_neg fun h'=>by omega]
theorem sf(s:ByteArray):Ev (fun k=>eD k s) (lQ s):=by
 refine au.run (fun k=>CY k _) ?_
 simp only[yX]
 by_cases h:s.size=19
 case neg=>
  rw[show((s.size:Int) != (19:Int))=true by simp;omega]
  simp only[cond_true]
  rw[Mf h];exact au.const _
 rw[show((s.size:Int) != (19:Int))=false by simp;omega]
 have b0:=eO s 0
 simp only[cond_false,Int.le_refl,if_true,show(0:Int).toNat=0 from rfl,gS (show 0<s.size by omega),Option.bind_some]
 by_cases h6:bm s 0≤6
 case neg=>
  rw[show decide ((6:Int)<(bm s 0:Int))=true by simp;omega]
  simp only[cond_true]
  rw[PH (by omega)];exact au.const _
 rw[show decide ((6:Int)<(bm s 0:Int))=false by simp;omega]
 simp only[cond_false,CO (show bm s 0<4611686018427387904 by omega)]
 refine bS.ev ?_
 refine bS.count (L:=iI) (r:=lQ s) (fun i=>(s,Cb s i,(bm s 0:Int),(i:Int))) (bm s 0) (fun i hi=> ?_) (bS.stop ?_)
 ·have w1:aa .i64 ((3:Int)*(i:Int))=((3*i:Nat):Int):=by rw[aR (by omega) (by omega)];omega
  have w2:aa .i64 ((1:Int)+((3*i:Nat):Int))=((3*i+1:Nat):Int):=by rw[aR (by omega) (by omega)];omega
  have w3:aa .i64 ((2:Int)+((3*i:Nat):Int))=((3*i+2:Nat):Int):=by rw[aR (by omega) (by omega)];omega
  have w4:aa .i64 ((3:Int)+((3*i:Nat):Int))=((3*i+3:Nat):Int):=by rw[aR (by omega) (by omega)];omega
  have w5:aa .i64 ((i:Int)+1)=((i+1:Nat):Int):=by rw[aR (by omega) (by omega)];omega
  have q1:=eO s (3*i+1)
  have q2:=eO s (3*i+2)
  have q3:=eO s (3*i+3)
  have hc:((Cb s i).length+[Wy s i].length)*24≤af:=by
   rw[qM];show(i+1)*24≤af;unfold af;omega
  simp only[m7,iI,Int.ofNat_lt,hi,decide_true,cond_true,w1,w2,w3,w4,w5,Int.natCast_nonneg,if_true,Int.toNat_natCast,gS (show 3*i+1<s.size by omega),gS (show 3*i+2<s.size by omega),gS (show 3*i+3<s.size by omega),Option.bind_some,CO (show bm s (3*i+1)<4611686018427387904 by omega),CO (show bm s (3*i+2)<4611686018427387904 by omega),CO (show bm s (3*i+3)<4611686018427387904 by omega)]
  refine au.congr (fun k=> ?_) (au.const _)
  funext self
  exact if_pos hc
 ·simp only[iI,Int.lt_irrefl,decide_false,cond_false]
  refine au.bD (FR _) ?_
  cases hq:lB (vd (Cb s (bm s 0))) s with
  |true=>
   simp only[Bool.not_true,cond_false]
   rw[lQ,if_pos ⟨h,h6,(cS _ _).1 hq⟩]
   exact au.const _
  |false=>
   simp only[Bool.not_false,cond_true]
   rw[lQ,if_neg fun h'=>by rw[(cS _ _).2 h'.2.2]at hq;cases hq]
   exact au.const _
theorem UT{s:ByteArray}{l:List dK}(h1:l.length≤6)(h2:0<s.size)(h3:bm s 0≠l.length):lB (vd l) s=false:=by
 cases hq:lB (vd l) s with
 |false=>rfl
 |true=>
  have e:=(cS _ _).1 hq
  unfold vd at e
  split at e
  ·rw[←e,Hp h1]at h3;exact absurd rfl h3
  ·rw[←e]at h2;exact absurd h2 (Nat.lt_irrefl 0)
theorem rH(s:ByteArray):Ev (fun k=>c4 k s) (lQ s):=by
 refine au.run (fun k=>Ca k _) ?_
 simp only[yW]
 by_cases h:s.size=19
 case neg=>
  rw[show((s.size:Int) != (19:Int))=true by simp;omega]
  simp only[cond_true]
  rw[Mf h];exact au.const _
 rw[show((s.size:Int) != (19:Int))=false by simp;omega]
 have b0:=eO s 0
 simp only[cond_false]
 refine bS.ev ?_
 obtain⟨m,hm⟩:∃m,m=min (bm s 0) 6:=⟨_,rfl⟩
 have hm6:m≤6:=by omega
 have h0:aa .i64 (bm s 0:Int)=(bm s 0:Int):=CO (by omega)
 refine bS.count (L:=iD) (r:=lQ s) (fun i=>(s,Cb s i,(i:Int))) m (fun i hi=> ?_) (bS.stop ?_)
 ·have w1:aa .i64 ((3:Int)*(i:Int))=((3*i:Nat):Int):=by rw[aR (by omega) (by omega)];omega
  have w2:aa .i64 (((3*i:Nat):Int)+1)=((3*i+1:Nat):Int):=by rw[aR (by omega) (by omega)];omega
  have w3:aa .i64 (((3*i:Nat):Int)+2)=((3*i+2:Nat):Int):=by rw[aR (by omega) (by omega)];omega
  have w4:aa .i64 (((3*i:Nat):Int)+3)=((3*i+3:Nat):Int):=by rw[aR (by omega) (by omega)];omega
  have w5:aa .i64 ((i:Int)+1)=((i+1:Nat):Int):=by rw[aR (by omega) (by omega)];omega
  have q1:=eO s (3*i+1)
  have q2:=eO s (3*i+2)
  have q3:=eO s (3*i+3)
  have hc:((Cb s i).length+[Wy s i].length)*24≤af:=by
   rw[qM];show(i+1)*24≤af;unfold af;omega
  simp only[m7,iD,Int.le_refl,if_true,show(0:Int).toNat=0 from rfl,gS (show 0<s.size by omega),Option.bind_some,h0,Int.ofNat_lt,show i<bm s 0 by omega,show(i:Int)<6 by omega,decide_true,cond_true,w1,w2,w3,w4,w5,Int.natCast_nonneg,Int.toNat_natCast,gS (show 3*i+1<s.size by omega),gS (show 3*i+2<s.size by omega),gS (show 3*i+3<s.size by omega),CO (show bm s (3*i+1)<4611686018427387904 by omega),CO (show bm s (3*i+2)<4611686018427387904 by omega),CO (show bm s (3*i+3)<4611686018427387904 by omega)]
  refine au.congr (fun k=> ?_) (au.const _)
  funext self
  exact if_pos hc
 ·have fin:au (fun k (self:(ByteArray×((List dK)×Int))→Option (List dK×Bool))=>(dI k (Cb s m)).bind fun v5=>bif (!(lB v5 s))then some (([]:List dK),false)else some (Cb s m,true)) (fun _=>some (lQ s)):=by
   refine au.bD (F1 _ (by rw[qM];unfold m6;omega)) ?_
   by_cases h6:bm s 0≤6
   ·have e:m=bm s 0:=by omega
    rw[e]
    cases hq:lB (vd (Cb s (bm s 0))) s with
    |true=>
     simp only[Bool.not_true,cond_false]
     rw[lQ,if_pos ⟨h,h6,(cS _ _).1 hq⟩]
     exact au.const _
    |false=>
     simp only[Bool.not_false,cond_true]
     rw[lQ,if_neg fun h'=>by rw[(cS _ _).2 h'.2.2]at hq;cases hq]
     exact au.const _
   ·rw[UT (l:=Cb s m) (by rw[qM];omega) (by omega) (by rw[qM];omega)]
    simp only[Bool.not_false,cond_true]
    rw[PH (by omega)]
    exact au.const _
  simp only[iD,Int.le_refl,if_true,show(0:Int).toNat=0 from rfl,gS (show 0<s.size by omega),Option.bind_some,h0]
  by_cases h6:bm s 0≤6
  ·rw[show decide ((m:Int)<(bm s 0:Int))=false by simp;omega]
   simp only[cond_false]
   exact fin
  ·rw[show decide ((m:Int)<(bm s 0:Int))=true by simp;omega,show decide ((m:Int)<(6:Int))=false by simp;omega]
   simp only[cond_false,cond_true]
   exact fin
end Go.Proofs.YtmmgfgfkkpeedaaGreat

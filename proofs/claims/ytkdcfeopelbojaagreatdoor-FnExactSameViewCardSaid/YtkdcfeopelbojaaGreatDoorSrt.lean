/- The tables, the residual functions and lemmas of this seat: parts of the proof of the law; conditions: those that each names. -/
import Derived.Test.YtkdcfeopelbojaaGreatDoorWsn
import Derived.Test.YtkdcfeopelbojaaGreatDoorEnts
set_option linter.unusedVariables false
set_option linter.unusedSimpArgs false
set_option maxRecDepth 100000
namespace Go.Proofs.YtkdcfeopelbojaaGreatDoor
open Go.Eng
theorem MD:∀(x y:List UInt8),Op.bytesLess x y=decide (x<y)
 |[],[]=>by simp[Op.bytesLess]
 |_::_,[]=>by simp[Op.bytesLess]
 |[],_::_=>by simp[Op.bytesLess]
 |a::x,b::y=>by
  rw[Op.bytesLess,MD x y]
  simp only[List.cons_lt_cons_iff]
  by_cases h1:a<b<;>by_cases h2:a=b<;>by_cases h3:x<y<;>simp[h1,h2,h3]
def KM(a b:ByteArray):Prop:=a.data.toList≤b.data.toList
theorem Ny{a b c:ByteArray}(h:KM a b)(k:KM b c):KM a c:=List.le_trans h k
theorem Ng(a b:ByteArray):KM a b∨KM b a:=List.le_total _ _
theorem Og{a b:ByteArray}(h:KM a b)(k:KM b a):a=b:=by
 have:a.data.toList=b.data.toList:=List.le_antisymm h k
 cases a;cases b
 exact congrArg _ (Array.toList_inj.1 this)
theorem Rj{a b:ByteArray}:(Re a b||Cl a b)=true↔KM a b:=by
 have e:Re a b=decide (a.data.toList<b.data.toList):=MD _ _
 rw[Bool.or_eq_true,fg,e,decide_eq_true_iff,KM,List.le_iff_lt_or_eq]
 refine or_congr Iff.rfl ⟨fun h=>by rw[h],fun h=> ?_⟩
 cases a;cases b
 exact congrArg _ (Array.toList_inj.1 h)
def Ha(l r:List ByteArray):Prop:=r.Perm l∧r.Pairwise KM
theorem Jo{l r s:List ByteArray}(h:Ha l r)(k:Ha l s):r=s:=
 List.Perm.eq_of_pairwise (fun _ _ _ _=>Og) h.2 k.2 (h.1.trans k.1.symm)
theorem Kd(l:List ByteArray):Ha l (jg l):=by
 have hm:(l.map fun s=>s.data.toList).map (fun s=>(⟨s.toArray⟩:ByteArray))=l:=by
  rw[List.map_map]
  exact(List.map_congr_left fun x _=>by simp).trans (List.map_id _)
 refine⟨?_, ?_⟩
 ·have:=(List.mergeSort_perm (l.map fun s=>s.data.toList) fun x y=>decide (x≤y)).map fun s=>(⟨s.toArray⟩:ByteArray)
  rwa[hm]at this
 ·refine List.pairwise_map.2 ?_
  have:=List.pairwise_mergeSort (le:=fun(x y:List UInt8)=>decide (x≤y)) (fun a b c h k=>by simp only[decide_eq_true_iff]at*;exact List.le_trans h k) (fun a b=>by simpa using List.le_total a b) (l.map fun s=>s.data.toList)
  exact this.imp fun h=>by simpa[KM]using h
theorem KJ{l r:List ByteArray}{x:ByteArray}{a:Nat}(h:Ha l r)(h1:∀p y,r[p]? =some y→p<a→KM y x)(h2:∀p y,r[p]? =some y→a≤p→KM x y):Ha (l++[x]) ((r.take a++[x])++r.drop a):=by
 refine⟨?_, ?_⟩
 ·have h3:((r.take a++[x])++r.drop a).Perm (x::r):=by
   rw[List.append_assoc]
   have:(r.take a++([x]++r.drop a)).Perm (x::(r.take a++r.drop a)):=List.perm_middle
   rwa[List.take_append_drop]at this
  exact h3.trans ((List.Perm.cons x h.1).trans (List.perm_append_singleton x l).symm)
 ·have hp:=h.2
  rw[←List.take_append_drop a r,List.pairwise_append]at hp
  obtain⟨p1,p2,p3⟩:=hp
  have t1:∀y∈r.take a,KM y x:=fun y hy=>by
   obtain⟨p,hp⟩:=List.getElem?_of_mem hy
   have hlt:p<a:=by
    by_cases hh:p<a
    ·exact hh
    ·rw[List.getElem?_take,if_neg hh]at hp;cases hp
   rw[List.getElem?_take,if_pos hlt]at hp
   exact h1 p y hp hlt
  have t2:∀y∈r.drop a,KM x y:=fun y hy=>by
   obtain⟨p,hp⟩:=List.getElem?_of_mem hy
   rw[List.getElem?_drop]at hp
   exact h2 _ y hp (Nat.le_add_right _ _)
  rw[List.pairwise_append,List.pairwise_append]
  refine⟨⟨p1,List.pairwise_singleton _ _,fun y hy z hz=> ?_⟩,p2,fun y hy z hz=> ?_⟩
  ·rw[List.mem_singleton]at hz;subst hz;exact t1 y hy
  ·rw[List.mem_append,List.mem_singleton]at hy
   rcases hy with hy|rfl
   ·exact p3 y hy z hz
   ·exact t2 z hz
def fh(l:List tU):List ByteArray:=l.map (·.1)
theorem GS(l:List tU)(hl:l.length≤1000):Ev (fun k=>nc k l) (jg (fh l)):=by
 refine ax.run (fun k=>zP k _) ?_
 simp only[yj]
 refine Ev.eq ?_
 refine ak.list (L:=fun k _=>iy k) l (fun(st:List ByteArray) i=>(st,l,(l.length:Int),((i:Nat):Int))) (fun st i=>Ha (fh (l.take i)) st) (fun st i e he hi inv=> ?_) (fun st inv=> ?_) [] ⟨List.Perm.nil,List.Pairwise.nil⟩
 ·have hn:fh (l.take (i+1))=fh (l.take i)++[e.1]:=by
   rw[fh,List.take_add_one,he];simp[fh]
  have hsl:st.length≤1000:=by
   rw[inv.1.length_eq,fh,List.length_map,List.length_take];omega
  simp only[iy,Int.ofNat_lt,hi,decide_true,cond_true,Int.natCast_nonneg,if_true,Int.toNat_natCast,he,Option.bind_some]
  have fin:∀a:Nat,a≤st.length→∀(r:(List ByteArray×List tU×Int×Int)→Option (List ByteArray)),(if 0≤(a:Int)then(if(a:Int)≤(st.length:Int)then(if(([]:List ByteArray).length+((st.drop 0).take ((a:Int).toNat-0)).length)*16≤au then(if((([]:List ByteArray)++((st.drop 0).take ((a:Int).toNat-0))).length+([e.1]:List ByteArray).length)*16≤au then(if 0≤(a:Int)then(if(a:Int)≤(st.length:Int)then(if(((([]:List ByteArray)++((st.drop 0).take ((a:Int).toNat-0)))++([e.1]:List ByteArray)).length+((st.drop (a:Int).toNat).take (st.length-(a:Int).toNat)).length)*16≤au then r ((((([]:List ByteArray)++((st.drop 0).take ((a:Int).toNat-0)))++([e.1]:List ByteArray))++((st.drop (a:Int).toNat).take (st.length-(a:Int).toNat))),l,(l.length:Int),(aa .i64 ((i:Int)+(1:Int))))else none)else none)else none)else none)else none)else none)else none)=r ((st.take a++[e.1])++st.drop a,l,(l.length:Int),((i+1:Nat):Int)):=by
   intro a ha r
   have q:(a:Int)≤(st.length:Int):=by omega
   have c1:(([]:List ByteArray).length+(st.take a).length)*16≤au:=by
    simp only[List.length_nil,List.length_take,au];omega
   have c2:((st.take a).length+([e.1]:List ByteArray).length)*16≤au:=by
    simp only[List.length_cons,List.length_nil,List.length_take,au];omega
   have e3:(st.drop a).take (st.length-a)=st.drop a:=List.take_of_length_le (by rw[List.length_drop];exact Nat.le_refl _)
   have c3:((st.take a++[e.1]).length+(st.drop a).length)*16≤au:=by
    simp only[List.length_append,List.length_cons,List.length_nil,List.length_take,List.length_drop,au];omega
   simp only[Int.natCast_nonneg,if_true,if_pos q,Int.toNat_natCast,List.drop_zero,Nat.sub_zero,List.nil_append,if_pos c1,if_pos c2,e3,if_pos c3,wS i]
  refine ak.upto (L:=fun k (p:Unit×(_→Option (List ByteArray)))=>iC k p.2) st.length (fun(_:Unit) j=>(st,(),((st.length-j:Nat):Int),l,(l.length:Int),((i:Nat):Int),e)) (fun _ j=>∀p y,st[p]? =some y→st.length-j≤p→KM e.1 y) (fun _ j hj hv=> ?_) (fun _ hv=> ?_) () 0 (Nat.zero_le _) ?_
  ·have h0:(0:Int)<((st.length-j:Nat):Int):=by omega
   have hw:aa .i64 (((st.length-j:Nat):Int)-1)=((st.length-(j+1):Nat):Int):=by rw[aV (by omega) (by omega)];omega
   have hlt:st.length-(j+1)<st.length:=by omega
   have hlt':((st.length-(j+1):Nat):Int)<(st.length:Int):=by omega
   obtain⟨y,hy⟩:∃y,st[st.length-(j+1)]? =some y:=⟨_,List.getElem?_eq_getElem hlt⟩
   simp only[iC,h0,decide_true,cond_true,hw,Int.natCast_nonneg,if_true,hlt',Int.toNat_natCast,hy,Option.bind_some]
   refine ak.bif (fun h=> ?_) (fun h=> ?_)
   ·refine ak.const _ (GL.self () rfl fun p z hz hp=> ?_)
    by_cases hpe:p=st.length-(j+1)
    ·subst hpe
     rw[hy]at hz
     injection hz with hz
     subst hz
     rcases Ng e.1 y with h1|h1
     ·exact h1
     ·rw[Rj.2 h1]at h;cases h
    ·exact hv p z hz (by omega)
   ·have hle:KM y e.1:=by
     refine Rj.1 ?_
     rw[Bool.not_eq_false']at h
     exact h
    simp only[Int.natCast_nonneg,if_true,Int.toNat_natCast]at fin ⊢
    have fin':=fun r=>fin (st.length-j) (by omega) r
    refine ak.congr (F':=fun k p=>p.1.2 ((st.take (st.length-j)++[e.1])++st.drop (st.length-j),l,(l.length:Int),((i+1:Nat):Int))) (fun k p=>fin' p.1.2) ?_
    refine ak.const _ (GL.up (S:=Unit×(_→Option (List ByteArray))) (fun p=>p.2 ((st.take (st.length-j)++[e.1])++st.drop (st.length-j),l,(l.length:Int),((i+1:Nat):Int))) (GL.self _ rfl ?_))
    rw[hn]
    refine KJ inv (fun p z hz hp=> ?_) (fun p z hz hp=>hv p z hz hp)
    have hpl:p<st.length:=(List.getElem?_eq_some_iff.1 hz).1
    by_cases hpe:p=st.length-(j+1)
    ·subst hpe
     rw[hy]at hz;injection hz with hz;subst hz;exact hle
    ·have hpw:=List.pairwise_iff_getElem.1 inv.2 p (st.length-(j+1)) hpl hlt (by omega)
     rw[(List.getElem?_eq_some_iff.1 hz).2,(List.getElem?_eq_some_iff.1 hy).2]at hpw
     exact Ny hpw hle
  ·have hz:((st.length-st.length:Nat):Int)=0:=by omega
   simp only[iC,hz,Int.lt_irrefl,decide_false,cond_false]
   have fin':=fun r=>fin 0 (Nat.zero_le _) r
   refine ak.congr (F':=fun k p=>p.1.2 ((st.take 0++[e.1])++st.drop 0,l,(l.length:Int),((i+1:Nat):Int))) (fun k p=>fin' p.1.2) ?_
   refine ak.const _ (GE.up (S:=Unit×(_→Option (List ByteArray))) (fun p=>p.2 ((st.take 0++[e.1])++st.drop 0,l,(l.length:Int),((i+1:Nat):Int))) (GL.self _ rfl ?_))
   rw[hn]
   exact KJ inv (fun p z hz hp=>absurd hp (Nat.not_lt_zero _)) (fun p z hz hp=>hv p z hz (by omega))
  ·intro p y hp hle
   have:=(List.getElem?_eq_some_iff.1 hp).1
   omega
 ·simp only[iy,Int.lt_irrefl,decide_false,cond_false]
  rw[List.take_length]at inv
  exact ak.const _ (GE.ret (GR.ret (Jo inv (Kd _))))
theorem Gw{f:dV}(hP:qv f){n:az}{i:Int}(h0:0≤i)(hn:(fI f)[i.toNat]? =some n):Ev (fun k=>mP k (some f,i)) (jg (fh (bR f n))):=by
 refine ax.run (fun k=>AZ k _ _) ?_
 simp only[xE]
 refine ax.bind (mV hP h0 hn) ?_
 have hel:=rm (oy hP hn) (hP.ino _ _ hn)
 refine Ev.eq ?_
 refine ak.list (L:=fun k _=>iO k) (bR f n) (fun(st:List ByteArray) j=>(st,bR f n,((bR f n).length:Int),((j:Nat):Int))) (fun st j=>st=fh ((bR f n).take j)) (fun st j e he hj inv=> ?_) (fun st inv=> ?_) [] rfl
 ·have hj':(j:Int)<((bR f n).length:Int):=by omega
  subst inv
  have hc:((fh ((bR f n).take j)).length+([e.1]:List ByteArray).length)*16≤au:=by
   simp only[fh,List.length_map,List.length_take,List.length_cons,List.length_nil,au];omega
  simp only[iO,hj',decide_true,cond_true,Int.natCast_nonneg,if_true,Int.toNat_natCast,he,Option.bind_some,if_pos hc,wS j]
  refine ak.const _ (GL.self _ rfl ?_)
  rw[fh,fh,List.take_add_one,he];simp
 ·rw[List.take_length]at inv
  subst inv
  simp only[iO,Int.lt_irrefl,decide_false,cond_false]
  have hs:Ev (fun k=>dG k (fh (bR f n))) (jg (fh (bR f n))):=by
   refine ax.run (fun k=>kV k _) ?_
   simp only[bA]
   rw[if_pos (by simp only[fh,List.length_map];omega)]
   exact ax.const _
  exact ak.bind hs (ak.const _ (GE.ret (GR.ret rfl)))
end Go.Proofs.YtkdcfeopelbojaaGreatDoor

/- The tables, the residual functions and lemmas of this seat: parts of the proof of the law; conditions: those that each names. -/
import Derived.Test.YtmmgfgfkkpeedaaGreatPck
import Derived.Test.YtmmgfgfkkpeedaaGreatUnq
import Derived.Test.YtmmgfgfkkpeedaaGreatJrn
set_option linter.unusedVariables false
set_option linter.unusedSimpArgs false
set_option maxRecDepth 100000
namespace Go.Proofs.YtmmgfgfkkpeedaaGreat
open Go.Eng
theorem La(n lo hi:Int):Ev (fun k=>aE k (n,lo,hi)) (decide (lo≤n)&&decide (n≤hi)):=by
 refine au.run (fun k=>yB k n lo hi) ?_
 simp only[CT]
 cases h:decide (lo≤n)with
 |true=>simp only[cond_true,Bool.true_and];exact au.const _
 |false=>simp only[cond_false,Bool.false_and];exact au.const _
def A2(a:List ByteArray)(s:List ar)(i:Nat)(x:ByteArray):List ar:=
 if((i:Int)<1∨70≤(i:Int))∧lB x (a[i]?.getD ByteArray.empty)=false then s++[((i:Int),x)]else s
def Bb(a b:List ByteArray):List ar:=
 if a.length=186∧b.length=186 then C8 (R:=List ar) (fun s i x=>Sum.inl (A2 a s i x)) id [] 0 b else []
theorem Fo(a s i x):(A2 a s i x).length≤s.length+1:=by
 unfold A2;split<;>simp
theorem Cw(a b:List ByteArray):Ev (fun k=>mu k (a,b)) (Bb a b):=by
 refine au.run (fun k=>AH k a b) ?_
 simp only[vX,Bb]
 by_cases ha:a.length=186
 ·by_cases hb:b.length=186
  ·rw[if_pos ⟨ha,hb⟩]
   have e1:((a.length:Int) != 186)=false:=by rw[ha];rfl
   have e2:((b.length:Int) != 186)=false:=by rw[hb];rfl
   simp only[e1,e2,cond_false]
   refine bS.ev ?_
   refine bS.fold (L:=gJ) b (fun s i=>(a,s,b,(b.length:Int),(i:Int))) _ _ (fun s i=>s.length≤i) ?_ ?_ [] (by simp)
   ·intro s i x hx hs
    have hi:i<b.length:=(List.getElem?_eq_some_iff.1 hx).1
    have hai:a[i]? =some a[i]:=List.getElem?_eq_getElem (by omega)
    have hcap:(s.length+([((i:Int),x)]:List ar).length)*24≤af:=by simp only[List.length_singleton,af];omega
    refine⟨?_,by have:=Fo a s i x;omega⟩
    simp only[m7,gJ,Int.toNat_natCast,hx,Option.bind_some,Int.natCast_nonneg,if_true,Int.ofNat_lt,hi,decide_true,cond_true,eH hi (by omega),hai,if_pos hcap,A2,Option.getD_some]
    refine au.bD (La _ _ _) ?_
    by_cases hr:(i:Int)<1∨70≤(i:Int)
    ·have h2:(decide ((1:Int)≤(i:Int))&&decide ((i:Int)≤69))=false:=by
      rcases hr with h|h
      ·have:¬(1:Int)≤i:=by omega
       simp[this]
      ·have:¬(i:Int)≤69:=by omega
       simp[this]
     simp only[h2,Bool.not_false,cond_true,hr,true_and]
     cases he:lB x a[i]with
     |true=>simp only[Bool.not_true,cond_false,Bool.true_eq_false,if_false];exact au.const _
     |false=>simp only[Bool.not_false,cond_true,if_true];exact au.const _
    ·have h2:(decide ((1:Int)≤(i:Int))&&decide ((i:Int)≤69))=true:=by
      simp only[not_or,Int.not_lt,Int.not_le]at hr
      simp only[Bool.and_eq_true,decide_eq_true_eq];omega
     simp only[h2,Bool.not_true,cond_false,hr,false_and,if_false];exact au.const _
   ·intro s hs
    refine bS.stop ?_
    simp only[gJ,Int.lt_irrefl,decide_false,cond_false,id]
    exact au.const _
  ·rw[if_neg (fun h=>hb h.2)]
   have e1:((a.length:Int) != 186)=false:=by rw[ha];rfl
   have e2:((b.length:Int) != 186)=true:=by rw[bne_iff_ne];omega
   simp only[e1,e2,cond_false,cond_true];exact au.const _
 ·rw[if_neg (fun h=>ha h.1)]
  have e1:((a.length:Int) != 186)=true:=by rw[bne_iff_ne];omega
  simp only[e1,cond_true];exact au.const _
theorem B6(a b:List ByteArray):Ev (fun k=>mq k (a,b)) (Bb a b):=by
 refine au.run (fun k=>Av k a b) ?_
 simp only[wZ,Bb]
 by_cases ha:a.length=186
 ·by_cases hb:b.length=186
  ·rw[if_pos ⟨ha,hb⟩]
   have e1:((a.length:Int) != 186)=false:=by rw[ha];rfl
   have e2:((b.length:Int) != 186)=false:=by rw[hb];rfl
   simp only[e1,e2,cond_false]
   refine bS.ev ?_
   refine bS.fold (L:=gB) b (fun s i=>(a,s,b,(b.length:Int),(i:Int))) _ _ (fun s i=>s.length≤i) ?_ ?_ [] (by simp)
   ·intro s i x hx hs
    have hi:i<b.length:=(List.getElem?_eq_some_iff.1 hx).1
    have hai:a[i]? =some a[i]:=List.getElem?_eq_getElem (by omega)
    have hcap:(s.length+([((i:Int),x)]:List ar).length)*24≤af:=by simp only[List.length_singleton,af];omega
    refine⟨?_,by have:=Fo a s i x;omega⟩
    simp only[m7,gB,Int.toNat_natCast,hx,Option.bind_some,Int.natCast_nonneg,if_true,Int.ofNat_lt,hi,decide_true,cond_true,eH hi (by omega),hai,if_pos hcap,A2,Option.getD_some]
    by_cases hr:(i:Int)<1
    ·simp only[hr,decide_true,cond_true,true_or,true_and]
     cases he:lB x a[i]with
     |true=>simp only[Bool.not_true,cond_false,Bool.true_eq_false,if_false];exact au.const _
     |false=>simp only[Bool.not_false,cond_true,if_true];exact au.const _
    ·by_cases hr2:70≤(i:Int)
     ·simp only[hr,hr2,decide_true,decide_false,cond_true,cond_false,false_or,true_and]
      cases he:lB x a[i]with
      |true=>simp only[Bool.not_true,cond_false,Bool.true_eq_false,if_false];exact au.const _
      |false=>simp only[Bool.not_false,cond_true,if_true];exact au.const _
     ·simp only[hr,hr2,decide_false,cond_false,or_self,false_and,if_false];exact au.const _
   ·intro s hs
    refine bS.stop ?_
    simp only[gB,Int.lt_irrefl,decide_false,cond_false,id]
    exact au.const _
  ·rw[if_neg (fun h=>hb h.2)]
   have e1:((a.length:Int) != 186)=false:=by rw[ha];rfl
   have e2:((b.length:Int) != 186)=true:=by rw[bne_iff_ne];omega
   simp only[e1,e2,cond_false,cond_true];exact au.const _
 ·rw[if_neg (fun h=>ha h.1)]
  have e1:((a.length:Int) != 186)=true:=by rw[bne_iff_ne];omega
  simp only[e1,cond_true];exact au.const _
theorem Ur(a b:List ByteArray)(h:∀s∈b,s.size=32):(Bb a b).length≤186∧∀w∈Bb a b,w.2.size=32:=by
 unfold Bb
 split
 ·rename_i h2
  have key:∀(l:List ByteArray) (s:List ar) (i:Nat),s.length≤i→(∀x∈l,x.size=32)→(∀w∈s,w.2.size=32)→
    (C8 (R:=List ar) (fun s i x=>Sum.inl (A2 a s i x)) id s i l).length≤i+l.length∧∀w∈C8 (R:=List ar) (fun s i x=>Sum.inl (A2 a s i x)) id s i l,w.2.size=32:=by
   intro l
   induction l with
   |nil=>intro s i hs _ hw;simp[C8];exact⟨hs,fun x y h=>hw (x,y) h⟩
   |cons x l ih=>
    intro s i hs hx hw
    have h1:=Fo a s i x
    have h3:∀w∈A2 a s i x,w.2.size=32:=fun w hm=>by
     unfold A2 at hm
     split at hm
     ·rcases List.mem_append.1 hm with hm|hm
      ·exact hw w hm
      ·rw[List.mem_singleton.1 hm];exact hx x (List.mem_cons_self ..)
     ·exact hw w hm
    obtain⟨k1,k2⟩:=ih (A2 a s i x) (i+1) (by omega) (fun y hy=>hx y (List.mem_cons_of_mem _ hy)) h3
    simp only[C8,List.length_cons]
    exact⟨by omega,k2⟩
  obtain⟨k1,k2⟩:=key b [] 0 (by simp) h (fun w hw=>by cases hw)
  exact⟨by omega,k2⟩
 ·exact⟨Nat.zero_le _,fun w hw=>by cases hw⟩
end Go.Proofs.YtmmgfgfkkpeedaaGreat

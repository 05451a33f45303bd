/- The tables, the residual functions and lemmas of this seat: parts of the proof of the law; conditions: those that each names. -/
import Derived.Test.YtmmgfgfkkpeedaaGreatShelf
import Derived.Laws.CopyOwn
import Derived.Laws.MakeOwn
import Derived.Deep.RegionLaw
import Derived.Deep.LoopGhost
import Derived.StillTailTactics
import Derived.WalkKit
import Derived.BigRegion
set_option linter.unusedVariables false
set_option maxRecDepth 1000000
namespace Go.Proofs
open Go.RowKit Go.Lib
theorem N8:(Tryz.prog.info? 9).isSome=true:=by kernel_rfl
noncomputable def Px:TypeInfo:=(Tryz.prog.info? 9).get N8
theorem UA:Px.zero=some (.string ⟨#[]⟩):=by kernel_rfl
theorem Ou:Px.size=1:=by kernel_rfl
theorem SQ:Px.bytes=16:=by kernel_rfl
def rowAt(z:ByteArray)(n m:Nat):List Value:=List.replicate m (Value.string z)++List.replicate (n-m) (Value.string ⟨#[]⟩)
theorem Sd(z:ByteArray){n m:Nat}(h:m≤n):(rowAt z n m).length=n:=by simp[rowAt];omega
theorem TO(n:Nat)(h:n≤1000)(w:World):∃w1,(Instr.makeSlice 22 (.int .i64 (n:Int)) (.int .i64 (n:Int))).run Tryz.prog w= .ok (.slice (some ⟨w.heap.size,0,none⟩) n n) w1∧w1.heap[w.heap.size]? =some (.cells (rowAt ⟨#[]⟩ n 0).toArray 9 (0,0))∧Below w.heap.size w w1:=by
 have:=run_makeSlice (P:=Tryz.prog) (w:=w) 22 9 Px (.string ⟨#[]⟩) Tryz.underlying22 (Option.some_get N8).symm UA .i64 .i64 (n:Int) (n:Int) (by omega) (by omega) (by rw[Ou];omega) (by rw[SQ];omega) (by omega)
 refine⟨_,this, ?_,(Below.refl _ _).alloc (Nat.le_refl _) _⟩
 have e:madeCells (Value.string ⟨#[]⟩).cells ((n:Int).toNat*Px.size)=(rowAt ⟨#[]⟩ n 0).toArray:=by
  rw[Ou,Int.toNat_natCast,Nat.mul_one]
  apply Array.ext'
  simp[madeCells,rowAt,Value.cells]
  refine List.eq_replicate_iff.2 ⟨by simp,fun v hv=> ?_⟩
  obtain⟨x,_,rfl⟩:=List.mem_map.1 hv
  simp[Nat.mod_one]
 rw[e]
 show(w.heap.push _)[w.heap.size]? =_
 simp
theorem OR(z:ByteArray)(n m k G dcap sLen sCap:Nat)(a:Addr)(w:World)(ty:TypeId)(hrow:w.heap[G]? =some (.cells (rowAt z n m).toArray 9 (0,0)))(hm:m≤n)(hk:k=min sLen (n-m))(hsrc:∀j,j<k→w.cell? (a.add j)=some (.string z)):
  ∃w',(Builtin.copy_ #[22,22] ty #[.slice (some ⟨G,m,none⟩) (n-m) dcap,.slice (some a) sLen sCap]).run Tryz.prog w= .ok (.int .i64 (k:Int)) w'∧w'.heap[G]? =some (.cells (rowAt z n (m+k)).toArray 9 (0,0))∧∀B w0,B≤G→Below B w0 w→Below B w0 w':=by
 have hl:=Sd z hm
 have hkn:m+k≤n:=by omega
 have:=run_copy_row (P:=Tryz.prog) w 22 22 ty 9 G m (n-m) dcap a sLen sCap (rowAt z n m).toArray 9 (List.replicate k (.string z)) Tryz.underlying22 (by kernel_rfl) hrow (by rw[List.length_replicate];exact hk)
  (fun j v hj=>by
   rw[List.getElem?_replicate]at hj
   split at hj
   ·cases hj;exact hsrc j (by assumption)
   ·cases hj) (by rw[List.length_replicate,List.size_toArray,hl];exact hkn) (fun v hv=>by rw[List.eq_of_mem_replicate hv];rfl)
 rw[List.length_replicate]at this
 refine⟨_,this, ?_,fun B w0 h1 h2=>below_setRow h2 h1 _⟩
 ·rw[setRow_heap w G _ _ 9 _ hrow]
  congr 2
  rw[rowAt,rowAt]
  have e1:(List.replicate m (Value.string z)++List.replicate (n-m) (Value.string ⟨#[]⟩)).take m=List.replicate m (Value.string z):=by
   rw[List.take_append_of_le_length (by simp)];simp
  have e2:(List.replicate m (Value.string z)++List.replicate (n-m) (Value.string ⟨#[]⟩)).drop (m+k)=List.replicate (n-(m+k)) (Value.string ⟨#[]⟩):=by
   rw[List.drop_append,List.length_replicate]
   simp
   omega
  rw[e1,e2,List.replicate_append_replicate]
set_option maxHeartbeats 8000000 in
theorem UU(b off c n:Nat)(z:ByteArray)(w:World)(hcell:w.cell? ⟨b,off,none⟩=some (.string z))(hb:b<w.heap.size)(h1:1≤n)(h2:n≤1000):
  Calls Tryz.prog 85 #[.slice (some ⟨b,off,none⟩) 1 c,.int .i64 n] w fun e w'=>e= .returned (.slice (some ⟨w.heap.size,0,none⟩) n n)∧w'.heap[w.heap.size]? =some (.cells (List.replicate n (Value.string z)).toArray 9 (0,0))∧Below w.heap.size w w':=by
 obtain⟨w1,hmk,hg1,hb1⟩:=TO n h2 w
 have HG:Aside (w1.heap[w.heap.size]? =some (.cells (rowAt ⟨#[]⟩ n 0).toArray 9 (0,0))∧Below w.heap.size w w1∧w1.cell? ⟨b,off,none⟩=some (.string z)):=⟨hg1,hb1,by rw[←hcell];unfold World.cell?;rw[hb1.block b hb]⟩
 clear hg1 hb1 hcell
 have q0:¬((n:Int)<0):=by omega
 have q1:¬((9223372036854775807:Int)<(n:Int)):=by omega
 obtain⟨w2,hcp,hg2,hb2⟩:∃w2,(Builtin.copy_ #[22,22] 3 #[.slice (some ⟨w.heap.size,0,none⟩) n n,.slice (some ⟨b,off,none⟩) 1 c]).run Tryz.prog w1= .ok (.int .i64 1) w2∧w2.heap[w.heap.size]? =some (.cells (rowAt z n 1).toArray 9 (0,0))∧Below w.heap.size w w2:=by
  obtain⟨g1,g2,g3⟩:=HG.out
  have e0:rowAt ⟨#[]⟩ n 0=rowAt z n 0:=by simp[rowAt]
  rw[e0]at g1
  obtain⟨w2,p1,p2,p3⟩:=OR z n 0 1 w.heap.size n 1 c ⟨b,off,none⟩ w1 3 g1 (by omega) (by omega) (fun j hj=>by
   have:j=0:=by omega
   subst this
   simpa[Addr.add]using g3)
  exact⟨w2,by simpa using p1,by simpa using p2,p3 _ _ (Nat.le_refl _) g2⟩
 have HR:Aside (w2.heap[w.heap.size]? =some (.cells (rowAt z n 1).toArray 9 (0,0))∧Below w.heap.size w w2):=⟨hg2,hb2⟩
 clear hg2 hb2
 obtain⟨G,hG⟩:∃G,w.heap.size=G:=⟨_,rfl⟩
 rw[hG]at hmk hcp HR ⊢
 go_enter Tryz.func85,Tryz.ntmps85
 go_wp2_with (go_at_call 150;refine(Tryz.bits_Mul 1 n (by omega) (by omega) _).mono ?_;rintro e w' ⟨rfl,hw⟩;rw[hw,show(1*n / 18446744073709551616:Nat)=0 by omega,show(1*n % 18446744073709551616:Nat)=n by omega])
 go_loopg [8] n (fun g t8 wx=>∃m:Nat,1≤m∧m≤n∧n≤m+g∧t8= .int .i64 (m:Int)∧Hid (wx.heap[G]? =some (.cells (rowAt z n m).toArray 9 (0,0)))∧Below G w wx)
 case atStart=>exact⟨1,by omega,h1,by omega,rfl,HR.out.1,HR.out.2⟩
 case round=>
  obtain⟨m,hm1,hm2,hmg,rfl,hrow,hbel⟩:=hrel
  have HB:Aside (Below G w wr):=hbel
  clear hbel
  by_cases hlt:m<n
  ·have hltI:(m:Int)<(n:Int):=by omega
   obtain⟨k,hk⟩:∃k,min m (n-m)=k:=⟨_,rfl⟩
   have hmn0:(0:Int)≤(m:Int):=by omega
   have hmn1:(m:Int)≤(n:Int):=by omega
   go_wp2
   obtain⟨w3,hc3,hg3,hb3⟩:=OR z n m k G (n-m) m n ⟨G,0,none⟩ wr.drew 3 hrow.out hm2 hk.symm (fun j hj=>by
    have h0:wr.heap[G]? =some (.cells (rowAt z n m).toArray 9 (0,0)):=hrow.out
    have hx:(rowAt z n m)[j]? =some (.string z):=by
     rw[rowAt,List.getElem?_append_left (by rw[List.length_replicate];omega),List.getElem?_replicate,if_pos (by omega)]
    have hlt2:j<(rowAt z n m).length:=(List.getElem?_eq_some_iff.1 hx).1
    have hd:wr.drew.heap[G]? =some (.cells (rowAt z n m).toArray 9 (0,0)):=h0
    have ha:(⟨G,0,none⟩:Addr).add j=⟨G,j,none⟩:=by
     unfold Addr.add
     split
     ·rename_i h;subst h;rfl
     ·simp
    rw[ha]
    simp only[World.cell?,hd]
    simpa using hx)
   have H3:Aside (w3.heap[G]? =some (.cells (rowAt z n (m+k)).toArray 9 (0,0))∧Below G w w3):=⟨hg3,hb3 _ _ (Nat.le_refl _) ⟨HB.out.os,HB.out.tape,HB.out.output,HB.out.size,HB.out.block⟩⟩
   clear hg3 hb3
   go_big_region
   have hk1:1≤k:=by omega
   have hmk:(m:Int)+(k:Int)=((m+k:Nat):Int):=by omega
   go_wp2
   go_roundg (gk-1)
   case measure=>omega
   case rel=>exact⟨m+k,by omega,by omega,by omega,by go_num,H3.out.1,H3.out.2⟩
  ·obtain rfl:m=n:=by omega
   go_wp2
   go_ret
   refine⟨rfl, ?_,HB.out⟩
   have:=hrow.out
   simpa[rowAt]using this
end Go.Proofs

/- The tables, the residual functions and lemmas of this seat: parts of the proof of the law; conditions: those that each names. -/
import Derived.Test.YtmmgfgfkkpeedaaGreatDoorJoi
set_option linter.unusedVariables false
set_option linter.unusedSimpArgs false
set_option maxRecDepth 100000
namespace Go.Proofs.YtmmgfgfkkpeedaaGreatDoor
open Go.Eng
def hexRow:List UInt8:=[48,49,50,51,52,53,54,55,56,57,97,98,99,100,101,102]
def hexD(n:Nat):UInt8:=hexRow[n]?.getD 0
def hexP(b:UInt8):List Int:=[((hexD (b.toNat / 16)).toNat:Int),((hexD (b.toNat % 16)).toNat:Int)]
def hexL(s:ByteArray):List Int:=s.data.toList.flatMap hexP
theorem digit_get(n:Nat)(h:n<16):(((⟨#[48,49,50,51,52,53,54,55,56,57,97,98,99,100,101,102]⟩:ByteArray)[n]?).map fun v0=>(v0.toNat:Int))=some ((hexD n).toNat:Int):=by
 rw[bget]
 show(hexRow[n]?).map _=_
 have hl:n<hexRow.length:=h
 rw[hexD,List.getElem?_eq_getElem hl];rfl
theorem and15_all:(List.range 256).all (fun n=>Int.beq' (intBits .and .u8 (n:Int) 15) (n % 16:Nat))=true:=by kernel_rfl
theorem and15(n:Nat)(h:n<256):intBits .and .u8 (n:Int) 15=((n % 16:Nat):Int):=Eq.mp (Int.beq'_eq _ _) (List.all_eq_true.1 and15_all n (List.mem_range.2 h))
theorem flat_len{α:Type}(f:UInt8→List α)(hf:∀b,(f b).length=2):∀l:List UInt8,(l.flatMap f).length=2*l.length
 |[]=>rfl
 |b::l=>by rw[List.flatMap_cons,List.length_append,hf,flat_len f hf l,List.length_cons];omega
theorem hexL_len(s:ByteArray):(hexL s).length=2*s.size:=by rw[hexL,flat_len hexP (fun _=>rfl),blen]
theorem hex_step{s:ByteArray}{i:Nat}(hi:i<s.size):(s.data.toList.take (i+1)).flatMap hexP=(s.data.toList.take i).flatMap hexP++[((hexD (s[i].toNat / 16)).toNat:Int),((hexD (s[i].toNat % 16)).toNat:Int)]:=by
 have hx:s[i]? =some s[i]:=getElem?_pos s i hi
 have hb:=bget s i
 rw[hx]at hb
 rw[List.take_add_one,←hb,List.flatMap_append]
 simp[hexP]
theorem hex_cap{s:ByteArray}{i:Nat}(hs:s.size≤1048576)(a b:Int):(((s.data.toList.take i).flatMap hexP).length+([a,b]:List Int).length)*1≤capBytes:=by
 have hlen:((s.data.toList.take i).flatMap hexP).length≤2*s.size:=by
  rw[flat_len hexP (fun _=>rfl)]
  have:=List.length_take_le' i s.data.toList
  rw[blen]at this
  omega
 simp only[List.length_cons,List.length_nil,capBytes];omega
theorem impl_HexOf_ev(s:ByteArray)(hs:s.size≤1048576):Ev (fun k=>c_impl_HexOf k s) (ofBytes (hexL s)):=by
 refine EvQ.run (fun k=>impl_HexOf_run k s) ?_
 simp only[impl_HexOf]
 refine Ev.eq ?_
 refine EvX.upto (L:=fun k _=>impl_HexOf_l1 k) s.size (fun(st:List Int) i=>(s,st,(s.size:Int),(i:Int))) (fun st i=>st=(s.data.toList.take i).flatMap hexP) (fun st i hi inv=> ?_) (fun st inv=> ?_) [] 0 (Nat.zero_le _) rfl
 ·subst inv
  have hl:(i:Int)<(s.size:Int):=by omega
  have hx:s[i]? =some s[i]:=getElem?_pos s i hi
  have hm:s[i].toNat<256:=UInt8.toNat_lt _
  have hd:(s[i].toNat:Int).fdiv (2 ^(min (4:Int).toNat (IntKind.bits .u8)))=((s[i].toNat / 16:Nat):Int):=by
   have:(2:Int)^(min (4:Int).toNat (IntKind.bits .u8))=16:=rfl
   rw[this,Int.fdiv_eq_ediv_of_nonneg _ (by omega)];omega
  simp only[impl_HexOf_l1,hl,decide_true,cond_true,Int.natCast_nonneg,if_true,Int.toNat_natCast,hx,Option.map_some,Option.bind_some,if_pos (show(0:Int)≤4 by decide),hd,digit_get _ (show s[i].toNat / 16<16 by omega),and15 _ hm,digit_get _ (show s[i].toNat % 16<16 by omega),if_pos (hex_cap hs _ _),wrap_succ hi (show s.size<4611686018427387904 by omega)]
  exact EvX.const _ (GL.self _ rfl (hex_step hi).symm)
 ·subst inv
  have:s.data.toList.take s.size=s.data.toList:=by rw[←blen,List.take_length]
  simp only[impl_HexOf_l1,Int.lt_irrefl,decide_false,cond_false,this]
  exact EvX.const _ (GE.ret (GR.ret rfl))
theorem spec_HexOf_ev(s:ByteArray)(hs:s.size≤1048576):Ev (fun k=>c_spec_HexOf k s) (ofBytes (hexL s)):=by
 refine EvQ.run (fun k=>spec_HexOf_run k s) ?_
 simp only[spec_HexOf]
 refine Ev.eq ?_
 refine EvX.upto (L:=fun k _=>spec_HexOf_l1 k) s.size (fun(st:List Int) i=>(s,st,(i:Int))) (fun st i=>st=(s.data.toList.take i).flatMap hexP) (fun st i hi inv=> ?_) (fun st inv=> ?_) [] 0 (Nat.zero_le _) rfl
 ·subst inv
  have hl:(i:Int)<(s.size:Int):=by omega
  have hx:s[i]? =some s[i]:=getElem?_pos s i hi
  have hm:s[i].toNat<256:=UInt8.toNat_lt _
  have hd:wrapK .u8 ((s[i].toNat:Int).tdiv 16)=((s[i].toNat / 16:Nat):Int):=by
   rw[Int.tdiv_eq_ediv_of_nonneg (by omega)]
   have:((s[i].toNat:Int) / 16)=((s[i].toNat / 16:Nat):Int):=by omega
   rw[this,wrapK,wrap_u8 (by omega) (by omega)]
  have hmd:((s[i].toNat:Int).tmod 16)=((s[i].toNat % 16:Nat):Int):=by
   rw[Int.tmod_eq_emod_of_nonneg (by omega)];omega
  simp only[spec_HexOf_l1,hl,decide_true,cond_true,Int.natCast_nonneg,if_true,Int.toNat_natCast,hx,Option.map_some,Option.bind_some,if_pos (show((16:Int):Int)≠0 by decide),hd,hmd,digit_get _ (show s[i].toNat / 16<16 by omega),digit_get _ (show s[i].toNat % 16<16 by omega),if_pos (hex_cap hs _ _),wrap_succ hi (show s.size<4611686018427387904 by omega)]
  exact EvX.const _ (GL.self _ rfl (hex_step hi).symm)
 ·subst inv
  have:s.data.toList.take s.size=s.data.toList:=by rw[←blen,List.take_length]
  simp only[spec_HexOf_l1,Int.lt_irrefl,decide_false,cond_false,this]
  exact EvX.const _ (GE.ret (GR.ret rfl))
end Go.Proofs.YtmmgfgfkkpeedaaGreatDoor

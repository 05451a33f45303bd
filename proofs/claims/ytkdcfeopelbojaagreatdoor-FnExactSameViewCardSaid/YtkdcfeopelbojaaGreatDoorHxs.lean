/- The tables, the residual functions and lemmas of this seat: parts of the proof of the law; conditions: those that each names. -/
import Derived.Test.YtkdcfeopelbojaaGreatDoorWsn
set_option linter.unusedVariables false
set_option linter.unusedSimpArgs false
set_option maxRecDepth 100000
namespace Go.Proofs.YtkdcfeopelbojaaGreatDoor
open Go.Eng
def Ls:List UInt8:=[48,49,50,51,52,53,54,55,56,57,97,98,99,100,101,102]
def NQ(n:Nat):UInt8:=Ls[n]?.getD 0
def GN(b:UInt8):List Int:=[((NQ (b.toNat / 16)).toNat:Int),((NQ (b.toNat % 16)).toNat:Int)]
def Py(s:ByteArray):List Int:=s.data.toList.flatMap GN
theorem wm(n:Nat)(h:n<16):(((⟨#[48,49,50,51,52,53,54,55,56,57,97,98,99,100,101,102]⟩:ByteArray)[n]?).map fun v0=>(v0.toNat:Int))=some ((NQ n).toNat:Int):=by
 rw[N3]
 show(Ls[n]?).map _=_
 have hl:n<Ls.length:=h
 rw[NQ,List.getElem?_eq_getElem hl];rfl
theorem Nz:(List.range 256).all (fun n=>Int.beq' (intBits .and .u8 (n:Int) 15) (n % 16:Nat))=true:=by kernel_rfl
theorem Sm(n:Nat)(h:n<256):intBits .and .u8 (n:Int) 15=((n % 16:Nat):Int):=Eq.mp (Int.beq'_eq _ _) (List.all_eq_true.1 Nz n (List.mem_range.2 h))
theorem Fl{α:Type}(f:UInt8→List α)(hf:∀b,(f b).length=2):∀l:List UInt8,(l.flatMap f).length=2*l.length
 |[]=>rfl
 |b::l=>by rw[List.flatMap_cons,List.length_append,hf,Fl f hf l,List.length_cons];omega
theorem O4(s:ByteArray):(Py s).length=2*s.size:=by rw[Py,Fl GN (fun _=>rfl),uG]
theorem Kv{s:ByteArray}{i:Nat}(hi:i<s.size):(s.data.toList.take (i+1)).flatMap GN=(s.data.toList.take i).flatMap GN++[((NQ (s[i].toNat / 16)).toNat:Int),((NQ (s[i].toNat % 16)).toNat:Int)]:=by
 have hx:s[i]? =some s[i]:=getElem?_pos s i hi
 have hb:=N3 s i
 rw[hx]at hb
 rw[List.take_add_one,←hb,List.flatMap_append]
 simp[GN]
theorem MM{s:ByteArray}{i:Nat}(hs:s.size≤1048576)(a b:Int):(((s.data.toList.take i).flatMap GN).length+([a,b]:List Int).length)*1≤au:=by
 have hlen:((s.data.toList.take i).flatMap GN).length≤2*s.size:=by
  rw[Fl GN (fun _=>rfl)]
  have:=List.length_take_le' i s.data.toList
  rw[uG]at this
  omega
 simp only[List.length_cons,List.length_nil,au];omega
theorem GJ(s:ByteArray)(hs:s.size≤1048576):Ev (fun k=>sr k s) (ofBytes (Py s)):=by
 refine ax.run (fun k=>Fc k s) ?_
 simp only[Fz]
 refine Ev.eq ?_
 refine ak.upto (L:=fun k _=>l9 k) s.size (fun(st:List Int) i=>(s,st,(s.size:Int),(i:Int))) (fun st i=>st=(s.data.toList.take i).flatMap GN) (fun st i hi inv=> ?_) (fun st inv=> ?_) [] 0 (Nat.zero_le _) rfl
 ·subst inv
  have hl:(i:Int)<(s.size:Int):=by omega
  have hx:s[i]? =some s[i]:=getElem?_pos s i hi
  have hm:s[i].toNat<256:=UInt8.toNat_lt _
  have hd:(s[i].toNat:Int).fdiv (2 ^(min (4:Int).toNat (IntKind.bits .u8)))=((s[i].toNat / 16:Nat):Int):=by
   have:(2:Int)^(min (4:Int).toNat (IntKind.bits .u8))=16:=rfl
   rw[this,Int.fdiv_eq_ediv_of_nonneg _ (by omega)];omega
  simp only[l9,hl,decide_true,cond_true,Int.natCast_nonneg,if_true,Int.toNat_natCast,hx,Option.map_some,Option.bind_some,if_pos (show(0:Int)≤4 by decide),hd,wm _ (show s[i].toNat / 16<16 by omega),Sm _ hm,wm _ (show s[i].toNat % 16<16 by omega),if_pos (MM hs _ _),rA hi (show s.size<4611686018427387904 by omega)]
  exact ak.const _ (GL.self _ rfl (Kv hi).symm)
 ·subst inv
  have:s.data.toList.take s.size=s.data.toList:=by rw[←uG,List.take_length]
  simp only[l9,Int.lt_irrefl,decide_false,cond_false,this]
  exact ak.const _ (GE.ret (GR.ret rfl))
theorem Gm(s:ByteArray)(hs:s.size≤1048576):Ev (fun k=>so k s) (ofBytes (Py s)):=by
 refine ax.run (fun k=>EC k s) ?_
 simp only[FV]
 refine Ev.eq ?_
 refine ak.upto (L:=fun k _=>lU k) s.size (fun(st:List Int) i=>(s,st,(i:Int))) (fun st i=>st=(s.data.toList.take i).flatMap GN) (fun st i hi inv=> ?_) (fun st inv=> ?_) [] 0 (Nat.zero_le _) rfl
 ·subst inv
  have hl:(i:Int)<(s.size:Int):=by omega
  have hx:s[i]? =some s[i]:=getElem?_pos s i hi
  have hm:s[i].toNat<256:=UInt8.toNat_lt _
  have hd:aa .u8 ((s[i].toNat:Int).tdiv 16)=((s[i].toNat / 16:Nat):Int):=by
   rw[Int.tdiv_eq_ediv_of_nonneg (by omega)]
   have:((s[i].toNat:Int) / 16)=((s[i].toNat / 16:Nat):Int):=by omega
   rw[this,aa,wrap_u8 (by omega) (by omega)]
  have hmd:((s[i].toNat:Int).tmod 16)=((s[i].toNat % 16:Nat):Int):=by
   rw[Int.tmod_eq_emod_of_nonneg (by omega)];omega
  simp only[lU,hl,decide_true,cond_true,Int.natCast_nonneg,if_true,Int.toNat_natCast,hx,Option.map_some,Option.bind_some,if_pos (show((16:Int):Int)≠0 by decide),hd,hmd,wm _ (show s[i].toNat / 16<16 by omega),wm _ (show s[i].toNat % 16<16 by omega),if_pos (MM hs _ _),rA hi (show s.size<4611686018427387904 by omega)]
  exact ak.const _ (GL.self _ rfl (Kv hi).symm)
 ·subst inv
  have:s.data.toList.take s.size=s.data.toList:=by rw[←uG,List.take_length]
  simp only[lU,Int.lt_irrefl,decide_false,cond_false,this]
  exact ak.const _ (GE.ret (GR.ret rfl))
end Go.Proofs.YtkdcfeopelbojaaGreatDoor

/- The tables, the residual functions and lemmas of this seat: parts of the proof of the law; conditions: those that each names. -/
import Derived.Test.YtmmgfgfkkpeedaaGreatDoorCtt
set_option linter.unusedVariables false
set_option linter.unusedSimpArgs false
set_option maxRecDepth 100000
namespace Go.Proofs.YtmmgfgfkkpeedaaGreatDoor
open Go.Eng
def hexV(n:Nat):Option Nat:=if 48≤n∧n≤57 then some (n-48)else if 97≤n∧n≤102 then some (n-87)else none
theorem hexV_lt{n v:Nat}(h:hexV n=some v):v<16:=by
 unfold hexV at h
 split at h
 ·injection h with h;omega
 ·split at h
  ·injection h with h;omega
  ·cases h
def hexI(n:Nat):Int:=match hexV n with|some v=>v|none=> -1
theorem hexI_all:(List.range 256).all (fun n=>Int.beq' (Lib.indexByte hexRow n.toUInt8) (hexI n))=true:=by kernel_rfl
theorem hexI_index(n:Nat)(h:n<256):Lib.indexByte hexRow n.toUInt8=hexI n:=
 Eq.mp (Int.beq'_eq _ _) (List.all_eq_true.1 hexI_all n (List.mem_range.2 h))
theorem index_ev(b:UInt8):Ev (fun k=>c_strings_IndexByte k ((⟨#[48,49,50,51,52,53,54,55,56,57,97,98,99,100,101,102]⟩:ByteArray),(b.toNat:Int))) (hexI b.toNat):=by
 refine EvQ.run (fun k=>c_strings_IndexByte_run k _) ?_
 have h:=hexI_index b.toNat b.toNat_lt
 refine EvQ.congr (g:=fun _=>some (hexI b.toNat)) (fun _=> ?_) (EvQ.const _)
 show some (Lib.indexByte hexRow ((b.toNat:Int)).toNat.toUInt8)=_
 rw[Int.toNat_natCast,h]
theorem hexC_all:(List.range 16).all (fun a=>(List.range 16).all fun b=>Int.beq' (wrapK .u8 (intBits .or .i64 (wrapK .i64 ((a:Int)*2 ^(min (4:Int).toNat (IntKind.bits .i64)))) (b:Int))) (16*a+b:Nat))=true:=by kernel_rfl
theorem hexC(a b:Nat)(ha:a<16)(hb:b<16):wrapK .u8 (intBits .or .i64 (wrapK .i64 ((a:Int)*2 ^(min (4:Int).toNat (IntKind.bits .i64)))) (b:Int))=((16*a+b:Nat):Int):=
 Eq.mp (Int.beq'_eq _ _) (List.all_eq_true.1 (List.all_eq_true.1 hexC_all a (List.mem_range.2 ha)) b (List.mem_range.2 hb))
def unF(s:ByteArray)(acc:List Int)(i:Nat)(_:Nat):List Int ⊕(ByteArray×Bool):=
 match hexV ((s[2*i]?.getD 0).toNat),hexV ((s[2*i+1]?.getD 0).toNat)with
 |some a,some b=> .inl (acc++[((16*a+b:Nat):Int)])
 |_,_=> .inr (⟨#[]⟩,false)
def unhexI(s:ByteArray):ByteArray×Bool:=
 if s.size % 2=0 then foldE (unF s) (fun acc=>(ofBytes acc,true)) [] 0 (List.range (s.size / 2))else(⟨#[]⟩,false)
theorem tmod_two(n:Nat):((n:Int).tmod 2)=((n % 2:Nat):Int):=by
 rw[Int.tmod_eq_emod_of_nonneg (by omega)];omega
theorem at_get{s:ByteArray}{i:Nat}(h:i<s.size):(s[i]?.map fun v0=>(v0.toNat:Int))=some (((s[i]?.getD 0).toNat:Nat):Int):=by
 rw[getElem?_pos s i h];rfl
theorem hexI_some{n v:Nat}(h:hexV n=some v):hexI n=(v:Int):=by rw[hexI,h]
theorem hexI_none{n:Nat}(h:hexV n=none):hexI n= -1:=by rw[hexI,h]
theorem two_ne:(2:Int)≠0:=by decide
theorem impl_UnhexText_ev(s:ByteArray)(hs:s.size≤1048576):Ev (fun k=>c_impl_UnhexText k s) (unhexI s):=by
 refine EvQ.run (fun k=>impl_UnhexText_run k s) ?_
 simp only[impl_UnhexText,unhexI,tmod_two,if_pos two_ne]
 by_cases h2:s.size % 2=0
 ·rw[if_pos h2,h2]
  simp only[Int.ofNat_zero,bne_self_eq_false,cond_false]
  refine EvL.ev ?_
  refine EvL.fold (L:=impl_UnhexText_l1) (List.range (s.size / 2)) (fun acc i=>(s,acc,((2*i:Nat):Int))) _ _ (fun acc i=>acc.length≤i) ?_ ?_ [] (by simp)
  ·intro acc i x hx hlen
   have hi:i<s.size / 2:=by have:=(List.getElem?_eq_some_iff.1 hx).1;simpa using this
   have hl:((2*i:Nat):Int)<(s.size:Int):=by omega
   have hw:wrapK .i64 (((2*i:Nat):Int)+1)=((2*i+1:Nat):Int):=by rw[wrapK,wrap_i64 (by omega) (by omega)];omega
   have hw2:wrapK .i64 (((2*i:Nat):Int)+2)=((2*(i+1):Nat):Int):=by rw[wrapK,wrap_i64 (by omega) (by omega)];omega
   have g1:=at_get (s:=s) (i:=2*i) (by omega)
   have g2:=at_get (s:=s) (i:=2*i+1) (by omega)
   have key:EvQ (fun k self=>impl_UnhexText_l1 k self (s,acc,((2*i:Nat):Int))) (fun self=>match hexV ((s[2*i]?.getD 0).toNat),hexV ((s[2*i+1]?.getD 0).toNat)with
     |some a,some b=>self (s,acc++[((16*a+b:Nat):Int)],((2*(i+1):Nat):Int))
     |_,_=>some (⟨#[]⟩,false)):=by
    simp only[impl_UnhexText_l1,hl,decide_true,cond_true,Int.natCast_nonneg,if_true,Int.toNat_natCast,g1,Option.bind_some,hw,g2]
    refine EvQ.bindS (index_ev _) ?_
    refine EvQ.bindS (index_ev _) ?_
    cases e1:hexV ((s[2*i]?.getD 0).toNat)with
    |none=>simp only[hexI_none e1,show decide ((-1:Int)<0)=true from rfl,cond_true];exact EvQ.const _
    |some a=>
     have n1:decide ((a:Int)<0)=false:=decide_eq_false (by omega)
     simp only[hexI_some e1,n1,cond_false]
     cases e2:hexV ((s[2*i+1]?.getD 0).toNat)with
     |none=>simp only[hexI_none e2,show decide ((-1:Int)<0)=true from rfl,cond_true];exact EvQ.const _
     |some b=>
      have n2:decide ((b:Int)<0)=false:=decide_eq_false (by omega)
      simp only[hexI_some e2,n2,cond_false,hexC a b (hexV_lt e1) (hexV_lt e2),hw2]
      have hcap:(acc.length+([((16*a+b:Nat):Int)]:List Int).length)*1≤capBytes:=by simp only[List.length_singleton,capBytes];omega
      simp only[if_pos (show(0:Int)≤4 by decide),if_pos hcap]
      exact EvQ.const _
   simp only[unF]
   revert key
   generalize hexV ((s[2*i]?.getD 0).toNat)=u
   generalize hexV ((s[2*i+1]?.getD 0).toNat)=v
   intro key
   match u,v,key with
   |some a,some b,key=>exact⟨key,by simp;omega⟩
   |none,_,key=>exact EvL.stop key
   |some a,none,key=>exact EvL.stop key
  ·intro acc _
   refine EvL.stop ?_
   have hl:¬((2*(List.range (s.size / 2)).length:Nat):Int)<(s.size:Int):=by rw[List.length_range];omega
   simp only[impl_UnhexText_l1,hl,decide_false,cond_false]
   exact EvQ.const _
 ·rw[if_neg h2]
  have:((((s.size % 2:Nat):Int)) != 0)=true:=by rw[bne_iff_ne];omega
  simp only[this,cond_true];exact EvQ.const _
theorem spec_in(k:Nat)(a0 self)(s:ByteArray)(acc:List Int)(i v:Nat)(l:List Int)(j c:Nat)(hj:l[j]? =some (c:Int))(hv:v<16)(hc:c<256)(hlen:l.length=2):
  spec_UnhexText_l1 k a0 self (s,acc,(i:Int),(v:Int),l,(2:Int),(j:Int))=match hexV c with
   |some x=>self (s,acc,(i:Int),((16*v+x:Nat):Int),l,(2:Int),((j+1:Nat):Int))
   |none=>some (⟨#[]⟩,false):=by
 have hl:j<l.length:=(List.getElem?_eq_some_iff.1 hj).1
 have hl2:(j:Int)<2:=by omega
 have hl3:(j:Int)<(l.length:Int):=by omega
 simp only[spec_UnhexText_l1,hl2,hl3,decide_true,cond_true,Int.natCast_nonneg,if_true,Int.toNat_natCast,hj,Option.bind_some]
 have hw:wrapK .i64 ((j:Int)+1)=((j+1:Nat):Int):=by rw[wrapK,wrap_i64 (by omega) (by omega)];omega
 have w1:wrapK .i64 ((16:Int)*(v:Int))=16*v:=by rw[wrapK,wrap_i64 (by omega) (by omega)]
 have w2:wrapK .i64 (c:Int)=c:=by rw[wrapK,wrap_i64 (by omega) (by omega)]
 have w3:wrapK .i64 ((16:Int)*(v:Int)+c)=16*v+c:=by rw[wrapK,wrap_i64 (by omega) (by omega)]
 simp only[hw,w1,w2,w3]
 unfold hexV
 by_cases h1:48≤c
 ·have d1:decide ((48:Int)≤(c:Int))=true:=decide_eq_true (by omega)
  by_cases h2:c≤57
  ·have d2:decide ((c:Int)≤57)=true:=decide_eq_true (by omega)
   simp only[d1,d2,cond_true]
   rw[if_pos ⟨h1,h2⟩]
   have:wrapK .i64 ((16:Int)*(v:Int)+c-48)=((16*v+(c-48):Nat):Int):=by rw[wrapK,wrap_i64 (by omega) (by omega)];omega
   simp only[this]
  ·have d2:decide ((c:Int)≤57)=false:=decide_eq_false (by omega)
   simp only[d1,d2,cond_true,cond_false]
   rw[if_neg (fun h=>h2 h.2)]
   by_cases h3:97≤c
   ·have d3:decide ((97:Int)≤(c:Int))=true:=decide_eq_true (by omega)
    by_cases h4:c≤102
    ·have d4:decide ((c:Int)≤102)=true:=decide_eq_true (by omega)
     simp only[d3,d4,cond_true]
     rw[if_pos ⟨h3,h4⟩]
     have:wrapK .i64 ((16:Int)*(v:Int)+c-87)=((16*v+(c-87):Nat):Int):=by rw[wrapK,wrap_i64 (by omega) (by omega)];omega
     simp only[this]
    ·have d4:decide ((c:Int)≤102)=false:=decide_eq_false (by omega)
     simp only[d3,d4,cond_true,cond_false]
     rw[if_neg (fun h=>h4 h.2)]
   ·have d3:decide ((97:Int)≤(c:Int))=false:=decide_eq_false (by omega)
    simp only[d3,cond_false]
    rw[if_neg (fun h=>h3 h.1)]
 ·have d1:decide ((48:Int)≤(c:Int))=false:=decide_eq_false (by omega)
  have d3:decide ((97:Int)≤(c:Int))=false:=decide_eq_false (by omega)
  simp only[d1,d3,cond_false]
  rw[if_neg (fun h=>h1 h.1),if_neg (fun h=>by omega)]
theorem spec_pair(s:ByteArray)(acc:List Int)(i c1 c2:Nat)(h1:c1<256)(h2:c2<256)(hi:i<1048577)(hlen:acc.length≤i):
  EvQ (fun k self=>iter k (spec_UnhexText_l1 k self) (s,acc,(i:Int),(0:Int),[(c1:Int),(c2:Int)],(2:Int),(0:Int))) (fun self=>match hexV c1,hexV c2 with
   |some a,some b=>self (s,acc++[((16*a+b:Nat):Int)],((i+2:Nat):Int))
   |_,_=>some (⟨#[]⟩,false)):=by
 refine⟨3,fun k hk=> ?_⟩
 obtain⟨m,rfl⟩:∃m,k=m+3:=⟨k-3,by omega⟩
 funext self
 simp only[iter]
 have e1:=spec_in (m+3) self (spec_UnhexText_l1 (m+3) self (spec_UnhexText_l1 (m+3) self (iter m (spec_UnhexText_l1 (m+3) self)))) s acc i 0 [(c1:Int),(c2:Int)] 0 c1 rfl (by omega) h1 rfl
 simp only[Int.ofNat_zero]at e1
 rw[e1]
 cases v1:hexV c1 with
 |none=>rfl
 |some a=>
  simp only[]
  rw[spec_in (m+3) self _ s acc i (16*0+a) [(c1:Int),(c2:Int)] (0+1) c2 rfl (by have:=hexV_lt v1;omega) h2 rfl]
  cases v2:hexV c2 with
  |none=>rfl
  |some b=>
   have b1:=hexV_lt v1
   have b2:=hexV_lt v2
   have hw:wrapK .i64 ((i:Int)+2)=((i+2:Nat):Int):=by rw[wrapK,wrap_i64 (by omega) (by omega)];omega
   have hb:wrapK .u8 ((16*(16*0+a)+b:Nat):Int)=((16*a+b:Nat):Int):=by
    rw[wrapK,wrap_u8 (by omega) (by omega)];omega
   simp only[spec_UnhexText_l1,show((0+1+1:Nat):Int)=2 from rfl,Int.lt_irrefl,decide_false,cond_false,hw,hb]
   rw[if_pos (by simp only[List.length_singleton,capBytes];omega)]
theorem spec_UnhexText_ev(s:ByteArray)(hs:s.size≤1048576):Ev (fun k=>c_spec_UnhexText k s) (unhexI s):=by
 refine EvQ.run (fun k=>spec_UnhexText_run k s) ?_
 simp only[spec_UnhexText,unhexI,tmod_two,if_pos two_ne]
 by_cases h2:s.size % 2=0
 ·rw[if_pos h2,h2]
  simp only[Int.ofNat_zero,bne_self_eq_false,cond_false]
  refine EvL.ev ?_
  refine EvL.fold (L:=spec_UnhexText_l2) (List.range (s.size / 2)) (fun acc i=>(s,acc,((2*i:Nat):Int))) _ _ (fun acc i=>acc.length≤i) ?_ ?_ [] (by simp)
  ·intro acc i x hx hlen
   have hi:i<s.size / 2:=by have:=(List.getElem?_eq_some_iff.1 hx).1;simpa using this
   have hl:((2*i:Nat):Int)<(s.size:Int):=by omega
   have hw:wrapK .i64 (((2*i:Nat):Int)+1)=((2*i+1:Nat):Int):=by rw[wrapK,wrap_i64 (by omega) (by omega)];omega
   have g1:=at_get (s:=s) (i:=2*i) (by omega)
   have g2:=at_get (s:=s) (i:=2*i+1) (by omega)
   have key:EvQ (fun k self=>spec_UnhexText_l2 k self (s,acc,((2*i:Nat):Int))) (fun self=>match hexV ((s[2*i]?.getD 0).toNat),hexV ((s[2*i+1]?.getD 0).toNat)with
     |some a,some b=>self (s,acc++[((16*a+b:Nat):Int)],((2*(i+1):Nat):Int))
     |_,_=>some (⟨#[]⟩,false)):=by
    simp only[spec_UnhexText_l2,hl,decide_true,cond_true,Int.natCast_nonneg,if_true,Int.toNat_natCast,g1,Option.bind_some,hw,g2]
    exact spec_pair s acc (2*i) _ _ (UInt8.toNat_lt _) (UInt8.toNat_lt _) (by omega) (by omega)
   simp only[unF]
   revert key
   generalize hexV ((s[2*i]?.getD 0).toNat)=u
   generalize hexV ((s[2*i+1]?.getD 0).toNat)=v
   intro key
   match u,v,key with
   |some a,some b,key=>exact⟨key,by simp;omega⟩
   |none,_,key=>exact EvL.stop key
   |some a,none,key=>exact EvL.stop key
  ·intro acc _
   refine EvL.stop ?_
   have hl:¬((2*(List.range (s.size / 2)).length:Nat):Int)<(s.size:Int):=by rw[List.length_range];omega
   simp only[spec_UnhexText_l2,hl,decide_false,cond_false]
   exact EvQ.const _
 ·rw[if_neg h2]
  have:((((s.size % 2:Nat):Int)) != 0)=true:=by rw[bne_iff_ne];omega
  simp only[this,cond_true];exact EvQ.const _
theorem foldE_congr{α σ R:Type}(f g:σ→Nat→α→σ ⊕ R)(fin:σ→R):∀(l:List α) (s:σ) (i:Nat),(∀s j x,l[j]? =some x→f s (i+j) x=g s (i+j) x)→foldE f fin s i l=foldE g fin s i l
 |[],_,_,_=>rfl
 |x::l,s,i,h=>by
  have h0:=h s 0 x rfl
  simp only[Nat.add_zero]at h0
  simp only[foldE,h0]
  cases g s i x with
  |inr r=>rfl
  |inl s'=>exact foldE_congr f g fin l s' (i+1) fun s j y hj=>by have:=h s (j+1) y hj;rw[show i+1+j=i+(j+1)by omega];exact this
theorem foldE_app{R:Type}(b:List Int)(fin:List Int→R):∀(m i:Nat) (acc:List Int),i+m=b.length→foldE (fun acc i (_:Nat)=>Sum.inl (acc++[b[i]?.getD 0])) fin acc i ((List.range b.length).drop i)=fin (acc++b.drop i)
 |0,i,acc,h=>by
  rw[List.drop_eq_nil_iff.2 (by simp;omega),List.drop_eq_nil_iff.2 (by omega)]
  simp[foldE]
 |m+1,i,acc,h=>by
  have hi:i<b.length:=by omega
  have hr:i<(List.range b.length).length:=by simpa using hi
  rw[List.drop_eq_getElem_cons hr,List.drop_eq_getElem_cons hi]
  simp only[foldE]
  rw[foldE_app b fin m (i+1) _ (by omega),List.getElem?_eq_getElem hi]
  simp
theorem hexVD_all:(List.range 16).all (fun n=>hexV (hexD n).toNat==some n)=true:=by kernel_rfl
theorem hexVD(n:Nat)(h:n<16):hexV (hexD n).toNat=some n:=eq_of_beq (List.all_eq_true.1 hexVD_all n (List.mem_range.2 h))
theorem pair_get{α:Type}(f g:UInt8→α):∀(l:List UInt8) (i:Nat),(l.flatMap fun b=>[f b,g b])[2*i]? =l[i]?.map f∧(l.flatMap fun b=>[f b,g b])[2*i+1]? =l[i]?.map g
 |[],i=>by simp
 |b::l,0=>by simp
 |b::l,i+1=>by
  have:=pair_get f g l i
  simp only[List.flatMap_cons,List.cons_append,List.nil_append,List.getElem?_cons_succ]
  rw[show 2*(i+1)=2*i+1+1 by omega]
  simp only[List.getElem?_cons_succ]
  exact this
theorem unhex_hex(s:ByteArray):unhexI (ofBytes (hexL s))=(s,true):=by
 have hsz:(ofBytes (hexL s)).size=2*s.size:=by rw[ofBytes_size,hexL,flat_len hexP (fun _=>rfl),blen]
 have hl:(ofBytes (hexL s)).data.toList=s.data.toList.flatMap fun b=>[hexD (b.toNat / 16),hexD (b.toNat % 16)]:=by
  rw[ofBytes_list,hexL,List.map_flatMap]
  refine congrArg (fun f=>List.flatMap f s.data.toList) (funext fun b=> ?_)
  simp[hexP]
 unfold unhexI
 rw[if_pos (by omega),hsz,show 2*s.size / 2=s.size by omega]
 have hb:(bytesOf s).length=s.size:=by rw[bytesOf,List.length_map,blen]
 have key:=foldE_congr (R:=ByteArray×Bool) (unF (ofBytes (hexL s))) (fun acc i (_:Nat)=>Sum.inl (acc++[(bytesOf s)[i]?.getD 0])) (fun acc=>(ofBytes acc,true)) (List.range s.size) [] 0 (fun acc j x hx=>by
  have hj:j<s.size:=by have:=(List.getElem?_eq_some_iff.1 hx).1;simpa using this
  obtain⟨p1,p2⟩:=pair_get (fun b=>hexD (b.toNat / 16)) (fun b=>hexD (b.toNat % 16)) s.data.toList j
  have hsj:s.data.toList[j]? =some s[j]:=by rw[←bget];exact getElem?_pos s j hj
  rw[hsj]at p1 p2
  have hm:s[j].toNat<256:=UInt8.toNat_lt _
  rw[Nat.zero_add]
  simp only[unF,bget,hl,p1,p2,Option.map_some,Option.getD_some,hexVD _ (show s[j].toNat / 16<16 by omega),hexVD _ (show s[j].toNat % 16<16 by omega)]
  rw[bytesOf,List.getElem?_map,hsj]
  simp only[Option.map_some,Option.getD_some]
  rw[show 16*(s[j].toNat / 16)+s[j].toNat % 16=s[j].toNat by omega])
 rw[key]
 have:=foldE_app (R:=ByteArray×Bool) (bytesOf s) (fun acc=>(ofBytes acc,true)) s.size 0 [] (by omega)
 rw[List.drop_zero,List.drop_zero,hb]at this
 rw[this,List.nil_append]
 have e:ofBytes (bytesOf s)=s:=bext (by
  rw[ofBytes_list,bytesOf,List.map_map]
  have:((fun n:Int=>UInt8.ofNat n.toNat)∘ fun c:UInt8=>(c.toNat:Int))=id:=by
   funext c;simp
  rw[this,List.map_id])
 rw[e]
end Go.Proofs.YtmmgfgfkkpeedaaGreatDoor

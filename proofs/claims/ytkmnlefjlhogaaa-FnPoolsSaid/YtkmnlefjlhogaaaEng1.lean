/- The engine, part 1: a symbolic interpreter of the model's programs and the proof that its runs are what the functions do; conditions: those that its theorems name. -/
import GoSem.Core.Code
import GoSem.Core.View
import GoSem.Op.String
import Derived.Calls
import Derived.Deep.MidRow
import Derived.Laws.Strings
import Derived.Laws.StructEq
import Derived.Laws.MakeOwn
import Derived.Laws.BytesString
import Derived.Deep.AppendSrc
import Derived.Lib.ConvBytes
import Derived.Laws.Tables
import Derived.Great.BuildSlice
import GoSem.Core.Region
import Derived.LoopN
import Derived.Tactics
import Derived.Laws.Sem
import Derived.Orders
import GoSem.ClaimChange
import GoSem.ClaimData
import Derived.ChangeArms
import Derived.WideShapes
import Derived.Carry
import Derived.SizedLaws
import Derived.ProofKit
import Derived.OpenShut
import Derived.ChangeOld
import Derived.RowKit
import Derived.Lib.Bytealg
import Derived.Lib.IndexAny
import Derived.Lib.Repeat
import Derived.Lib.Join
import Derived.Lib.LaidTab
import Derived.Lib.ItoaNum
import Derived.Sort.Grow
import Derived.Laws.AppendOwn
import Derived.Deep.Draws
set_option linter.unusedVariables false
set_option linter.unusedSimpArgs false
namespace Go.Eng
section
inductive Ty where
 |unit|int (k:IntKind)|bool|str
 |list (o:Bool) (t:Ty)
 |ptr (t:Ty)
 |pair (a b:Ty)
 |arr (n:Nat) (t:Ty)
 |gone (n:Nat)--n cells whose content has been moved out
 |ti--an int;a list of them has no room where it is empty
@[reducible] def Ty.D:Ty→Type
 | .unit=>Unit| .int _=>Int| .bool=>Bool| .str=>ByteArray
 | .list _ t=>List t.D| .ptr t=>Option t.D| .pair a b=>a.D×b.D| .arr _ t=>List t.D| .gone _=>Unit| .ti=>Int
def kindB:IntKind→IntKind→Bool
 | .i8,.i8| .i16,.i16| .i32,.i32| .i64,.i64| .u8,.u8| .u16,.u16| .u32,.u32| .u64,.u64=>true
 |_,_=>false
theorem kindB_eq:∀{a b:IntKind},kindB a b=true→a=b:=by
 intro a b h;cases a<;>cases b<;>first|rfl|cases h
def Ty.same:Ty→Ty→Bool
 | .unit,.unit| .bool,.bool| .str,.str=>true
 | .int k,.int k'=>kindB k k'
 | .list _ t,.list _ t'=>t.same t'
 | .ptr t,.ptr t'=>t.same t'
 | .pair a b,.pair a' b'=>a.same a'&&b.same b'
 | .arr n t,.arr n' t'=>Nat.beq n n'&&t.same t'
 | .gone n,.gone n'=>Nat.beq n n'
 | .ti,.ti=>true
 | .ti,.int k=>kindB .i64 k
 | .int k,.ti=>kindB k .i64
 |_,_=>false
theorem Ty.same_D:∀{a b:Ty},a.same b=true→a.D=b.D:=by
 intro a
 induction a with
 |unit=>intro b h;cases b<;>first|rfl|cases h
 |bool=>intro b h;cases b<;>first|rfl|cases h
 |str=>intro b h;cases b<;>first|rfl|cases h
 |int k=>intro b h;cases b<;>first|rfl|cases h
 |list o t ih=>intro b h;cases b<;>first|cases h|(have e:=ih (b:=_) h;simp only[Ty.D,e])
 |ptr t ih=>intro b h;cases b<;>first|cases h|(have e:=ih (b:=_) h;simp only[Ty.D,e])
 |pair x y ihx ihy=>
  intro b h
  cases b<;>first|cases h|skip
  rename_i x' y'
  simp only[Ty.same,Bool.and_eq_true]at h
  have e:=ihx h.1;have e':=ihy h.2
  simp only[Ty.D,e,e']
 |arr n t ih=>
  intro b h
  cases b<;>first|cases h|skip
  rename_i n' t'
  simp only[Ty.same,Bool.and_eq_true]at h
  have e:=ih h.2
  simp only[Ty.D,e]
 |gone n=>intro b h;cases b<;>first|rfl|cases h
 |ti=>intro b h;cases b<;>first|rfl|cases h
def Ty.beq:Ty→Ty→Bool
 | .unit,.unit| .bool,.bool| .str,.str=>true
 | .int k,.int k'=>kindB k k'
 | .list o t,.list o' t'=>(o==o')&&t.beq t'
 | .ptr t,.ptr t'=>t.beq t'
 | .pair a b,.pair a' b'=>a.beq a'&&b.beq b'
 | .arr n t,.arr n' t'=>Nat.beq n n'&&t.beq t'
 | .gone n,.gone n'=>Nat.beq n n'
 | .ti,.ti=>true
 |_,_=>false
theorem Ty.beq_eq:∀{a b:Ty},a.beq b=true→a=b:=by
 intro a
 induction a with
 |unit=>intro b h;cases b<;>first|rfl|cases h
 |bool=>intro b h;cases b<;>first|rfl|cases h
 |str=>intro b h;cases b<;>first|rfl|cases h
 |int k=>intro b h;cases b<;>first|(exact congrArg Ty.int (kindB_eq h))|cases h
 |list o t ih=>
  intro b h
  cases b<;>first|cases h|skip
  simp only[Ty.beq,Bool.and_eq_true,beq_iff_eq]at h
  rw[h.1,ih h.2]
 |ptr t ih=>intro b h;cases b<;>first|cases h|(exact congrArg Ty.ptr (ih h))
 |pair x y ihx ihy=>
  intro b h
  cases b<;>first|cases h|skip
  simp only[Ty.beq,Bool.and_eq_true]at h
  rw[ihx h.1,ihy h.2]
 |arr n t ih=>
  intro b h
  cases b<;>first|cases h|skip
  simp only[Ty.beq,Bool.and_eq_true]at h
  rw[Nat.eq_of_beq_eq_true h.1,ih h.2]
 |gone n=>intro b h;cases b<;>first|(exact congrArg Ty.gone (Nat.eq_of_beq_eq_true h))|cases h
 |ti=>intro b h;cases b<;>first|rfl|cases h
def Ty.isT:Ty→Bool
 | .ti=>true|_=>false
def Ty.sub:Ty→Ty→Bool
 | .list o t,.list o' t'=>(!o'||o)&&((!t'.isT||t.isT)&&t.sub t')
 | .ptr t,.ptr t'=>t.sub t'
 | .pair a b,.pair a' b'=>a.sub a'&&b.sub b'
 | .arr n t,.arr n' t'=>Nat.beq n n'&&t.sub t'
 |a,b=>a.same b
theorem Ty.sub_same:∀{a b:Ty},a.sub b=true→a.same b=true:=by
 intro a
 induction a with
 |list o t ih=>
  intro b h
  cases b<;>first|cases h|skip
  simp only[Ty.sub,Bool.and_eq_true]at h
  exact ih h.2.2
 |pair x y ihx ihy=>
  intro b h
  cases b<;>first|cases h|skip
  simp only[Ty.sub,Bool.and_eq_true]at h
  simp only[Ty.same,Bool.and_eq_true]
  exact⟨ihx h.1,ihy h.2⟩
 |arr n t ih=>
  intro b h
  cases b<;>first|cases h|skip
  simp only[Ty.sub,Bool.and_eq_true]at h
  simp only[Ty.same,Bool.and_eq_true]
  exact⟨h.1,ih h.2⟩
 |unit=>intro b h;cases b<;>first|exact h|cases h
 |bool=>intro b h;cases b<;>first|exact h|cases h
 |str=>intro b h;cases b<;>first|exact h|cases h
 |int k=>intro b h;cases b<;>first|exact h|cases h
 |ptr t ih=>intro b h;cases b<;>first|cases h|exact ih h
 |ti=>intro b h;cases b<;>first|exact h|cases h
 |gone n=>intro b h;cases b<;>first|exact h|cases h
def Ty.sz:Ty→Nat
 | .unit=>0| .pair a b=>a.sz+b.sz| .arr n t=>n*t.sz| .gone n=>n|_=>1
def Ty.like:Ty→Ty→Bool
 | .pair a b,.pair c d=>a.like c&&b.like d
 | .gone n,t=>Nat.beq n t.sz
 |a,b=>a.same b
def Ty.shared:Ty→Bool
 | .list o t=> !o&&t.shared| .pair a b=>a.shared&&b.shared| .arr _ t=>t.shared| .ptr t=>t.shared| .gone _=>false|_=>true
def Ty.owned:Ty→Bool
 | .list o t=>o&&t.owned| .pair a b=>a.owned&&b.owned| .arr _ t=>t.owned| .ptr _| .gone _=>false|_=>true
def Ty.k:Ty→Ty
 | .list _ t=> .list false t.k| .pair a b=> .pair a.k b.k| .arr n t=> .arr n t.k| .ptr t=> .ptr t.k|t=>t
def Ty.o:Ty→Ty
 | .list _ t=> .list true t.o| .pair a b=> .pair a.o b.o| .arr n t=> .arr n t.o|t=>t
def Ty.scal:Ty→Bool
 | .int _| .bool| .str| .ptr _| .ti=>true|_=>false
def Ty.isList:Ty→Bool
 | .list _ _=>true|_=>false
def Ty.nt:Ty→Ty
 | .ti=> .int .i64| .list o t=> .list o t.nt| .ptr t=> .ptr t.nt| .pair a b=> .pair a.nt b.nt| .arr n t=> .arr n t.nt|t=>t
def Ty.here:Ty→Bool
 | .gone _=>false|_=>true
abbrev Dyn:=Sigma Ty.D
def conv(t t':Ty)(x:t.D):Option t'.D:=if h:t.sub t'=true then some (cast (Ty.same_D (Ty.sub_same h)) x)else none
def Ty.zero:(t:Ty)→t.D
 | .unit=>()| .int _=>(0:Int)| .bool=>false| .str=>ByteArray.empty
 | .list _ _=>[]| .ptr _=>none| .pair a b=>(a.zero,b.zero)| .arr n t=>List.replicate n t.zero| .gone _=>()| .ti=>(0:Int)
def mkT:List Ty→Ty
 |[]=> .unit|[t]=>t|t::ts=> .pair t (mkT ts)
inductive Step where
 |L|R|I (i:Nat)|A (i:Nat)--a pair's parts;an element of a list;of an array
abbrev Path:=List Step
def fldPath:Nat→Nat→Path
 |_,0=>[]
 |0,1=>[]
 |0,_+2=>[.L]
 |_+1,1=>[]
 |f+1,n+2=> .R::fldPath f (n+1)
inductive Cm (α:Type) where
 |ret (a:α)
 |fail
 |guard (c:Prop) (i:Decidable c) (m:Cm α)
 |get (t:Ty) (o:Option t.D) (f:t.D→Cm α)
def Cm.bind{α β:Type}:Cm α→(α→Cm β)→Cm β
 | .ret a,f=>f a
 | .fail,_=> .fail
 | .guard c i m,f=> .guard c i (m.bind f)
 | .get t o g,f=> .get t o fun x=>(g x).bind f
def Cm.run{α:Type}:Cm α→Option α
 | .ret a=>some a
 | .fail=>none
 | .guard c _ m=>if c then m.run else none
 | .get _ o f=>match o with|some x=>(f x).run|none=>none
def Cm.runK{α R:Type}:Cm α→(α→Option R)→Option R
 | .ret a,κ=>κ a
 | .fail,_=>none
 | .guard c _ m,κ=>if c then m.runK κ else none
 | .get _ o f,κ=>o.bind fun x=>(f x).runK κ
def Cm.chk{α:Type}(b:Bool)(m:Cm α):Cm α:=bif b then m else .fail
def Cm.ask{α:Type}(c:Prop)[i:Decidable c](m:Cm α):Cm α:= .guard c i m
def Cm.ofOpt(t:Ty)(o:Option t.D):Cm t.D:= .get t o .ret
def rd:(t:Ty)→t.D→Path→Cm Dyn
 |t,x,[]=> .ret ⟨t,x⟩
 | .pair a _,x,.L::p=>rd a x.1 p
 | .pair _ b,x,.R::p=>rd b x.2 p
 | .list true t,l,.I i::p=> .get t (l:List t.D)[i]? fun y=>rd t y p
 | .arr _ t,l,.A i::p=> .get t (l:List t.D)[i]? fun y=>rd t y p
 |_,_,_=> .fail
def Ty.fits(t t':Ty):Bool:=t.same t'||(match t,t' with| .gone n,t'=>Nat.beq n t'.sz|t,.gone n=>Nat.beq t.sz n|_,_=>false)
def wrS:(t:Ty)→t.D→Path→Dyn→Cm t.D
 |t,_,[],v=> .get t (conv v.1 t v.2) .ret
 | .pair a b,x,.L::p,v=>(wrS a x.1 p v).bind fun y=> .ret (y,x.2)
 | .pair a b,x,.R::p,v=>(wrS b x.2 p v).bind fun y=> .ret (x.1,y)
 | .list true t,l,.I i::p,v=> .get t (l:List t.D)[i]? fun y=>(wrS t y p v).bind fun z=> .ret ((l:List t.D).set i z)
 | .arr n t,l,.A i::p,v=> .get t (l:List t.D)[i]? fun y=>(wrS t y p v).bind fun z=> .ret ((l:List t.D).set i z)
 |_,_,_,_=> .fail
def wr:(t:Ty)→t.D→Path→Dyn→Cm Dyn
 |t,_,[],v=> .chk (t.fits v.1) (.ret v)
 | .pair a b,x,.L::p,v=>(wr a x.1 p v).bind fun d=> .ret ⟨.pair d.1 b,(d.2,x.2)⟩
 | .pair a b,x,.R::p,v=>(wr b x.2 p v).bind fun d=> .ret ⟨.pair a d.1,(x.1,d.2)⟩
 |t,x,p,v=>(wrS t x p v).bind fun y=> .ret ⟨t,y⟩
structure Place where
 r:Nat
 π:Path
inductive RV where
 |und
 |skipped
 |v (t:Ty) (x:t.D)
 |nl
 |pn
 |wl (p:Place)
 |vw (p:Place) (lo len:Nat)
 |sv (p:Place)
 |rf (p:Place)
 |ap (p:Place)--what an append made of the list at a place
 |fn (f:Nat) (caps:List RV)
 |fb (f:Nat) (caps:List RV)
 |tp (l:List RV)
inductive Root where
 |data (real:Bool) (t:Ty) (x:t.D) (pend:Option (Path×(te:Ty)×List te.D))
 |al (p:Place)
abbrev Regs:=List (Nat×RV)
abbrev Roots:=List (Nat×Option Root)
def getR:Regs→Nat→RV
 |[],_=> .und
 |(m,v)::l,n=>if Nat.beq m n then v else getR l n
def getB:Roots→Nat→Option Root
 |[],_=>none
 |(m,v)::l,n=>if Nat.beq m n then v else getB l n
inductive Kill where
 |sc (p:Place)|hd (p:Place)|gn (p:Place)|all (r:Nat)|ap (r:Nat)
def stepC:Step→Step→Bool
 | .L,.L| .R,.R| .I _,.I _| .A _,.A _=>true
 |_,_=>false
def noI:Path→Bool
 |[]=>true| .I _::_=>false|_::p=>noI p
def behind:Path→Path→Option Path
 |[],p=>some p
 |_::_,[]=>none
 |a::p,b::q=>if stepC a b then behind p q else none
def killsPlace(deep:Path→Bool)(p q:Place):Bool:=
 Nat.beq p.r q.r&&(match behind p.π q.π with|some x=>deep x|none=>false)
def killsAlias(p q:Place):Bool:=
 Nat.beq p.r q.r&&(behind q.π p.π).isSome
def killsStruct(p q:Place):Bool:=
 Nat.beq p.r q.r&&(match behind q.π p.π with|some x=>noI x|none=>false)
def tyAt:Ty→Path→Option Ty
 |t,[]=>some t
 | .pair a _,.L::p=>tyAt a p
 | .pair _ b,.R::p=>tyAt b p
 | .list true t,.I _::p=>tyAt t p
 | .arr _ t,.A _::p=>tyAt t p
 |_,_=>none
mutual
def hit(k:Kill):RV→Bool
 | .wl q| .vw q _ _=>match k with
  | .sc _| .gn _| .ap _=>false| .hd p=>killsPlace (fun _=>true) p q| .all r=>Nat.beq r q.r
 | .ap q=>match k with
  | .sc p| .hd p| .gn p=>Nat.beq p.r q.r| .all r| .ap r=>Nat.beq r q.r
 | .sv q=>match k with
  | .sc p=>killsStruct p q| .hd p=>killsStruct p q||killsPlace (fun _=>true) p q| .all r=>Nat.beq r q.r| .gn _| .ap _=>false
 | .rf q=>match k with
  | .sc _| .ap _=>false| .hd p=>killsPlace (fun x=> !noI x) p q| .gn p=>killsPlace (fun x=>match x with|[]=>false|_=>true) p q| .all r=>Nat.beq r q.r
 | .fn _ caps=>hits k caps
 | .fb _ caps=>hits k caps
 | .tp l=>hits k l
 |_=>false
def hits(k:Kill):List RV→Bool
 |[]=>false
 |v::l=>hit k v||hits k l
end
def hitA(k:Kill)(q:Place):Bool:=match k with
 | .sc p=>killsStruct p q| .hd p=>killsStruct p q||killsPlace (fun _=>true) p q| .all r=>Nat.beq r q.r| .gn _| .ap _=>false
def purgeB(k:Kill):Roots→Roots
 |[]=>[]
 |(n,b)::l=>match b with
  |some (.al q)=>bif hitA k q then(n,none)::purgeB k l else(n,b)::purgeB k l
  |_=>(n,b)::purgeB k l
mutual
def purgeV(k:Kill):RV→RV
 | .tp l=> .tp (purgeL k l)
 |v=>bif hit k v then .und else v
def purgeL(k:Kill):List RV→List RV
 |[]=>[]
 |v::l=>purgeV k v::purgeL k l
end
def purge(k:Kill):Regs→Regs
 |[]=>[]
 |(n,v)::l=>(n,purgeV k v)::purge k l
def aliasKills(k:Kill):Roots→List Kill
 |[]=>[]
 |(n,b)::l=>match b with
  |some (.al q)=>bif hitA k q then .all n::aliasKills k l else aliasKills k l
  |_=>aliasKills k l
structure Eff where
 rv:RV
 rs:List (Nat×Option Root):=[]
 kill:List Kill:=[]
 /-- it takes a new root's name -/
 new:Bool:=false
def RV.int(k:IntKind)(n:Int):RV:= .v (.int k) n
def RV.bool(b:Bool):RV:= .v .bool b
def RV.str(s:ByteArray):RV:= .v .str s
def pureE(v:RV):Cm Eff:= .ret {rv:=v}
def res(ρ:Roots)(p:Place):Place:=
 match getB ρ p.r with
 |some (.al q)=>⟨q.r,q.π++p.π⟩
 |_=>p
def rdP(ρ:Roots)(p:Place):Cm Dyn:=
 match getB ρ (res ρ p).r with
 |some (.data _ t x _)=>rd t x (res ρ p).π
 |_=> .fail
def mkV(t:Ty)(x:t.D):RV:=match t,x with
 | .ti,n=> .v (.int .i64) n
 |t,x=> .v t x
def seen(p:Place)(d:Dyn):RV:=
 if d.1.shared then mkV d.1 d.2 else match d.1 with
  | .list true _=> .wl p
  | .list false _=> .und
  |_=> .sv p
def snap(ρ:Roots)(te:Ty):RV→Cm Dyn
 | .v t x=> .ret ⟨t,x⟩
 | .nl=>match te with| .list _ t=> .ret ⟨.list true t.o,[]⟩|_=> .fail
 | .pn=>match te with| .ptr t=> .ret ⟨.ptr t,none⟩|_=> .fail
 | .wl p| .sv p=>rdP ρ p
 | .vw p lo len=>(rdP ρ p).bind fun d=>match d with
  |⟨.list o t,l⟩=> .chk (!t.isT) (.ret ⟨.list o t,((l.drop lo).take len:List t.D)⟩)
  |_=> .fail
 | .rf p=>(rdP ρ p).bind fun d=> .ret ⟨.ptr d.1,some d.2⟩
 |_=> .fail
def takeP(ρ:Roots)(p:Place):Cm (Dyn×List (Nat×Option Root)×List Kill):=
 match getB ρ p.r with
 |some (.data false t x _)=>(rd t x p.π).bind fun d=> .ret (d,[(p.r,none)],[.all p.r])
 |some (.data true t x _)=> .chk (noI p.π) ((rd t x p.π).bind fun d=>(wr t x p.π ⟨.gone d.1.sz,()⟩).bind fun z=> .ret (d,[(p.r,some (.data true z.1 z.2 none))],[.hd p,.gn p,.ap p.r]))
 |_=> .fail
def take(ρ:Roots)(te:Ty):RV→Cm (Dyn×List (Nat×Option Root)×List Kill)
 | .v t x=> .ret (⟨t,x⟩,[],[])
 | .wl p| .sv p=>takeP ρ p
 | .vw p 0 len=>match p.π with
  |[]=>(takeP ρ p).bind fun(d,rs,kl)=>match d with
   |⟨.list o t,l⟩=> .chk (!t.isT) (.ret (⟨.list o t,(l.take len:List t.D)⟩,rs,kl))
   |_=> .fail
  |_=> .fail
 | .nl=>match te with| .list _ t=> .ret (⟨.list true t.o,[]⟩,[],[])|_=> .fail
 | .pn=>match te with| .ptr t=> .ret (⟨.ptr t,none⟩,[],[])|_=> .fail
 | .rf p=>match p.π with
  |[]=>match getB ρ p.r with
   |some (.data true t x _)=> .chk (t.shared&&Nat.ble 32768 p.r) (.ret (⟨.ptr t,some x⟩,[(p.r,none)],[.all p.r]))
   |_=> .fail
  |_=> .fail
 |_=> .fail
end
section
inductive Prm where
 |val (t:Ty)|io (t:Ty)
def Prm.t:Prm→Ty
 | .val t| .io t=>t
def ioTys:List Prm→List Ty
 |[]=>[]| .io t::l=>t::ioTys l| .val _::l=>ioTys l
structure Sig where
 ins:List Prm
 outs:List Ty
 io:Option (Bool×Ty):=none
def Sig.ioT(s:Sig):List Ty:=match s.io with|some (_,t)=>[t]|none=>[]
def Sig.inTs(s:Sig):List Ty:=s.ioT++s.ins.map Prm.t
def Sig.outTs(s:Sig):List Ty:=s.outs++s.ioT
def Sig.inT(s:Sig):Ty:=mkT s.inTs
def Sig.outT(s:Sig):Ty:=mkT s.outTs
structure Env where
 /-- a type's shape -/
 ty:Nat→Option Ty
 /-- a struct's fields' number -/
 nf:Nat→Nat
 /-- a slice type's element type, and its bytes -/
 el:Nat→Option (Nat×Nat)
 /-- a type of functions -/
 fnT:Nat→Bool
 /-- structs that '==' compares field by field -/
 eqs:Nat→Bool
 sig:Nat→Option Sig
 body:Nat→Option Func
 /-- functions without a text here: what they answer -/
 ext:(f:Nat)→(s:Sig)→s.inT.D→Option s.outT.D
abbrev CallT:=(f:Nat)→(s:Sig)→s.inT.D→Option s.outT.D
section
variable (E:Env) (call:CallT)
def tyIs(t:Nat)(ty:Ty):Bool:=match E.ty t with|some u=>ty.same u|none=>false
def tySub(t:Nat)(ty:Ty):Bool:=match E.ty t with|some u=>ty.sub u|none=>false
def tyLike(t:Nat)(ty:Ty):Bool:=match E.ty t with|some u=>ty.like u|none=>false
def tyIsList(t:Nat):Bool:=match E.ty t with|some u=>u.isList|none=>false
def tyIsPtr(t:Nat):Bool:=match E.ty t with|some (.ptr _)=>true|_=>false
def placeT(ρ:Roots)(p:Place):Option Ty:=
 match getB ρ p.r with
 |some (.data _ tr _ _)=>tyAt tr p.π
 |_=>none
def placeIs(ρ:Roots)(t:Nat)(p:Place):Bool:=match placeT ρ p with|some ty=>tyIs E t ty|none=>false
def placeLike(ρ:Roots)(t:Nat)(p:Place):Bool:=match placeT ρ p with|some ty=>tyLike E t ty|none=>false
def eqTy(op:BinOp)(t:Nat)(x y:RV):Bool:=
 match op with
 | .eql| .neq=>match x with
  | .v (.int _) _| .v .str _=>true
  | .v (.pair a b) _=>E.eqs t&&tySub E t (.pair a b)
  | .v ty _=>tyIs E t ty
  | .wl _| .nl=>tyIsList E t
  | .rf _| .pn=>tyIsPtr E t
  |_=>false
 |_=>true
def rvIs(ρ:Roots)(t:Nat):RV→Bool
 | .v ty _=>tyIs E t ty
 | .nl=>tyIsList E t
 | .wl p| .vw p _ _=>placeIs E ρ t p
 | .rf p=>placeIs E ρ t (res ρ p)
 |_=>false
def ofConst:Value→RV
 | .bool b=> .bool b| .int k n=> .int k n| .string s=> .str s
 | .slice none 0 0=> .nl| .pointer none=> .pn|_=> .und
def ev(g:Regs):Operand→RV
 | .tmp t=>getR g t| .const v=>ofConst v| .func f=> .fn f []| .global _=> .und
def opnds:Op→List Operand
 | .move x| .assign x| .box _ x| .load _ x| .nilCheck x| .unOp _ _ x| .convert _ _ x| .fieldAddr _ x _| .field _ x _| .extract x _=>[x]
 | .pick c a b=>[c,a,b]
 | .alloc _=>[]
 | .build _ ps| .buildSlice _ _ ps=>ps.toList.map (·.2)
 | .store _ a v| .binOp _ _ a v _| .makeSlice _ a v| .indexAddr _ a v| .index _ a v=>[a,v]
 | .slice _ x l h _=>x::(l.toList++h.toList)
 | .makeFunc _ _ caps=>caps.toList
 | .call c=>(match c.callee with| .value f=>[f]|_=>[])++c.args.toList
 |_=>[]
def intBits(op:BinOp)(k:IntKind)(x y:Int):Int:=
 match op with
 | .and=>k.wrap (BitVec.ofInt k.bits x&&& BitVec.ofInt k.bits y).toNat
 | .or=>k.wrap (BitVec.ofInt k.bits x|||BitVec.ofInt k.bits y).toNat
 | .xor=>k.wrap (BitVec.ofInt k.bits x ^^^ BitVec.ofInt k.bits y).toNat
 |_=>k.wrap (BitVec.ofInt k.bits x&&& ~~~ BitVec.ofInt k.bits y).toNat
def eqS(a b:ByteArray):Bool:=a==b
def ltS(a b:ByteArray):Bool:=Op.bytesLess a.data.toList b.data.toList
def eqD:(t:Ty)→t.D→t.D→Option Bool
 | .unit,_,_=>some true
 | .int _,x,y| .ti,x,y=>some ((x:Int)==y)
 | .bool,x,y=>some ((x:Bool)==y)
 | .str,x,y=>some (eqS x y)
 | .pair a b,x,y=>match eqD a x.1 y.1,eqD b x.2 y.2 with
  |some p,some q=>some (p&&q)
  |_,_=>none
 |_,_,_=>none
def bin(op:BinOp)(x y:RV):Cm RV:=
 match op,x,y with
 | .shl,.v (.int k) a,.v (.int _) b=> .ask ((0≤(b:Int))) (.ret (.int k (k.wrap ((a:Int)*2 ^(min (b:Int).toNat k.bits)))))
 | .shr,.v (.int k) a,.v (.int _) b=> .ask ((0≤(b:Int))) (.ret (.int k ((a:Int).fdiv (2 ^(min (b:Int).toNat k.bits)))))
 |op,.v (.int k) a,.v (.int k') b=> .chk (kindB k k') (match op with
  | .add=> .ret (.int k (k.wrap ((a:Int)+(b:Int))))| .sub=> .ret (.int k (k.wrap ((a:Int)-(b:Int))))| .mul=> .ret (.int k (k.wrap ((a:Int)*(b:Int))))
  | .quo=> .ask ((b:Int)≠0) (.ret (.int k (k.wrap ((a:Int).tdiv b))))| .rem=> .ask ((b:Int)≠0) (.ret (.int k ((a:Int).tmod b)))
  | .and| .or| .xor| .andNot=> .ret (.int k (intBits op k a b))
  | .eql=> .ret (.bool ((a:Int)==(b:Int)))| .neq=> .ret (.bool ((a:Int) != (b:Int)))
  | .lss=> .ret (.bool (decide ((a:Int)<(b:Int))))| .leq=> .ret (.bool (decide ((a:Int)≤(b:Int))))
  | .gtr=> .ret (.bool (decide ((b:Int)<(a:Int))))| .geq=> .ret (.bool (decide ((b:Int)≤(a:Int))))
  |_=> .fail)
 |op,.v .str a,.v .str b=>match op with
  | .add=> .ask ((((a:ByteArray).size+(b:ByteArray).size:Nat)≤9223372036854775807)) (.ret (.str ((a:ByteArray)++(b:ByteArray))))
  | .eql=> .ret (.bool (eqS a b))| .neq=> .ret (.bool (!eqS a b))
  | .lss=> .ret (.bool (ltS a b))| .leq=> .ret (.bool (ltS a b||eqS a b))
  | .gtr=> .ret (.bool (!(ltS a b||eqS a b)))| .geq=> .ret (.bool (!ltS a b))
  |_=> .fail
 | .eql,.v .bool a,.v .bool b=> .ret (.bool ((a:Bool)==(b:Bool)))
 | .neq,.v .bool a,.v .bool b=> .ret (.bool ((a:Bool) != (b:Bool)))
 | .eql,.v (.pair a b) x,.v (.pair a' b') y=> .get (.pair a b) (conv (.pair a' b') (.pair a b) y) fun y=> .get .bool (eqD (.pair a b) x y) fun r=> .ret (.bool r)
 | .neq,.v (.pair a b) x,.v (.pair a' b') y=> .get (.pair a b) (conv (.pair a' b') (.pair a b) y) fun y=> .get .bool (eqD (.pair a b) x y) fun r=> .ret (.bool (!r))
 | .eql,.nl,.nl=> .ret (.bool true)
 | .neq,.nl,.nl=> .ret (.bool false)
 | .eql,.v (.list _ _) l,.nl=> .ask ((l:List _).isEmpty=false) (.ret (.bool false))
 | .neq,.v (.list _ _) l,.nl=> .ask ((l:List _).isEmpty=false) (.ret (.bool true))
 | .eql,.rf _,.pn=> .ret (.bool false)
 | .neq,.rf _,.pn=> .ret (.bool true)
 | .eql,.pn,.pn=> .ret (.bool true)
 | .neq,.pn,.pn=> .ret (.bool false)
 | .eql,.v (.ptr _) o,.pn=> .ret (.bool (o:Option _).isNone)
 | .neq,.v (.ptr _) o,.pn=> .ret (.bool (o:Option _).isSome)
 |_,_,_=> .fail
def binE(ρ:Roots)(op:BinOp)(x y:RV):Cm RV:=
 match op,x,y with
 | .eql,.wl p,.nl=>(rdP ρ p).bind fun v=>match v with|⟨.list _ _,l⟩=> .ask ((l:List _).isEmpty=false) (.ret (RV.bool false))|_=> .fail
 | .neq,.wl p,.nl=>(rdP ρ p).bind fun v=>match v with|⟨.list _ _,l⟩=> .ask ((l:List _).isEmpty=false) (.ret (RV.bool true))|_=> .fail
 |_,_,_=>bin op x y
def bytesOf(s:ByteArray):List Int:=s.data.toList.map fun c=>(c.toNat:Int)
def ofBytes(l:List Int):ByteArray:=⟨(l.map fun n=>UInt8.ofNat n.toNat).toArray⟩
def idx(x:RV)(n:Nat)(f:Nat→Cm Eff):Cm Eff:=
 match x with
 | .v (.int _) i=> .ask ((0≤(i:Int))) (.ask (((i:Int)<(n:Int))) (f (i:Int).toNat))
 |_=> .fail
def bnd(x:RV)(n:Nat)(f:Nat→Cm Eff):Cm Eff:=
 match x with
 | .v (.int _) i=> .ask ((0≤(i:Int))) (.ask (((i:Int)≤(n:Int))) (f (i:Int).toNat))
 |_=> .fail
def lenOf(ρ:Roots):RV→Cm Nat
 | .v (.list _ _) l=> .ret (l:List _).length
 | .v .str s=> .ret (s:ByteArray).size
 | .nl=> .ret 0
 | .wl p=>(rdP ρ p).bind fun d=>match d with
  |⟨.list _ _,l⟩=> .ret (l:List _).length
  |_=> .fail
 | .vw _ _ n=> .ret n
 |_=> .fail
def sliceE(ρ:Roots)(x:RV)(lo hi:Option RV):Cm Eff:=
 (lenOf ρ x).bind fun n=>
  let go (h:Nat):Cm Eff:=
   let fin (l:Nat):Cm Eff:=match x with
    | .v .str s=>pureE (.str ((s:ByteArray).extract l h))
    | .v (.list o t) l'=> .chk (!t.isT) (pureE (.v (.list o t) (((l':List t.D).take h).drop l:List t.D)))
    | .nl=>pureE .nl
    | .wl p=>pureE (.vw p l (h-l))
    | .vw p b _=>pureE (.vw p (b+l) (h-l))
    |_=> .fail
   match lo with
   |some v=>bnd v h fin
   |none=>fin 0
  match hi with
  |some v=>bnd v n go
  |none=>go n
def pathEq:Path→Path→Cm Unit
 |[],[]=> .ret ()
 | .L::p,.L::q=>pathEq p q
 | .R::p,.R::q=>pathEq p q
 | .I i::p,.I j::q=> .ask (i=j) (pathEq p q)
 | .A i::p,.A j::q=> .ask (i=j) (pathEq p q)
 |_,_=> .fail
def placeEq(p q:Place):Cm Unit:= .chk (Nat.beq p.r q.r) (pathEq p.π q.π)
def joinT(a b:Ty):Ty:=if a.sub b then b else if b.sub a then a else a.k
def capBytes:Nat:=140737488355328--2 ^ 47
def wrP(ρ:Roots)(p:Place)(d:Dyn):Cm (List (Nat×Option Root)):=
 match getB ρ p.r with
 |some (.data re t x _)=>(wr t x p.π d).bind fun z=> .ret [(p.r,some (.data re z.1 z.2 none))]
 |_=> .fail
def lasting(bound:Nat)(ρ:Roots)(p:Place):Bool:=
 let p:=res ρ p
 match getB ρ p.r with
 |some (.data re _ _ _)=>(re&&(match p.π with|[]=>false|_=>true))||Nat.ble (p.r+1) bound
 |_=>false
def applyRs(rs:List (Nat×Option Root))(ρ:Roots):Roots:=rs++ρ
def purges:List Kill→Regs→Regs
 |[],g=>g
 |k::ks,g=>purges ks (purge k g)
def purgesB:List Kill→Roots→Roots
 |[],ρ=>ρ
 |k::ks,ρ=>purgesB ks (purgeB k ρ)
def purgesAll:List Kill→List Regs→List Regs
 |[],sk=>sk
 |ks,sk=>sk.map (purges ks)
def allKills(ks:List Kill)(ρ:Roots):List Kill:=ks++ks.flatMap fun k=>aliasKills k ρ
def fresh(kl:List Kill)(ρ:Roots)(x:RV):Bool:= !(allKills kl ρ).any fun k=>hit k x
def storeE(bound:Nat)(t0:Nat)(t:Ty)(ρ:Roots)(p:Place)(x:RV):Cm Eff:=
 let put (d:Dyn) (rs:List (Nat×Option Root)) (kl:List Kill):Cm Eff:=
  .chk (d.1.same t&& !(allKills kl ρ).any (fun k=>hit k (.rf p))) ((wrP (rs++ρ) p d).bind fun up=>
   .ret {rv:= .und,rs:=up++rs,kill:=kl++[bif d.1.scal then .sc p else .hd p]})
 match x with
 | .ap q=> .chk (Nat.beq q.r p.r) (match getB ρ p.r with
  |some (.data _ tr y (some (h,⟨tm,m⟩)))=>(pathEq h p.π).bind fun _=>(rd tr y p.π).bind fun v=>match v with
   |⟨.list true te,l⟩=>let tj:=joinT te tm
    .get (.list true tj) (conv (.list true te) (.list true tj) l) fun l=>
    .get (.list true tj) (conv (.list true tm) (.list true tj) m) fun m=>put ⟨.list true tj,(l++m:List tj.D)⟩ [] []
   |_=> .fail
  |_=> .fail)
 | .vw q 0 n=>match q.π with
  |[]=>(take ρ t x).bind fun(d,rs,kl)=>put d rs kl
  |_=>(placeEq p q).bind fun _=>(rdP ρ q).bind fun d=>match d with
   |⟨.list o te,l⟩=> .chk (!te.isT) (put ⟨.list o te,((l:List te.D).take n:List te.D)⟩ [] [])
   |_=> .fail
 | .sv q=>match p.π with
  |[]=>bif lasting bound ρ q then match getB ρ p.r with
    |some (.data true _ _ _)=> .chk (placeIs E ρ t0 (res ρ q)&&(placeLike E ρ t0 p&&(Nat.ble 32768 p.r&& !(Nat.beq p.r (res ρ q).r))))<| .ret {rv:= .und,rs:=[(p.r,some (.al (res ρ q)))],kill:=[.hd p,.gn p]}
    |_=> .fail
   else(take ρ t x).bind fun(d,rs,kl)=>put d rs kl
  |_=>(take ρ t x).bind fun(d,rs,kl)=>put d rs kl
 |_=>(take ρ t x).bind fun(d,rs,kl)=>put d rs kl
def rootsOf:RV→List Nat
 | .wl p| .vw p _ _| .sv p| .rf p| .ap p=>[p.r]
 |_=>[]
structure Src' where
 t:Ty
 l:List t.D
 rs:List (Nat×Option Root)
 kl:List Kill
def srcE(ρ:Roots)(a x:RV):Cm Src':=
 match x with
 | .v .str s=> .ret ⟨.int .u8,bytesOf s,[],[]⟩
 | .v (.list _ t) l=> .ret ⟨t,l,[],[]⟩
 | .wl ⟨r,[]⟩=>(rdP ρ ⟨r,[]⟩).bind fun v=>match v with
  |⟨.list _ t,l⟩=>if t.shared then .ret ⟨t,l,[],[]⟩else .chk (fresh [.all r] ρ a) (.ret ⟨t,l,[(r,none)],[.all r]⟩)
  |_=> .fail
 |x=>(snap ρ .unit x).bind fun v=>match v with
  |⟨.list _ t,l⟩=>if t.shared then .ret ⟨t,l,[],[]⟩else .fail
  |_=> .fail
def roomE(t0:Ty)(bytes:Nat)(te:Ty)(l:List te.D)(s:Src')(c:Cm Eff):Cm Eff:= .chk (te.same t0&&s.t.same t0&&Nat.ble 1 bytes)<| .ask ((l.length+s.l.length)*bytes≤capBytes) c
def finE'(d:Nat)(t0:Ty)(bytes:Nat)(te:Ty)(l:List te.D)(s:Src')(rs:List (Nat×Option Root))(kl:List Kill):Cm Eff:=
 roomE t0 bytes te l s<|
 .get (.list true (joinT te s.t)) (conv (.list true te) (.list true (joinT te s.t)) l) fun l=>
 .get (.list true (joinT te s.t)) (conv (.list true s.t) (.list true (joinT te s.t)) s.l) fun m=>
  .ret {new:=true,rv:= .wl ⟨d,[]⟩,rs:=(d,some (.data false (.list true (joinT te s.t)) (l++m:List (joinT te s.t).D) none))::rs,kill:=kl}
def Src'.tag:Bool→Src'→Src'
 |true,⟨.int .i64,l,rs,kl⟩=>⟨.ti,l,rs,kl⟩
 |_,s=>s
def tightB(ρ:Roots):RV→Bool
 | .wl p=>match placeT ρ p with
  |some (.list _ .ti)=>true
  |_=>false
 | .v (.list _ .ti) _=>true
 |_=>false
def appE(d:Nat)(t0:Ty)(bytes:Nat)(ρ:Roots)(a:RV)(s:Src'):Cm Eff:=
  match a with
  | .nl=>finE' d t0 bytes s.t [] s s.rs s.kl
  | .v (.list _ .ti) l=> .ask ((l:List Int).isEmpty=true) (finE' d t0 bytes .ti [] s s.rs s.kl)
  | .wl ⟨r,π⟩=>match getB ρ r with
   |some (.data re t y _)=>(rd t y π).bind fun v=>match v with
    |⟨.list true te,l⟩=>
     bif re|| !π.isEmpty then roomE t0 bytes te l s (.ret {rv:= .ap ⟨r,π⟩,rs:=s.rs++[(r,some (.data re t y (some (π,⟨s.t,s.l⟩))))],kill:=s.kl++[.ap r]})
     else finE' d t0 bytes te l s (s.rs++[(r,none)]) (s.kl++[.all r])
    |_=> .fail
   |_=> .fail
  | .vw ⟨r,[]⟩ 0 n=>match getB ρ r with
   |some (.data false (.list true te) l _)=> .chk (!te.isT) (finE' d t0 bytes te ((l:List te.D).take n) s (s.rs++[(r,none)]) (s.kl++[.all r]))
   |_=> .fail
  |_=> .fail
def appendE(d:Nat)(t0:Ty)(bytes:Nat)(ρ:Roots)(a x:RV):Cm Eff:=
 (srcE ρ a x).bind fun s=>appE d t0 bytes ρ a (s.tag (tightB ρ a))
def minmax(mx:Bool):List RV→Cm RV
 |[]=> .fail
 |[x]=> .ret x
 | .v (.int k) a:: .v (.int k') b::l=> .chk (kindB k k') (match l with
  |[]=> .ret (.int k (if mx then max (a:Int) b else min (a:Int) b))
  | .v (.int k'') c::[]=> .chk (kindB k k'') (.ret (.int k (if mx then max (max (a:Int) b) c else min (min (a:Int) b) c)))
  |_=> .fail)
 |_=> .fail
def isOwnL:Ty→Bool
 | .list true _=>true|_=>false
def dataOnly(ρ:Roots)(x:RV):Bool:=(rootsOf x).all fun n=>match getB ρ n with|some (.data _ _ _ _)=>true|_=>false
def gatherT(ρ:Roots):List Prm→List RV→List (Nat×Option Root)→List Kill→Cm (List Dyn×List (Nat×Option Root)×List Kill)
 |[],[],rs,kl=> .ret ([],rs,kl)
 | .val t::ps,x::xs,rs,kl=>
  bif t.shared then(gatherT ρ ps xs rs kl).bind fun a=> .ret (⟨.unit,()⟩::a.1,a.2)
  else .chk (fresh kl ρ x)<|(take (rs++ρ) t x).bind fun b=>(gatherT ρ ps xs (b.2.1++rs) (b.2.2++kl)).bind fun a=> .ret (b.1::a.1,a.2)
 |_,_,_,_=> .fail
def gatherS(ρ:Roots)(rs:List (Nat×Option Root))(kl:List Kill):List Prm→List RV→List Dyn→Cm (List Dyn×List Nat)
 |[],[],[]=> .ret ([],[])
 | .val t::ps,x::xs,d::ds=>
  bif t.shared then .chk (fresh kl ρ x&&dataOnly (rs++ρ) x)<|(snap (rs++ρ) t x).bind fun d=>(gatherS ρ rs kl ps xs ds).bind fun a=> .ret (d::a.1,rootsOf x++a.2)
  else(gatherS ρ rs kl ps xs ds).bind fun a=> .ret (d::a.1,a.2)
 |_,_,_=> .fail
def disj:List Nat→List Nat→Bool
 |[],_=>true
 |a::l,m=> !(m.any (Nat.beq a))&&disj l m
def nodup:List Nat→Bool
 |[]=>true
 |a::l=> !(l.any (Nat.beq a))&&nodup l
def packD:(ts:List Ty)→List Dyn→Cm (mkT ts).D
 |[],[]=> .ret ()
 |[t],[d]=> .get t (conv d.1 t d.2) .ret
 |t::u::ts,d::ds=> .get t (conv d.1 t d.2) fun x=>(packD (u::ts) ds).bind fun y=> .ret (x,y)
 |_,_=> .fail
def unD:(ts:List Ty)→(mkT ts).D→List Dyn
 |[],_=>[]
 |[t],x=>[⟨t,x⟩]
 |t::u::ts,x=>⟨t,x.1⟩::unD (u::ts) x.2
def outs(d:Nat):List Dyn→List RV×List (Nat×Option Root)
 |[]=>([],[])
 |v::l=>
  let(rvs,rs):=outs (d+1) l
  if v.1.shared then(.v v.1 v.2::rvs,rs)
  else((match v.1 with| .list _ _=> .wl ⟨d,[]⟩|_=> .sv ⟨d,[]⟩)::rvs,(d,some (.data false v.1 v.2 none))::rs)
def oneRV:List RV→RV
 |[x]=>x
 |l=> .tp l
def frozen(ρ:Roots):List Nat→Cm (List (Nat×Option Root)×List Kill)
 |[]=> .ret ([],[])
 |r::l=>match getB ρ r with
  |some (.data false _ _ _)=>(frozen ρ l).bind fun a=> .ret ((r,none)::a.1,.all r::a.2)
  |_=> .fail
def callV(d f:Nat)(s:Sig)(ρ:Roots)(xs:List RV):Cm Eff:=
 (gatherT ρ s.ins xs [] []).bind fun a=>(gatherS ρ a.2.1 a.2.2 s.ins xs a.1).bind fun b=>
 .chk (Nat.ble s.outs.length 3&&s.outs.all fun t=>t.shared|| !t.isList||isOwnL t)<|
 -- where a result may share memory with what was read, that is given up
 (frozen (a.2.1++ρ) (bif s.outs.all Ty.owned then []else b.2)).bind fun z=>
 (packD s.inTs b.1).bind fun inp=>
 .get s.outT (call f s inp) fun out=>
  let o:=outs d (unD s.outTs out)
  .ret {new:=true,rv:=oneRV o.1,rs:=o.2++(z.1++a.2.1),kill:=a.2.2++z.2}
def ioPlace(ptr:Bool):RV→Option Place
 | .rf p=>if ptr then some p else none
 | .wl p=>if ptr then none else some p
 |_=>none
def ioKill(ptr:Bool)(p:Place):Kill:= .hd (if ptr then p else⟨p.r,p.π++[.I 0]⟩)
def callP(d f:Nat)(s:Sig)(ptr:Bool)(t:Ty)(ρ:Roots)(x:RV)(p:Place)(xs:List RV):Cm Eff:=
 (gatherT ρ s.ins xs [] []).bind fun a=>(gatherS ρ a.2.1 a.2.2 s.ins xs a.1).bind fun b=>
 .chk (Nat.ble s.outs.length 3&&s.outs.all fun t=>t.shared|| !t.isList||isOwnL t)<|
 (frozen (a.2.1++ρ) (bif s.outs.all Ty.owned&&t.owned then []else b.2)).bind fun z=>
 .chk (fresh a.2.2 ρ x&&(dataOnly (a.2.1++ρ) x&&(!b.2.any (Nat.beq p.r)&&(t.here&&(ptr||isOwnL t)))))<|
 match getB (a.2.1++ρ) p.r with
 |some (.data re tr y _)=>
  (rd tr y p.π).bind fun v=> .chk (v.1.beq t)<|
  (packD s.inTs (v::b.1)).bind fun inp=>
  .get s.outT (call f s inp) fun out=>
   match(unD s.outTs out).drop s.outs.length with
   |[v']=>(wr tr y p.π v').bind fun u=>
    let o:=outs d ((unD s.outTs out).take s.outs.length)
    .ret {new:=true,rv:=oneRV o.1,rs:=o.2++((p.r,some (.data re u.1 u.2 none))::(z.1++a.2.1)),kill:=a.2.2++(z.2++[ioKill ptr p])}
   |_=> .fail
 |_=> .fail
def callE(d f:Nat)(s:Sig)(ρ:Roots)(xs:List RV):Cm Eff:=
 match s.io with
 |none=>callV call d f s ρ xs
 |some (ptr,t)=>match xs with
  |x::xs=>match ioPlace ptr x with
   |some p=>callP call d f s ptr t ρ x p xs
   |none=> .fail
  |[]=> .fail
def partsE(ρ:Roots)(ts:List Ty):List (Nat×RV)→Nat→List (Nat×Option Root)→List Kill→Cm (List Dyn×List (Nat×Option Root)×List Kill):=fun ps i rs kl=>
 match ts with
 |[]=>match ps with
  |[]=> .ret ([],rs,kl)
  |_=> .fail
 |t::ts=>match ps with
  |(j,x)::ps'=>
   if Nat.beq i j then .chk (fresh kl ρ x)<|(take (rs++ρ) t x).bind fun(d,rs',kl')=>(partsE ρ ts ps' (i+1) (rs'++rs) (kl'++kl)).bind fun r=> .ret (d::r.1,r.2)
   else(partsE ρ ts ((j,x)::ps') (i+1) rs kl).bind fun r=> .ret (⟨t.o,t.o.zero⟩::r.1,r.2)
  |[]=>(partsE ρ ts [] (i+1) rs kl).bind fun r=> .ret (⟨t.o,t.o.zero⟩::r.1,r.2)
def fieldsOf:Ty→Nat→List Ty
 | .pair a b,n+2=>a::fieldsOf b (n+1)
 |t,1=>[t]
 |_,_=>[]
def mkD:List Dyn→Dyn
 |[]=>⟨.unit,()⟩
 |[d]=>d
 |d::ds=>let r:=mkD ds;⟨.pair d.1 r.1,(d.2,r.2)⟩
def rootE(d:Nat)(v:Dyn)(rs:List (Nat×Option Root))(kl:List Kill):Cm Eff:=
 if v.1.shared then .ret {rv:= .v v.1 v.2,rs:=rs,kill:=kl}
 else .ret {new:=true,rv:= .sv ⟨d,[]⟩,rs:=(d,some (.data false v.1 v.2 none))::rs,kill:=kl}
def zipI:List (Nat×Operand)→List RV→List (Nat×RV)
 |(i,_)::l,x::xs=>(i,x)::zipI l xs
 |_,_=>[]
def joinAll(te:Ty):List Dyn→Ty
 |[]=>te.o
 |v::vs=>vs.foldl (fun a v=>joinT a v.1) v.1
def elemsE(te:Ty):List Dyn→Cm (List te.D)
 |[]=> .ret []
 |d::ds=> .get te (conv d.1 te d.2) fun x=>(elemsE te ds).bind fun l=> .ret (x::l)
def comp(bound d:Nat)(op:Op)(xs:List RV)(ρ:Roots):Cm Eff:=
 match op,xs with
 | .move _,[x]| .assign _,[x]=>pureE x
 | .pick _ _ _,[c,a,b]=>match c with
  | .v .bool true=>pureE a
  | .v .bool false=>pureE b
  |_=> .fail
 | .alloc t,[]=>match E.ty t with
  |some t=> .ret {new:=true,rv:= .rf ⟨d,[]⟩,rs:=[(d,some (.data true t.o t.o.zero none))]}
  |none=> .fail
 | .box t0 _,[x]=>match E.ty t0 with
  |some t=>
   bif (match x with| .sv q=>lasting bound ρ q|_=>false)then .chk (match x with| .sv q=>placeIs E ρ t0 (res ρ q)|_=>false)<| .ret {new:=true,rv:= .rf ⟨d,[]⟩,rs:=[(d,some (.al (match x with| .sv q=>res ρ q|_=>⟨d,[]⟩)))]}else
   (take ρ t x).bind fun(v,rs,kl)=> .chk (v.1.same t) (.ret {new:=true,rv:= .rf ⟨d,[]⟩,rs:=(d,some (.data true v.1 v.2 none))::rs,kill:=kl})
  |none=>match x with
   | .fn f caps=> .chk (E.fnT t0) (pureE (.fb f caps))
   |_=> .fail
 | .build t ps,xs=>match E.ty t with
  |some ty=>let t':=t;let t:=ty;let ts:=fieldsOf t (E.nf t');(partsE ρ ts (zipI ps.toList xs) 0 [] []).bind fun(ds,rs,kl)=>
    let v:=mkD ds
    .chk (v.1.same t) (rootE d v rs kl)
  |none=> .fail
 | .buildSlice t n ps,xs=>match E.ty t with
  |some (.list _ te)=>(partsE ρ (List.replicate n te) (zipI ps.toList xs) 0 [] []).bind fun(ds,rs,kl)=>
    let tj:=joinAll te ds
    .chk (tj.same te&&Nat.ble (n*te.sz) 16777216)<|(elemsE tj ds).bind fun l=> .ret {new:=true,rv:= .wl ⟨d,[]⟩,rs:=(d,some (.data false (.list true tj) l none))::rs,kill:=kl}
  |_=> .fail
 | .load t0 _,[x]=>match x with
  | .rf p=> .chk (placeIs E ρ t0 (res ρ p))<|(rdP ρ p).bind fun v=>pureE (seen (res ρ p) v)
  | .v (.ptr t) o=> .chk (tyIs E t0 t)<| .get t o fun y=>pureE (mkV t y)
  | .fb f caps=> .chk (E.fnT t0)<|pureE (.fn f caps)
  |_=> .fail
 | .store t _ _,[a,x]=>match E.ty t,a with
  |some t',.rf p=>storeE E bound t t' ρ p x
  |_,_=> .fail
 | .nilCheck _,[x]=>match x with
  | .rf p=>pureE (.rf p)
  | .v (.ptr t) o=> .get t o fun y=>pureE (.v (.ptr t) (some y:Option t.D))
  | .fn f caps=>pureE (.fn f caps)
  |_=> .fail
 | .binOp op t _ _ _,[x,y]=> .chk (eqTy E op t x y)<|(binE ρ op x y).bind pureE
 | .unOp op _ _,[x]=>match op,x with
  | .neg,.v (.int k) n=>pureE (.int k (k.wrap (0-(n:Int))))
  | .not,.v .bool b=>pureE (.bool (!b))
  |_,_=> .fail
 | .convert s t _,[x]=>let s0:=s;match E.ty t,x with
  |some (.int k),.v (.int _) n=> .chk (E.ty s).isSome (pureE (.int k (k.wrap n)))
  |some .str,.v .str x=> .chk (E.ty s).isSome (pureE (.str x))
  |some (.list _ (.int .u8)),.v .str s=> .chk (tyIs E s0 .str)<| .ret {new:=true,rv:= .wl ⟨d,[]⟩,rs:=[(d,some (.data false (.list true (.int .u8)) (bytesOf s) none))]}
  |some .str,x=>match E.ty s with
   |some (.list _ (.int .u8))=>(snap ρ (.list false (.int .u8)) x).bind fun v=>match v with
    |⟨.list _ (.int .u8),l⟩=>pureE (.str (ofBytes l))
    |_=> .fail
   |_=> .fail
  |_,_=> .fail
 | .makeSlice t _ _,[l,c]=>match E.el t with
  |some (te,by_)=>match E.ty te,l,c with
   |some te,.v (.int _) l,.v (.int _) c=>
    .chk (Nat.ble 1 by_&& !te.o.isT)<| .ask ((0≤(l:Int))) (.ask (((l:Int)≤(c:Int))) (.ask (((c:Int)*by_≤capBytes))
     (.ret {new:=true,rv:= .wl ⟨d,[]⟩,rs:=[(d,some (.data false (.list true te.o) (List.replicate (l:Int).toNat te.o.zero:List te.o.D) none))]})))
   |_,_,_=> .fail
  |none=> .fail
 | .slice t0 _ lo hi none,x::xs=> .chk (rvIs E ρ t0 x)<|match lo,hi,xs with
  |some _,some _,[l,h]=>sliceE ρ x (some l) (some h)
  |some _,none,[l]=>sliceE ρ x (some l) none
  |none,some _,[h]=>sliceE ρ x none (some h)
  |none,none,[]=>sliceE ρ x none none
  |_,_,_=> .fail
 | .fieldAddr t _ f,[x]=> .chk (Nat.blt f (E.nf t))<|match x with
  | .rf p=>let q:=res ρ p;match getB ρ q.r with
   |some (.data _ tr _ _)=> .chk (placeLike E ρ t q&&(tyAt tr (q.π++fldPath f (E.nf t))).isSome) (pureE (.rf ⟨p.r,p.π++fldPath f (E.nf t)⟩))
   |_=> .fail
  | .v (.ptr tp) o=> .chk (tyIs E t tp)<| .get tp o fun y=>(rd tp y (fldPath f (E.nf t))).bind fun z=>pureE (.v (.ptr z.1) (some z.2:Option z.1.D))
  |_=> .fail
 | .field t _ f,[x]=> .chk (Nat.blt f (E.nf t))<|match x with
  | .v ts y=> .chk (tyIs E t ts)<|(rd ts y (fldPath f (E.nf t))).bind fun z=>pureE (.v z.1 z.2)
  | .sv p=> .chk (placeLike E ρ t p)<|(rdP ρ ⟨p.r,p.π++fldPath f (E.nf t)⟩).bind fun z=> .chk z.1.here (pureE (seen ⟨p.r,p.π++fldPath f (E.nf t)⟩ z))
  |_=> .fail
 | .indexAddr t0 _ _,[x,i]=> .chk (rvIs E ρ t0 x)<|match x with
  | .v (.list _ t) l=>match i with
   | .v (.int _) i=> .ask ((0≤(i:Int))) (.get t (l:List t.D)[(i:Int).toNat]? fun y=>pureE (.v (.ptr t) (some y:Option t.D)))
   |_=> .fail
  | .wl p=>(lenOf ρ (.wl p)).bind fun n=>idx i n fun i=>pureE (.rf ⟨p.r,p.π++[.I i]⟩)
  | .vw p b n=>idx i n fun i=>pureE (.rf ⟨p.r,p.π++[.I (b+i)]⟩)
  | .rf p=>(rdP ρ p).bind fun v=>match v.1 with
   | .arr n _=>idx i n fun i=>pureE (.rf ⟨p.r,p.π++[.A i]⟩)
   |_=> .fail
  |_=> .fail
 | .index t0 _ _,[x,i]=> .chk (rvIs E ρ t0 x)<|match x,i with
  | .v .str s,.v (.int _) i=> .ask ((0≤(i:Int))) (.get (.int .u8) ((s:ByteArray)[(i:Int).toNat]?.map fun c=>(c.toNat:Int)) fun c=>pureE (.v (.int .u8) c))
  | .v (.arr _ t) l,.v (.int _) i=> .ask ((0≤(i:Int))) (.get t (l:List t.D)[(i:Int).toNat]? fun y=>pureE (.v t y))
  |_,_=> .fail
 | .extract _ j,[.tp l]=>match l[j]? with
  |some x=>pureE x
  |none=> .fail
 | .makeFunc (.func f) first _,xs=> .chk first.toList.isEmpty (pureE (.fn f xs))
 | .call c,xs=>match c.callee with
  | .builtin .len=>match xs with
   |[x]=>match c.argTypes.toList with
    |t0::_=> .chk (rvIs E ρ t0 x)<|(lenOf ρ x).bind fun n=>pureE (.int .i64 n)
    |_=> .fail
   |_=> .fail
  | .builtin .append=>match xs,c.argTypes.toList with
   |[a,x],[t,t2]=>match E.el t with
    |some (te,by_)=>match E.ty te with
     |some te=> .chk (rvIs E ρ t2 x)<|appendE d te by_ ρ a x
     |none=> .fail
    |none=> .fail
   |_,_=> .fail
  | .builtin .min=>(minmax false xs).bind pureE
  | .builtin .max=>(minmax true xs).bind pureE
  | .value _=>match xs with
   | .fn f caps::args=>match E.sig f with
    |some s=>callE call d f s ρ (args++caps)
    |none=> .fail
   |_=> .fail
  |_=> .fail
 |_,_=> .fail
end
end
section
def Rows'{α:Type}(R:α→List Value→Prop):List α→List Value→Prop
 |[],cs=>cs=[]
 |x::xs,cs=>∃c1 c2,cs=c1++c2∧R x c1∧Rows' R xs c2
abbrev Stand(w:World)(a:Addr)(cs:List Value):Prop:=w.rangeAt a.block a.off cs
def RepK(w:World)(KS:Nat→Prop):(t:Ty)→t.D→List Value→Prop
 | .unit,_,cs=>cs=[]
 | .int k,(n:Int),cs=>cs=[.int k n]
 | .bool,(b:Bool),cs=>cs=[.bool b]
 | .str,(s:ByteArray),cs=>cs=[.string s]
 | .list _ t,(l:List t.D),cs=>∃(ad:Option Addr) (cap:Nat),cs=[.slice ad l.length cap]∧(l.length≤cap∧(t.isT=true→l=[]→cap=0))∧
   (l=[]∨∃a rows,ad=some a∧a.spot=none∧KS a.block∧Stand w a rows∧Rows' (RepK w KS t) l rows)
 | .ptr t,(o:Option t.D),cs=>match o with
   |none=>cs=[.pointer none]
   |some x=>∃a rows,cs=[.pointer (some a)]∧a.spot=none∧KS a.block∧Stand w a rows∧RepK w KS t x rows
 | .pair a b,(x:a.D×b.D),cs=>∃c1 c2,cs=c1++c2∧RepK w KS a x.1 c1∧RepK w KS b x.2 c2
 | .arr n t,(l:List t.D),cs=>l.length=n∧Rows' (RepK w KS t) l cs
 | .gone n,_,cs=>cs.length=n
 | .ti,(n:Int),cs=>cs=[.int .i64 n]
theorem rows_len{α:Type}{R:α→List Value→Prop}{s:Nat}(h:∀x cs,R x cs→cs.length=s):∀l cs,Rows' R l cs→cs.length=l.length*s
 |[],cs,h'=>by simp[Rows']at h';simp[h']
 |x::xs,cs,h'=>by
  obtain⟨c1,c2,rfl,h1,h2⟩:=h'
  have:=h _ _ h1;have:=rows_len h xs c2 h2
  simp[*,Nat.add_mul,Nat.add_comm]
theorem repK_len{w:World}{KS:Nat→Prop}:∀(t:Ty) x cs,RepK w KS t x cs→cs.length=t.sz:=by
 intro t
 induction t with
 |unit=>intro x cs h;simp[RepK]at h;simp[h,Ty.sz]
 |int k=>intro x cs h;simp[RepK]at h;simp[h,Ty.sz]
 |bool=>intro x cs h;simp[RepK]at h;simp[h,Ty.sz]
 |str=>intro x cs h;simp[RepK]at h;simp[h,Ty.sz]
 |list o t ih=>intro x cs h;obtain⟨ad,cap,rfl,_⟩:=h;simp[Ty.sz]
 |ptr t ih=>
  intro x cs h
  cases x with
  |none=>simp[RepK]at h;simp[h,Ty.sz]
  |some x=>obtain⟨a,rows,rfl,_⟩:=h;simp[Ty.sz]
 |pair a b iha ihb=>
  intro x cs h
  obtain⟨c1,c2,rfl,h1,h2⟩:=h
  simp[Ty.sz,iha _ _ h1,ihb _ _ h2]
 |arr n t ih=>
  intro x cs h
  obtain⟨hn,h⟩:=h
  have:=rows_len (fun x cs=>ih x cs) _ _ h
  rw[this,Ty.sz,hn]
 |gone n=>intro x cs h;exact h
 |ti=>intro x cs h;simp[RepK]at h;simp[h,Ty.sz]
theorem rows_mono{α:Type}{R R':α→List Value→Prop}(h:∀x cs,R x cs→R' x cs):∀l cs,Rows' R l cs→Rows' R' l cs
 |[],cs,h'=>h'
 |x::xs,cs,⟨c1,c2,e,h1,h2⟩=>⟨c1,c2,e,h _ _ h1,rows_mono h xs c2 h2⟩
theorem Stand.mono{w w':World}{a:Addr}{cs:List Value}(h:Stand w a cs)(hw:∀o,w'.cell? ⟨a.block,o,none⟩=w.cell? ⟨a.block,o,none⟩):Stand w' a cs:=
 fun j v hj=>by rw[hw];exact h j v hj
def RepKList{α:Type}(w:World)(KS:Nat→Prop)(p:Bool)(R:α→List Value→Prop)(l:List α)(cs:List Value):Prop:=
 ∃(ad:Option Addr) (cap:Nat),cs=[.slice ad l.length cap]∧(l.length≤cap∧(p=true→l=[]→cap=0))∧
   (l=[]∨∃a rows,ad=some a∧a.spot=none∧KS a.block∧Stand w a rows∧Rows' R l rows)
def RepKPtr{α:Type}(w:World)(KS:Nat→Prop)(R:α→List Value→Prop)(o:Option α)(cs:List Value):Prop:=
 match o with
 |none=>cs=[.pointer none]
 |some x=>∃a rows,cs=[.pointer (some a)]∧a.spot=none∧KS a.block∧Stand w a rows∧R x rows
def RepKPair{α β:Type}(R:α→List Value→Prop)(S:β→List Value→Prop)(x:α×β)(cs:List Value):Prop:=
 ∃c1 c2,cs=c1++c2∧R x.1 c1∧S x.2 c2
def RepKArr{α:Type}(n:Nat)(R:α→List Value→Prop)(l:List α)(cs:List Value):Prop:=l.length=n∧Rows' R l cs
theorem repK_ptr(w:World)(KS:Nat→Prop)(t:Ty):RepK w KS (.ptr t)=RepKPtr w KS (RepK w KS t):=by
 funext o cs;cases o<;>rfl
theorem rows_cast{α β:Type}{R:α→List Value→Prop}{S:β→List Value→Prop}(e:α=β)(h:∀(x:α) cs,R x cs→S (cast e x) cs):∀(l:List α) cs,Rows' R l cs→Rows' S (cast (congrArg List e) l) cs:=by
 subst e
 exact fun l cs hl=>rows_mono h l cs hl
theorem repK_sub{w:World}{KS:Nat→Prop}:∀{t t':Ty} (h:t.sub t'=true) {x:t.D} {cs:List Value},RepK w KS t x cs→RepK w KS t' (cast (Ty.same_D (Ty.sub_same h)) x) cs:=by
 intro t
 induction t with
 |unit=>intro b h x cs hx;cases b<;>first|exact hx|cases h
 |bool=>intro b h x cs hx;cases b<;>first|exact hx|cases h
 |str=>intro b h x cs hx;cases b<;>first|exact hx|cases h
 |int k=>
  intro b h x cs hx
  cases b<;>first|(cases h;done)|skip
  ·rename_i k'
   obtain rfl:=kindB_eq (a:=k) (b:=k') h
   exact hx
  ·obtain rfl:=kindB_eq (a:=k) (b:= .i64) h
   exact hx
 |list o t ih=>
  intro b h x cs hx
  cases b<;>first|cases h|skip
  rename_i o' t'
  have hs:t.sub t'=true:=by simp only[Ty.sub,Bool.and_eq_true]at h;exact h.2.2
  have hT:t'.isT=true→t.isT=true:=fun e=>by simp only[Ty.sub,Bool.and_eq_true,e,Bool.not_true,Bool.false_or]at h;exact h.2.1
  have e:=Ty.same_D (Ty.sub_same hs)
  have key:∀{β:Type} (S:β→List Value→Prop) (e:t.D=β) (_:∀(x:t.D) cs,RepK w KS t x cs→S (cast e x) cs) (l:List t.D),RepKList w KS t.isT (RepK w KS t) l cs→RepKList w KS t'.isT S (cast (congrArg List e) l) cs:=by
   intro β S e hS l hl
   subst e
   obtain⟨ad,cap,rfl,hc,hl⟩:=hl
   exact⟨ad,cap,rfl,⟨hc.1,fun h=>hc.2 (hT h)⟩,hl.imp id fun⟨a,rows,h1,h2,h3,h4,h5⟩=>⟨a,rows,h1,h2,h3,h4,rows_mono hS _ _ h5⟩⟩
  exact key _ e (fun x cs hx=>ih hs hx) x hx
 |ptr t ih=>
  intro b h x cs hx
  cases b<;>first|cases h|skip
  rename_i t'
  have hs:t.sub t'=true:=h
  have e:=Ty.same_D (Ty.sub_same hs)
  rw[repK_ptr]at hx ⊢
  have key:∀{β:Type} (S:β→List Value→Prop) (e:t.D=β) (_:∀(x:t.D) cs,RepK w KS t x cs→S (cast e x) cs) (l:Option t.D),RepKPtr w KS (RepK w KS t) l cs→RepKPtr w KS S (cast (congrArg Option e) l) cs:=by
   intro β S e hS l hl
   subst e
   cases l with
   |none=>exact hl
   |some y=>
    obtain⟨a,rows,h1,h2,h3,h4,h5⟩:=hl
    exact⟨a,rows,h1,h2,h3,h4,hS _ _ h5⟩
  exact key _ e (fun x cs hx=>ih hs hx) x hx
 |pair a b iha ihb=>
  intro c h x cs hx
  cases c<;>first|cases h|skip
  rename_i a' b'
  simp only[Ty.sub,Bool.and_eq_true]at h
  have e:=Ty.same_D (Ty.sub_same h.1)
  have e':=Ty.same_D (Ty.sub_same h.2)
  have key:∀{α β:Type} (R:α→List Value→Prop) (S:β→List Value→Prop) (e:a.D=α) (e':b.D=β) (_:∀(x:a.D) cs,RepK w KS a x cs→R (cast e x) cs) (_:∀(x:b.D) cs,RepK w KS b x cs→S (cast e' x) cs) (p:a.D×b.D) (E:(a.D×b.D)=(α×β)),RepKPair (RepK w KS a) (RepK w KS b) p cs→RepKPair R S (cast E p) cs:=by
   intro α β R S e e' hR hS p E hp
   subst e;subst e'
   obtain⟨c1,c2,h1,h2,h3⟩:=hp
   exact⟨c1,c2,h1,hR _ _ h2,hS _ _ h3⟩
  exact key _ _ e e' (fun x cs hx=>iha h.1 hx) (fun x cs hx=>ihb h.2 hx) x _ hx
 |arr n t ih=>
  intro b h x cs hx
  cases b<;>first|cases h|skip
  rename_i n' t'
  simp only[Ty.sub,Bool.and_eq_true]at h
  obtain rfl:n=n':=Nat.eq_of_beq_eq_true h.1
  have e:=Ty.same_D (Ty.sub_same h.2)
  have key:∀{β:Type} (S:β→List Value→Prop) (e:t.D=β) (_:∀(x:t.D) cs,RepK w KS t x cs→S (cast e x) cs) (l:List t.D),RepKArr n (RepK w KS t) l cs→RepKArr n S (cast (congrArg List e) l) cs:=by
   intro β S e hS l hl
   subst e
   exact⟨hl.1,rows_mono hS _ _ hl.2⟩
  exact key _ e (fun x cs hx=>ih h.2 hx) x hx
 |gone n=>
  intro b h x cs hx
  cases b<;>first|cases h|skip
  rename_i n'
  obtain rfl:n=n':=Nat.eq_of_beq_eq_true h
  exact hx
 |ti=>
  intro b h x cs hx
  cases b<;>first|(cases h;done)|skip
  ·rename_i k'
   obtain rfl:=kindB_eq (a:= .i64) (b:=k') h
   exact hx
  ·exact hx
theorem RepK.mono{w w':World}{KS KS':Nat→Prop}(hs:∀b,KS b→KS' b)(hw:∀b,KS b→∀o,w'.cell? ⟨b,o,none⟩=w.cell? ⟨b,o,none⟩):
  ∀(t:Ty) x cs,RepK w KS t x cs→RepK w' KS' t x cs:=by
 intro t
 induction t with
 |unit=>intro x cs h;exact h
 |int k=>intro x cs h;exact h
 |bool=>intro x cs h;exact h
 |str=>intro x cs h;exact h
 |list o t ih=>
  intro x cs h
  obtain⟨ad,cap,rfl,hc,h⟩:=h
  refine⟨ad,cap,rfl,hc,h.imp id ?_⟩
  rintro⟨a,rows,rfl,hsp,hk,hst,hr⟩
  exact⟨a,rows,rfl,hsp,hs _ hk,hst.mono (hw _ hk),rows_mono ih _ _ hr⟩
 |ptr t ih=>
  intro x cs h
  cases x with
  |none=>exact h
  |some x=>
   obtain⟨a,rows,rfl,hsp,hk,hst,hr⟩:=h
   exact⟨a,rows,rfl,hsp,hs _ hk,hst.mono (hw _ hk),ih _ _ hr⟩
 |pair a b iha ihb=>
  intro x cs h
  obtain⟨c1,c2,rfl,h1,h2⟩:=h
  exact⟨c1,c2,rfl,iha _ _ h1,ihb _ _ h2⟩
 |arr n t ih=>
  intro x cs h
  exact⟨h.1,rows_mono ih _ _ h.2⟩
 |gone n=>intro x cs h;exact h
 |ti=>intro x cs h;exact h
structure OwnL (α:Type) where
 ad:Option Addr
 cap:Nat
 rows:List α
structure ShL (α:Type) where
 ad:Option Addr
 cap:Nat
 l:List α
structure ShP (α:Type) where
 v:Option Addr
 x:Option α
@[reducible] def Ty.G:Ty→Type
 | .unit=>Unit| .int _=>Int| .bool=>Bool| .str=>ByteArray
 | .list true t=>OwnL t.G
 | .list false t=>ShL t.D
 | .ptr t=>ShP t.D
 | .pair a b=>a.G×b.G
 | .arr _ t=>List t.G
 | .gone _=>List Value
 | .ti=>Int
def er:(t:Ty)→t.G→t.D
 | .unit,_=>()| .int _,n=>n| .bool,b=>b| .str,s=>s
 | .list true t,g=>g.rows.map (er t)
 | .list false _,g=>g.l
 | .ptr _,g=>g.x
 | .pair a b,g=>(er a g.1,er b g.2)
 | .arr _ t,g=>(g:List t.G).map (er t)
 | .gone _,_=>()
 | .ti,n=>n
def cl:(t:Ty)→t.G→List Value
 | .unit,_=>[]| .int k,(n:Int)=>[.int k n]| .bool,(b:Bool)=>[.bool b]| .str,(s:ByteArray)=>[.string s]
 | .list true _,g=>[.slice g.ad g.rows.length g.cap]
 | .list false _,g=>[.slice g.ad g.l.length g.cap]
 | .ptr _,g=>[.pointer g.v]
 | .pair a b,g=>cl a g.1++cl b g.2
 | .arr _ t,g=>(g:List t.G).flatMap (cl t)
 | .gone _,g=>g
 | .ti,(n:Int)=>[.int .i64 n]
def fp:(t:Ty)→t.G→List Nat
 | .list true t,g=>match g.ad with
  |some a=>if g.cap=0 then []else a.block::g.rows.flatMap (fp t)
  |none=>[]
 | .pair a b,g=>fp a g.1++fp b g.2
 | .arr _ t,g=>(g:List t.G).flatMap (fp t)
 |_,_=>[]
def Block(w:World)(b:Nat)(cs:List Value):Prop:=
 (∃e,w.shape? b=some (e,cs.length))∧w.rangeAt b 0 cs∧∀j,j<cs.length→w.frozen? ⟨b,j,none⟩=false
def Kin(w w':World)(b:Nat):Prop:=w'.heap[b]? =w.heap[b]? ∨∃c c' t fr,w.heap[b]? =some (.cells c t fr)∧w'.heap[b]? =some (.cells c' t fr)∧c'.size=c.size
theorem Kin.trans{w1 w2 w3:World}{b:Nat}(h:Kin w1 w2 b)(k:Kin w2 w3 b):Kin w1 w3 b:=by
 rcases h with h|⟨c,c',t,fr,h1,h2,h3⟩
 ·rcases k with k|⟨d,d',u,fr',k1,k2,k3⟩
  ·exact .inl (k.trans h)
  ·exact .inr ⟨d,d',u,fr',by rw[←h];exact k1,k2,k3⟩
 ·rcases k with k|⟨d,d',u,fr',k1,k2,k3⟩
  ·exact .inr ⟨c,c',t,fr,h1,by rw[k];exact h2,h3⟩
  ·rw[h2]at k1
   injection k1 with k1
   injection k1 with k1 k4 k5
   subst k1;subst k4;subst k5
   exact .inr ⟨c,d',t,fr,h1,k2,by rw[k3,h3]⟩
structure Same (w w':World) (b:Nat):Prop where
 shape:w'.shape? b=w.shape? b
 rest:(∀o,w'.frozen? ⟨b,o,none⟩=w.frozen? ⟨b,o,none⟩)∧∀o,w'.cell? ⟨b,o,none⟩=w.cell? ⟨b,o,none⟩
 kin:Kin w w' b
theorem Same.of{w w':World}{b:Nat}(h:w'.heap[b]? =w.heap[b]?):Same w w' b:=
 ⟨by simp only[World.shape?,h],⟨fun o=>by simp only[World.frozen?,h],fun o=>by simp only[World.cell?,h]⟩,.inl h⟩
structure Tabs where
 T:World→Prop
 B:Nat→Prop
 stable:∀w w',(∀b,B b→Same w w' b)→T w→T w'
structure Grew (w w':World):Prop where
 size:w.heap.size≤w'.heap.size
 os:w'.os=w.os
 output:w'.output=w.output
theorem Grew.refl(w:World):Grew w w:=⟨Nat.le_refl _,rfl,rfl⟩
theorem Grew.trans{a b c:World}(h:Grew a b)(k:Grew b c):Grew a c:=⟨Nat.le_trans h.size k.size,k.os.trans h.os,k.output.trans h.output⟩
theorem Same.block{w w':World}{b:Nat}{cs:List Value}(h:Same w w' b)(hb:Block w b cs):Block w' b cs:=by
 obtain⟨⟨e,h1⟩,h2,h3⟩:=hb
 exact⟨⟨e,by rw[h.1];exact h1⟩,fun j v hj=>by rw[h.2.2];exact h2 j v hj,fun j hj=>by rw[h.2.1];exact h3 j hj⟩
def okG(w:World)(KS:Nat→Prop):(t:Ty)→t.G→Prop
 | .list true t,g=>(g.cap=0∧g.rows=[])∨
   ∃b rest,g.ad=some ⟨b,0,none⟩∧0<g.cap∧(g.rows.length≤g.cap∧(t.isT=true→g.rows≠[]))∧Block w b (g.rows.flatMap (cl t)++rest)∧(g.rows.flatMap (cl t)++rest).length=g.cap*t.sz∧
    ∀r∈g.rows,okG w KS t r
 | .list false t,g=>RepK w KS (.list false t) g.l [.slice g.ad g.l.length g.cap]
 | .ptr t,g=>RepK w KS (.ptr t) g.x [.pointer g.v]
 | .pair a b,g=>okG w KS a g.1∧okG w KS b g.2
 | .arr n t,g=>(g:List t.G).length=n∧∀r∈(g:List t.G),okG w KS t r
 | .gone n,g=>(g:List Value).length=n∧∀v∈(g:List Value),v.oneCell'=true
 |_,_=>True
theorem okG_len{w:World}{KS:Nat→Prop}:∀(t:Ty) g,okG w KS t g→(cl t g).length=t.sz:=by
 intro t
 induction t with
 |unit=>intro g h;rfl
 |int k=>intro g h;rfl
 |bool=>intro g h;rfl
 |str=>intro g h;rfl
 |list o t ih=>intro g h;cases o<;>rfl
 |ptr t ih=>intro g h;rfl
 |pair a b iha ihb=>intro g h;simp[cl,Ty.sz,iha _ h.1,ihb _ h.2]
 |arr n t ih=>
  intro g h
  obtain⟨hn,hr⟩:=h
  simp only[cl,Ty.sz]
  rw[←hn]
  have key:∀l:List t.G,(∀r∈l,okG w KS t r)→(l.flatMap (cl t)).length=l.length*t.sz:=by
   intro l
   induction l with
   |nil=>intro _;simp
   |cons x xs ihx=>
    intro hr
    simp only[List.flatMap_cons,List.length_append,List.length_cons,Nat.add_mul]
    rw[ih x (hr x (by simp)),ihx (fun r hr'=>hr r (by simp[hr']))]
    omega
  exact key g hr
 |gone n=>intro g h;exact h.1
 |ti=>intro g h;rfl
theorem rows_flat{w:World}{KS:Nat→Prop}(t:Ty):∀(l:List t.G),(∀r∈l,okG w KS t r)→(l.flatMap (cl t)).length=l.length*t.sz
 |[],_=>by simp
 |x::xs,h=>by
  simp only[List.flatMap_cons,List.length_append,List.length_cons,Nat.add_mul]
  rw[okG_len t x (h x (by simp)),rows_flat t xs (fun r hr=>h r (by simp[hr]))]
  omega
theorem okG_KS{w:World}{KS KS':Nat→Prop}(hs:∀b,KS b→KS' b):∀(t:Ty) g,okG w KS t g→okG w KS' t g:=by
 intro t
 induction t with
 |unit=>intro g h;trivial
 |int k=>intro g h;trivial
 |bool=>intro g h;trivial
 |str=>intro g h;trivial
 |list o t ih=>
  intro g h
  cases o with
  |false=>exact RepK.mono hs (fun _ _ _=>rfl) _ _ _ h
  |true=>
   refine h.imp id ?_
   rintro⟨b,rest,h1,h2,h3,h4,h5,h6⟩
   exact⟨b,rest,h1,h2,h3,h4,h5,fun r hr=>ih r (h6 r hr)⟩
 |ptr t ih=>intro g h;exact RepK.mono hs (fun _ _ _=>rfl) _ _ _ h
 |pair a b iha ihb=>intro g h;exact⟨iha _ h.1,ihb _ h.2⟩
 |arr n t ih=>intro g h;exact⟨h.1,fun r hr=>ih r (h.2 r hr)⟩
 |gone n=>intro g h;exact h
 |ti=>intro g h;trivial
theorem okG_frame{w w':World}{KS:Nat→Prop}(hk:∀b,KS b→∀o,w'.cell? ⟨b,o,none⟩=w.cell? ⟨b,o,none⟩):
  ∀(t:Ty) g,(∀b∈fp t g,Same w w' b)→okG w KS t g→okG w' KS t g:=by
 intro t
 induction t with
 |unit=>intro g _ h;trivial
 |int k=>intro g _ h;trivial
 |bool=>intro g _ h;trivial
 |str=>intro g _ h;trivial
 |list o t ih=>
  intro g hf h
  cases o with
  |false=>exact RepK.mono (fun _ h=>h) hk _ _ _ h
  |true=>
   refine h.imp id ?_
   rintro⟨b,rest,h1,h2,h3,h4,h5,h6⟩
   have hne:g.cap≠0:=by omega
   have hfp:fp (.list true t) g=b::g.rows.flatMap (fp t):=by simp[fp,h1,hne]
   refine⟨b,rest,h1,h2,h3,(hf b (by rw[hfp];simp)).block h4,h5,fun r hr=>ih r (fun c hc=>hf c ?_) (h6 r hr)⟩
   rw[hfp];exact List.mem_cons_of_mem _ (List.mem_flatMap.2 ⟨r,hr,hc⟩)
 |ptr t ih=>intro g _ h;exact RepK.mono (fun _ h=>h) hk _ _ _ h
 |pair a b iha ihb=>
  intro g hf h
  exact⟨iha _ (fun c hc=>hf c (by simp[fp,hc])) h.1,ihb _ (fun c hc=>hf c (by simp[fp,hc])) h.2⟩
 |arr n t ih=>
  intro g hf h
  exact⟨h.1,fun r hr=>ih r (fun c hc=>hf c (by simp only[fp];exact List.mem_flatMap.2 ⟨r,hr,hc⟩)) (h.2 r hr)⟩
 |gone n=>intro g _ h;exact h
 |ti=>intro g _ h;trivial
theorem rows_of_ok{t:Ty}{R:t.D→List Value→Prop}:∀(l:List t.G),(∀r∈l,R (er t r) (cl t r))→Rows' R (l.map (er t)) (l.flatMap (cl t))
 |[],_=>by simp[Rows']
 |x::xs,h=>⟨cl t x,xs.flatMap (cl t),by simp,h x (by simp),rows_of_ok xs (fun r hr=>h r (by simp[hr]))⟩
theorem Block.cell{w:World}{b:Nat}{cs:List Value}(h:Block w b cs){j:Nat}{v:Value}(hj:cs[j]? =some v):w.cell? ⟨b,j,none⟩=some v:=by
 have:=h.2.1 j v hj
 simpa using this
theorem Block.stand{w:World}{b:Nat}{cs rest:List Value}(h:Block w b (cs++rest)):Stand w ⟨b,0,none⟩ cs:=by
 intro j v hj
 have hl:j<cs.length:=(List.getElem?_eq_some_iff.1 hj).1
 have:=h.cell (j:=j) (v:=v) (by rw[List.getElem?_append_left hl];exact hj)
 simpa using this
theorem okG_repK{w:World}{KS KS':Nat→Prop}(hs:∀b,KS b→KS' b):∀(t:Ty) g,(∀b∈fp t g,KS' b)→okG w KS t g→RepK w KS' t (er t g) (cl t g):=by
 intro t
 induction t with
 |unit=>intro g _ h;rfl
 |int k=>intro g _ h;rfl
 |bool=>intro g _ h;rfl
 |str=>intro g _ h;rfl
 |list o t ih=>
  intro g hf h
  cases o with
  |false=>exact RepK.mono hs (fun _ _ _=>rfl) _ _ _ h
  |true=>
   rcases h with⟨h1,h2⟩|⟨b,rest,h1,h2,h3,h4,h5,h6⟩
   ·refine⟨g.ad,g.cap, ?_,⟨?_,fun _ _=>h1⟩,.inl ?_⟩<;>simp[er,cl,h2]
   ·have hne:g.cap≠0:=by omega
    have hfp:fp (.list true t) g=b::g.rows.flatMap (fp t):=by simp[fp,h1,hne]
    refine⟨g.ad,g.cap,by simp[er,cl],⟨by simpa[er]using h3.1,fun ht hl=>absurd (List.map_eq_nil_iff.1 hl) (h3.2 ht)⟩,.inr ⟨⟨b,0,none⟩,g.rows.flatMap (cl t),h1,rfl,hf b (by rw[hfp];simp),h4.stand, ?_⟩⟩
    refine rows_of_ok g.rows fun r hr=>ih r (fun c hc=>hf c ?_) (h6 r hr)
    rw[hfp];exact List.mem_cons_of_mem _ (List.mem_flatMap.2 ⟨r,hr,hc⟩)
 |ptr t ih=>intro g _ h;exact RepK.mono hs (fun _ _ _=>rfl) _ _ _ h
 |pair a b iha ihb=>
  intro g hf h
  exact⟨cl a g.1,cl b g.2,rfl,iha _ (fun c hc=>hf c (by simp[fp,hc])) h.1,ihb _ (fun c hc=>hf c (by simp[fp,hc])) h.2⟩
 |arr n t ih=>
  intro g hf h
  refine⟨by simp[er,h.1], ?_⟩
  exact rows_of_ok g fun r hr=>ih r (fun c hc=>hf c (by simp only[fp];exact List.mem_flatMap.2 ⟨r,hr,hc⟩)) (h.2 r hr)
 |gone n=>intro g _ h;exact h.1
 |ti=>intro g _ h;rfl
end
section
theorem cast_list_nil{α β:Type}(h:α=β)(h':List α=List β):cast h' ([]:List α)=[]:=by subst h;rfl
theorem cast_list_cons{α β:Type}(h:α=β)(h':List α=List β)(x:α)(l:List α):cast h' (x::l)=cast h x::cast h' l:=by subst h;rfl
theorem cast_list_len{α β:Type}(h:α=β)(h':List α=List β)(l:List α):(cast h' l).length=l.length:=by subst h;rfl
theorem cast_pair{α β γ δ:Type}(h:α=γ)(h':β=δ)(e:(α×β)=(γ×δ))(x:α×β):cast e x=(cast h x.1,cast h' x.2):=by subst h;subst h';rfl
theorem Ty.same_sz:∀{a b:Ty},a.same b=true→a.sz=b.sz:=by
 intro a
 induction a with
 |pair x y ihx ihy=>
  intro b h
  cases b<;>first|(cases h;done)|skip
  simp only[Ty.same,Bool.and_eq_true]at h
  simp only[Ty.sz,ihx h.1,ihy h.2]
 |arr n t ih=>
  intro b h
  cases b<;>first|(cases h;done)|skip
  simp only[Ty.same,Bool.and_eq_true]at h
  obtain rfl:=Nat.eq_of_beq_eq_true h.1
  simp only[Ty.sz,ih h.2]
 |gone n=>
  intro b h
  cases b<;>first|(cases h;done)|skip
  exact Nat.eq_of_beq_eq_true h
 |_=>intro b h;cases b<;>first|(cases h;done)|rfl
structure ConvG (t t':Ty) (h:t.sub t'=true) (g:t.G) (g':t'.G) (dr:List Nat):Prop where
 perm:(fp t g).Perm (fp t' g'++dr)
 cl:cl t' g'=cl t g
 er:er t' g'=cast (Ty.same_D (Ty.sub_same h)) (er t g)
 ok:∀w KS KS',(∀b,KS b→KS' b)→(∀b∈dr,KS' b)→okG w KS t g→okG w KS' t' g'
theorem perm_swap4{α:Type}{a b c d e f:List α}(h1:a.Perm (c++d))(h2:b.Perm (e++f)):(a++b).Perm ((c++e)++(d++f)):=by
 refine(h1.append h2).trans ?_
 simp only[List.append_assoc]
 refine List.Perm.append_left c ?_
 rw[←List.append_assoc,←List.append_assoc]
 exact List.Perm.append_right f List.perm_append_comm
theorem convRows{t t':Ty}(h:t.sub t'=true)(ih:∀g:t.G,∃g' dr,ConvG t t' h g g' dr):∀rows:List t.G,∃(rows':List t'.G) (dr:List Nat),
  (rows.flatMap (fp t)).Perm (rows'.flatMap (fp t')++dr)∧rows'.length=rows.length∧rows'.flatMap (cl t')=rows.flatMap (cl t)∧
  (∀e:List t.D=List t'.D,rows'.map (er t')=cast e (rows.map (er t)))∧
  ∀w KS KS',(∀b,KS b→KS' b)→(∀b∈dr,KS' b)→(∀r∈rows,okG w KS t r)→∀r∈rows',okG w KS' t' r
 |[]=>⟨[],[],by simp,rfl,rfl,fun e=>(cast_list_nil (Ty.same_D (Ty.sub_same h)) e).symm,fun _ _ _ _ _ _=>by simp⟩
 |g::gs=>by
  obtain⟨g',d1,hg⟩:=ih g
  obtain⟨gs',d2,h1,h2,h3,h4,h5⟩:=convRows h ih gs
  refine⟨g'::gs',d1++d2, ?_,by simp[h2],by simp[h3,hg.cl], ?_, ?_⟩
  ·simp only[List.flatMap_cons];exact perm_swap4 hg.perm h1
  ·intro e
   rw[List.map_cons,List.map_cons,cast_list_cons (Ty.same_D (Ty.sub_same h)) e,hg.er,h4 e]
  ·intro w KS KS' hs hd hr r hr'
   rcases List.mem_cons.1 hr' with rfl|hr'
   ·exact hg.ok w KS KS' hs (fun b hb=>hd b (by simp[hb])) (hr g (by simp))
   ·exact h5 w KS KS' hs (fun b hb=>hd b (by simp[hb])) (fun r hr''=>hr r (by simp[hr''])) r hr'
theorem convG:∀{t t':Ty} (h:t.sub t'=true) (g:t.G),∃g' dr,ConvG t t' h g g' dr:=by
 intro t
 induction t with
 |unit=>
  intro t' h g
  cases t'<;>first|(cases h;done)|exact⟨g,[],by simp,rfl,rfl,fun _ _ _ _ _ _=>trivial⟩
 |bool=>
  intro t' h g
  cases t'<;>first|(cases h;done)|exact⟨g,[],by simp[fp],rfl,rfl,fun _ _ _ _ _ _=>trivial⟩
 |str=>
  intro t' h g
  cases t'<;>first|(cases h;done)|exact⟨g,[],by simp[fp],rfl,rfl,fun _ _ _ _ _ _=>trivial⟩
 |int k=>
  intro t' h g
  cases t'<;>first|(cases h;done)|skip
  ·rename_i k'
   obtain rfl:=kindB_eq (a:=k) (b:=k') h
   exact⟨g,[],by simp[fp],rfl,rfl,fun _ _ _ _ _ _=>trivial⟩
  ·obtain rfl:=kindB_eq (a:=k) (b:= .i64) h
   exact⟨g,[],by simp[fp],rfl,rfl,fun _ _ _ _ _ _=>trivial⟩
 |gone n=>
  intro t' h g
  cases t'<;>first|cases h|skip
  rename_i n'
  obtain rfl:n=n':=Nat.eq_of_beq_eq_true h
  exact⟨g,[],by simp[fp],rfl,rfl,fun _ _ _ _ _ h=>h⟩
 |ptr t ih=>
  intro t' h g
  cases t'<;>first|cases h|skip
  rename_i u
  refine⟨⟨g.v,cast (Ty.same_D (Ty.sub_same h)) g.x⟩,[],by simp[fp],rfl,rfl,fun w KS KS' hs' _ hg=> ?_⟩
  exact repK_sub h (RepK.mono hs' (fun _ _ _=>rfl) _ _ _ hg)
 |pair a b iha ihb=>
  intro t' h g
  cases t'<;>first|cases h|skip
  rename_i c d
  have h':=h
  simp only[Ty.sub,Bool.and_eq_true]at h'
  obtain⟨g1,d1,c1⟩:=iha h'.1 g.1
  obtain⟨g2,d2,c2⟩:=ihb h'.2 g.2
  refine⟨(g1,g2),d1++d2,perm_swap4 c1.perm c2.perm,by simp[cl,c1.cl,c2.cl], ?_, ?_⟩
  ·rw[cast_pair (Ty.same_D (Ty.sub_same h'.1)) (Ty.same_D (Ty.sub_same h'.2))]
   simp only[er,c1.er,c2.er]
  ·intro w KS KS' hs hd hg
   exact⟨c1.ok w KS KS' hs (fun b hb=>hd b (by simp[hb])) hg.1,c2.ok w KS KS' hs (fun b hb=>hd b (by simp[hb])) hg.2⟩
 |arr n t ih=>
  intro t' h g
  cases t'<;>first|cases h|skip
  rename_i n' u
  have h':=h
  simp only[Ty.sub,Bool.and_eq_true]at h'
  obtain rfl:n=n':=Nat.eq_of_beq_eq_true h'.1
  obtain⟨rows',dr,h1,h2,h3,h4,h5⟩:=convRows h'.2 (fun g=>ih h'.2 g) g
  exact⟨rows',dr,h1,h3,h4 _,fun w KS KS' hs hd hg=>⟨by rw[h2];exact hg.1,h5 w KS KS' hs hd hg.2⟩⟩
 |list o t ih=>
  intro t' h g
  cases t'<;>first|(cases h;done)|skip
  rename_i o' u
  cases o' with
  |true=>
   have h':=h
   simp only[Ty.sub,Bool.not_true,Bool.false_or,Bool.and_eq_true]at h'
   obtain⟨rfl,hT,h'⟩:=h'
   obtain⟨rows',dr,h1,h2,h3,h4,h5⟩:=convRows h' (fun g=>ih h' g) g.rows
   refine⟨⟨g.ad,g.cap,rows'⟩,if g.ad.isSome∧g.cap≠0 then dr else [], ?_,by simp[cl,h2],h4 _, ?_⟩
   ·cases hg:g.ad with
    |none=>simp[fp,hg]
    |some a=>
     by_cases hc:g.cap=0
     ·simp[fp,hg,hc]
     ·simp only[fp,hg,hc,if_false,Option.isSome_some,ne_eq,not_false_eq_true,and_self,if_true,List.cons_append]
      exact List.Perm.cons _ h1
   ·intro w KS KS' hs hd hg
    rcases hg with⟨h6,h7⟩|⟨b,rest,e1,e2,e3,e4,e5,e6⟩
    ·refine .inl ⟨h6, ?_⟩
     have:rows'.length=0:=by rw[h2,h7];rfl
     exact List.eq_nil_of_length_eq_zero this
    ·have hne:g.cap≠0:=by omega
     have hsz:u.sz=t.sz:=(Ty.same_sz (Ty.sub_same h')).symm
     refine .inr ⟨b,rest,e1,e2,⟨by simpa[h2]using e3.1,fun ht hr=>e3.2 (by simpa[ht]using hT) (List.eq_nil_of_length_eq_zero (by rw[←h2];exact congrArg List.length hr))⟩,by rw[h3];exact e4,by rw[h3,e5,hsz], ?_⟩
     refine h5 w KS KS' hs (fun b' hb'=>hd b' ?_) e6
     simp[e1,hne,hb']
  |false=>
   have hs:(Ty.list o t).same (.list false u)=true:=Ty.sub_same h
   cases o with
   |false=>
    refine⟨⟨g.ad,g.cap,cast (Ty.same_D hs) g.l⟩,[],by simp[fp], ?_,rfl,fun w KS KS' hs' _ hg=> ?_⟩
    ·simp only[cl];rw[cast_list_len (Ty.same_D (a:=t) (b:=u) hs)]
    ·have:=repK_sub h (RepK.mono hs' (fun _ _ _=>rfl) _ _ _ hg)
     simp only[okG]
     rw[cast_list_len (Ty.same_D (a:=t) (b:=u) hs)]
     exact this
   |true=>
    refine⟨⟨g.ad,g.cap,cast (Ty.same_D hs) (er (.list true t) g)⟩,fp (.list true t) g,by simp[fp], ?_,rfl,fun w KS KS' hs' hd hg=> ?_⟩
    ·simp only[cl];rw[cast_list_len (Ty.same_D (a:=t) (b:=u) hs)];simp[er]
    ·have:=repK_sub h (okG_repK hs' _ _ hd hg)
     simp only[okG]
     rw[cast_list_len (Ty.same_D (a:=t) (b:=u) hs)]
     simpa[er,cl]using this
 |ti=>
  intro t' h g
  cases t'<;>first|(cases h;done)|skip
  ·rename_i k'
   obtain rfl:=kindB_eq (a:= .i64) (b:=k') h
   exact⟨g,[],by simp[fp],rfl,rfl,fun _ _ _ _ _ _=>trivial⟩
  ·exact⟨g,[],by simp[fp],rfl,rfl,fun _ _ _ _ _ _=>trivial⟩
end
section
theorem Cm.run_bind{α β:Type}:∀(m:Cm α) (f:α→Cm β),(m.bind f).run=m.run.bind fun a=>(f a).run
 | .ret a,f=>rfl
 | .fail,_=>rfl
 | .guard c i m,f=>by
  simp only[Cm.bind,Cm.run]
  split
  ·exact Cm.run_bind m f
  ·rfl
 | .get t o g,f=>by
  simp only[Cm.bind]
  cases o with
  |none=>rfl
  |some x=>exact Cm.run_bind (g x) f
theorem Cm.runK_eq{α R:Type}:∀(m:Cm α) (κ:α→Option R),m.runK κ=m.run.bind κ
 | .ret a,f=>rfl
 | .fail,_=>rfl
 | .guard c i m,f=>by
  simp only[Cm.runK,Cm.run]
  split
  ·exact Cm.runK_eq m f
  ·rfl
 | .get t o g,f=>by
  cases o with
  |none=>rfl
  |some x=>exact Cm.runK_eq (g x) f
theorem Cm.run_chk{α:Type}{b:Bool}{m:Cm α}{a:α}(h:(Cm.chk b m).run=some a):b=true∧m.run=some a:=by
 cases b
 ·cases h
 ·exact⟨rfl,h⟩
theorem Cm.run_ask{α:Type}{c:Prop}[i:Decidable c]{m:Cm α}{a:α}(h:(Cm.ask c m).run=some a):c∧m.run=some a:=by
 simp only[Cm.ask,Cm.run]at h
 split at h
 ·exact⟨‹c›,h⟩
 ·cases h
theorem Cm.run_get{α:Type}{t:Ty}{o:Option t.D}{f:t.D→Cm α}{a:α}(h:(Cm.get t o f).run=some a):∃x,o=some x∧(f x).run=some a:=by
 cases o with
 |none=>cases h
 |some x=>exact⟨x,rfl,h⟩
theorem Cm.run_bind_some{α β:Type}{m:Cm α}{f:α→Cm β}{b:β}(h:(m.bind f).run=some b):∃a,m.run=some a∧(f a).run=some b:=by
 rw[Cm.run_bind]at h
 cases hm:m.run with
 |none=>rw[hm]at h;cases h
 |some a=>rw[hm]at h;exact⟨a,rfl,h⟩
theorem conv_some{t t':Ty}{x:t.D}{y:t'.D}(h:conv t t' x=some y):∃hs:t.sub t'=true,y=cast (Ty.same_D (Ty.sub_same hs)) x:=by
 unfold conv at h
 split at h
 ·rename_i hs;exact⟨hs,by injection h with h;exact h.symm⟩
 ·cases h
structure Spot where
 t:Ty
 g:t.G
 ad:Option Addr
def _root_.Go.Addr.plus(a:Addr)(n:Nat):Addr:=⟨a.block,a.off+n,none⟩
def loc : (t : Ty) → t.G → Option Addr → Path → Option Spot
 | t, g, a, [] => some ⟨t, g, a⟩
 | .pair a _, g, ad, .L :: p => loc a g.1 ad p
 | .pair a b, g, ad, .R :: p => loc b g.2 (ad.map (Addr.plus · a.sz)) p
 | .list true t, g, _, .I i :: p => match g.rows[i]? with
  | some r => loc t r (g.ad.map (Addr.plus · (i * t.sz))) p
  | none => none
 | .arr _ t, g, ad, .A i :: p => match (g : List t.G)[i]? with
  | some r => loc t r (ad.map (Addr.plus · (i * t.sz))) p
  | none => none
 | _, _, _, _ => none
theorem rd_loc : ∀ (p : Path) (t : Ty) (g : t.G) (ad : Option Addr) (d : Dyn), (rd t (er t g) p).run = some d → ∃ s, loc t g ad p = some s ∧ d = ⟨s.t, er s.t s.g⟩
 | [], t, g, ad, d, h => by
  have h' : some (⟨t, er t g⟩ : Dyn) = some d := by cases t <;> exact h
  refine ⟨⟨t, g, ad⟩, ?_, by injection h' with h'; exact h'.symm⟩
  cases t <;> first | rfl | (rename_i o u; cases o <;> rfl)
 | .L :: p, t, g, ad, d, h => by
  cases t <;> first | (cases h; done) | skip
  exact rd_loc p _ g.1 ad d h
 | .R :: p, t, g, ad, d, h => by
  cases t <;> first | (cases h; done) | skip
  exact rd_loc p _ g.2 _ d h
 | .I i :: p, t, g, ad, d, h => by
  cases t <;> first | (cases h; done) | skip
  ·rename_i o u
   cases o with
   | false => cases h
   | true =>
    obtain ⟨y, hy, h⟩ := Cm.run_get h
    simp only [er, List.getElem?_map, Option.map_eq_some_iff] at hy
    obtain ⟨r, hr, rfl⟩ := hy
    obtain ⟨s, hs, e⟩ := rd_loc p u r (g.ad.map (Addr.plus · (i * u.sz))) d h
    exact ⟨s, by simp [loc, hr, hs], e⟩
 | .A i :: p, t, g, ad, d, h => by
  cases t <;> first | (cases h; done) | skip
  ·rename_i n u
   obtain ⟨y, hy, h⟩ := Cm.run_get h
   simp only [er, List.getElem?_map, Option.map_eq_some_iff] at hy
   obtain ⟨r, hr, rfl⟩ := hy
   obtain ⟨s, hs, e⟩ := rd_loc p u r (ad.map (Addr.plus · (i * u.sz))) d h
   exact ⟨s, by simp [loc, hr, hs], e⟩
theorem split_at{α:Type}:∀{l:List α} {i:Nat} {r:α},l[i]? =some r→∃l1 l2,l=l1++r::l2∧l1.length=i∧∀x,l.set i x=l1++x::l2
 |[],i,r,h=>by simp at h
 |a::l,0,r,h=>by simp at h;subst h;exact⟨[],l,rfl,rfl,fun _=>rfl⟩
 |a::l,i+1,r,h=>by
  obtain⟨l1,l2,e,n,f⟩:=split_at (l:=l) (i:=i) (r:=r) (by simpa using h)
  exact⟨a::l1,l2,by simp[e],by simp[n],fun x=>by simp[f]⟩
def RowAt(w:World)(a:Addr)(cs:List Value):Prop:=
 a.spot=none∧w.rangeAt a.block a.off cs∧∀j,j<cs.length→w.frozen? ⟨a.block,a.off+j,none⟩=false
theorem rangeAt_mid{w:World}{b o:Nat}{X m Y:List Value}(h:w.rangeAt b o (X++m++Y)):w.rangeAt b (o+X.length) m:=by
 intro j v hj
 have hl:j<m.length:=(List.getElem?_eq_some_iff.1 hj).1
 have:=h (X.length+j) v (by
  rw[List.append_assoc,List.getElem?_append_right (by omega),List.getElem?_append_left (by omega)]
  simpa using hj)
 rw[show o+X.length+j=o+(X.length+j)by omega];exact this
theorem RowAt.mid{w:World}{a:Addr}{X m Y:List Value}(h:RowAt w a (X++m++Y)):RowAt w (a.plus X.length) m:=
 ⟨rfl,rangeAt_mid h.2.1,fun j hj=>by
  have:=h.2.2 (X.length+j) (by simp;omega)
  simpa[Addr.plus,Nat.add_assoc]using this⟩
theorem Block.row{w:World}{b:Nat}{X m Y:List Value}(h:Block w b (X++m++Y)):RowAt w ⟨b,X.length,none⟩ m:=by
 have:=RowAt.mid (w:=w) (a:=⟨b,0,none⟩) (X:=X) (m:=m) (Y:=Y) ⟨rfl,h.2.1,fun j hj=>by simpa using h.2.2 j hj⟩
 simpa[Addr.plus]using this
theorem flat_split{t:Ty}{w:World}{KS:Nat→Prop}{rows l1 l2:List t.G}{r:t.G}{i:Nat}(e:rows=l1++r::l2)(hi:l1.length=i)(h:∀x∈rows,okG w KS t x):
  rows.flatMap (cl t)=l1.flatMap (cl t)++cl t r++l2.flatMap (cl t)∧(l1.flatMap (cl t)).length=i*t.sz:=by
 subst e
 refine⟨by simp, ?_⟩
 rw[rows_flat t l1 (fun x hx=>h x (by simp[hx])),hi]
structure LocG (w:World) (KS:Nat→Prop) (t:Ty) (g:t.G) (ad:Option Addr) (p:Path) (s:Spot):Prop where
 ok:okG w KS s.t s.g
 perm:∃rest,(fp t g).Perm (fp s.t s.g++rest)∧(noI p=false→∃B,s.ad=some B∧B.block∈rest∧RowAt w B (cl s.t s.g))
 out:noI p=true→∃pre post,cl t g=pre++cl s.t s.g++post∧s.ad=ad.map (Addr.plus · pre.length)
theorem plus_zero{a:Addr}(h:a.spot=none):a.plus 0=a:=by cases a;simp only[Addr.plus]at*;simp[h]
theorem plus_plus(a:Addr)(m n:Nat):(a.plus m).plus n=a.plus (m+n):=by simp[Addr.plus,Nat.add_assoc]
theorem perm_in{α:Type}[DecidableEq α]{l1 l2:List α}(h:l1.Perm l2){x:α}:x∈l1↔x∈l2:=h.mem_iff
theorem locG{w:World}{KS:Nat→Prop}:∀(p:Path) (t:Ty) (g:t.G) (ad:Option Addr) (s:Spot),loc t g ad p=some s→(∀A,ad=some A→A.spot=none)→okG w KS t g→LocG w KS t g ad p s
 |[],t,g,ad,s,h,hsp,hok=>by
  have e:s=⟨t,g,ad⟩:=by
   have:loc t g ad []=some ⟨t,g,ad⟩:=by cases t<;>first|rfl|(rename_i o u;cases o<;>rfl)
   rw[this]at h;injection h with h;exact h.symm
  subst e
  refine⟨hok,⟨[],by simp,fun h=>by cases h⟩,fun _=>⟨[],[],by simp, ?_⟩⟩
  cases ad with
  |none=>rfl
  |some A=>simp[plus_zero (hsp A rfl)]
 | .L::p,t,g,ad,s,h,hsp,hok=>by
  cases t<;>first|(cases h;done)|skip
  rename_i a b
  have ih:=locG p a g.1 ad s h hsp hok.1
  refine⟨ih.ok, ?_,fun hn=> ?_⟩
  ·obtain⟨rest,h1,h2⟩:=ih.perm
   refine⟨rest++fp b g.2, ?_,fun hn=> ?_⟩
   ·simp only[fp];rw[←List.append_assoc];exact h1.append_right _
   ·obtain⟨B,e,hB,hr⟩:=h2 hn
    exact⟨B,e,by simp[hB],hr⟩
  ·obtain⟨pre,post,e,h2⟩:=ih.out hn
   exact⟨pre,post++cl b g.2,by simp[cl,e],h2⟩
 | .R::p,t,g,ad,s,h,hsp,hok=>by
  cases t<;>first|(cases h;done)|skip
  rename_i a b
  have hl:=okG_len a g.1 hok.1
  have ih:=locG p b g.2 _ s h (fun A hA=>by
   cases ad with
   |none=>cases hA
   |some A'=>simp at hA;subst hA;rfl) hok.2
  refine⟨ih.ok, ?_,fun hn=> ?_⟩
  ·obtain⟨rest,h1,h2⟩:=ih.perm
   refine⟨rest++fp a g.1, ?_,fun hn=> ?_⟩
   ·simp only[fp]
    refine List.perm_append_comm.trans ?_
    rw[←List.append_assoc];exact h1.append_right _
   ·obtain⟨B,e,hB,hr⟩:=h2 hn
    exact⟨B,e,by simp[hB],hr⟩
  ·obtain⟨pre,post,e,h2⟩:=ih.out hn
   refine⟨cl a g.1++pre,post,by simp[cl,e], ?_⟩
   rw[h2]
   cases ad with
   |none=>rfl
   |some A=>simp[plus_plus,hl]
 | .I i::p,t,g,ad,s,h,hsp,hok=>by
  cases t<;>first|(cases h;done)|skip
  ·rename_i o u
   cases o with
   |false=>cases h
   |true=>
    simp only[loc]at h
    split at h
    ·rename_i r hr
     obtain⟨l1,l2,e,hi,_⟩:=split_at hr
     rcases hok with⟨_,h0⟩|⟨b,rest,h1,h2,h3,h4,h5,h6⟩
     ·rw[h0]at hr;simp at hr
     ·have hne:g.cap≠0:=by omega
      have hfp:fp (.list true u) g=b::g.rows.flatMap (fp u):=by simp[fp,h1,hne]
      obtain⟨hc,hlen⟩:=flat_split e hi h6
      have ih:=locG p u r _ s h (fun A hA=>by rw[h1]at hA;simp at hA;subst hA;rfl) (h6 r (by simp[e]))
      obtain⟨rs,p1,p2⟩:=ih.perm
      have hrow:∃B,s.ad=some B∧B.block∈b::((l1.flatMap (fp u)++l2.flatMap (fp u))++rs)∧RowAt w B (cl s.t s.g):=by
       cases hn:noI p with
       |false=>
        obtain⟨B,eB,hB,hr'⟩:=p2 hn
        exact⟨B,eB,by simp[hB],hr'⟩
       |true=>
        obtain⟨pre,post,e2,e3⟩:=ih.out hn
        rw[h1]at e3
        refine⟨_,by rw[e3];rfl,by simp[Addr.plus], ?_⟩
        have hb:Block w b ((l1.flatMap (cl u)++pre)++cl s.t s.g++(post++l2.flatMap (cl u)++rest)):=by
         have:g.rows.flatMap (cl u)++rest=(l1.flatMap (cl u)++pre)++cl s.t s.g++(post++l2.flatMap (cl u)++rest):=by rw[hc,e2];simp
         rw[←this];exact h4
        have:=hb.row
        rw[List.length_append,hlen]at this
        simpa[Addr.plus]using this
      refine⟨ih.ok,⟨b::((l1.flatMap (fp u)++l2.flatMap (fp u))++rs), ?_,fun _=>hrow⟩,fun hn=>by cases hn⟩
      rw[hfp,e]
      simp only[List.flatMap_append,List.flatMap_cons]
      refine(List.Perm.cons b ?_).trans (List.perm_middle.symm)
      -- l1 ++ (r ++ l2) ~ s ++ ((l1 ++ l2) ++ rs)
      refine(List.perm_append_comm_assoc _ _ _).trans ?_
      refine(p1.append_right _).trans ?_
      rw[List.append_assoc]
      exact List.Perm.append_left _ List.perm_append_comm
    ·cases h
 | .A i::p,t,g,ad,s,h,hsp,hok=>by
  cases t<;>first|(cases h;done)|skip
  ·rename_i n u
   simp only[loc]at h
   split at h
   ·rename_i r hr
    obtain⟨l1,l2,e,hi,_⟩:=split_at hr
    obtain⟨_,h6⟩:=hok
    obtain⟨hc,hlen⟩:=flat_split e hi h6
    have ih:=locG p u r _ s h (fun A hA=>by
     cases ad with
     |none=>cases hA
     |some A'=>simp at hA;subst hA;rfl) (h6 r (by rw[e];simp))
    refine⟨ih.ok, ?_,fun hn=> ?_⟩
    ·obtain⟨rs,p1,p2⟩:=ih.perm
     refine⟨(l1.flatMap (fp u)++l2.flatMap (fp u))++rs, ?_,fun hn=> ?_⟩
     ·simp only[fp]
      rw[e]
      simp only[List.flatMap_append,List.flatMap_cons]
      refine(List.perm_append_comm_assoc _ _ _).trans ?_
      refine(p1.append_right _).trans ?_
      rw[List.append_assoc]
      exact List.Perm.append_left _ List.perm_append_comm
     ·obtain⟨B,e,hB,hr⟩:=p2 hn
      exact⟨B,e,by simp[hB],hr⟩
    ·obtain⟨pre,post,e2,h2⟩:=ih.out hn
     refine⟨l1.flatMap (cl u)++pre,post++l2.flatMap (cl u),by simp only[cl];rw[hc,e2];simp, ?_⟩
     rw[h2]
     cases ad with
     |none=>rfl
     |some A=>simp[plus_plus,hlen]
   ·cases h
end
section
structure InBlk (w w':World) (B:Addr) (n:Nat) (cs:List Value):Prop where
 shape:w'.shape? B.block=w.shape? B.block
 rest:(∀o,w'.frozen? ⟨B.block,o,none⟩=w.frozen? ⟨B.block,o,none⟩)∧
  (∀o,¬(B.off≤o∧o<B.off+n)→w'.cell? ⟨B.block,o,none⟩=w.cell? ⟨B.block,o,none⟩)∧w'.rangeAt B.block B.off cs
 kin:Kin w w' B.block
theorem rangeUpd{w w':World}{b o:Nat}{X m m' Y:List Value}(h:w.rangeAt b o (X++m++Y))(hi:InBlk w w' ⟨b,o+X.length,none⟩ m.length m')(hl:m'.length=m.length):
  w'.rangeAt b o (X++m'++Y):=by
 obtain⟨h1,⟨h2,h3,h4⟩,_⟩:=hi
 intro j v hj
 by_cases hx:j<X.length
 ·rw[List.append_assoc,List.getElem?_append_left hx]at hj
  rw[h3 (o+j) (by simp;omega)]
  exact h j v (by rw[List.append_assoc,List.getElem?_append_left hx];exact hj)
 ·by_cases hm:j<X.length+m.length
  ·rw[List.append_assoc,List.getElem?_append_right (by omega),List.getElem?_append_left (by omega)]at hj
   have:=h4 _ v hj
   simp only at this
   rw[show o+j=o+X.length+(j-X.length)by omega];exact this
  ·rw[h3 (o+j) (by simp;omega)]
   rw[List.append_assoc,List.getElem?_append_right (by omega),List.getElem?_append_right (by omega)]at hj
   exact h j v (by
    rw[List.append_assoc,List.getElem?_append_right (by omega),List.getElem?_append_right (by omega)]
    rw[hl]at hj;exact hj)
theorem blockUpd{w w':World}{b:Nat}{X m m' Y:List Value}(h:Block w b (X++m++Y))(hi:InBlk w w' ⟨b,X.length,none⟩ m.length m')(hl:m'.length=m.length):
  Block w' b (X++m'++Y):=by
 obtain⟨⟨e,h1⟩,h2,h3⟩:=h
 refine⟨⟨e,by rw[hi.1,h1];simp[hl]⟩,rangeUpd h2 (by simpa using hi) hl,fun j hj=> ?_⟩
 have:=hi.2.1 j
 simp only at this
 rw[this];exact h3 j (by simp at hj ⊢;omega)
theorem rowUpd{w w':World}{A:Addr}{X m m' Y:List Value}(h:RowAt w A (X++m++Y))(hi:InBlk w w' (A.plus X.length) m.length m')(hl:m'.length=m.length):
  RowAt w' A (X++m'++Y):=by
 obtain⟨h1,h2,h3⟩:=h
 refine⟨h1,rangeUpd h2 hi hl,fun j hj=> ?_⟩
 have:=hi.2.1 (A.off+j)
 simp only[Addr.plus]at this
 rw[this];exact h3 j (by simp at hj ⊢;omega)
theorem fits_sz{t t':Ty}(h:t.fits t'=true):t.sz=t'.sz:=by
 simp only[Ty.fits,Bool.or_eq_true]at h
 rcases h with h|h
 ·exact Ty.same_sz h
 ·cases t<;>cases t'<;>first|(cases h;done)|exact Nat.eq_of_beq_eq_true h
theorem Ty.same_refl:∀t:Ty,t.same t=true:=by
 intro t
 induction t with
 |pair a b iha ihb=>simp[Ty.same,iha,ihb]
 |arr n t ih=>simp[Ty.same,ih]
 |list o t ih=>simpa[Ty.same]using ih
 |ptr t ih=>simpa[Ty.same]using ih
 |gone n=>simp[Ty.same]
 |int k=>cases k<;>rfl
 |ti=>rfl
 |_=>rfl
theorem fits_refl(t:Ty):t.fits t=true:=by simp[Ty.fits,Ty.same_refl]
structure Stays (p q:Path) (s s':Spot):Prop where
 ad:s'.ad=s.ad
 same:(∀r,p≠q++r)→s'=s
 cells:∀r,p=q++r→noI r=false→cl s'.t s'.g=cl s.t s.g∧s'.t=s.t
 fits:s.t.isList=false→s'.t.isList=false
 list:∀te (gl:OwnL te.G),s=⟨.list true te,gl,s.ad⟩→∃gl':OwnL te.G,s'=⟨.list true te,gl',s.ad⟩∧gl'.ad=gl.ad∧gl'.cap=gl.cap∧gl'.rows.length=gl.rows.length
structure PutG (w:World) (KS:Nat→Prop) (t:Ty) (g:t.G) (ad:Option Addr) (p:Path) (s:Spot) (t':Ty) (g':t'.G) (T:Ty) (G:T.G) (dr:List Nat):Prop where
 sz:T.sz=t.sz
 szs:t'.sz=s.t.sz
 perm:(fp t g++fp t' g').Perm (fp T G++(fp s.t s.g++dr))
 out:noI p=true→∃pre post,cl t g=pre++cl s.t s.g++post∧s.ad=ad.map (Addr.plus · pre.length)∧cl T G=pre++cl t' g'++post
 inn:noI p=false→cl T G=cl t g
 ok:∀w' KS',(∀b,KS b→KS' b)→(∀b∈dr,KS' b)→okG w' KS' t' g'→(∀b,KS b→∀o,w'.cell? ⟨b,o,none⟩=w.cell? ⟨b,o,none⟩)→(fp t g).Nodup→
  (∀A,ad=some A→A.block∉fp t g)→(∀b∈fp t g,b∉fp s.t s.g→(∀B,s.ad=some B→B.block≠b)→Same w w' b)→
  (∀B,s.ad=some B→noI p=false→InBlk w w' B s.t.sz (cl t' g'))→okG w' KS' T G
 st1:∀q sq,loc t g ad q=some sq→(∀r,q≠p++r)→∃sq',loc T G ad q=some sq'∧Stays p q sq sq'
 st2:∃(t2:Ty) (g2:t2.G),(s.t.fits t2=true∧t'.same t2=true)∧cl t2 g2=cl t' g'∧∀r,loc T G ad (p++r)=loc t2 g2 s.ad r
 lst:∀te,t= .list true te→p≠[]→T=t
 innT:noI p=false→T=t
 pre:s.t=t'→cl t' g'=cl s.t s.g→∀q r sq,p=q++r→loc t g ad q=some sq→∃sq',loc T G ad q=some sq'∧sq'.t=sq.t∧cl sq'.t sq'.g=cl sq.t sq.g∧sq'.ad=sq.ad
theorem okG_frame'{w w':World}{KS KS':Nat→Prop}(hs:∀b,KS b→KS' b)(hk:∀b,KS b→∀o,w'.cell? ⟨b,o,none⟩=w.cell? ⟨b,o,none⟩){t:Ty}{g:t.G}(hf:∀b∈fp t g,Same w w' b)(h:okG w KS t g):okG w' KS' t g:=
 okG_KS hs _ _ (okG_frame hk _ _ hf h)
theorem LocG.where_{w:World}{KS:Nat→Prop}{t:Ty}{g:t.G}{ad:Option Addr}{p:Path}{s:Spot}(h:LocG w KS t g ad p s){B:Addr}(hB:s.ad=some B):
  (noI p=true∧∃A,ad=some A∧B.block=A.block)∨(noI p=false∧∃rest,(fp t g).Perm (fp s.t s.g++rest)∧B.block∈rest):=by
 cases hn:noI p with
 |true=>
  obtain⟨pre,post,_,e⟩:=h.out hn
  rw[hB]at e
  cases ad with
  |none=>cases e
  |some A=>simp at e;exact .inl ⟨rfl,A,rfl,by rw[e];rfl⟩
 |false=>
  obtain⟨rest,h1,h2⟩:=h.perm
  obtain⟨B',e,hb,_⟩:=h2 hn
  rw[hB]at e;cases e
  exact .inr ⟨rfl,rest,h1,hb⟩
theorem LocG.sub{w:World}{KS:Nat→Prop}{t:Ty}{g:t.G}{ad:Option Addr}{p:Path}{s:Spot}(h:LocG w KS t g ad p s):∀b∈fp s.t s.g,b∈fp t g:=by
 obtain⟨rest,h1,_⟩:=h.perm
 intro b hb;exact h1.mem_iff.2 (by simp[hb])
theorem LocG.in_{w:World}{KS:Nat→Prop}{t:Ty}{g:t.G}{ad:Option Addr}{p:Path}{s:Spot}(h:LocG w KS t g ad p s){B:Addr}(hB:s.ad=some B)(hn:noI p=false):B.block∈fp t g:=by
 rcases h.where_ hB with⟨h1,_⟩|⟨_,rest,h1,h2⟩
 ·rw[hn]at h1;cases h1
 ·exact h1.mem_iff.2 (by simp[h2])
theorem loc_nil(t:Ty)(g:t.G)(ad:Option Addr):loc t g ad []=some ⟨t,g,ad⟩:=by cases t<;>first|rfl|(rename_i o u;cases o<;>rfl)
theorem wr_nil(t:Ty)(x:t.D)(v:Dyn):wr t x [] v= .chk (t.fits v.1) (.ret v):=by cases t<;>rfl
theorem Stays.refl_of_ne{p q:Path}{s:Spot}(hn:∀r,p≠q++r):Stays p q s s:=
 ⟨rfl,fun _=>rfl,fun r h=>absurd h (hn r),fun h=>h,fun te gl e=>⟨gl,e,rfl,rfl,rfl⟩⟩
theorem Stays.cons{p q:Path}{s s':Spot}(x:Step)(h:Stays p q s s'):Stays (x::p) (x::q) s s':=
 ⟨h.ad,fun hn=>h.same fun r e=>hn r (by simp[e]),fun r e hr=>h.cells r (by simpa using e) hr,h.fits,h.list⟩
theorem putL{w:World}{KS:Nat→Prop}{a b:Ty}{g:(Ty.pair a b).G}{ad:Option Addr}{p:Path}{s:Spot}{t':Ty}{g':t'.G}{T:Ty}{G:T.G}{dr:List Nat}
  (P:PutG w KS a g.1 ad p s t' g' T G dr) (hL:LocG w KS a g.1 ad p s) (hok:okG w KS (.pair a b) g):PutG w KS (.pair a b) g ad (.L::p) s t' g' (.pair T b) (G,g.2) dr:=by
 refine⟨by simp[Ty.sz,P.sz],P.szs, ?_,fun hn=> ?_,fun hn=>by simp[cl,P.inn hn], ?_, ?_,P.st2,fun _ h=>(by cases h),fun hn=>by rw[P.innT hn],fun k1 k2 q r sq e hq=> ?_⟩
 rotate_left 4
 ·match q,e,hq with
  |[],e,hq=>
   rw[loc_nil]at hq;injection hq with hq;subst hq
   obtain⟨sq',j1,j2,j3,j4⟩:=P.pre k1 k2 [] p _ rfl (loc_nil _ _ _)
   rw[loc_nil]at j1;injection j1 with j1;subst j1
   exact⟨_,loc_nil _ _ _,congrArg (fun x=>Ty.pair x b) j2,congrArg (· ++cl b g.2) j3,rfl⟩
  | .L::q,e,hq=>exact P.pre k1 k2 q r sq (by simpa using e) hq
  | .R::q,e,hq=>simp at e
  | .I _::q,e,hq=>simp at e
  | .A _::q,e,hq=>simp at e
 ·have:=P.perm
  simp only[List.perm_iff_count,List.count_append,fp]at this ⊢
  intro x;have:=this x;omega
 ·obtain⟨pre,post,e1,e2,e3⟩:=P.out hn
  exact⟨pre,post++cl b g.2,by simp[cl,e1],e2,by simp[cl,e3]⟩
 ·intro w' KS' hs hd hg' hk hnd hA hS hI
  simp only[fp,List.nodup_append]at hnd hA hS
  obtain⟨n1,n2,n3⟩:=hnd
  refine⟨P.ok w' KS' hs hd hg' hk n1 (fun A hA' hm=>hA A hA' (by simp[hm])) (fun c hc=>hS c (by simp[hc])) hI, ?_⟩
  refine okG_frame' hs hk (fun c hc=>hS c (by simp[hc]) (fun hm=>n3 c (hL.sub c hm) c hc rfl) fun B hB hbc=> ?_) hok.2
  rcases hL.where_ hB with⟨_,A,hA1,hA2⟩|⟨hn,_⟩
  ·exact hA A hA1 (by rw[←hA2,hbc];simp[hc])
  ·exact n3 _ (hL.in_ hB hn) c hc hbc
 ·intro q sq hq hne
  match q,hq,hne with
  |[],hq,_=>
   rw[loc_nil]at hq;injection hq with hq;subst hq
   refine⟨_,loc_nil _ _ _,rfl,fun hn=>absurd rfl (hn _),fun r e hr=> ?_,fun h=>rfl,fun te gl e=>(by cases e)⟩
   have e':r= .L::p:=by simpa using e.symm
   rw[e']at hr
   exact⟨by simp[cl,P.inn hr],congrArg (fun x=>Ty.pair x b) (P.innT hr)⟩
  | .L::q,hq,hne=>
   obtain⟨sq',h1,h2⟩:=P.st1 q sq hq fun r e=>hne r (by simp[e])
   exact⟨sq',h1,h2.cons _⟩
  | .R::q,hq,_=>
   refine⟨sq, ?_,Stays.refl_of_ne fun r e=>by simp at e⟩
   simp only[loc,P.sz]at hq ⊢
   exact hq
  | .I _::q,hq,_=>cases hq
  | .A _::q,hq,_=>cases hq
theorem putR{w:World}{KS:Nat→Prop}{a b:Ty}{g:(Ty.pair a b).G}{ad:Option Addr}{p:Path}{s:Spot}{t':Ty}{g':t'.G}{T:Ty}{G:T.G}{dr:List Nat}
  (P:PutG w KS b g.2 (ad.map (Addr.plus · a.sz)) p s t' g' T G dr) (hL:LocG w KS b g.2 (ad.map (Addr.plus · a.sz)) p s) (hok:okG w KS (.pair a b) g):PutG w KS (.pair a b) g ad (.R::p) s t' g' (.pair a T) (g.1,G) dr:=by
 have hlen:=okG_len a g.1 hok.1
 refine⟨by simp[Ty.sz,P.sz],P.szs, ?_,fun hn=> ?_,fun hn=>by simp[cl,P.inn hn], ?_, ?_,P.st2,fun _ h=>(by cases h),fun hn=>by rw[P.innT hn],fun k1 k2 q r sq e hq=> ?_⟩
 rotate_left 4
 ·match q,e,hq with
  |[],e,hq=>
   rw[loc_nil]at hq;injection hq with hq;subst hq
   obtain⟨sq',j1,j2,j3,j4⟩:=P.pre k1 k2 [] p _ rfl (loc_nil _ _ _)
   rw[loc_nil]at j1;injection j1 with j1;subst j1
   exact⟨_,loc_nil _ _ _,congrArg (fun x=>Ty.pair a x) j2,congrArg (cl a g.1++ ·) j3,rfl⟩
  | .R::q,e,hq=>exact P.pre k1 k2 q r sq (by simpa using e) hq
  | .L::q,e,hq=>simp at e
  | .I _::q,e,hq=>simp at e
  | .A _::q,e,hq=>simp at e
 ·have:=P.perm
  simp only[List.perm_iff_count,List.count_append,fp]at this ⊢
  intro x;have:=this x;omega
 ·obtain⟨pre,post,e1,e2,e3⟩:=P.out hn
  refine⟨cl a g.1++pre,post,by simp[cl,e1], ?_,by simp[cl,e3]⟩
  rw[e2]
  cases ad with
  |none=>rfl
  |some A=>simp[plus_plus,hlen]
 ·intro w' KS' hs hd hg' hk hnd hA hS hI
  simp only[fp,List.nodup_append]at hnd hA hS
  obtain⟨n1,n2,n3⟩:=hnd
  have hA':∀A,ad.map (Addr.plus · a.sz)=some A→A.block∉fp b g.2:=fun A hA1 hm=>by
   cases ad with
   |none=>cases hA1
   |some A'=>simp at hA1;subst hA1;exact hA A' rfl (by simpa[Addr.plus]using .inr hm)
  refine⟨?_,P.ok w' KS' hs hd hg' hk n2 hA' (fun c hc=>hS c (by simp[hc])) hI⟩
  refine okG_frame' hs hk (fun c hc=>hS c (by simp[hc]) (fun hm=>n3 c hc c (hL.sub c hm) rfl) fun B hB hbc=> ?_) hok.1
  rcases hL.where_ hB with⟨_,A,hA1,hA2⟩|⟨hn,_⟩
  ·cases ad with
   |none=>cases hA1
   |some A'=>simp at hA1;subst hA1;exact hA A' rfl (by rw[←hbc]at hc;rw[hA2]at hc;simpa[Addr.plus]using .inl hc)
  ·exact n3 c hc _ (hL.in_ hB hn) hbc.symm
 ·intro q sq hq hne
  match q,hq,hne with
  |[],hq,_=>
   rw[loc_nil]at hq;injection hq with hq;subst hq
   refine⟨_,loc_nil _ _ _,rfl,fun hn=>absurd rfl (hn _),fun r e hr=> ?_,fun h=>rfl,fun te gl e=>(by cases e)⟩
   have e':r= .R::p:=by simpa using e.symm
   rw[e']at hr
   exact⟨by simp[cl,P.inn hr],congrArg (fun x=>Ty.pair a x) (P.innT hr)⟩
  | .R::q,hq,hne=>
   obtain⟨sq',h1,h2⟩:=P.st1 q sq hq fun r e=>hne r (by simp[e])
   exact⟨sq',h1,h2.cons _⟩
  | .L::q,hq,_=>exact⟨sq,hq,Stays.refl_of_ne fun r e=>by simp at e⟩
  | .I _::q,hq,_=>cases hq
  | .A _::q,hq,_=>cases hq
theorem putS {w : World} {KS : Nat → Prop} : ∀ (p : Path) (t : Ty) (g : t.G) (ad : Option Addr) (s : Spot) (t' : Ty) (g' : t'.G) (z : t.D), loc t g ad p = some s → (∀ A, ad = some A → A.spot = none) → okG w KS t g →
  (wrS t (er t g) p ⟨t', er t' g'⟩).run = some z → ∃ (G : t.G) (dr : List Nat), er t G = z ∧ PutG w KS t g ad p s t' g' t G dr
 | [], t, g, ad, s, t', g', z, hl, hsp, hok, hw => by
  rw [loc_nil] at hl; injection hl with hl; subst hl
  have hw' : (Cm.get t (conv t' t (er t' g')) .ret).run = some z := by cases t <;> exact hw
  obtain ⟨y, hy, hw'⟩ := Cm.run_get hw'
  injection hw' with hw'; subst hw'
  obtain ⟨hsub, hyy⟩ := conv_some hy
  obtain ⟨G, dr, C⟩ := convG hsub g'
  have hs := Ty.same_sz (Ty.sub_same hsub)
  refine ⟨G, dr, by rw [C.er, hyy], rfl, hs, ?_, fun _ => ⟨[], [], by simp, ?_, by simp [C.cl]⟩, fun h => (by cases h), fun w' KS' hs' hd hg' _ _ _ _ _ => C.ok w' KS' KS' (fun _ h => h) hd hg', fun q sq _ hq => absurd rfl (hq q), ⟨t, G, ⟨fits_refl t, Ty.sub_same hsub⟩, C.cl, fun r => rfl⟩, fun _ _ _ => rfl, fun _ => rfl, fun k1 k2 q r sq e hq => ?_⟩
  rotate_left 2
  ·match q, e, hq with
   | [], e, hq =>
    rw [loc_nil] at hq; injection hq with hq; subst hq
    exact ⟨_, loc_nil _ _ _, rfl, C.cl.trans k2, rfl⟩
   | _ :: _, e, hq => cases e
  ·have p2 := C.perm
   simp only [List.perm_iff_count, List.count_append] at p2 ⊢
   intro x; have := p2 x; omega
  ·cases ad with
   | none => rfl
   | some A => simp [plus_zero (hsp A rfl)]
 | .L :: p, t, g, ad, s, t', g', z, hl, hsp, hok, hw => by
  cases t <;> first | (cases hl; done) | skip
  rename_i a b
  obtain ⟨d, hd, hw⟩ := Cm.run_bind_some hw
  injection hw with hw; subst hw
  obtain ⟨G, dr, e, P⟩ := putS p a g.1 ad s t' g' d hl hsp hok.1 hd
  exact ⟨(G, g.2), dr, by simp [er, e], putL P (locG p a g.1 ad s hl hsp hok.1) hok⟩
 | .R :: p, t, g, ad, s, t', g', z, hl, hsp, hok, hw => by
  cases t <;> first | (cases hl; done) | skip
  rename_i a b
  obtain ⟨d, hd, hw⟩ := Cm.run_bind_some hw
  injection hw with hw; subst hw
  have hsp' : ∀ A, ad.map (Addr.plus · a.sz) = some A → A.spot = none := fun A hA => by
   cases ad with
   | none => cases hA
   | some A' => simp at hA; subst hA; rfl
  obtain ⟨G, dr, e, P⟩ := putS p b g.2 _ s t' g' d hl hsp' hok.2 hd
  exact ⟨(g.1, G), dr, by simp [er, e], putR P (locG p b g.2 _ s hl hsp' hok.2) hok⟩
 | .I i :: p, t, g, ad, s, t', g', z, hl, hsp, hok, hw => by
  cases t <;> first | (cases hl; done) | skip
  rename_i o u
  cases o with
  | false => cases hl
  | true =>
  obtain ⟨y, hy, hw⟩ := Cm.run_get hw
  obtain ⟨d, hd, hw⟩ := Cm.run_bind_some hw
  injection hw with hw; subst hw
  simp only [loc] at hl
  simp only [er, List.getElem?_map, Option.map_eq_some_iff] at hy
  obtain ⟨r, hr, rfl⟩ := hy
  rw [hr] at hl
  simp only at hl
  obtain ⟨l1, l2, e, hi, hset⟩ := split_at hr
  rcases hok with ⟨_, h0⟩ | ⟨b, rest, h1, h2, h3, h4, h5, h6⟩
  ·rw [h0] at hr; simp at hr
  have hne : g.cap ≠ 0 := by omega
  have hsp' : ∀ A, g.ad.map (Addr.plus · (i * u.sz)) = some A → A.spot = none := fun A hA => by
   rw [h1] at hA; simp at hA; subst hA; rfl
  have hokr := h6 r (by simp [e])
  have hL := locG p u r _ s hl hsp' hokr
  obtain ⟨G2, d1, e1, P⟩ := putS p u r _ s t' g' d hl hsp' hokr hd
  obtain ⟨hc, hlen⟩ := flat_split e hi h6
  have hfp : fp (.list true u) g = b :: g.rows.flatMap (fp u) := by simp [fp, h1, hne]
  have hfp' : fp (.list true u) ⟨g.ad, g.cap, l1 ++ G2 :: l2⟩ = b :: (l1 ++ G2 :: l2).flatMap (fp u) := by simp [fp, h1, hne]
  have hlen2 : l1.length = i ∧ (l1 ++ G2 :: l2)[i]? = some G2 := ⟨hi, by rw [List.getElem?_append_right (by omega)]; simp [hi]⟩
  refine ⟨⟨g.ad, g.cap, l1 ++ G2 :: l2⟩, d1, ?_, rfl, P.szs, ?_, fun hn => (by cases hn), fun _ => by simp [cl, e], ?_, ?_, ?_, fun _ _ _ => rfl, fun _ => rfl, fun k1 k2 q r' sq e' hq => ?_⟩
  rotate_left 5
  ·match q, e', hq with
   | [], e', hq =>
    rw [loc_nil] at hq; injection hq with hq; subst hq
    exact ⟨_, loc_nil _ _ _, rfl, by simp [cl, e], rfl⟩
   | .I j :: q, e', hq =>
    simp only [List.cons_append, List.cons.injEq, Step.I.injEq] at e'
    obtain ⟨rfl, e'⟩ := e'
    simp only [loc, hr] at hq
    obtain ⟨sq', j1, j2⟩ := P.pre k1 k2 q r' sq e' hq
    exact ⟨sq', by simp only [loc, hlen2.2]; exact j1, j2⟩
   | .L :: q, e', hq => simp at e'
   | .R :: q, e', hq => simp at e'
   | .A _ :: q, e', hq => simp at e'
  ·show (l1 ++ G2 :: l2).map (er u) = (g.rows.map (er u)).set i d
   rw [← e1, ← List.map_set, hset]
  ·have p1 := P.perm
   rw [hfp, hfp', e]
   simp only [List.perm_iff_count, List.count_append, List.flatMap_append, List.flatMap_cons, List.count_cons] at p1 ⊢
   intro x; have := p1 x; omega
  ·intro w' KS' hs hdr hg' hk hnd hA hS hI
   rw [hfp] at hnd hS hA
   obtain ⟨hnb, hnd⟩ := List.nodup_cons.1 hnd
   rw [e] at hnb hnd hS hA
   simp only [List.flatMap_append, List.flatMap_cons, List.nodup_append, List.mem_append] at hnb hnd
   obtain ⟨n1, ⟨n2, n3, n4⟩, n5⟩ := hnd
   have hmem : ∀ c, c ∈ l1.flatMap (fp u) ∨ c ∈ fp u r ∨ c ∈ l2.flatMap (fp u) → c ∈ b :: (l1 ++ r :: l2).flatMap (fp u) := fun c hc => by simpa using .inr (by simpa using hc)
   have hbl : ∀ B, s.ad = some B → (noI p = true ∧ B.block = b) ∨ (noI p = false ∧ B.block ∈ fp u r) := fun B hB => by
    rcases hL.where_ hB with ⟨hn, A, hA1, hA2⟩ | ⟨hn, _⟩
    ·rw [h1] at hA1; simp at hA1; subst hA1; exact .inl ⟨hn, hA2⟩
    ·exact .inr ⟨hn, hL.in_ hB hn⟩
   have okr : okG w' KS' u G2 := by
    refine P.ok w' KS' hs hdr hg' hk n2 (fun A hA1 hm => ?_) (fun c hc hn hB => hS c (hmem c (by simp [hc])) hn hB) (fun B hB hn => hI B hB rfl)
    rw [h1] at hA1; simp at hA1; subst hA1; exact hnb (.inr (.inl (by simpa [Addr.plus] using hm)))
   have oks : ∀ x, x ∈ l1 ∨ x ∈ l2 → okG w' KS' u x := fun x hx => by
    refine okG_frame' hs hk (fun c hc => ?_) (h6 x (by rw [e]; rcases hx with h | h <;> simp [h]))
    have hc' : c ∈ l1.flatMap (fp u) ∨ c ∈ l2.flatMap (fp u) := hx.imp (fun h => List.mem_flatMap.2 ⟨x, h, hc⟩) (fun h => List.mem_flatMap.2 ⟨x, h, hc⟩)
    have hnr : c ∉ fp u r := fun hm => by
     rcases hc' with h | h
     ·exact n5 c h c (by simp [hm]) rfl
     ·exact n4 c hm c h rfl
    refine hS c (hmem c (by rcases hc' with h | h <;> simp [h])) (fun hm => hnr (hL.sub c hm)) fun B hB hbc => ?_
    rcases hbl B hB with ⟨_, h⟩ | ⟨_, h⟩
    ·rw [hbc] at h; subst h; exact hnb (by rcases hc' with h | h <;> simp [h])
    ·rw [hbc] at h; exact hnr h
   have hblk : Block w' b ((l1 ++ G2 :: l2).flatMap (cl u) ++ rest) := by
    simp only [List.flatMap_append, List.flatMap_cons]
    cases hn : noI p with
    | true =>
     obtain ⟨pre, post, q1, q2, q3⟩ := P.out hn
     rw [h1] at q2
     have := hI _ q2 rfl
     have hl' : (cl t' g').length = s.t.sz := by rw [okG_len _ _ hg', P.szs]
     have hl2 : (cl s.t s.g).length = s.t.sz := okG_len _ _ hL.ok
     have hb : Block w b ((l1.flatMap (cl u) ++ pre) ++ cl s.t s.g ++ (post ++ l2.flatMap (cl u) ++ rest)) := by
      rw [show (l1.flatMap (cl u) ++ pre) ++ cl s.t s.g ++ (post ++ l2.flatMap (cl u) ++ rest) = g.rows.flatMap (cl u) ++ rest by rw [hc, q1]; simp]
      exact h4
     have := blockUpd (m' := cl t' g') hb (by simpa [Addr.plus, hlen, hl2] using this) (by rw [hl', hl2])
     rw [q3]
     simpa using this
    | false =>
     rw [P.inn hn]
     have hsame : Same w w' b := hS b (by simp) (fun hm => hnb (by simp [hL.sub b hm])) fun B hB hbc => by
      rcases hbl B hB with ⟨h, _⟩ | ⟨_, h⟩
      ·rw [hn] at h; cases h
      ·rw [hbc] at h; exact hnb (by simp [h])
     have := hsame.block h4
     rw [hc] at this
     simpa using this
   refine .inr ⟨b, rest, h1, h2, by simpa [e] using h3, hblk, ?_, ?_⟩
   ·have q : (cl u G2).length = (cl u r).length := by
     rw [okG_len _ _ okr, okG_len _ _ hokr]
    rw [← h5, hc]
    simp only [List.flatMap_append, List.flatMap_cons, List.length_append, q]
    omega
   ·intro x hx
    rcases List.mem_append.1 hx with h | h
    ·exact oks x (.inl h)
    ·rcases List.mem_cons.1 h with rfl | h
     ·exact okr
     ·exact oks x (.inr h)
  ·intro q sq hq hne2
   match q, hq, hne2 with
   | [], hq, _ =>
    rw [loc_nil] at hq; injection hq with hq; subst hq
    refine ⟨_, loc_nil _ _ _, rfl, fun hn => absurd rfl (hn _), fun r' e' hr' => ⟨by simp [cl, e], rfl⟩, fun h => h, fun te gl eq => ?_⟩
    cases eq
    exact ⟨_, rfl, rfl, rfl, by simp [e]⟩
   | .I j :: q, hq, hne2 =>
    by_cases hij : j = i
    ·subst hij
     simp only [loc, hr] at hq
     obtain ⟨sq', q1, q2⟩ := P.st1 q sq hq fun r' e' => hne2 r' (by simp [e'])
     exact ⟨sq', by simp only [loc, hlen2.2]; exact q1, q2.cons _⟩
    ·refine ⟨sq, ?_, Stays.refl_of_ne fun r' e' => by simp at e'; exact hij e'.1.symm⟩
     rw [← hset G2]
     simp only [loc] at hq ⊢
     rw [List.getElem?_set_ne (by omega)]
     exact hq
   | .L :: q, hq, _ => cases hq
   | .R :: q, hq, _ => cases hq
   | .A _ :: q, hq, _ => cases hq
  ·obtain ⟨t2, g2, q1, q2, q3⟩ := P.st2
   exact ⟨t2, g2, q1, q2, fun r' => by simp only [List.cons_append, loc, hlen2.2]; exact q3 r'⟩
 | .A i :: p, t, g, ad, s, t', g', z, hl, hsp, hok, hw => by
  cases t <;> first | (cases hl; done) | skip
  rename_i n u
  obtain ⟨y, hy, hw⟩ := Cm.run_get hw
  obtain ⟨d, hd, hw⟩ := Cm.run_bind_some hw
  injection hw with hw; subst hw
  simp only [loc] at hl
  simp only [er, List.getElem?_map, Option.map_eq_some_iff] at hy
  obtain ⟨r, hr, rfl⟩ := hy
  rw [hr] at hl
  simp only at hl
  obtain ⟨l1, l2, e, hi, hset⟩ := split_at hr
  obtain ⟨hn, h6⟩ := hok
  have hsp' : ∀ A, ad.map (Addr.plus · (i * u.sz)) = some A → A.spot = none := fun A hA => by
   cases ad with
   | none => cases hA
   | some A' => simp at hA; subst hA; rfl
  have hokr := h6 r (by rw [e]; simp)
  have hL := locG p u r _ s hl hsp' hokr
  obtain ⟨G2, d1, e1, P⟩ := putS p u r _ s t' g' d hl hsp' hokr hd
  obtain ⟨hc, hlen⟩ := flat_split e hi h6
  have hlen2 : l1.length = i ∧ (l1 ++ G2 :: l2)[i]? = some G2 := ⟨hi, by rw [List.getElem?_append_right (by omega)]; simp [hi]⟩
  refine ⟨(l1 ++ G2 :: l2 : List u.G), d1, ?_, rfl, P.szs, ?_, fun hn => ?_, fun hn => ?_, ?_, ?_, ?_, fun _ h => (by cases h), fun _ => rfl, fun k1 k2 q r' sq e' hq => ?_⟩
  rotate_left 7
  ·match q, e', hq with
   | [], e', hq =>
    rw [loc_nil] at hq; injection hq with hq; subst hq
    obtain ⟨sq', j1, j2, j3, j4⟩ := P.pre k1 k2 [] p _ rfl (loc_nil _ _ _)
    rw [loc_nil] at j1; injection j1 with j1; subst j1
    refine ⟨_, loc_nil _ _ _, rfl, ?_, rfl⟩
    simp only [cl, List.flatMap_append, List.flatMap_cons]
    rw [hc]
    exact (congrArg (fun x => l1.flatMap (cl u) ++ (x ++ l2.flatMap (cl u))) j3).trans (by simp)
   | .A j :: q, e', hq =>
    simp only [List.cons_append, List.cons.injEq, Step.A.injEq] at e'
    obtain ⟨rfl, e'⟩ := e'
    simp only [loc, hr] at hq
    obtain ⟨sq', j1, j2⟩ := P.pre k1 k2 q r' sq e' hq
    exact ⟨sq', by simp only [loc, hlen2.2]; exact j1, j2⟩
   | .L :: q, e', hq => simp at e'
   | .R :: q, e', hq => simp at e'
   | .I _ :: q, e', hq => simp at e'
  ·show (l1 ++ G2 :: l2).map (er u) = (List.map (er u) g).set i d
   rw [← e1, ← List.map_set, hset]
  ·have p1 := P.perm
   simp only [fp]
   rw [e]
   simp only [List.perm_iff_count, List.count_append, List.flatMap_append, List.flatMap_cons] at p1 ⊢
   intro x; have := p1 x; omega
  ·obtain ⟨pre, post, q1, q2, q3⟩ := P.out hn
   refine ⟨l1.flatMap (cl u) ++ pre, post ++ l2.flatMap (cl u), by simp only [cl]; rw [hc, q1]; simp, ?_, ?_⟩
   ·rw [q2]
    cases ad with
    | none => rfl
    | some A => simp [plus_plus, hlen]
   ·simp only [cl, List.flatMap_append, List.flatMap_cons, q3]; simp
  ·simp only [cl, List.flatMap_append, List.flatMap_cons, P.inn hn]
   rw [hc]; simp
  ·intro w' KS' hs hdr hg' hk hnd hA hS hI
   simp only [fp] at hnd hS hA
   rw [e] at hnd hS hA
   simp only [List.flatMap_append, List.flatMap_cons, List.nodup_append] at hnd
   obtain ⟨n1, ⟨n2, n3, n4⟩, n5⟩ := hnd
   have hmem : ∀ c, c ∈ l1.flatMap (fp u) ∨ c ∈ fp u r ∨ c ∈ l2.flatMap (fp u) → c ∈ (l1 ++ r :: l2).flatMap (fp u) := fun c hc => by simpa using hc
   have hbl : ∀ B, s.ad = some B → (B.block ∉ (l1 ++ r :: l2).flatMap (fp u)) ∨ B.block ∈ fp u r := fun B hB => by
    rcases hL.where_ hB with ⟨hn, A, hA1, hA2⟩ | ⟨hn, _⟩
    ·cases ad with
     | none => cases hA1
     | some A' => simp at hA1; subst hA1; exact .inl (by rw [hA2]; exact hA A' rfl)
    ·exact .inr (hL.in_ hB hn)
   have okr : okG w' KS' u G2 := by
    refine P.ok w' KS' hs hdr hg' hk n2 (fun A hA1 hm => ?_) (fun c hc hn hB => hS c (hmem c (by simp [hc])) hn hB) (fun B hB hn => hI B hB hn)
    cases ad with
    | none => cases hA1
    | some A' => simp at hA1; subst hA1; exact hA A' rfl (hmem _ (by simpa [Addr.plus] using .inr (.inl hm)))
   have oks : ∀ x, x ∈ l1 ∨ x ∈ l2 → okG w' KS' u x := fun x hx => by
    refine okG_frame' hs hk (fun c hc => ?_) (h6 x (by rw [e]; rcases hx with h | h <;> simp [h]))
    have hc' : c ∈ l1.flatMap (fp u) ∨ c ∈ l2.flatMap (fp u) := hx.imp (fun h => List.mem_flatMap.2 ⟨x, h, hc⟩) (fun h => List.mem_flatMap.2 ⟨x, h, hc⟩)
    have hnr : c ∉ fp u r := fun hm => by
     rcases hc' with h | h
     ·exact n5 c h c (by simp [hm]) rfl
     ·exact n4 c hm c h rfl
    have hcm := hmem c (by rcases hc' with h | h <;> simp [h])
    refine hS c hcm (fun hm => hnr (hL.sub c hm)) fun B hB hbc => ?_
    rcases hbl B hB with h | h
    ·rw [hbc] at h; exact h hcm
    ·rw [hbc] at h; exact hnr h
   refine ⟨by rw [← hn, e]; simp, ?_⟩
   intro x hx
   rcases List.mem_append.1 hx with h | h
   ·exact oks x (.inl h)
   ·rcases List.mem_cons.1 h with rfl | h
    ·exact okr
    ·exact oks x (.inr h)
  ·intro q sq hq hne2
   match q, hq, hne2 with
   | [], hq, _ =>
    rw [loc_nil] at hq; injection hq with hq; subst hq
    refine ⟨_, loc_nil _ _ _, rfl, fun hn => absurd rfl (hn _), fun r' e' hr' => ?_, fun h => h, fun te gl eq => (by cases eq)⟩
    have e' : r' = .A i :: p := by simpa using e'.symm
    rw [e'] at hr'
    refine ⟨?_, rfl⟩
    simp only [cl, List.flatMap_append, List.flatMap_cons, P.inn hr']
    rw [hc]; simp
   | .A j :: q, hq, hne2 =>
    by_cases hij : j = i
    ·subst hij
     simp only [loc, hr] at hq
     obtain ⟨sq', q1, q2⟩ := P.st1 q sq hq fun r' e' => hne2 r' (by simp [e'])
     exact ⟨sq', by simp only [loc, hlen2.2]; exact q1, q2.cons _⟩
    ·refine ⟨sq, ?_, Stays.refl_of_ne fun r' e' => by simp at e'; exact hij e'.1.symm⟩
     rw [← hset G2]
     simp only [loc] at hq ⊢
     rw [List.getElem?_set_ne (by omega)]
     exact hq
   | .L :: q, hq, _ => cases hq
   | .R :: q, hq, _ => cases hq
   | .I _ :: q, hq, _ => cases hq
  ·obtain ⟨t2, g2, q1, q2, q3⟩ := P.st2
   exact ⟨t2, g2, q1, q2, fun r' => by simp only [List.cons_append, loc, hlen2.2]; exact q3 r'⟩
theorem wr_I(t:Ty)(x:t.D)(i:Nat)(p:Path)(v:Dyn):wr t x (.I i::p) v=(wrS t x (.I i::p) v).bind fun y=> .ret ⟨t,y⟩:=by cases t<;>rfl
theorem wr_A(t:Ty)(x:t.D)(i:Nat)(p:Path)(v:Dyn):wr t x (.A i::p) v=(wrS t x (.A i::p) v).bind fun y=> .ret ⟨t,y⟩:=by cases t<;>rfl
theorem putG{w:World}{KS:Nat→Prop}:∀(p:Path) (t:Ty) (g:t.G) (ad:Option Addr) (s:Spot) (t':Ty) (g':t'.G) (z:Dyn),loc t g ad p=some s→(∀A,ad=some A→A.spot=none)→okG w KS t g→
  (wr t (er t g) p ⟨t',er t' g'⟩).run=some z→∃(G:z.1.G) (dr:List Nat),er z.1 G=z.2∧PutG w KS t g ad p s t' g' z.1 G dr
 |[],t,g,ad,s,t',g',z,hl,hsp,hok,hw=>by
  rw[loc_nil]at hl;injection hl with hl;subst hl
  rw[wr_nil]at hw
  obtain⟨hf,hw⟩:=Cm.run_chk hw
  injection hw with hw;subst hw
  refine⟨g',[],rfl,(fits_sz hf).symm,(fits_sz hf).symm,by simpa using List.perm_append_comm,fun _=>⟨[],[],by simp, ?_,by simp⟩,fun h=>(by cases h),fun _ _ _ _ h _ _ _ _ _=>h,fun q sq _ hq=>absurd rfl (hq q),⟨t',g',⟨hf,Ty.same_refl _⟩,rfl,fun r=>rfl⟩,fun _ _ h=>absurd rfl h,fun h=>(by cases h),fun k1 k2 q r sq e hq=> ?_⟩
  rotate_left 1
  ·match q,e,hq with
   |[],e,hq=>
    rw[loc_nil]at hq;injection hq with hq;subst hq
    exact⟨_,loc_nil _ _ _,k1.symm,k2,rfl⟩
   |_::_,e,hq=>cases e
  cases ad with
  |none=>rfl
  |some A=>simp[plus_zero (hsp A rfl)]
 | .L::p,t,g,ad,s,t',g',z,hl,hsp,hok,hw=>by
  cases t<;>first|(cases hl;done)|skip
  rename_i a b
  obtain⟨d,hd,hw⟩:=Cm.run_bind_some hw
  injection hw with hw;subst hw
  obtain⟨G,dr,e,P⟩:=putG p a g.1 ad s t' g' d hl hsp hok.1 hd
  exact⟨(G,g.2),dr,by simp[er,e],putL P (locG p a g.1 ad s hl hsp hok.1) hok⟩
 | .R::p,t,g,ad,s,t',g',z,hl,hsp,hok,hw=>by
  cases t<;>first|(cases hl;done)|skip
  rename_i a b
  obtain⟨d,hd,hw⟩:=Cm.run_bind_some hw
  injection hw with hw;subst hw
  have hsp':∀A,ad.map (Addr.plus · a.sz)=some A→A.spot=none:=fun A hA=>by
   cases ad with
   |none=>cases hA
   |some A'=>simp at hA;subst hA;rfl
  obtain⟨G,dr,e,P⟩:=putG p b g.2 _ s t' g' d hl hsp' hok.2 hd
  exact⟨(g.1,G),dr,by simp[er,e],putR P (locG p b g.2 _ s hl hsp' hok.2) hok⟩
 | .I i::p,t,g,ad,s,t',g',z,hl,hsp,hok,hw=>by
  rw[wr_I]at hw
  obtain⟨y,hy,hw⟩:=Cm.run_bind_some hw
  injection hw with hw;subst hw
  exact putS _ _ _ _ _ _ _ _ hl hsp hok hy
 | .A i::p,t,g,ad,s,t',g',z,hl,hsp,hok,hw=>by
  rw[wr_A]at hw
  obtain⟨y,hy,hw⟩:=Cm.run_bind_some hw
  injection hw with hw;subst hw
  exact putS _ _ _ _ _ _ _ _ hl hsp hok hy
end
section
def val:Ty→List Value→Value
 | .unit,cs| .pair _ _,cs| .arr _ _,cs| .gone _,cs=> .agg cs.toArray
 |_,cs=>cs.headD undef
structure GRoot where
 ad:Option Addr
 t:Ty
 g:t.G
structure GEnv where
 gr:Nat→Option GRoot
 ala:Nat→Addr--where an alias's own cells lie
 pv:Nat→Value--what a pending append has made
 pb:Nat→List Nat--and its blocks
def hasData(ρ:Roots)(n:Nat):Prop:=∃re t x pd,getB ρ n=some (.data re t x pd)
def spotD(e:GEnv)(p:Place):Option Spot:=(e.gr p.r).bind fun G=>loc G.t G.g G.ad p.π
def spotOf(ρ:Roots)(e:GEnv)(p:Place):Option Spot:=
 match getB ρ p.r with
 |some (.data _ _ _ _)=>spotD e p
 |some (.al q)=>if noI p.π then(spotD e q).bind fun s=>loc s.t s.g (some (e.ala p.r)) p.π else none
 |none=>none
mutual
def RVok (w : World) (KS : Nat → Prop) (ρ : Roots) (e : GEnv) : RV → Value → Prop
 | .und, _ => True
 | .skipped, v => v = undef
 | .v t x, v => t.shared = true ∧ ∃ cs, RepK w KS t x cs ∧ v = val t cs
 | .nl, v => v = .slice none 0 0
 | .pn, v => v = .pointer none
 | .wl p, v => hasData ρ p.r ∧ ∃ te, ∃ g : OwnL te.G, ∃ ad, spotD e p = some ⟨.list true te, g, ad⟩ ∧ v = .slice g.ad g.rows.length g.cap
 | .vw p lo len, v => hasData ρ p.r ∧ ∃ te, ∃ g : OwnL te.G, ∃ ad, spotD e p = some ⟨.list true te, g, ad⟩ ∧ lo + len ≤ g.rows.length ∧
   ∃ ad', (g.cap ≠ lo → ad' = g.ad.map (Addr.plus · (lo * te.sz))) ∧ v = .slice ad' len (g.cap - lo)
 | .sv p, v => hasData ρ p.r ∧ ∃ s, spotD e p = some s ∧ s.t.isList = false ∧ v = val s.t (cl s.t s.g)
 | .rf p, v => ∃ s A, spotOf ρ e p = some s ∧ s.ad = some A ∧ v = .pointer (some A)
 | .ap p, v => (∃ re t x pe, getB ρ p.r = some (.data re t x (some pe))) ∧ v = e.pv p.r
 | .fn f caps, v => ∃ vs : List Value, v = .func (.func f) #[] vs.toArray ∧ RVoks w KS ρ e caps vs
 | .fb f caps, v => ∃ (a : Addr) (vs : List Value), v = .pointer (some a) ∧ a.spot = none ∧ KS a.block ∧ w.cell? ⟨a.block, a.off, none⟩ = some (.func (.func f) #[] vs.toArray) ∧ RVoks w KS ρ e caps vs
 | .tp l, v => ∃ vs : List Value, v = .tuple vs.toArray ∧ RVoks w KS ρ e l vs
def RVoks(w:World)(KS:Nat→Prop)(ρ:Roots)(e:GEnv):List RV→List Value→Prop
 |[],vs=>vs=[]
 |x::xs,vs=>∃v vs',vs=v::vs'∧RVok w KS ρ e x v∧RVoks w KS ρ e xs vs'
end
def PendOK(w:World)(KS:Nat→Prop)(G:GRoot)(pv:Value)(pb:List Nat)(π:Path)(te:Ty)(m:List te.D):Prop:=
 ∃tl,∃gl:OwnL tl.G,∃ad,loc G.t G.g G.ad π=some ⟨.list true tl,gl,ad⟩∧∃mr:List te.G,mr.map (er te)=m∧(∀r∈mr,okG w KS te r)∧te.sz=tl.sz∧
  ((gl.cap=0∧m=[]∧pv= .slice gl.ad 0 0∧pb=[])∨
  (∃b rest,gl.ad=some ⟨b,0,none⟩∧pv= .slice gl.ad (gl.rows.length+m.length) gl.cap∧0<gl.cap∧gl.rows.length+m.length≤gl.cap∧
    Block w b (gl.rows.flatMap (cl tl)++mr.flatMap (cl te)++rest)∧(gl.rows.flatMap (cl tl)++mr.flatMap (cl te)++rest).length=gl.cap*tl.sz∧pb=mr.flatMap (fp te))∨
  (∃b rest cap,pv= .slice (some ⟨b,0,none⟩) (gl.rows.length+m.length) cap∧0<gl.rows.length+m.length∧gl.rows.length+m.length≤cap∧
    Block w b (gl.rows.flatMap (cl tl)++mr.flatMap (cl te)++rest)∧(gl.rows.flatMap (cl tl)++mr.flatMap (cl te)++rest).length=cap*tl.sz∧pb=b::mr.flatMap (fp te)))
def RootOK(w:World)(KS:Nat→Prop)(ρ:Roots)(e:GEnv)(n:Nat):Prop:=
 match getB ρ n with
 |none=>True
 |some (.data re t x pd)=>∃ad g,e.gr n=some ⟨ad,t,g⟩∧er t g=x∧okG w KS t g∧(re=true→∃A,ad=some A∧RowAt w A (cl t g))∧(re=false→ad=none)∧
   (match pd with
    |none=>e.pb n=[]
    |some (π,⟨te,m⟩)=>PendOK w KS ⟨ad,t,g⟩ (e.pv n) (e.pb n) π te m)
 |some (.al q)=>hasData ρ q.r∧∃s,spotD e q=some s∧RowAt w (e.ala n) (cl s.t s.g)
def blk(ρ:Roots)(e:GEnv)(n:Nat):List Nat:=
 match getB ρ n with
 |none=>[]
 |some (.data _ _ _ _)=>match e.gr n with
  |some G=>(G.ad.map (·.block)).toList++fp G.t G.g++e.pb n
  |none=>[]
 |some (.al _)=>[(e.ala n).block]
structure Ctx where
 w0:World
 K0:Nat→Prop--blocks that were read-only from the start
 FB:Nat→Prop--blocks that were handed over
 FT:Nat→Nat→Prop--cells that were handed over
 pin:Nat→Option Addr--where in-out variables lie
 hdr:Nat→Option (Option Addr×Nat×Nat)--headers of in-out slices
structure Frame' (w0 w:World) (FB:Nat→Prop) (FT:Nat→Nat→Prop):Prop where
 size:Grew w0 w
 keep:∀b,b<w0.heap.size→¬FB b→w.shape? b=w0.shape? b∧(∀o,w.frozen? ⟨b,o,none⟩=w0.frozen? ⟨b,o,none⟩)∧(∀o,¬FT b o→w.cell? ⟨b,o,none⟩=w0.cell? ⟨b,o,none⟩)∧Kin w0 w b
abbrev Fs:=List (Regs×Act)
structure Inv (c:Ctx) (KS:Nat→Prop) (e:GEnv) (F:Fs) (ρ:Roots) (w:World):Prop where
 regs:∀p∈F,∀t,RVok w KS ρ e (getR p.1 t) (p.2.eval (.tmp t))
 roots:∀n,RootOK w KS ρ e n
 nd:∀n,(blk ρ e n).Nodup
 dj:∀n m,n≠m→∀b∈blk ρ e n,b∉blk ρ e m
 ks:∀n,∀b∈blk ρ e n,¬KS b
 lt:∀b,KS b→b<w.heap.size
 blt:∀n,∀b∈blk ρ e n,b<w.heap.size
 may:∀n,∀b∈blk ρ e n,c.w0.heap.size≤b∨c.FB b∨∃A,c.pin n=some A∧A.block=b
 pin:∀n A,c.pin n=some A→(∀q,getB ρ n≠some (.al q))∧∀re t x pd,getB ρ n=some (.data re t x pd)→(∃g,e.gr n=some ⟨some A,t,g⟩)∧∀o,A.off≤o→o<A.off+t.sz→c.FT A.block o
 hdr:∀n h,c.hdr n=some h→∀re t x pd,getB ρ n=some (.data re t x pd)→∃te,∃gl:OwnL te.G,e.gr n=some ⟨none,.list true te,gl⟩∧h=(gl.ad,gl.rows.length,gl.cap)
 kso:∀b,KS b→c.K0 b∨c.w0.heap.size≤b∨c.FB b
 fr:Frame' c.w0 w c.FB c.FT
theorem purgeV_und(k:Kill):purgeV k .und= .und:=by cases k<;>rfl
theorem getR_purge(k:Kill):∀(g:Regs) (t:Nat),getR (purge k g) t=purgeV k (getR g t)
 |[],t=>(purgeV_und k).symm
 |(n,v)::l,t=>by
  simp only[purge,getR]
  split
  ·rfl
  ·exact getR_purge k l t
def purgesV:List Kill→RV→RV
 |[],v=>v
 |k::ks,v=>purgesV ks (purgeV k v)
theorem getR_purges:∀(ks:List Kill) (g:Regs) (t:Nat),getR (purges ks g) t=purgesV ks (getR g t)
 |[],g,t=>rfl
 |k::ks,g,t=>by simp only[purges,purgesV];rw[getR_purges ks,getR_purge]
theorem purgeV_id{k:Kill}{v:RV}(h:∀l,v≠ .tp l):purgeV k v=bif hit k v then .und else v:=by
 cases v<;>first|rfl|exact absurd rfl (h _)
theorem hit_und(k:Kill):hit k .und=false:=by cases k<;>rfl
theorem hit_bif(k:Kill)(v:RV):hit k (bif hit k v then .und else v)=false:=by
 cases h:hit k v with
 |true=>exact hit_und k
 |false=>exact h
theorem hit_bif'(k k':Kill)(v:RV)(h':hit k v=false):hit k (bif hit k' v then .und else v)=false:=by
 cases h:hit k' v with
 |true=>exact hit_und k
 |false=>exact h'
mutual
theorem hit_purgeV(k:Kill):∀v,hit k (purgeV k v)=false
 | .tp l=>by simp only[purgeV,hit];exact hits_purgeL k l
 | .und| .skipped| .v _ _| .nl| .pn| .wl _| .vw _ _ _| .sv _| .rf _| .ap _| .fn _ _| .fb _ _=>by
  rw[purgeV_id (by intro l h;cases h)]
  exact hit_bif k _
theorem hits_purgeL(k:Kill):∀l,hits k (purgeL k l)=false
 |[]=>rfl
 |v::l=>by simp only[purgeL,hits,hit_purgeV k v,hits_purgeL k l];rfl
end
mutual
theorem hit_purgeV'(k k':Kill):∀v,hit k v=false→hit k (purgeV k' v)=false
 | .tp l,h=>by simp only[purgeV,hit]at*;exact hits_purgeL' k k' l h
 | .und,h| .skipped,h| .v _ _,h| .nl,h| .pn,h| .wl _,h| .vw _ _ _,h| .sv _,h| .rf _,h| .ap _,h| .fn _ _,h| .fb _ _,h=>by
  rw[purgeV_id (by intro l h;cases h)]
  exact hit_bif' k k' _ h
theorem hits_purgeL'(k k':Kill):∀l,hits k l=false→hits k (purgeL k' l)=false
 |[],_=>rfl
 |v::l,h=>by
  simp only[hits,Bool.or_eq_false_iff]at h
  simp only[purgeL,hits,hit_purgeV' k k' v h.1,hits_purgeL' k k' l h.2];rfl
end
theorem hit_purgesV'(k:Kill):∀ks v,hit k v=false→hit k (purgesV ks v)=false
 |[],v,h=>h
 |k'::ks,v,h=>hit_purgesV' k ks _ (hit_purgeV' k k' v h)
theorem hit_purgesV{k:Kill}:∀{ks:List Kill} (v:RV),k∈ks→hit k (purgesV ks v)=false
 |k'::ks,v,h=>by
  rcases List.mem_cons.1 h with h|h
  ·subst h;exact hit_purgesV' _ ks _ (hit_purgeV _ v)
  ·exact hit_purgesV (ks:=ks) _ h
theorem rvok_bif{w:World}{KS:Nat→Prop}{ρ:Roots}{e:GEnv}(c:Bool)(v:RV)(x:Value)(h:RVok w KS ρ e v x):RVok w KS ρ e (bif c then .und else v) x:=by
 cases c
 ·exact h
 ·simp only[cond_true,RVok]
mutual
theorem purgeV_ok{w:World}{KS:Nat→Prop}{ρ:Roots}{e:GEnv}(k:Kill):∀(v:RV) (x:Value),RVok w KS ρ e v x→RVok w KS ρ e (purgeV k v) x
 | .tp l,x,h=>by
  obtain⟨vs,h1,h2⟩:=h
  exact⟨vs,h1,purgeL_ok k l vs h2⟩
 | .und,x,h| .skipped,x,h| .v _ _,x,h| .nl,x,h| .pn,x,h| .wl _,x,h| .vw _ _ _,x,h| .sv _,x,h| .rf _,x,h| .ap _,x,h| .fn _ _,x,h| .fb _ _,x,h=>by
  rw[purgeV_id (by intro l h;cases h)]
  exact rvok_bif _ _ _ h
theorem purgeL_ok{w:World}{KS:Nat→Prop}{ρ:Roots}{e:GEnv}(k:Kill):∀(l:List RV) (vs:List Value),RVoks w KS ρ e l vs→RVoks w KS ρ e (purgeL k l) vs
 |[],vs,h=>h
 |v::l,vs,h=>by
  obtain⟨x,vs',rfl,h1,h2⟩:=h
  exact⟨x,vs',rfl,purgeV_ok k v x h1,purgeL_ok k l vs' h2⟩
end
theorem purgesV_ok{w:World}{KS:Nat→Prop}{ρ:Roots}{e:GEnv}:∀(ks:List Kill) (v:RV) (x:Value),RVok w KS ρ e v x→RVok w KS ρ e (purgesV ks v) x
 |[],v,x,h=>h
 |k::ks,v,x,h=>purgesV_ok ks _ x (purgeV_ok k v x h)
def Drops(ρ ρ':Roots)(n:Nat):Prop:=getB ρ' n=none∧∃q,getB ρ n=some (.al q)
mutual
theorem rvok_drop{w:World}{KS:Nat→Prop}{ρ ρ':Roots}{e:GEnv}(hd:∀n,hasData ρ n→getB ρ' n=getB ρ n):∀(v:RV) (x:Value),(∀n,getB ρ' n=getB ρ n∨(hit (.all n) v=false))→RVok w KS ρ e v x→RVok w KS ρ' e v x
 | .und,x,hh,h=>trivial
 | .skipped,x,hh,h=>h
 | .v _ _,x,hh,h=>h
 | .nl,x,hh,h=>h
 | .pn,x,hh,h=>h
 | .wl p,x,hh,h=>by
  refine⟨?_,h.2⟩
  have:=hd _ h.1
  simpa only[hasData,this]using h.1
 | .vw p _ _,x,hh,h=>by
  refine⟨?_,h.2⟩
  have:=hd _ h.1
  simpa only[hasData,this]using h.1
 | .sv p,x,hh,h=>by
  refine⟨?_,h.2⟩
  have:=hd _ h.1
  simpa only[hasData,this]using h.1
 | .ap p,x,hh,h=>by
  obtain⟨⟨re,t,y,pe,h1⟩,h2⟩:=h
  exact⟨⟨re,t,y,pe,by rw[hd _ ⟨re,t,y,_,h1⟩];exact h1⟩,h2⟩
 | .rf p,x,hh,h=>by
  obtain⟨s,A,h1,h2⟩:=h
  refine⟨s,A, ?_,h2⟩
  rcases hh p.r with h3|h3
  ·simpa only[spotOf,h3]using h1
  ·simp[hit]at h3
 | .fn f caps,x,hh,h=>by
  obtain⟨vs,h1,h2⟩:=h
  exact⟨vs,h1,rvoks_drop hd caps vs hh h2⟩
 | .fb f caps,x,hh,h=>by
  obtain⟨a,vs,h1,h2,h3,h4,h5⟩:=h
  exact⟨a,vs,h1,h2,h3,h4,rvoks_drop hd caps vs hh h5⟩
 | .tp l,x,hh,h=>by
  obtain⟨vs,h1,h2⟩:=h
  exact⟨vs,h1,rvoks_drop hd l vs hh h2⟩
theorem rvoks_drop{w:World}{KS:Nat→Prop}{ρ ρ':Roots}{e:GEnv}(hd:∀n,hasData ρ n→getB ρ' n=getB ρ n):∀(l:List RV) (vs:List Value),(∀n,getB ρ' n=getB ρ n∨(hits (.all n) l=false))→RVoks w KS ρ e l vs→RVoks w KS ρ' e l vs
 |[],vs,hh,h=>h
 |v::l,vs,hh,h=>by
  obtain⟨x,vs',h0,h1,h2⟩:=h
  refine⟨x,vs',h0,rvok_drop hd v x (fun n=>(hh n).imp id fun h=> ?_) h1,rvoks_drop hd l vs' (fun n=>(hh n).imp id fun h=> ?_) h2⟩
  ·simp only[hits,Bool.or_eq_false_iff]at h;exact h.1
  ·simp only[hits,Bool.or_eq_false_iff]at h;exact h.2
end
theorem getB_purgeB(k:Kill):∀(ρ:Roots) (n:Nat),getB (purgeB k ρ) n=match getB ρ n with
  |some (.al q)=>bif hitA k q then none else some (.al q)
  |b=>b
 |[],n=>rfl
 |(m,b)::l,n=>by
  cases b with
  |none=>
   simp only[purgeB,getB]
   split
   ·rfl
   ·exact getB_purgeB k l n
  |some b=>
   cases b with
   |data re t x pd=>
    simp only[purgeB,getB]
    split
    ·rfl
    ·exact getB_purgeB k l n
   |al q=>
    simp only[purgeB]
    cases hq:hitA k q with
    |true=>
     simp only[cond_true,getB]
     split
     ·simp[hq]
     ·exact getB_purgeB k l n
    |false=>
     simp only[cond_false,getB]
     split
     ·simp[hq]
     ·exact getB_purgeB k l n
theorem aliasKills_mem(k:Kill):∀(ρ:Roots) (n:Nat) (q:Place),getB ρ n=some (.al q)→hitA k q=true→ .all n∈aliasKills k ρ
 |[],n,q,h,_=>by cases h
 |(m,b)::l,n,q,h,hh=>by
  simp only[getB]at h
  split at h
  ·rename_i hm
   obtain rfl:=Nat.eq_of_beq_eq_true hm
   subst h
   simp only[aliasKills,hh,cond_true]
   simp
  ·have ih:=aliasKills_mem k l n q h hh
   cases b with
   |none=>exact ih
   |some b=>cases b with
    |data=>exact ih
    |al q'=>
     simp only[aliasKills]
     cases hitA k q'<;>simp[ih]
theorem getB_purgesB:∀(ks:List Kill) (ρ:Roots) (n:Nat),(getB (purgesB ks ρ) n=getB ρ n∧∀q,getB ρ n=some (.al q)→∀k∈ks,hitA k q=false)∨
  (getB (purgesB ks ρ) n=none∧∃q k,getB ρ n=some (.al q)∧k∈ks∧hitA k q=true)
 |[],ρ,n=> .inl ⟨rfl,by simp⟩
 |k::ks,ρ,n=>by
  have h1:=getB_purgeB k ρ n
  rcases getB_purgesB ks (purgeB k ρ) n with⟨h2,h3⟩|⟨h2,q,k',h3,h4,h5⟩
  ·simp only[purgesB]
   rw[h2,h1]
   cases hb:getB ρ n with
   |none=>exact .inl ⟨rfl,by simp⟩
   |some b=>cases b with
    |data re t x pd=>exact .inl ⟨rfl,fun q hq=>by cases hq⟩
    |al q=>
     cases hq:hitA k q with
     |true=>exact .inr ⟨by simp[hq],q,k,rfl,by simp,hq⟩
     |false=>
      refine .inl ⟨by simp[hq],fun q' hq' k' hk'=> ?_⟩
      cases hq'
      rcases List.mem_cons.1 hk' with rfl|hk'
      ·exact hq
      ·exact h3 q (by rw[h1,hb];simp[hq]) k' hk'
  ·simp only[purgesB]
   refine .inr ⟨h2,q,k', ?_,by simp[h4],h5⟩
   rw[h1]at h3
   cases hb:getB ρ n with
   |none=>rw[hb]at h3;cases h3
   |some b=>cases b with
    |data re t x pd=>rw[hb]at h3;cases h3
    |al q2=>
     rw[hb]at h3
     simp only at h3
     cases hq:hitA k q2 with
     |true=>rw[hq]at h3;cases h3
     |false=>rw[hq]at h3;exact h3
def purgesF(ks:List Kill)(F:Fs):Fs:=F.map fun p=>(purges ks p.1,p.2)
structure NoHit (ks:List Kill) (F:Fs) (ρ:Roots):Prop where
 regs:∀p∈F,∀t,∀k∈ks,hit k (getR p.1 t)=false
 als:∀n q,getB ρ n=some (.al q)→∀k∈ks,hitA k q=false
theorem Inv.purge{c:Ctx}{KS:Nat→Prop}{e:GEnv}{F:Fs}{ρ:Roots}{w:World}(ks:List Kill)(h:Inv c KS e F ρ w):
  Inv c KS e (purgesF (allKills ks ρ) F) (purgesB ks ρ) w∧NoHit ks (purgesF (allKills ks ρ) F) (purgesB ks ρ):=by
 have hG:=getB_purgesB ks ρ
 have hD:∀n,hasData ρ n→getB (purgesB ks ρ) n=getB ρ n:=fun n ⟨re,t,x,pd,hn⟩=>by
  rcases hG n with⟨h1,_⟩|⟨_,q,k,h1,_⟩
  ·exact h1
  ·rw[hn]at h1;cases h1
 have hB:∀n,blk (purgesB ks ρ) e n=blk ρ e n∨blk (purgesB ks ρ) e n=[]:=fun n=>by
  rcases hG n with⟨h1,_⟩|⟨h1,_⟩
  ·left;simp only[blk,h1]
  ·right;simp only[blk,h1]
 have hM:∀n b,b∈blk (purgesB ks ρ) e n→b∈blk ρ e n:=fun n b hb=>by
  rcases hB n with h1|h1
  ·rw[h1]at hb;exact hb
  ·rw[h1]at hb;cases hb
 refine⟨⟨?_, ?_, ?_, ?_,fun n b hb=>h.ks n b (hM n b hb),h.lt,fun n b hb=>h.blt n b (hM n b hb),fun n b hb=>h.may n b (hM n b hb), ?_, ?_,h.kso,h.fr⟩, ?_, ?_⟩
 ·intro p hp t
  obtain⟨p0,hp0,rfl⟩:=List.mem_map.1 hp
  simp only
  rw[getR_purges]
  refine rvok_drop hD _ _ (fun n=> ?_) (purgesV_ok _ _ _ (h.regs p0 hp0 t))
  rcases hG n with⟨h1,_⟩|⟨_,q,k,h1,h2,h3⟩
  ·exact .inl h1
  ·right
   refine hit_purgesV _ ?_
   simp only[allKills,List.mem_append,List.mem_flatMap]
   exact .inr ⟨k,h2,aliasKills_mem k ρ n q h1 h3⟩
 ·intro n
  have:=h.roots n
  rcases hG n with⟨h1,_⟩|⟨h1,_⟩
  ·simp only[RootOK,h1]at this ⊢
   cases hb:getB ρ n with
   |none=>trivial
   |some b=>
    rw[hb]at this
    cases b with
    |data=>exact this
    |al q=>
     refine⟨?_,this.2⟩
     have h2:=hD _ this.1
     simpa only[hasData,h2]using this.1
  ·simp only[RootOK,h1]
 ·intro n
  rcases hB n with h1|h1
  ·rw[h1];exact h.nd n
  ·rw[h1];simp
 ·intro n m hnm b hb hb'
  exact h.dj n m hnm b (hM n b hb) (hM m b hb')
 ·intro n A hn
  obtain⟨h1,h2⟩:=h.pin n A hn
  rcases hG n with⟨h3,_⟩|⟨h3,q,_,h4,_⟩
  ·rw[h3];exact⟨h1,h2⟩
  ·exact absurd h4 (h1 q)
 ·intro n hh hn re t x pd hd
  rcases hG n with⟨h3,_⟩|⟨h3,_⟩
  ·exact h.hdr n hh hn re t x pd (by rw[←h3];exact hd)
  ·rw[h3]at hd;cases hd
 ·intro p hp t k hk
  obtain⟨p0,hp0,rfl⟩:=List.mem_map.1 hp
  simp only
  rw[getR_purges]
  exact hit_purgesV _ (by simp[allKills,hk])
 ·intro n q hq k hk
  rcases hG n with⟨h3,h4⟩|⟨h3,_⟩
  ·exact h4 q (by rw[←h3];exact hq) k hk
  ·rw[h3]at hq;cases hq
end
section
structure Reads (w w':World) (KS KS':Nat→Prop) (ρ ρ':Roots) (e e':GEnv) (ks:List Kill):Prop where
 kss:∀b,KS b→KS' b
 ksc:∀b,KS b→∀o,w'.cell? ⟨b,o,none⟩=w.cell? ⟨b,o,none⟩
 data:∀p,(∀k∈ks,hit k (.wl p)=false)∨(∀k∈ks,hit k (.sv p)=false)→hasData ρ p.r→(spotD e p).isSome→hasData ρ' p.r
 wl:∀p te (g:OwnL te.G) ad,(∀k∈ks,hit k (.wl p)=false)→hasData ρ p.r→spotD e p=some ⟨.list true te,g,ad⟩→
  ∃g':OwnL te.G,spotD e' p=some ⟨.list true te,g',ad⟩∧g'.ad=g.ad∧g'.cap=g.cap∧g'.rows.length=g.rows.length
 sv:∀p s,(∀k∈ks,hit k (.sv p)=false)→hasData ρ p.r→spotD e p=some s→∃s',spotD e' p=some s'∧s'.t=s.t∧cl s'.t s'.g=cl s.t s.g
 rf:∀p s A,(∀k∈ks,hit k (.rf p)=false)→spotOf ρ e p=some s→s.ad=some A→∃s',spotOf ρ' e' p=some s'∧s'.ad=some A
 ap:∀p,(∀k∈ks,hit k (.ap p)=false)→∀re t x pe,getB ρ p.r=some (.data re t x (some pe))→(∃re t x pe,getB ρ' p.r=some (.data re t x (some pe)))∧e'.pv p.r=e.pv p.r
theorem hitA_sv{k:Kill}{q:Place}(h:hitA k q=false):hit k (.sv q)=false:=by
 cases k<;>exact h
theorem Reads.of{w w':World}{KS KS':Nat→Prop}{ρ ρ':Roots}{e e':GEnv}{ks:List Kill}(kss:∀b,KS b→KS' b)
  (ksc:∀b,KS b→∀o,w'.cell? ⟨b,o,none⟩=w.cell? ⟨b,o,none⟩)
  (data:∀p,(∀k∈ks,hit k (.wl p)=false)∨(∀k∈ks,hit k (.sv p)=false)→hasData ρ p.r→(spotD e p).isSome→hasData ρ' p.r)
  (wl:∀p te (g:OwnL te.G) ad,(∀k∈ks,hit k (.wl p)=false)→hasData ρ p.r→spotD e p=some ⟨.list true te,g,ad⟩→
   ∃g':OwnL te.G,spotD e' p=some ⟨.list true te,g',ad⟩∧g'.ad=g.ad∧g'.cap=g.cap∧g'.rows.length=g.rows.length)
  (sv:∀p,(∀k∈ks,hit k (.sv p)=false)→hasData ρ p.r→(spotD e p).isSome→spotD e' p=spotD e p)
  (rf:∀p s A,(∀k∈ks,hit k (.rf p)=false)→spotOf ρ e p=some s→s.ad=some A→∃s',spotOf ρ' e' p=some s'∧s'.ad=some A)
  (ap:∀p,(∀k∈ks,hit k (.ap p)=false)→∀re t x pe,getB ρ p.r=some (.data re t x (some pe))→(∃re t x pe,getB ρ' p.r=some (.data re t x (some pe)))∧e'.pv p.r=e.pv p.r):
  Reads w w' KS KS' ρ ρ' e e' ks:=
 ⟨kss,ksc,data,wl,fun p s hp hd hs=>⟨s,by rw[sv p hp hd (by rw[hs];rfl)];exact hs,rfl,rfl⟩,rf,ap⟩
mutual
theorem Reads.ok{w w':World}{KS KS':Nat→Prop}{ρ ρ':Roots}{e e':GEnv}{ks:List Kill}(H:Reads w w' KS KS' ρ ρ' e e' ks):∀(v:RV) (x:Value),(∀k∈ks,hit k v=false)→RVok w KS ρ e v x→RVok w' KS' ρ' e' v x
 | .und,x,hh,h=>trivial
 | .skipped,x,hh,h=>h
 | .v t y,x,hh,h=>⟨h.1,h.2.imp fun cs hc=>⟨RepK.mono H.kss H.ksc _ _ _ hc.1,hc.2⟩⟩
 | .nl,x,hh,h=>h
 | .pn,x,hh,h=>h
 | .wl p,x,hh,h=>by
  obtain⟨h1,te,g,ad,h2,h3⟩:=h
  obtain⟨g',q1,q2,q3,q4⟩:=H.wl p te g ad hh h1 h2
  exact⟨H.data p (.inl hh) h1 (by rw[h2];rfl),te,g',ad,q1,by rw[h3,q2,q3,q4]⟩
 | .vw p lo len,x,hh,h=>by
  have hh':∀k∈ks,hit k (.wl p)=false:=fun k hk=>by
   have:=hh k hk
   cases k<;>first|(simp[hit];done)|simpa[hit]using this
  obtain⟨h1,te,g,ad,h2,h3,ad2,h4,h5⟩:=h
  obtain⟨g',q1,q2,q3,q4⟩:=H.wl p te g ad hh' h1 h2
  exact⟨H.data p (.inl hh') h1 (by rw[h2];rfl),te,g',ad,q1,by rw[q4];exact h3,ad2,by rw[q2,q3];exact h4,by rw[h5,q3]⟩
 | .sv p,x,hh,h=>by
  obtain⟨h1,s,h2,h3⟩:=h
  obtain⟨s',q1,q2,q3⟩:=H.sv p s hh h1 h2
  exact⟨H.data p (.inr hh) h1 (by rw[h2];rfl),s',q1,by rw[q2];exact h3.1,by rw[q3,q2];exact h3.2⟩
 | .rf p,x,hh,h=>by
  obtain⟨s,A,h1,h2,h3⟩:=h
  obtain⟨s',q1,q2⟩:=H.rf p s A hh h1 h2
  exact⟨s',A,q1,q2,h3⟩
 | .ap p,x,hh,h=>by
  obtain⟨⟨re,t,y,pe,h1⟩,h2⟩:=h
  obtain⟨q1,q2⟩:=H.ap p hh re t y pe h1
  exact⟨q1,by rw[h2,q2]⟩
 | .fn f caps,x,hh,h=>by
  obtain⟨vs,h1,h2⟩:=h
  exact⟨vs,h1,Reads.oks H caps vs (fun k hk=>by simpa only[hit]using hh k hk) h2⟩
 | .fb f caps,x,hh,h=>by
  obtain⟨a,vs,h1,h2,h3,h4,h5⟩:=h
  exact⟨a,vs,h1,h2,H.kss _ h3,by rw[H.ksc _ h3];exact h4,Reads.oks H caps vs (fun k hk=>by simpa only[hit]using hh k hk) h5⟩
 | .tp l,x,hh,h=>by
  obtain⟨vs,h1,h2⟩:=h
  exact⟨vs,h1,Reads.oks H l vs (fun k hk=>by simpa only[hit]using hh k hk) h2⟩
theorem Reads.oks{w w':World}{KS KS':Nat→Prop}{ρ ρ':Roots}{e e':GEnv}{ks:List Kill}(H:Reads w w' KS KS' ρ ρ' e e' ks):∀(l:List RV) (vs:List Value),(∀k∈ks,hits k l=false)→RVoks w KS ρ e l vs→RVoks w' KS' ρ' e' l vs
 |[],vs,hh,h=>h
 |v::l,vs,hh,h=>by
  obtain⟨x,vs',h0,h1,h2⟩:=h
  refine⟨x,vs',h0,Reads.ok H v x (fun k hk=> ?_) h1,Reads.oks H l vs' (fun k hk=> ?_) h2⟩
  ·have:=hh k hk;simp only[hits,Bool.or_eq_false_iff]at this;exact this.1
  ·have:=hh k hk;simp only[hits,Bool.or_eq_false_iff]at this;exact this.2
end
theorem Same.row{w w':World}{A:Addr}{cs:List Value}(h:Same w w' A.block)(hr:RowAt w A cs):RowAt w' A cs:=
 ⟨hr.1,fun j v hj=>by rw[h.2.2];exact hr.2.1 j v hj,fun j hj=>by rw[h.2.1];exact hr.2.2 j hj⟩
theorem PendOK.frame{w w':World}{KS KS':Nat→Prop}(hs:∀b,KS b→KS' b)(hk:∀b,KS b→∀o,w'.cell? ⟨b,o,none⟩=w.cell? ⟨b,o,none⟩){G:GRoot}{pv:Value}{pb:List Nat}{π:Path}{te:Ty}{m:List te.D}
  (hG:okG w KS G.t G.g) (hsp:∀A,G.ad=some A→A.spot=none)
  (hf:∀b∈fp G.t G.g++pb,Same w w' b) (h:PendOK w KS G pv pb π te m):PendOK w' KS' G pv pb π te m:=by
 obtain⟨tl,gl,ad,h1,mr,h2,h3,h4,h5⟩:=h
 have hL:=locG π G.t G.g G.ad _ h1 hsp hG
 have hfl:∀b∈fp (.list true tl) gl,Same w w' b:=fun b hb=>hf b (by simp[hL.sub b hb])
 have hm:∀(hp:∀b∈mr.flatMap (fp te),Same w w' b),∀r∈mr,okG w' KS' te r:=fun hp r hr=>okG_frame' hs hk (fun b hb=>hp b (List.mem_flatMap.2 ⟨r,hr,hb⟩)) (h3 r hr)
 refine⟨tl,gl,ad,h1,mr,h2, ?_,h4, ?_⟩
 ·rcases h5 with⟨_,q2,_,_⟩|⟨b,rest,_,_,_,_,_,_,q⟩|⟨b,rest,cap,_,_,_,_,_,q⟩
  ·have:mr=[]:=by
    have:mr.length=0:=by rw[←List.length_map (f:=er te),h2,q2];rfl
    exact List.eq_nil_of_length_eq_zero this
   subst this;simp
  ·exact hm fun b hb=>hf b (by simp[q,hb])
  ·exact hm fun b hb=>hf b (by simp[q,hb])
 ·rcases h5 with h5|⟨b,rest,q1,q2,q3,q4,q5,q6,q7⟩|⟨b,rest,cap,q1,q2,q3,q4,q5,q6⟩
  ·exact .inl h5
  ·refine .inr (.inl ⟨b,rest,q1,q2,q3,q4,(hfl b ?_).block q5,q6,q7⟩)
   simp[fp,q1,show gl.cap≠0 by omega]
  ·exact .inr (.inr ⟨b,rest,cap,q1,q2,q3,(hf b (by simp[q6])).block q4,q5,q6⟩)
structure StepH (c:Ctx) (KS:Nat→Prop) (e:GEnv) (ρ:Roots) (w:World) (S:Nat→Prop) (ks:List Kill) (KS':Nat→Prop) (e':GEnv) (ρ':Roots) (w':World):Prop where
 reads:Reads w w' KS KS' ρ ρ' e e' ks
 out:∀n,¬S n→getB ρ' n=getB ρ n∧e'.gr n=e.gr n∧e'.ala n=e.ala n∧e'.pv n=e.pv n∧e'.pb n=e.pb n
 same:∀n,¬S n→∀b∈blk ρ e n,Same w w' b
 size:Grew w w'
 roots:∀n,S n→RootOK w' KS' ρ' e' n
 nd:∀n,S n→(blk ρ' e' n).Nodup
 dj:∀n m,S n→S m→n≠m→∀b∈blk ρ' e' n,b∉blk ρ' e' m
 src:∀n,S n→∀b∈blk ρ' e' n,(w.heap.size≤b∧b<w'.heap.size)∨∃m,S m∧b∈blk ρ e m∧(m=n∨∀A,c.pin m=some A→A.block≠b)
 ksn:∀b,KS' b→KS b∨(w.heap.size≤b∧b<w'.heap.size)∨∃m,S m∧b∈blk ρ e m∧∀A,c.pin m=some A→A.block≠b
 ksd:∀n,S n→∀b∈blk ρ' e' n,¬KS' b
 pin:∀n,S n→∀A,c.pin n=some A→(∀q,getB ρ' n≠some (.al q))∧∀re t x pd,getB ρ' n=some (.data re t x pd)→(∃g,e'.gr n=some ⟨some A,t,g⟩)∧∀o,A.off≤o→o<A.off+t.sz→c.FT A.block o
 hdr:∀n,S n→∀h,c.hdr n=some h→∀re t x pd,getB ρ' n=some (.data re t x pd)→∃te,∃gl:OwnL te.G,e'.gr n=some ⟨none,.list true te,gl⟩∧h=(gl.ad,gl.rows.length,gl.cap)
 frm:∀b,b<w.heap.size→Same w w' b∨c.w0.heap.size≤b∨c.FB b∨
  (w'.shape? b=w.shape? b∧(∀o,w'.frozen? ⟨b,o,none⟩=w.frozen? ⟨b,o,none⟩)∧(∀o,¬c.FT b o→w'.cell? ⟨b,o,none⟩=w.cell? ⟨b,o,none⟩)∧Kin w w' b)
theorem blk_congr{ρ ρ':Roots}{e e':GEnv}{n:Nat}(h1:getB ρ' n=getB ρ n)(h2:e'.gr n=e.gr n)(h3:e'.ala n=e.ala n)(h4:e'.pb n=e.pb n):blk ρ' e' n=blk ρ e n:=by
 simp only[blk,h1,h2,h3,h4]
theorem Inv.step{c:Ctx}{KS KS':Nat→Prop}{e e':GEnv}{F:Fs}{ρ ρ':Roots}{w w':World}{S:Nat→Prop}{ks:List Kill}
  (h:Inv c KS e F ρ w) (nh:NoHit ks F ρ) (H:StepH c KS e ρ w S ks KS' e' ρ' w'):Inv c KS' e' F ρ' w':=by
 have hb:∀n,¬S n→blk ρ' e' n=blk ρ e n:=fun n hn=>by
  obtain⟨h1,h2,h3,_,h5⟩:=H.out n hn
  exact blk_congr h1 h2 h3 h5
 -- a block of a changed root is no block of another one
 have hcross:∀n m,S n→¬S m→∀b∈blk ρ' e' n,b∉blk ρ e m:=fun n m hn hm b hb1 hb2=>by
  rcases H.src n hn b hb1 with⟨h1,_⟩|⟨m',hm',h1,_⟩
  ·have:=h.blt m b hb2;omega
  ·exact h.dj m' m (fun e=>hm (e▸hm')) b h1 hb2
 have hlt:∀n,∀b∈blk ρ' e' n,b<w'.heap.size:=fun n b hb1=>by
  by_cases hn:S n
  ·rcases H.src n hn b hb1 with⟨_,h1⟩|⟨m',_,h1,_⟩
   ·exact h1
   ·exact Nat.lt_of_lt_of_le (h.blt m' b h1) H.size.size
  ·rw[hb n hn]at hb1
   exact Nat.lt_of_lt_of_le (h.blt n b hb1) H.size.size
 refine⟨fun p hp t=>H.reads.ok _ _ (fun k hk=>nh.regs p hp t k hk) (h.regs p hp t), ?_, ?_, ?_, ?_, ?_,hlt, ?_, ?_, ?_, ?_, ?_⟩
 ·intro n
  by_cases hn:S n
  ·exact H.roots n hn
  ·obtain⟨h1,h2,h3,h4,h5⟩:=H.out n hn
   have hs:=H.same n hn
   have hr:=h.roots n
   unfold RootOK at hr ⊢
   rw[h1]
   cases hg:getB ρ n with
   |none=>trivial
   |some b=>
    rw[hg]at hr
    cases b with
    |data re t x pd=>
     obtain⟨ad,g,q1,q2,q3,q4,q5,q6⟩:=hr
     have hbl:blk ρ e n=(ad.map (·.block)).toList++fp t g++e.pb n:=by simp only[blk,hg,q1]
     rw[hbl]at hs
     refine⟨ad,g,by rw[h2];exact q1,q2,okG_frame' H.reads.kss H.reads.ksc (fun b hb=>hs b (by simp[hb])) q3, ?_,q5, ?_⟩
     ·intro hre
      obtain⟨A,hA,hrow⟩:=q4 hre
      exact⟨A,hA,(hs A.block (by simp[hA])).row hrow⟩
     ·cases pd with
      |none=>simp only at q6 ⊢;rw[h5];exact q6
      |some pe=>
       obtain⟨π,te,m⟩:=pe
       simp only at q6 ⊢
       rw[h4,h5]
       refine PendOK.frame H.reads.kss H.reads.ksc q3 (fun A hA=> ?_) (fun b hb=>hs b ?_) q6
       ·simp only at hA
        cases re with
        |true=>obtain⟨A',hA',hrow⟩:=q4 rfl;rw[hA]at hA';cases hA';exact hrow.1
        |false=>rw[q5 rfl]at hA;cases hA
       ·simp only[List.mem_append]at hb ⊢
        rcases hb with hb|hb
        ·exact .inl (.inr hb)
        ·exact .inr hb
    |al q=>
     obtain⟨q1,s,q2,q3⟩:=hr
     have hq:=nh.als n q hg
     obtain⟨s',q4,_,q5⟩:=H.reads.sv q s (fun k hk=>hitA_sv (hq k hk)) q1 q2
     refine⟨H.reads.data q (.inr fun k hk=>hitA_sv (hq k hk)) q1 (by rw[q2];rfl),s',q4, ?_⟩
     rw[h3,q5]
     exact(hs _ (by simp[blk,hg])).row q3
 ·intro n
  by_cases hn:S n
  ·exact H.nd n hn
  ·rw[hb n hn];exact h.nd n
 ·intro n m hnm b hb1 hb2
  by_cases hn:S n
  ·by_cases hm:S m
   ·exact H.dj n m hn hm hnm b hb1 hb2
   ·rw[hb m hm]at hb2;exact hcross n m hn hm b hb1 hb2
  ·by_cases hm:S m
   ·rw[hb n hn]at hb1;exact hcross m n hm hn b hb2 hb1
   ·rw[hb n hn]at hb1;rw[hb m hm]at hb2;exact h.dj n m hnm b hb1 hb2
 ·intro n b hb1 hk
  by_cases hn:S n
  ·exact H.ksd n hn b hb1 hk
  ·rw[hb n hn]at hb1
   rcases H.ksn b hk with h1|⟨h1,_⟩|⟨m,hm,h1,_⟩
   ·exact h.ks n b hb1 h1
   ·have:=h.blt n b hb1;omega
   ·exact h.dj m n (fun e=>hn (e▸hm)) b h1 hb1
 ·intro b hk
  rcases H.ksn b hk with h1|⟨_,h1⟩|⟨m,hm,h1,_⟩
  ·exact Nat.lt_of_lt_of_le (h.lt b h1) H.size.size
  ·exact h1
  ·exact Nat.lt_of_lt_of_le (h.blt m b h1) H.size.size
 ·intro n b hb1
  by_cases hn:S n
  ·rcases H.src n hn b hb1 with⟨h1,_⟩|⟨m,hm,h1,h2⟩
   ·exact .inl (Nat.le_trans h.fr.size.size h1)
   ·rcases h.may m b h1 with h3|h3|⟨A,h3,h4⟩
    ·exact .inl h3
    ·exact .inr (.inl h3)
    ·rcases h2 with rfl|h2
     ·exact .inr (.inr ⟨A,h3,h4⟩)
     ·exact absurd h4 (h2 A h3)
  ·rw[hb n hn]at hb1;exact h.may n b hb1
 ·intro n A hp
  by_cases hn:S n
  ·exact H.pin n hn A hp
  ·obtain⟨h1,h2,_⟩:=H.out n hn
   rw[h1,h2];exact h.pin n A hp
 ·intro n hh hp
  by_cases hn:S n
  ·exact H.hdr n hn hh hp
  ·obtain⟨h1,h2,_⟩:=H.out n hn
   rw[h1,h2];exact h.hdr n hh hp
 ·intro b hk
  rcases H.ksn b hk with h1|⟨h1,_⟩|⟨m,hm,h1,h2⟩
  ·exact h.kso b h1
  ·exact .inr (.inl (Nat.le_trans h.fr.size.size h1))
  ·rcases h.may m b h1 with h3|h3|⟨A,h3,h4⟩
   ·exact .inr (.inl h3)
   ·exact .inr (.inr h3)
   ·exact absurd h4 (h2 A h3)
 ·refine⟨h.fr.size.trans H.size,fun b hb1 hb2=> ?_⟩
  obtain⟨q1,q2,q3,q4⟩:=h.fr.keep b hb1 hb2
  rcases H.frm b (Nat.lt_of_lt_of_le hb1 h.fr.size.size)with h1|h1|h1|⟨h1,h2,h3,h4⟩
  ·exact⟨by rw[h1.1,q1],fun o=>by rw[h1.2.1,q2],fun o ho=>by rw[h1.2.2,q3 o ho],q4.trans h1.kin⟩
  ·omega
  ·exact absurd h1 hb2
  ·exact⟨by rw[h1,q1],fun o=>by rw[h2,q2],fun o ho=>by rw[h3 o ho,q3 o ho],q4.trans h4⟩
end
section
theorem rows_ghost{w:World}{KS:Nat→Prop}{t:Ty}(ih:∀(x:t.D) cs,RepK w KS t x cs→∃g:t.G,okG w KS t g∧er t g=x∧cl t g=cs∧fp t g=[]):
  ∀(l:List t.D) cs,Rows' (RepK w KS t) l cs→∃gs:List t.G,(∀g∈gs,okG w KS t g)∧gs.map (er t)=l∧gs.flatMap (cl t)=cs∧gs.flatMap (fp t)=[]
 |[],cs,h=>⟨[],by simp,rfl,by simp[Rows']at h;simp[h],rfl⟩
 |x::xs,cs,h=>by
  obtain⟨c1,c2,rfl,h1,h2⟩:=h
  obtain⟨g,q1,q2,q3,q4⟩:=ih x c1 h1
  obtain⟨gs,p1,p2,p3,p4⟩:=rows_ghost ih xs c2 h2
  refine⟨g::gs, ?_,by simp[q2,p2],by simp[q3,p3],by simp[q4,p4]⟩
  intro y hy
  rcases List.mem_cons.1 hy with rfl|hy
  ·exact q1
  ·exact p1 y hy
theorem repK_okG{w:World}{KS:Nat→Prop}:∀(t:Ty),t.shared=true→∀(x:t.D) cs,RepK w KS t x cs→∃g:t.G,okG w KS t g∧er t g=x∧cl t g=cs∧fp t g=[]:=by
 intro t
 induction t with
 |unit=>intro _ x cs h;exact⟨(),trivial,rfl,by simp[RepK]at h;simp[cl,h],rfl⟩
 |int k=>intro _ x cs h;exact⟨x,trivial,rfl,by simp[RepK]at h;simp[cl,h],rfl⟩
 |bool=>intro _ x cs h;exact⟨x,trivial,rfl,by simp[RepK]at h;simp[cl,h],rfl⟩
 |str=>intro _ x cs h;exact⟨x,trivial,rfl,by simp[RepK]at h;simp[cl,h],rfl⟩
 |gone n=>intro h;cases h
 |list o t ih=>
  intro ho x cs h
  cases o with
  |true=>cases ho
  |false=>
   obtain⟨ad,cap,rfl,h⟩:=h
   exact⟨⟨ad,cap,x⟩,⟨ad,cap,rfl,h⟩,rfl,rfl,rfl⟩
 |ptr t ih=>
  intro _ x cs h
  cases x with
  |none=>
   have h':cs=[.pointer none]:=h
   exact⟨⟨none,none⟩,rfl,rfl,by simp[cl,h'],rfl⟩
  |some y=>
   obtain⟨a,rows,rfl,h⟩:=h
   exact⟨⟨some a,some y⟩,⟨a,rows,rfl,h⟩,rfl,rfl,rfl⟩
 |pair a b iha ihb=>
  intro hs x cs h
  simp only[Ty.shared,Bool.and_eq_true]at hs
  obtain⟨c1,c2,rfl,h1,h2⟩:=h
  obtain⟨g1,p1,p2,p3,p4⟩:=iha hs.1 _ _ h1
  obtain⟨g2,q1,q2,q3,q4⟩:=ihb hs.2 _ _ h2
  exact⟨(g1,g2),⟨p1,q1⟩,by simp[er,p2,q2],by simp[cl,p3,q3],by simp[fp,p4,q4]⟩
 |arr n t ih=>
  intro hs x cs h
  obtain⟨gs,p1,p2,p3,p4⟩:=rows_ghost (fun x cs h=>ih hs x cs h) _ _ h.2
  exact⟨gs,⟨by rw[←h.1,←p2];simp,p1⟩,p2,p3,p4⟩
 |ti=>intro _ x cs h;exact⟨x,trivial,rfl,by simp[RepK]at h;simp[cl,h],rfl⟩
theorem fp_shared:∀(t:Ty),t.shared=true→∀g:t.G,fp t g=[]:=by
 intro t
 induction t with
 |list o t ih=>
  intro ho g
  cases o with
  |true=>cases ho
  |false=>rfl
 |pair a b iha ihb=>
  intro hs g
  simp only[Ty.shared,Bool.and_eq_true]at hs
  simp[fp,iha hs.1,ihb hs.2]
 |arr n t ih=>
  intro hs g
  simp only[fp,List.flatMap_eq_nil_iff]
  intro x _;exact ih hs x
 |_=>intro _ g;rfl
theorem cl_one{w:World}{KS:Nat→Prop}:∀(t:Ty) (g:t.G),okG w KS t g→∀v∈cl t g,v.oneCell'=true:=by
 intro t
 induction t with
 |unit=>intro g _ v hv;cases hv
 |int k=>intro g _ v hv;simp[cl]at hv;subst hv;rfl
 |bool=>intro g _ v hv;simp[cl]at hv;subst hv;rfl
 |str=>intro g _ v hv;simp[cl]at hv;subst hv;rfl
 |list o t ih=>intro g _ v hv;cases o<;>(simp[cl]at hv;subst hv;rfl)
 |ptr t ih=>intro g _ v hv;simp[cl]at hv;subst hv;rfl
 |gone n=>intro g h v hv;exact h.2 v hv
 |pair a b iha ihb=>
  intro g h v hv
  simp only[cl,List.mem_append]at hv
  rcases hv with hv|hv
  ·exact iha _ h.1 v hv
  ·exact ihb _ h.2 v hv
 |arr n t ih=>
  intro g h v hv
  simp only[cl,List.mem_flatMap]at hv
  obtain⟨r,hr,hv⟩:=hv
  exact ih r (h.2 r hr) v hv
 |ti=>intro g _ v hv;simp[cl]at hv;subst hv;rfl
theorem one_cells{v:Value}(h:v.oneCell'=true):v.cells= #[v]:=by cases v<;>first|rfl|cases h
theorem val_cells{t:Ty}{cs:List Value}(hl:cs.length=t.sz)(h1:∀v∈cs,v.oneCell'=true):(val t cs).cells=cs.toArray:=by
 have one:t.sz=1→(cs.headD undef).cells=cs.toArray:=fun h=>by
  rw[h]at hl
  match cs,hl,h1 with
  |[v],_,h1=>simpa using one_cells (h1 v (by simp))
 cases t with
 |unit=>rfl
 |pair=>rfl
 |arr=>rfl
 |gone=>rfl
 |int=>exact one rfl
 |bool=>exact one rfl
 |str=>exact one rfl
 |list=>exact one rfl
 |ptr=>exact one rfl
 |ti=>exact one rfl
theorem Reads.refl{w:World}{KS:Nat→Prop}{ρ ρ':Roots}{e:GEnv}(hb:∀n,getB ρ' n=getB ρ n)(ks:List Kill):Reads w w KS KS ρ ρ' e e ks where
 kss:=fun _ h=>h
 ksc:=fun _ _ _=>rfl
 data:=fun p _ h _=>by simpa only[hasData,hb]using h
 wl:=fun p te g ad _ _ h=>⟨g,h,rfl,rfl,rfl⟩
 sv:=fun _ s _ _ h=>⟨s,h,rfl,rfl⟩
 rf:=fun p s A _ h1 h2=>⟨s,by simpa only[spotOf,hb]using h1,h2⟩
 ap:=fun p _ re t x pe h=>⟨⟨re,t,x,pe,by rw[hb];exact h⟩,rfl⟩
theorem Same.refl(w:World)(b:Nat):Same w w b:=Same.of rfl
theorem NoHit.nil(F:Fs)(ρ:Roots):NoHit [] F ρ:=⟨fun _ _ _ _ h=>(by cases h),fun _ _ _ _ h=>(by cases h)⟩
theorem Inv.congr{c:Ctx}{KS:Nat→Prop}{e:GEnv}{F:Fs}{ρ ρ':Roots}{w:World}(h:Inv c KS e F ρ w)(hb:∀n,getB ρ' n=getB ρ n):Inv c KS e F ρ' w:=
 h.step (S:=fun _=>False) (ks:=[]) (NoHit.nil F ρ)
  {reads:=Reads.refl hb []
   out:=fun n _=>⟨hb n,rfl,rfl,rfl,rfl⟩
   same:=fun _ _ b _=>Same.refl w b
   size:=Grew.refl _
   roots:=fun _ h=>h.elim
   nd:=fun _ h=>h.elim
   dj:=fun _ _ h=>h.elim
   src:=fun _ h=>h.elim
   ksn:=fun b h=> .inl h
   ksd:=fun _ h=>h.elim
   pin:=fun _ h=>h.elim
   hdr:=fun _ h=>h.elim
   frm:=fun b _=> .inl (Same.refl w b)}
theorem Reads.world{w w':World}{KS:Nat→Prop}{ρ:Roots}{e:GEnv}{ks:List Kill}(hk:∀b,KS b→∀o,w'.cell? ⟨b,o,none⟩=w.cell? ⟨b,o,none⟩):Reads w w' KS KS ρ ρ e e ks where
 kss:=fun _ h=>h
 ksc:=hk
 data:=fun p _ h _=>h
 wl:=fun p te g ad _ _ h=>⟨g,h,rfl,rfl,rfl⟩
 sv:=fun _ s _ _ h=>⟨s,h,rfl,rfl⟩
 rf:=fun p s A _ h1 h2=>⟨s,h1,h2⟩
 ap:=fun p _ re t x pe h=>⟨⟨re,t,x,pe,h⟩,rfl⟩
theorem Inv.world{c:Ctx}{KS:Nat→Prop}{e:GEnv}{F:Fs}{ρ:Roots}{w w':World}(h:Inv c KS e F ρ w)
  (hs:∀b,b<w.heap.size→Same w w' b) (hz:Grew w w'):Inv c KS e F ρ w':=
 h.step (S:=fun _=>False) (ks:=[]) (NoHit.nil F ρ)
  {reads:=Reads.world (fun b hb=>(hs b (h.lt b hb)).2.2)
   out:=fun n _=>⟨rfl,rfl,rfl,rfl,rfl⟩
   same:=fun n _ b hb=>hs b (h.blt n b hb)
   size:=hz
   roots:=fun _ h=>h.elim
   nd:=fun _ h=>h.elim
   dj:=fun _ _ h=>h.elim
   src:=fun _ h=>h.elim
   ksn:=fun b h=> .inl h
   ksd:=fun _ h=>h.elim
   pin:=fun _ h=>h.elim
   hdr:=fun _ h=>h.elim
   frm:=fun b hb=> .inl (hs b hb)}
def GEnv.set(e:GEnv)(d:Nat)(G:GRoot):GEnv:=
 {e with gr:=fun n=>if n=d then some G else e.gr n,pb:=fun n=>if n=d then []else e.pb n}
theorem getB_cons_ne{ρ:Roots}{d n:Nat}{b:Option Root}(h:n≠d):getB ((d,b)::ρ) n=getB ρ n:=by
 simp only[getB]
 split
 ·rename_i hh;exact absurd (Nat.eq_of_beq_eq_true hh).symm h
 ·rfl
theorem getB_cons_eq{ρ:Roots}{d:Nat}{b:Option Root}:getB ((d,b)::ρ) d=b:=by
 simp[getB,Nat.beq_refl]
theorem spotD_set{e:GEnv}{d:Nat}{G:GRoot}{p:Place}(h:p.r≠d):spotD (e.set d G) p=spotD e p:=by
 simp only[spotD,GEnv.set,h,if_false]
theorem Inv.alq{c:Ctx}{KS:Nat→Prop}{e:GEnv}{F:Fs}{ρ:Roots}{w:World}(h:Inv c KS e F ρ w){n:Nat}{q:Place}(hq:getB ρ n=some (.al q)):hasData ρ q.r:=by
 have:=h.roots n
 simp only[RootOK,hq]at this
 exact this.1
theorem Inv.gr{c:Ctx}{KS:Nat→Prop}{e:GEnv}{F:Fs}{ρ:Roots}{w:World}(h:Inv c KS e F ρ w){n:Nat}(hd:hasData ρ n):(e.gr n).isSome:=by
 obtain⟨re,t,x,pd,hd⟩:=hd
 have:=h.roots n
 simp only[RootOK,hd]at this
 obtain⟨ad,g,q,_⟩:=this
 rw[q];rfl
theorem Reads.new{c:Ctx}{KS:Nat→Prop}{e e':GEnv}{F:Fs}{ρ ρ':Roots}{w w':World}{d:Nat}{ks:List Kill}(h:Inv c KS e F ρ w)(hd:getB ρ d=none)
  (hb:∀n,n≠d→getB ρ' n=getB ρ n) (he:∀n,n≠d→e'.gr n=e.gr n∧e'.ala n=e.ala n∧e'.pv n=e.pv n)
  (hk:∀b,KS b→∀o,w'.cell? ⟨b,o,none⟩=w.cell? ⟨b,o,none⟩):Reads w w' KS KS ρ ρ' e e' ks where
 kss:=fun _ h=>h
 ksc:=hk
 data:=fun p _ ⟨re,t,x,pd,hp⟩ _=>by
  have hne:p.r≠d:=fun e=>by rw[e,hd]at hp;cases hp
  exact⟨re,t,x,pd,by rw[hb _ hne];exact hp⟩
 wl:=fun p te g ad _ ⟨re,t,x,pd,hp⟩ hs=>by
  have hne:p.r≠d:=fun e=>by rw[e,hd]at hp;cases hp
  exact⟨g,by simpa only[spotD,(he _ hne).1]using hs,rfl,rfl,rfl⟩
 sv:=fun p s _ ⟨re,t,x,pd,hp⟩ hs=>by
  have hne:p.r≠d:=fun e=>by rw[e,hd]at hp;cases hp
  exact⟨s,by simpa only[spotD,(he _ hne).1]using hs,rfl,rfl⟩
 rf:=fun p s A _ h1 h2=>by
  have hne:p.r≠d:=fun e=>by simp[spotOf,e,hd]at h1
  refine⟨s, ?_,h2⟩
  simp only[spotOf,hb _ hne]at h1 ⊢
  cases hg:getB ρ p.r with
  |none=>rw[hg]at h1;cases h1
  |some b=>
   rw[hg]at h1
   cases b with
   |data=>simpa only[spotD,(he _ hne).1]using h1
   |al q=>
    obtain⟨_,_,_,_,hq⟩:=h.alq hg
    have hne':q.r≠d:=fun e=>by rw[e,hd]at hq;cases hq
    simpa only[spotD,(he _ hne').1,(he _ hne).2.1]using h1
 ap:=fun p _ re t x pe hp=>by
  have hne:p.r≠d:=fun e=>by rw[e,hd]at hp;cases hp
  exact⟨⟨re,t,x,pe,by rw[hb _ hne];exact hp⟩,(he _ hne).2.2⟩
theorem Inv.new{c:Ctx}{KS:Nat→Prop}{e:GEnv}{F:Fs}{ρ:Roots}{w w':World}(h:Inv c KS e F ρ w){d:Nat}(hd:getB ρ d=none)(hp:c.pin d=none)(hh:c.hdr d=none)
  (hs:∀b,b<w.heap.size→Same w w' b) (hz:Grew w w') {re:Bool} {t:Ty} {g:t.G} {ad:Option Addr} (hok:okG w' KS t g)
  (hr:re=true→∃A,ad=some A∧RowAt w' A (cl t g)) (hr':re=false→ad=none) (hn:((ad.map (·.block)).toList++fp t g).Nodup)
  (hf:∀b∈(ad.map (·.block)).toList++fp t g,w.heap.size≤b∧b<w'.heap.size):
  Inv c KS (e.set d ⟨ad,t,g⟩) F ((d,some (.data re t (er t g) none))::ρ) w':=by
 have hb:blk ((d,some (.data re t (er t g) none))::ρ) (e.set d ⟨ad,t,g⟩) d=(ad.map (·.block)).toList++fp t g:=by
  simp only[blk,getB_cons_eq,GEnv.set,if_true,List.append_nil]
 refine h.step (S:=fun n=>n=d) (ks:=[]) (NoHit.nil F ρ)
  {reads:=Reads.new h hd (fun n hn=>getB_cons_ne hn) (fun n hn=>⟨by simp[GEnv.set,hn],rfl,rfl⟩) (fun b hb=>(hs b (h.lt b hb)).2.2)
   out:=fun n hn=>⟨getB_cons_ne hn,by simp[GEnv.set,hn],rfl,rfl,by simp[GEnv.set,hn]⟩
   same:=fun n _ b hb=>hs b (h.blt n b hb)
   size:=hz
   roots:=fun n hn=>by
    subst hn
    simp only[RootOK,getB_cons_eq]
    exact⟨ad,g,by simp[GEnv.set],rfl,hok,hr,hr',by simp[GEnv.set]⟩
   nd:=fun n hn=>by subst hn;rw[hb];assumption
   dj:=fun n m hn hm hnm=>absurd (hn.trans hm.symm) hnm
   src:=fun n hn b hb'=>by subst hn;rw[hb]at hb';exact .inl (hf b hb')
   ksn:=fun b h=> .inl h
   ksd:=fun n hn b hb' hk=>by
    subst hn;rw[hb]at hb'
    have:=h.lt b hk;have:=(hf b hb').1;omega
   pin:=fun n hn A hA=>by subst hn;rw[hp]at hA;cases hA
   hdr:=fun n hn A hA=>by subst hn;rw[hh]at hA;cases hA
   frm:=fun b hb=> .inl (hs b hb)}
end
section
theorem loc_append:∀(p:Path) (t:Ty) (g:t.G) (ad:Option Addr) (q:Path),loc t g ad (p++q)=(loc t g ad p).bind fun s=>loc s.t s.g s.ad q
 |[],t,g,ad,q=>by rw[loc_nil];rfl
 | .L::p,t,g,ad,q=>by
  cases t<;>first|rfl|skip
  exact loc_append p _ _ _ q
 | .R::p,t,g,ad,q=>by
  cases t<;>first|rfl|skip
  exact loc_append p _ _ _ q
 | .I i::p,t,g,ad,q=>by
  cases t<;>first|rfl|skip
  rename_i o u
  cases o with
  |false=>rfl
  |true=>
   simp only[List.cons_append,loc]
   cases g.rows[i]? with
   |none=>rfl
   |some r=>exact loc_append p _ _ _ q
 | .A i::p,t,g,ad,q=>by
  cases t<;>first|rfl|skip
  rename_i n u
  simp only[List.cons_append,loc]
  cases(g:List u.G)[i]? with
  |none=>rfl
  |some r=>exact loc_append p _ _ _ q
theorem loc_same{w w':World}{KS KS':Nat→Prop}:∀(π:Path) (t:Ty) (g:t.G) (t2:Ty) (g2:t2.G) (ad:Option Addr) (s:Spot),t.same t2=true→okG w KS t g→okG w' KS' t2 g2→noI π=true→
  loc t g ad π=some s→∃s2,loc t2 g2 ad π=some s2∧s2.ad=s.ad
 |[],t,g,t2,g2,ad,s,_,_,_,_,h=>by
  rw[loc_nil]at h;injection h with h;subst h
  exact⟨_,loc_nil _ _ _,rfl⟩
 | .L::π,t,g,t2,g2,ad,s,hs,h1,h2,hn,h=>by
  cases t<;>first|(cases h;done)|skip
  cases t2<;>first|(cases hs;done)|skip
  simp only[Ty.same,Bool.and_eq_true]at hs
  exact loc_same π _ _ _ _ _ _ hs.1 h1.1 h2.1 hn h
 | .R::π,t,g,t2,g2,ad,s,hs,h1,h2,hn,h=>by
  cases t<;>first|(cases h;done)|skip
  cases t2<;>first|(cases hs;done)|skip
  simp only[Ty.same,Bool.and_eq_true]at hs
  simp only[loc,Ty.same_sz hs.1]at h ⊢
  exact loc_same π _ _ _ _ _ _ hs.2 h1.2 h2.2 hn h
 | .I i::π,t,g,t2,g2,ad,s,hs,h1,h2,hn,h=>by cases hn
 | .A i::π,t,g,t2,g2,ad,s,hs,h1,h2,hn,h=>by
  cases t<;>first|(cases h;done)|skip
  cases t2<;>first|(cases hs;done)|skip
  rename_i n u n2 u2
  simp only[Ty.same,Bool.and_eq_true]at hs
  obtain rfl:=Nat.eq_of_beq_eq_true hs.1
  simp only[loc,Ty.same_sz hs.2]at h ⊢
  obtain⟨l1,k1⟩:=h1
  obtain⟨l2,k2⟩:=h2
  split at h
  ·rename_i r hr
   have hi:i<List.length g:=(List.getElem?_eq_some_iff.1 hr).1
   have hi2:i<List.length g2:=by rw[l2,←l1];exact hi
   have hr2:(g2:List u2.G)[i]? =some (List.get g2 ⟨i,hi2⟩):=by simp[hi2]
   obtain⟨s2,q1,q2⟩:=loc_same π _ _ u2 (List.get g2 ⟨i,hi2⟩) _ _ hs.2 (k1 r (List.mem_of_getElem? hr)) (k2 _ (List.get_mem _ _)) hn h
   exact⟨s2,by rw[hr2];exact q1,q2⟩
  ·cases h
theorem Reads.off{c:Ctx}{KS KS':Nat→Prop}{e e':GEnv}{F:Fs}{ρ ρ':Roots}{w w':World}{S:Nat→Prop}{ks:List Kill}(h:Inv c KS e F ρ w)(nh:NoHit ks F ρ)
  (hS:∀n,S n→getB ρ n=none∨ .all n∈ks)
  (hb:∀n,¬S n→getB ρ' n=getB ρ n) (he:∀n,¬S n→e'.gr n=e.gr n∧e'.ala n=e.ala n∧e'.pv n=e.pv n)
  (hs:∀b,KS b→KS' b) (hk:∀b,KS b→∀o,w'.cell? ⟨b,o,none⟩=w.cell? ⟨b,o,none⟩):Reads w w' KS KS' ρ ρ' e e' ks:=by
 have key:∀p:Place,(∀k∈ks,hit k (.wl p)=false)∨(∀k∈ks,hit k (.sv p)=false)∨(∀k∈ks,hit k (.rf p)=false)∨(∀k∈ks,hit k (.ap p)=false)→getB ρ p.r≠none→¬S p.r:=fun p hp hd hSp=>by
  rcases hS _ hSp with h1|h1
  ·exact hd h1
  ·rcases hp with hp|hp|hp|hp<;>(have:=hp _ h1;simp[hit]at this)
 have hdn:∀n,hasData ρ n→getB ρ n≠none:=fun n ⟨_,_,_,_,hn⟩=>by rw[hn];simp
 refine Reads.of hs hk ?_ ?_ ?_ ?_ ?_
 ·intro p hp hd _
  have hne:=key p (hp.elim (fun h=> .inl h) (fun h=> .inr (.inl h))) (hdn _ hd)
  simpa only[hasData,hb _ hne]using hd
 ·intro p te g ad hp hd hs
  have hne:=key p (.inl hp) (hdn _ hd)
  exact⟨g,by simpa only[spotD,(he _ hne).1]using hs,rfl,rfl,rfl⟩
 ·intro p hp hd _
  have hne:=key p (.inr (.inl hp)) (hdn _ hd)
  simp only[spotD,(he _ hne).1]
 ·intro p s A hp h1 h2
  have hne:=key p (.inr (.inr (.inl hp))) (fun e=>by simp[spotOf,e]at h1)
  refine⟨s, ?_,h2⟩
  simp only[spotOf,hb _ hne]at h1 ⊢
  cases hg:getB ρ p.r with
  |none=>rw[hg]at h1;cases h1
  |some b=>
   rw[hg]at h1
   cases b with
   |data=>simpa only[spotD,(he _ hne).1]using h1
   |al q=>
    have hne':=key q (.inr (.inl fun k hk=>hitA_sv (nh.als _ _ hg k hk))) (hdn _ (h.alq hg))
    simpa only[spotD,(he _ hne').1,(he _ hne).2.1]using h1
 ·intro p hp re t x pe hd
  have hne:=key p (.inr (.inr (.inr hp))) (by rw[hd];simp)
  exact⟨⟨re,t,x,pe,by rw[hb _ hne];exact hd⟩,(he _ hne).2.2⟩
theorem behind_append:∀(p r:Path),behind p (p++r)=some r
 |[],r=>rfl
 |a::p,r=>by
  have:stepC a a=true:=by cases a<;>rfl
  simp only[List.cons_append,behind,this,if_true]
  exact behind_append p r
theorem scal_below{t t':Ty}(hf:t.fits t'=true)(hs:t'.scal=true){g:t.G}{ad:Option Addr}{r:Path}{s:Spot}(h:loc t g ad r=some s):r=[]:=by
 cases r with
 |nil=>rfl
 |cons a r=>
  cases t<;>cases t'<;>first|(cases hs;done)|(cases hf;done)|(cases a<;>cases h;done)
theorem scal_same{a b:Ty}(h:a.same b=true)(hs:a.scal=true):b.scal=true:=by
 cases a<;>cases b<;>first|rfl|(cases h;done)|(cases hs;done)
theorem hit_hd_wl{r:Nat}{π:Path}{p:Place}(h:hit (.hd ⟨r,π⟩) (.wl p)=false)(hp:p.r=r):∀q,p.π≠π++q:=fun q e=>by
 simp[hit,killsPlace,hp,e,behind_append]at h
theorem hit_hd_sv{r:Nat}{π:Path}{p:Place}(h:hit (.hd ⟨r,π⟩) (.sv p)=false)(hp:p.r=r):(∀q,p.π≠π++q)∧∀q,noI q=true→π≠p.π++q:=by
 simp only[hit,Bool.or_eq_false_iff]at h
 exact⟨fun q e=>by have:=h.2;simp[killsPlace,hp,e,behind_append]at this,fun q hq e=>by have:=h.1;simp[killsStruct,hp,e,behind_append,hq]at this⟩
theorem hit_sc_sv{r:Nat}{π:Path}{p:Place}(h:hit (.sc ⟨r,π⟩) (.sv p)=false)(hp:p.r=r):∀q,noI q=true→π≠p.π++q:=fun q hq e=>by
 simp[hit,killsStruct,hp,e,behind_append,hq]at h
theorem hit_hd_rf{r:Nat}{π:Path}{p:Place}(h:hit (.hd ⟨r,π⟩) (.rf p)=false)(hp:p.r=r):∀q,p.π=π++q→noI q=true:=fun q e=>by
 simpa[hit,killsPlace,hp,e,behind_append]using h
theorem hit_gn_rf{r:Nat}{π:Path}{p:Place}(h:hit (.gn ⟨r,π⟩) (.rf p)=false)(hp:p.r=r):∀q,p.π=π++q→q=[]:=fun q e=>by
 cases q with
 |nil=>rfl
 |cons a q=>simp[hit,killsPlace,hp,e,behind_append]at h
def Covers(ks:List Kill)(r:Nat)(π:Path)(t':Ty):Prop:=
 (.hd ⟨r,π⟩∈ks∧((∀n,t'≠ .gone n)∨ .gn ⟨r,π⟩∈ks))∨(.sc ⟨r,π⟩∈ks∧t'.scal=true)
theorem Reads.put{c:Ctx}{KS KS':Nat→Prop}{e e':GEnv}{F:Fs}{ρ ρ':Roots}{w w':World}{S:Nat→Prop}{ks:List Kill}(h:Inv c KS e F ρ w)(nh:NoHit ks F ρ)
  {r:Nat} {re:Bool} {t:Ty} {x:t.D} {pd:Option (Path×(te:Ty)×List te.D)} {ad:Option Addr} {g:t.G} (hr:getB ρ r=some (.data re t x pd)) (hg:e.gr r=some ⟨ad,t,g⟩) (hok:okG w KS t g) (hsp:∀A,ad=some A→A.spot=none)
  {π:Path} {s:Spot} {t':Ty} {g':t'.G} {T:Ty} {G:T.G} {dr:List Nat} (hl:loc t g ad π=some s) (P:PutG w KS t g ad π s t' g' T G dr) (hK:Covers ks r π t') (hT:okG w' KS' T G)
  {y:T.D} (hr':getB ρ' r=some (.data re T y none)) (hg':e'.gr r=some ⟨ad,T,G⟩)
  (hS:∀n,S n→n≠r→getB ρ n=none∨ .all n∈ks)
  (hb:∀n,¬S n→n≠r→getB ρ' n=getB ρ n) (he:∀n,¬S n→n≠r→e'.gr n=e.gr n∧e'.ala n=e.ala n∧e'.pv n=e.pv n)
  (hs:∀b,KS b→KS' b) (hk:∀b,KS b→∀o,w'.cell? ⟨b,o,none⟩=w.cell? ⟨b,o,none⟩):Reads w w' KS KS' ρ ρ' e e' ks:=by
 obtain⟨t2,g2,⟨hfit,ht2⟩,_,hst2⟩:=P.st2
 have hL:=locG π t g ad s hl hsp hok
 have hd2:loc T G ad π=some ⟨t2,g2,s.ad⟩:=by have:=hst2 [];rw[List.append_nil,loc_nil]at this;exact this
 have hok2:okG w' KS' t2 g2:=(locG π T G ad _ hd2 hsp hT).ok
 have key:∀p:Place,(∀k∈ks,hit k (.wl p)=false)∨(∀k∈ks,hit k (.sv p)=false)∨(∀k∈ks,hit k (.rf p)=false)∨(∀k∈ks,hit k (.ap p)=false)→getB ρ p.r≠none→p.r≠r→¬S p.r:=fun p hp hd hne hSp=>by
  rcases hS _ hSp hne with h1|h1
  ·exact hd h1
  ·rcases hp with hp|hp|hp|hp<;>(have:=hp _ h1;simp[hit]at this)
 have hdn:∀n,hasData ρ n→getB ρ n≠none:=fun n ⟨_,_,_,_,hn⟩=>by rw[hn];simp
 have spr:∀p:Place,p.r=r→spotD e p=loc t g ad p.π:=fun p hp=>by simp[spotD,hp,hg]
 have spr':∀p:Place,p.r=r→spotD e' p=loc T G ad p.π:=fun p hp=>by simp[spotD,hp,hg']
 have svsame:∀p s,(∀k∈ks,hit k (.sv p)=false)→hasData ρ p.r→spotD e p=some s→∃s',spotD e' p=some s'∧s'.t=s.t∧cl s'.t s'.g=cl s.t s.g:=fun p sq hp hd hsq=>by
  by_cases hpr:p.r=r
  ·rw[spr p hpr]at hsq
   rw[spr' p hpr]
   have fin:(∀q,p.π≠π++q)→(∀q,noI q=true→π≠p.π++q)→∃s',loc T G ad p.π=some s'∧s'.t=sq.t∧cl s'.t s'.g=cl sq.t sq.g:=fun q1 q2=>by
    obtain⟨sq',p1,p2⟩:=P.st1 p.π sq hsq q1
    by_cases hb:∃q,π=p.π++q
    ·obtain⟨q,hq⟩:=hb
     have hn:noI q=false:=by
      cases hn:noI q with
      |false=>rfl
      |true=>exact absurd hq (q2 q hn)
     obtain⟨k1,k2⟩:=p2.cells q hq hn
     exact⟨sq',p1,k2,k1⟩
    ·rw[p2.same fun q e=>hb ⟨q,e⟩]at p1
     exact⟨sq,p1,rfl,rfl⟩
   rcases hK with⟨hk1,_⟩|⟨hk1,hk2⟩
   ·obtain⟨q1,q2⟩:=hit_hd_sv (hp _ hk1) hpr
    exact fin q1 q2
   ·have q2:=hit_sc_sv (hp _ hk1) hpr
    refine fin (fun q hq=> ?_) q2
    rw[hq,loc_append,hl]at hsq
    have hq0:q=[]:=scal_below hfit (scal_same ht2 hk2) hsq
    rw[hq0,List.append_nil]at hq
    exact absurd (by rw[hq];simp) (q2 [] rfl)
  ·have hne:=key p (.inr (.inl hp)) (hdn _ hd) hpr
   exact⟨sq,by simpa only[spotD,(he _ hne hpr).1]using hsq,rfl,rfl⟩
 have noap:∀p:Place,(∀k∈ks,hit k (.ap p)=false)→p.r≠r:=fun p hp e=>by
  rcases hK with⟨hk1,_⟩|⟨hk1,_⟩<;>(have:=hp _ hk1;simp[hit,e]at this)
 refine⟨hs,hk, ?_, ?_,svsame, ?_, ?_⟩
 ·intro p hp hd _
  by_cases hpr:p.r=r
  ·exact⟨re,T,y,none,by rw[hpr];exact hr'⟩
  ·have hne:=key p (hp.elim (fun h=> .inl h) (fun h=> .inr (.inl h))) (hdn _ hd) hpr
   simpa only[hasData,hb _ hne hpr]using hd
 ·intro p te gl ad' hp hd hsq
  by_cases hpr:p.r=r
  ·rw[spr p hpr]at hsq
   rw[spr' p hpr]
   have hnb:∀q,p.π≠π++q:=fun q hq=>by
    rcases hK with⟨hk1,_⟩|⟨hk1,hk2⟩
    ·exact hit_hd_wl (hp _ hk1) hpr q hq
    ·rw[hq,loc_append,hl]at hsq
     have hq0:=scal_below hfit (scal_same ht2 hk2) hsq
     subst hq0
     simp only[Option.bind_some,loc_nil,Option.some.injEq]at hsq
     have hst:s.t= .list true te:=congrArg Spot.t hsq
     have hsc:=scal_same ht2 hk2
     rw[hst]at hfit
     cases t2<;>first|(cases hsc;done)|(cases hfit;done)
   obtain⟨sq',p1,p2⟩:=P.st1 p.π _ hsq hnb
   obtain⟨gl',q1,q2,q3,q4⟩:=p2.list te gl rfl
   exact⟨gl',by rw[p1,q1],q2,q3,q4⟩
  ·have hne:=key p (.inl hp) (hdn _ hd) hpr
   exact⟨gl,by simpa only[spotD,(he _ hne hpr).1]using hsq,rfl,rfl,rfl⟩
 ·intro p sq A hp h1 h2
  by_cases hpr:p.r=r
  ·have e1:spotOf ρ e p=loc t g ad p.π:=by
    have:getB ρ p.r=some (.data re t x pd):=by rw[hpr];exact hr
    simp only[spotOf,this];exact spr p hpr
   have e2:spotOf ρ' e' p=loc T G ad p.π:=by
    have:getB ρ' p.r=some (.data re T y none):=by rw[hpr];exact hr'
    simp only[spotOf,this];exact spr' p hpr
   rw[e1]at h1
   rw[e2]
   by_cases hb:∃q,p.π=π++q
   ·obtain⟨q,hq⟩:=hb
    rw[hq,loc_append,hl]at h1
    rw[hq,hst2 q]
    simp only[Option.bind_some]at h1
    rcases hK with⟨hk1,hk3⟩|⟨hk1,hk2⟩
    ·have hn:=hit_hd_rf (hp _ hk1) hpr q hq
     cases q with
     |nil=>
      rw[loc_nil]at h1 ⊢
      injection h1 with h1;subst h1
      exact⟨_,rfl,h2⟩
     |cons a q=>
      have hng:∀n,t2≠ .gone n:=fun n hn2=>by
       rcases hk3 with hk3|hk3
       ·rw[hn2]at ht2
        cases t'<;>first|(cases ht2;done)|(exact hk3 _ rfl)
       ·have:=hit_gn_rf (hp _ hk3) hpr _ hq;cases this
      have hsame:s.t.same t2=true:=by
       simp only[Ty.fits,Bool.or_eq_true]at hfit
       rcases hfit with h3|h3
       ·exact h3
       ·exfalso
        cases hst:s.t<;>rw[hst]at h3<;>first
         |(cases t2<;>first|(cases h3;done)|exact hng _ rfl)
         |skip
        rename_i n0
        obtain⟨st,sg,sad⟩:=s
        simp only at hst
        subst hst
        cases a<;>cases h1
      obtain⟨s2,q1,q2⟩:=loc_same _ _ _ _ g2 _ _ hsame hL.ok hok2 hn h1
      exact⟨s2,q1,by rw[q2];exact h2⟩
    ·have hq0:=scal_below hfit (scal_same ht2 hk2) h1
     subst hq0
     rw[loc_nil]at h1 ⊢
     injection h1 with h1;subst h1
     exact⟨_,rfl,h2⟩
   ·obtain⟨sq',p1,p2⟩:=P.st1 p.π sq h1 fun q e=>hb ⟨q,e⟩
    exact⟨sq',p1,by rw[p2.ad];exact h2⟩
  ·have hne:=key p (.inr (.inr (.inl hp))) (fun e=>by simp[spotOf,e]at h1) hpr
   simp only[spotOf,hb _ hne hpr]at h1 ⊢
   cases hgb:getB ρ p.r with
   |none=>rw[hgb]at h1;cases h1
   |some b=>
    rw[hgb]at h1
    cases b with
    |data=>exact⟨sq,by simpa only[spotD,(he _ hne hpr).1]using h1,h2⟩
    |al q=>
     simp only at h1 ⊢
     split at h1
     ·rename_i hnI
      rw[if_pos hnI,(he _ hne hpr).2.1]
      by_cases hqr:q.r=r
      ·cases hsq:spotD e q with
       |none=>rw[hsq]at h1;cases h1
       |some sa=>
        rw[hsq,Option.bind_some]at h1
        obtain⟨sb,b1,b2,b3⟩:=svsame q sa (fun k hk=>hitA_sv (nh.als _ _ hgb k hk)) (h.alq hgb) hsq
        rw[b1,Option.bind_some]
        rw[spr q hqr]at hsq;rw[spr' q hqr]at b1
        have o1:=(locG q.π t g ad _ hsq hsp hok).ok
        have o2:=(locG q.π T G ad _ b1 hsp hT).ok
        obtain⟨s2,c1,c2⟩:=loc_same p.π sa.t sa.g sb.t sb.g _ _ (by rw[b2];exact Ty.same_refl _) o1 o2 hnI h1
        exact⟨s2,c1,by rw[c2];exact h2⟩
      ·have hne':=key q (.inr (.inl fun k hk=>hitA_sv (nh.als _ _ hgb k hk))) (hdn _ (h.alq hgb)) hqr
       have hsame:spotD e' q=spotD e q:=by simp only[spotD,(he _ hne' hqr).1]
       rw[hsame]
       exact⟨sq,h1,h2⟩
     ·cases h1
 ·intro p hp re' t'' x' pe hd
  have hpr:=noap p hp
  have hne:=key p (.inr (.inr (.inr hp))) (by rw[hd];simp) hpr
  exact⟨⟨re',t'',x',pe,by rw[hb _ hne hpr];exact hd⟩,(he _ hne hpr).2.2⟩
end
section
theorem RowAt.same_cells{w:World}{A:Addr}{cs:List Value}(h:RowAt w A cs):InBlk w w A cs.length cs:=
 ⟨rfl,⟨fun _=>rfl,fun _ _=>rfl,h.2.1⟩,.inl rfl⟩
def GEnv.put(e:GEnv)(r:Nat)(G:GRoot):GEnv:=
 {e with gr:=fun n=>if n=r then some G else e.gr n,pb:=fun n=>if n=r then []else e.pb n}
theorem Inv.root{c:Ctx}{KS:Nat→Prop}{e:GEnv}{F:Fs}{ρ:Roots}{w:World}(h:Inv c KS e F ρ w){n:Nat}{re:Bool}{t:Ty}{x:t.D}{pd:Option (Path×(te:Ty)×List te.D)}(hr:getB ρ n=some (.data re t x pd)):
  ∃ad g,e.gr n=some ⟨ad,t,g⟩∧er t g=x∧okG w KS t g∧(∀A,ad=some A→re=true∧RowAt w A (cl t g))∧(re=true→∃A,ad=some A)∧
   blk ρ e n=(ad.map (·.block)).toList++fp t g++e.pb n:=by
 have:=h.roots n
 simp only[RootOK,hr]at this
 obtain⟨ad,g,q1,q2,q3,q4,q5,_⟩:=this
 refine⟨ad,g,q1,q2,q3,fun A hA=> ?_,fun hre=>(q4 hre).imp fun A hA=>hA.1,by simp only[blk,hr,q1]⟩
 cases re with
 |true=>obtain⟨A',hA',hrow⟩:=q4 rfl;rw[hA]at hA';cases hA';exact⟨rfl,hrow⟩
 |false=>rw[q5 rfl]at hA;cases hA
theorem Inv.fill{c:Ctx}{KS:Nat→Prop}{e:GEnv}{F:Fs}{ρ ρ':Roots}{w w':World}{ks:List Kill}(h:Inv c KS e F ρ w)(nh:NoHit ks F ρ)
  {r hd:Nat} (hne:hd≠r) {re:Bool} {t:Ty} {x:t.D} {pd:Option (Path×(te:Ty)×List te.D)} (hr:getB ρ r=some (.data re t x pd)) {ad:Option Addr} {g:t.G} (hg:e.gr r=some ⟨ad,t,g⟩)
  {t':Ty} {x':t'.D} (hh:getB ρ hd=some (.data false t' x' none)) {g':t'.G} (hg':e.gr hd=some ⟨none,t',g'⟩) (hall: .all hd∈ks)
  {π:Path} {s:Spot} (hl:loc t g ad π=some s) {T:Ty} {G:T.G} {dr:List Nat} (P:PutG w KS t g ad π s t' g' T G dr) (hK:Covers ks r π t')
  (hρr:getB ρ' r=some (.data re T (er T G) none)) (hρh:getB ρ' hd=none) (hρ:∀n,n≠r→n≠hd→getB ρ' n=getB ρ n)
  (hsame:∀b,b<w.heap.size→(∀B,s.ad=some B→B.block≠b)→Same w w' b) (hz:Grew w w')
  (hin:∀B,s.ad=some B→InBlk w w' B s.t.sz (cl t' g'))
  (hhdr:∀hh,c.hdr r=some hh→π≠[]):
  Inv c (fun b=>KS b∨b∈dr) (e.put r ⟨ad,T,G⟩) F ρ' w':=by
 obtain⟨ad0,g0,q1,q2,q3,q4,q5,q6⟩:=h.root hr
 rw[hg]at q1;cases q1
 obtain⟨ad1,g1,p1,p2,p3,p4,p5,p6⟩:=h.root hh
 rw[hg']at p1;cases p1
 have hsp:∀A,ad=some A→A.spot=none:=fun A hA=>(q4 A hA).2.1
 have hL:=locG π t g ad s hl hsp q3
 have nd:=h.nd r
 rw[q6]at nd
 have ndh:=h.nd hd
 rw[p6]at ndh
 simp only[Option.map_none,Option.toList_none,List.nil_append,List.nodup_append]at ndh
 simp only[List.nodup_append]at nd
 obtain⟨⟨nd1,nd2,nd3⟩,_,_⟩:=nd
 have bi:∀b∈fp t g,b∈blk ρ e r:=fun b hb=>by rw[q6];simp[hb]
 have bh:∀b∈fp t' g',b∈blk ρ e hd:=fun b hb=>by rw[p6];simp[hb]
 have ba:∀A,ad=some A→A.block∈blk ρ e r:=fun A hA=>by rw[q6,hA];simp
 have hAn:∀A,ad=some A→A.block∉fp t g:=fun A hA hm=>nd3 A.block (by simp[hA]) _ hm rfl
 have hBr:∀B,s.ad=some B→B.block∈blk ρ e r:=fun B hB=>by
  rcases hL.where_ hB with⟨_,A,hA,hAB⟩|⟨hn,_⟩
  ·rw[hAB];exact ba A hA
  ·exact bi _ (hL.in_ hB hn)
 have hKc:∀b,KS b→∀o,w'.cell? ⟨b,o,none⟩=w.cell? ⟨b,o,none⟩:=fun b hb=>(hsame b (h.lt b hb) fun B hB e=>h.ks r _ (hBr B hB) (by rw[e];exact hb)).2.2
 have hsN:∀n,n≠r→∀b∈blk ρ e n,Same w w' b:=fun n hn b hb=>hsame b (h.blt n b hb) fun B hB e=>h.dj n r hn b hb (by rw[←e];exact hBr B hB)
 have okg':okG w' (fun b=>KS b∨b∈dr) t' g':=okG_frame' (fun b hb=> .inl hb) hKc (fun b hb=>hsN hd hne b (bh b hb)) p3
 have hT:okG w' (fun b=>KS b∨b∈dr) T G:=P.ok w' _ (fun b hb=> .inl hb) (fun b hb=> .inr hb) okg' hKc nd2 hAn
  (fun b hb hns hB=>hsame b (h.blt r b (bi b hb)) hB) (fun B hB _=>hin B hB)
 have hlen':(cl t' g').length=s.t.sz:=by rw[okG_len _ _ p3,P.szs]
 have hlens:(cl s.t s.g).length=s.t.sz:=okG_len _ _ hL.ok
 have hrow:∀A,ad=some A→RowAt w' A (cl T G):=fun A hA=>by
  have hr0:=(q4 A hA).2
  cases hn:noI π with
  |true=>
   obtain⟨pre,post,e1,e2,e3⟩:=P.out hn
   rw[e3];rw[e1]at hr0
   refine rowUpd hr0 ?_ (by rw[hlen',hlens])
   rw[hA]at e2
   have:=hin _ e2
   rw[hlens];exact this
  |false=>
   rw[P.inn hn]
   refine Same.row (hsame A.block (h.blt r _ (ba A hA)) fun B hB e=> ?_) hr0
   exact hAn A hA (by rw[←e];exact hL.in_ hB hn)
 have hpm:=P.perm
 have ndall:(fp t g++fp t' g').Nodup:=List.nodup_append.2 ⟨nd2,ndh.1,fun a ha b hb e=>h.dj r hd (Ne.symm hne) a (bi a ha) (by rw[e];exact bh b hb)⟩
 have ndT:=hpm.nodup_iff.1 ndall
 obtain⟨ndT1,ndT2,ndT3⟩:=List.nodup_append.1 ndT
 have hTsub:∀b,b∈fp T G∨b∈dr→b∈fp t g∨b∈fp t' g':=fun b hb=>by
  have:b∈fp t g++fp t' g':=hpm.mem_iff.2 (by rcases hb with hb|hb<;>simp[hb])
  simpa using this
 have hsrc:∀b,b∈fp T G∨b∈dr→b∈blk ρ e r∨b∈blk ρ e hd:=fun b hb=>(hTsub b hb).imp (bi b) (bh b)
 have hbr:blk ρ' (e.put r ⟨ad,T,G⟩) r=(ad.map (·.block)).toList++fp T G:=by simp[blk,hρr,GEnv.put]
 have hbh:blk ρ' (e.put r ⟨ad,T,G⟩) hd=[]:=by simp[blk,hρh]
 have hpinh:∀A,c.pin hd≠some A:=fun A hA=>by
  obtain⟨_,h2⟩:=h.pin hd A hA
  obtain⟨⟨g2,h3⟩,_⟩:=h2 _ _ _ _ hh
  rw[hg']at h3;cases h3
 have hAT:∀A,ad=some A→A.block∉fp T G:=fun A hA hm=>by
  rcases hTsub _ (.inl hm)with h1|h1
  ·exact hAn A hA h1
  ·exact h.dj r hd (Ne.symm hne) _ (ba A hA) (bh _ h1)
 refine h.step (S:=fun n=>n=r∨n=hd) nh
  {reads:= ?_
   out:= ?_
   same:= ?_
   size:=hz
   roots:= ?_
   nd:= ?_
   dj:= ?_
   src:= ?_
   ksn:= ?_
   ksd:= ?_
   pin:= ?_
   hdr:= ?_
   frm:= ?_}
 ·refine Reads.put (S:=fun n=>n=r∨n=hd) h nh hr hg q3 hsp hl P hK hT hρr (by simp[GEnv.put]) ?_ ?_ ?_ (fun b hb=> .inl hb) hKc
  ·intro n hn hnr
   rcases hn with hn|hn
   ·exact absurd hn hnr
   ·subst hn;exact .inr hall
  ·intro n hn hnr
   exact hρ n hnr fun e=>hn (.inr e)
  ·intro n hn hnr
   exact⟨by simp[GEnv.put,hnr],rfl,rfl⟩
 ·intro n hn
  have h1:n≠r:=fun e=>hn (.inl e)
  have h2:n≠hd:=fun e=>hn (.inr e)
  exact⟨hρ n h1 h2,by simp[GEnv.put,h1],rfl,rfl,by simp[GEnv.put,h1]⟩
 ·intro n hn b hb
  exact hsN n (fun e=>hn (.inl e)) b hb
 ·intro n hn
  rcases hn with rfl|rfl
  ·simp only[RootOK,hρr]
   refine⟨ad,G,by simp[GEnv.put],rfl,hT,fun hre=> ?_,fun hre=> ?_,by simp[GEnv.put]⟩
   ·obtain⟨A,hA⟩:=q5 hre
    exact⟨A,hA,hrow A hA⟩
   ·cases hA:ad with
    |none=>rfl
    |some A=>have:=(q4 A hA).1;rw[hre]at this;cases this
  ·simp only[RootOK,hρh]
 ·intro n hn
  rcases hn with rfl|rfl
  ·rw[hbr]
   refine List.nodup_append.2 ⟨nd1,ndT1,fun a ha b hb e=> ?_⟩
   cases hA:ad with
   |none=>rw[hA]at ha;simp at ha
   |some A=>
    rw[hA]at ha
    simp at ha
    subst ha;subst e
    exact hAT A hA hb
  ·rw[hbh];simp
 ·intro n m hn hm hnm b hb1 hb2
  rcases hn with rfl|rfl
  ·rcases hm with rfl|rfl
   ·exact hnm rfl
   ·rw[hbh]at hb2;cases hb2
  ·rw[hbh]at hb1;cases hb1
 ·intro n hn b hb
  rcases hn with rfl|rfl
  ·rw[hbr]at hb
   right
   rcases List.mem_append.1 hb with hb|hb
   ·refine⟨n,.inl rfl, ?_,.inl rfl⟩
    rw[q6];simp only[List.mem_append];exact .inl (.inl hb)
   ·rcases hsrc b (.inl hb)with h1|h1
    ·exact⟨n,.inl rfl,h1,.inl rfl⟩
    ·exact⟨hd,.inr rfl,h1,.inr fun A hA=>absurd hA (hpinh A)⟩
  ·rw[hbh]at hb;cases hb
 ·intro b hb
  rcases hb with hb|hb
  ·exact .inl hb
  ·rcases hTsub b (.inr hb)with h1|h1
   ·refine .inr (.inr ⟨r,.inl rfl,bi b h1,fun A hA e=> ?_⟩)
    obtain⟨_,h2⟩:=h.pin r A hA
    obtain⟨⟨g2,h3⟩,_⟩:=h2 _ _ _ _ hr
    rw[hg]at h3
    injection h3 with h3
    have hAd:ad=some A:=congrArg GRoot.ad h3
    exact hAn A hAd (by rw[e];exact h1)
   ·exact .inr (.inr ⟨hd,.inr rfl,bh b h1,fun A hA=>absurd hA (hpinh A)⟩)
 ·intro n hn b hb hk
  rcases hn with rfl|rfl
  ·rw[hbr]at hb
   rcases List.mem_append.1 hb with hb|hb
   ·have hb':b∈blk ρ e n:=by rw[q6];simp only[List.mem_append];exact .inl (.inl hb)
    rcases hk with hk|hk
    ·exact h.ks n b hb' hk
    ·cases hA:ad with
     |none=>rw[hA]at hb;simp at hb
     |some A=>
      rw[hA]at hb;simp at hb;subst hb
      rcases hTsub _ (.inr hk)with h1|h1
      ·exact hAn A hA h1
      ·exact h.dj n hd (Ne.symm hne) _ hb' (bh _ h1)
   ·rcases hk with hk|hk
    ·rcases hsrc b (.inl hb)with h1|h1
     ·exact h.ks n b h1 hk
     ·exact h.ks hd b h1 hk
    ·exact ndT3 b hb b (by simp[hk]) rfl
  ·rw[hbh]at hb;cases hb
 ·intro n hn A hA
  rcases hn with rfl|rfl
  ·obtain⟨h1,h2⟩:=h.pin n A hA
   obtain⟨⟨g2,h3⟩,h4⟩:=h2 _ _ _ _ hr
   rw[hg]at h3
   injection h3 with h3
   have hAd:ad=some A:=congrArg GRoot.ad h3
   refine⟨fun q hq=>(by rw[hρr]at hq;cases hq),fun re' t'' x'' pd'' hd'=> ?_⟩
   rw[hρr]at hd';cases hd'
   exact⟨⟨G,by simp[GEnv.put,hAd]⟩,by rw[P.sz];exact h4⟩
  ·exact absurd hA (hpinh A)
 ·intro n hn hh' hp re' t'' x'' pd'' hd'
  rcases hn with rfl|rfl
  ·obtain⟨te,gl,e1,e2⟩:=h.hdr n hh' hp _ _ _ _ hr
   rw[hg]at e1
   injection e1 with e1
   injection e1 with e3 e4 e5
   subst e4
   cases e5
   subst e3
   have hTe:=P.lst te rfl (hhdr hh' hp)
   subst hTe
   have hne':=hhdr hh' hp
   obtain⟨sq',k1,k2⟩:=P.st1 [] _ (loc_nil _ _ _) (fun q e=>hne' (by
    cases π with
    |nil=>rfl
    |cons a b=>simp at e))
   obtain⟨gl',k3,k4,k5,k6⟩:=k2.list te gl rfl
   rw[loc_nil]at k1
   injection k1 with k1
   rw[k3]at k1
   have:G=gl':=by injection k1
   refine⟨te,G,by simp[GEnv.put], ?_⟩
   rw[e2,this,k4,k5,k6]
  ·rw[hρh]at hd';cases hd'
 ·intro b hb
  by_cases hB:∃B,s.ad=some B∧B.block=b
  ·obtain⟨B,hB,rfl⟩:=hB
   rcases h.may r _ (hBr B hB)with h1|h1|⟨A,h1,h2⟩
   ·exact .inr (.inl h1)
   ·exact .inr (.inr (.inl h1))
   ·obtain⟨i1,⟨i2,i3,_⟩,i4⟩:=hin B hB
    obtain⟨_,h3⟩:=h.pin r A h1
    obtain⟨⟨g2,h4⟩,h5⟩:=h3 _ _ _ _ hr
    rw[hg]at h4
    injection h4 with h4
    have hAd:ad=some A:=congrArg GRoot.ad h4
    refine .inr (.inr (.inr ⟨i1,i2,(fun o ho=>i3 o fun hh=>ho ?_),i4⟩))
    rcases hL.where_ hB with⟨hn,_⟩|⟨hn,_⟩
    ·obtain⟨pre,post,e1,e2,_⟩:=P.out hn
     rw[hB,hAd]at e2
     injection e2 with e2
     have hlen:=okG_len t g q3
     rw[e1]at hlen
     simp only[List.length_append,hlens]at hlen
     rw[←h2]
     refine h5 o ?_ ?_
     ·have:=hh.1;rw[e2]at this;simp only[Addr.plus]at this;omega
     ·have:=hh.2;rw[e2]at this;simp only[Addr.plus]at this;omega
    ·exact absurd (by rw[h2];exact hL.in_ hB hn) (hAn A hAd)
  ·exact .inl (hsame b hb fun B hB' e=>hB ⟨B,hB',e⟩)
end
section
theorem nodup_perm{l m:List Nat}(h:l.Perm m)(hn:l.Nodup):m.Nodup:=h.nodup_iff.1 hn
theorem Inv.takeTemp{c:Ctx}{KS:Nat→Prop}{e:GEnv}{F:Fs}{ρ ρ':Roots}{w:World}{ks:List Kill}(h:Inv c KS e F ρ w)(nh:NoHit ks F ρ)
  {r hd:Nat} (hne:hd≠r) {t:Ty} {x:t.D} {pd:Option (Path×(te:Ty)×List te.D)} (hr:getB ρ r=some (.data false t x pd)) {ad:Option Addr} {g:t.G} (hg:e.gr r=some ⟨ad,t,g⟩)
  (hh:getB ρ hd=none) (hp:c.pin hd=none) (hph:c.hdr hd=none) (hall: .all r∈ks)
  {π:Path} {s:Spot} (hl:loc t g ad π=some s)
  (hρr:getB ρ' r=none) (hρh:getB ρ' hd=some (.data false s.t (er s.t s.g) none)) (hρ:∀n,n≠r→n≠hd→getB ρ' n=getB ρ n):
  Inv c KS (e.set hd ⟨none,s.t,s.g⟩) F ρ' w:=by
 obtain⟨ad0,g0,q1,q2,q3,q4,q5,q6⟩:=h.root hr
 rw[hg]at q1;cases q1
 have hsp:∀A,ad=some A→A.spot=none:=fun A hA=>(q4 A hA).2.1
 have hL:=locG π t g ad s hl hsp q3
 have nd:=h.nd r
 rw[q6]at nd
 simp only[List.nodup_append]at nd
 obtain⟨⟨nd1,nd2,nd3⟩,_,_⟩:=nd
 obtain⟨rest,pm,_⟩:=hL.perm
 have nds:(fp s.t s.g).Nodup:=(List.nodup_append.1 (nodup_perm pm nd2)).1
 have bs:∀b∈fp s.t s.g,b∈blk ρ e r:=fun b hb=>by rw[q6];simp[hL.sub b hb]
 have hbr:blk ρ' (e.set hd ⟨none,s.t,s.g⟩) r=[]:=by simp[blk,hρr]
 have hbh:blk ρ' (e.set hd ⟨none,s.t,s.g⟩) hd=fp s.t s.g:=by simp[blk,hρh,GEnv.set]
 have hpinr:∀A,c.pin r≠some A:=fun A hA=>by
  obtain⟨_,h2⟩:=h.pin r A hA
  obtain⟨⟨g2,h3⟩,_⟩:=h2 _ _ _ _ hr
  rw[hg]at h3
  injection h3 with h3
  have hAd:ad=some A:=congrArg GRoot.ad h3
  have:=(q4 A hAd).1;cases this
 refine h.step (S:=fun n=>n=r∨n=hd) nh
  {reads:= ?_
   out:= ?_
   same:=fun _ _ b _=>Same.refl w b
   size:=Grew.refl _
   roots:= ?_
   nd:= ?_
   dj:= ?_
   src:= ?_
   ksn:=fun b hb=> .inl hb
   ksd:= ?_
   pin:= ?_
   hdr:= ?_
   frm:=fun b _=> .inl (Same.refl w b)}
 ·refine Reads.off (S:=fun n=>n=r∨n=hd) h nh ?_ ?_ ?_ (fun b hb=>hb) (fun _ _ _=>rfl)
  ·intro n hn
   rcases hn with hn|hn
   ·subst hn;exact .inr hall
   ·subst hn;exact .inl hh
  ·intro n hn
   exact hρ n (fun e=>hn (.inl e)) fun e=>hn (.inr e)
  ·intro n hn
   have h2:n≠hd:=fun e=>hn (.inr e)
   exact⟨by simp[GEnv.set,h2],rfl,rfl⟩
 ·intro n hn
  have h1:n≠r:=fun e=>hn (.inl e)
  have h2:n≠hd:=fun e=>hn (.inr e)
  exact⟨hρ n h1 h2,by simp[GEnv.set,h2],rfl,rfl,by simp[GEnv.set,h2]⟩
 ·intro n hn
  rcases hn with rfl|rfl
  ·simp only[RootOK,hρr]
  ·simp only[RootOK,hρh]
   exact⟨none,s.g,by simp[GEnv.set],rfl,hL.ok,fun hre=>(by cases hre),fun _=>rfl,by simp[GEnv.set]⟩
 ·intro n hn
  rcases hn with rfl|rfl
  ·rw[hbr];simp
  ·rw[hbh];exact nds
 ·intro n m hn hm hnm b hb1 hb2
  rcases hn with rfl|rfl
  ·rw[hbr]at hb1;cases hb1
  ·rcases hm with rfl|rfl
   ·rw[hbr]at hb2;cases hb2
   ·exact hnm rfl
 ·intro n hn b hb
  rcases hn with rfl|rfl
  ·rw[hbr]at hb;cases hb
  ·rw[hbh]at hb
   exact .inr ⟨r,.inl rfl,bs b hb,.inr fun A hA=>absurd hA (hpinr A)⟩
 ·intro n hn b hb hk
  rcases hn with rfl|rfl
  ·rw[hbr]at hb;cases hb
  ·rw[hbh]at hb;exact h.ks r b (bs b hb) hk
 ·intro n hn A hA
  rcases hn with rfl|rfl
  ·exact absurd hA (hpinr A)
  ·rw[hp]at hA;cases hA
 ·intro n hn hh' hp' re' t'' x'' pd'' hd'
  rcases hn with rfl|rfl
  ·rw[hρr]at hd';cases hd'
  ·rw[hph]at hp';cases hp'
theorem Inv.takeVar{c:Ctx}{KS:Nat→Prop}{e:GEnv}{F:Fs}{ρ ρ':Roots}{w:World}{ks:List Kill}(h:Inv c KS e F ρ w)(nh:NoHit ks F ρ)
  {r hd:Nat} (hne:hd≠r) {t:Ty} {x:t.D} {pd:Option (Path×(te:Ty)×List te.D)} (hr:getB ρ r=some (.data true t x pd)) {ad:Option Addr} {g:t.G} (hg:e.gr r=some ⟨ad,t,g⟩)
  (hh:getB ρ hd=none) (hp:c.pin hd=none) (hph:c.hdr hd=none)
  {π:Path} {s:Spot} (hl:loc t g ad π=some s) {T:Ty} {G:T.G} {dr:List Nat} (P:PutG w KS t g ad π s (.gone s.t.sz) (cl s.t s.g) T G dr) (hK:Covers ks r π (.gone s.t.sz))
  (hρr:getB ρ' r=some (.data true T (er T G) none)) (hρh:getB ρ' hd=some (.data false s.t (er s.t s.g) none)) (hρ:∀n,n≠r→n≠hd→getB ρ' n=getB ρ n):
  Inv c (fun b=>KS b∨b∈dr) ((e.put r ⟨ad,T,G⟩).set hd ⟨none,s.t,s.g⟩) F ρ' w:=by
 obtain⟨ad0,g0,q1,q2,q3,q4,q5,q6⟩:=h.root hr
 rw[hg]at q1;cases q1
 have hsp:∀A,ad=some A→A.spot=none:=fun A hA=>(q4 A hA).2.1
 have hL:=locG π t g ad s hl hsp q3
 have nd:=h.nd r
 rw[q6]at nd
 simp only[List.nodup_append]at nd
 obtain⟨⟨nd1,nd2,nd3⟩,_,_⟩:=nd
 have bi:∀b∈fp t g,b∈blk ρ e r:=fun b hb=>by rw[q6];simp[hb]
 have hAn:∀A,ad=some A→A.block∉fp t g:=fun A hA hm=>nd3 A.block (by simp[hA]) _ hm rfl
 have hlens:(cl s.t s.g).length=s.t.sz:=okG_len _ _ hL.ok
 have hrows:∀B,s.ad=some B→RowAt w B (cl s.t s.g):=fun B hB=>by
  cases hn:noI π with
  |true=>
   obtain⟨pre,post,e1,e2⟩:=hL.out hn
   rw[hB]at e2
   cases hA:ad with
   |none=>rw[hA]at e2;cases e2
   |some A=>
    rw[hA]at e2
    injection e2 with e2
    have:=(q4 A hA).2
    rw[e1]at this
    rw[e2];exact this.mid
  |false=>
   obtain⟨rest,_,h2⟩:=hL.perm
   obtain⟨B',e,_,hr'⟩:=h2 hn
   rw[hB]at e;cases e;exact hr'
 have okg':okG w (fun b=>KS b∨b∈dr) (.gone s.t.sz) (cl s.t s.g):=⟨hlens,cl_one _ _ hL.ok⟩
 have hT:okG w (fun b=>KS b∨b∈dr) T G:=P.ok w _ (fun b hb=> .inl hb) (fun b hb=> .inr hb) okg' (fun _ _ _=>rfl) nd2 hAn
  (fun b _ _ _=>Same.refl w b) (fun B hB _=>by have:=(hrows B hB).same_cells;rw[hlens]at this;exact this)
 have hrow:∀A,ad=some A→RowAt w A (cl T G):=fun A hA=>by
  have hr0:=(q4 A hA).2
  cases hn:noI π with
  |true=>
   obtain⟨pre,post,e1,e2,e3⟩:=P.out hn
   rw[e3];rw[e1]at hr0;exact hr0
  |false=>rw[P.inn hn];exact hr0
 have hpm:(fp t g).Perm (fp T G++(fp s.t s.g++dr)):=by have:=P.perm;simpa[fp]using this
 have ndT:=nodup_perm hpm nd2
 obtain⟨ndT1,ndT2,ndT3⟩:=List.nodup_append.1 ndT
 obtain⟨nds,_,ndsd⟩:=List.nodup_append.1 ndT2
 have hsrc:∀b,b∈fp T G∨b∈fp s.t s.g∨b∈dr→b∈fp t g:=fun b hb=>hpm.mem_iff.2 (by simpa using hb)
 have hbr:blk ρ' ((e.put r ⟨ad,T,G⟩).set hd ⟨none,s.t,s.g⟩) r=(ad.map (·.block)).toList++fp T G:=by simp[blk,hρr,GEnv.put,GEnv.set,Ne.symm hne]
 have hbh:blk ρ' ((e.put r ⟨ad,T,G⟩).set hd ⟨none,s.t,s.g⟩) hd=fp s.t s.g:=by simp[blk,hρh,GEnv.set]
 have hadr:∀b∈(ad.map (·.block)).toList,b∈blk ρ e r∧b∉fp t g:=fun b hb=>by
  refine⟨by rw[q6];simp only[List.mem_append];exact .inl (.inl hb), ?_⟩
  cases hA:ad with
  |none=>rw[hA]at hb;simp at hb
  |some A=>rw[hA]at hb;simp at hb;subst hb;exact hAn A hA
 refine h.step (S:=fun n=>n=r∨n=hd) nh
  {reads:= ?_
   out:= ?_
   same:=fun _ _ b _=>Same.refl w b
   size:=Grew.refl _
   roots:= ?_
   nd:= ?_
   dj:= ?_
   src:= ?_
   ksn:= ?_
   ksd:= ?_
   pin:= ?_
   hdr:= ?_
   frm:=fun b _=> .inl (Same.refl w b)}
 ·refine Reads.put (S:=fun n=>n=r∨n=hd) h nh hr hg q3 hsp hl P hK hT hρr (by simp[GEnv.put,GEnv.set,Ne.symm hne]) ?_ ?_ ?_ (fun b hb=> .inl hb) (fun _ _ _=>rfl)
  ·intro n hn hnr
   rcases hn with hn|hn
   ·exact absurd hn hnr
   ·subst hn;exact .inl hh
  ·intro n hn hnr
   exact hρ n hnr fun e=>hn (.inr e)
  ·intro n hn hnr
   have h2:n≠hd:=fun e=>hn (.inr e)
   exact⟨by simp[GEnv.put,GEnv.set,hnr,h2],rfl,rfl⟩
 ·intro n hn
  have h1:n≠r:=fun e=>hn (.inl e)
  have h2:n≠hd:=fun e=>hn (.inr e)
  exact⟨hρ n h1 h2,by simp[GEnv.put,GEnv.set,h1,h2],rfl,rfl,by simp[GEnv.put,GEnv.set,h1,h2]⟩
 ·intro n hn
  rcases hn with rfl|rfl
  ·simp only[RootOK,hρr]
   refine⟨ad,G,by simp[GEnv.put,GEnv.set,Ne.symm hne],rfl,hT,fun hre=> ?_,fun hre=>(by cases hre),by simp[GEnv.put,GEnv.set,Ne.symm hne]⟩
   obtain⟨A,hA⟩:=q5 rfl
   exact⟨A,hA,hrow A hA⟩
  ·simp only[RootOK,hρh]
   exact⟨none,s.g,by simp[GEnv.set],rfl,okG_KS (fun b hb=> .inl hb) _ _ hL.ok,fun hre=>(by cases hre),fun _=>rfl,by simp[GEnv.set]⟩
 ·intro n hn
  rcases hn with rfl|rfl
  ·rw[hbr]
   exact List.nodup_append.2 ⟨nd1,ndT1,fun a ha b hb e=>(hadr a ha).2 (by rw[e];exact hsrc b (.inl hb))⟩
  ·rw[hbh];exact nds
 ·intro n m hn hm hnm b hb1 hb2
  rcases hn with rfl|rfl
  ·rcases hm with rfl|rfl
   ·exact hnm rfl
   ·rw[hbr]at hb1;rw[hbh]at hb2
    rcases List.mem_append.1 hb1 with h1|h1
    ·exact(hadr b h1).2 (hsrc b (.inr (.inl hb2)))
    ·exact ndT3 b h1 b (by simp[hb2]) rfl
  ·rcases hm with rfl|rfl
   ·rw[hbr]at hb2;rw[hbh]at hb1
    rcases List.mem_append.1 hb2 with h1|h1
    ·exact(hadr b h1).2 (hsrc b (.inr (.inl hb1)))
    ·exact ndT3 b h1 b (by simp[hb1]) rfl
   ·exact hnm rfl
 ·intro n hn b hb
  right
  rcases hn with rfl|rfl
  ·rw[hbr]at hb
   refine⟨n,.inl rfl, ?_,.inl rfl⟩
   rcases List.mem_append.1 hb with h1|h1
   ·exact(hadr b h1).1
   ·exact bi b (hsrc b (.inl h1))
  ·rw[hbh]at hb
   have hb':=hsrc b (.inr (.inl hb))
   refine⟨r,.inl rfl,bi b hb',.inr fun A hA e=> ?_⟩
   obtain⟨_,h2⟩:=h.pin r A hA
   obtain⟨⟨g2,h3⟩,_⟩:=h2 _ _ _ _ hr
   rw[hg]at h3
   injection h3 with h3
   have hAd:ad=some A:=congrArg GRoot.ad h3
   exact hAn A hAd (by rw[e];exact hb')
 ·intro b hb
  rcases hb with hb|hb
  ·exact .inl hb
  ·have hb':=hsrc b (.inr (.inr hb))
   refine .inr (.inr ⟨r,.inl rfl,bi b hb',fun A hA e=> ?_⟩)
   obtain⟨_,h2⟩:=h.pin r A hA
   obtain⟨⟨g2,h3⟩,_⟩:=h2 _ _ _ _ hr
   rw[hg]at h3
   injection h3 with h3
   have hAd:ad=some A:=congrArg GRoot.ad h3
   exact hAn A hAd (by rw[e];exact hb')
 ·intro n hn b hb hk
  rcases hn with rfl|rfl
  ·rw[hbr]at hb
   rcases List.mem_append.1 hb with h1|h1
   ·rcases hk with hk|hk
    ·exact h.ks n b (hadr b h1).1 hk
    ·exact(hadr b h1).2 (hsrc b (.inr (.inr hk)))
   ·rcases hk with hk|hk
    ·exact h.ks n b (bi b (hsrc b (.inl h1))) hk
    ·exact ndT3 b h1 b (by simp[hk]) rfl
  ·rw[hbh]at hb
   rcases hk with hk|hk
   ·exact h.ks r b (bi b (hsrc b (.inr (.inl hb)))) hk
   ·exact ndsd b hb b hk rfl
 ·intro n hn A hA
  rcases hn with rfl|rfl
  ·obtain⟨h1,h2⟩:=h.pin n A hA
   obtain⟨⟨g2,h3⟩,h4⟩:=h2 _ _ _ _ hr
   rw[hg]at h3
   injection h3 with h3
   have hAd:ad=some A:=congrArg GRoot.ad h3
   refine⟨fun q hq=>(by rw[hρr]at hq;cases hq),fun re' t'' x'' pd'' hd'=> ?_⟩
   rw[hρr]at hd';cases hd'
   exact⟨⟨G,by simp[GEnv.put,GEnv.set,Ne.symm hne,hAd]⟩,by rw[P.sz];exact h4⟩
  ·rw[hp]at hA;cases hA
 ·intro n hn hh' hp' re' t'' x'' pd'' hd'
  rcases hn with rfl|rfl
  ·obtain⟨te,gl,e1,e2⟩:=h.hdr n hh' hp' _ _ _ _ hr
   rw[hg]at e1
   injection e1 with e1
   have hA:ad=none:=congrArg GRoot.ad e1
   obtain⟨A,hA'⟩:=q5 rfl
   rw[hA]at hA';cases hA'
  ·rw[hph]at hp';cases hp'
theorem Inv.drop{c:Ctx}{KS:Nat→Prop}{e:GEnv}{F:Fs}{ρ ρ':Roots}{w:World}{ks:List Kill}(h:Inv c KS e F ρ w)(nh:NoHit ks F ρ)
  {r:Nat} (hp:∀A,c.pin r≠some A) (hall: .all r∈ks) (X:Nat→Prop) (hX:∀b,X b→b∈blk ρ e r)
  (hρr:getB ρ' r=none) (hρ:∀n,n≠r→getB ρ' n=getB ρ n):Inv c (fun b=>KS b∨X b) e F ρ' w:=by
 have hbr:blk ρ' e r=[]:=by simp[blk,hρr]
 refine h.step (S:=fun n=>n=r) nh
  {reads:=Reads.off (S:=fun n=>n=r) h nh (fun n hn=> .inr (by subst hn;exact hall)) (fun n hn=>hρ n hn) (fun n hn=>⟨rfl,rfl,rfl⟩) (fun b hb=> .inl hb) (fun _ _ _=>rfl)
   out:=fun n hn=>⟨hρ n hn,rfl,rfl,rfl,rfl⟩
   same:=fun _ _ b _=>Same.refl w b
   size:=Grew.refl _
   roots:=fun n hn=>by subst hn;simp only[RootOK,hρr]
   nd:=fun n hn=>by subst hn;rw[hbr];simp
   dj:=fun n m hn hm hnm=>absurd (hn.trans hm.symm) hnm
   src:=fun n hn b hb=>by subst hn;rw[hbr]at hb;cases hb
   ksn:=fun b hb=>hb.imp id fun hb=> .inr ⟨r,rfl,hX b hb,fun A hA=>absurd hA (hp A)⟩
   ksd:=fun n hn b hb=>by subst hn;rw[hbr]at hb;cases hb
   pin:=fun n hn A hA=>by subst hn;exact absurd hA (hp A)
   hdr:=fun n hn hh hp' re t x pd hd=>by subst hn;rw[hρr]at hd;cases hd
   frm:=fun b _=> .inl (Same.refl w b)}
end
section
mutual
theorem rvok_nohit{w:World}{KS:Nat→Prop}{ρ:Roots}{e:GEnv}{n:Nat}(hn:getB ρ n=none):∀(v:RV) (x:Value),RVok w KS ρ e v x→hit (.all n) v=false
 | .und,x,h| .skipped,x,h| .v _ _,x,h| .nl,x,h| .pn,x,h=>rfl
 | .wl p,x,h| .vw p _ _,x,h| .sv p,x,h=>by
  obtain⟨⟨_,_,_,_,h1⟩,_⟩:=h
  cases hb:Nat.beq n p.r with
  |false=>simp[hit,hb]
  |true=>
   have:=Nat.eq_of_beq_eq_true hb
   subst this
   rw[hn]at h1;cases h1
 | .rf p,x,h=>by
  obtain⟨s,A,h1,_⟩:=h
  cases hb:Nat.beq n p.r with
  |false=>simp[hit,hb]
  |true=>
   have:=Nat.eq_of_beq_eq_true hb
   subst this
   simp[spotOf,hn]at h1
 | .ap p,x,h=>by
  obtain⟨⟨_,_,_,_,h1⟩,_⟩:=h
  cases hb:Nat.beq n p.r with
  |false=>simp[hit,hb]
  |true=>
   have:=Nat.eq_of_beq_eq_true hb
   subst this
   rw[hn]at h1;cases h1
 | .fn f caps,x,h=>by
  obtain⟨vs,_,h2⟩:=h
  simp only[hit];exact rvoks_nohit hn caps vs h2
 | .fb f caps,x,h=>by
  obtain⟨a,vs,_,_,_,_,h2⟩:=h
  simp only[hit];exact rvoks_nohit hn caps vs h2
 | .tp l,x,h=>by
  obtain⟨vs,_,h2⟩:=h
  simp only[hit];exact rvoks_nohit hn l vs h2
theorem rvoks_nohit{w:World}{KS:Nat→Prop}{ρ:Roots}{e:GEnv}{n:Nat}(hn:getB ρ n=none):∀(l:List RV) (vs:List Value),RVoks w KS ρ e l vs→hits (.all n) l=false
 |[],vs,h=>rfl
 |v::l,vs,h=>by
  obtain⟨x,vs',_,h1,h2⟩:=h
  simp only[hits,rvok_nohit hn v x h1,rvoks_nohit hn l vs' h2];rfl
end
theorem Inv.nohit{c:Ctx}{KS:Nat→Prop}{e:GEnv}{F:Fs}{ρ:Roots}{w:World}(h:Inv c KS e F ρ w){n:Nat}(hn:getB ρ n=none):NoHit [.all n] F ρ:=by
 refine⟨fun p hp t k hk=> ?_,fun m q hq k hk=> ?_⟩
 ·simp only[List.mem_singleton]at hk;subst hk
  exact rvok_nohit hn _ _ (h.regs p hp t)
 ·simp only[List.mem_singleton]at hk;subst hk
  obtain⟨_,_,_,_,h1⟩:=h.alq hq
  cases hb:Nat.beq n q.r with
  |false=>simp[hitA,hb]
  |true=>
   have:=Nat.eq_of_beq_eq_true hb
   subst this
   rw[hn]at h1;cases h1
theorem NoHit.mono{ks ks':List Kill}{F:Fs}{ρ:Roots}(h:NoHit ks F ρ)(hs:∀k∈ks',k∈ks):NoHit ks' F ρ:=
 ⟨fun p hp t k hk=>h.regs p hp t k (hs k hk),fun n q hq k hk=>h.als n q hq k (hs k hk)⟩
theorem NoHit.append{ks ks':List Kill}{F:Fs}{ρ:Roots}(h:NoHit ks F ρ)(h':NoHit ks' F ρ):NoHit (ks++ks') F ρ:=
 ⟨fun p hp t k hk=>(List.mem_append.1 hk).elim (h.regs p hp t k) (h'.regs p hp t k),fun n q hq k hk=>(List.mem_append.1 hk).elim (h.als n q hq k) (h'.als n q hq k)⟩
theorem NoHit.roots{ks:List Kill}{F:Fs}{ρ ρ':Roots}(h:NoHit ks F ρ)(ha:∀n q,getB ρ' n=some (.al q)→getB ρ n=some (.al q)):NoHit ks F ρ':=
 ⟨h.regs,fun n q hq=>h.als n q (ha n q hq)⟩
theorem NoHit.purge{ks:List Kill}{F:Fs}{ρ:Roots}(h:NoHit ks F ρ)(L M:List Kill):NoHit ks (purgesF L F) (purgesB M ρ):=by
 refine⟨fun p hp t k hk=> ?_,fun n q hq k hk=> ?_⟩
 ·obtain⟨p0,hp0,rfl⟩:=List.mem_map.1 hp
  simp only;rw[getR_purges]
  exact hit_purgesV' _ _ _ (h.regs p0 hp0 t k hk)
 ·rcases getB_purgesB M ρ n with⟨h1,_⟩|⟨h1,_⟩
  ·exact h.als n q (by rw[←h1];exact hq) k hk
  ·rw[h1]at hq;cases hq
theorem getB_append:∀(a b:Roots) (n:Nat),(∀x∈a,x.1≠n)→getB (a++b) n=getB b n
 |[],b,n,_=>rfl
 |(m,x)::a,b,n,h=>by
  have hne:m≠n:=h (m,x) (by simp)
  rw[List.cons_append,getB_cons_ne (Ne.symm hne)]
  exact getB_append a b n fun y hy=>h y (by simp[hy])
theorem data_purgesB{ks:List Kill}{ρ:Roots}{n:Nat}{re:Bool}{t:Ty}{x:t.D}{pd:Option (Path×(te:Ty)×List te.D)}(h:getB ρ n=some (.data re t x pd)):getB (purgesB ks ρ) n=some (.data re t x pd):=by
 rcases getB_purgesB ks ρ n with⟨h1,_⟩|⟨_,q,_,h2,_⟩
 ·rw[h1];exact h
 ·rw[h]at h2;cases h2
theorem none_purgesB{ks:List Kill}{ρ:Roots}{n:Nat}(h:getB ρ n=none):getB (purgesB ks ρ) n=none:=by
 rcases getB_purgesB ks ρ n with⟨h1,_⟩|⟨h1,_⟩
 ·rw[h1];exact h
 ·exact h1
theorem takeP_ok{c:Ctx}{KS:Nat→Prop}{e:GEnv}{F:Fs}{ρ ρE:Roots}{w:World}(h:Inv c KS e F ρ w)(hE:∀n re t x pd,getB ρE n=some (.data re t x pd)→getB ρ n=some (.data re t x pd))
  {p:Place} {d:Dyn} {rs:List (Nat×Option Root)} {kl:List Kill} (ht:(takeP ρE p).run=some (d,rs,kl)) {s:Spot} (hs:spotD e p=some s)
  {hd:Nat} (hh:getB ρ hd=none) (hp:c.pin hd=none) (hph:c.hdr hd=none):
  ∃KS' e',(∀b,KS b→KS' b)∧d=⟨s.t,er s.t s.g⟩∧e'.gr hd=some ⟨none,s.t,s.g⟩∧
   Inv c KS' e' (purgesF (allKills kl ρ) F) ((hd,some (.data false s.t (er s.t s.g) none))::(rs++purgesB kl ρ)) w∧
   (∀n q,getB (rs++purgesB kl ρ) n=some (.al q)→getB ρ n=some (.al q))∧∀n,n≠hd→(∀y∈rs,y.1≠n)→e'.gr n=e.gr n:=by
 have hP:=h.purge kl
 have hals:∀(x:Nat×Option Root) n q,(∀q,x.2≠some (.al q))→getB ([x]++purgesB kl ρ) n=some (.al q)→getB ρ n=some (.al q):=fun x n q hx hq=>by
  obtain⟨m,b⟩:=x
  simp only[List.singleton_append]at hq
  by_cases hn:n=m
  ·subst hn;rw[getB_cons_eq]at hq;exact absurd hq (hx q)
  ·rw[getB_cons_ne hn]at hq
   rcases getB_purgesB kl ρ n with⟨h1,_⟩|⟨h1,_⟩
   ·rw[←h1];exact hq
   ·rw[h1]at hq;cases hq
 unfold takeP at ht
 split at ht
 ·rename_i t x pd hb
  have hb':=hE _ _ _ _ _ hb
  obtain⟨ad,g,q1,q2,q3,q4,q5,q6⟩:=h.root hb'
  subst q2
  have hne:hd≠p.r:=fun e=>by rw[e,hb']at hh;cases hh
  obtain⟨d',hd1,ht⟩:=Cm.run_bind_some ht
  injection ht with ht;cases ht
  obtain⟨s',hs1,hs2⟩:=rd_loc p.π t g ad d hd1
  have:s'=s:=by
   simp only[spotD,q1,Option.bind_some]at hs
   rw[hs1]at hs;injection hs
  subst this
  refine⟨KS,e.set hd ⟨none,s'.t,s'.g⟩,fun _ h=>h,hs2,by simp[GEnv.set], ?_,fun n q hq=>hals _ n q (by simp) hq,fun n h1 _=>by simp[GEnv.set,h1]⟩
  exact Inv.takeTemp hP.1 hP.2 hne (data_purgesB hb') q1 (none_purgesB hh) hp hph (by simp) hs1
   (by rw[getB_cons_ne (Ne.symm hne)];simp[getB])
   getB_cons_eq
   (fun n h1 h2=>by rw[getB_cons_ne h2];simp only[List.singleton_append];rw[getB_cons_ne h1])
 ·rename_i t x pd hb
  have hb':=hE _ _ _ _ _ hb
  obtain⟨ad,g,q1,q2,q3,q4,q5,q6⟩:=h.root hb'
  subst q2
  have hsp:∀A,ad=some A→A.spot=none:=fun A hA=>(q4 A hA).2.1
  have hne:hd≠p.r:=fun e=>by rw[e,hb']at hh;cases hh
  obtain⟨hn,ht⟩:=Cm.run_chk ht
  obtain⟨d',hd1,ht⟩:=Cm.run_bind_some ht
  obtain⟨z,hz,ht⟩:=Cm.run_bind_some ht
  injection ht with ht;cases ht
  obtain⟨s',hs1,hs2⟩:=rd_loc p.π t g ad d hd1
  have:s'=s:=by
   simp only[spotD,q1,Option.bind_some]at hs
   rw[hs1]at hs;injection hs
  subst this
  subst hs2
  obtain⟨G,dr,e1,P⟩:=putG p.π t g ad s' (.gone s'.t.sz) (cl s'.t s'.g) z hs1 hsp q3 hz
  refine⟨_,_,fun b hb=> .inl hb,rfl, ?_,Inv.takeVar (T:=z.1) (G:=G) (dr:=dr) hP.1 hP.2 hne (data_purgesB hb') q1 (none_purgesB hh) hp hph hs1 P ?_ ?_ getB_cons_eq ?_,fun n q hq=>hals _ n q (by simp) hq,fun n h1 h2=>by
   have:n≠p.r:=fun e=>h2 _ (by simp;rfl) e.symm
   simp[GEnv.set,GEnv.put,h1,this]⟩
  ·simp[GEnv.set]
  ·exact .inl ⟨by cases p;simp,.inr (by cases p;simp)⟩
  ·rw[getB_cons_ne (Ne.symm hne)]
   simp only[List.singleton_append,getB_cons_eq,e1]
  ·intro n h1 h2
   rw[getB_cons_ne h2];simp only[List.singleton_append];rw[getB_cons_ne h1]
 ·cases ht
end
section
theorem Inv.reghost{c:Ctx}{KS:Nat→Prop}{e:GEnv}{F:Fs}{ρ ρ':Roots}{w:World}(h:Inv c KS e F ρ w){hd:Nat}(hph:c.hdr hd=none)(nh:NoHit [.all hd] F ρ)
  {t:Ty} {x:t.D} (hr:getB ρ hd=some (.data false t x none)) {g:t.G} (hg:e.gr hd=some ⟨none,t,g⟩) {t':Ty} {g':t'.G} (X:Nat→Prop)
  (hok:okG w (fun b=>KS b∨X b) t' g') (hn:(fp t' g').Nodup) (hs:∀b∈fp t' g',b∈fp t g) (hX:∀b,X b→b∈fp t g∧b∉fp t' g')
  (hρh:getB ρ' hd=some (.data false t' (er t' g') none)) (hρ:∀n,n≠hd→getB ρ' n=getB ρ n):Inv c (fun b=>KS b∨X b) (e.set hd ⟨none,t',g'⟩) F ρ' w:=by
 obtain⟨ad0,g0,q1,q2,q3,q4,q5,q6⟩:=h.root hr
 rw[hg]at q1;cases q1
 have hb:blk ρ' (e.set hd ⟨none,t',g'⟩) hd=fp t' g':=by simp[blk,hρh,GEnv.set]
 have bi:∀b∈fp t g,b∈blk ρ e hd:=fun b hb=>by rw[q6];simp[hb]
 have hpin:∀A,c.pin hd≠some A:=fun A hA=>by
  obtain⟨_,h2⟩:=h.pin hd A hA
  obtain⟨⟨g2,h3⟩,_⟩:=h2 _ _ _ _ hr
  rw[hg]at h3;cases h3
 refine h.step (S:=fun n=>n=hd) nh
  {reads:=Reads.off (S:=fun n=>n=hd) h nh (fun n hn=> .inr (by subst hn;simp)) (fun n hn=>hρ n hn) (fun n hn=>⟨by simp[GEnv.set,hn],rfl,rfl⟩) (fun b hb=> .inl hb) (fun _ _ _=>rfl)
   out:=fun n hn=>⟨hρ n hn,by simp[GEnv.set,hn],rfl,rfl,by simp[GEnv.set,hn]⟩
   same:=fun _ _ b _=>Same.refl w b
   size:=Grew.refl _
   roots:=fun n hn=>by
    subst hn
    simp only[RootOK,hρh]
    exact⟨none,g',by simp[GEnv.set],rfl,hok,fun hre=>(by cases hre),fun _=>rfl,by simp[GEnv.set]⟩
   nd:=fun n hn'=>by subst hn';rw[hb];exact hn
   dj:=fun n m hn hm hnm=>absurd (hn.trans hm.symm) hnm
   src:=fun n hn' b hb'=>by subst hn';rw[hb]at hb';exact .inr ⟨_,rfl,bi b (hs b hb'),.inl rfl⟩
   ksn:=fun b hb=>hb.imp id fun hb=> .inr ⟨hd,rfl,bi b (hX b hb).1,fun A hA=>absurd hA (hpin A)⟩
   ksd:=fun n hn' b hb' hk=>by
    subst hn';rw[hb]at hb'
    rcases hk with hk|hk
    ·exact h.ks _ b (bi b (hs b hb')) hk
    ·exact(hX b hk).2 hb'
   pin:=fun n hn A hA=>by subst hn;exact absurd hA (hpin A)
   hdr:=fun n hn hh hp'=>by subst hn;rw[hph]at hp';cases hp'
   frm:=fun b _=> .inl (Same.refl w b)}
theorem Inv.hide{c:Ctx}{KS:Nat→Prop}{e:GEnv}{F:Fs}{ρ:Roots}{w:World}(h:Inv c KS e F ρ w){hd:Nat}(hh:getB ρ hd=none)(hp:c.pin hd=none)(hph:c.hdr hd=none)
  {t:Ty} {g:t.G} (hok:okG w KS t g) (hf:fp t g=[]):Inv c KS (e.set hd ⟨none,t,g⟩) F ((hd,some (.data false t (er t g) none))::ρ) w:=
 h.new hh hp hph (fun b _=>Same.refl w b) (Grew.refl _) hok (fun h=>by cases h) (fun _=>rfl) (by simp[hf]) (by simp[hf])
theorem purgesF_nil(F:Fs):purgesF [] F=F:=by
 simp only[purgesF,purges]
 exact List.map_id' F
theorem take_ok{c:Ctx}{KS:Nat→Prop}{e:GEnv}{F:Fs}{ρ ρE:Roots}{w:World}(h:Inv c KS e F ρ w)(hE:∀n re t x pd,getB ρE n=some (.data re t x pd)→getB ρ n=some (.data re t x pd))
  {te:Ty} {rv:RV} {v:Value} (hv:RVok w KS ρ e rv v) {d:Dyn} {rs:List (Nat×Option Root)} {kl:List Kill} (ht:(take ρE te rv).run=some (d,rs,kl))
  {hd:Nat} (hh:getB ρ hd=none) (hp:c.pin hd=none) (hph:c.hdr hd=none) (hpb:∀n A,c.pin n=some A→n<32768):
  ∃KS' e' g',(∀b,KS b→KS' b)∧d.2=er d.1 g'∧e'.gr hd=some ⟨none,d.1,g'⟩∧v.cells=(cl d.1 g').toArray∧
   Inv c KS' e' (purgesF (allKills kl ρ) F) ((hd,some (.data false d.1 (er d.1 g') none))::(rs++purgesB kl ρ)) w∧
   (∀n q,getB (rs++purgesB kl ρ) n=some (.al q)→getB ρ n=some (.al q))∧∀n,n≠hd→(∀y∈rs,y.1≠n)→e'.gr n=e.gr n:=by
 have zero:∀(t:Ty) (g:t.G),okG w KS t g→fp t g=[]→v.cells=(cl t g).toArray→some (d,rs,kl)=some (⟨t,er t g⟩,[],[])→
   ∃KS' e' g',(∀b,KS b→KS' b)∧d.2=er d.1 g'∧e'.gr hd=some ⟨none,d.1,g'⟩∧v.cells=(cl d.1 g').toArray∧
    Inv c KS' e' (purgesF (allKills kl ρ) F) ((hd,some (.data false d.1 (er d.1 g') none))::(rs++purgesB kl ρ)) w∧
   (∀n q,getB (rs++purgesB kl ρ) n=some (.al q)→getB ρ n=some (.al q))∧∀n,n≠hd→(∀y∈rs,y.1≠n)→e'.gr n=e.gr n:=fun t g hok hf hc he=>by
  injection he with he;cases he
  refine⟨KS,e.set hd ⟨none,t,g⟩,g,fun _ h=>h,rfl, ?_,hc, ?_⟩
  ·simp[GEnv.set]
  ·have:allKills [] ρ=[]:=rfl
   rw[this,purgesF_nil]
   exact⟨h.hide hh hp hph hok hf,fun n q hq=>hq,fun n h1 _=>by simp[GEnv.set,h1]⟩
 have place:∀p:Place,(takeP ρE p).run=some (d,rs,kl)→∀s,spotD e p=some s→v.cells=(cl s.t s.g).toArray→
   ∃KS' e' g',(∀b,KS b→KS' b)∧d.2=er d.1 g'∧e'.gr hd=some ⟨none,d.1,g'⟩∧v.cells=(cl d.1 g').toArray∧
    Inv c KS' e' (purgesF (allKills kl ρ) F) ((hd,some (.data false d.1 (er d.1 g') none))::(rs++purgesB kl ρ)) w∧
   (∀n q,getB (rs++purgesB kl ρ) n=some (.al q)→getB ρ n=some (.al q))∧∀n,n≠hd→(∀y∈rs,y.1≠n)→e'.gr n=e.gr n:=fun p htp s hs hc=>by
  obtain⟨KS',e',k1,k2,k3,k4,k5⟩:=takeP_ok h hE htp hs hh hp hph
  subst k2
  exact⟨KS',e',s.g,k1,rfl,k3,hc,k4,k5⟩
 cases rv with
 |v t x=>
  obtain⟨hs,cs,h1,h2⟩:=hv
  obtain⟨g,g1,g2,g3,g4⟩:=repK_okG t hs x cs h1
  subst g2
  refine zero t g g1 g4 ?_ ht.symm
  rw[h2,←g3]
  exact val_cells (okG_len _ _ g1) (cl_one _ _ g1)
 |nl=>
  cases te<;>first|(cases ht;done)|skip
  rename_i o t
  refine zero (.list true t.o) ⟨none,0,[]⟩ (.inl ⟨rfl,rfl⟩) rfl ?_ ht.symm
  have hv':v= .slice none 0 0:=hv
  rw[hv'];rfl
 |pn=>
  cases te<;>first|(cases ht;done)|skip
  rename_i t
  refine zero (.ptr t) ⟨none,none⟩ rfl rfl ?_ ht.symm
  have hv':v= .pointer none:=hv
  rw[hv'];rfl
 |wl p=>
  obtain⟨_,tl,g,ad,h1,h2⟩:=hv
  exact place p ht _ h1 (by rw[h2];rfl)
 |sv p=>
  obtain⟨⟨re,t,x,pd,hb⟩,s,h1,h2,h3⟩:=hv
  obtain⟨ad,g,q1,q2,q3,q4,_⟩:=h.root hb
  have hok:okG w KS s.t s.g:=(locG p.π t g ad s (by simpa only[spotD,q1,Option.bind_some]using h1) (fun A hA=>(q4 A hA).2.1) q3).ok
  exact place p ht s h1 (by rw[h3];exact val_cells (okG_len _ _ hok) (cl_one _ _ hok))
 |vw p lo len=>
  obtain⟨hdat,tl,g,ad,h1,h2,adx,hadx,h3⟩:=hv
  cases lo with
  |succ n=>cases ht
  |zero=>
  obtain⟨r,π⟩:=p
  cases π with
  |cons a b=>cases ht
  |nil=>
  clear zero place
  obtain⟨⟨d0,rs0,kl0⟩,ht0,ht⟩:=Cm.run_bind_some ht
  obtain⟨KS',e',k1,k2,k3,k4,k5,k6⟩:=takeP_ok h hE ht0 h1 hh hp hph
  subst k2
  replace ht:=Cm.run_chk ht;obtain⟨hnT,ht⟩:=ht
  injection ht with ht;cases ht
  have nh:=(((h.purge kl).1).nohit (n:=hd) (none_purgesB hh))
  have hroot:=k4.root getB_cons_eq
  obtain⟨ad1,g1,p1,p2,p3,p4,p5,p6⟩:=hroot
  rw[k3]at p1;cases p1
  have hax:g.cap≠0→adx=g.ad:=fun hc=>by
   rcases p3 with⟨q1,q2⟩|⟨b,rest,q1,q2,_⟩
   ·exact absurd q1 hc
   ·have q1':g.ad=some ⟨b,0,none⟩:=q1
    rw[hadx hc,q1'];simp[Addr.plus]
  let G2:OwnL tl.G:=⟨adx,g.cap,g.rows.take len⟩
  have hfp:∀b∈fp (.list true tl) G2,b∈fp (.list true tl) g:=fun b hb=>by
   simp only[fp,G2]at hb ⊢
   split at hb
   ·rename_i ha
    split at hb
    ·cases hb
    ·rename_i hc
     rw[←hax hc]
     simp only
     rw[if_neg hc]
     rcases List.mem_cons.1 hb with hb|hb
     ·simp[hb]
     ·refine List.mem_cons_of_mem _ ?_
      obtain⟨x,hx,hb⟩:=List.mem_flatMap.1 hb
      exact List.mem_flatMap.2 ⟨x,List.mem_of_mem_take hx,hb⟩
   ·cases hb
  have hnd:(fp (.list true tl) G2).Nodup:=by
   have:=k4.nd hd
   rw[p6]at this
   simp only[Option.map_none,Option.toList_none,List.nil_append,List.nodup_append]at this
   simp only[fp,G2]at this ⊢
   cases hadx2:adx with
   |none=>simp
   |some a=>
    simp only
    split
    ·simp
    ·rename_i hc
     rw[←hax hc,hadx2]at this
     simp only at this
     rw[if_neg hc]at this
     refine List.Sublist.nodup ?_ this.1
     refine List.Sublist.cons_cons _ ?_
     rw[←List.take_append_drop len g.rows,List.flatMap_append]
     simp
  have hok:okG w KS' (.list true tl) G2:=by
   rcases p3 with⟨q1,q2⟩|⟨b,rest,q1,q2,q3,q4,q5,q6⟩
   ·refine .inl ⟨q1, ?_⟩
    have q2':g.rows=[]:=q2
    show g.rows.take len=[]
    rw[q2'];simp
   ·refine .inr ⟨b,(g.rows.drop len).flatMap (cl tl)++rest,(hax (Nat.pos_iff_ne_zero.1 q2)).trans q1,q2, ?_, ?_, ?_, ?_⟩
    ·have:G2.rows.length≤g.rows.length:=by simp[G2];omega
     exact⟨Nat.le_trans this q3.1,fun e=>by rw[e]at hnT;cases hnT⟩
    ·have e1:G2.rows.flatMap (cl tl)++((g.rows.drop len).flatMap (cl tl)++rest)=g.rows.flatMap (cl tl)++rest:=by
      rw[←List.append_assoc,←List.flatMap_append,List.take_append_drop]
     rw[e1];exact q4
    ·have e1:G2.rows.flatMap (cl tl)++((g.rows.drop len).flatMap (cl tl)++rest)=g.rows.flatMap (cl tl)++rest:=by
      rw[←List.append_assoc,←List.flatMap_append,List.take_append_drop]
     rw[e1];exact q5
    ·intro x hx
     exact q6 x (List.mem_of_mem_take hx)
  have her:er (.list true tl) G2=(er (.list true tl) g).take len:=by simp[er,G2]
  have nh2:NoHit [.all hd] (purgesF (allKills kl ρ) F) ((hd,some (.data false (.list true tl) (er (.list true tl) g) none))::(rs++purgesB kl ρ)):=by
   refine⟨nh.regs,fun n q hq=> ?_⟩
   by_cases hn:n=hd
   ·subst hn;rw[getB_cons_eq]at hq;cases hq
   ·rw[getB_cons_ne hn]at hq
    exact(h.nohit hh).als n q (k5 n q hq)
  have hI:=k4.reghost (ρ':=(hd,some (.data false (.list true tl) (er (.list true tl) G2) none))::(rs++purgesB kl ρ)) hph nh2 getB_cons_eq k3 (t':= .list true tl) (g':=G2) (fun _=>False) (okG_KS (fun b hb=> .inl hb) _ _ hok) hnd hfp (fun b hb=>hb.elim)
   getB_cons_eq (fun n hn=>by rw[getB_cons_ne hn,getB_cons_ne hn])
  refine⟨fun b=>KS' b∨False,e'.set hd ⟨none,.list true tl,G2⟩,G2,fun b hb=> .inl (k1 b hb),her.symm,by simp[GEnv.set], ?_, ?_,k5,fun n h1 h2=>by simp only[GEnv.set,h1,if_false];exact k6 n h1 h2⟩
  ·rw[h3]
   have e2:G2.rows.length=len:=by simp only[G2,List.length_take];omega
   rw[←e2];rfl
  ·have:=hI
   rw[her]at this
   simpa[her]using this
 |rf p=>
  clear zero place
  obtain⟨r,π⟩:=p
  cases π with
  |cons a b=>cases ht
  |nil=>
  simp only[take]at ht
  split at ht
  ·rename_i t x pd hb
   obtain⟨hc,ht⟩:=Cm.run_chk ht
   simp only[Bool.and_eq_true]at hc
   injection ht with ht;cases ht
   have hb':=hE _ _ _ _ _ hb
   obtain⟨ad,g,q1,q2,q3,q4,q5,q6⟩:=h.root hb'
   subst q2
   obtain⟨A,hA⟩:=q5 rfl
   have hrow:=(q4 A hA).2
   have hne:hd≠r:=fun e=>by rw[e,hb']at hh;cases hh
   have hv':v= .pointer (some A):=by
    obtain⟨s,A',h1,h2,h3⟩:=hv
    simp only[spotOf,hb',spotD,q1,Option.bind_some,loc_nil,Option.some.injEq]at h1
    subst h1
    simp only at h2
    rw[hA]at h2;cases h2;exact h3
   have hP:=h.purge [.all r]
   have hpin:∀A,c.pin r≠some A:=fun A hA=>by
    have h1:=hpb r A hA
    have h2:=Nat.le_of_ble_eq_true hc.2
    omega
   have hD:=hP.1.drop (ρ':=[(r,none)]++purgesB [.all r] ρ) hP.2 hpin (by simp) (fun b=>b=A.block) (fun b hb=>by
     subst hb
     have e1:=data_purgesB (ks:=[.all r]) hb'
     simp only[blk,e1,q1,hA];simp) (by simp[getB]) (fun n hn=>by simp only[List.singleton_append];rw[getB_cons_ne hn])
   have hfp:fp t g=[]:=fp_shared t hc.1 g
   have hok:okG w (fun b=>KS b∨b=A.block) (.ptr t) ⟨some A,some (er t g)⟩:=
    ⟨A,cl t g,rfl,hrow.1,.inr rfl,hrow.2.1,okG_repK (fun b hb=> .inl hb) t g (by simp[hfp]) q3⟩
   have hH:=hD.hide (hd:=hd) (by simp only[List.singleton_append];rw[getB_cons_ne hne];exact none_purgesB hh) hp hph hok rfl
   refine⟨_,_,(⟨some A,some (er t g)⟩:ShP t.D),fun b hb=> .inl hb,rfl,by simp[GEnv.set], ?_,hH,fun n q hq=> ?_,fun n h1 _=>by simp[GEnv.set,h1]⟩
   ·rw[hv'];rfl
   ·simp only[List.singleton_append]at hq
    by_cases hn:n=r
    ·subst hn;rw[getB_cons_eq]at hq;cases hq
    ·rw[getB_cons_ne hn]at hq
     rcases getB_purgesB [.all r] ρ n with⟨h1,_⟩|⟨h1,_⟩
     ·rw[←h1];exact hq
     ·rw[h1]at hq;cases hq
  ·cases ht
 |und=>cases ht
 |skipped=>cases ht
 |ap p=>cases ht
 |fn f caps=>cases ht
 |fb f caps=>cases ht
 |tp l=>cases ht
end
section
def Does(P:Program)(m:Sem Next)(w:World)(R:Value→World→Prop):Prop:=
 match m.run P w with
 | .ok (.value v) w'=>R v w'
 | .ok .skip w'=>R undef w'
 | .ok (.enter f args) w'=>Calls P f args w' fun e w''=>∃v,e= .returned v∧R v w''
 |_=>False
theorem Oper.wp_of_does{P:Program}{o:Oper}{a:Act}{w:World}{next:Act→World→Prop}{Q:Exit→Act→World→Prop}(h:Does P (execOp a.eval o) w fun v w'=>next (a.put o.dst v) w'):o.wp P a w next Q:=by
 unfold Oper.wp
 unfold Does at h
 generalize (execOp a.eval o).run P w=r at*
 cases r with
 |ok n w'=>
  cases n<;>first|exact h|(exact h.elim)|skip
  exact Calls.mono h fun e w'' ⟨v,he,hn⟩=>by subst he;exact hn
 |halt x w'=>exact h.elim
def After(c:Ctx)(KS:Nat→Prop)(F:Fs)(ρ:Roots)(ef:Eff)(v:Value)(w':World):Prop:=
 ∃KS' e',(∀b,KS b→KS' b)∧RVok w' KS' (ef.rs++purgesB ef.kill ρ) e' ef.rv v∧Inv c KS' e' (purgesF (allKills ef.kill ρ) F) (ef.rs++purgesB ef.kill ρ) w'
theorem After.pure{c:Ctx}{KS:Nat→Prop}{e:GEnv}{F:Fs}{ρ:Roots}{w:World}(h:Inv c KS e F ρ w){rv:RV}{v:Value}(hv:RVok w KS ρ e rv v):After c KS F ρ {rv:=rv} v w:=by
 refine⟨KS,e,fun _ h=>h,hv, ?_⟩
 have:allKills [] ρ=[]:=rfl
 rw[this,purgesF_nil]
 exact h
section
variable {P:Program} {c:Ctx} {KS:Nat→Prop} {e:GEnv} {F:Fs} {ρ:Roots} {w:World}
theorem rvok_int{k:IntKind}{n:Int}{v:Value}(h:RVok w KS ρ e (.v (.int k) n) v):v= .int k n:=by
 obtain⟨_,cs,h1,h2⟩:=h
 have h1':cs=[.int k n]:=h1
 rw[h2,h1'];rfl
theorem rvok_bool{b:Bool}{v:Value}(h:RVok w KS ρ e (.v .bool b) v):v= .bool b:=by
 obtain⟨_,cs,h1,h2⟩:=h
 have h1':cs=[.bool b]:=h1
 rw[h2,h1'];rfl
theorem rvok_str{s:ByteArray}{v:Value}(h:RVok w KS ρ e (.v .str s) v):v= .string s:=by
 obtain⟨_,cs,h1,h2⟩:=h
 have h1':cs=[.string s]:=h1
 rw[h2,h1'];rfl
theorem rvok_of_int(k:IntKind)(n:Int):RVok w KS ρ e (RV.int k n) (.int k n):=⟨rfl,[.int k n],rfl,rfl⟩
theorem rvok_of_bool(b:Bool):RVok w KS ρ e (RV.bool b) (.bool b):=⟨rfl,[.bool b],rfl,rfl⟩
theorem rvok_of_str(s:ByteArray):RVok w KS ρ e (RV.str s) (.string s):=⟨rfl,[.string s],rfl,rfl⟩
def OpsOk(w:World)(KS:Nat→Prop)(ρ:Roots)(e:GEnv)(xs:List RV)(vs:List Value):Prop:=RVoks w KS ρ e xs vs
theorem intArith_ok{op:BinOp}{k:IntKind}{a b:Int}(w:World):True:=trivial
end
end
section
def zeros:Ty→List Value
 | .unit=>[]| .int k=>[.int k 0]| .ti=>[.int .i64 0]| .bool=>[.bool false]| .str=>[.string ByteArray.empty]
 | .list _ _=>[.slice none 0 0]| .ptr _=>[.pointer none]| .pair a b=>zeros a++zeros b| .arr n t=>(List.replicate n (zeros t)).flatten| .gone _=>[]
structure TyF (P:Program) (tid:TypeId) (d:TypeDesc) (t:Ty):Prop where
 und:P.underlying tid=some d
 pos:0<t.sz
 info:∃i z,P.info? tid=some i∧i.size=t.sz∧i.zero=some z∧z=val t (zeros t)
mutual
inductive TyR (P:Program):TypeId→Ty→Prop
 |int {tid k}:TyF P tid (.int k) (.int k)→TyR P tid (.int k)
 |ti {tid}:TyF P tid (.int .i64) .ti→TyR P tid .ti
 |bool {tid}:TyF P tid .bool .bool→TyR P tid .bool
 |str {tid}:TyF P tid .string .str→TyR P tid .str
 |list {tid e o t}:TyF P tid (.slice e) (.list o t)→TyR P e t→TyR P tid (.list o t)
 |ptr {tid e t}:TyF P tid (.pointer e) (.ptr t)→TyR P e t→TyR P tid (.ptr t)
 |arr {tid e n t}:TyF P tid (.array n e) (.arr n t)→TyR P e t→TyR P tid (.arr n t)
 |struct {tid fs a b}:TyF P tid (.struct fs) (.pair a b)→FldR P fs.toList 0 (.pair a b)→TyR P tid (.pair a b)
inductive FldR (P:Program):List Field→Nat→Ty→Prop
 |one {f off t}:f.offset=off→TyR P f.type t→FldR P [f] off t
 |cons {f f2 fs off a b}:f.offset=off→TyR P f.type a→FldR P (f2::fs) (off+a.sz) b→FldR P (f::f2::fs) off (.pair a b)
end
def Ty.solid:Ty→Bool
 | .list _ t| .ptr t| .arr _ t=>t.solid| .pair a b=>a.solid&&b.solid| .gone _=>false|_=>true
def eqPlain(P:Program):Nat→TypeId→Bool
 |0,_=>false
 |d+1,t=>match P.underlying t with
  |some (.int _)|some .bool|some .string=>true
  |some (.struct fs)=> !P.stoodInHeld t&&fs.toList.all fun f=>f.name != "_" &&eqPlain P d f.type
  |_=>false
structure EnvOK (P:Program) (E:Env):Prop where
 ty:∀tid t,E.ty tid=some t→TyR P tid t
 sol:∀tid t,E.ty tid=some t→t.solid=true
 nf:∀tid,0<E.nf tid→∃fs,P.underlying tid=some (.struct fs)∧E.nf tid=fs.size
 el:∀tid e b,E.el tid=some (e,b)→P.underlying tid=some (.slice e)∧∃i,P.info? e=some i∧i.bytes=b
 fnT:∀tid,E.fnT tid=true→∃ps rs v,P.underlying tid=some (.func ps rs v)
 eqs:∀tid,E.eqs tid=true→eqPlain P 20 tid=true∧P.eqGuardType P.depth tid=false
 body:∀f fn,E.body f=some fn→P.funcs[f]? =some fn
 mixed:P.follows .mixedOrders=true
theorem TyR.fact{P:Program}{tid:TypeId}{t:Ty}(h:TyR P tid t):∃d,TyF P tid d t:=by
 cases h<;>exact⟨_,by assumption⟩
def descAgg:TypeDesc→Bool
 | .struct _| .array _ _=>true|_=>false
def Ty.agg:Ty→Bool
 | .unit| .pair _ _| .arr _ _| .gone _=>true|_=>false
theorem TyR.agg{P:Program}{tid:TypeId}{t:Ty}(h:TyR P tid t){d:TypeDesc}(hd:P.underlying tid=some d):descAgg d=t.agg:=by
 have key:∀{d'} {u:Ty},TyF P tid d' u→d=d':=fun hf=>by have:=hf.und;rw[hd]at this;cases this;rfl
 cases h with
 |int hf=>rw[key hf];rfl
 |bool hf=>rw[key hf];rfl
 |str hf=>rw[key hf];rfl
 |list hf _=>rw[key hf];rfl
 |ptr hf _=>rw[key hf];rfl
 |arr hf _=>rw[key hf];rfl
 |struct hf _=>rw[key hf];rfl
 |ti hf=>rw[key hf];rfl
section
variable {P:Program} (w:World)
theorem run_isAgg{tid:TypeId}{t:Ty}(h:TyR P tid t):(isAgg tid).run P w= .ok t.agg w:=by
 obtain⟨d,hf⟩:=h.fact
 have hd:=h.agg hf.und
 unfold isAgg
 rw[Sem.run_bind,run_underlying hf.und w]
 rw[←hd]
 cases d<;>rfl
theorem run_sizeOf{tid:TypeId}{t:Ty}(h:TyR P tid t):(sizeOf tid).run P w= .ok t.sz w:=by
 obtain⟨d,hf⟩:=h.fact
 obtain⟨i,z,h1,h2,_⟩:=hf.info
 simp[sizeOf,typeInfo,Sem.run_bind,h1,h2]
end
end
section
theorem shape_setCell(w:World)(a:Addr)(v:Value)(b:Nat):(w.setCell a v).shape? b=w.shape? b:=by
 have h:(w.setCell a v).heap[b]? =if a.block=b then(w.heap[b]?).map (fun
   | .cells c elem frozen=> .cells (if a.spot.isSome then c else c.setIfInBounds a.off v) elem frozen
   |o=>o)else w.heap[b]? :=by
  simp only[World.setCell,Array.getElem?_modify];rfl
 unfold World.shape?
 rw[h]
 by_cases hb:a.block=b
 ·rw[if_pos hb]
  cases w.heap[b]? with
  |none=>rfl
  |some o=>
   cases o with
   |cells c e f=>simp only[Option.map_some];split<;>simp
   |_=>rfl
 ·rw[if_neg hb]
theorem shape_setCells(b:Nat):∀(cs:List Value) (o:Nat) (w:World) (x:Nat),(w.setCells b o cs).shape? x=w.shape? x
 |[],_,_,_=>rfl
 |c::cs,o,w,x=>by rw[World.setCells,shape_setCells b cs (o+1) _ x,shape_setCell]
theorem size_setCells(b:Nat):∀(cs:List Value) (o:Nat) (w:World),(w.setCells b o cs).heap.size=w.heap.size
 |[],_,_=>rfl
 |c::cs,o,w=>by rw[World.setCells,size_setCells b cs (o+1) _];simp[World.setCell]
theorem kin_setCell(w:World)(a:Addr)(v:Value)(x:Nat):Kin w (w.setCell a v) x:=by
 unfold Kin World.setCell
 simp only[Array.getElem?_modify]
 split
 ·cases hb:w.heap[x]? with
  |none=>left;rfl
  |some o=>
   cases o with
   |cells c t fr=>right;exact⟨c,_,t,fr,rfl,rfl,by split<;>simp⟩
   |_=>left;rfl
 ·left;rfl
theorem kin_setCells(b:Nat):∀(cs:List Value) (o:Nat) (w:World) (x:Nat),Kin w (w.setCells b o cs) x
 |[],_,_,_=> .inl rfl
 |c::cs,o,w,x=>by rw[World.setCells];exact(kin_setCell w _ c x).trans (kin_setCells b cs (o+1) _ x)
theorem grew_setCells(b:Nat):∀(cs:List Value) (o:Nat) (w:World),Grew w (w.setCells b o cs)
 |[],_,_=>Grew.refl _
 |c::cs,o,w=>by
  rw[World.setCells]
  exact Grew.trans (b:=w.setCell ⟨b,o,none⟩ c) ⟨by simp[World.setCell],rfl,rfl⟩ (grew_setCells b cs (o+1) _)
theorem same_setCells{w:World}{b o:Nat}{cs:List Value}{x:Nat}(h:b≠x):Same w (w.setCells b o cs) x:=
 ⟨shape_setCells b cs o w x,⟨fun o'=>World.frozen?_setCells ..,fun o'=>World.cell?_setCells_out b cs o w ⟨x,o',none⟩ fun hb=>absurd hb.symm h⟩,kin_setCells b cs o w x⟩
theorem inBlk_setCells{w:World}{A:Addr}{cs old:List Value}(h:RowAt w A old)(hl:cs.length=old.length):InBlk w (w.setCells A.block A.off cs) A cs.length cs:=by
 refine⟨shape_setCells _ _ _ _ _,⟨fun o=>World.frozen?_setCells ..,fun o ho=>World.cell?_setCells_out A.block cs A.off w ⟨A.block,o,none⟩ fun _ _=> ?_, ?_⟩,kin_setCells _ _ _ _ _⟩
 ·show o<A.off∨A.off+cs.length≤o
  omega
 ·refine World.rangeAt_setCells_same w _ _ _ fun j hj=>⟨?_,h.2.2 j (by omega)⟩
  have hj':j<old.length:=by omega
  rw[h.2.1 j _ (List.getElem?_eq_getElem hj')];rfl
section
variable {P:Program}
theorem val_scal{t:Ty}(h:t.agg=false){cs:List Value}(hl:cs.length=t.sz):∃v,cs=[v]∧val t cs=v:=by
 have one:t.sz=1→∃v,cs=[v]:=fun h=>by
  rw[h]at hl
  match cs,hl with
  |[v],_=>exact⟨v,rfl⟩
 cases t<;>first
  |(cases h;done)
  |(obtain⟨v,rfl⟩:=one rfl;exact⟨v,rfl,rfl⟩)
theorem val_agg{t:Ty}(h:t.agg=true)(cs:List Value):val t cs= .agg cs.toArray:=by
 cases t<;>first|rfl|(cases h;done)
theorem run_loadVar{w:World}{tid:TypeId}{t:Ty}(h:TyR P tid t){A:Addr}(hA:A.spot=none){cs:List Value}(hc:w.rangeAt A.block A.off cs)(hl:cs.length=t.sz):
  (loadVar tid A).run P w= .ok (val t cs) w:=by
 obtain⟨b,o,sp⟩:=A
 simp only at hA hc;subst hA
 cases ha:t.agg with
 |true=>
  obtain⟨d,hf⟩:=h.fact
  have hd:=h.agg hf.und
  obtain⟨i,z,h1,h2,_⟩:=hf.info
  rw[val_agg ha]
  refine run_loadVar_mid w b o tid cs d hc hf.und ?_ (by rw[h1,Option.map_some,h2,hl])
  rw[ha]at hd
  cases d<;>first|rfl|(cases hd;done)
 |false=>
  obtain⟨v,rfl,hv⟩:=val_scal ha hl
  rw[hv]
  have hcell:w.cell? ⟨b,o,none⟩=some v:=by have:=hc 0 v rfl;simpa using this
  simp only[loadVar,Sem.run_bind,run_isAgg w h,ha,Result.andThen_ok,load,Sem.run,hcell,Bool.false_eq_true,if_false]
theorem run_storeVar{w:World}{tid:TypeId}{t:Ty}(h:TyR P tid t){A:Addr}{old cs:List Value}(hr:RowAt w A old)(ho:old.length=t.sz)(hl:cs.length=t.sz)(h1:∀v∈cs,v.oneCell'=true){v:Value}(hv:v.cells=cs.toArray):
  (storeVar tid A v).run P w= .ok () (w.setCells A.block A.off cs):=by
 obtain⟨b,o,sp⟩:=A
 obtain⟨hsp,hc,hz⟩:=hr
 simp only at hsp hc hz;subst hsp
 have:=run_storeCells_cells (P:=P) b o cs 0 w (fun j hj=>by
   have hj':j<old.length:=by omega
   rw[Nat.add_zero,hc j _ (List.getElem?_eq_getElem hj')];rfl) (fun j hj=>by rw[Nat.add_zero];exact hz j (by omega)) h1
 simp only[Nat.add_zero]at this
 simp only[storeVar,Sem.run_bind,run_sizeOf w h,Result.andThen_ok,hv]
 rw[if_neg (by simp[hl])]
 exact this
end
end
section
theorem loc_base:∀(p:Path) (t:Ty) (g:t.G) (ad ad':Option Addr) (s:Spot),loc t g ad p=some s→∃a,loc t g ad' p=some ⟨s.t,s.g,a⟩
 |[],t,g,ad,ad',s,h=>by
  rw[loc_nil]at h;injection h with h;subst h
  exact⟨ad',loc_nil _ _ _⟩
 | .L::p,t,g,ad,ad',s,h=>by
  cases t<;>first|(cases h;done)|skip
  exact loc_base p _ _ _ _ s h
 | .R::p,t,g,ad,ad',s,h=>by
  cases t<;>first|(cases h;done)|skip
  exact loc_base p _ _ _ _ s h
 | .I i::p,t,g,ad,ad',s,h=>by
  cases t<;>first|(cases h;done)|skip
  rename_i o u
  cases o with
  |false=>cases h
  |true=>exact⟨s.ad,h⟩
 | .A i::p,t,g,ad,ad',s,h=>by
  cases t<;>first|(cases h;done)|skip
  rename_i n u
  simp only[loc]at h ⊢
  cases hr:(g:List u.G)[i]? with
  |none=>rw[hr]at h;cases h
  |some r=>
   rw[hr]at h
   exact loc_base p _ _ _ _ s h
theorem loc_row{w:World}{KS:Nat→Prop}{p:Path}{t:Ty}{g:t.G}{ad:Option Addr}{s:Spot}(h:loc t g ad p=some s)(hok:okG w KS t g)(hr:∀A,ad=some A→RowAt w A (cl t g)):
  ∀B,s.ad=some B→RowAt w B (cl s.t s.g):=fun B hB=>by
 have hL:=locG p t g ad s h (fun A hA=>(hr A hA).1) hok
 cases hn:noI p with
 |true=>
  obtain⟨pre,post,e1,e2⟩:=hL.out hn
  rw[hB]at e2
  cases ad with
  |none=>cases e2
  |some A=>
   injection e2 with e2
   have:=hr A rfl
   rw[e1]at this
   rw[e2];exact this.mid
 |false=>
  obtain⟨rest,_,h2⟩:=hL.perm
  obtain⟨B',e,_,hr'⟩:=h2 hn
  rw[hB]at e;cases e;exact hr'
section
variable {c:Ctx} {KS:Nat→Prop} {e:GEnv} {F:Fs} {ρ:Roots} {w:World}
theorem spotD_ok(h:Inv c KS e F ρ w){p:Place}(hd:hasData ρ p.r){s:Spot}(hs:spotD e p=some s):okG w KS s.t s.g∧∀B,s.ad=some B→RowAt w B (cl s.t s.g):=by
 obtain⟨re,t,x,pd,hb⟩:=hd
 obtain⟨ad,g,q1,q2,q3,q4,_⟩:=h.root hb
 simp only[spotD,q1,Option.bind_some]at hs
 exact⟨(locG p.π t g ad s hs (fun A hA=>(q4 A hA).2.1) q3).ok,loc_row hs q3 fun A hA=>(q4 A hA).2⟩
theorem spotOf_ok(h:Inv c KS e F ρ w){p:Place}{s:Spot}(hs:spotOf ρ e p=some s):okG w KS s.t s.g∧(∀B,s.ad=some B→RowAt w B (cl s.t s.g))∧
  hasData ρ (res ρ p).r∧∃a,spotD e (res ρ p)=some ⟨s.t,s.g,a⟩:=by
 simp only[spotOf]at hs
 cases hb:getB ρ p.r with
 |none=>rw[hb]at hs;cases hs
 |some b=>
  rw[hb]at hs
  cases b with
  |data re t x pd=>
   have hd:hasData ρ p.r:=⟨re,t,x,pd,hb⟩
   have hres:res ρ p=p:=by simp only[res,hb]
   rw[hres]
   simp only at hs
   obtain⟨h1,h2⟩:=spotD_ok h hd hs
   exact⟨h1,h2,hd,s.ad,hs⟩
  |al q=>
   simp only at hs
   split at hs
   case isFalse=>cases hs
   have hr:=h.roots p.r
   simp only[RootOK,hb]at hr
   obtain⟨hd,s0,h0,hrow⟩:=hr
   rw[h0]at hs
   simp only[Option.bind_some]at hs
   obtain⟨k1,_⟩:=spotD_ok h hd h0
   have hL:=locG p.π _ _ _ s hs (fun A hA=>by cases hA;exact hrow.1) k1
   have hres:res ρ p=⟨q.r,q.π++p.π⟩:=by simp only[res,hb]
   refine⟨hL.ok,loc_row hs k1 (fun A hA=>by cases hA;exact hrow),by rw[hres];exact hd, ?_⟩
   rw[hres]
   obtain⟨a,ha⟩:=loc_base _ _ _ _ s0.ad s hs
   refine⟨a, ?_⟩
   simp only[spotD]at h0 ⊢
   cases hg:e.gr q.r with
   |none=>rw[hg]at h0;cases h0
   |some G=>
    rw[hg]at h0
    simp only[Option.bind_some]at h0 ⊢
    rw[loc_append,h0];exact ha
theorem rdD_ok(h:Inv c KS e F ρ w){p:Place}{re:Bool}{t:Ty}{x:t.D}{pd:Option (Path×(te:Ty)×List te.D)}(hb:getB ρ p.r=some (.data re t x pd)){d:Dyn}(hr:(rd t x p.π).run=some d):
  ∃s,spotD e p=some s∧d=⟨s.t,er s.t s.g⟩:=by
 obtain⟨ad,g,q1,q2,q3,q4,_⟩:=h.root hb
 subst q2
 obtain⟨s,h1,h2⟩:=rd_loc p.π t g ad d hr
 exact⟨s,by simp only[spotD,q1,Option.bind_some];exact h1,h2⟩
theorem rdP_ok(h:Inv c KS e F ρ w){p:Place}{d:Dyn}(hr:(rdP ρ p).run=some d):∃s,spotD e (res ρ p)=some s∧d=⟨s.t,er s.t s.g⟩∧hasData ρ (res ρ p).r:=by
 unfold rdP at hr
 split at hr
 ·rename_i re t x pd hb
  obtain⟨s,h1,h2⟩:=rdD_ok h hb hr
  exact⟨s,h1,h2,re,t,x,pd,hb⟩
 ·cases hr
theorem mkV_ok{t:Ty}{x:t.D}{v:Value}(h:RVok w KS ρ e (.v t x) v):RVok w KS ρ e (mkV t x) v:=by
 cases t<;>exact h
theorem seen_ok(h:Inv c KS e F ρ w){p:Place}(hd:hasData ρ p.r){s:Spot}(hs:spotD e p=some s):RVok w KS ρ e (seen p ⟨s.t,er s.t s.g⟩) (val s.t (cl s.t s.g)):=by
 obtain⟨hok,_⟩:=spotD_ok h hd hs
 unfold seen
 obtain⟨t,g,ad⟩:=s
 simp only at hok ⊢
 split
 ·rename_i hsh
  exact mkV_ok ⟨hsh,cl t g,okG_repK (fun _ h=>h) t g (by simp[fp_shared t hsh g]) hok,rfl⟩
 ·rename_i hsh
  cases t with
  |list o u=>
   cases o with
   |false=>trivial
   |true=>exact⟨hd,u,g,ad,hs,rfl⟩
  |_=>exact⟨hd,⟨_,g,ad⟩,hs,rfl,rfl⟩
end
end
section
section
variable {P:Program} {E:Env} {c:Ctx} {KS:Nat→Prop} {e:GEnv} {F:Fs} {ρ:Roots} {w:World}
theorem tyIs_ok(hE:EnvOK P E){tid:Nat}{t:Ty}(h:tyIs E tid t=true):∃u,TyR P tid u∧t.same u=true:=by
 unfold tyIs at h
 split at h
 ·rename_i u hu;exact⟨u,hE.ty _ _ hu,h⟩
 ·cases h
theorem tySub_ok(hE:EnvOK P E){tid:Nat}{t:Ty}(h:tySub E tid t=true):∃u,TyR P tid u∧t.sub u=true:=by
 unfold tySub at h
 split at h
 ·rename_i u hu;exact⟨u,hE.ty _ _ hu,h⟩
 ·cases h
theorem same_agg{a b:Ty}(h:a.same b=true):a.agg=b.agg:=by
 cases a<;>cases b<;>first|rfl|cases h
theorem val_same{a b:Ty}(h:a.same b=true)(cs:List Value):val a cs=val b cs:=by
 cases a<;>cases b<;>first|rfl|cases h
theorem loadAt_ok{tid:TypeId}{u:Ty}(h:TyR P tid u){A:Addr}(hA:A.spot=none){cs:List Value}(hc:w.rangeAt A.block A.off cs)(hl:cs.length=u.sz):
  (Instr.loadAt tid (.pointer (some A))).run P w= .ok (val u cs) w:=by
 simp only[Instr.loadAt,Instr.sureAddr,Sem.run_bind,Sem.run_pure,Result.andThen_ok,run_loadVar h hA hc hl]
theorem does_value{m:Sem Value}{v:Value}{w':World}{R:Value→World→Prop}(hm:m.run P w= .ok v w')(hR:R v w'):Does P (do pure (.value (←m))) w R:=by
 unfold Does
 have:(do pure (.value (←m)):Sem Next).run P w= .ok (.value v) w':=by
  show(m>>=fun v=>pure (Next.value v)).run P w=_
  rw[Sem.run_bind,hm];rfl
 rw[this];exact hR
theorem tyAt_loc:∀(p:Path) (t:Ty) (g:t.G) (ad:Option Addr) (s:Spot),loc t g ad p=some s→tyAt t p=some s.t
 |[],t,g,ad,s,h=>by
  rw[loc_nil]at h;injection h with h;subst h
  cases t<;>first|rfl|(rename_i o u;cases o<;>rfl)
 | .L::p,t,g,ad,s,h=>by
  cases t<;>first|(cases h;done)|skip
  exact tyAt_loc p _ _ _ s h
 | .R::p,t,g,ad,s,h=>by
  cases t<;>first|(cases h;done)|skip
  exact tyAt_loc p _ _ _ s h
 | .I i::p,t,g,ad,s,h=>by
  cases t<;>first|(cases h;done)|skip
  rename_i o u
  cases o with
  |false=>cases h
  |true=>
   simp only[loc]at h
   split at h
   ·exact tyAt_loc p _ _ _ s h
   ·cases h
 | .A i::p,t,g,ad,s,h=>by
  cases t<;>first|(cases h;done)|skip
  simp only[loc]at h
  split at h
  ·exact tyAt_loc p _ _ _ s h
  ·cases h
theorem placeIs_ok(hE:EnvOK P E)(h:Inv c KS e F ρ w){tid:Nat}{p:Place}(hp:placeIs E ρ tid p=true){s:Spot}(hs:spotD e p=some s):∃u,TyR P tid u∧s.t.same u=true:=by
 unfold placeIs placeT at hp
 cases hb:getB ρ p.r with
 |none=>rw[hb]at hp;cases hp
 |some b=>
  rw[hb]at hp
  cases b with
  |al q=>cases hp
  |data re t x pd=>
   obtain⟨ad,g,q1,_⟩:=h.root hb
   simp only[spotD,q1,Option.bind_some]at hs
   simp only[tyAt_loc _ _ _ _ _ hs]at hp
   exact tyIs_ok hE hp
theorem load_ok(hE:EnvOK P E)(h:Inv c KS e F ρ w){call:CallT}{bound d tid:Nat}{a:Operand}{x:RV}{v:Value}(hx:RVok w KS ρ e x v){ef:Eff}
  (hc:(comp E call bound d (.load tid a) [x] ρ).run=some ef):Does P (do pure (.value (←Instr.loadAt tid v))) w (After c KS F ρ ef):=by
 simp only[comp]at hc
 cases x with
 |rf p=>
  obtain⟨h1,hc⟩:=Cm.run_chk hc
  obtain⟨y,h2,hc⟩:=Cm.run_bind_some hc
  injection hc with hc;subst hc
  obtain⟨s,A,k1,k2,rfl⟩:=hx
  obtain⟨hok,hrow,hd,a',hsd⟩:=spotOf_ok h k1
  obtain⟨s',q1,q2,_⟩:=rdP_ok h h2
  rw[hsd]at q1;cases q1
  subst q2
  obtain⟨u,hu,hsame⟩:=placeIs_ok hE h h1 hsd
  have hr:=hrow A k2
  refine does_value (loadAt_ok hu hr.1 hr.2.1 (by rw[okG_len _ _ hok,Ty.same_sz hsame])) ?_
  rw[←val_same hsame]
  exact After.pure h (seen_ok h hd hsd)
 |v t y=>
  cases t<;>first|(cases hc;done)|skip
  rename_i t
  obtain⟨h1,hc⟩:=Cm.run_chk hc
  obtain⟨z,hz,hc⟩:=Cm.run_get hc
  injection hc with hc;subst hc
  obtain⟨hsh,cs,k1,k2⟩:=hx
  have hy:y=some z:=hz
  subst hy
  obtain⟨A,rows,rfl,m1,m2,m3,m4⟩:=k1
  obtain⟨u,hu,hsame⟩:=tyIs_ok hE h1
  have hv:v= .pointer (some A):=k2
  rw[hv]
  refine does_value (loadAt_ok hu m1 m3 (by rw[repK_len _ _ _ m4,Ty.same_sz hsame])) ?_
  rw[←val_same hsame]
  exact After.pure h (mkV_ok ⟨hsh,rows,m4,rfl⟩)
 |fb f caps=>
  obtain⟨h1,hc⟩:=Cm.run_chk hc
  injection hc with hc;subst hc
  obtain⟨A,vs,rfl,m1,m2,m3,m4⟩:=hx
  obtain⟨ps,rs,vv,hu⟩:=hE.fnT _ h1
  have hrun:(Instr.loadAt tid (.pointer (some A))).run P w= .ok (.func (.func f) #[] vs.toArray) w:=by
   obtain⟨b,o,sp⟩:=A
   simp only at m1 m3;subst m1
   have hagg:(isAgg tid).run P w= .ok false w:=by
    unfold isAgg
    rw[Sem.run_bind,run_underlying hu w];rfl
   simp only[Instr.loadAt,Instr.sureAddr,Sem.run_bind,Sem.run_pure,Result.andThen_ok,loadVar,hagg,load,Sem.run,m3,Bool.false_eq_true,if_false]
  exact does_value hrun (After.pure h ⟨vs,rfl,m4⟩)
 |_=>cases hc
end
end
section
theorem purgesL_def(L:List Kill):∀l:List RV,purgesV L (.tp l)= .tp (l.map (purgesV L)):=by
 induction L with
 |nil=>intro l;simp[purgesV]
 |cons k L ih=>
  intro l
  simp only[purgesV]
  have:purgeV k (.tp l)= .tp (l.map (purgeV k)):=by
   simp only[purgeV]
   congr 1
   induction l with
   |nil=>rfl
   |cons x xs ihx=>simp[purgeL,ihx]
  rw[this,ih]
  simp[]
theorem purgesV_und(L:List Kill):purgesV L .und= .und:=by
 induction L with
 |nil=>rfl
 |cons k L ih=>simp only[purgesV,purgeV_und,ih]
theorem purgesV_non{v:RV}(hv:∀l,v≠ .tp l):∀L:List Kill,purgesV L v=if(∃k∈L,hit k v=true)then .und else v
 |[]=>by simp[purgesV]
 |k::L=>by
  simp only[purgesV]
  rw[purgeV_id hv]
  cases h:hit k v with
  |true=>simp[purgesV_und,h]
  |false=>
   simp only[cond_false]
   rw[purgesV_non hv L]
   simp[h]
mutual
theorem rvok_more{w:World}{KS:Nat→Prop}{ρ:Roots}{e:GEnv}{L M:List Kill}(hs:∀k∈M,k∈L):∀(v:RV) (x:Value),RVok w KS ρ e (purgesV M v) x→RVok w KS ρ e (purgesV L v) x
 | .tp l,x,h=>by
  rw[purgesL_def]at h ⊢
  obtain⟨vs,h1,h2⟩:=h
  exact⟨vs,h1,rvoks_more hs l vs h2⟩
 | .und,x,h| .skipped,x,h| .v _ _,x,h| .nl,x,h| .pn,x,h| .wl _,x,h| .vw _ _ _,x,h| .sv _,x,h| .rf _,x,h| .ap _,x,h| .fn _ _,x,h| .fb _ _,x,h=>by
  rw[purgesV_non (by intro l hl;cases hl)]at h ⊢
  split
  ·trivial
  ·rename_i hn
   rw[if_neg (fun⟨k,hk,hh⟩=>hn ⟨k,hs k hk,hh⟩)]at h
   exact h
theorem rvoks_more{w:World}{KS:Nat→Prop}{ρ:Roots}{e:GEnv}{L M:List Kill}(hs:∀k∈M,k∈L):∀(l:List RV) (vs:List Value),RVoks w KS ρ e (l.map (purgesV M)) vs→RVoks w KS ρ e (l.map (purgesV L)) vs
 |[],vs,h=>h
 |v::l,vs,h=>by
  obtain⟨x,vs',h0,h1,h2⟩:=h
  exact⟨x,vs',h0,rvok_more hs v x h1,rvoks_more hs l vs' h2⟩
end
theorem Inv.more{c:Ctx}{KS:Nat→Prop}{e:GEnv}{F:Fs}{ρ:Roots}{w:World}{L M:List Kill}(hs:∀k∈M,k∈L)(h:Inv c KS e (purgesF M F) ρ w):Inv c KS e (purgesF L F) ρ w:=by
 refine⟨fun p hp t=> ?_,h.roots,h.nd,h.dj,h.ks,h.lt,h.blt,h.may,h.pin,h.hdr,h.kso,h.fr⟩
 obtain⟨p0,hp0,rfl⟩:=List.mem_map.1 hp
 have:=h.regs (purges M p0.1,p0.2) (List.mem_map.2 ⟨p0,hp0,rfl⟩) t
 simp only[getR_purges]at this ⊢
 exact rvok_more hs _ _ this
theorem purges_append(L M:List Kill):∀g:Regs,purges M (purges L g)=purges (L++M) g:=by
 induction L with
 |nil=>intro g;rfl
 |cons k L ih=>intro g;simp only[purges,List.cons_append,ih]
theorem purgesF_append(L M:List Kill)(F:Fs):purgesF M (purgesF L F)=purgesF (L++M) F:=by
 simp[purgesF,purges_append]
theorem Inv.push{c:Ctx}{KS:Nat→Prop}{e:GEnv}{F:Fs}{ρ:Roots}{w:World}(h:Inv c KS e F ρ w){p:Regs×Act}(hp:∀t,RVok w KS ρ e (getR p.1 t) (p.2.eval (.tmp t))):Inv c KS e (p::F) ρ w:=
 ⟨fun q hq=>(List.mem_cons.1 hq).elim (fun e=>by subst e;exact hp) (h.regs q),h.roots,h.nd,h.dj,h.ks,h.lt,h.blt,h.may,h.pin,h.hdr,h.kso,h.fr⟩
theorem Inv.pop{c:Ctx}{KS:Nat→Prop}{e:GEnv}{F:Fs}{ρ:Roots}{w:World}{p:Regs×Act}(h:Inv c KS e (p::F) ρ w):Inv c KS e F ρ w:=
 ⟨fun q hq=>h.regs q (List.mem_cons_of_mem _ hq),h.roots,h.nd,h.dj,h.ks,h.lt,h.blt,h.may,h.pin,h.hdr,h.kso,h.fr⟩
end
section
theorem fresh_name:∀(ρ:Roots) (N:Nat),∃n,N≤n∧∀m,n≤m→getB ρ m=none
 |[],N=>⟨N,Nat.le_refl _,fun _ _=>rfl⟩
 |(k,b)::ρ,N=>by
  obtain⟨n,h1,h2⟩:=fresh_name ρ (max N (k+1))
  refine⟨n,by omega,fun m hm=> ?_⟩
  rw[getB_cons_ne (by omega)]
  exact h2 m hm
theorem getB_app_data{ks:List Kill}{n:Nat}{re:Bool}{t:Ty}{x:t.D}{pd:Option (Path×(te:Ty)×List te.D)}:∀(rs ρ:Roots),getB (rs++ρ) n=some (.data re t x pd)→getB (rs++purgesB ks ρ) n=some (.data re t x pd)
 |[],ρ,h=>data_purgesB h
 |(m,b)::rs,ρ,h=>by
  by_cases hm:n=m
  ·subst hm
   rw[List.cons_append,getB_cons_eq]at h ⊢
   exact h
  ·rw[List.cons_append,getB_cons_ne hm]at h ⊢
   exact getB_app_data rs ρ h
theorem hits_none{ks:List Kill}{v:RV}(h:(ks.any fun k=>hit k v)=false)(hv:∀l,v≠ .tp l):purgesV ks v=v:=by
 rw[purgesV_non hv,if_neg]
 rintro⟨k,hk,hh⟩
 rw[List.any_eq_false]at h
 exact h k hk hh
theorem aliasKills_purgeB(k k':Kill):∀ρ:Roots,∀x∈aliasKills k (purgeB k' ρ),x∈aliasKills k ρ
 |[],x,h=>h
 |(n,b)::l,x,h=>by
  have ih:=aliasKills_purgeB k k' l x
  cases b with
  |none=>exact ih h
  |some b=>cases b with
   |data=>exact ih h
   |al q=>
    simp only[purgeB]at h
    simp only[aliasKills]
    cases hq':hitA k' q with
    |true=>
     rw[hq']at h
     simp only[cond_true,aliasKills]at h
     have:=ih h
     cases hitA k q<;>simp[this]
    |false=>
     rw[hq']at h
     simp only[cond_false,aliasKills]at h
     cases hq:hitA k q with
     |true=>
      rw[hq]at h
      simp only[cond_true,List.mem_cons]at h ⊢
      exact h.imp id ih
     |false=>
      rw[hq]at h
      exact ih h
theorem aliasKills_purgesB(k:Kill):∀(ks:List Kill) (ρ:Roots),∀x∈aliasKills k (purgesB ks ρ),x∈aliasKills k ρ
 |[],ρ,x,h=>h
 |k'::ks,ρ,x,h=>aliasKills_purgeB k k' ρ x (aliasKills_purgesB k ks (purgeB k' ρ) x h)
theorem aliasKills_app(k:Kill):∀(rs ρ:Roots),(∀y∈rs,∀q,y.2≠some (.al q))→aliasKills k (rs++ρ)=aliasKills k ρ
 |[],ρ,_=>rfl
 |(n,b)::rs,ρ,h=>by
  have ih:=aliasKills_app k rs ρ fun y hy=>h y (by simp[hy])
  cases b with
  |none=>exact ih
  |some b=>cases b with
   |data=>exact ih
   |al q=>exact absurd rfl (h (n,some (.al q)) (by simp) q)
theorem purgesB_app:∀(a b:List Kill) (ρ:Roots),purgesB (a++b) ρ=purgesB b (purgesB a ρ)
 |[],b,ρ=>rfl
 |k::a,b,ρ=>purgesB_app a b (purgeB k ρ)
theorem purgeB_app(k:Kill):∀(rs ρ:Roots),(∀y∈rs,∀q,y.2≠some (.al q))→purgeB k (rs++ρ)=rs++purgeB k ρ
 |[],ρ,_=>rfl
 |(n,b)::rs,ρ,h=>by
  have ih:=purgeB_app k rs ρ fun y hy=>h y (by simp[hy])
  cases b with
  |none=>simp only[List.cons_append,purgeB,ih]
  |some b=>cases b with
   |data=>simp only[List.cons_append,purgeB,ih]
   |al q=>exact absurd rfl (h (n,some (.al q)) (by simp) q)
theorem takeP_noal{ρ:Roots}{p:Place}{d:Dyn}{rs:List (Nat×Option Root)}{kl:List Kill}(h:(takeP ρ p).run=some (d,rs,kl)):∀y∈rs,(∀q,y.2≠some (.al q))∧getB ρ y.1≠none:=by
 unfold takeP at h
 split at h
 ·rename_i hb
  obtain⟨d',_,h⟩:=Cm.run_bind_some h
  injection h with h;cases h
  intro y hy;simp at hy;subst hy;simp[hb]
 ·rename_i hb
  obtain⟨_,h⟩:=Cm.run_chk h
  obtain⟨d',_,h⟩:=Cm.run_bind_some h
  obtain⟨z,_,h⟩:=Cm.run_bind_some h
  injection h with h;cases h
  intro y hy;simp at hy;subst hy;simp[hb]
 ·cases h
theorem take_noal{ρ:Roots}{te:Ty}{x:RV}{d:Dyn}{rs:List (Nat×Option Root)}{kl:List Kill}(h:(take ρ te x).run=some (d,rs,kl)):∀y∈rs,(∀q,y.2≠some (.al q))∧getB ρ y.1≠none:=by
 cases x with
 |v t x=>injection h with h;cases h;simp
 |nl=>cases te<;>first|(cases h;done)|(injection h with h;cases h;simp)
 |pn=>cases te<;>first|(cases h;done)|(injection h with h;cases h;simp)
 |wl p=>exact takeP_noal h
 |sv p=>exact takeP_noal h
 |vw p lo len=>
  cases lo with
  |succ n=>cases h
  |zero=>
   obtain⟨r,π⟩:=p
   cases π with
   |cons a b=>cases h
   |nil=>
    obtain⟨⟨d0,rs0,kl0⟩,h0,h⟩:=Cm.run_bind_some h
    obtain⟨t0,x0⟩:=d0
    cases t0<;>first|(cases h;done)|skip
    replace h:=(Cm.run_chk h).2
    injection h with h;cases h
    exact takeP_noal h0
 |rf p=>
  obtain⟨r,π⟩:=p
  cases π with
  |cons a b=>cases h
  |nil=>
   simp only[take]at h
   split at h
   ·rename_i hb
    obtain⟨_,h⟩:=Cm.run_chk h
    injection h with h;cases h
    intro y hy;simp at hy;subst hy;simp[hb]
   ·cases h
 |und=>cases h
 |skipped=>cases h
 |ap p=>cases h
 |fn f caps=>cases h
 |fb f caps=>cases h
 |tp l=>cases h
structure CtxOK (τ:Tabs) (c:Ctx):Prop where
 tab:∀w,Frame' c.w0 w c.FB c.FT→τ.T w
 tb:∀b,τ.B b→b<c.w0.heap.size∧¬c.FB b∧∀n A,c.pin n=some A→A.block≠b
 pin:∀n A,c.pin n=some A→n<32768
 hdr:∀n h,c.hdr n=some h→n<32768∧∀A,c.pin n≠some A
section
variable {P:Program} {τ:Tabs} {E:Env} {c:Ctx} {KS:Nat→Prop} {e:GEnv} {F:Fs} {ρ:Roots} {w:World}
theorem put_ok(hC:CtxOK τ c)(h:Inv c KS e F ρ w){p:Place}{va:Value}(hp:RVok w KS ρ e (.rf p) va){x:RV}{v:Value}(hx:RVok w KS ρ e x v){te:Ty}{d:Dyn}{rs:List (Nat×Option Root)}{kl:List Kill}
  (ht:(take ρ te x).run=some (d,rs,kl)) {t0:TypeId} {t:Ty} (hT:TyR P t0 t) (hs:d.1.same t=true) (hk:((allKills kl ρ).any fun k=>hit k (.rf p))=false) {up:List (Nat×Option Root)} (hw:(wrP (rs++ρ) p d).run=some up):
  ∃w',(Instr.storeAt t0 va v).run P w= .ok () w'∧After c KS F ρ {rv:= .und,rs:=up++rs,kill:=kl++[bif d.1.scal then .sc p else .hd p]} undef w':=by
 obtain⟨hd,hd1,hd2⟩:=fresh_name ρ (max 32768 (p.r+1))
 have hh:getB ρ hd=none:=hd2 hd (Nat.le_refl _)
 have hpin:c.pin hd=none:=by
  cases hq:c.pin hd with
  |none=>rfl
  |some A=>have:=hC.pin _ _ hq;omega
 have hhdr:c.hdr hd=none:=by
  cases hq:c.hdr hd with
  |none=>rfl
  |some A=>have:=(hC.hdr _ _ hq).1;omega
 have hne:hd≠p.r:=by omega
 -- the pointer as one more frame
 have hI:=h.push (p:=([(0,.rf p)],⟨#[va],[]⟩)) (by
  intro i
  by_cases hi:i=0
  ·subst hi;exact hp
  ·have:getR [(0,RV.rf p)] i= .und:=by
    simp only[getR]
    split
    ·rename_i hh;exact absurd (Nat.eq_of_beq_eq_true hh).symm hi
    ·rfl
   rw[this];trivial)
 obtain⟨KS1,e1,g',k1,k2,k3,k4,k5,k6,_⟩:=take_ok hI (fun _ _ _ _ _ h=>h) hx ht hh hpin hhdr hC.pin
 have hp1:RVok w KS1 ((hd,some (.data false d.1 (er d.1 g') none))::(rs++purgesB kl ρ)) e1 (.rf p) va:=by
  have:=k5.regs (purges (allKills kl ρ) [(0,.rf p)],⟨#[va],[]⟩) (by simp[purgesF]) 0
  rw[getR_purges]at this
  have e0:getR [(0,RV.rf p)] 0= .rf p:=rfl
  rw[e0,hits_none hk (by intro l hl;cases hl)]at this
  exact this
 obtain⟨s,A,m1,m2,rfl⟩:=hp1
 -- the root that is written
 unfold wrP at hw
 cases hb:getB (rs++ρ) p.r with
 |none=>rw[hb]at hw;cases hw
 |some b=>
 rw[hb]at hw
 cases b with
 |al q=>cases hw
 |data re tr y pd=>
 simp only at hw
 obtain⟨z,hz,hw⟩:=Cm.run_bind_some hw
 injection hw with hw;subst hw
 have hb1:getB ((hd,some (.data false d.1 (er d.1 g') none))::(rs++purgesB kl ρ)) p.r=some (.data re tr y pd):=by
  rw[getB_cons_ne (Ne.symm hne)];exact getB_app_data rs ρ hb
 have m1':spotD e1 p=some s:=by simpa only[spotOf,hb1]using m1
 let k:Kill:=bif d.1.scal then .sc p else .hd p
 have hP:=k5.purge [k]
 have hb2:=data_purgesB (ks:=[k]) hb1
 obtain⟨ad,g,q1,q2,q3,q4,q5,q6⟩:=k5.root hb1
 subst q2
 have hl:loc tr g ad p.π=some s:=by simpa only[spotD,q1,Option.bind_some]using m1'
 have hsp:∀A,ad=some A→A.spot=none:=fun A hA=>(q4 A hA).2.1
 have hd':d=⟨d.1,er d.1 g'⟩:=by cases d;simp only at k2;rw[k2]
 rw[hd']at hz
 obtain⟨G,dr,z1,PG⟩:=putG p.π tr g ad s d.1 g' z hl hsp q3 hz
 obtain⟨sok,srow⟩:=spotD_ok k5 ⟨re,tr,_,pd,hb1⟩ m1'
 have hrow:=srow A m2
 obtain⟨_,g0,p1,_,p3,_⟩:=k5.root (n:=hd) getB_cons_eq
 rw[k3]at p1;cases p1
 have hlen:(cl d.1 g').length=(cl s.t s.g).length:=by rw[okG_len _ _ p3,okG_len _ _ sok,PG.szs]
 have hone:=cl_one _ _ p3
 have hstore:=run_storeVar (P:=P) hT hrow (by rw[okG_len _ _ sok,←PG.szs,Ty.same_sz hs]) (by rw[okG_len _ _ p3,Ty.same_sz hs]) hone k4
 refine⟨w.setCells A.block A.off (cl d.1 g'), ?_, ?_⟩
 ·simp only[Instr.storeAt,Instr.sureAddr,Sem.run_bind,Sem.run_pure,Result.andThen_ok]
  exact hstore
 ·have nhd:=(((hI.nohit hh).purge (allKills kl ρ) []).roots (ρ':=(hd,some (.data false d.1 (er d.1 g') none))::(rs++purgesB kl ρ)) (fun n q hq=>by
   by_cases hn:n=hd
   ·subst hn;rw[getB_cons_eq]at hq;cases hq
   ·rw[getB_cons_ne hn]at hq;exact k6 n q hq)).purge (allKills [k] ((hd,some (.data false d.1 (er d.1 g') none))::(rs++purgesB kl ρ))) [k]
  have nh:=hP.2.append nhd
  have hcov:Covers ([k]++[.all hd]) p.r p.π d.1:=by
   cases hsc:d.1.scal with
   |true=>exact .inr ⟨by simp[k,hsc],hsc⟩
   |false=>
    refine .inl ⟨by simp[k,hsc],.inl fun n hn=> ?_⟩
    rw[hn]at hs
    cases t<;>first|(cases hs;done)|(cases hT;done)
  have hF:=Inv.fill (ρ':=(p.r,some (.data re z.1 z.2 none))::(hd,none)::purgesB [k] ((hd,some (.data false d.1 (er d.1 g') none))::(rs++purgesB kl ρ))) (w':=w.setCells A.block A.off (cl d.1 g'))
   hP.1 nh hne hb2 q1 (data_purgesB getB_cons_eq) k3 (by simp) hl PG hcov
   (by rw[getB_cons_eq,z1]) (by rw[getB_cons_ne hne,getB_cons_eq]) (fun n h1 h2=>by rw[getB_cons_ne h1,getB_cons_ne h2])
   (fun b _ hB=>same_setCells (hB A m2)) (grew_setCells _ _ _ _)
   (fun B hB=>by
    rw[m2]at hB;cases hB
    have:=inBlk_setCells hrow hlen
    rw[hlen,okG_len _ _ sok]at this
    exact this)
   (fun hh' hq e0=>by
    obtain⟨te,gl,r1,_⟩:=k5.hdr p.r hh' hq _ _ _ _ hb1
    rw[q1]at r1
    injection r1 with r1
    have hA0:ad=none:=congrArg GRoot.ad r1
    rw[e0,loc_nil]at hl
    injection hl with hl
    have:s.ad=ad:=by rw[←hl]
    rw[m2,hA0]at this;cases this)
  have hF2:=hF.pop (p:=(purges (allKills [k] ((hd,some (.data false d.1 (er d.1 g') none))::(rs++purgesB kl ρ))) (purges (allKills kl ρ) [(0,.rf p)]),⟨#[.pointer (some A)],[]⟩))
  have hF3:Inv c _ _ (purgesF (allKills [k] ((hd,some (.data false d.1 (er d.1 g') none))::(rs++purgesB kl ρ))) (purgesF (allKills kl ρ) F)) _ _:=hF2
  rw[purgesF_append]at hF3
  refine⟨_,_,fun b hb=> .inl (k1 b hb),trivial,(hF3.more (L:=allKills (kl++[k]) ρ) ?_).congr ?_⟩
  ·intro x hx
   simp only[allKills,List.mem_append,List.flatMap_append,List.flatMap_cons,List.flatMap_nil,List.append_nil,List.mem_singleton]at hx ⊢
   rcases hx with(hx|hx)|hx|hx
   ·exact .inl (.inl hx)
   ·exact .inr (.inl hx)
   ·exact .inl (.inr hx)
   ·right;right
    have h1:aliasKills k ((hd,some (.data false d.1 (er d.1 g') none))::(rs++purgesB kl ρ))=aliasKills k (rs++purgesB kl ρ):=rfl
    rw[h1,aliasKills_app k rs _ (fun y hy=>(take_noal ht y hy).1)]at hx
    exact aliasKills_purgesB k kl ρ x hx
  ·intro n
   have e1:purgesB [k] ((hd,some (.data false d.1 (er d.1 g') none))::(rs++purgesB kl ρ))=(hd,some (.data false d.1 (er d.1 g') none))::(rs++purgesB (kl++[k]) ρ):=by
    show purgeB k ((hd,some (.data false d.1 (er d.1 g') none))::(rs++purgesB kl ρ))=_
    rw[purgesB_app]
    show(hd,some (.data false d.1 (er d.1 g') none))::purgeB k (rs++purgesB kl ρ)=_
    rw[purgeB_app k rs _ (fun y hy=>(take_noal ht y hy).1)]
    rfl
   rw[e1]
   simp only[List.cons_append,List.nil_append]
   by_cases h1:n=p.r
   ·subst h1;rw[getB_cons_eq,getB_cons_eq]
   ·rw[getB_cons_ne h1,getB_cons_ne h1]
    by_cases h2:n=hd
    ·subst h2
     rw[getB_cons_eq,getB_append _ _ _ (fun y hy e0=>(take_noal ht y hy).2 (by rw[e0];exact hh))]
     exact none_purgesB hh
    ·rw[getB_cons_ne h2,getB_cons_ne h2]
end
end
section
theorem Inv.settle{c:Ctx}{KS:Nat→Prop}{e:GEnv}{F:Fs}{ρ ρ':Roots}{w w':World}(h:Inv c KS e F ρ w){hd d:Nat}(hne:hd≠d)(nh:NoHit [.all hd] F ρ)
  {t:Ty} {x:t.D} (hr:getB ρ hd=some (.data false t x none)) {g:t.G} (hg:e.gr hd=some ⟨none,t,g⟩)
  (hd0:getB ρ d=none) (hp:c.pin d=none) (hph:c.hdr d=none)
  (hs:∀b,b<w.heap.size→Same w w' b) (hz:Grew w w') {re:Bool} {ad:Option Addr}
  (hrow:re=true→∃A,ad=some A∧RowAt w' A (cl t g)) (hrow':re=false→ad=none)
  (hf:∀A,ad=some A→w.heap.size≤A.block∧A.block<w'.heap.size)
  (hρd:getB ρ' d=some (.data re t (er t g) none)) (hρh:getB ρ' hd=none) (hρ:∀n,n≠hd→n≠d→getB ρ' n=getB ρ n):
  Inv c KS (e.set d ⟨ad,t,g⟩) F ρ' w':=by
 obtain⟨ad0,g0,q1,q2,q3,q4,q5,q6⟩:=h.root hr
 rw[hg]at q1;cases q1
 have nd:=h.nd hd
 rw[q6]at nd
 simp only[Option.map_none,Option.toList_none,List.nil_append,List.nodup_append]at nd
 have bh:∀b∈fp t g,b∈blk ρ e hd:=fun b hb=>by rw[q6];simp[hb]
 have hbd:blk ρ' (e.set d ⟨ad,t,g⟩) d=(ad.map (·.block)).toList++fp t g:=by simp[blk,hρd,GEnv.set]
 have hbh:blk ρ' (e.set d ⟨ad,t,g⟩) hd=[]:=by simp[blk,hρh]
 have hpinh:∀A,c.pin hd≠some A:=fun A hA=>by
  obtain⟨_,h2⟩:=h.pin hd A hA
  obtain⟨⟨g2,h3⟩,_⟩:=h2 _ _ _ _ hr
  rw[hg]at h3;cases h3
 have hk:∀b,KS b→∀o,w'.cell? ⟨b,o,none⟩=w.cell? ⟨b,o,none⟩:=fun b hb=>(hs b (h.lt b hb)).2.2
 have hadb:∀b∈(ad.map (·.block)).toList,w.heap.size≤b∧b<w'.heap.size:=fun b hb=>by
  cases hA:ad with
  |none=>rw[hA]at hb;simp at hb
  |some A=>rw[hA]at hb;simp at hb;subst hb;exact hf A hA
 refine h.step (S:=fun n=>n=hd∨n=d) nh
  {reads:=Reads.off (S:=fun n=>n=hd∨n=d) h nh (fun n hn=>hn.elim (fun e=> .inr (by subst e;simp)) (fun e=> .inl (by subst e;exact hd0)))
    (fun n hn=>hρ n (fun e=>hn (.inl e)) (fun e=>hn (.inr e))) (fun n hn=>⟨by simp[GEnv.set,show n≠d from fun e=>hn (.inr e)],rfl,rfl⟩) (fun b hb=>hb) hk
   out:=fun n hn=>⟨hρ n (fun e=>hn (.inl e)) (fun e=>hn (.inr e)),by simp[GEnv.set,show n≠d from fun e=>hn (.inr e)],rfl,rfl,by simp[GEnv.set,show n≠d from fun e=>hn (.inr e)]⟩
   same:=fun n _ b hb=>hs b (h.blt n b hb)
   size:=hz
   roots:= ?_
   nd:= ?_
   dj:= ?_
   src:= ?_
   ksn:=fun b hb=> .inl hb
   ksd:= ?_
   pin:= ?_
   hdr:= ?_
   frm:=fun b hb=> .inl (hs b hb)}
 ·intro n hn
  rcases hn with rfl|rfl
  ·simp only[RootOK,hρh]
  ·simp only[RootOK,hρd]
   exact⟨ad,g,by simp[GEnv.set],rfl,okG_frame' (fun b hb=>hb) hk (fun b hb=>hs b (h.blt hd b (bh b hb))) q3,hrow,hrow',by simp[GEnv.set]⟩
 ·intro n hn
  rcases hn with rfl|rfl
  ·rw[hbh];simp
  ·rw[hbd]
   refine List.nodup_append.2 ⟨?_,nd.1,fun a ha b hb e0=> ?_⟩
   ·cases ad<;>simp
   ·have h1:=(hadb a ha).1
    have h2:=h.blt hd b (bh b hb)
    omega
 ·intro n m hn hm hnm b hb1 hb2
  rcases hn with rfl|rfl
  ·rw[hbh]at hb1;cases hb1
  ·rcases hm with rfl|rfl
   ·rw[hbh]at hb2;cases hb2
   ·exact hnm rfl
 ·intro n hn b hb
  rcases hn with rfl|rfl
  ·rw[hbh]at hb;cases hb
  ·rw[hbd]at hb
   rcases List.mem_append.1 hb with hb|hb
   ·exact .inl (hadb b hb)
   ·exact .inr ⟨hd,.inl rfl,bh b hb,.inr fun A hA=>absurd hA (hpinh A)⟩
 ·intro n hn b hb hkb
  rcases hn with rfl|rfl
  ·rw[hbh]at hb;cases hb
  ·rw[hbd]at hb
   rcases List.mem_append.1 hb with hb|hb
   ·have h1:=(hadb b hb).1
    have h2:=h.lt b hkb
    omega
   ·exact h.ks hd b (bh b hb) hkb
 ·intro n hn A hA
  rcases hn with rfl|rfl
  ·exact absurd hA (hpinh A)
  ·rw[hp]at hA;cases hA
 ·intro n hn hh hq re' t'' x'' pd'' hd'
  rcases hn with rfl|rfl
  ·rw[hρh]at hd';cases hd'
  ·rw[hph]at hq;cases hq
end
section
theorem alloc_get(w:World)(o:Obj)(b:Nat)(h:b<w.heap.size):(w.alloc o).heap[b]? =w.heap[b]? :=by
 simp only[World.alloc]
 rw[Array.getElem?_push_lt h,Array.getElem?_eq_getElem h]
theorem alloc_new(w:World)(o:Obj):(w.alloc o).heap[w.heap.size]? =some o:=by
 simp only[World.alloc,Array.getElem?_push_size]
theorem alloc_size(w:World)(o:Obj):(w.alloc o).heap.size=w.heap.size+1:=by
 show(w.heap.push o).size=_
 exact Array.size_push ..
theorem alloc_same(w:World)(o:Obj){b:Nat}(h:b<w.heap.size):Same w (w.alloc o) b:=by
 exact Same.of (alloc_get w o b h)
theorem alloc_grew(w:World)(o:Obj):Grew w (w.alloc o):=⟨by rw[alloc_size];omega,rfl,rfl⟩
theorem alloc_block(w:World)(t:TypeId)(cs:List Value):Block (w.alloc (.cells cs.toArray t)) w.heap.size cs:=by
 have:=alloc_new w (.cells cs.toArray t)
 refine⟨⟨t,by simp only[World.shape?,this];simp⟩,fun j v hj=> ?_,fun j hj=> ?_⟩
 ·simp only[World.cell?,Nat.zero_add]
  rw[this]
  simpa using hj
 ·simp only[World.frozen?]
  rw[this]
  simp
theorem alloc_row(w:World)(t:TypeId)(cs:List Value):RowAt (w.alloc (.cells cs.toArray t)) ⟨w.heap.size,0,none⟩ cs:=by
 obtain⟨_,h2,h3⟩:=alloc_block w t cs
 exact⟨rfl,h2,fun j hj=>by simp⟩
theorem run_newRow{P:Program}(w:World)(t:TypeId)(cs:Array Value):(newRow t cs).run P w= .ok ⟨w.heap.size,0,none⟩ (w.alloc (.cells cs t)):=by
 simp only[newRow,newObj,Sem.run_bind,Sem.run,Result.andThen_ok]
 rfl
theorem run_newVar{P:Program}(w:World)(t:TypeId)(v:Value):(newVar t v).run P w= .ok ⟨w.heap.size,0,none⟩ (w.alloc (.cells v.cells t)):=run_newRow w t v.cells
end
section
section
variable {P:Program} {KS:Nat→Prop} {e:GEnv} {ρ:Roots} {w:World}
theorem bin_int {op : BinOp} {k k' : IntKind} {a b : Int} {r : RV} {xT : TypeId} (h : (bin op (.v (.int k) a) (.v (.int k') b)).run = some r) :
    ∃ v, (binOp op xT (.int k a) (.int k' b)).run P w = .ok v w ∧ RVok w KS ρ e r v := by
  cases op
  case shl =>
    obtain ⟨h1, h⟩ := Cm.run_ask h
    injection h with h; subst h
    refine ⟨_, ?_, rvok_of_int k _⟩
    simp only [binOp, Op.shift]
    rw [if_neg (Int.not_lt.2 h1)]; rfl
  case shr =>
    obtain ⟨h1, h⟩ := Cm.run_ask h
    injection h with h; subst h
    refine ⟨_, ?_, rvok_of_int k _⟩
    simp only [binOp, Op.shift]
    rw [if_neg (Int.not_lt.2 h1)]; rfl
  all_goals
    obtain ⟨h1, h⟩ := Cm.run_chk h
    obtain rfl := kindB_eq h1
  case quo =>
    obtain ⟨h1, h⟩ := Cm.run_ask h
    injection h with h; subst h
    refine ⟨_, ?_, rvok_of_int k _⟩
    simp only [binOp, Op.intDiv, ne_eq, not_true_eq_false, if_false]
    rw [if_neg h1]; rfl
  case rem =>
    obtain ⟨h1, h⟩ := Cm.run_ask h
    injection h with h; subst h
    refine ⟨_, ?_, rvok_of_int k _⟩
    simp only [binOp, Op.intDiv, ne_eq, not_true_eq_false, if_false]
    rw [if_neg h1]; rfl
  all_goals first
    | (injection h with h; subst h
       refine ⟨_, ?_, rvok_of_int k _⟩
       simp only [binOp, Op.intArith, Op.intBits, intBits, ne_eq, not_true_eq_false, if_false]
       rfl)
    | (injection h with h; subst h
       refine ⟨_, ?_, rvok_of_bool _⟩
       simp only [binOp, Op.intCmp, ne_eq, not_true_eq_false, if_false]
       rfl)
    | (cases h; done)
theorem toList_dat(s:ByteArray):s.toList=s.data.toList:=ByteArray.toList_eq s
theorem str_eq(a b:ByteArray):(a.toList==b.toList)=eqS a b:=by
 rw[toList_dat,toList_dat]
 have h0:eqS a b=(a.data==b.data):=rfl
 rw[h0]
 by_cases h:a.data=b.data
 ·rw[h];simp
 ·have h1:(a.data==b.data)=false:=by simpa using h
  rw[h1]
  have:a.data.toList≠b.data.toList:=fun e=>h (Array.toList_inj.1 e)
  simpa using this
theorem bin_str {op : BinOp} {a b : ByteArray} {r : RV} {xT : TypeId} (h : (bin op (.v .str a) (.v .str b)).run = some r) :
    ∃ v, (binOp op xT (.string a) (.string b)).run P w = .ok v w ∧ RVok w KS ρ e r v := by
  have hlt : Op.bytesLess a.toList b.toList = ltS a b := by rw [toList_dat, toList_dat]; rfl
  cases op
  case add =>
    obtain ⟨h1, h⟩ := Cm.run_ask h
    injection h with h; subst h
    refine ⟨_, ?_, rvok_of_str _⟩
    simp only [binOp, Op.stringOp]
    rw [if_neg]
    · rfl
    · have : IntKind.i64.max = 9223372036854775807 := by decide
      rw [this]; omega
  all_goals first
    | (injection h with h; subst h
       refine ⟨_, ?_, rvok_of_bool _⟩
       simp only [binOp, Op.stringOp, str_eq, hlt]
       rfl)
    | (cases h; done)
end
end
section
theorem like_sz:∀{a b:Ty},a.like b=true→a.sz=b.sz:=by
 intro a
 induction a with
 |pair x y ihx ihy=>
  intro b h
  cases b<;>first|(cases h;done)|skip
  simp only[Ty.like,Bool.and_eq_true]at h
  simp only[Ty.sz,ihx h.1,ihy h.2]
 |gone n=>intro b h;exact Nat.eq_of_beq_eq_true h
 |_=>intro b h;exact Ty.same_sz h
theorem fld_loc{P:Program}:∀(fs:List Field) (off:Nat) (t0:Ty),FldR P fs off t0→∀(t:Ty) (g:t.G) (ad:Option Addr) (f:Nat) (fd:Field) (s:Spot),t.like t0=true→fs[f]? =some fd→(∀A,ad=some A→A.spot=none)→
  loc t g ad (fldPath f fs.length)=some s→∃k ft,fd.offset=off+k∧s.ad=ad.map (Addr.plus · k)∧TyR P fd.type ft∧s.t.like ft=true
 |[],off,t0,h,t,g,ad,f,fd,s,hl,hf,hsp,hs=>by cases h
 |[f1],off,t0,h,t,g,ad,f,fd,s,hl,hf,hsp,hs=>by
  cases h with
  |one h1 h2=>
   cases f with
   |succ n=>simp at hf
   |zero=>
    simp at hf;subst hf
    have:fldPath 0 [f1].length=[]:=rfl
    rw[this,loc_nil]at hs
    injection hs with hs;subst hs
    refine⟨0,t0,by omega, ?_,h2,hl⟩
    cases ad with
    |none=>rfl
    |some A=>simp[plus_zero (hsp A rfl)]
 |f1::f2::fs,off,t0,h,t,g,ad,f,fd,s,hl,hf,hsp,hs=>by
  cases h with
  |cons h1 h2 h3=>
   rename_i a b
   cases f with
   |zero=>
    simp at hf;subst hf
    have hp:fldPath 0 (f1::f2::fs).length=[.L]:=rfl
    rw[hp]at hs
    cases t<;>first|(cases hs;done)|skip
    rename_i a' b'
    simp only[Ty.like,Bool.and_eq_true]at hl
    simp only[loc,loc_nil,Option.some.injEq]at hs
    subst hs
    refine⟨0,a,by omega, ?_,h2,hl.1⟩
    cases ad with
    |none=>rfl
    |some A=>simp[plus_zero (hsp A rfl)]
   |succ f=>
    have hp:fldPath (f+1) (f1::f2::fs).length= .R::fldPath f (f2::fs).length:=rfl
    rw[hp]at hs
    cases t<;>first|(cases hs;done)|skip
    rename_i a' b'
    simp only[Ty.like,Bool.and_eq_true]at hl
    simp only[loc]at hs
    obtain⟨k,ft,q1,q2,q3,q4⟩:=fld_loc (f2::fs) _ b h3 b' g.2 _ f fd s hl.2 (by simpa using hf) (fun A hA=>by
     cases ad with
     |none=>cases hA
     |some A'=>simp at hA;subst hA;rfl) hs
    refine⟨a.sz+k,ft,by omega, ?_,q3,q4⟩
    rw[q2,like_sz hl.1]
    cases ad with
    |none=>rfl
    |some A=>simp[plus_plus]
end
section
theorem add_plus{A:Addr}(h:A.spot=none)(k:Nat):A.add k=A.plus k:=by
 unfold Addr.add
 split
 ·rename_i hk;subst hk;exact(plus_zero h).symm
 ·rfl
theorem FldR.ty{P:Program}:∀(fs:List Field) (off:Nat) (t:Ty),FldR P fs off t→∀(f:Nat) (fd:Field),fs[f]? =some fd→∃ft,TyR P fd.type ft
 |[],off,t,h,f,fd,hf=>by cases h
 |[f1],off,t,h,f,fd,hf=>by
  cases h with
  |one h1 h2=>
   cases f with
   |zero=>simp at hf;subst hf;exact⟨_,h2⟩
   |succ n=>simp at hf
 |f1::f2::fs,off,t,h,f,fd,hf=>by
  cases h with
  |cons h1 h2 h3=>
   cases f with
   |zero=>simp at hf;subst hf;exact⟨_,h2⟩
   |succ n=>exact FldR.ty (f2::fs) _ _ h3 n fd (by simpa using hf)
theorem tyAt_nil(t:Ty):tyAt t []=some t:=by cases t<;>first|rfl|(rename_i o u;cases o<;>rfl)
theorem tyAt_append:∀(p:Path) (t:Ty) (q:Path),tyAt t (p++q)=(tyAt t p).bind fun u=>tyAt u q
 |[],t,q=>by rw[tyAt_nil];rfl
 | .L::p,t,q=>by
  cases t<;>first|rfl|skip
  exact tyAt_append p _ q
 | .R::p,t,q=>by
  cases t<;>first|rfl|skip
  exact tyAt_append p _ q
 | .I i::p,t,q=>by
  cases t<;>first|rfl|skip
  rename_i o u
  cases o with
  |false=>rfl
  |true=>exact tyAt_append p _ q
 | .A i::p,t,q=>by
  cases t<;>first|rfl|skip
  exact tyAt_append p _ q
theorem fld_there:∀(n f:Nat) (t:Ty) (g:t.G) (ad:Option Addr),(tyAt t (fldPath f n)).isSome=true→∃s,loc t g ad (fldPath f n)=some s
 |0,0,t,g,ad,_=>⟨_,loc_nil t g ad⟩
 |1,0,t,g,ad,_=>⟨_,loc_nil t g ad⟩
 |n+2,0,t,g,ad,h=>by
  have hp:fldPath 0 (n+2)=[.L]:=rfl
  rw[hp]at h ⊢
  cases t<;>first|(cases h;done)|skip
  exact⟨_,loc_nil _ _ _⟩
 |0,f+1,t,g,ad,_=>⟨_,loc_nil t g ad⟩
 |1,f+1,t,g,ad,_=>⟨_,loc_nil t g ad⟩
 |n+2,f+1,t,g,ad,h=>by
  have hp:fldPath (f+1) (n+2)= .R::fldPath f (n+1):=rfl
  rw[hp]at h ⊢
  cases t<;>first|(cases h;done)|skip
  exact fld_there (n+1) f _ _ _ h
theorem noI_fld:∀(n f:Nat),noI (fldPath f n)=true
 |0,0|1,0|0,_+1|1,_+1=>rfl
 |n+2,0=>rfl
 |n+2,f+1=>noI_fld (n+1) f
theorem noI_append:∀(p q:Path),noI (p++q)=(noI p&&noI q)
 |[],q=>rfl
 |a::p,q=>by
  cases a<;>first|rfl|exact noI_append p q
theorem spotOf_append{ρ:Roots}{e:GEnv}{p:Place}{s:Spot}(hs:spotOf ρ e p=some s)(q:Path)(hn:noI q=true):spotOf ρ e ⟨p.r,p.π++q⟩=loc s.t s.g s.ad q:=by
 simp only[spotOf]at hs ⊢
 cases hb:getB ρ p.r with
 |none=>rw[hb]at hs;cases hs
 |some b=>
  rw[hb]at hs
  cases b with
  |data=>
   simp only[spotD]at hs ⊢
   cases hg:e.gr p.r with
   |none=>rw[hg]at hs;cases hs
   |some G=>
    rw[hg]at hs
    simp only[Option.bind_some]at hs ⊢
    rw[loc_append,hs];rfl
  |al r=>
   simp only at hs ⊢
   split at hs
   case isFalse=>cases hs
   rename_i hp
   rw[if_pos (by rw[noI_append,hp,hn];rfl)]
   cases hr:spotD e r with
   |none=>rw[hr]at hs;cases hs
   |some s0=>
    rw[hr]at hs
    simp only[Option.bind_some]at hs ⊢
    rw[loc_append,hs];rfl
section
variable {P:Program} {E:Env} {c:Ctx} {KS:Nat→Prop} {e:GEnv} {F:Fs} {ρ:Roots} {w:World}
theorem run_fieldAt{tid:TypeId}{fs:Array Field}(hu:P.underlying tid=some (.struct fs)){f:Nat}{fd:Field}(hf:fs[f]? =some fd){ft:Ty}(ht:TyR P fd.type ft){A:Addr}(hA:A.spot=none):
  (Instr.fieldAt tid (.pointer (some A)) f).run P w= .ok (.pointer (some (A.plus fd.offset))) w:=by
 obtain⟨d,hd⟩:=ht.fact
 have hpos:ft.sz≠0:=Nat.pos_iff_ne_zero.1 hd.pos
 simp only[Instr.fieldAt,Sem.run_bind,run_underlying hu w,Result.andThen_ok,hf,Instr.sureAddr,Sem.run_pure,fieldPlace,run_sizeOf w ht,hpos,if_false,add_plus hA]
theorem tyLike_ok(hE:EnvOK P E){tid:Nat}{t:Ty}(h:tyLike E tid t=true):∃u,TyR P tid u∧t.like u=true:=by
 unfold tyLike at h
 split at h
 ·rename_i u hu;exact⟨u,hE.ty _ _ hu,h⟩
 ·cases h
theorem placeLike_ok(hE:EnvOK P E)(h:Inv c KS e F ρ w){tid:Nat}{p:Place}(hp:placeLike E ρ tid p=true){s:Spot}(hs:spotD e p=some s):∃u,TyR P tid u∧s.t.like u=true:=by
 unfold placeLike placeT at hp
 cases hb:getB ρ p.r with
 |none=>rw[hb]at hp;cases hp
 |some b=>
  rw[hb]at hp
  cases b with
  |al q=>cases hp
  |data re t x pd=>
   obtain⟨ad,g,q1,_⟩:=h.root hb
   simp only[spotD,q1,Option.bind_some]at hs
   simp only[tyAt_loc _ _ _ _ _ hs]at hp
   exact tyLike_ok hE hp
theorem struct_fld{tid:TypeId}{u:Ty}(h:TyR P tid u){fs:Array Field}(hu:P.underlying tid=some (.struct fs)):FldR P fs.toList 0 u:=by
 have key:∀{d'} {u:Ty},TyF P tid d' u→TypeDesc.struct fs=d':=fun hf=>by have:=hf.und;rw[hu]at this;cases this;rfl
 cases h with
 |int hf=>cases key hf
 |bool hf=>cases key hf
 |str hf=>cases key hf
 |list hf _=>cases key hf
 |ptr hf _=>cases key hf
 |arr hf _=>cases key hf
 |struct hf h2=>cases key hf;exact h2
 |ti hf=>cases key hf
theorem fieldAddr_rf(hE:EnvOK P E)(h:Inv c KS e F ρ w){call:CallT}{bound d tid f:Nat}{a:Operand}{p:Place}{v:Value}(hx:RVok w KS ρ e (.rf p) v){ef:Eff}
  (hc:(comp E call bound d (.fieldAddr tid a f) [.rf p] ρ).run=some ef):Does P (do pure (.value (←Instr.fieldAt tid v f))) w (After c KS F ρ ef):=by
 simp only[comp]at hc
 obtain⟨hf,hc⟩:=Cm.run_chk hc
 obtain⟨s,A,k1,k2,rfl⟩:=hx
 obtain⟨hok,hrow,hd,a',hsd⟩:=spotOf_ok h k1
 split at hc
 ·rename_i re tr x pd hb
  obtain⟨hchk,hc⟩:=Cm.run_chk hc
  injection hc with hc;subst hc
  simp only[Bool.and_eq_true]at hchk
  obtain⟨u,hu,hlike⟩:=placeLike_ok hE h hchk.1 hsd
  have hlt:f<E.nf tid:=by
   have:=hf
   simp only[Nat.blt_eq]at this
   exact this
  obtain⟨fs,hst,hnf⟩:=hE.nf tid (by omega)
  have hF:=struct_fld hu hst
  have hfl:f<fs.size:=by omega
  have hfd:fs.toList[f]? =some fs[f]:=by simp[hfl]
  -- the place is there
  obtain⟨ad0,g0,r1,_⟩:=h.root hb
  have hsd':=hsd
  simp only[spotD,r1,Option.bind_some]at hsd'
  have htyp:=tyAt_loc _ _ _ _ _ hsd'
  have hth:(tyAt s.t (fldPath f (E.nf tid))).isSome=true:=by
   have:=hchk.2
   rw[tyAt_append,htyp]at this
   exact this
  obtain⟨s2,hs2⟩:=fld_there _ _ s.t s.g s.ad hth
  have hsp:=(hrow A k2).1
  have hs2':=hs2
  rw[hnf,←Array.length_toList]at hs2'
  obtain⟨k,ft,m1,m2,m3,m4⟩:=fld_loc fs.toList 0 u hF s.t s.g s.ad f fs[f] s2 hlike hfd (fun B hB=>by rw[k2]at hB;cases hB;exact hsp) hs2'
  refine does_value (run_fieldAt hst (by simp[hfl]) m3 hsp) ?_
  refine After.pure h ⟨s2,A.plus fs[f].offset, ?_, ?_,rfl⟩
  ·rw[spotOf_append k1 _ (noI_fld _ _)];exact hs2
  ·rw[m2,k2,m1,Nat.zero_add];rfl
 ·cases hc
end
end
section
theorem shared_loc:∀(p:Path) (t:Ty) (g:t.G) (ad:Option Addr) (s:Spot),loc t g ad p=some s→t.shared=true→s.t.shared=true
 |[],t,g,ad,s,h,hs=>by
  rw[loc_nil]at h;injection h with h;subst h;exact hs
 | .L::p,t,g,ad,s,h,hs=>by
  cases t<;>first|(cases h;done)|skip
  simp only[Ty.shared,Bool.and_eq_true]at hs
  exact shared_loc p _ _ _ s h hs.1
 | .R::p,t,g,ad,s,h,hs=>by
  cases t<;>first|(cases h;done)|skip
  simp only[Ty.shared,Bool.and_eq_true]at hs
  exact shared_loc p _ _ _ s h hs.2
 | .I i::p,t,g,ad,s,h,hs=>by
  cases t<;>first|(cases h;done)|skip
  rename_i o u
  cases o with
  |false=>cases h
  |true=>cases hs
 | .A i::p,t,g,ad,s,h,hs=>by
  cases t<;>first|(cases h;done)|skip
  simp only[loc]at h
  split at h
  ·exact shared_loc p _ _ _ s h hs
  ·cases h
theorem like_same:∀{a b:Ty},a.shared=true→a.like b=true→a.same b=true:=by
 intro a
 induction a with
 |pair x y ihx ihy=>
  intro b hs h
  cases b<;>first|(cases h;done)|skip
  simp only[Ty.like,Ty.shared,Bool.and_eq_true]at h hs
  simp only[Ty.same,Bool.and_eq_true]
  exact⟨ihx hs.1 h.1,ihy hs.2 h.2⟩
 |gone n=>intro b hs h;cases hs
 |_=>intro b hs h;exact h
theorem same_like:∀{a b:Ty},a.same b=true→a.shared=true→a.like b=true:=by
 intro a
 induction a with
 |pair x y ihx ihy=>
  intro b h hs
  cases b<;>first|(cases h;done)|skip
  simp only[Ty.same,Ty.shared,Bool.and_eq_true]at h hs
  simp only[Ty.like,Bool.and_eq_true]
  exact⟨ihx h.1 hs.1,ihy h.2 hs.2⟩
 |gone n=>intro b h hs;cases hs
 |_=>intro b h hs;exact h
theorem like_agg{a b:Ty}(h:a.like b=true)(hb:b.agg=true):a.agg=true:=by
 cases a<;>first|rfl|(have:=same_agg (a:=_) (b:=b) h;rw[hb]at this;exact this)
theorem val_like{a b:Ty}(h:a.like b=true)(hh:a.here=true)(cs:List Value):val a cs=val b cs:=by
 cases a with
 |gone n=>cases hh
 |pair x y=>cases b<;>first|rfl|(cases h;done)
 |_=>exact val_same h cs
theorem stand_mid{w:World}{A:Addr}{X m Y:List Value}(h:Stand w A (X++m++Y)):Stand w (A.plus X.length) m:=rangeAt_mid h
theorem shared_fld{P:Program}{w:World}{KS:Nat→Prop}{fs:List Field}{t0 t:Ty}(hF:FldR P fs 0 t0)(hsh:t.shared=true)(hs:t.same t0=true){y:t.D}{rows:List Value}(hy:RepK w KS t y rows)
  {f:Nat} {fd:Field} (hfd:fs[f]? =some fd) {z:Dyn} (hz:(rd t y (fldPath f fs.length)).run=some z):
  ∃pre mid post ft,rows=pre++mid++post∧fd.offset=pre.length∧TyR P fd.type ft∧z.1.same ft=true∧z.1.shared=true∧RepK w KS z.1 z.2 mid:=by
 obtain⟨g,p1,p2,p3,p4⟩:=repK_okG t hsh y rows hy
 subst p2 p3
 obtain⟨s,hl,rfl⟩:=rd_loc _ t g (some ⟨0,0,none⟩) z hz
 have hlike:t.like t0=true:=same_like hs hsh
 have hsp:∀A,some (⟨0,0,none⟩:Addr)=some A→A.spot=none:=fun A hA=>by cases hA;rfl
 obtain⟨k,ft,m1,m2,m3,m4⟩:=fld_loc fs 0 t0 hF t g _ f fd s hlike hfd hsp hl
 have hL:=locG _ t g _ s hl hsp p1
 obtain⟨pre,post,e1,e2⟩:=hL.out (noI_fld _ _)
 have hss:=shared_loc _ _ _ _ _ hl hsh
 rw[m2]at e2
 simp only[Option.map_some,Option.some.injEq,Addr.plus,Addr.mk.injEq,true_and,and_true,Nat.zero_add]at e2
 refine⟨pre,cl s.t s.g,post,ft,e1,by omega,m3,like_same hss m4,hss, ?_⟩
 exact okG_repK (fun _ h=>h) s.t s.g (by simp[fp_shared _ hss s.g]) hL.ok
section
variable {P:Program} {E:Env} {c:Ctx} {KS:Nat→Prop} {e:GEnv} {F:Fs} {ρ:Roots} {w:World}
theorem fieldAddr_v(hE:EnvOK P E)(h:Inv c KS e F ρ w){call:CallT}{bound d tid f:Nat}{a:Operand}{tp:Ty}{o:(Ty.ptr tp).D}{v:Value}(hx:RVok w KS ρ e (.v (.ptr tp) o) v){ef:Eff}
  (hc:(comp E call bound d (.fieldAddr tid a f) [.v (.ptr tp) o] ρ).run=some ef):Does P (do pure (.value (←Instr.fieldAt tid v f))) w (After c KS F ρ ef):=by
 simp only[comp]at hc
 obtain⟨hf,hc⟩:=Cm.run_chk hc
 obtain⟨h1,hc⟩:=Cm.run_chk hc
 obtain⟨y,hy,hc⟩:=Cm.run_get hc
 obtain⟨z,hz,hc⟩:=Cm.run_bind_some hc
 injection hc with hc;subst hc
 obtain⟨hsh,cs,k1,k2⟩:=hx
 have hy':o=some y:=hy
 subst hy'
 obtain⟨A,rows,rfl,q1,q2,q3,q4⟩:=k1
 obtain⟨u,hu,hsame⟩:=tyIs_ok hE h1
 have hlt:f<E.nf tid:=by simpa only[Nat.blt_eq]using hf
 obtain⟨fs,hst,hnf⟩:=hE.nf tid (by omega)
 have hF:=struct_fld hu hst
 have hfl:f<fs.size:=by omega
 have hfd:fs.toList[f]? =some fs[f]:=by simp[hfl]
 rw[hnf,←Array.length_toList]at hz
 obtain⟨pre,mid,post,ft,e1,e2,e3,e4,e5,e6⟩:=shared_fld (t:=tp) hF hsh hsame q4 hfd hz
 have hv:v= .pointer (some A):=k2
 subst hv
 refine does_value (run_fieldAt hst (by simp[hfl]) e3 q1) ?_
 rw[e1]at q3
 refine After.pure h ⟨e5,[.pointer (some (A.plus fs[f].offset))],⟨A.plus fs[f].offset,mid,rfl,rfl,q2, ?_,e6⟩,rfl⟩
 rw[e2];exact stand_mid q3
theorem run_part{tid:TypeId}{t:Ty}(h:TyR P tid t){pre mid post:List Value}(hl:mid.length=t.sz):
  (part tid (pre++mid++post).toArray pre.length).run P w= .ok (val t mid) w:=by
 unfold part
 cases ha:t.agg with
 |true=>
  simp only[Sem.run_bind,run_isAgg w h,ha,Result.andThen_ok,if_true,run_sizeOf w h,Sem.run_pure]
  rw[val_agg ha,←hl]
  congr 2
  simp
 |false=>
  obtain⟨v,rfl,hv⟩:=val_scal ha hl
  simp only[Sem.run_bind,run_isAgg w h,ha,Result.andThen_ok,Bool.false_eq_true,if_false,hv]
  simp
theorem run_field{tid:TypeId}{fs:Array Field}(hu:P.underlying tid=some (.struct fs)){f:Nat}{fd:Field}(hf:fs[f]? =some fd){ft:Ty}(ht:TyR P fd.type ft){pre mid post:List Value}(ho:fd.offset=pre.length)(hl:mid.length=ft.sz):
  (Instr.field tid (.agg (pre++mid++post).toArray) f).run P w= .ok (val ft mid) w:=by
 simp only[Instr.field,Sem.run_bind,run_underlying hu w,Result.andThen_ok,hf,asAgg,Sem.run_pure,ho,run_part ht hl]
theorem struct_agg{tid:TypeId}{u:Ty}(h:TyR P tid u){fs:Array Field}(hu:P.underlying tid=some (.struct fs)):u.agg=true:=by
 have:=h.agg hu;exact this.symm
theorem field_v(hE:EnvOK P E)(h:Inv c KS e F ρ w){call:CallT}{bound d tid f:Nat}{a:Operand}{ts:Ty}{y:ts.D}{v:Value}(hx:RVok w KS ρ e (.v ts y) v){ef:Eff}
  (hc:(comp E call bound d (.field tid a f) [.v ts y] ρ).run=some ef):Does P (do pure (.value (←Instr.field tid v f))) w (After c KS F ρ ef):=by
 simp only[comp]at hc
 obtain⟨hf,hc⟩:=Cm.run_chk hc
 obtain⟨h1,hc⟩:=Cm.run_chk hc
 obtain⟨z,hz,hc⟩:=Cm.run_bind_some hc
 injection hc with hc;subst hc
 obtain⟨hsh,cs,k1,rfl⟩:=hx
 obtain⟨u,hu,hsame⟩:=tyIs_ok hE h1
 have hlt:f<E.nf tid:=by simpa only[Nat.blt_eq]using hf
 obtain⟨fs,hst,hnf⟩:=hE.nf tid (by omega)
 have hF:=struct_fld hu hst
 have hfl:f<fs.size:=by omega
 have hfd:fs.toList[f]? =some fs[f]:=by simp[hfl]
 rw[hnf,←Array.length_toList]at hz
 obtain⟨pre,mid,post,ft,e1,e2,e3,e4,e5,e6⟩:=shared_fld hF hsh hsame k1 hfd hz
 rw[val_same hsame,val_agg (struct_agg hu hst),e1]
 refine does_value (run_field hst (by simp[hfl]) e3 e2 (by rw[repK_len _ _ _ e6,Ty.same_sz e4])) ?_
 rw[←val_same e4]
 exact After.pure h ⟨e5,mid,e6,rfl⟩
theorem field_sv(hE:EnvOK P E)(h:Inv c KS e F ρ w){call:CallT}{bound d tid f:Nat}{a:Operand}{p:Place}{v:Value}(hx:RVok w KS ρ e (.sv p) v){ef:Eff}
  (hc:(comp E call bound d (.field tid a f) [.sv p] ρ).run=some ef):Does P (do pure (.value (←Instr.field tid v f))) w (After c KS F ρ ef):=by
 simp only[comp]at hc
 obtain⟨hf,hc⟩:=Cm.run_chk hc
 obtain⟨h1,hc⟩:=Cm.run_chk hc
 obtain⟨z,hz,hc⟩:=Cm.run_bind_some hc
 obtain⟨hhere,hc⟩:=Cm.run_chk hc
 injection hc with hc;subst hc
 obtain⟨hd,s,hs,_,rfl⟩:=hx
 obtain⟨u,hu,hlike⟩:=placeLike_ok hE h h1 hs
 have hlt:f<E.nf tid:=by simpa only[Nat.blt_eq]using hf
 obtain⟨fs,hst,hnf⟩:=hE.nf tid (by omega)
 have hF:=struct_fld hu hst
 have hfl:f<fs.size:=by omega
 have hfd:fs.toList[f]? =some fs[f]:=by simp[hfl]
 obtain⟨s2,hs2,rfl,_⟩:=rdP_ok h hz
 have hres:res ρ ⟨p.r,p.π++fldPath f (E.nf tid)⟩=⟨p.r,p.π++fldPath f (E.nf tid)⟩:=by
  obtain⟨re,t,x,pd,hb⟩:=hd
  simp only[res,hb]
 rw[hres]at hs2
 obtain⟨sok,_⟩:=spotD_ok h hd hs
 have hl2:loc s.t s.g s.ad (fldPath f (E.nf tid))=some s2:=by
  simp only[spotD]at hs hs2
  cases hg:e.gr p.r with
  |none=>rw[hg]at hs;cases hs
  |some G=>
   rw[hg]at hs hs2
   simp only[Option.bind_some]at hs hs2
   rw[loc_append,hs]at hs2;exact hs2
 obtain⟨a',hl3⟩:=loc_base _ _ _ _ (some ⟨0,0,none⟩) _ hl2
 have hsp:∀A,some (⟨0,0,none⟩:Addr)=some A→A.spot=none:=fun A hA=>by cases hA;rfl
 have hl4:=hl3
 rw[hnf,←Array.length_toList]at hl4
 obtain⟨k,ft,m1,m2,m3,m4⟩:=fld_loc fs.toList 0 u hF s.t s.g _ f fs[f] _ hlike hfd hsp hl4
 have hL:=locG _ s.t s.g _ _ hl3 hsp sok
 obtain⟨pre,post,e1,e2⟩:=hL.out (noI_fld _ _)
 rw[m2]at e2
 simp only[Option.map_some,Option.some.injEq,Addr.plus,Addr.mk.injEq,true_and,and_true,Nat.zero_add]at e2
 rw[val_agg (like_agg hlike (struct_agg hu hst)),e1]
 refine does_value (run_field hst (by simp[hfl]) m3 (by omega) (by rw[okG_len _ _ hL.ok];exact like_sz m4)) ?_
 rw[←val_like m4 hhere]
 exact After.pure h (seen_ok (p:=⟨p.r,p.π++fldPath f (E.nf tid)⟩) h hd hs2)
end
end
section
theorem rows_split{α:Type}{R:α→List Value→Prop}{s:Nat}(hR:∀x cs,R x cs→cs.length=s):∀(l:List α) (rows:List Value),Rows' R l rows→∀(i:Nat) (y:α),l[i]? =some y→
  ∃pre mid post,rows=pre++mid++post∧pre.length=i*s∧R y mid
 |[],rows,h,i,y,hi=>by simp at hi
 |x::xs,rows,⟨c1,c2,e,h1,h2⟩,0,y,hi=>by
  simp at hi;subst hi
  exact⟨[],c1,c2,by simp[e],by simp,h1⟩
 |x::xs,rows,⟨c1,c2,e,h1,h2⟩,i+1,y,hi=>by
  obtain⟨pre,mid,post,q1,q2,q3⟩:=rows_split hR xs c2 h2 i y (by simpa using hi)
  exact⟨c1++pre,mid,post,by simp[e,q1],by simp[q2,hR _ _ h1,Nat.add_mul,Nat.add_comm],q3⟩
section
variable {P:Program} {E:Env} {c:Ctx} {KS:Nat→Prop} {e:GEnv} {F:Fs} {ρ:Roots} {w:World}
theorem list_ty{tid:TypeId}{u:Ty}(h:TyR P tid u){o:Bool}{te:Ty}(hs:(Ty.list o te).same u=true):∃elem te',P.underlying tid=some (.slice elem)∧TyR P elem te'∧te.same te'=true:=by
 cases h with
 |list hf h2=>exact⟨_,_,hf.und,h2,hs⟩
 |_=>cases hs
theorem arr_ty{tid:TypeId}{u:Ty}(h:TyR P tid u){n:Nat}{te:Ty}(hs:(Ty.arr n te).same u=true):∃elem te',P.underlying tid=some (.array n elem)∧TyR P elem te'∧te.same te'=true∧u= .arr n te':=by
 cases h with
 |arr hf h2=>
  simp only[Ty.same,Bool.and_eq_true]at hs
  obtain rfl:=Nat.eq_of_beq_eq_true hs.1
  exact⟨_,_,hf.und,h2,hs.2,rfl⟩
 |_=>cases hs
theorem run_indexAt{tid elem:TypeId}(hu:P.underlying tid=some (.slice elem)){te:Ty}(ht:TyR P elem te){a:Addr}(ha:a.spot=none){len cap:Nat}{k:IntKind}{i:Int}(h0:0≤i)(h1:i<len):
  (Instr.indexAt tid (.slice (some a) len cap) (.int k i)).run P w= .ok (.pointer (some (a.plus (i.toNat*te.sz)))) w:=by
 simp only[Instr.indexAt,asIntOf,Sem.run_bind,Sem.run_pure,Result.andThen_ok,run_underlying hu w,h0,h1,and_self,if_true,run_sizeOf w ht,add_plus ha]
theorem run_indexAtArr{tid elem:TypeId}{n:Nat}(hu:P.underlying tid=some (.array n elem)){te:Ty}(ht:TyR P elem te){a:Addr}(ha:a.spot=none){k:IntKind}{i:Int}(h0:0≤i)(h1:i<n):
  (Instr.indexAt tid (.pointer (some a)) (.int k i)).run P w= .ok (.pointer (some (a.plus (i.toNat*te.sz)))) w:=by
 simp only[Instr.indexAt,asIntOf,Instr.sureAddr,Sem.run_bind,Sem.run_pure,Result.andThen_ok,run_underlying hu w,h0,h1,and_self,if_true,run_sizeOf w ht,add_plus ha]
theorem idx_some{x:RV}{n:Nat}{f:Nat→Cm Eff}{ef:Eff}(h:(idx x n f).run=some ef):∃(k:IntKind) (i:Int),x= .v (.int k) i∧0≤i∧i<n∧(f i.toNat).run=some ef:=by
 unfold idx at h
 split at h
 ·rename_i k i
  obtain⟨h0,h⟩:=Cm.run_ask h
  obtain⟨h1,h⟩:=Cm.run_ask h
  exact⟨k,i,rfl,h0,h1,h⟩
 ·cases h
theorem bnd_some{x:RV}{n:Nat}{f:Nat→Cm Eff}{ef:Eff}(h:(bnd x n f).run=some ef):∃(k:IntKind) (i:Int),x= .v (.int k) i∧0≤i∧i≤n∧(f i.toNat).run=some ef:=by
 unfold bnd at h
 split at h
 ·rename_i k i
  obtain⟨h0,h⟩:=Cm.run_ask h
  obtain⟨h1,h⟩:=Cm.run_ask h
  exact⟨k,i,rfl,h0,h1,h⟩
 ·cases h
theorem res_data{p:Place}(hd:hasData ρ p.r):res ρ p=p:=by
 obtain⟨re,t,x,pd,hb⟩:=hd
 simp only[res,hb]
theorem spotOf_data{p:Place}(hd:hasData ρ p.r):spotOf ρ e p=spotD e p:=by
 obtain⟨re,t,x,pd,hb⟩:=hd
 simp only[spotOf,hb]
theorem spotD_append{p:Place}{s:Spot}(hs:spotD e p=some s)(q:Path):spotD e ⟨p.r,p.π++q⟩=loc s.t s.g s.ad q:=by
 simp only[spotD]at hs ⊢
 cases hg:e.gr p.r with
 |none=>rw[hg]at hs;cases hs
 |some G=>
  rw[hg]at hs
  simp only[Option.bind_some]at hs ⊢
  rw[loc_append,hs];rfl
theorem own_there{te:Ty}{g:OwnL te.G}(h:okG w KS (.list true te) g){i:Nat}(hi:i<g.rows.length):∃b,g.ad=some ⟨b,0,none⟩∧0<g.cap∧g.rows.length≤g.cap:=by
 rcases h with⟨_,h2⟩|⟨b,rest,h1,h2,h3,_⟩
 ·rw[h2]at hi;simp at hi
 ·exact⟨b,h1,h2,h3.1⟩
theorem lenOf_wl(h:Inv c KS e F ρ w){p:Place}{v:Value}(hx:RVok w KS ρ e (.wl p) v){n:Nat}(hn:(lenOf ρ (.wl p)).run=some n):
  hasData ρ p.r∧∃te,∃g:OwnL te.G,∃ad,spotD e p=some ⟨.list true te,g,ad⟩∧v= .slice g.ad g.rows.length g.cap∧n=g.rows.length∧okG w KS (.list true te) g:=by
 obtain⟨hd,te,g,ad,hs,hv⟩:=hx
 unfold lenOf at hn
 obtain⟨dd,hr,hn⟩:=Cm.run_bind_some hn
 obtain⟨s,hs',rfl,_⟩:=rdP_ok h hr
 rw[res_data hd,hs]at hs'
 cases hs'
 simp only at hn
 injection hn with hn
 exact⟨hd,te,g,ad,hs,hv,by rw[←hn];simp[er],(spotD_ok h hd hs).1⟩
theorem indexAddr_ok(hE:EnvOK P E)(h:Inv c KS e F ρ w){call:CallT}{bound d tid:Nat}{a b:Operand}{x y:RV}{v u:Value}(hx:RVok w KS ρ e x v)(hy:RVok w KS ρ e y u){ef:Eff}
  (hc:(comp E call bound d (.indexAddr tid a b) [x,y] ρ).run=some ef):Does P (do pure (.value (←Instr.indexAt tid v u))) w (After c KS F ρ ef):=by
 simp only[comp]at hc
 replace hc:=Cm.run_chk hc;obtain⟨h1,hc⟩:=hc
 cases x with
 |v t l=>
  cases t with
  |list o t=> ?_
  |_=>cases hc
  simp only at hc
  split at hc
  ·rename_i k i
   replace hc:=Cm.run_ask hc;obtain⟨h0,hc⟩:=hc
   replace hc:=Cm.run_get hc;obtain⟨z,hz,hc⟩:=hc
   injection hc with hc;subst hc
   have hi:=rvok_int hy
   subst hi
   obtain⟨hsh,cs,k1,rfl⟩:=hx
   cases o with
   |true=>cases hsh
   |false=>
   obtain⟨ad,cap,rfl,hcap,k3⟩:=k1
   obtain⟨ut,hu,hsame⟩:=tyIs_ok hE h1
   obtain⟨elem,te',hund,hte,hs'⟩:=list_ty hu hsame
   rcases k3 with rfl|⟨A,rows,rfl,q1,q2,q3,q4⟩
   ·simp at hz
   obtain⟨pre,mid,post,e1,e2,e3⟩:=rows_split (fun x cs h=>repK_len t x cs h) l rows q4 _ _ hz
   have hlt:i.toNat<l.length:=(List.getElem?_eq_some_iff.1 hz).1
   refine does_value (run_indexAt hund hte q1 h0 (by omega)) ?_
   rw[e1]at q3
   refine After.pure h ⟨by simpa[Ty.shared]using hsh,[.pointer (some (A.plus (i.toNat*te'.sz)))],⟨_,mid,rfl,rfl,q2, ?_,e3⟩,rfl⟩
   rw[←Ty.same_sz hs',←e2];exact stand_mid q3
  ·cases hc
 |wl p=>
  replace hc:=Cm.run_bind_some hc;obtain⟨n,hn,hc⟩:=hc
  obtain⟨hd,te,g,ad,hs,rfl,rfl,hok⟩:=lenOf_wl h hx hn
  obtain⟨k,i,rfl,h0,hi,hc⟩:=idx_some hc
  injection hc with hc;subst hc
  have hi':=rvok_int hy
  subst hi'
  have h1':placeIs E ρ tid p=true:=h1
  obtain⟨ut,hu,hsame⟩:=placeIs_ok hE h h1' hs
  obtain⟨elem,te',hund,hte,hs'⟩:=list_ty hu hsame
  have hlt:i.toNat<g.rows.length:=by omega
  obtain⟨bb,m1,m2,m3⟩:=own_there hok hlt
  rw[m1]
  refine does_value (run_indexAt hund hte rfl h0 hi) ?_
  refine After.pure h ⟨⟨te,g.rows[i.toNat],some (Addr.plus ⟨bb,0,none⟩ (i.toNat*te.sz))⟩,_, ?_,rfl,by rw[Ty.same_sz hs']⟩
  refine(spotOf_data (e:=e) (p:=⟨p.r,p.π++[Step.I i.toNat]⟩) hd).trans ((spotD_append hs _).trans ?_)
  simp only[loc,List.getElem?_eq_getElem hlt,loc_nil,m1,Option.map_some]
 |vw p lo n=>
  obtain⟨k,i,rfl,h0,hi,hc⟩:=idx_some hc
  injection hc with hc;subst hc
  have hi':=rvok_int hy
  subst hi'
  obtain⟨hd,te,g,ad,hs,hlo,ad2,had2,rfl⟩:=hx
  have h1':placeIs E ρ tid p=true:=h1
  obtain⟨ut,hu,hsame⟩:=placeIs_ok hE h h1' hs
  obtain⟨elem,te',hund,hte,hs'⟩:=list_ty hu hsame
  have hok:okG w KS (.list true te) g:=(spotD_ok h hd hs).1
  have hlt:lo+i.toNat<g.rows.length:=by omega
  obtain⟨bb,m1,m2,m3⟩:=own_there hok hlt
  rw[had2 (by omega),m1]
  refine does_value (run_indexAt (a:=Addr.plus ⟨bb,0,none⟩ (lo*te.sz)) hund hte rfl h0 hi) ?_
  refine After.pure h ⟨⟨te,g.rows[lo+i.toNat],some (Addr.plus ⟨bb,0,none⟩ ((lo+i.toNat)*te.sz))⟩,_, ?_,rfl,by rw[Ty.same_sz hs',plus_plus,Nat.add_mul]⟩
  refine(spotOf_data (e:=e) (p:=⟨p.r,p.π++[Step.I (lo+i.toNat)]⟩) hd).trans ((spotD_append hs _).trans ?_)
  simp only[loc,List.getElem?_eq_getElem hlt,loc_nil,m1,Option.map_some]
 |rf p=>
  replace hc:=Cm.run_bind_some hc;obtain⟨dd,hr,hc⟩:=hc
  obtain⟨s2,hs2,rfl,hdr⟩:=rdP_ok h hr
  obtain⟨s,A,k1,k2,rfl⟩:=hx
  obtain⟨hok,hrow,_,a',hsd⟩:=spotOf_ok h k1
  rw[hsd]at hs2;cases hs2
  obtain⟨st,sg,sad⟩:=s
  dsimp only at hc k2 hsd hok hrow
  subst k2
  split at hc
  ·rename_i nn tt
   obtain⟨k,i,rfl,h0,hi,hc⟩:=idx_some hc
   injection hc with hc;subst hc
   have hi':=rvok_int hy
   subst hi'
   have h1':placeIs E ρ tid (res ρ p)=true:=h1
   obtain⟨ut,hu,hsame⟩:=placeIs_ok hE h h1' hsd
   obtain⟨elem,te',hund,hte,hs',_⟩:=arr_ty hu hsame
   refine does_value (run_indexAtArr hund hte (hrow A rfl).1 h0 hi) ?_
   have hlt:i.toNat<(sg:List tt.G).length:=by rw[hok.1];omega
   refine After.pure h ⟨⟨tt,(sg:List tt.G)[i.toNat],some (A.plus (i.toNat*tt.sz))⟩,_, ?_,rfl,by rw[Ty.same_sz hs']⟩
   rw[spotOf_append k1 _ rfl]
   simp only[loc,List.getElem?_eq_getElem hlt,loc_nil,Option.map_some]
  ·cases hc
 |_=>cases hc
theorem index_ok(hE:EnvOK P E)(h:Inv c KS e F ρ w){call:CallT}{bound d tid:Nat}{a b:Operand}{x y:RV}{v u:Value}(hx:RVok w KS ρ e x v)(hy:RVok w KS ρ e y u){ef:Eff}
  (hc:(comp E call bound d (.index tid a b) [x,y] ρ).run=some ef):Does P (do pure (.value (←Instr.index tid v u))) w (After c KS F ρ ef):=by
 simp only[comp]at hc
 replace hc:=Cm.run_chk hc;obtain⟨h1,hc⟩:=hc
 split at hc
 ·rename_i s k i
  replace hc:=Cm.run_ask hc;obtain⟨h0,hc⟩:=hc
  replace hc:=Cm.run_get hc;obtain⟨z,hz,hc⟩:=hc
  injection hc with hc;subst hc
  have hi:=rvok_int hy
  subst hi
  have hv:=rvok_str hx
  subst hv
  obtain⟨ut,hu,hsame⟩:=tyIs_ok hE h1
  have hund:P.underlying tid=some .string:=by cases hu with
   |str hf=>exact hf.und
   |_=>cases hsame
  simp only[Option.map_eq_some_iff]at hz
  obtain⟨cc,hcc,rfl⟩:=hz
  have hrun:(Instr.index tid (.string s) (.int k i)).run P w= .ok (.int .u8 cc.toNat) w:=by
   simp only[Instr.index,asIntOf,Sem.run_bind,Sem.run_pure,Result.andThen_ok,run_underlying hund w,h0,if_true,hcc]
  exact does_value hrun (After.pure h (rvok_of_int .u8 _))
 ·rename_i n t l k i
  replace hc:=Cm.run_ask hc;obtain⟨h0,hc⟩:=hc
  replace hc:=Cm.run_get hc;obtain⟨z,hz,hc⟩:=hc
  injection hc with hc;subst hc
  have hi:=rvok_int hy
  subst hi
  obtain⟨hsh,cs,k1,rfl⟩:=hx
  obtain⟨ut,hu,hsame⟩:=tyIs_ok hE h1
  obtain⟨elem,te',hund,hte,hs',_⟩:=arr_ty hu hsame
  obtain⟨hn,k1⟩:=k1
  obtain⟨pre,mid,post,rfl,e2,e3⟩:=rows_split (fun x cs h=>repK_len t x cs h) l cs k1 _ _ hz
  have hlt:i.toNat<(l:List t.D).length:=(List.getElem?_eq_some_iff.1 hz).1
  have hn':(l:List t.D).length=n:=hn
  have hrun:(Instr.index tid (.agg (pre++mid++post).toArray) (.int k i)).run P w= .ok (val te' mid) w:=by
   have hi2:(i:Int)<(n:Int):=by rw[←hn'];exact(Int.toNat_lt h0).1 hlt
   simp only[Instr.index,asIntOf,Sem.run_bind,Sem.run_pure,Result.andThen_ok,run_underlying hund w,h0,hi2,and_self,if_true,run_sizeOf w hte]
   rw[←Ty.same_sz hs',←e2]
   exact run_part hte (by rw[repK_len _ _ _ e3,Ty.same_sz hs'])
  refine does_value hrun ?_
  rw[←val_same hs']
  exact After.pure h ⟨by simpa[Ty.shared]using hsh,mid,e3,rfl⟩
 ·cases hc
end
end
section
def BndIs(o:Option RV)(dflt most n:Nat):Prop:=
 match o with
 |none=>n=dflt
 |some x=>∃(k:IntKind) (i:Int),x= .v (.int k) i∧0≤i∧i≤most∧n=i.toNat
def finE(x:RV)(l h:Nat):Cm Eff:=match x with
 | .v .str s=>pureE (.str ((s:ByteArray).extract l h))
 | .v (.list o t) l'=> .chk (!t.isT) (pureE (.v (.list o t) (((l':List t.D).take h).drop l:List t.D)))
 | .nl=>pureE .nl
 | .wl p=>pureE (.vw p l (h-l))
 | .vw p b _=>pureE (.vw p (b+l) (h-l))
 |_=> .fail
theorem sliceE_some{ρ:Roots}{x:RV}{lo hi:Option RV}{ef:Eff}(hc:(sliceE ρ x lo hi).run=some ef):
  ∃n h l,(lenOf ρ x).run=some n∧BndIs hi n n h∧BndIs lo 0 h l∧(finE x l h).run=some ef:=by
 unfold sliceE at hc
 obtain⟨n,hn,hc⟩:=Cm.run_bind_some hc
 refine⟨n, ?_⟩
 cases hi with
 |none=>
  simp only at hc
  cases lo with
  |none=>exact⟨n,0,hn,rfl,rfl,hc⟩
  |some v=>
   obtain⟨k,i,rfl,h0,h1,hc⟩:=bnd_some hc
   exact⟨n,i.toNat,hn,rfl,⟨k,i,rfl,h0,h1,rfl⟩,hc⟩
 |some u=>
  simp only at hc
  obtain⟨k,i,rfl,h0,h1,hc⟩:=bnd_some hc
  cases lo with
  |none=>exact⟨i.toNat,0,hn,⟨k,i,rfl,h0,h1,rfl⟩,rfl,hc⟩
  |some v=>
   obtain⟨k',i',rfl,h0',h1',hc⟩:=bnd_some hc
   exact⟨i.toNat,i'.toNat,hn,⟨k,i,rfl,h0,h1,rfl⟩,⟨k',i',rfl,h0',h1',rfl⟩,hc⟩
theorem BndIs.le{o:Option RV}{dflt most n:Nat}(h:BndIs o dflt most n)(hd:dflt≤most):n≤most:=by
 cases o with
 |none=>simp only[BndIs]at h;omega
 |some x=>obtain⟨k,i,_,h0,h1,rfl⟩:=h;omega
section
variable {P:Program} {E:Env} {c:Ctx} {KS:Nat→Prop} {e:GEnv} {F:Fs} {ρ:Roots} {w:World}
def OptOk(w:World)(KS:Nat→Prop)(ρ:Roots)(e:GEnv):Option RV→Option Value→Prop
 |none,v=>v=none
 |some x,v=>∃u,v=some u∧RVok w KS ρ e x u
theorem run_bounds{isS:Bool}{len cap n h l:Nat}{lo hi:Option RV}{vlo vhi:Option Value}(hlo:OptOk w KS ρ e lo vlo)(hhi:OptOk w KS ρ e hi vhi)(hn:n=len)(hnc:n≤cap)(h1:BndIs hi n n h)(h2:BndIs lo 0 h l):
  (Instr.sliceBounds isS len cap vlo vhi none).run P w= .ok (l,h,cap) w:=by
 subst hn
 cases hi with
 |none=>
  have hv:vhi=none:=hhi
  subst hv
  have hh:h=n:=h1
  subst hh
  cases lo with
  |none=>
   have hv:vlo=none:=hlo
   subst hv
   have hl:l=0:=h2
   subst hl
   simp only[Instr.sliceBounds,Sem.run_bind,Sem.run_pure,Result.andThen_ok]
  |some x=>
   obtain⟨u,rfl,hx⟩:=hlo
   obtain⟨k,i,rfl,h0,h3,rfl⟩:=h2
   have:=rvok_int hx;subst this
   simp only[Instr.sliceBounds,Instr.sliceBound,asIntOf,Sem.run_bind,Sem.run_pure,Result.andThen_ok,h0,h3,and_self,if_true]
 |some y=>
  obtain⟨u,rfl,hy⟩:=hhi
  obtain⟨k,i,rfl,h0,h3,rfl⟩:=h1
  have:=rvok_int hy;subst this
  have h4:i≤(cap:Int):=by omega
  cases lo with
  |none=>
   have hv:vlo=none:=hlo
   subst hv
   have hl:l=0:=h2
   subst hl
   simp only[Instr.sliceBounds,Instr.sliceBound,asIntOf,Sem.run_bind,Sem.run_pure,Result.andThen_ok,h0,h4,and_self,if_true]
  |some x=>
   obtain⟨u',rfl,hx⟩:=hlo
   obtain⟨k',i',rfl,h0',h3',rfl⟩:=h2
   have:=rvok_int hx;subst this
   simp only[Instr.sliceBounds,Instr.sliceBound,asIntOf,Sem.run_bind,Sem.run_pure,Result.andThen_ok,h0,h4,h0',h3',and_self,if_true]
theorem rows_sub{α:Type}{R:α→List Value→Prop}{s:Nat}(hR:∀x cs,R x cs→cs.length=s):∀(l:List α) (rows:List Value),Rows' R l rows→∀(a h:Nat),a≤h→h≤l.length→
  ∃pre mid post,rows=pre++mid++post∧pre.length=a*s∧Rows' R ((l.take h).drop a) mid
 |[],rows,h,a,b,hab,hb=>by
  have:b=0:=by simpa using hb
  subst this
  have:a=0:=by omega
  subst this
  exact⟨[],[],rows,by simp,by simp,by simp[Rows']⟩
 |x::xs,rows,⟨c1,c2,e,h1,h2⟩,0,0,hab,hb=>⟨[],[],rows,by simp,by simp,by simp[Rows']⟩
 |x::xs,rows,⟨c1,c2,e,h1,h2⟩,0,b+1,hab,hb=>by
  obtain⟨pre,mid,post,q1,q2,q3⟩:=rows_sub hR xs c2 h2 0 b (by omega) (by simpa using hb)
  have hp:pre=[]:=by simpa using q2
  subst hp
  refine⟨[],c1++mid,post,by simp[e,q1],by simp, ?_⟩
  simp only[List.take_succ_cons,List.drop_zero]
  exact⟨c1,mid,rfl,h1,by simpa using q3⟩
 |x::xs,rows,⟨c1,c2,e,h1,h2⟩,a+1,b,hab,hb=>by
  cases b with
  |zero=>omega
  |succ b=>
   obtain⟨pre,mid,post,q1,q2,q3⟩:=rows_sub hR xs c2 h2 a b (by omega) (by simpa using hb)
   refine⟨c1++pre,mid,post,by simp[e,q1],by simp[q2,hR _ _ h1,Nat.add_mul,Nat.add_comm], ?_⟩
   simpa using q3
theorem str_ty{tid:TypeId}{u:Ty}(h:TyR P tid u)(hs:Ty.str.same u=true):P.underlying tid=some .string:=by
 cases h with
 |str hf=>exact hf.und
 |_=>cases hs
theorem run_slice{tid elem:TypeId}(hu:P.underlying tid=some (.slice elem)){te:Ty}(ht:TyR P elem te){ad:Option Addr}{len cap l h:Nat}{vlo vhi:Option Value}
  (hb:(Instr.sliceBounds true len cap vlo vhi none).run P w= .ok (l,h,cap) w):
  (Instr.sliceAt tid (.slice ad len cap) vlo vhi none).run P w= .ok (.slice (if cap=l then ad else ad.map (·.add (l*te.sz))) (h-l) (cap-l)) w:=by
 simp only[Instr.sliceAt,Instr.slice,Sem.run_bind,run_underlying hu w,Result.andThen_ok,hb,run_sizeOf w ht,Sem.run_pure]
theorem sliceE_ok(hE:EnvOK P E)(h:Inv c KS e F ρ w){tid:Nat}{x:RV}{v:Value}(hx:RVok w KS ρ e x v){lo hi:Option RV}{vlo vhi:Option Value}(hlo:OptOk w KS ρ e lo vlo)(hhi:OptOk w KS ρ e hi vhi){ef:Eff}
  (h1:rvIs E ρ tid x=true) (hc:(sliceE ρ x lo hi).run=some ef):Does P (do pure (.value (←Instr.sliceAt tid v vlo vhi none))) w (After c KS F ρ ef):=by
 obtain⟨n,hh,l,hn,b1,b2,hc⟩:=sliceE_some hc
 have hhn:=b1.le (Nat.le_refl _)
 have hlh:=b2.le (Nat.zero_le _)
 cases x with
 |v t y=>
  cases t with
  |str=>
   injection hn with hn;subst hn
   injection hc with hc;subst hc
   have hv:=rvok_str hx;subst hv
   obtain⟨ut,hu,hsame⟩:=tyIs_ok hE h1
   have hund:=str_ty hu hsame
   have hrun:(Instr.sliceAt tid (.string y) vlo vhi none).run P w= .ok (.string (ByteArray.extract y l hh)) w:=by
    have:=run_bounds (P:=P) (isS:=false) hlo hhi rfl (Nat.le_refl _) b1 b2
    simp only[Instr.sliceAt,Instr.slice,Sem.run_bind,run_underlying hund w,Result.andThen_ok,Option.isSome_none,Bool.false_eq_true,if_false,Sem.run_pure,this]
   exact does_value hrun (After.pure h (rvok_of_str _))
  |list o t=>
   injection hn with hn;subst hn
   replace hc:=Cm.run_chk hc;obtain⟨hnT,hc⟩:=hc
   injection hc with hc;subst hc
   obtain⟨hsh,cs,k1,rfl⟩:=hx
   cases o with
   |true=>cases hsh
   |false=>
   obtain⟨ad,cap,rfl,hcap,k3⟩:=k1
   obtain⟨ut,hu,hsame⟩:=tyIs_ok hE h1
   obtain⟨elem,te',hund,hte,hs'⟩:=list_ty hu hsame
   have hb:=run_bounds (P:=P) (isS:=true) hlo hhi rfl hcap.1 b1 b2
   refine does_value (run_slice hund hte hb) ?_
   have hlen:((List.take hh y).drop l).length=hh-l:=by simp;omega
   refine After.pure h ⟨hsh,[.slice (if cap=l then ad else ad.map (·.add (l*te'.sz))) (hh-l) (cap-l)], ?_,rfl⟩
   refine⟨_,_,by rw[hlen],⟨by rw[hlen];have:=hcap.1;omega,fun e=>by rw[e]at hnT;cases hnT⟩, ?_⟩
   rcases k3 with rfl|⟨A,rows,rfl,q1,q2,q3,q4⟩
   ·left;simp
   ·by_cases hle:hh≤l
    ·left;rw[←List.length_eq_zero_iff,hlen];omega
    ·right
     obtain⟨pre,mid,post,e1,e2,e3⟩:=rows_sub (fun x cs h=>repK_len t x cs h) y rows q4 l hh hlh hhn
     rw[if_neg (by omega)]
     rw[e1]at q3
     refine⟨A.plus (l*te'.sz),mid,by rw[Option.map_some,add_plus q1],rfl,q2, ?_,e3⟩
     rw[←Ty.same_sz hs',←e2];exact stand_mid q3
  |_=>cases hc
 |nl=>
  injection hn with hn;subst hn
  injection hc with hc;subst hc
  have hv:v= .slice none 0 0:=hx
  subst hv
  have h1':tyIsList E tid=true:=h1
  unfold tyIsList at h1'
  split at h1'
  ·rename_i u hu
   cases u with
   |list o t=>
    obtain⟨elem,te',hund,hte,hs'⟩:=list_ty (hE.ty _ _ hu) (o:=o) (te:=t) (Ty.same_refl _)
    have hb:=run_bounds (P:=P) (isS:=true) (len:=0) (cap:=0) hlo hhi rfl (Nat.le_refl _) b1 b2
    have e1:hh=0:=by omega
    subst e1
    have e2:l=0:=by omega
    subst e2
    refine does_value (run_slice hund hte hb) ?_
    exact After.pure h rfl
   |_=>cases h1'
  ·cases h1'
 |wl p=>
  injection hc with hc;subst hc
  obtain⟨hd,te,g,ad,hs,rfl,rfl,hok⟩:=lenOf_wl h hx hn
  have h1':placeIs E ρ tid p=true:=h1
  obtain⟨ut,hu,hsame⟩:=placeIs_ok hE h h1' hs
  obtain⟨elem,te',hund,hte,hs'⟩:=list_ty hu hsame
  have hcap:g.rows.length≤g.cap:=by
   rcases hok with⟨_,h2⟩|⟨b,rest,_,_,h3,_⟩
   ·rw[h2];simp
   ·exact h3.1
  have hb:=run_bounds (P:=P) (isS:=true) hlo hhi rfl hcap b1 b2
  refine does_value (run_slice hund hte hb) ?_
  refine After.pure h ⟨hd,te,g,ad,hs,by omega,_,fun hne=> ?_,rfl⟩
  rw[if_neg hne]
  rcases hok with⟨h2,h3⟩|⟨b,rest,h2,_,_,_⟩
  ·rw[h3]at hhn;simp at hhn;omega
  ·rw[h2,Option.map_some,Option.map_some,add_plus rfl,Ty.same_sz hs']
 |vw p lo' n'=>
  injection hn with hn;subst hn
  injection hc with hc;subst hc
  obtain⟨hd,te,g,ad,hs,hlo',ad2,had2,rfl⟩:=hx
  have h1':placeIs E ρ tid p=true:=h1
  obtain⟨ut,hu,hsame⟩:=placeIs_ok hE h h1' hs
  obtain⟨elem,te',hund,hte,hs'⟩:=list_ty hu hsame
  have hok:okG w KS (.list true te) g:=(spotD_ok h hd hs).1
  have hcap:g.rows.length≤g.cap:=by
   rcases hok with⟨_,h2⟩|⟨b,rest,_,_,h3,_⟩
   ·rw[h2];simp
   ·exact h3.1
  have hb:=run_bounds (P:=P) (isS:=true) (len:=n') (cap:=g.cap-lo') hlo hhi rfl (by omega) b1 b2
  refine does_value (run_slice hund hte hb) ?_
  refine After.pure h ⟨hd,te,g,ad,hs,by omega,_,fun hne=> ?_,by rw[Nat.sub_sub]⟩
  rw[if_neg (by omega),had2 (by omega)]
  rcases hok with⟨h2,h3⟩|⟨b,rest,h2,_,_,_⟩
  ·omega
  ·rw[h2,Option.map_some,Option.map_some,Option.map_some,add_plus rfl,plus_plus,Ty.same_sz hs',Nat.add_mul]
 |_=>cases hc
end
end
end Go.Eng

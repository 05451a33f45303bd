/- The engine, part 2: a symbolic interpreter of the model's programs and the proof that its runs are what the functions do; conditions: those that its theorems name. -/
import Derived.Test.YtkdcfeopelbojaaGreatDoorEng1
set_option linter.unusedVariables false
set_option linter.unusedSimpArgs false
namespace Go.Eng
section
def jR:(t:Ty)→t.G
 | .unit=>()| .int _=>(0:Int)| .bool=>false| .str=>ByteArray.empty
 | .list true _=>⟨none,0,[]⟩| .list false _=>⟨none,0,[]⟩| .ptr _=>⟨none,none⟩
 | .pair a b=>(jR a,jR b)| .arr n t=>List.replicate n (jR t)| .gone _=>[]
theorem Ej:∀t:Ty,er t (jR t)=t.zero:=by
 intro t
 induction t with
 |list o t ih=>cases o<;>rfl
 |pair a b iha ihb=>simp only[jR,er,Ty.zero,iha,ihb]
 |arr n t ih=>simp only[jR,er,Ty.zero,List.map_replicate,ih]
 |_=>rfl
theorem vi:∀t:Ty,cl t (jR t)=bY t:=by
 intro t
 induction t with
 |list o t ih=>cases o<;>rfl
 |pair a b iha ihb=>simp only[jR,cl,bY,iha,ihb]
 |arr n t ih=>simp only[jR,cl,bY,List.flatMap_replicate,ih]
 |_=>rfl
theorem AX:∀t:Ty,fp t (jR t)=[]:=by
 intro t
 induction t with
 |list o t ih=>cases o<;>rfl
 |pair a b iha ihb=>simp only[jR,fp,iha,ihb,List.append_nil]
 |arr n t ih=>
  simp only[jR,fp,List.flatMap_eq_nil_iff]
  intro x hx
  rw[List.eq_of_mem_replicate hx,ih]
 |_=>rfl
theorem vz{w:World}{KS:Nat→Prop}:∀t:Ty,t.gh=true→bM w KS t (jR t):=by
 intro t
 induction t with
 |list o t ih=>
  intro _
  cases o with
  |true=>exact .inl ⟨rfl,rfl⟩
  |false=>exact⟨none,0,rfl,Nat.le_refl _,.inl rfl⟩
 |pair a b iha ihb=>
  intro h
  simp only[Ty.gh,Bool.and_eq_true]at h
  exact⟨iha h.1,ihb h.2⟩
 |arr n t ih=>
  intro h
  exact⟨by simp[jR],fun r hr=>by rw[List.eq_of_mem_replicate hr];exact ih h⟩
 |gone n=>intro h;cases h
 |ptr t ih=>intro _;rfl
 |_=>intro _;trivial
theorem RB:∀t:Ty,t.o.same t=true:=by
 intro t
 induction t with
 |list o t ih=>exact ih
 |pair a b iha ihb=>simp[Ty.o,Ty.same,iha,ihb]
 |arr n t ih=>simp[Ty.o,Ty.same,ih]
 |ptr t ih=>exact Ty.dh _
 |_=>exact Ty.dh _
theorem D2:∀t:Ty,t.gh=true→t.o.gh=true:=by
 intro t
 induction t with
 |list o t ih=>exact ih
 |pair a b iha ihb=>intro h;simp only[Ty.gh,Bool.and_eq_true]at h;simp[Ty.o,Ty.gh,iha h.1,ihb h.2]
 |arr n t ih=>exact ih
 |_=>intro h;exact h
theorem D0:∀t:Ty,bY t.o=bY t:=by
 intro t
 induction t with
 |pair a b iha ihb=>simp only[Ty.o,bY,iha,ihb]
 |arr n t ih=>simp only[Ty.o,bY,ih]
 |_=>rfl
theorem eA{t:Ty}(h:t.gh=true):(bY t).length=t.sz:=by
 have:=bc (w:=default) (KS:=fun _=>False) t (jR t) (vz t h)
 rwa[vi]at this
theorem Nc{t:Ty}(h:t.gh=true):∀v∈bY t,v.oneCell'=true:=by
 have:=oD (w:=default) (KS:=fun _=>False) t (jR t) (vz t h)
 rwa[vi]at this
theorem mj{t:Ty}(h:t.gh=true):(val t (bY t)).cells=(bY t).toArray:=nH (eA h) (Nc h)
theorem FE{z:List Value}{n:Nat}(hz:z.length≠0):(madeCells z.toArray (n*z.length)).toList=(List.replicate n z).flatten:=by
 unfold madeCells
 induction n with
 |zero=>simp[Array.range_zero']
 |succ n ih=>
  rw[Nat.add_mul,Nat.one_mul,List.replicate_succ',List.flatten_append,←ih]
  simp only[Array.toList_map,Array.toList_range]
  rw[List.range_add,List.map_append]
  congr 1
  simp only[List.map_map,List.flatten_cons,List.flatten_nil,List.append_nil]
  apply List.ext_getElem
  ·simp
  ·intro j h1 h2
   simp only[List.getElem_map,List.getElem_range,Function.comp,List.size_toArray]
   rw[Nat.mul_comm,Nat.mul_add_mod,Nat.mod_eq_of_lt h2]
   simp[h2]
theorem Kq(l cc:Int)(b:Nat)(h:1≤b)(h0:0≤l)(h1:l≤cc)(h2:cc*b≤140737488355328):(b:Int)*cc≤281474976710656∧cc≤9223372036854775807:=by
 have:cc*1≤cc*b:=Int.mul_le_mul_of_nonneg_left (by omega) (by omega)
 rw[Int.mul_comm]
 omega
section
variable {P:Program} {E:Env} {c:Ctx} {KS:Nat→Prop} {e:av} {F:Fs} {ρ:af} {w w':World}
theorem aR.fresh(h:Inv c KS e F ρ w){d:Nat}(hd:ah ρ d=none)(hp:c.cD d=none)(hh:c.eo d=none)
  (hs:∀b,b<w.heap.size→bH w w' b) (hz:dH w w') {re:Bool} {t:Ty} {g:t.G} {ad:Option Addr} (hok:bM w' KS t g)
  (hr:re=true→∃A,ad=some A∧cz w' A (cl t g)) (hr':re=false→ad=none) (hn:((ad.map (·.block)).toList++fp t g).Nodup)
  (hf:∀b∈(ad.map (·.block)).toList++fp t g,w.heap.size≤b∧b<w'.heap.size) {rv:RV} {v:Value} {x:t.D} (hx:er t g=x)
  (hv:bf w' KS ((d,some (.data re t x none))::ρ) (e.set d ⟨ad,t,g⟩) rv v):aR c KS F ρ {new:=true,rv:=rv,rs:=[(d,some (.data re t x none))]} v w':=by
 subst hx
 refine⟨KS,e.set d ⟨ad,t,g⟩,fun _ h=>h,hv, ?_⟩
 have:aB [] ρ=[]:=rfl
 rw[this,gX]
 exact h.new hd hp hh hs hz hok hr hr' hn hf
theorem Cd{d:Nat}{G:eY}:aC (e.set d G) ⟨d,[]⟩=some ⟨G.t,G.g,G.ad⟩:=by
 simp only[aC,av.set,if_true,Option.bind_some,aD]
theorem Md{d:Nat}{re:Bool}{t:Ty}{x:t.D}{pd:Option (Path×(te:Ty)×List te.D)}{g:t.G}{A:Addr}:bf w KS ((d,some (.data re t x pd))::ρ) (e.set d ⟨some A,t,g⟩) (.rf ⟨d,[]⟩) (.pointer (some A)):=by
 refine⟨⟨t,g,some A⟩,A, ?_,rfl,rfl⟩
 simp only[bB,ay]
 exact Cd
theorem Ib{d:Nat}{re:Bool}{t:Ty}{x:(Ty.list true t).D}{pd:Option (Path×(te:Ty)×List te.D)}{g:(Ty.list true t).G}{ad:Option Addr}:
  bf w KS ((d,some (.data re (.list true t) x pd))::ρ) (e.set d ⟨ad,.list true t,g⟩) (.wl ⟨d,[]⟩) (.slice g.ad g.rows.length g.cap):=
 ⟨⟨re,_,x,pd,ay⟩,t,g,ad,Cd,rfl⟩
theorem Pt(hE:bZ P E)(h:Inv c KS e F ρ w){call:cr}{bound d tid:Nat}{ef:jM}(hd:ef.new=true→ah ρ d=none)(hp:c.cD d=none)(hh:c.eo d=none)
  (hc:(comp E call bound d (.alloc tid) [] ρ).run=some ef):cM P (do pure (.value (←Instr.alloc tid true (.tuple #[])))) w (aR c KS F ρ ef):=by
 simp only[comp]at hc
 split at hc
 ·rename_i t ht
  injection hc with hc;subst hc
  replace hd:=hd rfl
  have hT:=hE.ty _ _ ht
  have hsol:=hE.PY _ _ ht
  obtain⟨dd,hf⟩:=hT.fact
  obtain⟨i,z,h1,h2,h3,h4⟩:=hf.info
  have hcs:z.cells=(bY t).toArray:=by rw[h4,mj hsol]
  have hrun:(Instr.alloc tid true (.tuple #[])).run P w= .ok (.pointer (some ⟨w.heap.size,0,none⟩)) (w.alloc (.cells (bY t).toArray tid)):=by
   simp only[Instr.alloc,zeroValue,typeInfo,Sem.run_bind,run_program,h1,h3,Result.andThen_ok,Sem.run_pure,Ez,hcs]
  refine aJ hrun ?_
  refine aR.fresh h hd hp hh (fun b hb=>cQ w _ hb) (jA _ _) (g:=jR t.o) (ad:=some ⟨w.heap.size,0,none⟩) (vz _ (D2 _ hsol))
   (fun _=>⟨_,rfl,by rw[vi,D0];exact wH w _ _⟩) (fun h=>by cases h) (by simp[AX]) ?_ (Ej _) Md
  intro b hb
  simp only[AX,Option.map_some,Option.toList_some,List.append_nil,List.mem_singleton]at hb
  subst hb;rw[fP];omega
 ·cases hc
theorem Fh{w1:World}(h:Inv c KS e F ρ w){d:Nat}(hd:ah ρ d=none)(hp:c.cD d=none)(hh:c.eo d=none)
  (hs:∀b,b<w.heap.size→bH w w1 b) (hz:w1.heap.size=w.heap.size+1) (hg:dH w w1) {te:Ty} (rows:List te.G) (rest:List Value) {cap:Nat} (hb:0<cap→Block w1 w.heap.size (rows.flatMap (cl te)++rest))
  (hlen:(rows.flatMap (cl te)++rest).length=cap*te.sz) (hcap:rows.length≤cap) (hrow:∀r∈rows,bM w1 KS te r) (hfp:∀r∈rows,fp te r=[]) {l:List te.D} (hl:rows.map (er te)=l):
  aR c KS F ρ {new:=true,rv:= .wl ⟨d,[]⟩,rs:=[(d,some (.data false (.list true te) l none))]} (.slice (some ⟨w.heap.size,0,none⟩) rows.length cap) w1:=by
 have hfl:rows.flatMap (fp te)=[]:=List.flatMap_eq_nil_iff.2 hfp
 refine aR.fresh h hd hp hh hs hg (t:= .list true te) (g:=⟨some ⟨w.heap.size,0,none⟩,cap,rows⟩) (ad:=none) ?_ (fun h=>by cases h) (fun _=>rfl) ?_ ?_ hl Ib
 ·by_cases hc0:cap=0
  ·subst hc0
   exact .inl ⟨rfl,List.eq_nil_of_length_eq_zero (Nat.le_zero.1 hcap)⟩
  ·exact .inr ⟨w.heap.size,rest,rfl,by show 0<cap;omega,hcap,hb (by omega),hlen,hrow⟩
 ·simp only[Option.map_none,Option.toList_none,List.nil_append,fp]
  split
  ·simp
  ·rw[hfl];simp
 ·intro b hb
  simp only[Option.map_none,Option.toList_none,List.nil_append,fp]at hb
  split at hb
  ·cases hb
  ·rw[hfl]at hb
   simp at hb
   subst hb;omega
theorem Ie(hE:bZ P E)(h:Inv c KS e F ρ w){call:cr}{bound d tid:Nat}{ef:jM}(hd:ef.new=true→ah ρ d=none)(hp:c.cD d=none)(hh:c.eo d=none){a b:Operand}{x y:RV}{v u:Value}(hx:bf w KS ρ e x v)(hy:bf w KS ρ e y u)
  (hc:(comp E call bound d (.makeSlice tid a b) [x,y] ρ).run=some ef):cM P (do pure (.value (←Instr.makeSlice tid v u))) w (aR c KS F ρ ef):=by
 simp only[comp]at hc
 split at hc
 ·rename_i te by_ hel
  split at hc
  ·rename_i t k1 l k2 cc ht
   replace hc:=Cm.aG hc;obtain⟨hby,hc⟩:=hc
   replace hc:=Cm.cC hc;obtain⟨h0,hc⟩:=hc
   replace hc:=Cm.cC hc;obtain⟨h1,hc⟩:=hc
   replace hc:=Cm.cC hc;obtain⟨h2,hc⟩:=hc
   injection hc with hc;subst hc
   replace hd:=hd rfl
   have e1:=cX hx;subst e1
   have e2:=cX hy;subst e2
   obtain⟨hund,i,hi,hbytes⟩:=hE.el _ _ _ hel
   have hT:=hE.ty _ _ ht
   have hsol:=hE.PY _ _ ht
   obtain⟨dd,hf⟩:=hT.fact
   obtain⟨i',z,q1,q2,q3,q4⟩:=hf.info
   rw[hi]at q1;cases q1
   have hcs:z.cells=(bY t).toArray:=by rw[q4,mj hsol]
   have hby1:1≤by_:=by simpa using hby
   obtain⟨hb1,hb2⟩:=Kq l cc by_ hby1 h0 h1 h2
   have hrun:=run_make (P:=P) w tid te i z hund hi q3 k1 k2 l cc h0 h1 (by rw[hbytes];exact hb1) hb2
   refine aJ hrun ?_
   rw[hcs,q2,←eA hsol]
   have hcells:madeCells (bY t).toArray (Int.toNat cc*(bY t).length)=((List.replicate (Int.toNat cc) (bY t)).flatten).toArray:=by
    apply Array.toList_inj.1
    rw[FE (by rw[eA hsol];exact Nat.pos_iff_ne_zero.1 hf.pos)]
   rw[hcells]
   have hln:Int.toNat l≤Int.toNat cc:=Int.toNat_le_toNat h1
   have hcl:(List.replicate (Int.toNat l) (jR t.o)).flatMap (cl t.o)++(List.replicate (Int.toNat cc-Int.toNat l) (bY t)).flatten=(List.replicate (Int.toNat cc) (bY t)).flatten:=by
    rw[List.flatMap_replicate,vi,D0,←List.flatten_append,List.replicate_append_replicate]
    congr 2;omega
   have:=Fh (e:=e) (F:=F) (w1:=w.alloc (.cells ((List.replicate (Int.toNat cc) (bY t)).flatten).toArray te)) h hd hp hh (fun b hb=>cQ w _ hb) (fP _ _) (jA _ _) (te:=t.o) (List.replicate (Int.toNat l) (jR t.o)) ((List.replicate (Int.toNat cc-Int.toNat l) (bY t)).flatten) (cap:=Int.toNat cc)
    (fun _=>by rw[hcl];exact o8 w _ _) (by rw[hcl];simp[eA hsol,Ty.bm (RB t)]) (by simpa using hln)
    (fun r hr=>by rw[List.eq_of_mem_replicate hr];exact vz _ (D2 _ hsol)) (fun r hr=>by rw[List.eq_of_mem_replicate hr];exact AX _) (l:=List.replicate (Int.toNat l) t.o.zero) (by rw[List.map_replicate,Ej])
   simpa using this
  ·cases hc
 ·cases hc
end
end
section
theorem Mv{w:World}{KS:Nat→Prop}:∀(l:List Int) (rows:List Value),eM (cg w KS (.int .u8)) l rows→rows=l.map (Value.int .u8)
 |[],rows,h=>h
 |x::xs,rows,⟨c1,c2,e,h1,h2⟩=>by
  have h1':c1=[.int .u8 x]:=h1
  rw[e,h1',Mv xs c2 h2];rfl
theorem fold_push:∀(l:List Int) (a:ByteArray),l.foldl (fun r n=>r.push (UInt8.ofNat n.toNat)) a=⟨a.data++(l.map fun n=>UInt8.ofNat n.toNat).toArray⟩
 |[],a=>by cases a;simp
 |x::xs,a=>by
  rw[List.foldl_cons,fold_push xs]
  cases a
  simp[ByteArray.push]
theorem rO(l:List Int):l.foldl (fun r n=>r.push (UInt8.ofNat n.toNat)) ByteArray.empty=ofBytes l:=by
 rw[fold_push]
 have:(ByteArray.empty).data= #[]:=rfl
 rw[this,Array.empty_append];rfl
theorem H6{w:World}{KS:Nat→Prop}{t:Ty}{g:ck t.G}(h:bM w KS (.list true t) g)(hs:t.shared=true):g.rows=[]∨∃a,g.ad=some a∧a.spot=none∧qj w a (g.rows.flatMap (cl t))∧eM (cg w KS t) (g.rows.map (er t)) (g.rows.flatMap (cl t)):=by
 rcases h with⟨_,h2⟩|⟨b,rest,h1,h2,h3,h4,h5,h6⟩
 ·exact .inl h2
 ·refine .inr ⟨⟨b,0,none⟩,h1,rfl,h4.Jz,nR _ fun r hr=>gf (fun _ h=>h) t r (by simp[iQ t hs r]) (h6 r hr)⟩
section
variable {P:Program} {E:Env} {c:Ctx} {KS:Nat→Prop} {e:av} {F:Fs} {ρ:af} {w w':World}
theorem HH(h:Inv c KS e F ρ w){x:RV}{v:Value}(hx:bf w KS ρ e x v){te:Ty}{o:Bool}{t:Ty}{l:List t.D}(hs:(snap ρ te x).run=some ⟨.list o t,l⟩)(ht:t.shared=true):
  ∃ad cap,v= .slice ad l.length cap∧(l=[]∨∃a rows,ad=some a∧a.spot=none∧qj w a rows∧eM (cg w KS t) l rows):=by
 cases x with
 |v u y=>
  injection hs with hs;cases hs
  obtain⟨hsh,cs,⟨ad,cap,rfl,_,h3⟩,rfl⟩:=hx
  refine⟨ad,cap,rfl,h3.imp id ?_⟩
  rintro⟨a,rows,q1,q2,_,q3,q4⟩
  exact⟨a,rows,q1,q2,q3,q4⟩
 |nl=>
  cases te<;>first|(cases hs;done)|skip
  injection hs with hs;cases hs
  exact⟨none,0,hx,.inl rfl⟩
 |wl p=>
  obtain⟨hd,tu,g,ad,hs',rfl⟩:=hx
  obtain⟨s,hs2,he,_⟩:=jI h hs
  rw[dY hd,hs']at hs2;cases hs2
  have hok:bM w KS (.list true tu) g:=(ch h hd hs').1
  cases he
  refine⟨g.ad,g.cap,by simp[er], ?_⟩
  rcases H6 hok ht with h1|⟨a,h1,h2,h3,h4⟩
  ·left;simp[er,h1]
  ·exact .inr ⟨a,_,h1,h2,h3,h4⟩
 |sv p=>
  obtain⟨hd,s0,hs',hl,rfl⟩:=hx
  obtain⟨s,hs2,he,_⟩:=jI h hs
  rw[dY hd,hs']at hs2;cases hs2
  obtain⟨t0,g0,a0⟩:=s0
  cases he;cases hl
 |vw p lo len=>
  obtain⟨hd,tu,g,ad,hs',hlo,ad2,had2,rfl⟩:=hx
  replace hs:=Cm.ae hs;obtain⟨dd,hr,hs⟩:=hs
  obtain⟨s,hs2,rfl,_⟩:=jI h hr
  rw[dY hd,hs']at hs2;cases hs2
  have hok:bM w KS (.list true tu) g:=(ch h hd hs').1
  injection hs with hs;cases hs
  have hlen:((List.drop lo (er (Ty.list true t) g)).take len).length=len:=by simp[er];omega
  refine⟨ad2,_,by rw[hlen], ?_⟩
  by_cases hl0:len=0
  ·left;subst hl0;simp
  ·right
   rcases H6 hok ht with h1|⟨a,h1,h2,h3,h4⟩
   ·rw[h1]at hlo;simp at hlo;omega
   ·have hcap:g.rows.length≤g.cap:=by
     rcases hok with⟨_,q2⟩|⟨_,_,_,_,q3,_⟩
     ·rw[q2];simp
     ·exact q3
    obtain⟨pre,mid,post,e1,e2,e3⟩:=vV (fun x cs h=>ej t x cs h) _ _ h4 lo (lo+len) (by omega) (by simpa using hlo)
    rw[e1]at h3
    refine⟨_,mid,by rw[had2 (by omega),h1];rfl,rfl, ?_, ?_⟩
    ·rw[←e2];exact qb h3
    ·have:(List.drop lo (er (Ty.list true t) g)).take len=((g.rows.map (er t)).take (lo+len)).drop lo:=by
      rw[List.drop_take];simp[er]
     rw[this];exact e3
 |rf p=>
  replace hs:=Cm.ae hs;obtain⟨dd,hr,hs⟩:=hs
  injection hs with hs;cases hs
 |pn=>cases te<;>first|(cases hs;done)|(injection hs with hs;cases hs)
 |_=>cases hs
theorem Ld(hE:bZ P E)(h:Inv c KS e F ρ w){call:cr}{bound d src dst:Nat}{ef:jM}(hd:ef.new=true→ah ρ d=none)(hp:c.cD d=none)(hh:c.eo d=none){a:Operand}{x:RV}{v:Value}(hx:bf w KS ρ e x v)
  (hc:(comp E call bound d (.convert src dst a) [x] ρ).run=some ef):cM P (do pure (.value (←convert src dst v))) w (aR c KS F ρ ef):=by
 have cL:∀{t:TypeId},(E.ty t).isSome=true→∃dd,P.underlying t=some dd:=fun{t} ht=>by
  obtain⟨u,hu⟩:=Option.isSome_iff_exists.1 ht
  obtain⟨dd,hf⟩:=(hE.ty _ _ hu).fact
  exact⟨dd,hf.cL⟩
 simp only[comp]at hc
 split at hc
 ·rename_i k k0 n ht
  replace hc:=Cm.aG hc;obtain⟨h1,hc⟩:=hc
  injection hc with hc;subst hc
  have:=cX hx;subst this
  obtain⟨dd,hu⟩:=cL h1
  have hud:P.underlying dst=some (.int k):=by
   have:=hE.ty _ _ ht
   cases this with
   |int hf=>exact hf.cL
  have hrun:(convert src dst (.int k0 n)).run P w= .ok (.int k (k.wrap n)) w:=by
   simp only[convert,Sem.run_bind,run_underlying hu w,run_underlying hud w,Result.andThen_ok,Conv.intToInt,Sem.run_pure]
  exact aJ hrun (aR.pure h (cu _ _))
 ·rename_i s ht
  replace hc:=Cm.aG hc;obtain⟨h1,hc⟩:=hc
  injection hc with hc;subst hc
  have:=mz hx;subst this
  obtain⟨dd,hu⟩:=cL h1
  have hud:P.underlying dst=some .string:=by
   have:=hE.ty _ _ ht
   cases this with
   |str hf=>exact hf.cL
  have hrun:(convert src dst (.string s)).run P w= .ok (.string s) w:=by
   simp only[convert,Sem.run_bind,run_underlying hu w,run_underlying hud w,Result.andThen_ok,Sem.run_pure]
  exact aJ hrun (aR.pure h (mI _))
 ·rename_i o s ht
  replace hc:=Cm.aG hc;obtain⟨h1,hc⟩:=hc
  injection hc with hc;subst hc
  replace hd:=hd rfl
  have:=mz hx;subst this
  obtain⟨u,hu,hs⟩:=dJ hE h1
  have hus:=Ja hu hs
  have hud:=hE.ty _ _ ht
  obtain⟨el,te',hund,hte,hs'⟩:=dO hud (o:=o) (te:= .int .u8) (Ty.dh _)
  have hel:P.underlying el=some (.int .u8):=by
   cases hte with
   |int hf=>cases gi (a:= .u8) hs';exact hf.cL
   |_=>cases hs'
  refine aJ (Lib.run_convert_string_bytes w src dst el s hus hund hel) ?_
  have hlen:(bytesOf s).length=s.size:=by simp[bytesOf]
  have hge:s.size≤grownCap w s.size 0 el:=grownCap_ge _ _ _ _
  have hsz:=Lib.bytesWorld_size w el s
  have hnew:=Lib.bytesWorld_at_new w el s
  have hcl:(bytesOf s).flatMap (cl (.int .u8))++List.replicate (grownCap w s.size 0 el-s.size) (Value.int .u8 0)=(Lib.bytesCells w el s).toList:=by
   simp only[Lib.bytesCells,bytesOf,cl,List.flatMap_map,Array.toList_append,Array.toList_map,Array.toList_replicate]
   congr 1
   induction s.data.toList with
   |nil=>rfl
   |cons x xs ih=>simp[ih]
  have hszc:(Lib.bytesCells w el s).size=grownCap w s.size 0 el:=by
   have:s.data.size=s.size:=rfl
   simp[Lib.bytesCells,this];omega
  have hR:=Fh (e:=e) (F:=F) (w1:=Lib.bytesWorld w el s) h hd hp hh (fun b hb=>by
    exact bH.of (Lib.bytesWorld_at_old w el s b hb)) hsz ⟨by omega,rfl,rfl⟩
   (te:= .int .u8) (bytesOf s) (List.replicate (grownCap w s.size 0 el-s.size) (Value.int .u8 0)) (cap:=grownCap w s.size 0 el)
   (fun _=>by
    rw[hcl]
    refine⟨⟨el,by simp only[World.shape?,hnew];simp⟩,fun j v hj=> ?_,fun j hj=> ?_⟩
    ·simp only[World.cell?,Nat.zero_add]
     rw[hnew];simpa using hj
    ·simp only[World.frozen?]
     rw[hnew]
     simp only[Array.length_toList]at hj
     simp;omega)
   (by rw[hcl,Array.length_toList,hszc];simp[Ty.sz]) (by rw[hlen];exact hge) (fun r _=>trivial) (fun r _=>rfl) (l:=bytesOf s) (by simp[er])
  rw[hlen]at hR
  exact hR
 ·have ht:E.ty dst=some .str:=by assumption
  split at hc
  ·rename_i o hts
   replace hc:=Cm.ae hc;obtain⟨vv,hv,hc⟩:=hc
   split at hc
   ·rename_i oo vl
    injection hc with hc;subst hc
    obtain⟨ad,cap,rfl,hl⟩:=HH h hx hv rfl
    have hud:P.underlying dst=some .string:=by
     have:=hE.ty _ _ ht
     cases this with
     |str hf=>exact hf.cL
    obtain⟨el,te',hund,hte,hs'⟩:=dO (hE.ty _ _ hts) (o:=o) (te:= .int .u8) (Ty.dh _)
    have hel:P.underlying el=some (.int .u8):=by
     cases hte with
     |int hf=>cases gi (a:= .u8) hs';exact hf.cL
     |_=>cases hs'
    have hrun:∃s,s=ofBytes vl∧(Conv.bytesToString (.slice ad (List.length (α:=Int) vl) cap)).run P w= .ok (.string s) w:=by
     rcases hl with rfl|⟨a,rows,rfl,h1,h2,h3⟩
     ·refine⟨_,rfl, ?_⟩
      cases ad with
      |none=>rfl
      |some a=>
       have:=run_bytesToString (P:=P) w a 0 cap [] (by simp[loadCells,loadCellsFrom])
       exact this
     ·refine⟨_,rfl, ?_⟩
      have hr:=Mv _ _ h3
      rw[←rO]
      refine run_bytesToString w a _ cap vl ?_
      have:=run_loadCells_list (P:=P) w a rows (fun j v hj=>by
       have:=h2 j v hj
       rw[fS h1];exact this)
      rw[hr,List.length_map]at this
      exact this
    obtain⟨s,rfl,hrun⟩:=hrun
    refine aJ ((run_convert_bytes_string w src dst el _ _ _ hund hel hud).trans hrun) ?_
    exact aR.pure h (mI _)
   ·cases hc
  ·cases hc
 ·cases hc
end
end
section
theorem sM(ρ:af):aB [] ρ=[]:=rfl
section
variable {P:Program} {τ:dM} {E:Env} {c:Ctx} {KS:Nat→Prop} {e:av} {F:Fs} {ρ ρ':af} {w w':World}
theorem Inv.w9(h:Inv c KS e F ρ w){n:Nat}{t:Ty}{x:t.D}{pd:Option (Path×(te:Ty)×List te.D)}(hr:ah ρ n=some (.data false t x pd)):∀A,c.cD n≠some A:=fun A hA=>by
 obtain⟨ad,g,q1,q2,q3,q4,q5,q6⟩:=h.root hr
 obtain⟨_,h2⟩:=h.cD n A hA
 obtain⟨⟨g2,h3⟩,_⟩:=h2 _ _ _ _ hr
 rw[q1]at h3;cases h3
 have:=(q4 A rfl).1;cases this
theorem Inv.merge(h:Inv c KS e F ρ w){hs:List Nat}(nh:cn (hs.map .all) F ρ)
  (hr:∀n∈hs,∃t x,ah ρ n=some (.data false t x none))
  {d:Nat} (hd:d∉hs) (hd0:ah ρ d=none) (hp:c.cD d=none) (hpd:c.eo d=none)
  (hsame:∀b,b<w.heap.size→(∀n∈hs,b∉bj ρ e n)→bH w w' b) (hz:dH w w')
  {X:Nat→Prop} (hX:∀b,X b→∃n∈hs,b∈bj ρ e n)
  {re:Bool} {t:Ty} {g:t.G} {ad:Option Addr} (hok:bM w' (fun b=>KS b∨X b) t g) (hrow:re=true→∃A,ad=some A∧cz w' A (cl t g)) (hrow':re=false→ad=none)
  (hn:((ad.map (·.block)).toList++fp t g).Nodup)
  (hf:∀b∈(ad.map (·.block)).toList++fp t g,¬X b∧((w.heap.size≤b∧b<w'.heap.size)∨∃n∈hs,b∈bj ρ e n))
  (hρd:ah ρ' d=some (.data re t (er t g) none)) (hρh:∀n∈hs,ah ρ' n=none) (hρ:∀n,n∉hs→n≠d→ah ρ' n=ah ρ n):
  Inv c (fun b=>KS b∨X b) (e.set d ⟨ad,t,g⟩) F ρ' w':=by
 have hbd:bj ρ' (e.set d ⟨ad,t,g⟩) d=(ad.map (·.block)).toList++fp t g:=by simp[bj,hρd,av.set]
 have hbh:∀n∈hs,bj ρ' (e.set d ⟨ad,t,g⟩) n=[]:=fun n hn=>by simp[bj,hρh n hn]
 have hnp:∀n∈hs,∀A,c.cD n≠some A:=fun n hn=>by
  obtain⟨t,x,h1⟩:=hr n hn
  exact h.w9 h1
 have hks:∀b,KS b→bH w w' b:=fun b hb=>hsame b (h.lt b hb) fun n _ hbn=>h.ks n b hbn hb
 refine h.step (S:=fun n=>n∈hs∨n=d) nh
  {reads:=Reads.off (S:=fun n=>n∈hs∨n=d) h nh (fun n hn=>hn.elim (fun e=> .inr (List.mem_map.2 ⟨n,e,rfl⟩)) (fun e=> .inl (by subst e;exact hd0)))
    (fun n hn=>hρ n (fun e=>hn (.inl e)) (fun e=>hn (.inr e))) (fun n hn=>⟨by simp[av.set,show n≠d from fun e=>hn (.inr e)],rfl,rfl⟩) (fun b hb=> .inl hb) (fun b hb=>(hks b hb).2.2)
   out:=fun n hn=>⟨hρ n (fun e=>hn (.inl e)) (fun e=>hn (.inr e)),by simp[av.set,show n≠d from fun e=>hn (.inr e)],rfl,rfl,by simp[av.set,show n≠d from fun e=>hn (.inr e)]⟩
   same:=fun n hn b hb=>hsame b (h.blt n b hb) fun m hm hbm=>h.dj m n (fun e=>hn (.inl (e▸hm))) b hbm hb
   size:=hz
   roots:= ?_
   nd:= ?_
   dj:= ?_
   src:= ?_
   DP:=fun b hb=>hb.imp id fun hb=> .inr (by
    obtain⟨n,hn,hbn⟩:=hX b hb
    exact⟨n,.inl hn,hbn,fun A hA=>absurd hA (hnp n hn A)⟩)
   HX:= ?_
   cD:= ?_
   eo:= ?_
   GZ:=fun b hb=> ?_}
 ·intro n hn
  rcases hn with hn|rfl
  ·simp only[bC,hρh n hn]
  ·simp only[bC,hρd]
   exact⟨ad,g,by simp[av.set],rfl,hok,hrow,hrow',by simp[av.set]⟩
 ·intro n hn
  rcases hn with hn|rfl
  ·rw[hbh n hn];simp
  ·rw[hbd];assumption
 ·intro n m hn hm hnm b hb1 hb2
  rcases hn with hn|rfl
  ·rw[hbh n hn]at hb1;cases hb1
  ·rcases hm with hm|rfl
   ·rw[hbh m hm]at hb2;cases hb2
   ·exact hnm rfl
 ·intro n hn b hb
  rcases hn with hn|rfl
  ·rw[hbh n hn]at hb;cases hb
  ·rw[hbd]at hb
   rcases(hf b hb).2 with h1|⟨m,hm,h1⟩
   ·exact .inl h1
   ·exact .inr ⟨m,.inl hm,h1,.inr fun A hA=>absurd hA (hnp m hm A)⟩
 ·intro n hn b hb hkb
  rcases hn with hn|rfl
  ·rw[hbh n hn]at hb;cases hb
  ·rw[hbd]at hb
   obtain⟨h1,h2⟩:=hf b hb
   rcases hkb with hkb|hkb
   ·rcases h2 with⟨h2,_⟩|⟨m,hm,h2⟩
    ·have:=h.lt b hkb;omega
    ·exact h.ks m b h2 hkb
   ·exact h1 hkb
 ·intro n hn A hA
  rcases hn with hn|rfl
  ·exact absurd hA (hnp n hn A)
  ·rw[hp]at hA;cases hA
 ·intro n hn hh hq re' t'' x'' pd'' hd'
  rcases hn with hn|rfl
  ·rw[hρh n hn]at hd';cases hd'
  ·rw[hpd]at hq;cases hq
 ·by_cases hin:∃n∈hs,b∈bj ρ e n
  ·obtain⟨n,hn,hbn⟩:=hin
   rcases h.may n b hbn with h1|h1|⟨A,h1,_⟩
   ·exact .inr (.inl h1)
   ·exact .inr (.inr (.inl h1))
   ·exact absurd h1 (hnp n hn A)
  ·exact .inl (hsame b hb fun n hn hbn=>hin ⟨n,hn,hbn⟩)
theorem Inv.Ss{hs:List Nat}:∀{ρ ρ':af} {KS:Nat→Prop} (h:Inv c KS e F ρ w) (nh:cn (hs.map .all) F ρ) (hr:∀n∈hs,∃t x,ah ρ n=some (.data false t x none))
  {X:Nat→Prop} (hX:∀b,X b→∃n∈hs,b∈bj ρ e n)
  (hρh:∀n∈hs,ah ρ' n=none) (hρ:∀n,n∉hs→ah ρ' n=ah ρ n),Inv c (fun b=>KS b∨X b) e F ρ' w:=by
 intro ρ ρ' KS h nh hr X hX hρh hρ
 have hnp:∀n∈hs,∀A,c.cD n≠some A:=fun n hn=>by
  obtain⟨t,x,h1⟩:=hr n hn
  exact h.w9 h1
 have hbh:∀n∈hs,bj ρ' e n=[]:=fun n hn=>by simp[bj,hρh n hn]
 refine h.step (S:=fun n=>n∈hs) nh
  {reads:=Reads.off (S:=fun n=>n∈hs) h nh (fun n hn=> .inr (List.mem_map.2 ⟨n,hn,rfl⟩)) hρ (fun n hn=>⟨rfl,rfl,rfl⟩) (fun b hb=> .inl hb) (fun _ _ _=>rfl)
   out:=fun n hn=>⟨hρ n hn,rfl,rfl,rfl,rfl⟩
   same:=fun _ _ b _=>bH.refl w b
   size:=dH.refl _
   roots:=fun n hn=>by simp only[bC,hρh n hn]
   nd:=fun n hn=>by rw[hbh n hn];simp
   dj:=fun n m hn hm hnm b hb=>by rw[hbh n hn]at hb;cases hb
   src:=fun n hn b hb=>by rw[hbh n hn]at hb;cases hb
   DP:=fun b hb=>hb.imp id fun hb=> .inr (by
    obtain⟨n,hn,hbn⟩:=hX b hb
    exact⟨n,hn,hbn,fun A hA=>absurd hA (hnp n hn A)⟩)
   HX:=fun n hn b hb=>by rw[hbh n hn]at hb;cases hb
   cD:=fun n hn A hA=>absurd hA (hnp n hn A)
   eo:=fun n hn hh hp' re t x pd hd=>by rw[hρh n hn]at hd;cases hd
   GZ:=fun b _=> .inl (bH.refl w b)}
end
structure HG where
 n:Nat
 t:Ty
 g:t.G
def HG.d(x:HG):eh:=⟨x.t,er x.t x.g⟩
def hid:List HG→af
 |[]=>[]
 |x::l=>(x.n,some (.data false x.t (er x.t x.g) none))::hid l
theorem bP{n:Nat}{ρ:af}:∀{H:List HG},(∀x∈H,x.n≠n)→ah (hid H++ρ) n=ah ρ n
 |[],_=>rfl
 |x::H,h=>by
  rw[hid,List.cons_append,aw (Ne.symm (h x (by simp)))]
  exact bP fun y hy=>h y (by simp[hy])
theorem bE{ρ:af}:∀{H:List HG},(H.map (·.n)).Nodup→∀x∈H,ah (hid H++ρ) x.n=some (.data false x.t (er x.t x.g) none)
 |[],_,x,h=>by cases h
 |y::H,hn,x,h=>by
  simp only[List.map_cons,List.nodup_cons]at hn
  rcases List.mem_cons.1 h with rfl|h
  ·rw[hid,List.cons_append,ay]
  ·have:x.n≠y.n:=fun e=>hn.1 (List.mem_map.2 ⟨x,h,e⟩)
   rw[hid,List.cons_append,aw this]
   exact bE hn.2 x h
theorem qC(H:List HG):∀y∈hid H,∀q,y.2≠some (.al q):=by
 induction H with
 |nil=>intro y hy;cases hy
 |cons x H ih=>
  intro y hy q
  rcases List.mem_cons.1 hy with rfl|hy
  ·simp
  ·exact ih y hy q
theorem qq{a b:List aH}(h:∀k,k∈a↔k∈b)(ρ:af)(n:Nat):ah (ag a ρ) n=ah (ag b ρ) n:=by
 rcases cN a ρ n with⟨h1,h2⟩|⟨h1,q,k,h2,h3,h4⟩<;>rcases cN b ρ n with⟨g1,g2⟩|⟨g1,q',k',g2,g3,g4⟩
 ·rw[h1,g1]
 ·have:=h2 q' g2 k' ((h k').2 g3);rw[this]at g4;cases g4
 ·have:=g2 q h2 k ((h k).1 h3);rw[this]at h4;cases h4
 ·rw[h1,g1]
theorem nV{rs ρ:af}{n:Nat}:(∃y∈rs,y.1=n)∨ah (rs++ρ) n=ah ρ n:=by
 by_cases h:∃y∈rs,y.1=n
 ·exact .inl h
 ·exact .inr (bl rs ρ n fun y hy e=>h ⟨y,hy,e⟩)
theorem db{n:Nat}{ρ ρ':af}(h:ah ρ n=ah ρ' n):∀rs:af,ah (rs++ρ) n=ah (rs++ρ') n
 |[]=>h
 |(m,b)::rs=>by
  by_cases hn:n=m
  ·subst hn;simp only[List.cons_append,ay]
  ·simp only[List.cons_append,aw hn];exact db h rs
structure bU (N:Nat) (c:Ctx) (F:Fs) (ρ:af) (w:World) (KS:Nat→Prop) (e:av) (rs:af) (kl:List aH) (H:List HG):Prop where
 inv:Inv c KS e (bG (aB kl ρ) F) (hid H++(rs++ag kl ρ)) w
 gr:∀x∈H,e.gr x.n=some ⟨none,x.t,x.g⟩
 nd:(H.map (·.n)).Nodup
 fr:∀x∈H,ah ρ x.n=none∧N≤x.n
 nG:∀y∈rs,(∀q,y.2≠some (.al q))∧ah ρ y.1≠none
section
variable {P:Program} {τ:dM} {E:Env} {c:Ctx} {KS:Nat→Prop} {e:av} {F:Fs} {ρ ρ':af} {w w':World} {rs:af} {kl:List aH} {H:List HG} {N:Nat}
theorem bU.start(h:Inv c KS e F ρ w):bU N c F ρ w KS e [] [] []:=
 ⟨by simpa[hid,sM,gX,ag]using h,by simp,by simp,by simp,by simp⟩
theorem cy.none(hC:cy τ c){n:Nat}(h:32768≤n):c.cD n=none∧c.eo n=none:=by
 constructor
 ·cases hq:c.cD n with
  |none=>rfl
  |some A=>have:=hC.cD _ _ hq;omega
 ·cases hq:c.eo n with
  |none=>rfl
  |some A=>have:=(hC.eo _ _ hq).1;omega
theorem bU.sub(T:bU N c F ρ w KS e rs kl H):∀n re t x pd,ah (rs++ρ) n=some (.data re t x pd)→ah (hid H++(rs++ag kl ρ)) n=some (.data re t x pd):=fun n re t x pd hn=>by
 rw[bP]
 ·exact pX rs ρ hn
 ·intro x hx e
  have h1:=(T.fr x hx).1
  rcases nV (rs:=rs) (ρ:=ρ) (n:=n)with⟨y,hy,rfl⟩|h2
  ·exact(T.nG y hy).2 (by rw[←e];exact h1)
  ·rw[h2,←e,h1]at hn;cases hn
theorem Km{x:RV}(h:fresh kl ρ x=true):((aB kl ρ).any fun k=>hit k x)=false:=by simpa[fresh]using h
theorem bU.take(hC:cy τ c)(hN:32768≤N)(T:bU N c F ρ w KS e rs kl H){x:RV}{v:Value}(hx:bf w KS (hid H++(rs++ag kl ρ)) e x v){te:Ty}{d:eh}{rs':af}{kl':List aH}(ht:(Eng.take (rs++ρ) te x).run=some (d,rs',kl')):
  ∃KS' e' y,(∀b,KS b→KS' b)∧bU N c F ρ w KS' e' (rs'++rs) (kl'++kl) (y::H)∧d=y.d∧v.cells=(cl y.t y.g).toArray:=by
 obtain⟨n1,m1,h1⟩:=jD (hid H++(rs++ag kl ρ)) N
 obtain⟨n2,_,h2⟩:=jD ρ 0
 obtain⟨hd,rfl⟩:∃hd,hd=max n1 n2:=⟨_,rfl⟩
 have hh:=h1 (max n1 n2) (by omega)
 have hhρ:=h2 (max n1 n2) (by omega)
 have h32:32768≤max n1 n2:=by omega
 have hN2:N≤max n1 n2:=by omega
 generalize max n1 n2=hd at*
 clear h1 h2 m1
 have hnH:∀x∈H,x.n≠hd:=fun x hx e=>by
  have:=bE (ρ:=rs++ag kl ρ) T.nd x hx
  rw[e,hh]at this;cases this
 obtain⟨hp,hph⟩:=hC.none h32
 obtain⟨KS',e',g',k1,k2,k3,k4,k5,k6,k7⟩:=Mc T.inv T.sub hx ht hh hp hph hC.cD
 have hrs':∀y∈rs',(∀q,y.2≠some (.al q))∧ah ρ y.1≠none:=fun y hy=>by
  obtain⟨q1,q2⟩:=wb ht y hy
  refine⟨q1, ?_⟩
  rcases nV (rs:=rs) (ρ:=ρ) (n:=y.1)with⟨z,hz,hzn⟩|q3
  ·rw[←hzn];exact(T.nG z hz).2
  ·rw[←q3];exact q2
 have hrsH:∀x∈H,∀y∈rs',y.1≠x.n:=fun x hx y hy e=>(hrs' y hy).2 (by rw[e];exact(T.fr x hx).1)
 refine⟨KS',e',⟨hd,d.1,g'⟩,k1,⟨?_, ?_, ?_, ?_, ?_⟩,by simp only[HG.d];rw[←k2],k4⟩
 ·rw[ib]at k5
  refine(k5.more (L:=aB (kl'++kl) ρ) ?_).congr ?_
  ·intro x hx
   simp only[aB,List.mem_append,List.flatMap_append]at hx ⊢
   rcases hx with(hx|hx)|hx|hx
   ·exact .inl (.inr hx)
   ·exact .inr (.inr hx)
   ·exact .inl (.inl hx)
   ·right;left
    obtain⟨k,hk,hx⟩:=List.mem_flatMap.1 hx
    rw[bS k _ _ (qC H),bS k rs _ (fun y hy=>(T.nG y hy).1)]at hx
    exact List.mem_flatMap.2 ⟨k,hk,c9 k kl ρ x hx⟩
  ·intro n
   have hpA:ag kl' (hid H++(rs++ag kl ρ))=hid H++(rs++ag (kl++kl') ρ):=by
    have key:∀(ks:List aH) (ρ0:af),ag ks (hid H++(rs++ρ0))=hid H++(rs++ag ks ρ0):=by
     intro ks
     induction ks with
     |nil=>intro ρ0;rfl
     |cons k ks ih=>
      intro ρ0
      simp only[ag]
      rw[lH k _ _ (qC H),lH k rs _ (fun y hy=>(T.nG y hy).1),ih]
    rw[key,jT]
   rw[hpA]
   simp only[hid,List.cons_append,List.append_assoc]
   by_cases hn:n=hd
   ·subst hn;rw[ay,ay]
   ·rw[aw hn,aw hn]
    by_cases hin:∃x∈H,x.n=n
    ·obtain⟨x,hx,rfl⟩:=hin
     rw[bE T.nd x hx,bl rs' _ _ (hrsH x hx),bE T.nd x hx]
    ·have hout:∀x∈H,x.n≠n:=fun x hx e=>hin ⟨x,hx,e⟩
     rw[bP hout]
     refine db ?_ rs'
     rw[bP hout]
     exact db (qq (fun k=>by simp only[List.mem_append];exact Or.comm) ρ n) rs
 ·intro x hx
  rcases List.mem_cons.1 hx with rfl|hx
  ·exact k3
  ·rw[k7 _ (hnH x hx) (hrsH x hx)];exact T.gr x hx
 ·simp only[List.map_cons,List.nodup_cons]
  refine⟨fun hm=> ?_,T.nd⟩
  obtain⟨x,hx,e⟩:=List.mem_map.1 hm
  exact hnH x hx e
 ·intro x hx
  rcases List.mem_cons.1 hx with rfl|hx
  ·exact⟨hhρ,hN2⟩
  ·exact T.fr x hx
 ·intro y hy
  rcases List.mem_append.1 hy with hy|hy
  ·exact hrs' y hy
  ·exact T.nG y hy
theorem bU.zero(hC:cy τ c)(hN:32768≤N)(T:bU N c F ρ w KS e rs kl H){t:Ty}(ht:t.gh=true):
  ∃e' y,bU N c F ρ w KS e' rs kl (y::H)∧y.d=⟨t,t.zero⟩∧cl y.t y.g=bY t:=by
 obtain⟨n1,m1,h1⟩:=jD (hid H++(rs++ag kl ρ)) N
 obtain⟨n2,_,h2⟩:=jD ρ 0
 have hh:=h1 (max n1 n2) (by omega)
 have hhρ:=h2 (max n1 n2) (by omega)
 have h32:32768≤max n1 n2:=by omega
 have hN2:N≤max n1 n2:=by omega
 generalize max n1 n2=hd at*
 clear h1 h2 m1
 have hnH:∀x∈H,x.n≠hd:=fun x hx e=>by
  have:=bE (ρ:=rs++ag kl ρ) T.nd x hx
  rw[e,hh]at this;cases this
 obtain⟨hp,hph⟩:=hC.none h32
 refine⟨_,⟨hd,t,jR t⟩,⟨T.inv.Rv hh hp hph (vz t ht) (AX t), ?_, ?_, ?_,T.nG⟩,by simp[HG.d,Ej],vi t⟩
 ·intro x hx
  rcases List.mem_cons.1 hx with rfl|hx
  ·simp[av.set]
  ·simp only[av.set,hnH x hx,if_false];exact T.gr x hx
 ·simp only[List.map_cons,List.nodup_cons]
  refine⟨fun hm=> ?_,T.nd⟩
  obtain⟨x,hx,e⟩:=List.mem_map.1 hm
  exact hnH x hx e
 ·intro x hx
  rcases List.mem_cons.1 hx with rfl|hx
  ·exact⟨hhρ,hN2⟩
  ·exact T.fr x hx
theorem j9{n:Nat}(hn:ah ρ n=none)(hrs:∀y∈rs,ah ρ y.1≠none):ah (rs++ag kl ρ) n=none:=by
 rw[bl _ _ _ (fun y hy e=>hrs y hy (by rw[e];exact hn))]
 exact dL hn
theorem bU.vf{KS0:Nat→Prop}{e0:av}(h0:Inv c KS0 e0 F ρ w)(T:bU N c F ρ w KS e rs kl H):cn ((H.map (·.n)).map .all) (bG (aB kl ρ) F) (hid H++(rs++ag kl ρ)):=by
 have key:∀x∈H,cn [.all x.n] (bG (aB kl ρ) F) (hid H++(rs++ag kl ρ)):=fun x hx=>by
  refine((h0.vf (T.fr x hx).1).gd (aB kl ρ) kl).roots fun n q hq=> ?_
  by_cases hin:∃x∈H,x.n=n
  ·obtain⟨x,hx,rfl⟩:=hin
   rw[bE T.nd x hx]at hq;cases hq
  ·rw[bP fun x hx e=>hin ⟨x,hx,e⟩]at hq
   by_cases hin2:∃y∈rs,y.1=n
   ·exfalso
    have key:∀(l:af),(∃y∈l,y.1=n)→(∀y∈l,∀q,y.2≠some (.al q))→∀ρ1,ah (l++ρ1) n≠some (.al q):=by
     intro l
     induction l with
     |nil=>rintro⟨y,hy,_⟩;cases hy
     |cons z l ih=>
      intro hex hno ρ1
      obtain⟨m,b⟩:=z
      by_cases hm:n=m
      ·subst hm;rw[List.cons_append,ay];exact hno (n,b) (by simp) q
      ·rw[List.cons_append,aw hm]
       refine ih ?_ (fun y hy=>hno y (by simp[hy])) ρ1
       obtain⟨y,hy,e⟩:=hex
       rcases List.mem_cons.1 hy with rfl|hy
       ·exact absurd e.symm hm
       ·exact⟨y,hy,e⟩
    exact key rs hin2 (fun y hy=>(T.nG y hy).1) _ hq
   ·rw[bl _ _ _ fun y hy e=>hin2 ⟨y,hy,e⟩]at hq;exact hq
 refine⟨fun p hp t k hk=> ?_,fun n q hq k hk=> ?_⟩
 ·obtain⟨m,hm,rfl⟩:=List.mem_map.1 hk
  obtain⟨x,hx,rfl⟩:=List.mem_map.1 hm
  exact(key x hx).bX p hp t _ (by simp)
 ·obtain⟨m,hm,rfl⟩:=List.mem_map.1 hk
  obtain⟨x,hx,rfl⟩:=List.mem_map.1 hm
  exact(key x hx).Mj n q hq _ (by simp)
theorem bU.Qk{KS0:Nat→Prop}{e0:av}(hC:cy τ c)(h0:Inv c KS0 e0 F ρ w)(hKS:∀b,KS0 b→KS b)(T:bU N c F ρ w KS e rs kl H){d:Nat}(hd32:32768≤d)(hdN:d<N)(hd0:ah ρ d=none)
  (hsame:∀b,b<w.heap.size→(∀x∈H,b∉fp x.t x.g)→bH w w' b) (hz:dH w w')
  {X:Nat→Prop} (hX:∀b,X b→∃x∈H,b∈fp x.t x.g)
  {re:Bool} {t:Ty} {g:t.G} {ad:Option Addr} (hok:bM w' (fun b=>KS b∨X b) t g) (hrow:re=true→∃A,ad=some A∧cz w' A (cl t g)) (hrow':re=false→ad=none)
  (hn:((ad.map (·.block)).toList++fp t g).Nodup)
  (hf:∀b∈(ad.map (·.block)).toList++fp t g,¬X b∧((w.heap.size≤b∧b<w'.heap.size)∨∃x∈H,b∈fp x.t x.g))
  {x:t.D} (hx:er t g=x) {rv:RV} {v:Value} (hv:bf w' (fun b=>KS b∨X b) ((d,some (.data re t x none))::(rs++ag kl ρ)) (e.set d ⟨ad,t,g⟩) rv v):
  aR c KS0 F ρ {new:=true,rv:=rv,rs:=(d,some (.data re t x none))::rs,kill:=kl} v w':=by
 subst hx
 have hbx:∀x∈H,bj (hid H++(rs++ag kl ρ)) e x.n=fp x.t x.g:=fun x hx=>by
  have h1:=bE (ρ:=rs++ag kl ρ) T.nd x hx
  obtain⟨ad,g,q1,q2,q3,q4,q5,q6⟩:=T.inv.root h1
  have:=T.gr x hx
  rw[this]at q1
  cases q1
  have hr:=T.inv.roots x.n
  simp only[bC,h1]at hr
  obtain⟨_,_,_,_,_,_,_,hpb⟩:=hr
  rw[q6,hpb];simp
 obtain⟨hp,hpd⟩:=hC.none hd32
 refine⟨_,_,fun b hb=> .inl (hKS b hb),hv, ?_⟩
 refine Inv.merge (hs:=H.map (·.n)) T.inv (T.vf h0) ?_ ?_ ?_ hp hpd ?_ hz ?_ hok hrow hrow' hn ?_ ?_ ?_ ?_
 ·intro n hn
  obtain⟨x,hx,rfl⟩:=List.mem_map.1 hn
  exact⟨_,_,bE T.nd x hx⟩
 ·intro hm
  obtain⟨x,hx,rfl⟩:=List.mem_map.1 hm
  have:=(T.fr x hx).2
  omega
 ·rw[bP]
  ·exact j9 hd0 fun y hy=>(T.nG y hy).2
  ·intro x hx e
   have:=(T.fr x hx).2
   omega
 ·intro b hb hnb
  refine hsame b hb fun x hx hbx'=>hnb x.n (List.mem_map.2 ⟨x,hx,rfl⟩) ?_
  rw[hbx x hx];exact hbx'
 ·intro b hb
  obtain⟨x,hx,h1⟩:=hX b hb
  exact⟨x.n,List.mem_map.2 ⟨x,hx,rfl⟩,by rw[hbx x hx];exact h1⟩
 ·intro b hb
  obtain⟨h1,h2⟩:=hf b hb
  refine⟨h1,h2.imp id ?_⟩
  rintro⟨x,hx,h3⟩
  exact⟨x.n,List.mem_map.2 ⟨x,hx,rfl⟩,by rw[hbx x hx];exact h3⟩
 ·simp only[List.cons_append,ay]
 ·intro n hn
  obtain⟨x,hx,rfl⟩:=List.mem_map.1 hn
  have h2:=(T.fr x hx).2
  simp only[List.cons_append]
  rw[aw (by omega)]
  exact j9 (T.fr x hx).1 fun y hy=>(T.nG y hy).2
 ·intro n h1 h2
  simp only[List.cons_append]
  rw[aw h2,bP fun x hx e=>h1 (List.mem_map.2 ⟨x,hx,e⟩)]
theorem bU.plain{KS0:Nat→Prop}{e0:av}(h0:Inv c KS0 e0 F ρ w)(hKS:∀b,KS0 b→KS b)(T:bU N c F ρ w KS e rs kl H)
  {rv:RV} {v:Value} (hv:bf w KS (rs++ag kl ρ) e rv v) {b:Bool}:
  aR c KS0 F ρ {new:=b,rv:=rv,rs:=rs,kill:=kl} v w:=by
 have hI:=T.inv.Ss (ρ':=rs++ag kl ρ) (hs:=H.map (·.n)) (X:=fun _=>False) (T.vf h0) (fun n hn=>by
   obtain⟨x,hx,rfl⟩:=List.mem_map.1 hn
   exact⟨_,_,bE T.nd x hx⟩) (fun b hb=>hb.elim) (fun n hn=>by
   obtain⟨x,hx,rfl⟩:=List.mem_map.1 hn
   exact j9 (T.fr x hx).1 fun y hy=>(T.nG y hy).2) (fun n hn=>by
   rw[bP fun x hx e=>hn (List.mem_map.2 ⟨x,hx,e⟩)])
 have e1:(fun b=>KS b∨False)=KS:=by funext b;simp
 rw[e1]at hI
 exact⟨KS,e,hKS,hv,hI⟩
theorem bU.nodup(T:bU N c F ρ w KS e rs kl H):(H.flatMap fun x=>fp x.t x.g).Nodup:=by
 have hbx:∀x∈H,bj (hid H++(rs++ag kl ρ)) e x.n=fp x.t x.g:=fun x hx=>by
  have h1:=bE (ρ:=rs++ag kl ρ) T.nd x hx
  obtain⟨ad,g,q1,q2,q3,q4,q5,q6⟩:=T.inv.root h1
  have:=T.gr x hx
  rw[this]at q1
  cases q1
  have hr:=T.inv.roots x.n
  simp only[bC,h1]at hr
  obtain⟨_,_,_,_,_,_,_,hpb⟩:=hr
  rw[q6,hpb];simp
 have key:∀L:List HG,(∀x∈L,x∈H)→(L.map (·.n)).Nodup→(L.flatMap fun x=>fp x.t x.g).Nodup:=by
  intro L
  induction L with
  |nil=>intro _ _;simp
  |cons x L ih=>
   intro hs hn
   simp only[List.map_cons,List.nodup_cons]at hn
   simp only[List.flatMap_cons]
   refine List.nodup_append.2 ⟨?_,ih (fun y hy=>hs y (by simp[hy])) hn.2,fun a ha b hb e0=> ?_⟩
   ·rw[←hbx x (hs x (by simp))];exact T.inv.nd x.n
   ·subst e0
    obtain⟨y,hy,hay⟩:=List.mem_flatMap.1 hb
    have hne:x.n≠y.n:=fun e=>hn.1 (List.mem_map.2 ⟨y,hy,e.symm⟩)
    rw[←hbx x (hs x (by simp))]at ha
    rw[←hbx y (hs y (by simp[hy]))]at hay
    exact T.inv.dj _ _ hne a ha hay
 exact key H (fun _ h=>h) T.nd
theorem bU.each(T:bU N c F ρ w KS e rs kl H):∀x∈H,bM w KS x.t x.g∧∀b∈fp x.t x.g,b<w.heap.size∧¬KS b:=fun x hx=>by
 have h1:=bE (ρ:=rs++ag kl ρ) T.nd x hx
 obtain⟨ad,g,q1,q2,q3,q4,q5,q6⟩:=T.inv.root h1
 have:=T.gr x hx
 rw[this]at q1
 cases q1
 refine⟨q3,fun b hb=> ?_⟩
 have hb':b∈bj (hid H++(rs++ag kl ρ)) e x.n:=by rw[q6];simp[hb]
 exact⟨T.inv.blt _ b hb',T.inv.ks _ b hb'⟩
theorem bU.pop{p:aA×Act}(T:bU N c (p::F) ρ w KS e rs kl H):bU N c F ρ w KS e rs kl H:=
 ⟨T.inv.pop (p:=(bt (aB kl ρ) p.1,p.2)),T.gr,T.nd,T.fr,T.nG⟩
def zn:Nat→List RV→aA
 |_,[]=>[]
 |i,x::xs=>(i,x)::zn (i+1) xs
theorem AR:∀(xs:List RV) (i j:Nat),bL (zn i xs) j=if i≤j then(xs[j-i]?).getD .cL else .cL
 |[],i,j=>by simp[zn,bL]
 |x::xs,i,j=>by
  simp only[zn,bL]
  cases hb:Nat.beq i j with
  |true=>
   obtain rfl:=Nat.eq_of_beq_eq_true hb
   simp
  |false=>
   have hne:i≠j:=fun e=>by subst e;simp[Nat.beq_refl]at hb
   simp only[Bool.false_eq_true,if_false]
   rw[AR xs (i+1) j]
   by_cases hij:i≤j
   ·rw[if_pos (by omega),if_pos hij]
    obtain⟨m,rfl⟩:∃m,j=i+1+m:=⟨j-(i+1),by omega⟩
    rw[show i+1+m-(i+1)=m by omega,show i+1+m-i=m+1 by omega]
    simp
   ·rw[if_neg (by omega),if_neg hij]
theorem Hl{xs:List RV}{vs:List Value}(h:bF w KS ρ e xs vs):∀j,bf w KS ρ e ((xs[j]?).getD .cL) (vs.toArray.getD j undef):=by
 induction xs generalizing vs with
 |nil=>intro j;simp[bf]
 |cons x xs ih=>
  obtain⟨v,vs',rfl,h1,h2⟩:=h
  intro j
  cases j with
  |zero=>simpa using h1
  |succ j=>simpa using ih h2 j
theorem Inv.ops(h:Inv c KS e F ρ w){xs:List RV}{vs:List Value}(hx:bF w KS ρ e xs vs):Inv c KS e ((zn 0 xs,⟨vs.toArray,[]⟩)::F) ρ w:=
 h.push (fun t=>by
  rw[AR]
  simp only[Nat.zero_le,if_true,Nat.sub_zero]
  exact Hl hx t)
theorem bU.NX{xs:List RV}{vs:List Value}(T:bU N c ((zn 0 xs,⟨vs.toArray,[]⟩)::F) ρ w KS e rs kl H){j:Nat}{x:RV}(hj:xs[j]? =some x)(hl:xs.length=vs.length)(hf:fresh kl ρ x=true)(ht:∀l,x≠ .tp l):
  ∃v,vs[j]? =some v∧bf w KS (hid H++(rs++ag kl ρ)) e x v:=by
 have hlt:j<xs.length:=(List.getElem?_eq_some_iff.1 hj).1
 have hv:vs[j]? =some vs[j]:=List.getElem?_eq_getElem (by omega)
 refine⟨_,hv, ?_⟩
 have:=T.inv.bX (bt (aB kl ρ) (zn 0 xs),⟨vs.toArray,[]⟩) (by simp[bG]) j
 rw[cS,AR]at this
 simp only[Nat.zero_le,if_true,Nat.sub_zero,hj,Option.getD_some]at this
 rw[GX (Km hf) ht]at this
 have he:Act.eval (⟨vs.toArray,[]⟩:Act) (.tmp j)=vs[j]:=by
  simp only[Act.eval]
  have h3:vs.toArray[j]? =some vs[j]:=by rw[List.getElem?_toArray,hv]
  simp[h3]
 rw[he]at this
 exact this
end
end
section
def vc:List (Nat×Value)→Nat→List (List Value)→List (List Value)→Prop
 |ps,_,[],[]=>ps=[]
 |ps,i,b::bs,c::cs=>(∃v ps',ps=(i,v)::ps'∧v.cells=c.toArray∧vc ps' (i+1) bs cs)∨(c=b∧vc ps (i+1) bs cs)
 |_,_,_,_=>False
theorem Hb(pre post:List Value):∀(c b:List Value) (s:Nat) (X:List Value) (off:Nat),c.length=b.length→off+s=X.length→
  (c.zipIdx s).foldl (fun(cs:Array Value) (x:Value×Nat)=>cs.setIfInBounds (off+x.2) x.1) (X++b++post).toArray=(X++c++post).toArray
 |[],[],s,X,off,_,_=>rfl
 |v::c,u::b,s,X,off,hl,hx=>by
  simp only[List.zipIdx_cons,List.foldl_cons]
  have e1:(X++u::b++post).toArray.setIfInBounds (off+s) v=((X++[v])++b++post).toArray:=by
   rw[List.setIfInBounds_toArray,hx]
   congr 1
   simp
  rw[e1,Hb pre post c b (s+1) (X++[v]) off (by simpa using hl) (by simp;omega)]
  simp
theorem Ah(place:Nat→Option (Nat×Nat)):∀(bs cs:List (List Value)) (i:Nat) (pre:List Value) (ps:List (Nat×Value)),vc ps i bs cs→bs.map List.length=cs.map List.length→
  (∀m b,bs[m]? =some b→place (i+m)=some (pre.length+(bs.take m).flatten.length,b.length))→Instr.fill place (pre++bs.flatten).toArray ps=some (pre++cs.flatten).toArray
 |[],[],i,pre,ps,h,_,_=>by
  have h':ps=[]:=h
  subst h';rfl
 |b::bs,c::cs,i,pre,ps,h,hl,hp=>by
  simp only[List.map_cons,List.cons.injEq]at hl
  have hp0:=hp 0 b (by simp)
  have hp':∀m b',bs[m]? =some b'→place (i+1+m)=some ((pre++c).length+(bs.take m).flatten.length,b'.length):=fun m b' hm=>by
   have:=hp (m+1) b' (by simpa using hm)
   rw[show i+1+m=i+(m+1)by omega,this]
   simp[hl.1];omega
  rcases h with⟨v,ps',rfl,hv,h⟩|⟨rfl,h⟩
  ·have ih:=Ah place bs cs (i+1) (pre++c) ps' h hl.2 hp'
   simp only[Nat.add_zero,List.take_zero,List.flatten_nil,List.length_nil]at hp0
   have e1:=Hb pre bs.flatten c b 0 pre pre.length hl.1.symm (by simp)
   simp only[Instr.fill,hp0,hv,List.size_toArray,hl.1,List.flatten_cons]
   rw[if_neg (by simp;omega)]
   have e2:(c.toArray.zipIdx.foldl (fun(cs:Array Value) (x:Value×Nat)=>cs.setIfInBounds (pre.length+x.2) x.1) (pre++(b++bs.flatten)).toArray)=(pre++c++bs.flatten).toArray:=by
    rw[←e1]
    simp
   simp only[←List.append_assoc]at e2 ih ⊢
   rw[e2];exact ih
  ·have ih:=Ah place bs cs (i+1) (pre++c) ps h hl.2 hp'
   simpa[List.append_assoc]using ih
 |[],_::_,_,_,_,h,_,_=>h.elim
 |_::_,[],_,_,_,h,_,_=>h.elim
def oe:List HG→(t:Ty)×t.G
 |[]=>⟨.unit,()⟩
 |[x]=>⟨x.t,x.g⟩
 |x::y::l=>⟨.pair x.t (oe (y::l)).1,(x.g,(oe (y::l)).2)⟩
theorem Pf:∀H:List HG,SE (H.map HG.d)=⟨(oe H).1,er _ (oe H).2⟩
 |[]=>rfl
 |[x]=>rfl
 |x::y::l=>by
  have ih:=Pf (y::l)
  have h0:SE ((x::y::l).map HG.d)=(let r:=SE ((y::l).map HG.d);⟨.pair x.d.1 r.1,(x.d.2,r.2)⟩):=rfl
  rw[h0,ih];rfl
theorem MU:∀H:List HG,cl _ (oe H).2=H.flatMap fun x=>cl x.t x.g
 |[]=>rfl
 |[x]=>by simp[oe]
 |x::y::l=>by
  have ih:=MU (y::l)
  simp only[oe,cl,List.flatMap_cons]at ih ⊢
  rw[ih]
theorem IJ:∀H:List HG,fp _ (oe H).2=H.flatMap fun x=>fp x.t x.g
 |[]=>rfl
 |[x]=>by simp[oe]
 |x::y::l=>by
  have ih:=IJ (y::l)
  simp only[oe,fp,List.flatMap_cons]at ih ⊢
  rw[ih]
theorem Mu{w:World}{KS:Nat→Prop}:∀H:List HG,(∀x∈H,bM w KS x.t x.g)→bM w KS _ (oe H).2
 |[],_=>trivial
 |[x],h=>h x (by simp)
 |x::y::l,h=>⟨h x (by simp),Mu (y::l) fun z hz=>h z (by simp[hz])⟩
section
variable {P:Program} {τ:dM} {E:Env} {c:Ctx} {KS:Nat→Prop} {e:av} {F:Fs} {ρ ρ':af} {w w':World} {rs:af} {kl:List aH} {H:List HG} {N:Nat}
theorem M6{te:Ty}{x:RV}{ρ:af}{r:eh×List (Nat×Option eP)×List aH}(h:(Eng.take ρ te x).run=some r):∀l,x≠ .tp l:=fun l e=>by subst e;cases h
theorem wz(hC:cy τ c)(hN:32768≤N){xs:List RV}{vs:List Value}(hlen:xs.length=vs.length):∀(ts:List Ty),(∀t∈ts,t.gh=true)→∀(is:List Nat) (j0 i:Nat),is.length+j0=xs.length→
  ∀{KS:Nat→Prop} {e:av} {rs:af} {kl:List aH} {H:List HG} (T:bU N c ((zn 0 xs,⟨vs.toArray,[]⟩)::F) ρ w KS e rs kl H) {ds:List eh} {rs':af} {kl':List aH},
  (ew ρ ts (is.zip (xs.drop j0)) i rs kl).run=some (ds,rs',kl')→
  ∃KS' e',∃Hs:List HG,(∀b,KS b→KS' b)∧bU N c ((zn 0 xs,⟨vs.toArray,[]⟩)::F) ρ w KS' e' rs' kl' (Hs.reverse++H)∧ds=Hs.map HG.d∧vc (is.zip (vs.drop j0)) i (ts.map bY) (Hs.map fun x=>cl x.t x.g)
 |[],_,is,j0,i,hj,KS,e,rs,kl,H,T,ds,rs',kl',hr=>by
  cases is with
  |nil=>
   simp only[ew,List.zip_nil_left]at hr
   injection hr with hr;cases hr
   exact⟨KS,e,[],fun _ h=>h,T,rfl,rfl⟩
  |cons a is=>
   have:∃y l,xs.drop j0=y::l:=by
    cases hd:xs.drop j0 with
    |nil=>have:=congrArg List.length hd;simp at this hj;omega
    |cons y l=>exact⟨y,l,rfl⟩
   obtain⟨y,l,hy⟩:=this
   rw[hy]at hr;cases hr
 |t::ts,hsol,[],j0,i,hj,KS,e,rs,kl,H,T,ds,rs',kl',hr=>by
  simp only[List.zip_nil_left,ew]at hr
  replace hr:=Cm.ae hr;obtain⟨⟨ds1,rs1,kl1⟩,hr1,hr⟩:=hr
  injection hr with hr;cases hr
  obtain⟨e1,y,T1,y1,y2⟩:=T.zero hC hN (D2 t (hsol t (by simp)))
  obtain⟨KS2,e2,Hs,k1,T2,k3,k4⟩:=wz hC hN hlen ts (fun u hu=>hsol u (by simp[hu])) [] j0 (i+1) hj T1 (by simpa using hr1)
  refine⟨KS2,e2,y::Hs,k1,by simpa using T2,by simp[y1,k3], ?_⟩
  simp only[List.map_cons]
  exact .inr ⟨by rw[y2,D0],k4⟩
 |t::ts,hsol,a::is,j0,i,hj,KS,e,rs,kl,H,T,ds,rs',kl',hr=>by
  have hlt:j0<xs.length:=by simp at hj;omega
  have hx:xs.drop j0=xs[j0]::xs.drop (j0+1):=List.drop_eq_getElem_cons hlt
  have hv:vs.drop j0=vs[j0]'(by omega)::vs.drop (j0+1):=List.drop_eq_getElem_cons (by omega)
  rw[hx,List.zip_cons_cons]at hr
  simp only[ew]at hr
  cases hb:Nat.beq i a with
  |true=>
   obtain rfl:=Nat.eq_of_beq_eq_true hb
   rw[hb,if_pos rfl]at hr
   replace hr:=Cm.aG hr;obtain⟨hf,hr⟩:=hr
   replace hr:=Cm.ae hr;obtain⟨⟨d,rs1,kl1⟩,ht,hr⟩:=hr
   replace hr:=Cm.ae hr;obtain⟨⟨ds1,rs2,kl2⟩,hr1,hr⟩:=hr
   injection hr with hr;cases hr
   obtain⟨v,hv1,hxv⟩:=T.NX (j:=j0) (x:=xs[j0]) (by simp[hlt]) hlen hf (M6 ht)
   obtain⟨KS1,e1,y,k0,T1,y1,y2⟩:=T.take hC hN hxv ht
   obtain⟨KS2,e2,Hs,k1,T2,k3,k4⟩:=wz hC hN hlen ts (fun u hu=>hsol u (by simp[hu])) is (j0+1) (i+1) (by simp at hj;omega) T1 hr1
   refine⟨KS2,e2,y::Hs,fun b hb=>k1 b (k0 b hb),by simpa using T2,by simp[y1,k3], ?_⟩
   simp only[List.map_cons]
   rw[hv,List.zip_cons_cons]
   have hve:vs[j0]'(by omega)=v:=by
    have:vs[j0]? =some (vs[j0]'(by omega)):=List.getElem?_eq_getElem (by omega)
    rw[this]at hv1;injection hv1
   rw[hve]
   exact .inl ⟨v,_,rfl,y2,k4⟩
  |false=>
   rw[hb,if_neg (by simp)]at hr
   replace hr:=Cm.ae hr;obtain⟨⟨ds1,rs1,kl1⟩,hr1,hr⟩:=hr
   injection hr with hr;cases hr
   obtain⟨e1,y,T1,y1,y2⟩:=T.zero hC hN (D2 t (hsol t (by simp)))
   obtain⟨KS2,e2,Hs,k1,T2,k3,k4⟩:=wz hC hN hlen ts (fun u hu=>hsol u (by simp[hu])) (a::is) j0 (i+1) hj T1 (by rw[hx,List.zip_cons_cons];exact hr1)
   refine⟨KS2,e2,y::Hs,k1,by simpa using T2,by simp[y1,k3], ?_⟩
   simp only[List.map_cons]
   exact .inr ⟨by rw[y2,D0],k4⟩
end
end
section
theorem Ii:∀(l:List (Nat×Operand)) (xs:List RV),LI l xs=(l.map (·.1)).zip xs
 |[],xs=>rfl
 |(i,o)::l,[]=>rfl
 |(i,o)::l,x::xs=>by simp[LI,Ii l xs]
structure Qv (P:Program) (fs:List Field) (off:Nat) (t:Ty) (ts:List Ty):Prop where
 eq:fieldsOf t fs.length=ts
 len:ts.length=fs.length
 Tk:bY t=(ts.map bY).flatten
 pl:t.gh=true→∃places,fs.mapM (fun f=>(P.info? f.type).map fun i=>(f.offset,i.size))=some places∧∀m u,ts[m]? =some u→places[m]? =some (off+((ts.take m).map bY).flatten.length,(bY u).length)
 same:∀H:List HG,(oe H).1.same t=true→H.length=ts.length→H.map (·.t.sz)=ts.map Ty.sz
 PY:t.gh=true→∀u∈ts,u.gh=true
theorem G1{P:Program}:∀(fs:List Field) (off:Nat) (t:Ty),Bf P fs off t→∃ts,Qv P fs off t ts
 |[],off,t,h=>by cases h
 |[f],off,t,h=>by
  cases h with
  |one h1 h2=>
   have e0:fieldsOf t 1=[t]:=by cases t<;>rfl
   refine⟨[t],⟨by simpa using e0,rfl,by simp,fun hs=> ?_,fun H hH hl=> ?_,fun hs u hu=>by simp at hu;subst hu;exact hs⟩⟩
   ·obtain⟨d,hf⟩:=h2.fact
    obtain⟨i,z,q1,q2,_⟩:=hf.info
    refine⟨[(f.offset,i.size)],by simp[q1],fun m u hm=> ?_⟩
    cases m with
    |zero=>simp at hm;subst hm;simp[h1,q2,eA hs]
    |succ m=>simp at hm
   ·match H,hl with
    |[x],_=>
     have hx:x.t.same t=true:=hH
     simp[Ty.bm hx]
 |f::f2::fs,off,t,h=>by
  cases h with
  |cons h1 h2 h3=>
   rename_i a b
   obtain⟨ts,G⟩:=G1 (f2::fs) _ b h3
   refine⟨a::ts,⟨?_,by simp[G.len],by simp[bY,G.Tk],fun hs=> ?_,fun H hH hl=> ?_,fun hs u hu=> ?_⟩⟩
   ·show a::fieldsOf b (fs.length+1)=_
    have:=G.eq
    rw[List.length_cons]at this
    rw[this]
   ·simp only[Ty.gh,Bool.and_eq_true]at hs
    obtain⟨places,q1,q2⟩:=G.pl hs.2
    obtain⟨d,hf⟩:=h2.fact
    obtain⟨i,z,r1,r2,_⟩:=hf.info
    refine⟨(f.offset,i.size)::places, ?_,fun m u hm=> ?_⟩
    ·rw[List.mapM_cons,r1]
     simp only[Option.map_some,q1];rfl
    ·cases m with
     |zero=>simp at hm;subst hm;simp[h1,r2,eA hs.1]
     |succ m=>
      have:=q2 m u (by simpa using hm)
      simp only[List.getElem?_cons_succ,this,List.take_succ_cons,List.map_cons,List.flatten_cons,List.length_append,eA hs.1]
      simp;omega
   ·have hl':ts.length=fs.length+1:=by rw[G.len];rfl
    match H,hl with
    |[x],hl=>simp only[List.length_cons,List.length_nil]at hl;omega
    |x::y::H,hl=>
     simp only[oe,Ty.same,Bool.and_eq_true]at hH
     have:=G.same (y::H) hH.2 (by simpa using hl)
     simp only[List.map_cons]at this ⊢
     rw[Ty.bm hH.1,←this]
   ·simp only[Ty.gh,Bool.and_eq_true]at hs
    rcases List.mem_cons.1 hu with rfl|hu
    ·exact hs.1
    ·exact G.PY hs.2 u hu
section
variable {P:Program} {τ:dM} {E:Env} {c:Ctx} {KS:Nat→Prop} {e:av} {F:Fs} {ρ ρ':af} {w w':World}
theorem jS{xs:List RV}{vs:List Value}(h:bF w KS ρ e xs vs):xs.length=vs.length:=by
 induction xs generalizing vs with
 |nil=>have:vs=[]:=h;subst this;rfl
 |cons x xs ih=>obtain⟨v,vs',rfl,_,h2⟩:=h;simp[ih h2]
theorem na{H:List HG}{b:Nat}(h:b∈H.flatMap fun x=>fp x.t x.g):∃x∈H.reverse,b∈fp x.t x.g:=by
 obtain⟨x,hx,hb⟩:=List.mem_flatMap.1 h
 exact⟨x,by simpa using hx,hb⟩
theorem aR.box{KS0:Nat→Prop}{e0:av}{N:Nat}{rs:af}{kl:List aH}{y:HG}(hC:cy τ c)(h0:Inv c KS0 e0 F ρ w)(hKS:∀b,KS0 b→KS b)(T:bU N c F ρ w KS e rs kl [y]){d:Nat}(hd32:32768≤d)(hdN:d<N)(hd0:ah ρ d=none)(tid:TypeId):
  aR c KS0 F ρ {new:=true,rv:= .rf ⟨d,[]⟩,rs:=(d,some (.data true y.t (er y.t y.g) none))::rs,kill:=kl} (.pointer (some ⟨w.heap.size,0,none⟩)) (w.alloc (.cells (cl y.t y.g).toArray tid)):=by
 obtain⟨hok,hbl⟩:=T.each y (by simp)
 have hk:∀b,KS b→∀o,(w.alloc (.cells (cl y.t y.g).toArray tid)).cell? ⟨b,o,none⟩=w.cell? ⟨b,o,none⟩:=fun b hb=>(cQ w _ (T.inv.lt b hb)).2.2
 refine T.Qk hC h0 hKS hd32 hdN hd0 (fun b hb _=>cQ w _ hb) (jA _ _) (X:=fun _=>False) (fun b hb=>hb.elim) (g:=y.g) (ad:=some ⟨w.heap.size,0,none⟩)
  (eO (fun b hb=> .inl hb) hk (fun b hb=>cQ w _ (hbl b hb).1) hok) (fun _=>⟨_,rfl,wH w tid _⟩) (fun h=>by cases h) ?_ ?_ rfl Md
 ·have:=T.nodup
  simp only[List.flatMap_cons,List.flatMap_nil,List.append_nil]at this
  simp only[Option.map_some,Option.toList_some,List.singleton_append,List.nodup_cons]
  exact⟨fun hm=>by have:=(hbl _ hm).1;omega,this⟩
 ·intro b hb
  simp only[Option.map_some,Option.toList_some,List.singleton_append,List.mem_cons]at hb
  refine⟨fun h=>h, ?_⟩
  rcases hb with rfl|hb
  ·left;rw[fP];omega
  ·exact .inr ⟨y,by simp,hb⟩
theorem Inv.alias(h:Inv c KS e F ρ w){d:Nat}(hd:ah ρ d=none)(hp:c.cD d=none)(hh:c.eo d=none){q:Place}{s:dN}(hq:hasData ρ q.r)(hs:aC e q=some s)(tid:TypeId):
  Inv c KS {e with ud:=fun n=>if n=d then⟨w.heap.size,0,none⟩else e.ud n} F ((d,some (.al q))::ρ) (w.alloc (.cells (cl s.t s.g).toArray tid)):=by
 have hbd:bj ((d,some (.al q))::ρ) {e with ud:=fun n=>if n=d then⟨w.heap.size,0,none⟩else e.ud n} d=[w.heap.size]:=by
  simp only[bj,ay,if_true]
 have hqd:q.r≠d:=fun e=>by obtain⟨re,t,x,pd,h1⟩:=hq;rw[e,hd]at h1;cases h1
 have hsm:∀b,b<w.heap.size→bH w (w.alloc (.cells (cl s.t s.g).toArray tid)) b:=fun b hb=>cQ w _ hb
 refine h.step (S:=fun n=>n=d) (ks:=[]) (cn.nil F ρ)
  {reads:=Reads.new h hd (fun n hn=>aw hn) (fun n hn=>⟨rfl,by simp[hn],rfl⟩) (fun b hb=>(hsm b (h.lt b hb)).2.2)
   out:=fun n hn=>⟨aw hn,rfl,by simp[hn],rfl,rfl⟩
   same:=fun n _ b hb=>hsm b (h.blt n b hb)
   size:=by exact jA _ _
   roots:=fun n hn=>by
    subst hn
    simp only[bC,ay]
    refine⟨?_,s,hs, ?_⟩
    ·obtain⟨re,t,x,pd,h1⟩:=hq
     exact⟨re,t,x,pd,by rw[aw hqd];exact h1⟩
    ·simp only[if_true];exact wH w tid _
   nd:=fun n hn=>by subst hn;rw[hbd];simp
   dj:=fun n m hn hm hnm=>absurd (hn.trans hm.symm) hnm
   src:=fun n hn b hb'=>by
    subst hn;rw[hbd]at hb';simp at hb';subst hb'
    left;rw[fP];omega
   DP:=fun b h=> .inl h
   HX:=fun n hn b hb' hk=>by
    subst hn;rw[hbd]at hb';simp at hb';subst hb'
    have:=h.lt _ hk;omega
   cD:=fun n hn A hA=>by subst hn;rw[hp]at hA;cases hA
   eo:=fun n hn A hA=>by subst hn;rw[hh]at hA;cases hA
   GZ:=fun b hb=> .inl (hsm b hb)}
theorem Ih{tid:TypeId}{v:Value}{cs:List Value}(h:v.cells=cs.toArray):(Instr.box tid v).run P w= .ok (.pointer (some ⟨w.heap.size,0,none⟩)) (w.alloc (.cells cs.toArray tid)):=by
 simp only[Instr.box,Sem.run_bind,Ez,Result.andThen_ok,Sem.run_pure,h]
theorem S4(h:Inv c KS e F ρ w){x:RV}{v:Value}(hx:bf w KS ρ e x v):Inv c KS e ((zn 0 [x],⟨[v].toArray,[]⟩)::F) ρ w:=h.ops ⟨v,[],rfl,hx,rfl⟩
theorem Qt(hC:cy τ c)(h:Inv c KS e F ρ w){x:RV}{v:Value}(hx:bf w KS ρ e x v){te:Ty}{d:eh}{rs:af}{kl:List aH}(ht:(take ρ te x).run=some (d,rs,kl)){N:Nat}(hN:32768≤N):
  ∃KS' e',∃y:HG,(∀b,KS b→KS' b)∧bU N c F ρ w KS' e' rs kl [y]∧d=y.d∧v.cells=(cl y.t y.g).toArray:=by
 have T:=bU.start (N:=N) h
 have:=T.take hC hN (x:=x) (v:=v) (by simpa[hid,ag]using hx) (te:=te) (d:=d) (rs':=rs) (kl':=kl) (by simpa using ht)
 simpa using this
theorem RJ(hE:bZ P E)(hC:cy τ c)(h:Inv c KS e F ρ w){call:cr}{bound d tid:Nat}{ef:jM}(hd32:32768≤d)(hd:ef.new=true→ah ρ d=none){a:Operand}{x:RV}{v:Value}(hx:bf w KS ρ e x v)
  (hc:(comp E call bound d (.box tid a) [x] ρ).run=some ef):cM P (do pure (.value (←Instr.box tid v))) w (aR c KS F ρ ef):=by
 simp only[comp]at hc
 obtain⟨hp,hpd⟩:=hC.none hd32
 split at hc
 ·rename_i t ht
  have taken:(((take ρ t x).bind fun(v,rs,kl)=>Cm.jm (v.1.same t) (.ret {new:=true,rv:= .rf ⟨d,[]⟩,rs:=(d,some (.data true v.1 v.2 none))::rs,kill:=kl})).run=some ef)→cM P (do pure (.value (←Instr.box tid v))) w (aR c KS F ρ ef):=fun hc=>by
   replace hc:=Cm.ae hc;obtain⟨⟨dv,rs,kl⟩,htk,hc⟩:=hc
   replace hc:=Cm.aG hc;obtain⟨hs,hc⟩:=hc
   injection hc with hc;subst hc
   replace hd:=hd rfl
   obtain⟨KS',e',y,k1,T,rfl,k3⟩:=Qt hC h hx htk (N:=d+1) (by omega)
   exact aJ (Ih k3) (aR.box hC h k1 T hd32 (by omega) hd tid)
  cases x with
  |sv q=>
   simp only at hc
   cases hl:l7 bound ρ q with
   |false=>rw[hl]at hc;exact taken hc
   |true=>
    rw[hl]at hc
    simp only[cond_true]at hc
    replace hc:=Cm.aG hc;obtain⟨h1,hc⟩:=hc
    injection hc with hc;subst hc
    replace hd:=hd rfl
    obtain⟨hq,s,hs,hnl,rfl⟩:=hx
    rw[dY hq]at h1
    have hok:=(ch h hq hs).1
    refine aJ (Ih (nH (bc _ _ hok) (oD _ _ hok))) ?_
    refine⟨KS,{e with ud:=fun n=>if n=d then⟨w.heap.size,0,none⟩else e.ud n},fun _ h=>h, ?_, ?_⟩
    rotate_left
    ·rw[sM,gX,dY hq]
     exact h.alias hd hp hpd hq hs tid
    ·rw[dY hq]
     refine⟨⟨s.t,s.g,some ⟨w.heap.size,0,none⟩⟩,⟨w.heap.size,0,none⟩, ?_,rfl,rfl⟩
     have hqd:q.r≠d:=fun e=>by obtain⟨re,t,x,pd,h1⟩:=hq;rw[e,hd]at h1;cases h1
     show bB ((d,some (.al q))::ρ) _ ⟨d,[]⟩=_
     simp only[bB,ay]
     have:aC {e with ud:=fun n=>if n=d then⟨w.heap.size,0,none⟩else e.ud n} q=some s:=hs
     rw[this]
     simp[aD,pI]
  |_=>exact taken hc
 ·cases x with
  |fn f caps=>
   replace hc:=Cm.aG hc;obtain⟨h1,hc⟩:=hc
   injection hc with hc;subst hc
   obtain⟨vs,rfl,hcaps⟩:=hx
   refine aJ (Ih (cs:=[.func (.func f) #[] vs.toArray]) rfl) ?_
   -- a block that nobody writes
   have hw:=h.world (w':=w.alloc (.cells [Value.func (.func f) #[] vs.toArray].toArray tid)) (fun b hb=>cQ w _ hb) (jA _ _)
   have hI:Inv c (fun b=>KS b∨b=w.heap.size) e F ρ (w.alloc (.cells [Value.func (.func f) #[] vs.toArray].toArray tid)):=by
    refine h.step (S:=fun _=>False) (ks:=[]) (cn.nil F ρ)
     {reads:=Reads.of (fun b hb=> .inl hb) (fun b hb=>(cQ w _ (h.lt b hb)).2.2) (fun p _ h _=>h) (fun p te g ad _ _ h=>⟨g,h,rfl,rfl,rfl⟩) (fun _ _ _ _=>rfl) (fun p s A _ h1 h2=>⟨s,h1,h2⟩) (fun p _ re t x pe h=>⟨⟨re,t,x,pe,h⟩,rfl⟩)
      out:=fun n _=>⟨rfl,rfl,rfl,rfl,rfl⟩
      same:=fun n _ b hb=>cQ w _ (h.blt n b hb)
      size:=jA _ _
      roots:=fun _ h=>h.elim
      nd:=fun _ h=>h.elim
      dj:=fun _ _ h=>h.elim
      src:=fun _ h=>h.elim
      DP:=fun b h=>h.imp id fun h=> .inl (by subst h;rw[fP];omega)
      HX:=fun _ h=>h.elim
      cD:=fun _ h=>h.elim
      eo:=fun _ h=>h.elim
      GZ:=fun b hb=> .inl (cQ w _ hb)}
   refine⟨fun b=>KS b∨b=w.heap.size,e,fun b hb=> .inl hb, ?_, ?_⟩
   ·refine⟨⟨w.heap.size,0,none⟩,vs,rfl,rfl,.inr rfl, ?_, ?_⟩
    ·have:=(wH w tid [Value.func (.func f) #[] vs.toArray]).2.1 0 _ rfl
     simp
    ·have key:∀(l:List RV) (us:List Value),bF w KS ρ e l us→bF (w.alloc (.cells [Value.func (.func f) #[] vs.toArray].toArray tid)) (fun b=>KS b∨b=w.heap.size) ρ e l us:=fun l us hl=>
      Reads.PI (w:=w) (KS:=KS) (ρ:=ρ) (e:=e) (ks:=[]) (Reads.of (fun b hb=> .inl hb) (fun b hb=>(cQ w _ (h.lt b hb)).2.2) (fun p _ h _=>h) (fun p te g ad _ _ h=>⟨g,h,rfl,rfl,rfl⟩) (fun _ _ _ _=>rfl) (fun p s A _ h1 h2=>⟨s,h1,h2⟩) (fun p _ re t x pe h=>⟨⟨re,t,x,pe,h⟩,rfl⟩)) l us (fun k hk=>by cases hk) hl
     exact key caps vs hcaps
   ·rw[sM,gX]
    exact hI
  |_=>cases hc
end
end
section
section
variable {P:Program} {τ:dM} {E:Env} {c:Ctx} {KS:Nat→Prop} {e:av} {F:Fs} {ρ ρ':af} {w w':World}
theorem JQ(hC:cy τ c)(h:Inv c KS e F ρ w){xs:List RV}{vs:List Value}(hx:bF w KS ρ e xs vs){N:Nat}(hN:32768≤N){ts:List Ty}(hsol:∀t∈ts,t.gh=true){is:List Nat}(hl:is.length=xs.length)
  {ds:List eh} {rs:af} {kl:List aH} (hr:(ew ρ ts (is.zip xs) 0 [] []).run=some (ds,rs,kl)):
  ∃KS' e',∃Hs:List HG,(∀b,KS b→KS' b)∧bU N c F ρ w KS' e' rs kl Hs.reverse∧ds=Hs.map HG.d∧vc (is.zip vs) 0 (ts.map bY) (Hs.map fun x=>cl x.t x.g):=by
 have hlen:=jS hx
 have T0:=bU.start (N:=N) (h.ops hx)
 obtain⟨KS',e',Hs,k1,k2,k3,k4⟩:=wz hC hN hlen ts hsol is 0 0 (by omega) T0 (by simpa using hr)
 exact⟨KS',e',Hs,k1,by simpa using k2.pop,k3,by simpa using k4⟩
theorem vc.len:∀(bs cs:List (List Value)) (i:Nat) (ps:List (Nat×Value)),vc ps i bs cs→bs.length=cs.length
 |[],[],_,_,_=>rfl
 |b::bs,c::cs,i,ps,h=>by
  rcases h with⟨v,ps',_,_,h⟩|⟨_,h⟩
  ·simp[vc.len bs cs _ _ h]
  ·simp[vc.len bs cs _ _ h]
 |[],_::_,_,_,h=>h.elim
 |_::_,[],_,_,h=>h.elim
theorem K4{t:Ty}(h:t.agg=true):t.dA=false:=by cases t<;>first|rfl|cases h
theorem OB(hE:bZ P E)(hC:cy τ c)(h:Inv c KS e F ρ w){call:cr}{bound d tid:Nat}{ef:jM}(hd32:32768≤d)(hd:ef.new=true→ah ρ d=none){ps:Array (Nat×Operand)}{xs:List RV}{vs:List Value}(hx:bF w KS ρ e xs vs)(hl:ps.size=xs.length)
  (hc:(comp E call bound d (.build tid ps) xs ρ).run=some ef) {pv:Array (Nat×Value)} (hpv:pv.toList=(ps.toList.map (·.1)).zip vs):cM P (do pure (.value (←Instr.build tid pv))) w (aR c KS F ρ ef):=by
 simp only[comp]at hc
 split at hc
 rotate_left
 ·cases hc
 rename_i ty ht
 rw[Ii]at hc
 have hT:=hE.ty _ _ ht
 have hsol:=hE.PY _ _ ht
 replace hc:=Cm.ae hc;obtain⟨⟨ds,rs,kl⟩,hparts,hc⟩:=hc
 replace hc:=Cm.aG hc;obtain⟨hsame,hc⟩:=hc
 -- a struct
 have hnf:0<E.nf tid:=by
  rcases Nat.eq_zero_or_pos (E.nf tid)with h0|h0
  ·exfalso
   rw[h0]at hparts
   have e0:fieldsOf ty 0=[]:=by cases ty<;>rfl
   rw[e0]at hparts
   unfold ew at hparts
   split at hparts
   ·injection hparts with hparts;cases hparts
    cases hT<;>cases hsame
   ·cases hparts
  ·exact h0
 obtain⟨fs,hst,hnfs⟩:=hE.nf tid hnf
 obtain⟨ts,G⟩:=G1 fs.toList 0 ty (nO hT hst)
 have hts:fieldsOf ty (E.nf tid)=ts:=by rw[hnfs,←Array.length_toList];exact G.eq
 rw[hts]at hparts
 obtain⟨KS',e',Hs,k1,T,rfl,hP⟩:=JQ hC h hx (N:=d+1) (by omega) (G.PY hsol) (by simpa using hl) hparts
 have hlenH:Hs.length=ts.length:=by have:=vc.len _ _ _ _ hP;simpa using this.symm
 rw[Pf]at hsame hc
 have hsz:=G.same Hs hsame hlenH
 have hoks:∀x∈Hs,bM w KS' x.t x.g:=fun x hx=>(T.each x (by simpa using hx)).1
 have hcs:(oe Hs).2=(oe Hs).2:=rfl
 have hcl:=MU Hs
 have hlens:(ts.map bY).map List.length=(Hs.map fun x=>cl x.t x.g).map List.length:=by
  rw[List.map_map,List.map_map]
  have e1:ts.map (List.length ∘ bY)=ts.map Ty.sz:=List.map_congr_left fun u hu=>eA (G.PY hsol u hu)
  have e2:Hs.map (List.length ∘ fun x=>cl x.t x.g)=Hs.map (·.t.sz):=List.map_congr_left fun x hx=>bc _ _ (hoks x hx)
  rw[e1,e2,hsz]
 obtain⟨dd,hf⟩:=hT.fact
 obtain⟨i,z,q1,q2,q3,q4⟩:=hf.info
 obtain⟨places,p1,p2⟩:=G.pl hsol
 have hbuilt:P.built tid pv.toList=some (cl _ (oe Hs).2).toArray:=by
  unfold Program.built
  rw[q1,hst]
  simp only[q3,p1]
  have hz:z.cells=([]++(ts.map bY).flatten).toArray:=by rw[q4,mj hsol,G.Tk];rfl
  rw[hz,hpv,hcl]
  have:=Ah (fun i=>places.toArray[i]?) (ts.map bY) (Hs.map fun x=>cl x.t x.g) 0 [] _ hP hlens (fun m b hm=>by
   simp only[List.getElem?_map,Option.map_eq_some_iff]at hm
   obtain⟨u,hu,rfl⟩:=hm
   have:=p2 m u hu
   simp only[Nat.zero_add,List.length_nil,List.getElem?_toArray,this,List.map_take])
  rw[this,List.flatMap_def]
  rfl
 refine aJ (run_build w tid pv _ hbuilt) ?_
 have hagg:(oe Hs).1.agg=true:=by rw[KL hsame];exact yA hT hst
 have hok:=Mu Hs hoks
 have hnd:(fp _ (oe Hs).2).Nodup:=by
  rw[IJ]
  exact bg ((List.reverse_perm Hs).flatMap_right _) T.nodup
 unfold Q9 at hc
 split at hc
 ·rename_i hsh
  injection hc with hc;subst hc
  have hv:bf w KS' (rs++ag kl ρ) e' (.v (oe Hs).1 (er _ (oe Hs).2)) (.agg (cl _ (oe Hs).2).toArray):=
   ⟨hsh,cl _ (oe Hs).2,gf (fun _ h=>h) _ _ (by simp[iQ _ hsh]) hok,(sF hagg _).symm⟩
  exact T.plain h k1 hv
 ·injection hc with hc;subst hc
  replace hd:=hd rfl
  refine T.Qk hC h k1 hd32 (by omega) hd (fun b _ _=>bH.refl w b) (dH.refl _) (X:=fun _=>False) (fun b hb=>hb.elim) (re:=false) (g:=(oe Hs).2) (ad:=none)
   (oH (fun b hb=> .inl hb) _ _ hok) (fun h=>by cases h) (fun _=>rfl) (by simpa using hnd) (fun b hb=>⟨fun h=>h,.inr ?_⟩) rfl ?_
  ·simp only[Option.map_none,Option.toList_none,List.nil_append,IJ]at hb
   exact na hb
  ·exact⟨⟨_,_,_,_,ay⟩,_,Cd,K4 hagg,(sF hagg _).symm⟩
theorem KR(tj:Ty):∀(Hs:List HG) (l:List tj.D),(Bx tj (Hs.map HG.d)).run=some l→∃(rows:List tj.G) (drs:List Nat),
  (Hs.flatMap fun x=>fp x.t x.g).Perm (rows.flatMap (fp tj)++drs)∧rows.length=Hs.length∧rows.flatMap (cl tj)=(Hs.flatMap fun x=>cl x.t x.g)∧rows.map (er tj)=l∧
  ∀(w:World) (KS KS':Nat→Prop),(∀b,KS b→KS' b)→(∀b∈drs,KS' b)→(∀x∈Hs,bM w KS x.t x.g)→∀r∈rows,bM w KS' tj r
 |[],l,h=>by
  injection h with h;subst h
  exact⟨[],[],by simp,rfl,rfl,rfl,by simp⟩
 |x::Hs,l,h=>by
  simp only[List.map_cons,Bx]at h
  replace h:=Cm.run_get h;obtain⟨y,hy,h⟩:=h
  replace h:=Cm.ae h;obtain⟨l',hl',h⟩:=h
  injection h with h;subst h
  obtain⟨hs,rfl⟩:=dn hy
  obtain⟨g',dr,C⟩:=qu hs x.g
  obtain⟨rows,drs,k1,k2,k3,k4,k5⟩:=KR tj Hs l' hl'
  refine⟨g'::rows,dr++drs, ?_,by simp[k2],by simp[C.cl,k3];rfl,by simp only[List.map_cons,k4,C.er];rfl, ?_⟩
  ·simp only[List.flatMap_cons];exact ld C.perm k1
  ·intro w KS KS' hKS hd ho r hr
   rcases List.mem_cons.1 hr with rfl|hr
   ·exact C.ok w KS KS' hKS (fun b hb=>hd b (by simp[hb])) (ho x (by simp))
   ·exact k5 w KS KS' hKS (fun b hb=>hd b (by simp[hb])) (fun z hz=>ho z (by simp[hz])) r hr
theorem LM:∀{a b:Ty},a.same b=true→bY a=bY b:=by
 intro a
 induction a with
 |pair x y ihx ihy=>intro b h;cases b<;>first|(cases h;done)|(simp only[Ty.same,Bool.and_eq_true]at h;simp only[bY,ihx h.1,ihy h.2])
 |arr n t ih=>intro b h;cases b<;>first|(cases h;done)|(simp only[Ty.same,Bool.and_eq_true]at h;obtain rfl:=Nat.eq_of_beq_eq_true h.1;simp only[bY,ih h.2])
 |int k=>intro b h;cases b<;>first|(cases h;done)|(rename_i k';obtain rfl:=gi (a:=k) (b:=k') h;rfl)
 |_=>intro b h;cases b<;>first|(cases h;done)|rfl
theorem Dq{tid el:TypeId}(hu:P.underlying tid=some (.slice el)){te:Ty}(ht:j8 P el te){pv:Array (Nat×Value)}(hp:pv.toList=[]):
  (Instr.buildSlice tid 0 pv).run P w= .ok (.slice (some ⟨w.heap.size,0,none⟩) 0 0) (w.alloc (.cells #[] el)):=by
 simp[Instr.buildSlice,run_underlying hu,run_sizeOf w ht,hp,Instr.fill,newRow,Array.range_zero']
theorem Gi(hE:bZ P E)(hC:cy τ c)(h:Inv c KS e F ρ w){call:cr}{bound d tid n:Nat}{ef:jM}(hd32:32768≤d)(hd:ef.new=true→ah ρ d=none){ps:Array (Nat×Operand)}{xs:List RV}{vs:List Value}(hx:bF w KS ρ e xs vs)(hl:ps.size=xs.length)
  (hc:(comp E call bound d (.buildSlice tid n ps) xs ρ).run=some ef) {pv:Array (Nat×Value)} (hpv:pv.toList=(ps.toList.map (·.1)).zip vs):cM P (do pure (.value (←Instr.buildSlice tid n pv))) w (aR c KS F ρ ef):=by
 simp only[comp]at hc
 split at hc
 rotate_left
 ·cases hc
 rename_i o te ht
 rw[Ii]at hc
 have hT:=hE.ty _ _ ht
 have hsol:te.gh=true:=by have:=hE.PY _ _ ht;exact this
 obtain⟨el,te',hund,hte,hs'⟩:=dO hT (o:=o) (te:=te) (Ty.dh _)
 replace hc:=Cm.ae hc;obtain⟨⟨ds,rs,kl⟩,hparts,hc⟩:=hc
 simp only at hc
 generalize My te ds=tj at hc
 replace hc:=Cm.aG hc;obtain⟨hchk,hc⟩:=hc
 replace hc:=Cm.ae hc;obtain⟨l,hel,hc⟩:=hc
 injection hc with hc;subst hc
 replace hd:=hd rfl
 simp only[Bool.and_eq_true,Nat.ble_eq]at hchk
 obtain⟨hsame,hsmall⟩:=hchk
 obtain⟨KS',e',Hs,k1,T,rfl,hP⟩:=JQ hC h hx (N:=d+1) (by omega) (fun t ht=>by rw[List.eq_of_mem_replicate ht];exact hsol) (by simpa using hl) hparts
 have hlenH:Hs.length=n:=by have:=vc.len _ _ _ _ hP;simpa using this.symm
 obtain⟨rows,drs,r1,r2,r3,r4,r5⟩:=KR tj Hs l hel
 have hoks:∀x∈Hs,bM w KS' x.t x.g:=fun x hx=>(T.each x (by simpa using hx)).1
 have hbl:∀b∈(Hs.flatMap fun x=>fp x.t x.g),b<w.heap.size:=fun b hb=>by
  obtain⟨x,hx,hb⟩:=List.mem_flatMap.1 hb
  exact((T.each x (by simpa using hx)).2 b hb).1
 have hnd:(rows.flatMap (fp tj)++drs).Nodup:=bg (((List.reverse_perm Hs).flatMap_right _).trans r1) T.nodup
 have hnd':=List.nodup_append.1 hnd
 -- the elements' types
 have hszs:∀x∈Hs,x.t.sz=te.sz:=by
  have key:∀(Hs:List HG) (l:List tj.D),(Bx tj (Hs.map HG.d)).run=some l→∀x∈Hs,x.t.sz=tj.sz:=by
   intro Hs
   induction Hs with
   |nil=>intro l _ x hx;cases hx
   |cons y Hs ih=>
    intro l h x hx
    simp only[List.map_cons,Bx]at h
    replace h:=Cm.run_get h;obtain⟨z,hz,h⟩:=h
    replace h:=Cm.ae h;obtain⟨l',hl',h⟩:=h
    obtain⟨hs,_⟩:=dn hz
    rcases List.mem_cons.1 hx with rfl|hx
    ·exact Ty.bm (Ty.aP hs)
    ·exact ih l' hl' x hx
  intro x hx
  rw[key Hs l hel x hx,Ty.bm hsame]
 obtain⟨dd,hf⟩:=hte.fact
 obtain⟨i,z,q1,q2,q3,q4⟩:=hf.info
 have hszte:te'.sz=te.sz:=(Ty.bm hs').symm
 have hzs:te'.sz≠0:=Nat.pos_iff_ne_zero.1 hf.pos
 have hcells:rows.flatMap (cl tj)=(Hs.map fun x=>cl x.t x.g).flatten:=by rw[r3,List.flatMap_def]
 have hrun:(Instr.buildSlice tid n pv).run P w= .ok (.slice (some ⟨w.heap.size,0,none⟩) n n) (w.alloc (.cells (rows.flatMap (cl tj)).toArray el)):=by
  by_cases hn0:n=0
  ·have hH0:Hs=[]:=List.eq_nil_of_length_eq_zero (by omega)
   rw[hcells,hH0]
   subst hn0
   rw[hH0]at hP
   have hpv0:(ps.toList.map (·.1)).zip vs=[]:=hP
   exact Dq hund hte (by rw[hpv,hpv0])
  ·refine run_buildSlice w tid el n pv _ i z hund q1 q3 (by rw[q2,hszte];omega) (by rw[q2];exact Nat.mul_ne_zero hn0 hzs) ?_
   have hz:z.cells=(bY te).toArray:=by rw[q4,←cv hs',←LM hs',mj hsol]
   have hsz:i.size=(bY te).length:=by rw[q2,hszte,eA hsol]
   have harr:(Array.range (n*i.size)).map (z.cells[· % z.cells.size]!)=([]++((List.replicate n te).map bY).flatten).toArray:=by
    rw[hz,hsz]
    apply Array.toList_inj.1
    have:=FE (z:=bY te) (n:=n) (by rw[eA hsol,←hszte];exact hzs)
    rw[madeCells]at this
    rw[this,List.map_replicate];rfl
   rw[harr,hpv,hcells]
   refine Ah (fun j=>some (j*i.size,i.size)) _ _ 0 [] _ hP ?_ ?_
   ·rw[List.map_map,List.map_map]
    have e2:Hs.map (List.length ∘ fun x=>cl x.t x.g)=List.replicate Hs.length te.sz:=by
     rw[←List.map_const]
     exact List.map_congr_left fun x hx=>by rw[Function.comp,bc _ _ (hoks x hx),hszs x hx];rfl
    rw[e2,List.map_replicate,hlenH,Function.comp,eA hsol]
   ·intro m b hm
    simp only[List.map_replicate]at hm ⊢
    have hlt:m<n:=by
     have:=(List.getElem?_eq_some_iff.1 hm).1
     simpa using this
    rw[List.getElem?_replicate,if_pos hlt]at hm
    injection hm with hm;subst hm
    simp[List.take_replicate,Nat.min_eq_left (Nat.le_of_lt hlt),hsz]
 refine aJ hrun ?_
 have hok:bM (w.alloc (.cells (rows.flatMap (cl tj)).toArray el)) (fun b=>KS' b∨b∈drs) (.list true tj) (⟨some ⟨w.heap.size,0,none⟩,n,rows⟩:ck tj.G):=by
  by_cases hn0:n=0
  ·exact .inl ⟨hn0,List.eq_nil_of_length_eq_zero (by show rows.length=0;omega)⟩
  ·refine .inr ⟨w.heap.size,[],rfl,by show 0<n;omega,by show rows.length≤n;omega, ?_, ?_, ?_⟩
   ·rw[List.append_nil];exact o8 w el _
   ·rw[List.append_nil]
    show(rows.flatMap (cl tj)).length=n*tj.sz
    rw[r3]
    have:∀L:List HG,(∀x∈L,bM w KS' x.t x.g∧x.t.sz=te.sz)→(L.flatMap fun x=>cl x.t x.g).length=L.length*te.sz:=by
     intro L
     induction L with
     |nil=>intro _;simp
     |cons y L ih=>
      intro hL
      simp only[List.flatMap_cons,List.length_append,List.length_cons,Nat.add_mul,Nat.one_mul]
      rw[ih (fun x hx=>hL x (by simp[hx])),bc _ _ (hL y (by simp)).1,(hL y (by simp)).2]
      omega
    rw[this Hs (fun x hx=>⟨hoks x hx,hszs x hx⟩),hlenH,Ty.bm hsame]
   ·intro r hr
    have h0:=r5 w KS' (fun b=>KS' b∨b∈drs) (fun b hb=> .inl hb) (fun b hb=> .inr hb) hoks r hr
    refine dp (fun b hb=>(cQ w _ ?_).2.2) _ _ (fun b hb=>cQ w _ (hbl b (r1.mem_iff.2 (List.mem_append.2 (.inl (List.mem_flatMap.2 ⟨r,hr,hb⟩)))))) h0
    rcases hb with hb|hb
    ·exact T.inv.lt b hb
    ·exact hbl b (r1.mem_iff.2 (List.mem_append.2 (.inr hb)))
 have hfp:∀b∈fp (.list true tj) (⟨some ⟨w.heap.size,0,none⟩,n,rows⟩:ck tj.G),b=w.heap.size∨b∈rows.flatMap (fp tj):=fun b hb=>by
  simp only[fp]at hb
  split at hb
  ·cases hb
  ·exact(List.mem_cons.1 hb).imp id id
 have:=T.Qk (re:=false) (t:= .list true tj) (w':=w.alloc (.cells (rows.flatMap (cl tj)).toArray el)) (X:=fun b=>b∈drs) (g:=(⟨some ⟨w.heap.size,0,none⟩,n,rows⟩:ck tj.G)) (ad:=none) (x:=l) (rv:= .wl ⟨d,[]⟩) (v:= .slice (some ⟨w.heap.size,0,none⟩) n n)
  hC h k1 hd32 (by omega) hd (fun b hb _=>cQ w _ hb) (jA _ _) (fun b hb=>by
   have:b∈(Hs.flatMap fun x=>fp x.t x.g):=r1.mem_iff.2 (List.mem_append.2 (.inr hb))
   exact na this) hok (fun h=>by cases h) (fun _=>rfl) (by
   simp only[Option.map_none,Option.toList_none,List.nil_append,fp]
   split
   ·simp
   ·refine List.nodup_cons.2 ⟨fun hm=> ?_,hnd'.1⟩
    have:=hbl _ (r1.mem_iff.2 (List.mem_append.2 (.inl hm)));omega) (fun b hb=>by
   simp only[Option.map_none,Option.toList_none,List.nil_append]at hb
   rcases hfp b hb with rfl|hb
   ·refine⟨fun hx=> ?_,.inl (by rw[fP];omega)⟩
    have:=hbl _ (r1.mem_iff.2 (List.mem_append.2 (.inr hx)));omega
   ·exact⟨fun hx=>hnd'.2.2 b hb b hx rfl,.inr (na (r1.mem_iff.2 (List.mem_append.2 (.inl hb))))⟩) r4 (by
   have h1:=Ib (w:=w.alloc (.cells (rows.flatMap (cl tj)).toArray el)) (KS:=fun b=>KS' b∨b∈drs) (ρ:=rs++ag kl ρ) (e:=e') (d:=d) (re:=false) (t:=tj) (x:=l) (pd:=none) (g:=(⟨some ⟨w.heap.size,0,none⟩,n,rows⟩:ck tj.G)) (ad:=none)
   have hrl:rows.length=n:=by omega
   simp only[hrl]at h1
   exact h1)
 exact this
end
end
section
theorem NJ(w:World)(o:Obj){b:Nat}(h:b<w.heap.size):bH w (w.drew.alloc o) b:=by
 have:=HE w.drew o b h
 have h2:w.drew.heap[b]? =w.heap[b]? :=rfl
 rw[h2]at this
 exact bH.of this
theorem EO(w:World)(o:Obj):dH w (w.drew.alloc o):=⟨by have:=fP w.drew o;have h2:w.drew.heap.size=w.heap.size:=rfl;omega,rfl,rfl⟩
section
variable {P:Program} {E:Env} {c:Ctx} {KS:Nat→Prop} {e:av} {F:Fs} {ρ ρ':af} {w w':World}
inductive Lb (w:World) (sz:Nat) (ad:Option Addr) (cap n0 m:Nat) (Bb news:List Value) (v':Value) (w':World):Prop
 |none:cap=0→n0=0→m=0→v'= .slice ad 0 0→w'=w→Lb w sz ad cap n0 m Bb news v' w'
 |room (b:Nat) (rest:List Value):ad=some ⟨b,0,none⟩→0<cap→n0+m≤cap→v'= .slice ad (n0+m) cap→(∀x,x≠b→bH w w' x)→(w'.heap.size=w.heap.size∧dH w w')→
   Block w' b (Bb++news++rest)→(Bb++news++rest).length=cap*sz→Lb w sz ad cap n0 m Bb news v' w'
 |grow (rest:List Value) (cap':Nat):v'= .slice (some ⟨w.heap.size,0,Option.none⟩) (n0+m) cap'→0<cap'→n0+m≤cap'→(∀x,x<w.heap.size→bH w w' x)→(w'.heap.size=w.heap.size+1∧dH w w')→
   Block w' w.heap.size (Bb++news++rest)→(Bb++news++rest).length=cap'*sz→Lb w sz ad cap n0 m Bb news v' w'
theorem BL(t tx ty el:TypeId)(ht:P.underlying t=some (.slice el)){te:Ty}(hte:j8 P el te)(ad:Option Addr)(x:Value)(hs:Src P te.sz tx x 0 [] w):
  (Builtin.append_ #[t,tx] ty #[.slice ad 0 0,x]).run P w= .ok (.slice ad 0 0) w:=by
 have hz:=run_sizeOf w hte
 cases ad with
 |none=>rcases hs.kind with⟨e',hk⟩|hk<;>simp[Builtin.append_,run_underlying ht,run_underlying hk,hz,hs.len,hs.cells]
 |some a=>rcases hs.kind with⟨e',hk⟩|hk<;>simp[Builtin.append_,run_underlying ht,run_underlying hk,hz,hs.len,hs.cells,storeCells]
theorem FD{KS:Nat→Prop}{t tx ty el:TypeId}(ht:P.underlying t=some (.slice el)){te tt:Ty}(hte:j8 P el te)(hsol:te.gh=true)(hts:tt.sz=te.sz){by_:Nat}(hby:∃i,P.info? el=some i∧i.bytes=by_)(hby1:1≤by_)
  {g:ck tt.G} (hok:bM w KS (.list true tt) g) {x:Value} {m:Nat} {news:List Value} (hs:Src P te.sz tx x m news w) (hb:(g.rows.length+m)*by_≤au):
  ∃v' w',(Builtin.append_ #[t,tx] ty #[.slice g.ad g.rows.length g.cap,x]).run P w= .ok v' w'∧Lb w te.sz g.ad g.cap g.rows.length m (g.rows.flatMap (cl tt)) news v' w':=by
 obtain⟨dd,hf⟩:=hte.fact
 obtain⟨i,z,q1,q2,q3,q4⟩:=hf.info
 obtain⟨i',hi',hbytes⟩:=hby
 rw[q1]at hi';cases hi'
 have hcap:(g.rows.length+m)≤au:=by
  have:(g.rows.length+m)*1≤(g.rows.length+m)*by_:=Nat.mul_le_mul_left _ hby1
  omega
 have hcb:au=140737488355328:=rfl
 have hsz0:0<te.sz:=hf.pos
 have hzc:z.cells.size=te.sz:=by rw[q4,mj hsol];simp[eA hsol]
 have rowlen:(∀r∈g.rows,bM w KS tt r)→(g.rows.flatMap (cl tt)).length=g.rows.length*te.sz:=fun h=>by rw[we tt g.rows h,hts]
 -- there is no room
 have growk:∀(base:Option Addr),g.ad=base→g.cap<g.rows.length+m→(∀r∈g.rows,bM w KS tt r)→
   (Builtin.firstCells i.size g.rows.length (.slice base g.rows.length g.cap)).run P w.drew= .ok (g.rows.flatMap (cl tt)).toArray w.drew→
   ∃v' w',(Builtin.append_ #[t,tx] ty #[.slice g.ad g.rows.length g.cap,x]).run P w= .ok v' w'∧Lb w te.sz g.ad g.cap g.rows.length m (g.rows.flatMap (cl tt)) news v' w':=fun base he hlt hrows hold=>by
  have hfit:=growslice_fits (need:=g.rows.length+m) (old:=g.cap) (bytes:=i.bytes) hlt (by rw[hbytes];omega)
  have hr:=run_append_grow_src (P:=P) w t tx ty el i z ht q1 q3 base g.rows.length g.cap _ hold x m news (by rw[q2];exact hs) hlt (by omega) hfit
  rw[he]
  refine⟨_,_,hr, ?_⟩
  have hge:g.rows.length+m≤grownCap w (g.rows.length+m) g.cap el:=grownCap_ge _ _ _ _
  have harr:(g.rows.flatMap (cl tt)++news).toArray++Builtin.zeroCells z.cells (grownCap w (g.rows.length+m) g.cap el-(g.rows.length+m))=
    (g.rows.flatMap (cl tt)++news++(Builtin.zeroCells z.cells (grownCap w (g.rows.length+m) g.cap el-(g.rows.length+m))).toList).toArray:=by
   apply Array.toList_inj.1;simp
  rw[harr]
  refine .grow _ _ rfl (by omega) hge (fun b hb=>NJ w _ hb) ⟨by rw[fP];rfl,EO _ _⟩ (o8 w.drew el _) ?_
  have hz2:(Builtin.zeroCells z.cells (grownCap w (g.rows.length+m) g.cap el-(g.rows.length+m))).size=(grownCap w (g.rows.length+m) g.cap el-(g.rows.length+m))*te.sz:=by simp[Builtin.zeroCells,hzc]
  have hz3:=(Array.length_toList (xs:=Builtin.zeroCells z.cells (grownCap w (g.rows.length+m) g.cap el-(g.rows.length+m)))).trans hz2
  rw[List.length_append,List.length_append,hz3,rowlen hrows,hs.newsLen,←Nat.add_mul,←Nat.add_mul]
  congr 1;omega
 rcases hok with⟨h1,h2⟩|⟨b,rest,h1,h2,h3,h4,h5,h6⟩
 ·by_cases hm:m=0
  ·subst hm
   have hn:news=[]:=List.eq_nil_of_length_eq_zero (by simpa using hs.newsLen)
   subst hn
   refine⟨_,_, ?_,.none h1 (by rw[h2];rfl) rfl rfl rfl⟩
   have h2':g.rows.length=0:=by rw[h2];rfl
   rw[h1,h2']
   exact BL t tx ty el ht hte _ x hs
  ·refine growk _ rfl (by rw[h1];omega) (fun r hr=>by rw[h2]at hr;cases hr) ?_
   have h2':g.rows.length=0:=by rw[h2];rfl
   rw[h2']
   have h2'':g.rows=[]:=h2
   rw[h2'']
   cases g.ad with
   |none=>rfl
   |some a=>simp[Builtin.firstCells,loadCells,loadCellsFrom]
 ·have hlen:=rowlen h6
  by_cases hroom:g.rows.length+m≤g.cap
  ·have hcells:∀j,j<news.length→(w.cell? ⟨b,0+g.rows.length*i.size+j,none⟩).isSome=true:=fun j hj=>by
    have hlt:g.rows.length*te.sz+j<(g.rows.flatMap (cl tt)++rest).length:=by
     rw[h5,hts]
     have:(g.rows.length+m)*te.sz≤g.cap*te.sz:=Nat.mul_le_mul_right _ hroom
     rw[Nat.add_mul]at this
     have:=hs.newsLen
     omega
    have:=h4.cell (List.getElem?_eq_getElem hlt)
    rw[q2,Nat.zero_add,this];rfl
   have hfro:∀j,j<news.length→w.frozen? ⟨b,0+g.rows.length*i.size+j,none⟩=false:=fun j hj=>by
    rw[q2,Nat.zero_add]
    refine h4.2.2 _ ?_
    rw[h5,hts]
    have:(g.rows.length+m)*te.sz≤g.cap*te.sz:=Nat.mul_le_mul_right _ hroom
    rw[Nat.add_mul]at this
    have:=hs.newsLen
    omega
   have hr:=run_append_room_src (P:=P) w t tx ty el i ht q1 b 0 g.rows.length g.cap x m news (by rw[q2];exact hs) hroom hcells hfro
   rw[h1]
   refine⟨_,_,hr,.room b (rest.drop news.length) rfl h2 hroom rfl (fun y hy=>lP (Ne.symm hy)) ⟨xu _ _ _ _,iW _ _ _ _⟩ ?_ ?_⟩
   ·have hle:news.length≤rest.length:=by
     have e1:=h5
     rw[List.length_append,hlen,hts]at e1
     have:(g.rows.length+m)*te.sz≤g.cap*te.sz:=Nat.mul_le_mul_right _ hroom
     rw[Nat.add_mul]at this
     have:=hs.newsLen
     omega
    have hsplit:g.rows.flatMap (cl tt)++rest=g.rows.flatMap (cl tt)++rest.take news.length++rest.drop news.length:=by rw[List.append_assoc,List.take_append_drop]
    rw[hsplit]at h4
    have hrow:=h4.row
    have hin:=kq (cs:=news) hrow (by simp;omega)
    rw[q2,Nat.zero_add,←hlen]
    have htl:(rest.take news.length).length=news.length:=by simp;omega
    exact KT h4 (by rw[htl];exact hin) htl.symm
   ·have:=h5
    simp only[List.length_append,List.length_drop]at this ⊢
    rw[hts]at this
    have hle:news.length≤rest.length:=by
     have e1:=h5
     rw[List.length_append,hlen,hts]at e1
     have:(g.rows.length+m)*te.sz≤g.cap*te.sz:=Nat.mul_le_mul_right _ hroom
     rw[Nat.add_mul]at this
     have:=hs.newsLen
     omega
    omega
  ·refine growk _ rfl (by omega) h6 ?_
   rw[h1]
   refine run_firstCells_some w.drew i.size g.rows.length ⟨b,0,none⟩ _ _ _ (by rw[hlen,q2]) fun j v hj=> ?_
   have:=h4.Jz j v hj
   rw[fS rfl]
   exact this
end
end
section
section
variable {P:Program} {τ:dM} {E:Env} {c:Ctx} {KS:Nat→Prop} {e:av} {F:Fs} {ρ ρ':af} {w w':World}
theorem Inv.O5{ks:List aH}(h:Inv c KS e F ρ w)(nh:cn ks F ρ){r hd:Nat}(hne:hd≠r)(hall: .all r∈ks){re:Bool}{t:Ty}{x:t.D}{pd:Option (Path×(te:Ty)×List te.D)}(hr:ah ρ r=some (.data re t x pd))
  {ad:Option Addr} {g:t.G} (hg:e.gr r=some ⟨ad,t,g⟩) (hh:ah ρ hd=none) (hp:c.cD hd=none) (hph:c.eo hd=none)
  (hρr:ah ρ' r=none) (hρh:ah ρ' hd=some (.data false t (er t g) none)) (hρ:∀n,n≠r→n≠hd→ah ρ' n=ah ρ n):Inv c KS (e.set hd ⟨none,t,g⟩) F ρ' w:=by
 obtain⟨ad0,g0,q1,q2,q3,q4,q5,q6⟩:=h.root hr
 rw[hg]at q1;cases q1
 have nd:=h.nd r
 rw[q6]at nd
 rw[List.nodup_append,List.nodup_append]at nd
 have hbr:bj ρ' (e.set hd ⟨none,t,g⟩) r=[]:=by simp[bj,hρr]
 have hbh:bj ρ' (e.set hd ⟨none,t,g⟩) hd=fp t g:=by simp[bj,hρh,av.set]
 have bh:∀b∈fp t g,b∈bj ρ e r:=fun b hb=>by rw[q6];simp[hb]
 have hpr:∀A,c.cD r=some A→∀b∈fp t g,A.block≠b:=fun A hA b hb e0=>by
  obtain⟨_,h2⟩:=h.cD r A hA
  obtain⟨⟨g2,h3⟩,_⟩:=h2 _ _ _ _ hr
  rw[hg]at h3;cases h3
  exact nd.1.2.2 A.block (by simp) b hb e0
 refine h.step (S:=fun n=>n=r∨n=hd) nh
  {reads:=Reads.off (S:=fun n=>n=r∨n=hd) h nh (fun n hn=>hn.elim (fun e=> .inr (by subst e;exact hall)) (fun e=> .inl (by subst e;exact hh)))
    (fun n hn=>hρ n (fun e=>hn (.inl e)) (fun e=>hn (.inr e))) (fun n hn=>⟨by simp[av.set,show n≠hd from fun e=>hn (.inr e)],rfl,rfl⟩) (fun b hb=>hb) (fun _ _ _=>rfl)
   out:=fun n hn=>⟨hρ n (fun e=>hn (.inl e)) (fun e=>hn (.inr e)),by simp[av.set,show n≠hd from fun e=>hn (.inr e)],rfl,rfl,by simp[av.set,show n≠hd from fun e=>hn (.inr e)]⟩
   same:=fun n _ b hb=>bH.refl w b
   size:=dH.refl _
   roots:= ?_
   nd:= ?_
   dj:= ?_
   src:= ?_
   DP:=fun b hb=> .inl hb
   HX:= ?_
   cD:= ?_
   eo:= ?_
   GZ:=fun b hb=> .inl (bH.refl w b)}
 ·intro n hn
  rcases hn with rfl|rfl
  ·simp only[bC,hρr]
  ·simp only[bC,hρh]
   exact⟨none,g,by simp[av.set],rfl,q3,(fun h=>by cases h),(fun _=>rfl),by simp[av.set]⟩
 ·intro n hn
  rcases hn with rfl|rfl
  ·rw[hbr];simp
  ·rw[hbh];exact nd.1.2.1
 ·intro n m hn hm hnm b hb1 hb2
  rcases hn with rfl|rfl
  ·rw[hbr]at hb1;cases hb1
  ·rcases hm with rfl|rfl
   ·rw[hbr]at hb2;cases hb2
   ·exact hnm rfl
 ·intro n hn b hb
  rcases hn with rfl|rfl
  ·rw[hbr]at hb;cases hb
  ·rw[hbh]at hb
   exact .inr ⟨r,.inl rfl,bh b hb,.inr fun A hA=>hpr A hA b hb⟩
 ·intro n hn b hb hkb
  rcases hn with rfl|rfl
  ·rw[hbr]at hb;cases hb
  ·rw[hbh]at hb;exact h.ks r b (bh b hb) hkb
 ·intro n hn A hA
  rcases hn with rfl|rfl
  ·refine⟨fun q hq=>(by rw[hρr]at hq;cases hq),fun re t x pd hd'=>by rw[hρr]at hd';cases hd'⟩
  ·rw[hp]at hA;cases hA
 ·intro n hn hh hq re' t'' x'' pd'' hd'
  rcases hn with rfl|rfl
  ·rw[hρr]at hd';cases hd'
  ·rw[hph]at hq;cases hq
structure Pq (P:Program) (N:Nat) (c:Ctx) (F:Fs) (ρ:af) (w:World) (KS0:Nat→Prop) (s:Gf) (t2:TypeId) (v:Value) (KS:Nat→Prop) (e:av) (H:List HG) (mr:List s.t.G):Prop where
 ks:∀b,KS0 b→KS b
 tk:bU N c F ρ w KS e s.rs s.kl H
 er:mr.map (er s.t)=s.l
 ok:∀r∈mr,bM w KS s.t r
 src:Src P s.t.sz t2 v s.l.length (mr.flatMap (cl s.t)) w
 fp:∃ex,(H.flatMap fun x=>fp x.t x.g).Perm (ex++mr.flatMap (fp s.t))
theorem GH(s:ByteArray):(bytesOf s).flatMap (cl (.int .u8))=byteCells s:=by
 simp only[bytesOf,byteCells,cl,List.flatMap_map]
 induction s.data.toList with
 |nil=>rfl
 |cons x xs ih=>simp[ih]
theorem Lo{N:Nat}{KS0:Nat→Prop}{s:Gf}(h:Inv c KS e F ρ w)(hrs:s.rs=[])(hkl:s.kl=[])(hsh:s.t.shared=true){t2 el:TypeId}(hk:P.underlying t2=some (.slice el)){ad:Option Addr}{cap:Nat}
  (hl:s.l=[]∨∃a rows,ad=some a∧a.spot=none∧qj w a rows∧eM (cg w KS s.t) s.l rows):∃mr,Pq P N c F ρ w KS s t2 (.slice ad s.l.length cap) KS e [] mr:=by
 rcases hl with h0|⟨a,rows,rfl,h2,h3,h4⟩
 ·refine⟨[],fun _ h=>h,by rw[hrs,hkl];exact bU.start h,by simp[h0],by simp, ?_,[],by simp⟩
  rw[h0]
  cases ad with
  |none=>exact Src.ofNil w hk cap
  |some a=>exact Src.ofSlice w hk a 0 cap [] (by simp) (by simp) (by simp)
 ·obtain⟨gs,g1,g2,g3,g4⟩:=yZ (fun x cs hx=>qB s.t hsh x cs hx) s.l rows h4
  refine⟨gs,fun _ h=>h,by rw[hrs,hkl];exact bU.start h,g2,g1, ?_,[],by simp[g4]⟩
  rw[g3]
  refine Src.ofSlice w hk a _ cap rows (by rw[Er (fun x cs hx=>ej s.t x cs hx) _ _ h4]) (fun j u hj=> ?_) (fun u hu=> ?_)
  ·rw[fS h2];exact h3 j u hj
  ·rw[←g3]at hu
   obtain⟨r,hr,hu⟩:=List.mem_flatMap.1 hu
   exact oD _ _ (g1 r hr) u hu
theorem Q5{N:Nat}(hN:32768≤N)(hE:bZ P E)(hC:cy τ c)(h:Inv c KS e F ρ w){a x:RV}{v:Value}(hx:bf w KS ρ e x v){s:Gf}(hs:(BF ρ a x).run=some s){t2:TypeId}(h2:qa E ρ t2 x=true):
  ∃KS' e' H mr,Pq P N c F ρ w KS s t2 v KS' e' H mr∧(s.kl=[]∨fresh s.kl ρ a=true):=by
 have R6:∀{o:Bool} {t:Ty},wU E t2 (.list o t)=true→∃el,P.underlying t2=some (.slice el):=fun ht=>by
  obtain⟨u,hu,hsm⟩:=dJ hE ht
  obtain⟨el,_,h1,_⟩:=dO hu hsm
  exact⟨el,h1⟩
 have plc:∀{p:Place} {s0:dN} {o:Bool} {t:Ty},cm E ρ t2 p=true→aC e p=some s0→s0.t= .list o t→∃el,P.underlying t2=some (.slice el):=fun hp hsp he=>by
  obtain⟨u,hu,hsm⟩:=ea hE h hp hsp
  rw[he]at hsm
  obtain⟨el,_,h1,_⟩:=dO hu hsm
  exact⟨el,h1⟩
 have snapped:∀{te:Ty} {o:Bool},(snap ρ te x).run=some ⟨.list o s.t,s.l⟩→s.t.shared=true→s.rs=[]→s.kl=[]→(∃el,P.underlying t2=some (.slice el))→∃KS' e' H mr,Pq P N c F ρ w KS s t2 v KS' e' H mr∧(s.kl=[]∨fresh s.kl ρ a=true):=fun hsn hsh hrs hkl ⟨el,hk⟩=>by
  obtain⟨ad,cap,rfl,hl⟩:=HH h hx hsn hsh
  obtain⟨mr,hm⟩:=Lo (N:=N) (KS0:=KS) h hrs hkl hsh hk (ad:=ad) (cap:=cap) hl
  exact⟨_,_,_,mr,hm,.inl hkl⟩
 unfold BF at hs
 split at hs
 ·--a string's bytes
  rename_i b
  injection hs with hs;subst hs
  have:=mz hx;subst this
  obtain⟨u,hu,hsm⟩:=dJ hE h2
  have hk:=Ja hu hsm
  refine⟨KS,e,[],bytesOf b,⟨fun _ h=>h,bU.start h,by simp[er],fun _ _=>trivial, ?_,[], ?_⟩,.inl rfl⟩
  ·rw[GH]
   have:=Src.ofString (P:=P) w hk b
   have hl:(bytesOf b).length=b.size:=by simp[bytesOf]
   show Src P 1 t2 (.string b) (bytesOf b).length (byteCells b) w
   rw[hl];exact this
  ·have:(bytesOf b).flatMap (fp (.int .u8))=[]:=List.flatMap_eq_nil_iff.2 fun _ _=>rfl
   simp[this]
 ·rename_i o t l
  injection hs with hs;subst hs
  have hsh:=hx.1
  cases o with
  |true=>cases hsh
  |false=>
  exact snapped (te:= .unit) (o:=false) rfl (by simpa[Ty.shared]using hsh) rfl rfl (R6 h2)
 ·rename_i r
  replace hs:=Cm.ae hs;obtain⟨vv,hv,hs⟩:=hs
  split at hs
  ·rename_i o t l
   have hpl:cm E ρ t2 ⟨r,[]⟩=true:=h2
   have hx0:=hx
   obtain⟨hd,te,g,ad,hsp,rfl⟩:=hx
   obtain⟨s0,hs0,he0,_⟩:=jI h hv
   rw[dY hd,hsp]at hs0;cases hs0
   split at hs
   ·rename_i hsh
    injection hs with hs;subst hs
    exact snapped (te:= .unit) (o:=o) hv hsh rfl rfl (plc hpl hsp rfl)
   ·rename_i hsh
    replace hs:=Cm.aG hs;obtain⟨hfr,hs⟩:=hs
    injection hs with hs;subst hs
    obtain⟨el,hk⟩:=plc hpl hsp rfl
    obtain⟨re,tr,xr,pd,hb⟩:=hd
    obtain⟨adr,gr,q1,q2,q3,q4,q5,q6⟩:=h.root hb
    simp only[aC,q1,Option.bind_some,aD,Option.some.injEq,dN.mk.injEq]at hsp
    obtain⟨rfl,hgr,_⟩:=hsp
    cases hgr
    cases he0
    -- the root's content moves
    obtain⟨n1,m1,f1⟩:=jD ρ (max N (r+1))
    have hh:=f1 n1 (Nat.le_refl _)
    obtain⟨hp,hph⟩:=hC.none (n:=n1) (by omega)
    have hne:n1≠r:=by omega
    have hP:=h.gd [.all r]
    have hM:=hP.1.O5 (ρ':=(n1,some (.data false (.list true t) (er _ g) none))::(([(r,none)]:af)++ag [.all r] ρ)) hP.2 hne (by simp) (bJ hb) q1 (dL hh) hp hph
     (by rw[aw (Ne.symm hne)];simp[ah]) ay (fun n h1 h2=>by rw[aw h2];simp only[List.singleton_append];rw[aw h1])
    have q3':bM w KS (.list true t) g:=q3
    have hrows:∀r0∈g.rows,bM w KS t r0:=by
     rcases q3' with⟨_,k2⟩|⟨_,_,_,_,_,_,_,k6⟩
     ·rw[k2];simp
     ·exact k6
    refine⟨KS,_,[⟨n1,.list true t,g⟩],g.rows,⟨fun _ h=>h,⟨hM,by simp[av.set],by simp, ?_,by simp[hb]⟩,rfl,hrows, ?_, ?_⟩,.inr hfr⟩
    ·intro x hx
     simp only[List.mem_singleton]at hx
     subst hx
     exact⟨hh,by show N≤n1;omega⟩
    ·have hlen:(er (Ty.list true t) g).length=g.rows.length:=by simp[er]
     show Src P t.sz t2 _ (er (Ty.list true t) g).length _ w
     rw[hlen]
     rcases q3' with⟨k1,k2⟩|⟨b,rest,k1,k2,k3,k4,k5,k6⟩
     ·rw[k2]
      cases g.ad with
      |none=>exact Src.ofNil w hk _
      |some a0=>exact Src.ofSlice w hk a0 0 _ [] (by simp) (by simp) (by simp)
     ·rw[k1]
      refine Src.ofSlice w hk ⟨b,0,none⟩ _ _ _ (we t _ k6) (fun j u hj=> ?_) (fun u hu=> ?_)
      ·rw[fS rfl];exact k4.Jz j u hj
      ·obtain⟨r0,hr0,hu⟩:=List.mem_flatMap.1 hu
       exact oD _ _ (k6 r0 hr0) u hu
    ·simp only[List.flatMap_cons,List.flatMap_nil,List.append_nil]
     rcases q3' with⟨k1,k2⟩|⟨b,rest,k1,k2,k3,k4,k5,k6⟩
     ·exact⟨fp (.list true t) g,by rw[k2];simp⟩
     ·exact⟨[b],by simp only[fp,k1,show g.cap≠0 by omega,if_false];rfl⟩
  ·cases hs
 ·replace hs:=Cm.ae hs;obtain⟨vv,hv,hs⟩:=hs
  split at hs
  ·rename_i o t l
   split at hs
   ·rename_i hsh
    injection hs with hs;subst hs
    refine snapped (te:= .unit) (o:=o) hv hsh rfl rfl ?_
    cases x with
    |v u y=>
     injection hv with hv
     cases hv
     exact R6 h2
    |wl p=>
     obtain⟨hd,te,g,ad,hsp,_⟩:=hx
     exact plc h2 hsp rfl
    |vw p lo n=>
     obtain⟨hd,te,g,ad,hsp,_⟩:=hx
     exact plc h2 hsp rfl
    |rf p=>
     replace hv:=Cm.ae hv;obtain⟨dd,_,hv⟩:=hv
     injection hv with hv;cases hv
    |_=>first|(cases hv;done)|(cases h2;done)
   ·cases hs
  ·cases hs
end
end
section
section
variable {P:Program} {τ:dM} {E:Env} {c:Ctx} {KS:Nat→Prop} {e:av} {F:Fs} {ρ ρ':af} {w w':World}
theorem aR.congr{ef ef':jM}{v:Value}(h:aR c KS F ρ ef v w')(hv:ef'.rv=ef.rv)(hb:∀n,ah (ef'.rs++ag ef'.kill ρ) n=ah (ef.rs++ag ef.kill ρ) n)(hk:∀k∈ef.kill,k∈ef'.kill):aR c KS F ρ ef' v w':=by
 obtain⟨KS',e',h1,h2,h3⟩:=h
 refine⟨KS',e',h1, ?_,(h3.more (L:=aB ef'.kill ρ) fun k hk'=> ?_).congr hb⟩
 ·rw[hv]
  exact(Reads.refl hb []).ok _ _ (fun k hk=>by cases hk) h2
 ·simp only[aB,List.mem_append,List.mem_flatMap]at hk' ⊢
  rcases hk' with h|⟨x,hx,h⟩
  ·exact .inl (hk _ h)
  ·exact .inr ⟨x,hk x hx,h⟩
theorem Oc{sz:Nat}{ad:Option Addr}{cap n0 m:Nat}{Bb news:List Value}{v':Value}(h:Lb w sz ad cap n0 m Bb news v' w')(hcap:cap=0→n0=0):
  dH w w'∧(∀x,x<w.heap.size→(∀a,ad=some a→cap≠0→a.block≠x)→bH w w' x)∧
  ∃adN capN,v'= .slice adN (n0+m) capN∧((capN=0∧n0+m=0∧adN=ad)∨∃b rest,adN=some ⟨b,0,none⟩∧0<capN∧n0+m≤capN∧Block w' b (Bb++news++rest)∧(Bb++news++rest).length=capN*sz∧
   ((w.heap.size≤b∧b<w'.heap.size)∨(ad=some ⟨b,0,none⟩∧cap≠0))):=by
 cases h with
 |none h1 h2 h3 h4 h5=>
  subst h5
  refine⟨dH.refl _,fun x _ _=>bH.refl _ x,ad,0, ?_,.inl ⟨rfl,by omega,rfl⟩⟩
  rw[h4,h2,h3]
 |room b rest h1 h2 h3 h4 h5 h6 h7 h8=>
  refine⟨h6.2,fun x hx hne=>h5 x fun e=>hne ⟨b,0,Option.none⟩ h1 (by omega) e.symm,ad,cap,h4,.inr ⟨b,rest,h1,h2,h3,h7,h8,.inr ⟨h1,by omega⟩⟩⟩
 |grow rest cap' h1 h2 h3 h4 h5 h6 h7=>
  refine⟨h5.2,fun x hx _=>h4 x hx,_,cap',h1,.inr ⟨w.heap.size,rest,rfl,h2,h3,h6,h7,.inl ⟨Nat.le_refl _,by omega⟩⟩⟩
theorem AP{t t':Ty}{l:List t.D}{l':List t'.D}(h:conv (.list true t) (.list true t') l=some l')(rows:List t.G)(hr:rows.map (er t)=l):
  ∃(rows':List t'.G) (dr:List Nat),t.sz=t'.sz∧(rows.flatMap (fp t)).Perm (rows'.flatMap (fp t')++dr)∧rows'.length=rows.length∧rows'.flatMap (cl t')=rows.flatMap (cl t)∧rows'.map (er t')=l'∧
   ∀w KS KS',(∀b,KS b→KS' b)→(∀b∈dr,KS' b)→(∀r∈rows,bM w KS t r)→∀r∈rows',bM w KS' t' r:=by
 obtain⟨hs,rfl⟩:=dn h
 have hs':t.sub t'=true:=by
  have:=hs
  simp only[Ty.sub,if_true,Bool.true_and]at this
  exact this
 obtain⟨rows',dr,h1,h2,h3,h4,h5⟩:=AO hs' (fun g=>qu hs' g) rows
 subst hr
 exact⟨rows',dr,Ty.bm (Ty.aP hs'),h1,h2,h3,h4 _,h5⟩
theorem Pp(hE:bZ P E){N:Nat}{KS0:Nat→Prop}{e0:av}{rs:af}{kl:List aH}{H:List HG}(hC:cy τ c)(h0:Inv c KS0 e0 F ρ w)(hKS:∀b,KS0 b→KS b)(T:bU N c F ρ w KS e rs kl H){d:Nat}(hd32:32768≤d)(hdN:d<N)(hd0:ah ρ d=none)
  {t t2 ty el:TypeId} (ht:P.underlying t=some (.slice el)) {tt:Ty} (hte:j8 P el tt) (hsol:tt.gh=true) {by_:Nat} (hby:∃i,P.info? el=some i∧i.bytes=by_)
  {te:Ty} {g:ck te.G} (hg:bM w KS (.list true te) g) {s:Gf} {x:Value} {mr:List s.t.G} (her:mr.map (er s.t)=s.l) (hok:∀r∈mr,bM w KS s.t r) (hsrc:Src P s.t.sz t2 x s.l.length (mr.flatMap (cl s.t)) w)
  (hperm:∃ex,(H.flatMap fun x=>fp x.t x.g).Perm (ex++(fp (.list true te) g++mr.flatMap (fp s.t)))) {ef:jM} (hc:(AQ d tt by_ te (er (.list true te) g) s rs kl).run=some ef):
  cM P (do pure (.value (←Builtin.append_ #[t,t2] ty #[.slice g.ad g.rows.length g.cap,x]))) w (aR c KS0 F ρ ef):=by
 unfold AQ Kw at hc
 replace hc:=Cm.aG hc;obtain⟨hchk,hc⟩:=hc
 replace hc:=Cm.cC hc;obtain⟨hroom,hc⟩:=hc
 replace hc:=Cm.run_get hc;obtain⟨l',hl',hc⟩:=hc
 replace hc:=Cm.run_get hc;obtain⟨m',hm',hc⟩:=hc
 injection hc with hc;subst hc
 simp only[Bool.and_eq_true,Nat.ble_eq]at hchk
 obtain⟨⟨hs1,hs2⟩,hby1⟩:=hchk
 generalize jd te s.t=tj at*
 have hsz1:=Ty.bm hs1
 have hsz2:=Ty.bm hs2
 have hlen0:(er (.list true te) g).length=g.rows.length:=by simp[er]
 have hlenm:s.l.length=mr.length:=by rw[←her];simp
 obtain⟨v',w',hrun,hR⟩:=FD (P:=P) (t:=t) (tx:=t2) (ty:=ty) ht hte hsol hsz1 hby hby1 hg (x:=x) (m:=s.l.length) (news:=mr.flatMap (cl s.t)) (by rw[←hsz2];exact hsrc) (by rw[hlen0]at hroom;exact hroom)
 refine aJ hrun ?_
 have hcap0:g.cap=0→g.rows.length=0:=fun h=>by
  rcases hg with⟨_,h2⟩|⟨_,_,_,h2,h3,_⟩
  ·rw[h2];rfl
  ·omega
 obtain⟨hz,hsame,adN,capN,rfl,hres⟩:=Oc hR hcap0
 obtain⟨rows0,dr0,a1,a2,a3,a4,a5,a6⟩:=AP hl' g.rows rfl
 obtain⟨rows1,dr1,b1,b2,b3,b4,b5,b6⟩:=AP hm' mr her
 obtain⟨ex,hperm⟩:=hperm
 have hgrows:∀r∈g.rows,bM w KS te r:=by
  rcases hg with⟨_,h2⟩|⟨_,_,_,_,_,_,_,h6⟩
  ·rw[h2];simp
  ·exact h6
 -- the blocks
 obtain⟨B0,hB0,hB1,hB2⟩:∃B0:List Nat,fp (.list true te) g=B0++g.rows.flatMap (fp te)∧(∀a,g.ad=some a→g.cap≠0→a.block∈B0)∧(∀b∈B0,g.ad=some ⟨b,0,none⟩∧g.cap≠0):=by
  rcases hg with⟨h1,h2⟩|⟨b,rest,h1,h2,_⟩
  ·have h2':g.rows=[]:=h2
   have h1':g.cap=0:=h1
   refine⟨[], ?_,fun a _ h=>absurd h1' h,by simp⟩
   rw[h2']
   cases hq:g.ad with
   |none=>simp[fp,hq]
   |some a=>simp[fp,hq,h1']
  ·have h1':g.ad=some ⟨b,0,none⟩:=h1
   refine⟨[b],by simp[fp,h1',show g.cap≠0 by omega],fun a ha _=>by rw[h1']at ha;cases ha;simp,fun x hx=> ?_⟩
   simp at hx;subst hx;exact⟨h1',by omega⟩
 have hnd:=bg hperm T.nodup
 rw[hB0]at hnd hperm
 have hmemL:∀b,b∈ex++(B0++g.rows.flatMap (fp te)++mr.flatMap (fp s.t))→∃x∈H,b∈fp x.t x.g:=fun b hb=>List.mem_flatMap.1 (hperm.mem_iff.2 hb)
 have hlt:∀b,(∃x∈H,b∈fp x.t x.g)→b<w.heap.size∧¬KS b:=fun b ⟨x,hx,hb⟩=>(T.each x hx).2 b hb
 have in0:∀b,b∈rows0.flatMap (fp tj)∨b∈dr0→b∈g.rows.flatMap (fp te):=fun b hb=>a2.mem_iff.2 (List.mem_append.2 hb)
 have in1:∀b,b∈rows1.flatMap (fp tj)∨b∈dr1→b∈mr.flatMap (fp s.t):=fun b hb=>b2.mem_iff.2 (List.mem_append.2 hb)
 have nd1:=List.nodup_append.1 (List.nodup_append.1 hnd).2.1--(B0++rows),mr
 have nd2:=List.nodup_append.1 nd1.1--B0,rows
 have nd3:=List.nodup_append.1 (bg a2 nd2.2.1)--rows0,dr0
 have nd4:=List.nodup_append.1 (bg b2 nd1.2.1)--rows1,dr1
 have hX:∀b,b∈dr0∨b∈dr1→∃x∈H,b∈fp x.t x.g:=fun b hb=>hmemL b (by
  rcases hb with hb|hb
  ·have:=in0 b (.inr hb);simp[this]
  ·have:=in1 b (.inr hb);simp[this])
 have hnotB:∀b,(b∈g.rows.flatMap (fp te)∨b∈mr.flatMap (fp s.t))→∀a,g.ad=some a→g.cap≠0→a.block≠b:=fun b hb a ha hc e0=>by
  have h1:=hB1 a ha hc
  rw[e0]at h1
  rcases hb with hb|hb
  ·exact nd2.2.2 b h1 b hb rfl
  ·exact nd1.2.2 b (by simp[h1]) b hb rfl
 have hkeep:∀b,(b∈g.rows.flatMap (fp te)∨b∈mr.flatMap (fp s.t))→bH w w' b:=fun b hb=>
  hsame b (hlt b (hmemL b (by rcases hb with hb|hb<;>simp[hb]))).1 (hnotB b hb)
 have hkeepK:∀b,(KS b∨b∈dr0∨b∈dr1)→∀o,w'.cell? ⟨b,o,none⟩=w.cell? ⟨b,o,none⟩:=fun b hb=>by
  rcases hb with hb|hb|hb
  ·refine(hsame b (T.inv.lt b hb) fun a ha hc e0=> ?_).2.2
   have h1:=hB1 a ha hc
   rw[e0]at h1
   exact(hlt b (hmemL b (by simp[h1]))).2 hb
  ·exact(hkeep b (.inl (in0 b (.inr hb)))).2.2
  ·exact(hkeep b (.inr (in1 b (.inr hb)))).2.2
 have hrowsOK:∀r∈rows0++rows1,bM w' (fun b=>KS b∨b∈dr0∨b∈dr1) tj r:=fun r hr=>by
  rcases List.mem_append.1 hr with hr|hr
  ·refine dp hkeepK _ _ (fun b hb=>hkeep b (.inl (in0 b (.inl (List.mem_flatMap.2 ⟨r,hr,hb⟩))))) (a6 w KS _ (fun b hb=> .inl hb) (fun b hb=> .inr (.inl hb)) hgrows r hr)
  ·refine dp hkeepK _ _ (fun b hb=>hkeep b (.inr (in1 b (.inl (List.mem_flatMap.2 ⟨r,hr,hb⟩))))) (b6 w KS _ (fun b hb=> .inl hb) (fun b hb=> .inr (.inr hb)) hok r hr)
 have hlenN:(rows0++rows1).length=g.rows.length+s.l.length:=by simp[a3,b3,hlenm]
 have hcells:(rows0++rows1).flatMap (cl tj)=g.rows.flatMap (cl te)++mr.flatMap (cl s.t):=by rw[List.flatMap_append,a4,b4]
 have hszj:tj.sz=tt.sz:=by rw[←a1,hsz1]
 let G:ck tj.G:=⟨adN,capN,rows0++rows1⟩
 have hGok:bM w' (fun b=>KS b∨b∈dr0∨b∈dr1) (.list true tj) G:=by
  rcases hres with⟨h1,h2,_⟩|⟨b,rest,h1,h2,h3,h4,h5,h6⟩
  ·exact .inl ⟨h1,List.eq_nil_of_length_eq_zero (by show(rows0++rows1).length=0;omega)⟩
  ·refine .inr ⟨b,rest,h1,h2,by show(rows0++rows1).length≤capN;omega, ?_, ?_,hrowsOK⟩
   ·show Block w' b ((rows0++rows1).flatMap (cl tj)++rest);rw[hcells];exact h4
   ·show((rows0++rows1).flatMap (cl tj)++rest).length=capN*tj.sz;rw[hcells,h5,hszj]
 have hfpG:∀b∈fp (.list true tj) G,((w.heap.size≤b∧b<w'.heap.size)∨b∈B0)∨b∈rows0.flatMap (fp tj)∨b∈rows1.flatMap (fp tj):=fun b hb=>by
  simp only[fp,G]at hb
  rcases hres with⟨h1,_⟩|⟨b',rest,h1,h2,h3,h4,h5,h6⟩
  ·cases adN<;>simp[h1]at hb
  ·simp only[h1,show capN≠0 by omega,if_false,List.flatMap_append]at hb
   rcases List.mem_cons.1 hb with rfl|hb
   ·left
    exact h6.imp id fun⟨h7,h8⟩=>hB1 _ h7 h8
   ·exact .inr (List.mem_append.1 hb)
 have hndG:(fp (.list true tj) G).Nodup:=by
  simp only[fp,G]
  rcases hres with⟨h1,_⟩|⟨b',rest,h1,h2,h3,h4,h5,h6⟩
  ·cases adN<;>simp[h1]
  ·simp only[h1,show capN≠0 by omega,if_false,List.flatMap_append]
   refine List.nodup_cons.2 ⟨fun hm=> ?_,List.nodup_append.2 ⟨nd3.1,nd4.1,fun a ha b hb e0=> ?_⟩⟩
   ·rcases List.mem_append.1 hm with hm|hm
    ·have hi:=in0 b' (.inl hm)
     rcases h6 with⟨h7,_⟩|⟨h7,h8⟩
     ·have:=(hlt b' (hmemL b' (by simp[hi]))).1;omega
     ·exact hnotB b' (.inl hi) _ h7 h8 rfl
    ·have hi:=in1 b' (.inl hm)
     rcases h6 with⟨h7,_⟩|⟨h7,h8⟩
     ·have:=(hlt b' (hmemL b' (by simp[hi]))).1;omega
     ·exact hnotB b' (.inr hi) _ h7 h8 rfl
   ·subst e0
    exact nd1.2.2 a (by simp[in0 a (.inl ha)]) a (in1 a (.inl hb)) rfl
 have hv:=Ib (w:=w') (KS:=fun b=>KS b∨b∈dr0∨b∈dr1) (ρ:=rs++ag kl ρ) (e:=e) (d:=d) (re:=false) (t:=tj) (x:=(l'++m':List tj.D)) (pd:=none) (g:=G) (ad:=none)
 have hv':bf w' (fun b=>KS b∨b∈dr0∨b∈dr1) ((d,some (.data false (.list true tj) (l'++m':List tj.D) none))::(rs++ag kl ρ)) (e.set d ⟨none,.list true tj,G⟩) (.wl ⟨d,[]⟩) (.slice adN (g.rows.length+s.l.length) capN):=by
  rw[←hlenN];exact hv
 refine T.Qk hC h0 hKS hd32 hdN hd0 (fun b hb hnb=>hsame b hb fun a ha hc e0=> ?_) hz (X:=fun b=>b∈dr0∨b∈dr1) hX hGok (fun h=>by cases h) (fun _=>rfl) (by simpa using hndG) (fun b hb=> ?_) (by simp[er,G,a5,b5]) hv'
 ·have h1:=hB1 a ha hc
  rw[e0]at h1
  obtain⟨x,hx,hbx⟩:=hmemL b (by simp[h1])
  exact hnb x hx hbx
 ·simp only[Option.map_none,Option.toList_none,List.nil_append]at hb
  refine⟨fun hXb=> ?_, ?_⟩
  ·rcases hfpG b hb with(⟨h1,_⟩|h1)|h1|h1
   ·have:=(hlt b (hX b hXb)).1;omega
   ·rcases hXb with hXb|hXb
    ·exact nd2.2.2 b h1 b (in0 b (.inr hXb)) rfl
    ·exact nd1.2.2 b (by simp[h1]) b (in1 b (.inr hXb)) rfl
   ·rcases hXb with hXb|hXb
    ·exact nd3.2.2 b h1 b hXb rfl
    ·exact nd1.2.2 b (by simp[in0 b (.inl h1)]) b (in1 b (.inr hXb)) rfl
   ·rcases hXb with hXb|hXb
    ·exact nd1.2.2 b (by simp[in0 b (.inr hXb)]) b (in1 b (.inl h1)) rfl
    ·exact nd4.2.2 b h1 b hXb rfl
  ·rcases hfpG b hb with(h1|h1)|h1|h1
   ·exact .inl h1
   ·exact .inr (hmemL b (by simp[h1]))
   ·exact .inr (hmemL b (by simp[in0 b (.inl h1)]))
   ·exact .inr (hmemL b (by simp[in1 b (.inl h1)]))
end
end
section
theorem NA {w w' : World} {KS : Nat → Prop} (hk : ∀ b, KS b → ∀ o, w'.cell? ⟨b, o, none⟩ = w.cell? ⟨b, o, none⟩) {b : Nat} {tl : Ty} {gl : ck tl.G} (hb : gl.ad = some ⟨b, 0, none⟩) (hcap : 0 < gl.cap)
  {rest : List Value} (hB : Block w' b (gl.rows.flatMap (cl tl) ++ rest)) (hlen : (gl.rows.flatMap (cl tl) ++ rest).length = gl.cap * tl.sz) :
  ∀ (p : Path) (t : Ty) (g : t.G) (ad : Option Addr) (a : Option Addr), loc t g ad p = some ⟨.list true tl, gl, a⟩ → (∀ A, ad = some A → A.spot = none) → bM w KS t g → (fp t g).Nodup → (∀ x ∈ fp t g, x ≠ b → bH w w' x) → bM w' KS t g := by
 have hin : b ∈ fp (.list true tl) gl := by simp [fp, hb, show gl.cap ≠ 0 by omega]
 intro p
 induction p with
 | nil =>
  intro t g ad a h hsp hok hnd hs
  rw [aD] at h
  injection h with h
  injection h with h1 h2 h3
  subst h1
  cases h2
  rcases hok with ⟨h1, h2⟩ | ⟨b', rest', h1, h2, h3, h4, h5, h6⟩
  ·have h1' : gl.cap = 0 := h1
   omega
  ·refine .inr ⟨b, rest, hb, hcap, h3, hB, hlen, fun r hr => ?_⟩
   have hfp : fp (.list true tl) gl = b :: gl.rows.flatMap (fp tl) := by simp [fp, hb, show gl.cap ≠ 0 by omega]
   rw [hfp] at hnd hs
   have hn := List.nodup_cons.1 hnd
   refine dp hk _ _ (fun x hx => ?_) (h6 r hr)
   have hx' : x ∈ gl.rows.flatMap (fp tl) := List.mem_flatMap.2 ⟨r, hr, hx⟩
   exact hs x (List.mem_cons_of_mem _ hx') fun e => hn.1 (e ▸ hx')
 | cons st p ih =>
  intro t g ad a h hsp hok hnd hs
  cases st with
  | L =>
   cases t <;> first | (cases h; done) | skip
   rename_i t1 t2
   simp only [fp] at hnd hs
   have hn := List.nodup_append.1 hnd
   have hL := fc p t1 g.1 ad _ h hsp hok.1
   have hbin : b ∈ fp t1 g.1 := hL.sub b hin
   refine ⟨ih t1 g.1 ad a h hsp hok.1 hn.1 fun x hx => hs x (by simp [hx]), dp hk _ _ (fun x hx => hs x (by simp [hx]) fun e => ?_) hok.2⟩
   subst e; exact hn.2.2 _ hbin _ hx rfl
  | R =>
   cases t <;> first | (cases h; done) | skip
   rename_i t1 t2
   simp only [fp] at hnd hs
   have hn := List.nodup_append.1 hnd
   have hsp' : ∀ A, ad.map (Addr.plus · t1.sz) = some A → A.spot = none := fun A hA => by
    cases ad with
    | none => cases hA
    | some A' => simp at hA; subst hA; rfl
   have hL := fc p t2 g.2 _ _ h hsp' hok.2
   have hbin : b ∈ fp t2 g.2 := hL.sub b hin
   refine ⟨dp hk _ _ (fun x hx => hs x (by simp [hx]) fun e => ?_) hok.1, ih t2 g.2 _ a h hsp' hok.2 hn.2.1 fun x hx => hs x (by simp [hx])⟩
   subst e; exact hn.2.2 _ hx _ hbin rfl
  | I i =>
   cases t <;> first | (cases h; done) | skip
   rename_i o u
   cases o with
   | false => cases h
   | true =>
   simp only [loc] at h
   split at h
   ·rename_i r hr
    obtain ⟨l1, l2, e1, hi, _⟩ := jh hr
    rcases hok with ⟨_, h0⟩ | ⟨b', rest', h1, h2, h3, h4, h5, h6⟩
    ·have h0' : g.rows = [] := h0
     rw [h0'] at hr; simp at hr
    ·have h1' : g.ad = some ⟨b', 0, none⟩ := h1
     have hfp : fp (.list true u) g = b' :: g.rows.flatMap (fp u) := by simp [fp, h1', show g.cap ≠ 0 by omega]
     rw [hfp] at hnd hs
     have hn := List.nodup_cons.1 hnd
     have hsp' : ∀ A, g.ad.map (Addr.plus · (i * u.sz)) = some A → A.spot = none := fun A hA => by rw [h1'] at hA; simp at hA; subst hA; rfl
     have hL := fc p u r _ _ h hsp' (h6 r (by simp [e1]))
     have hbin : b ∈ fp u r := hL.sub b hin
     have hbr : b ∈ g.rows.flatMap (fp u) := List.mem_flatMap.2 ⟨r, by simp [e1], hbin⟩
     have hnr := hn.2
     rw [e1] at hnr
     simp only [List.flatMap_append, List.flatMap_cons] at hnr
     have n1 := List.nodup_append.1 hnr
     have n2 := List.nodup_append.1 n1.2.1
     refine .inr ⟨b', rest', h1, h2, h3, (hs b' (by simp) fun e => hn.1 (e ▸ hbr)).block h4, h5, fun r0 hr0 => ?_⟩
     have hsub : ∀ x ∈ fp u r0, x ∈ b' :: g.rows.flatMap (fp u) := fun x hx => List.mem_cons_of_mem _ (List.mem_flatMap.2 ⟨r0, hr0, hx⟩)
     rw [e1] at hr0
     rcases List.mem_append.1 hr0 with hr0 | hr0
     ·refine dp hk _ _ (fun x hx => hs x (hsub x hx) fun e => ?_) (h6 r0 (by simp [e1, hr0]))
      subst e
      exact n1.2.2 _ (List.mem_flatMap.2 ⟨r0, hr0, hx⟩) _ (by simp [hbin]) rfl
     ·rcases List.mem_cons.1 hr0 with rfl | hr0
      ·exact ih u r0 _ a h hsp' (h6 r0 (by simp [e1])) n2.1 fun x hx => hs x (hsub x hx)
      ·refine dp hk _ _ (fun x hx => hs x (hsub x hx) fun e => ?_) (h6 r0 (by simp [e1, hr0]))
       subst e
       exact n2.2.2 _ hbin _ (List.mem_flatMap.2 ⟨r0, hr0, hx⟩) rfl
   ·cases h
  | A i =>
   cases t <;> first | (cases h; done) | skip
   rename_i n u
   simp only [loc] at h
   split at h
   ·rename_i r hr
    obtain ⟨l1, l2, e1, hi, _⟩ := jh hr
    obtain ⟨hlen', h6⟩ := hok
    have hfp : fp (.arr n u) g = (g : List u.G).flatMap (fp u) := rfl
    rw [hfp] at hnd hs
    have hsp' : ∀ A, ad.map (Addr.plus · (i * u.sz)) = some A → A.spot = none := fun A hA => by
     cases ad with
     | none => cases hA
     | some A' => simp at hA; subst hA; rfl
    have hL := fc p u r _ _ h hsp' (h6 r (by rw [e1]; simp))
    have hbin : b ∈ fp u r := hL.sub b hin
    have hnr := hnd
    rw [e1] at hnr
    simp only [List.flatMap_append, List.flatMap_cons] at hnr
    have n1 := List.nodup_append.1 hnr
    have n2 := List.nodup_append.1 n1.2.1
    refine ⟨hlen', fun r0 hr0 => ?_⟩
    have hsub : ∀ x ∈ fp u r0, x ∈ (g : List u.G).flatMap (fp u) := fun x hx => List.mem_flatMap.2 ⟨r0, hr0, hx⟩
    have hr0' := hr0
    rw [e1] at hr0
    rcases List.mem_append.1 hr0 with hr0 | hr0
    ·refine dp hk _ _ (fun x hx => hs x (hsub x hx) fun e => ?_) (h6 r0 hr0')
     subst e
     exact n1.2.2 _ (List.mem_flatMap.2 ⟨r0, hr0, hx⟩) _ (by simp [hbin]) rfl
    ·rcases List.mem_cons.1 hr0 with rfl | hr0
     ·exact ih u r0 _ a h hsp' (h6 r0 hr0') n2.1 fun x hx => hs x (hsub x hx)
     ·refine dp hk _ _ (fun x hx => hs x (hsub x hx) fun e => ?_) (h6 r0 hr0')
      subst e
      exact n2.2.2 _ hbin _ (List.mem_flatMap.2 ⟨r0, hr0, hx⟩) rfl
   ·cases h
section
variable {P:Program} {E:Env} {c:Ctx} {KS:Nat→Prop} {e:av} {F:Fs} {ρ ρ':af} {w w':World}
def av.Ce(e:av)(r:Nat)(v:Value)(pb:List Nat):av:={e with pv:=fun n=>if n=r then v else e.pv n,pb:=fun n=>if n=r then pb else e.pb n}
set_option maxHeartbeats 2000000 in
theorem bU.Ce{N:Nat}{KS0:Nat→Prop}{e0:av}{rs:af}{kl:List aH}{H:List HG}(h0:Inv c KS0 e0 F ρ w)(hKS:∀b,KS0 b→KS b)(T:bU N c F ρ w KS e rs kl H)
  {r:Nat} {re:Bool} {t:Ty} {x:t.D} {pd:Option (Path×(te:Ty)×List te.D)} (hrr:∀y∈rs,y.1≠r) (hr:ah ρ r=some (.data re t x pd)) {ad:Option Addr} {g:t.G} (hg:e.gr r=some ⟨ad,t,g⟩)
  {π:Path} {te:Ty} {gl:ck te.G} {a:Option Addr} (hl:loc t g ad π=some ⟨.list true te,gl,a⟩)
  {s:Gf} {mr:List s.t.G} (her:mr.map (er s.t)=s.l) (hok:∀r∈mr,bM w KS s.t r) (hsz:s.t.sz=te.sz) (hperm:∃ex,(H.flatMap fun x=>fp x.t x.g).Perm (ex++mr.flatMap (fp s.t)))
  {v':Value} (hR:Lb w te.sz gl.ad gl.cap gl.rows.length s.l.length (gl.rows.flatMap (cl te)) (mr.flatMap (cl s.t)) v' w'):
  aR c KS0 F ρ {rv:= .ap ⟨r,π⟩,rs:=rs++[(r,some (.data re t x (some (π,⟨s.t,s.l⟩))))],kill:=kl++[.ap r]} v' w':=by
 have hrH:∀y∈H,y.n≠r:=fun y hy e=>by have:=(T.fr y hy).1;rw[e,hr]at this;cases this
 have hrA:ah (hid H++(rs++ag kl ρ)) r=some (.data re t x pd):=by
  rw[bP hrH,bl _ _ _ hrr];exact bJ hr
 have hP:=T.inv.gd [.ap r]
 have noalA:∀n,ah (ag [.ap r] (hid H++(rs++ag kl ρ))) n=ah (hid H++(rs++ag kl ρ)) n:=fun n=>by
  rcases cN [.ap r] (hid H++(rs++ag kl ρ)) n with⟨h1,_⟩|⟨_,q,k,_,h2,h3⟩
  ·exact h1
  ·simp at h2;subst h2;simp[qo]at h3
 have hI:Inv c KS e (bG (aB [.ap r] (hid H++(rs++ag kl ρ))) (bG (aB kl ρ) F)) (hid H++(rs++ag kl ρ)) w:=hP.1.congr fun n=>(noalA n).symm
 have nh1:cn [.ap r] (bG (aB [.ap r] (hid H++(rs++ag kl ρ))) (bG (aB kl ρ) F)) (hid H++(rs++ag kl ρ)):=⟨hP.2.bX,fun n q hq k hk=>by simp at hk;subst hk;simp[qo]⟩
 have nh2:cn ((H.map (·.n)).map .all) (bG (aB [.ap r] (hid H++(rs++ag kl ρ))) (bG (aB kl ρ) F)) (hid H++(rs++ag kl ρ)):=
  ⟨((T.vf h0).gd (aB [.ap r] (hid H++(rs++ag kl ρ))) []).bX,(T.vf h0).Mj⟩
 have nh:=nh1.append nh2
 -- the root's facts
 obtain⟨ad1,g1,q1,q2,q3,q4,q5,q6⟩:=hI.root hrA
 rw[hg]at q1;cases q1
 have ndr:=hI.nd r
 rw[q6]at ndr
 have nr1:=List.nodup_append.1 ndr
 have nr2:=List.nodup_append.1 nr1.1
 have hsp:∀A,ad=some A→A.spot=none:=fun A hA=>(q4 A hA).2.1
 have hL:=fc π t g ad _ hl hsp q3
 have hlenm:mr.length=s.l.length:=by rw[←her];simp
 have hglen:gl.rows.length≤gl.cap:=by
  rcases hL.ok with⟨_,h2⟩|⟨_,_,_,_,h3,_⟩
  ·rw[show gl.rows=[]from h2];simp
  ·exact h3
 have blr:∀b∈bj (hid H++(rs++ag kl ρ)) e r,b<w.heap.size∧¬KS b:=fun b hb=>⟨hI.blt r b hb,hI.ks r b hb⟩
 have hbH:∀y∈H,bj (hid H++(rs++ag kl ρ)) e y.n=fp y.t y.g:=fun y hy=>by
  have h1:=bE (ρ:=rs++ag kl ρ) T.nd y hy
  obtain⟨ad',g',p1,p2,p3,p4,p5,p6⟩:=T.inv.root h1
  rw[T.gr y hy]at p1;cases p1
  have hrt:=T.inv.roots y.n
  simp only[bC,h1]at hrt
  obtain⟨_,_,_,_,_,_,_,hpb⟩:=hrt
  rw[p6,hpb];simp
 obtain⟨ex,hperm⟩:=hperm
 have ndH:=bg hperm T.nodup
 have hmr:∀b∈mr.flatMap (fp s.t),∃y∈H,b∈fp y.t y.g:=fun b hb=>List.mem_flatMap.1 (hperm.mem_iff.2 (by simp[hb]))
 have hmrlt:∀b∈mr.flatMap (fp s.t),b<w.heap.size∧¬KS b∧b∉bj (hid H++(rs++ag kl ρ)) e r:=fun b hb=>by
  obtain⟨y,hy,hby⟩:=hmr b hb
  have h1:=(T.each y hy).2 b hby
  refine⟨h1.1,h1.2,fun hbr=> ?_⟩
  rw[←hbH y hy]at hby
  exact hI.dj r y.n (Ne.symm (hrH y hy)) b hbr hby
 have lsub:∀b∈fp (.list true te) gl,b∈fp t g:=hL.sub
 -- the memory
 obtain⟨pb,hpbn,hpb,hz,hsame,hG,hpe⟩:∃pb:List Nat,pb.Nodup∧(∀b∈pb,(w.heap.size≤b∧b<w'.heap.size)∨b∈mr.flatMap (fp s.t))∧dH w w'∧
   (∀b,b<w.heap.size→b∉fp t g→bH w w' b)∧bM w' KS t g∧BG w' KS ⟨ad,t,g⟩ v' pb π s.t s.l:=by
  cases hR with
  |none h1 h2 h3 h4 h5=>
   subst h5
   refine⟨[],by simp,by simp,dH.refl _,fun b _ _=>bH.refl _ b,q3,te,gl,a,hl,mr,her,hok,hsz,.inl ⟨h1,List.eq_nil_of_length_eq_zero h3,h4,rfl⟩⟩
  |room b rest h1 h2 h3 h4 h5 h6 h7 h8=>
   have hbin:b∈fp (.list true te) gl:=by simp[fp,h1,show gl.cap≠0 by omega]
   have hbr:b∈bj (hid H++(rs++ag kl ρ)) e r:=by rw[q6];simp[lsub b hbin]
   have hk:∀x,KS x→∀o,w'.cell? ⟨x,o,Option.none⟩=w.cell? ⟨x,o,Option.none⟩:=fun x hx=>(h5 x fun e=>(blr b hbr).2 (e▸hx)).2.2
   refine⟨mr.flatMap (fp s.t),(List.nodup_append.1 ndH).2.1,fun b hb=> .inr hb,h6.2,fun x _ hx=>h5 x fun e=>hx (e▸lsub b hbin), ?_,te,gl,a,hl,mr,her,fun r0 hr0=> ?_,hsz,
    .inr (.inl ⟨b,rest,h1,h4,h2,h3,h7,h8,rfl⟩)⟩
   ·rw[List.append_assoc]at h7 h8
    exact NA hk h1 h2 h7 h8 π t g ad a hl hsp q3 nr2.2.1 fun x _ hx=>h5 x hx
   ·refine dp hk _ _ (fun x hx=>h5 x fun e=> ?_) (hok r0 hr0)
    have:=(hmrlt x (List.mem_flatMap.2 ⟨r0,hr0,hx⟩)).2.2
    rw[e]at this;exact this hbr
  |grow rest cap' h1 h2 h3 h4 h5 h6 h7=>
   have hk:∀x,KS x→∀o,w'.cell? ⟨x,o,Option.none⟩=w.cell? ⟨x,o,Option.none⟩:=fun x hx=>(h4 x (hI.lt x hx)).2.2
   refine⟨w.heap.size::mr.flatMap (fp s.t),List.nodup_cons.2 ⟨fun hm=>by have:=(hmrlt _ hm).1;omega,(List.nodup_append.1 ndH).2.1⟩,fun b hb=> ?_,h5.2,fun x hx _=>h4 x hx, ?_,te,gl,a,hl,mr,her,fun r0 hr0=> ?_,hsz,
    .inr (.inr ⟨w.heap.size,rest,cap',h1,h2,h3,h6,h7,rfl⟩)⟩
   ·rcases List.mem_cons.1 hb with rfl|hb
    ·left;omega
    ·exact .inr hb
   ·exact dp hk _ _ (fun x hx=>h4 x (hI.blt r x (by rw[q6];simp[hx]))) q3
   ·exact dp hk _ _ (fun x hx=>h4 x (hmrlt x (List.mem_flatMap.2 ⟨r0,hr0,hx⟩)).1) (hok r0 hr0)
 have hρr:ah ((rs++[(r,some (.data re t x (some (π,⟨s.t,s.l⟩))))])++ag (kl++[.ap r]) ρ) r=some (.data re t x (some (π,⟨s.t,s.l⟩))):=by
  rw[List.append_assoc,bl _ _ _ hrr,List.singleton_append,ay]
 have hρo:∀n,n≠r→ah ((rs++[(r,some (.data re t x (some (π,⟨s.t,s.l⟩))))])++ag (kl++[.ap r]) ρ) n=ah (rs++ag kl ρ) n:=fun n hn=>by
  rw[List.append_assoc]
  refine db ?_ rs
  rw[List.singleton_append,aw hn,jT]
  rcases cN [.ap r] (ag kl ρ) n with⟨h1,_⟩|⟨_,q,k,_,h2,h3⟩
  ·exact h1
  ·simp at h2;subst h2;simp[qo]at h3
 have hρh:∀y∈H,ah ((rs++[(r,some (.data re t x (some (π,⟨s.t,s.l⟩))))])++ag (kl++[.ap r]) ρ) y.n=none:=fun y hy=>by
  rw[hρo _ (hrH y hy)]
  exact j9 (T.fr y hy).1 fun z hz=>(T.nG z hz).2
 have hbr':bj ((rs++[(r,some (.data re t x (some (π,⟨s.t,s.l⟩))))])++ag (kl++[.ap r]) ρ) (e.Ce r v' pb) r=(ad.map (·.block)).toList++fp t g++pb:=by
  simp only[bj,hρr,av.Ce,hg,if_true]
 have hbh':∀y∈H,bj ((rs++[(r,some (.data re t x (some (π,⟨s.t,s.l⟩))))])++ag (kl++[.ap r]) ρ) (e.Ce r v' pb) y.n=[]:=fun y hy=>by
  simp only[bj,hρh y hy]
 have hnin:∀(p:Place),(∀k∈[aH.ap r]++(H.map (·.n)).map aH.all,hit k (.wl p)=false)∨(∀k∈[aH.ap r]++(H.map (·.n)).map aH.all,hit k (.sv p)=false)∨(∀k∈[aH.ap r]++(H.map (·.n)).map aH.all,hit k (.rf p)=false)∨(∀k∈[aH.ap r]++(H.map (·.n)).map aH.all,hit k (.ap p)=false)→∀y∈H,p.r≠y.n:=fun p hp y hy e0=>by
  have hm:aH.all y.n∈[aH.ap r]++(H.map (·.n)).map aH.all:=by
   simp only[List.mem_append,List.mem_map]
   exact .inr ⟨y.n,⟨y,hy,rfl⟩,rfl⟩
  rcases hp with hp|hp|hp|hp<;>(have:=hp _ hm;simp[hit,e0]at this)
 have hout:∀n,n≠r→(∀y∈H,n≠y.n)→ah ((rs++[(r,some (.data re t x (some (π,⟨s.t,s.l⟩))))])++ag (kl++[.ap r]) ρ) n=ah (hid H++(rs++ag kl ρ)) n:=fun n h1 h2=>by
  rw[hρo n h1,bP fun y hy e=>h2 y hy e.symm]
 have hdat:∀n,(∀y∈H,n≠y.n)→hasData (hid H++(rs++ag kl ρ)) n→hasData ((rs++[(r,some (.data re t x (some (π,⟨s.t,s.l⟩))))])++ag (kl++[.ap r]) ρ) n:=fun n h1 h2=>by
  by_cases hn:n=r
  ·subst hn;exact⟨_,_,_,_,hρr⟩
  ·simpa only[hasData,hout n hn h1]using h2
 have hS:Inv c KS (e.Ce r v' pb) (bG (aB [.ap r] (hid H++(rs++ag kl ρ))) (bG (aB kl ρ) F)) ((rs++[(r,some (.data re t x (some (π,⟨s.t,s.l⟩))))])++ag (kl++[.ap r]) ρ) w':=by
  refine hI.step (S:=fun n=>n=r∨∃y∈H,y.n=n) nh
   {reads:=Reads.of (fun b hb=>hb) (fun b hb=>(hsame b (hI.lt b hb) fun hbt=>(blr b (by rw[q6];simp[hbt])).2 hb).2.2) ?_ ?_ ?_ ?_ ?_
    out:= ?_
    same:= ?_
    size:=hz
    roots:= ?_
    nd:= ?_
    dj:= ?_
    src:= ?_
    DP:=fun b hb=> .inl hb
    HX:= ?_
    cD:= ?_
    eo:= ?_
    GZ:= ?_}
  ·intro p hp hd _
   exact hdat _ (hnin p (hp.elim (fun h=> .inl h) (fun h=> .inr (.inl h)))) hd
  ·intro p te' g' a' hp _ hsp'
   exact⟨g',hsp',rfl,rfl,rfl⟩
  ·intro p _ _ _;rfl
  ·intro p s' A hp h1 h2
   refine⟨s', ?_,h2⟩
   have hne:=hnin p (.inr (.inr (.inl hp)))
   simp only[bB]at h1 ⊢
   by_cases hn:p.r=r
   ·rw[hn]at h1 ⊢
    rw[hrA]at h1;rw[hρr];exact h1
   ·rw[hout _ hn hne];exact h1
  ·intro p hp re' t' x' pe' hd
   have hne:=hnin p (.inr (.inr (.inr hp)))
   have hn:p.r≠r:=fun e0=>by
    have:=hp (.ap r) (by simp)
    simp[hit,e0]at this
   refine⟨⟨re',t',x',pe',by rw[hout _ hn hne];exact hd⟩, ?_⟩
   simp[av.Ce,hn]
  ·intro n hn
   have h1:n≠r:=fun e=>hn (.inl e)
   refine⟨hout n h1 fun y hy e=>hn (.inr ⟨y,hy,e.symm⟩),rfl,rfl,by simp[av.Ce,h1],by simp[av.Ce,h1]⟩
  ·intro n hn b hb
   refine hsame b (hI.blt n b hb) fun hbt=> ?_
   exact hI.dj n r (fun e=>hn (.inl e)) b hb (by rw[q6];simp[hbt])
  ·intro n hn
   rcases hn with rfl|⟨y,hy,rfl⟩
   ·simp only[bC,hρr]
    refine⟨ad,g,hg,q2,hG,fun hre=> ?_,fun hre=> ?_, ?_⟩
    ·obtain⟨A,hA⟩:=q5 hre
     refine⟨A,hA,(hsame A.block (hI.blt n A.block (by rw[q6,hA];simp)) fun hbt=> ?_).row (q4 A hA).2⟩
     exact nr2.2.2 A.block (by rw[hA];simp) _ hbt rfl
    ·cases had:ad with
     |none=>rfl
     |some A=>have:=(q4 A had).1;rw[hre]at this;cases this
    ·simpa[av.Ce]using hpe
   ·simp only[bC,hρh y hy]
  ·intro n hn
   rcases hn with rfl|⟨y,hy,rfl⟩
   ·rw[hbr']
    refine List.nodup_append.2 ⟨nr1.1,hpbn,fun a ha b hb e0=> ?_⟩
    subst e0
    have ha':a∈bj (hid H++(rs++ag kl ρ)) e n:=by rw[q6];exact List.mem_append.2 (.inl ha)
    rcases hpb a hb with⟨h1,_⟩|h1
    ·have:=(blr a ha').1;omega
    ·exact(hmrlt a h1).2.2 ha'
   ·rw[hbh' y hy];simp
  ·intro n m hn hm hnm b hb1 hb2
   rcases hn with rfl|⟨y,hy,rfl⟩
   ·rcases hm with rfl|⟨y,hy,rfl⟩
    ·exact hnm rfl
    ·rw[hbh' y hy]at hb2;cases hb2
   ·rw[hbh' y hy]at hb1;cases hb1
  ·intro n hn b hb
   rcases hn with rfl|⟨y,hy,rfl⟩
   ·rw[hbr']at hb
    rcases List.mem_append.1 hb with hb|hb
    ·exact .inr ⟨n,.inl rfl,by rw[q6];exact List.mem_append.2 (.inl hb),.inl rfl⟩
    ·rcases hpb b hb with h1|h1
     ·exact .inl h1
     ·obtain⟨y,hy,hby⟩:=hmr b h1
      refine .inr ⟨y.n,.inr ⟨y,hy,rfl⟩,by rw[hbH y hy];exact hby,.inr fun A hA=> ?_⟩
      exact absurd hA (T.inv.w9 (bE (ρ:=rs++ag kl ρ) T.nd y hy) A)
   ·rw[hbh' y hy]at hb;cases hb
  ·intro n hn b hb hk
   rcases hn with rfl|⟨y,hy,rfl⟩
   ·rw[hbr']at hb
    rcases List.mem_append.1 hb with hb|hb
    ·exact(blr b (by rw[q6];exact List.mem_append.2 (.inl hb))).2 hk
    ·rcases hpb b hb with⟨h1,_⟩|h1
     ·have:=hI.lt b hk;omega
     ·exact(hmrlt b h1).2.1 hk
   ·rw[hbh' y hy]at hb;cases hb
  ·intro n hn A hA
   rcases hn with rfl|⟨y,hy,rfl⟩
   ·refine⟨fun q hq=>(by rw[hρr]at hq;cases hq),fun re' t' x' pd' hd'=> ?_⟩
    rw[hρr]at hd';cases hd'
    exact(hI.cD n A hA).2 _ _ _ _ hrA
   ·exact absurd hA (T.inv.w9 (bE (ρ:=rs++ag kl ρ) T.nd y hy) A)
  ·intro n hn hh hq re' t' x' pd' hd'
   rcases hn with rfl|⟨y,hy,rfl⟩
   ·rw[hρr]at hd';cases hd'
    exact hI.eo n hh hq _ _ _ _ hrA
   ·rw[hρh y hy]at hd';cases hd'
  ·intro b hb
   by_cases hbt:b∈fp t g
   ·have hbr:b∈bj (hid H++(rs++ag kl ρ)) e r:=by rw[q6];simp[hbt]
    rcases hI.may r b hbr with h1|h1|⟨A,h1,h2⟩
    ·exact .inr (.inl h1)
    ·exact .inr (.inr (.inl h1))
    ·exfalso
     obtain⟨⟨g2,h3⟩,_⟩:=(hI.cD r A h1).2 _ _ _ _ hrA
     rw[hg]at h3;cases h3
     exact nr2.2.2 A.block (by simp) _ hbt h2
   ·exact .inl (hsame b hb hbt)
 refine⟨KS,e.Ce r v' pb,hKS,⟨⟨re,t,x,_,hρr⟩,by simp[av.Ce]⟩, ?_⟩
 rw[ib]at hS
 refine hS.more fun k hk=> ?_
 simp only[aB,List.mem_append,List.flatMap_append,List.flatMap_cons,List.flatMap_nil,List.append_nil,List.mem_singleton]at hk ⊢
 rcases hk with(hk|hk)|hk|hk
 ·exact .inl (.inl hk)
 ·exact .inr (.inl hk)
 ·exact .inl (.inr hk)
 ·rw[bS _ _ _ (qC H),bS _ rs _ (fun y hy=>(T.nG y hy).1)]at hk
  exact .inr (.inr (c9 _ kl ρ k hk))
end
end
section
theorem PZ{ρ:af}{a x:RV}{s:Gf}(hs:(BF ρ a x).run=some s):(s.rs=[]∧s.kl=[])∨∃r,s.rs=[(r,none)]∧s.kl=[.all r]:=by
 unfold BF at hs
 split at hs
 ·injection hs with hs;subst hs;exact .inl ⟨rfl,rfl⟩
 ·injection hs with hs;subst hs;exact .inl ⟨rfl,rfl⟩
 ·replace hs:=Cm.ae hs;obtain⟨vv,hv,hs⟩:=hs
  split at hs
  ·split at hs
   ·injection hs with hs;subst hs;exact .inl ⟨rfl,rfl⟩
   ·replace hs:=Cm.aG hs;obtain⟨_,hs⟩:=hs
    injection hs with hs;subst hs;exact .inr ⟨_,rfl,rfl⟩
  ·cases hs
 ·replace hs:=Cm.ae hs;obtain⟨vv,hv,hs⟩:=hs
  split at hs
  ·split at hs
   ·injection hs with hs;subst hs;exact .inl ⟨rfl,rfl⟩
   ·cases hs
  ·cases hs
section
variable {P:Program} {τ:dM} {E:Env} {c:Ctx} {KS:Nat→Prop} {e:av} {F:Fs} {ρ ρ':af} {w w':World}
theorem JM{v:Value}{t:Ty}{g:ck t.G}(h:v.cells=(cl (.list true t) g).toArray)(hv:∃a n m,v= .slice a n m):v= .slice g.ad g.rows.length g.cap:=by
 obtain⟨a,n,m,rfl⟩:=hv
 have:(#[Value.slice a n m]:Array Value)= #[.slice g.ad g.rows.length g.cap]:=h
 simpa using this
theorem reorder{rs:af}{kl:List aH}{r:Nat}(hrs:∀y∈rs,y.2=none)(n:Nat):ah ((rs++[(r,none)])++ag (kl++[.all r]) ρ) n=ah (([(r,none)]++rs)++ag ([.all r]++kl) ρ) n:=by
 have e1:=qq (a:=kl++[.all r]) (b:=[.all r]++kl) (fun k=>by simp only[List.mem_append];exact Or.comm) ρ n
 have key:∀(l:af) (ρ1:af),(∀y∈l,y.2=none)→ah (l++ρ1) n=if(∃y∈l,y.1=n)then none else ah ρ1 n:=by
  intro l
  induction l with
  |nil=>intro ρ1 _;simp
  |cons z l ih=>
   intro ρ1 hl
   obtain⟨m,b⟩:=z
   have hb:b=none:=hl (m,b) (by simp)
   subst hb
   by_cases hm:n=m
   ·subst hm;rw[List.cons_append,ay];simp
   ·rw[List.cons_append,aw hm,ih ρ1 fun y hy=>hl y (by simp[hy])]
    have:(∃y∈(m,none)::l,y.1=n)↔∃y∈l,y.1=n:=by
     constructor
     ·rintro⟨y,hy,e⟩
      rcases List.mem_cons.1 hy with rfl|hy
      ·exact absurd e.symm hm
      ·exact⟨y,hy,e⟩
     ·rintro⟨y,hy,e⟩;exact⟨y,by simp[hy],e⟩
    simp only[this]
 rw[key _ _ (fun y hy=>by rcases List.mem_append.1 hy with hy|hy;exact hrs y hy;simp at hy;subst hy;rfl),key _ _ (fun y hy=>by rcases List.mem_append.1 hy with hy|hy;simp at hy;subst hy;rfl;exact hrs y hy),e1]
 have:(∃y∈rs++[(r,none)],y.1=n)↔∃y∈[(r,none)]++rs,y.1=n:=by
  constructor<;>(rintro⟨y,hy,e⟩;exact⟨y,by simp only[List.mem_append]at hy ⊢;exact hy.symm,e⟩)
 simp only[this]
theorem HV{d:Nat}{tt:Ty}{b:Nat}{te:Ty}{l:List te.D}{s:Gf}{rs rs':af}{kl kl':List aH}{ef:jM}(h:(AQ d tt b te l s rs kl).run=some ef):
  ef.new=true∧∃ef',(AQ d tt b te l s rs' kl').run=some ef'∧ef'.rv=ef.rv∧∃x,ef.rs=x::rs∧ef'.rs=x::rs'∧ef.kill=kl∧ef'.kill=kl':=by
 unfold AQ Kw at h ⊢
 replace h:=Cm.aG h;obtain⟨h1,h⟩:=h
 replace h:=Cm.cC h;obtain⟨h2,h⟩:=h
 replace h:=Cm.run_get h;obtain⟨l',hl',h⟩:=h
 replace h:=Cm.run_get h;obtain⟨m',hm',h⟩:=h
 injection h with h;subst h
 refine⟨rfl,{new:=true,rv:= .wl ⟨d,[]⟩,rs:=(d,some (.data false (.list true (jd te s.t)) (l'++m':List (jd te s.t).D) none))::rs',kill:=kl'}, ?_,rfl,_,rfl,rfl,rfl,rfl⟩
 rw[h1]
 simp only[Cm.jm,cond_true,Cm.ask,Cm.run,h2,if_true,hl',hm']
theorem M7(hE:bZ P E)(hC:cy τ c)(h:Inv c KS e F ρ w){d:Nat}{ef:jM}(hd32:32768≤d)(hd:ef.new=true→ah ρ d=none){t t2 ty el by_:Nat}{tt:Ty}(hel:E.el t=some (el,by_))(htt:E.ty el=some tt)
  {a x:RV} {va vx:Value} (ha:bf w KS ρ e a va) (hx:bf w KS ρ e x vx) (h2:qa E ρ t2 x=true) (hc:(po d tt by_ ρ a x).run=some ef):
  cM P (do pure (.value (←Builtin.append_ #[t,t2] ty #[va,vx]))) w (aR c KS F ρ ef):=by
 obtain⟨ht,hby⟩:=hE.el _ _ _ hel
 have hte:=hE.ty _ _ htt
 have hsol:=hE.PY _ _ htt
 unfold po at hc
 replace hc:=Cm.ae hc;obtain⟨s,hs,hc⟩:=hc
 have hops:=h.ops (xs:=[a,x]) (vs:=[va,vx]) ⟨va,[vx],rfl,ha,vx,[],rfl,hx,rfl⟩
 obtain⟨KS1,e1,H,mr,S,hfr⟩:=Q5 (N:=d+1) (by omega) hE hC hops hx hs h2
 have hfr':fresh s.kl ρ a=true:=by
  rcases hfr with h0|h0
  ·rw[h0];rfl
  ·exact h0
 have hrsn:∀y∈s.rs,y.2=none∧aH.all y.1∈s.kl:=fun y hy=>by
  rcases PZ hs with⟨h1,h2⟩|⟨r,h1,h2⟩
  ·rw[h1]at hy;cases hy
  ·rw[h1]at hy;simp at hy;subst hy;rw[h2];simp
 have hnot:∀r π,a= .wl ⟨r,π⟩∨(∃n,a= .vw ⟨r,π⟩ 0 n)→∀y∈s.rs,y.1≠r:=fun r π ha y hy e0=>by
  have h1:=Km hfr'
  have h2:=(hrsn y hy).2
  have h3:∃k∈aB s.kl ρ,hit k a=true:=⟨.all y.1,by simp[aB,h2],by rcases ha with rfl|⟨n,rfl⟩<;>simp[hit,e0]⟩
  rw[List.any_eq_false]at h1
  obtain⟨k,hk,hh⟩:=h3
  exact h1 k hk hh
 -- with the base taken out of a root of its own
 have whole:∀{r:Nat} {te:Ty} {l:List te.D},(a= .wl ⟨r,[]⟩∨∃n,a= .vw ⟨r,[]⟩ 0 n)→(take (s.rs++ρ) .unit a).run=some (⟨.list true te,l⟩,[(r,none)],[.all r])→(AQ d tt by_ te l s (s.rs++[(r,none)]) (s.kl++[.all r])).run=some ef→
   cM P (do pure (.value (←Builtin.append_ #[t,t2] ty #[va,vx]))) w (aR c KS F ρ ef):=fun{r te l} haw htk hc=>by
  obtain⟨va',hva',hra⟩:=S.tk.NX (j:=0) (x:=a) (by simp) rfl hfr' (by rcases haw with rfl|⟨n,rfl⟩<;>simp)
  simp at hva';subst hva'
  have hsl:∃a n m,va=Value.slice a n m:=by
   rcases haw with rfl|⟨n,rfl⟩
   ·obtain⟨_,te',g,_,_,rfl⟩:=hra;exact⟨_,_,_,rfl⟩
   ·obtain⟨_,te',g,_,_,_,_,_,rfl⟩:=hra;exact⟨_,_,_,rfl⟩
  obtain⟨KS2,e2,y,k0,T2,hyd,hyc⟩:=S.tk.take hC (by omega) hra htk
  obtain⟨yn,yt,yg⟩:=y
  simp only[HG.d]at hyd
  cases hyd
  have hva:=JM hyc hsl
  have hg:=(T2.each ⟨yn,.list true te,yg⟩ (by simp)).1
  obtain⟨ex,hex⟩:=S.fp
  obtain⟨hnew,ef',hc',hrv,xx,e5,e6,e7,e8⟩:=HV (rs':=[(r,none)]++s.rs) (kl':=[.all r]++s.kl) hc
  have hd:=hd hnew
  have hD:=Pp (ty:=ty) (g:=yg) (x:=vx) (s:=s) (mr:=mr) hE hC h (fun b hb=>k0 b (S.ks b hb)) T2.pop hd32 (by omega) hd ht hte hsol hby hg S.er (fun r hr=>oH k0 _ _ (S.ok r hr)) S.src
   ⟨ex,by
    simp only[List.flatMap_cons]
    refine(List.Perm.append_left _ hex).trans ?_
    rw[←List.append_assoc,←List.append_assoc]
    exact List.Perm.append_right _ List.perm_append_comm⟩ hc'
  rw[hva]
  unfold cM at hD ⊢
  generalize ((do pure (.value (←Builtin.append_ #[t,t2] ty #[.slice yg.ad yg.rows.length yg.cap,vx])):Sem Next).run P w)=R at hD ⊢
  have hA:∀v w',aR c KS F ρ ef' v w'→aR c KS F ρ ef v w':=fun v w' hA=>by
   refine hA.congr hrv.symm (fun n=> ?_) (fun k hk=> ?_)
   ·rw[e5,e6,e7,e8]
    by_cases hn:n=xx.1
    ·subst hn
     obtain⟨xa,xb⟩:=xx
     simp only[List.cons_append,ay]
    ·obtain⟨xa,xb⟩:=xx
     simp only[List.cons_append,aw hn]
     exact reorder (fun y hy=>(hrsn y hy).1) n
   ·rw[e8]at hk;rw[e7]
    simp only[List.mem_append]at hk ⊢;exact hk.symm
  cases R with
  |ok n w1=>
   cases n<;>first|exact hA _ _ hD|exact hD|(exact Calls.mono hD fun e w'' ⟨v,h1,h2⟩=>⟨v,h1,hA _ _ h2⟩)
  |halt x w1=>exact hD
 split at hc
 ·--nil
  have hva:va= .slice none 0 0:=ha
  subst hva
  have hg:bM w KS1 (.list true s.t) (⟨none,0,[]⟩:ck s.t.G):= .inl ⟨rfl,rfl⟩
  obtain⟨ex,hex⟩:=S.fp
  have hd:=hd (HV (rs':=[]) (kl':=[]) hc).1
  exact Pp (ty:=ty) (g:=(⟨none,0,[]⟩:ck s.t.G)) (x:=vx) (s:=s) (mr:=mr) hE hC h S.ks S.tk.pop hd32 (by omega) hd ht hte hsol hby hg S.er S.ok S.src ⟨ex,by simpa[fp]using hex⟩ hc
 ·rename_i r π
  split at hc
  ·rename_i re tr y pd hb
   replace hc:=Cm.ae hc;obtain⟨vv,hv,hc⟩:=hc
   split at hc
   ·rename_i te l
    have hrr:=hnot r π (.inl rfl)
    cases hwh:(re|| !π.isEmpty)with
    |true=>
     rw[hwh]at hc
     simp only[cond_true]at hc
     unfold Kw at hc
     replace hc:=Cm.aG hc;obtain⟨hchk,hc⟩:=hc
     replace hc:=Cm.cC hc;obtain⟨hroom,hc⟩:=hc
     injection hc with hc;subst hc
     simp only[Bool.and_eq_true,Nat.ble_eq]at hchk
     obtain⟨⟨hs1,hs2⟩,hby1⟩:=hchk
     have hsz1:=Ty.bm hs1
     have hsz2:=Ty.bm hs2
     obtain⟨va',hva',hra⟩:=S.tk.NX (j:=0) (x:= .wl ⟨r,π⟩) (by simp) rfl hfr' (by simp)
     simp at hva';subst hva'
     obtain⟨hdat,te',g',ad',hsp,rfl⟩:=hra
     have T:=S.tk.pop
     have hrH:∀y∈H,y.n≠r:=fun y hy e=>by have:=(T.fr y hy).1;rw[e,hb]at this;cases this
     have hrA:ah (hid H++(s.rs++ag s.kl ρ)) r=some (.data re tr y pd):=by
      rw[bP hrH,bl _ _ _ hrr];exact bJ hb
     obtain⟨ad,g,q1,q2,q3,q4,q5,q6⟩:=T.inv.root hrA
     subst q2
     obtain⟨s0,hl0,hd0⟩:=ov π tr g ad _ hv
     simp only[aC,q1,Option.bind_some]at hsp
     rw[hsp]at hl0;cases hl0
     cases hd0
     have hL:=fc π tr g ad _ hsp (fun A hA=>(q4 A hA).2.1) q3
     have hlen0:(er (.list true te) g').length=g'.rows.length:=by simp[er]
     obtain⟨v',w',hrun,hR⟩:=FD (P:=P) (t:=t) (tx:=t2) (ty:=ty) ht hte hsol hsz1 hby hby1 (KS:=KS1) (g:=g') hL.ok (x:=vx) (m:=s.l.length) (news:=mr.flatMap (cl s.t)) (by rw[←hsz2];exact S.src) (by rw[←hlen0];exact hroom)
     refine aJ hrun ?_
     rw[show tt.sz=te.sz from hsz1.symm]at hR
     exact T.Ce h S.ks hrr hb q1 hsp S.er S.ok (by rw[hsz2,hsz1]) S.fp hR
    |false=>
     rw[hwh]at hc
     simp only[cond_false]at hc
     simp only[Bool.or_eq_false_iff,Bool.not_eq_false']at hwh
     obtain⟨rfl,hπ⟩:=hwh
     cases π with
     |cons _ _=>cases hπ
     |nil=>
     refine whole (.inl rfl) ?_ hc
     have hb':ah (s.rs++ρ) r=some (.data false tr y pd):=by rw[bl _ _ _ hrr];exact hb
     simp only[take,kW,hb']
     rw[Cm.run_bind,hv];rfl
   ·cases hc
  ·cases hc
 ·rename_i r n
  split at hc
  ·rename_i te l pd hb
   have hrr:=hnot r [] (.inr ⟨n,rfl⟩)
   refine whole (.inr ⟨n,rfl⟩) ?_ hc
   have hb':ah (s.rs++ρ) r=some (.data false (.list true te) l pd):=by rw[bl _ _ _ hrr];exact hb
   simp only[take,kW,hb']
   rfl
  ·cases hc
 ·cases hc
end
end
section
theorem Inv.RO{c:Ctx}{KS:Nat→Prop}{e:av}{F:Fs}{ρ ρ':af}{w w':World}{ks:List aH}(h:Inv c KS e F ρ w)(nh:cn ks F ρ)
  {r:Nat} {re:Bool} {t:Ty} {x:t.D} {pd:Option (Path×(te:Ty)×List te.D)} (hr:ah ρ r=some (.data re t x pd)) {ad:Option Addr} {g:t.G} (hg:e.gr r=some ⟨ad,t,g⟩)
  {π:Path} {s:dN} (hl:loc t g ad π=some s) {t':Ty} {g':t'.G} {T:Ty} {G:T.G} {dr:List Nat} (P:Dz w KS t g ad π s t' g' T G dr) (hK:Ca ks r π t')
  (hfp:∀b∈fp t' g',b∈fp s.t s.g∨b∈e.pb r) (hnd:(fp t' g').Nodup) {X:Nat→Prop} (hX:∀b,X b→(b∈fp s.t s.g∨b∈e.pb r)∧b∉fp t' g') (hok':bM w (fun b=>KS b∨X b) t' g')
  (hρr:ah ρ' r=some (.data re T (er T G) none)) (hρ:∀n,n≠r→ah ρ' n=ah ρ n)
  (hsame:∀b,b<w.heap.size→(∀B,s.ad=some B→B.block≠b)→bH w w' b) (hz:dH w w')
  (hin:∀B,s.ad=some B→oQ w w' B s.t.sz (cl t' g'))
  (hhdr:∀hh,c.eo r=some hh→π≠[]):
  Inv c (fun b=>(KS b∨X b)∨b∈dr) (e.put r ⟨ad,T,G⟩) F ρ' w':=by
 obtain⟨ad0,g0,q1,q2,q3,q4,q5,q6⟩:=h.root hr
 rw[hg]at q1;cases q1
 have hsp:∀A,ad=some A→A.spot=none:=fun A hA=>(q4 A hA).2.1
 have hL:=fc π t g ad s hl hsp q3
 have nd:=h.nd r
 rw[q6]at nd
 have ndp:=List.nodup_append.1 nd
 have nda:=List.nodup_append.1 ndp.1
 have nd1:=nda.1
 have nd2:=nda.2.1
 have bi:∀b∈fp t g,b∈bj ρ e r:=fun b hb=>by rw[q6];simp[hb]
 have bp:∀b∈e.pb r,b∈bj ρ e r:=fun b hb=>by rw[q6];simp[hb]
 have ba:∀A,ad=some A→A.block∈bj ρ e r:=fun A hA=>by rw[q6,hA];simp
 have hAn:∀A,ad=some A→A.block∉fp t g:=fun A hA hm=>nda.2.2 A.block (by simp[hA]) _ hm rfl
 have hAp:∀A,ad=some A→A.block∉e.pb r:=fun A hA hm=>ndp.2.2 A.block (by simp[hA]) _ hm rfl
 have hpg:∀b∈e.pb r,b∉fp t g:=fun b hb hm=>ndp.2.2 b (by simp[hm]) _ hb rfl
 have bsub:∀b,b∈fp s.t s.g∨b∈e.pb r→b∈fp t g∨b∈e.pb r:=fun b hb=>hb.imp (hL.sub b) id
 have bsp:∀b,b∈fp s.t s.g∨b∈e.pb r→b∈bj ρ e r:=fun b hb=>(bsub b hb).elim (bi b) (bp b)
 have hBr:∀B,s.ad=some B→B.block∈bj ρ e r:=fun B hB=>by
  rcases hL.iV hB with⟨_,A,hA,hAB⟩|⟨hn,_⟩
  ·rw[hAB];exact ba A hA
  ·exact bi _ (hL.LN hB hn)
 obtain⟨rest,hpr,hBin⟩:=hL.perm
 have ndsr:=List.nodup_append.1 (bg hpr nd2)
 -- the header's own block is none of the list's
 have hBn:∀B,s.ad=some B→∀b,(b∈fp s.t s.g∨b∈e.pb r)→B.block≠b:=fun B hB b hb e0=>by
  rcases hL.iV hB with⟨_,A,hA,hAB⟩|⟨hn,_⟩
  ·rw[hAB]at e0
   rcases bsub b hb with h1|h1
   ·exact hAn A hA (by rw[e0];exact h1)
   ·exact hAp A hA (by rw[e0];exact h1)
  ·obtain⟨B',e1,h2,_⟩:=hBin hn
   rw[hB]at e1;cases e1
   rcases hb with hb|hb
   ·exact ndsr.2.2 b hb _ h2 e0.symm
   ·exact hpg b hb (by rw[←e0];exact hpr.mem_iff.2 (by simp[h2]))
 have hKc:∀b,KS b→∀o,w'.cell? ⟨b,o,none⟩=w.cell? ⟨b,o,none⟩:=fun b hb=>(hsame b (h.lt b hb) fun B hB e=>h.ks r _ (hBr B hB) (by rw[e];exact hb)).2.2
 have hXs:∀b,X b→bH w w' b:=fun b hb=>hsame b (h.blt r b (bsp b (hX b hb).1)) fun B hB=>hBn B hB b (hX b hb).1
 have hKXc:∀b,(KS b∨X b)→∀o,w'.cell? ⟨b,o,none⟩=w.cell? ⟨b,o,none⟩:=fun b hb=>hb.elim (hKc b) fun hb=>(hXs b hb).2.2
 have hsN:∀n,n≠r→∀b∈bj ρ e n,bH w w' b:=fun n hn b hb=>hsame b (h.blt n b hb) fun B hB e=>h.dj n r hn b hb (by rw[←e];exact hBr B hB)
 have okg':bM w' (fun b=>(KS b∨X b)∨b∈dr) t' g':=eO (fun b hb=> .inl hb) hKXc (fun b hb=>hsame b (h.blt r b (bsp b (hfp b hb))) fun B hB=>hBn B hB b (hfp b hb)) hok'
 have hT:bM w' (fun b=>(KS b∨X b)∨b∈dr) T G:=P.ok w' _ (fun b hb=> .inl (.inl hb)) (fun b hb=> .inr hb) okg' hKc nd2 hAn
  (fun b hb hns hB=>hsame b (h.blt r b (bi b hb)) hB) (fun B hB _=>hin B hB)
 have hlen':(cl t' g').length=s.t.sz:=by rw[bc _ _ hok',P.N8]
 have hlens:(cl s.t s.g).length=s.t.sz:=bc _ _ hL.ok
 have hrow:∀A,ad=some A→cz w' A (cl T G):=fun A hA=>by
  have hr0:=(q4 A hA).2
  cases hn:pI π with
  |true=>
   obtain⟨pre,post,e1,e2,e3⟩:=P.out hn
   rw[e3];rw[e1]at hr0
   refine K5 hr0 ?_ (by rw[hlen',hlens])
   rw[hA]at e2
   have:=hin _ e2
   rw[hlens];exact this
  |false=>
   rw[P.Oi hn]
   refine bH.row (hsame A.block (h.blt r _ (ba A hA)) fun B hB e=> ?_) hr0
   exact hAn A hA (by rw[←e];exact hL.LN hB hn)
 -- what the blocks come to
 have hpm:(rest++fp t' g').Perm (fp T G++dr):=by
  have h1:(fp s.t s.g++(rest++fp t' g')).Perm (fp s.t s.g++(fp T G++dr)):=by
   rw[←List.append_assoc]
   refine(List.Perm.append_right _ hpr.symm).trans (P.perm.trans ?_)
   rw[←List.append_assoc,←List.append_assoc]
   exact List.Perm.append_right _ List.perm_append_comm
  exact(List.perm_append_left_iff _).1 h1
 have ndall:(rest++fp t' g').Nodup:=List.nodup_append.2 ⟨ndsr.2.1,hnd,fun a ha b hb e0=>by
  subst e0
  rcases hfp a hb with h1|h1
  ·exact ndsr.2.2 a h1 a ha rfl
  ·exact hpg a h1 (hpr.mem_iff.2 (by simp[ha]))⟩
 obtain⟨ndT1,ndT2,ndT3⟩:=List.nodup_append.1 (bg hpm ndall)
 have hTsub:∀b,b∈fp T G∨b∈dr→b∈rest∨b∈fp t' g':=fun b hb=>by
  have:b∈rest++fp t' g':=hpm.mem_iff.2 (by simpa using hb)
  simpa using this
 have hsrc:∀b,b∈fp T G∨b∈dr→b∈fp t g∨b∈e.pb r:=fun b hb=>by
  rcases hTsub b hb with h1|h1
  ·exact .inl (hpr.mem_iff.2 (by simp[h1]))
  ·exact bsub b (hfp b h1)
 have hsrc':∀b,b∈fp T G∨b∈dr→b∈bj ρ e r:=fun b hb=>(hsrc b hb).elim (bi b) (bp b)
 have hbr:bj ρ' (e.put r ⟨ad,T,G⟩) r=(ad.map (·.block)).toList++fp T G:=by simp[bj,hρr,av.put]
 have hAT:∀A,ad=some A→A.block∉fp T G∧A.block∉dr:=fun A hA=>by
  constructor<;>intro hm
  ·rcases hsrc _ (.inl hm)with h1|h1
   ·exact hAn A hA h1
   ·exact hAp A hA h1
  ·rcases hsrc _ (.inr hm)with h1|h1
   ·exact hAn A hA h1
   ·exact hAp A hA h1
 have hpinr:∀A,c.cD r=some A→ad=some A:=fun A hA=>by
  obtain⟨_,h2⟩:=h.cD r A hA
  obtain⟨⟨g2,h3⟩,_⟩:=h2 _ _ _ _ hr
  rw[hg]at h3
  injection h3 with h3
  exact congrArg eY.ad h3
 refine h.step (S:=fun n=>n=r) nh
  {reads:= ?_
   out:= ?_
   same:= ?_
   size:=hz
   roots:= ?_
   nd:= ?_
   dj:=fun n m hn hm hnm=>absurd (hn.trans hm.symm) hnm
   src:= ?_
   DP:= ?_
   HX:= ?_
   cD:= ?_
   eo:= ?_
   GZ:= ?_}
 ·refine Reads.put (S:=fun n=>n=r) h nh hr hg q3 hsp hl P hK hT hρr (by simp[av.put]) ?_ ?_ ?_ (fun b hb=> .inl (.inl hb)) hKc
  ·intro n hn hnr;exact absurd hn hnr
  ·intro n hn hnr;exact hρ n hnr
  ·intro n hn hnr;exact⟨by simp[av.put,hnr],rfl,rfl⟩
 ·intro n hn
  exact⟨hρ n hn,by simp[av.put,hn],rfl,rfl,by simp[av.put,hn]⟩
 ·intro n hn b hb
  exact hsN n hn b hb
 ·intro n hn
  subst hn
  simp only[bC,hρr]
  refine⟨ad,G,by simp[av.put],rfl,hT,fun hre=> ?_,fun hre=> ?_,by simp[av.put]⟩
  ·obtain⟨A,hA⟩:=q5 hre
   exact⟨A,hA,hrow A hA⟩
  ·cases hA:ad with
   |none=>rfl
   |some A=>have:=(q4 A hA).1;rw[hre]at this;cases this
 ·intro n hn
  subst hn
  rw[hbr]
  refine List.nodup_append.2 ⟨nd1,ndT1,fun a ha b hb e=> ?_⟩
  cases hA:ad with
  |none=>rw[hA]at ha;simp at ha
  |some A=>
   rw[hA]at ha
   simp at ha
   subst ha;subst e
   exact(hAT A hA).1 hb
 ·intro n hn b hb
  subst hn
  rw[hbr]at hb
  right
  refine⟨n,rfl, ?_,.inl rfl⟩
  rcases List.mem_append.1 hb with hb|hb
  ·rw[q6];simp only[List.mem_append];exact .inl (.inl hb)
  ·exact hsrc' b (.inl hb)
 ·intro b hb
  have key:b∈fp t g∨b∈e.pb r→KS b∨(w.heap.size≤b∧b<w'.heap.size)∨∃m,m=r∧b∈bj ρ e m∧∀A,c.cD m=some A→A.block≠b:=fun hb=>by
   refine .inr (.inr ⟨r,rfl,hb.elim (bi b) (bp b),fun A hA e=> ?_⟩)
   have hAd:=hpinr A hA
   rcases hb with hb|hb
   ·exact hAn A hAd (by rw[e];exact hb)
   ·exact hAp A hAd (by rw[e];exact hb)
  rcases hb with(hb|hb)|hb
  ·exact .inl hb
  ·exact key (bsub b (hX b hb).1)
  ·exact key (hsrc b (.inr hb))
 ·intro n hn b hb hk
  subst hn
  rw[hbr]at hb
  rcases List.mem_append.1 hb with hb|hb
  ·have hb':b∈bj ρ e n:=by rw[q6];simp only[List.mem_append];exact .inl (.inl hb)
   cases hA:ad with
   |none=>rw[hA]at hb;simp at hb
   |some A=>
    rw[hA]at hb;simp at hb;subst hb
    rcases hk with(hk|hk)|hk
    ·exact h.ks n _ hb' hk
    ·rcases bsub _ (hX _ hk).1 with h1|h1
     ·exact hAn A hA h1
     ·exact hAp A hA h1
    ·exact(hAT A hA).2 hk
  ·rcases hk with(hk|hk)|hk
   ·exact h.ks n b (hsrc' b (.inl hb)) hk
   ·obtain⟨h1,h2⟩:=hX b hk
    rcases hTsub b (.inl hb)with h3|h3
    ·rcases h1 with h1|h1
     ·exact ndsr.2.2 b h1 b h3 rfl
     ·exact hpg b h1 (hpr.mem_iff.2 (by simp[h3]))
    ·exact h2 h3
   ·exact ndT3 b hb b hk rfl
 ·intro n hn A hA
  subst hn
  obtain⟨h1,h2⟩:=h.cD n A hA
  obtain⟨⟨g2,h3⟩,h4⟩:=h2 _ _ _ _ hr
  have hAd:=hpinr A hA
  refine⟨fun q hq=>(by rw[hρr]at hq;cases hq),fun re' t'' x'' pd'' hd'=> ?_⟩
  rw[hρr]at hd';cases hd'
  exact⟨⟨G,by simp[av.put,hAd]⟩,by rw[P.sz];exact h4⟩
 ·intro n hn hh' hp re' t'' x'' pd'' hd'
  subst hn
  obtain⟨te,gl,e1,e2⟩:=h.eo n hh' hp _ _ _ _ hr
  rw[hg]at e1
  injection e1 with e1
  injection e1 with e3 e4 e5
  subst e4
  cases e5
  subst e3
  have hTe:=P.R6 te rfl (hhdr hh' hp)
  subst hTe
  have hne':=hhdr hh' hp
  obtain⟨sq',k1,k2⟩:=P.N4 [] _ (aD _ _ _) (fun q e=>hne' (by
   cases π with
   |nil=>rfl
   |cons a b=>simp at e))
  obtain⟨gl',k3,k4,k5,k6⟩:=k2.list te gl rfl
  rw[aD]at k1
  injection k1 with k1
  rw[k3]at k1
  have:G=gl':=by injection k1
  refine⟨te,G,by simp[av.put], ?_⟩
  rw[e2,this,k4,k5,k6]
 ·intro b hb
  by_cases hB:∃B,s.ad=some B∧B.block=b
  ·obtain⟨B,hB,rfl⟩:=hB
   rcases h.may r _ (hBr B hB)with h1|h1|⟨A,h1,h2⟩
   ·exact .inr (.inl h1)
   ·exact .inr (.inr (.inl h1))
   ·obtain⟨i1,⟨i2,i3,_⟩,i4⟩:=hin B hB
    obtain⟨_,h3⟩:=h.cD r A h1
    obtain⟨⟨g2,h4⟩,h5⟩:=h3 _ _ _ _ hr
    rw[hg]at h4
    injection h4 with h4
    have hAd:ad=some A:=congrArg eY.ad h4
    refine .inr (.inr (.inr ⟨i1,i2,(fun o ho=>i3 o fun hh=>ho ?_),i4⟩))
    rcases hL.iV hB with⟨hn,_⟩|⟨hn,_⟩
    ·obtain⟨pre,post,e1,e2,_⟩:=P.out hn
     rw[hB,hAd]at e2
     injection e2 with e2
     have hlen:=bc t g q3
     rw[e1]at hlen
     simp only[List.length_append,hlens]at hlen
     rw[←h2]
     refine h5 o ?_ ?_
     ·have:=hh.1;rw[e2]at this;simp only[Addr.plus]at this;omega
     ·have:=hh.2;rw[e2]at this;simp only[Addr.plus]at this;omega
    ·exact absurd (by rw[h2];exact hL.LN hB hn) (hAn A hAd)
  ·exact .inl (hsame b hb fun B hB' e=>hB ⟨B,hB',e⟩)
end
section
theorem jU:∀{p q:Path} {u:Unit},(yC p q).run=some u→p=q
 |[],[],_,_=>rfl
 | .L::p,.L::q,u,h=>by rw[jU (p:=p) (q:=q) (u:=u) h]
 | .R::p,.R::q,u,h=>by rw[jU (p:=p) (q:=q) (u:=u) h]
 | .I i::p,.I j::q,u,h=>by
  replace h:=Cm.cC h;obtain⟨h1,h⟩:=h
  rw[h1,jU (p:=p) (q:=q) (u:=u) h]
 | .A i::p,.A j::q,u,h=>by
  replace h:=Cm.cC h;obtain⟨h1,h⟩:=h
  rw[h1,jU (p:=p) (q:=q) (u:=u) h]
 |[],a::_,_,h=>by cases a<;>cases h
 |a::_,[],_,h=>by cases a<;>cases h
 | .L::_,.R::_,_,h| .L::_,.I _::_,_,h| .L::_,.A _::_,_,h| .R::_,.L::_,_,h| .R::_,.I _::_,_,h| .R::_,.A _::_,_,h
 | .I _::_,.L::_,_,h| .I _::_,.R::_,_,h| .I _::_,.A _::_,_,h| .A _::_,.L::_,_,h| .A _::_,.R::_,_,h| .A _::_,.I _::_,_,h=>by cases h
section
variable {P:Program} {τ:dM} {E:Env} {c:Ctx} {KS:Nat→Prop} {e:av} {F:Fs} {ρ ρ':af} {w w':World}
theorem EW(hC:cy τ c)(h:Inv c KS e F ρ w){p:Place}{s:dN}{A:Addr}{re:Bool}{tr:Ty}{y:tr.D}{pd:Option (Path×(te:Ty)×List te.D)}(hb:ah ρ p.r=some (.data re tr y pd))(hs:aC e p=some s)(hA:s.ad=some A)
  {t0:TypeId} {t:Ty} (hT:j8 P t0 t) {t':Ty} (hl':t'.dA=true) (hsame:t'.same t=true) {g':t'.G} {v:Value} (hv:v.cells=(cl t' g').toArray)
  (hfp:∀b∈fp t' g',b∈fp s.t s.g∨b∈e.pb p.r) (hnd:(fp t' g').Nodup) {X:Nat→Prop} (hX:∀b,X b→(b∈fp s.t s.g∨b∈e.pb p.r)∧b∉fp t' g') (hok':bM w (fun b=>KS b∨X b) t' g')
  {up:List (Nat×Option eP)} (hw:(KI ρ p ⟨t',er t' g'⟩).run=some up):
  ∃w',(Instr.storeAt t0 (.pointer (some A)) v).run P w= .ok () w'∧aR c KS F ρ {rv:= .cL,rs:=up++[],kill:=[]++[bif t'.DT then .sc p else .hd p]} undef w':=by
 have hsc:t'.DT=false:=by cases t'<;>first|rfl|cases hl'
 rw[hsc]
 simp only[KI,hb]at hw
 replace hw:=Cm.ae hw;obtain⟨z,hz,hw⟩:=hw
 injection hw with hw;subst hw
 have hP:=h.gd [.hd p]
 obtain⟨ad,g,q1,q2,q3,q4,q5,q6⟩:=h.root hb
 subst q2
 have hl:loc tr g ad p.π=some s:=by simpa only[aC,q1,Option.bind_some]using hs
 have hsp:∀A,ad=some A→A.spot=none:=fun A hA=>(q4 A hA).2.1
 obtain⟨G,dr,z1,PG⟩:=Nb p.π tr g ad s t' g' z hl hsp q3 hz
 obtain⟨sok,srow⟩:=ch h ⟨re,tr,_,pd,hb⟩ hs
 have hrow:=srow A hA
 have hlen:(cl t' g').length=(cl s.t s.g).length:=by rw[bc _ _ hok',bc _ _ sok,PG.N8]
 have hone:=oD _ _ hok'
 have hstore:=sx (P:=P) hT hrow (by rw[bc _ _ sok,←PG.N8,Ty.bm hsame]) (by rw[bc _ _ hok',Ty.bm hsame]) hone hv
 refine⟨w.setCells A.block A.off (cl t' g'), ?_, ?_⟩
 ·simp only[Instr.storeAt,Instr.sureAddr,Sem.run_bind,Sem.run_pure,Result.andThen_ok]
  exact hstore
 ·have hcov:Ca [.hd p] p.r p.π t':= .inl ⟨by simp,.inl fun n hn=>by rw[hn]at hl';cases hl'⟩
  have hF:=Inv.RO (ρ':=(p.r,some (.data re z.1 z.2 none))::ag [.hd p] ρ) (w':=w.setCells A.block A.off (cl t' g')) hP.1 hP.2 (bJ hb) q1 hl PG hcov hfp hnd hX hok'
   (by rw[ay,z1]) (fun n h1=>by rw[aw h1])
   (fun b _ hB=>lP (hB A hA)) (iW _ _ _ _)
   (fun B hB=>by
    rw[hA]at hB;cases hB
    have:=kq hrow hlen
    rw[hlen,bc _ _ sok]at this
    exact this)
   (fun hh' hq e0=>by
    obtain⟨te,gl,r1,_⟩:=h.eo p.r hh' hq _ _ _ _ hb
    rw[q1]at r1
    injection r1 with r1
    have hA0:ad=none:=congrArg eY.ad r1
    rw[e0,aD]at hl
    injection hl with hl
    have:s.ad=ad:=by rw[←hl]
    rw[hA,hA0]at this;cases this)
  exact⟨_,_,fun b hb=> .inl (.inl hb),trivial,hF⟩
theorem LY(hC:cy τ c)(h:Inv c KS e F ρ w){p q:Place}{va v:Value}(hp:bf w KS ρ e (.rf p) va)(hx:bf w KS ρ e (.ap q) v){bound t0:Nat}{t:Ty}(hT:j8 P t0 t){ef:jM}
  (hc:(cU E bound t0 t ρ p (.ap q)).run=some ef):∃w',(Instr.storeAt t0 va v).run P w= .ok () w'∧aR c KS F ρ ef undef w':=by
 simp only[cU]at hc
 replace hc:=Cm.aG hc;obtain⟨hqp,hc⟩:=hc
 have hqp:=Nat.eq_of_beq_eq_true hqp
 split at hc
 ·rename_i re tr y hh tm m hb
  replace hc:=Cm.ae hc;obtain⟨u,hu,hc⟩:=hc
  have hpe:=jU hu
  subst hpe
  replace hc:=Cm.ae hc;obtain⟨vv,hv,hc⟩:=hc
  split at hc
  ·rename_i te l
   replace hc:=Cm.run_get hc;obtain⟨l',hl',hc⟩:=hc
   replace hc:=Cm.run_get hc;obtain⟨m',hm',hc⟩:=hc
   replace hc:=Cm.aG hc;obtain⟨hchk,hc⟩:=hc
   replace hc:=Cm.ae hc;obtain⟨up,hw,hc⟩:=hc
   injection hc with hc;subst hc
   simp only[Bool.and_eq_true]at hchk
   generalize jd te tm=tj at*
   obtain⟨s,A,k1,k2,rfl⟩:=hp
   have hroot:=h.roots p.r
   simp only[bC,hb]at hroot
   obtain⟨ad,g,q1,q2,q3,q4,q5,hpe⟩:=hroot
   subst q2
   have hdat:hasData ρ p.r:=⟨_,_,_,_,hb⟩
   rw[eI hdat]at k1
   have hl:loc tr g ad p.π=some s:=by simpa only[aC,q1,Option.bind_some]using k1
   obtain⟨s0,hl0,hd0⟩:=ov p.π tr g ad _ hv
   rw[hl]at hl0;cases hl0
   obtain⟨tl,gl,a,hl1,mr,her,hmok,hsz,halt⟩:=hpe
   rw[hl]at hl1;cases hl1
   cases hd0
   obtain⟨⟨_,_,_,_,_⟩,hvv⟩:=hx
   rw[hqp]at hvv
   obtain⟨sok,_⟩:=ch h hdat k1
   have sok':bM w KS (.list true te) gl:=sok
   obtain⟨rows0,dr0,a1,a2,a3,a4,a5,a6⟩:=AP hl' gl.rows rfl
   obtain⟨rows1,dr1,b1,b2,b3,b4,b5,b6⟩:=AP hm' mr her
   have hgrows:∀r∈gl.rows,bM w KS te r:=by
    rcases sok' with⟨_,h2⟩|⟨_,_,_,_,_,_,_,h6⟩
    ·rw[h2];simp
    ·exact h6
   have hlenm:m.length=mr.length:=by rw[←her];simp
   -- blocks
   have nd:=h.nd p.r
   have hbl:bj ρ e p.r=(ad.map (·.block)).toList++fp tr g++e.pb p.r:=by simp only[bj,hb,q1]
   rw[hbl]at nd
   have ndp:=List.nodup_append.1 nd
   have hsp:∀A,ad=some A→A.spot=none:=fun A hA=>by
    cases re with
    |true=>obtain⟨A',hA',hrow⟩:=q4 rfl;rw[hA]at hA';cases hA';exact hrow.1
    |false=>rw[q5 rfl]at hA;cases hA
   have hL:=fc p.π tr g ad _ hl hsp q3
   obtain⟨rest0,hpr,_⟩:=hL.perm
   have ndl:(fp (.list true te) gl).Nodup:=(List.nodup_append.1 (bg hpr (List.nodup_append.1 ndp.1).2.1)).1
   have hpg:∀b∈e.pb p.r,b∉fp (.list true te) gl:=fun b hb1 hm1=>ndp.2.2 b (by simp[hL.sub b hm1]) b hb1 rfl
   -- which blocks the rows have
   have hrowsfp:∀b∈gl.rows.flatMap (fp te),b∈fp (.list true te) gl:=fun b hb1=>by
    rcases sok' with⟨_,h2⟩|⟨b0,_,h1,h2,_⟩
    ·rw[show gl.rows=[]from h2]at hb1;cases hb1
    ·simp only[fp,show gl.ad=some ⟨b0,0,none⟩from h1,show gl.cap≠0 by omega,if_false]
     exact List.mem_cons_of_mem _ hb1
   have in0:∀b,b∈rows0.flatMap (fp tj)∨b∈dr0→b∈gl.rows.flatMap (fp te):=fun b hb=>a2.mem_iff.2 (List.mem_append.2 hb)
   have in1:∀b,b∈rows1.flatMap (fp tj)∨b∈dr1→b∈mr.flatMap (fp tm):=fun b hb=>b2.mem_iff.2 (List.mem_append.2 hb)
   have ndrows:(gl.rows.flatMap (fp te)).Nodup:=by
    rcases sok' with⟨_,h2⟩|⟨b0,_,h1,h2,_⟩
    ·rw[show gl.rows=[]from h2];simp
    ·have:=ndl
     simp only[fp,show gl.ad=some ⟨b0,0,none⟩from h1,show gl.cap≠0 by omega,if_false]at this
     exact(List.nodup_cons.1 this).2
   have nd3:=List.nodup_append.1 (bg a2 ndrows)
   -- in one form
   obtain⟨adN,capN,rfl,hmrpb,hres⟩:∃adN capN,v= .slice adN (gl.rows.length+m.length) capN∧(∀b∈mr.flatMap (fp tm),b∈e.pb p.r)∧
     ((capN=0∧gl.rows.length+m.length=0)∨∃b rest,adN=some ⟨b,0,none⟩∧0<capN∧gl.rows.length+m.length≤capN∧Block w b (gl.rows.flatMap (cl te)++mr.flatMap (cl tm)++rest)∧(gl.rows.flatMap (cl te)++mr.flatMap (cl tm)++rest).length=capN*te.sz∧
      ((gl.ad=some ⟨b,0,none⟩∧0<gl.cap∧e.pb p.r=mr.flatMap (fp tm))∨e.pb p.r=b::mr.flatMap (fp tm))):=by
    rcases halt with⟨h1,h2,h3,h4⟩|⟨b,rest,h1,h2,h3,h4,h5,h6,h7⟩|⟨b,rest,cap,h1,h2,h3,h4,h5,h6⟩
    ·have hm0:mr=[]:=List.eq_nil_of_length_eq_zero (by rw[←hlenm,h2];rfl)
     have hg0:gl.rows.length=0:=by
      rcases sok' with⟨_,q⟩|⟨_,_,_,q,_⟩
      ·rw[show gl.rows=[]from q];rfl
      ·omega
     refine⟨gl.ad,0,by rw[hvv,h3,hg0,h2];rfl,by rw[hm0];simp,.inl ⟨rfl,by rw[hg0,h2];rfl⟩⟩
    ·exact⟨gl.ad,gl.cap,by rw[hvv,h2],by rw[h7];simp,.inr ⟨b,rest,h1,h3,h4,h5,h6,.inl ⟨h1,h3,h7⟩⟩⟩
    ·exact⟨some ⟨b,0,none⟩,cap,by rw[hvv,h1],fun x hx=>by rw[h6];exact List.mem_cons_of_mem _ hx,.inr ⟨b,rest,rfl,h2,h3,h4,h5,.inr h6⟩⟩
   have ndmr:(mr.flatMap (fp tm)).Nodup:=by
    rcases halt with⟨h1,h2,h3,h4⟩|⟨b,rest,h1,h2,h3,h4,h5,h6,h7⟩|⟨b,rest,cap,h1,h2,h3,h4,h5,h6⟩
    ·have hm0:mr=[]:=List.eq_nil_of_length_eq_zero (by rw[←hlenm,h2];rfl)
     rw[hm0];simp
    ·have:=ndp.2.1;rw[h7]at this;exact this
    ·have:=ndp.2.1;rw[h6]at this;exact(List.nodup_cons.1 this).2
   have nd4:=List.nodup_append.1 (bg b2 ndmr)
   let G:ck tj.G:=⟨adN,capN,rows0++rows1⟩
   have hlenN:(rows0++rows1).length=gl.rows.length+m.length:=by simp[a3,b3,hlenm]
   have hcells:(rows0++rows1).flatMap (cl tj)=gl.rows.flatMap (cl te)++mr.flatMap (cl tm):=by rw[List.flatMap_append,a4,b4]
   have hfpG:∀b∈fp (.list true tj) G,((b∈fp (.list true te) gl∧(b∈rows0.flatMap (fp tj)∨b∉gl.rows.flatMap (fp te)))∨(b∈e.pb p.r∧(b∈rows1.flatMap (fp tj)∨b∉mr.flatMap (fp tm)))):=fun b hb1=>by
    simp only[fp,G]at hb1
    rcases hres with⟨h1,_⟩|⟨b',rest,h1,h2,h3,h4,h5,h6⟩
    ·cases adN<;>simp[h1]at hb1
    ·simp only[h1,show capN≠0 by omega,if_false,List.flatMap_append]at hb1
     rcases List.mem_cons.1 hb1 with rfl|hb1
     ·rcases h6 with⟨h7,h8,_⟩|h7
      ·left
       have hfpl:fp (.list true te) gl=b::gl.rows.flatMap (fp te):=by simp[fp,h7,show gl.cap≠0 by omega]
       rw[hfpl]at ndl
       exact⟨by rw[hfpl];simp,.inr (List.nodup_cons.1 ndl).1⟩
      ·right
       have:=ndp.2.1
       rw[h7]at this
       exact⟨by rw[h7];simp,.inr (List.nodup_cons.1 this).1⟩
     ·rcases List.mem_append.1 hb1 with hb1|hb1
      ·exact .inl ⟨hrowsfp b (in0 b (.inl hb1)),.inl hb1⟩
      ·exact .inr ⟨hmrpb b (in1 b (.inl hb1)),.inl hb1⟩
   have hndG:(fp (.list true tj) G).Nodup:=by
    simp only[fp,G]
    rcases hres with⟨h1,_⟩|⟨b',rest,h1,h2,h3,h4,h5,h6⟩
    ·cases adN<;>simp[h1]
    ·simp only[h1,show capN≠0 by omega,if_false,List.flatMap_append]
     refine List.nodup_cons.2 ⟨fun hm=> ?_,List.nodup_append.2 ⟨nd3.1,nd4.1,fun a ha b hb1 e0=> ?_⟩⟩
     ·rcases h6 with⟨h7,h8,h9⟩|h7
      ·have hfpl:fp (.list true te) gl=b'::gl.rows.flatMap (fp te):=by simp[fp,h7,show gl.cap≠0 by omega]
       rcases List.mem_append.1 hm with hm|hm
       ·rw[hfpl]at ndl
        exact(List.nodup_cons.1 ndl).1 (in0 b' (.inl hm))
       ·exact hpg b' (hmrpb b' (in1 b' (.inl hm))) (by rw[hfpl];simp)
      ·rcases List.mem_append.1 hm with hm|hm
       ·exact hpg b' (by rw[h7];simp) (hrowsfp b' (in0 b' (.inl hm)))
       ·have:=ndp.2.1
        rw[h7]at this
        exact(List.nodup_cons.1 this).1 (in1 b' (.inl hm))
     ·subst e0
      exact hpg a (hmrpb a (in1 a (.inl hb1))) (hrowsfp a (in0 a (.inl ha)))
   have hrowsOK:∀r∈rows0++rows1,bM w (fun b=>KS b∨b∈dr0∨b∈dr1) tj r:=fun r hr=>by
    rcases List.mem_append.1 hr with hr|hr
    ·exact a6 w KS _ (fun b hb=> .inl hb) (fun b hb=> .inr (.inl hb)) hgrows r hr
    ·exact b6 w KS _ (fun b hb=> .inl hb) (fun b hb=> .inr (.inr hb)) hmok r hr
   have hGok:bM w (fun b=>KS b∨b∈dr0∨b∈dr1) (.list true tj) G:=by
    rcases hres with⟨h1,h2⟩|⟨b,rest,h1,h2,h3,h4,h5,h6⟩
    ·exact .inl ⟨h1,List.eq_nil_of_length_eq_zero (by show(rows0++rows1).length=0;omega)⟩
    ·refine .inr ⟨b,rest,h1,h2,by show(rows0++rows1).length≤capN;omega, ?_, ?_,hrowsOK⟩
     ·show Block w b ((rows0++rows1).flatMap (cl tj)++rest);rw[hcells];exact h4
     ·show((rows0++rows1).flatMap (cl tj)++rest).length=capN*tj.sz;rw[hcells,h5,a1]
   refine EW hC h hb k1 k2 hT (t':= .list true tj) rfl hchk.1 (g':=G) (X:=fun b=>b∈dr0∨b∈dr1) ?_ (fun b hb1=>(hfpG b hb1).imp And.left And.left) hndG (fun b hb1=> ?_) hGok ?_
   ·show(Value.slice adN (gl.rows.length+m.length) capN).cells=_
    rw[←hlenN];rfl
   ·rcases hb1 with hb1|hb1
    ·have hi:=in0 b (.inr hb1)
     refine⟨.inl (hrowsfp b hi),fun hG1=> ?_⟩
     rcases hfpG b hG1 with⟨_,h2|h2⟩|⟨h2,_⟩
     ·exact nd3.2.2 b h2 b hb1 rfl
     ·exact h2 hi
     ·exact hpg b h2 (hrowsfp b hi)
    ·have hi:=in1 b (.inr hb1)
     refine⟨.inr (hmrpb b hi),fun hG1=> ?_⟩
     rcases hfpG b hG1 with⟨h2,_⟩|⟨_,h2|h2⟩
     ·exact hpg b (hmrpb b hi) h2
     ·exact nd4.2.2 b h2 b hb1 rfl
     ·exact h2 hi
   ·have e1:(⟨.list true tj,(l'++m':List tj.D)⟩:eh)=⟨.list true tj,er (.list true tj) G⟩:=by
     simp[er,G,a5,b5]
    rw[←e1];simpa using hw
  ·cases hc
 ·cases hc
end
end
section
section
variable {P:Program} {τ:dM} {E:Env} {c:Ctx} {KS:Nat→Prop} {e:av} {F:Fs} {ρ ρ':af} {w w':World}
theorem Ln(hC:cy τ c)(h:Inv c KS e F ρ w){p q:Place}{n:Nat}{va v:Value}(hp:bf w KS ρ e (.rf p) va)(hx:bf w KS ρ e (.vw q 0 n) v){t0:Nat}{t:Ty}(hT:j8 P t0 t)
  {u:Unit} (hpq:(sB p q).run=some u) {o:Bool} {te:Ty} {l:List te.D} (hr:(sZ ρ q).run=some ⟨.list o te,l⟩) (hs:(Ty.list o te).same t=true) {up:List (Nat×Option eP)} (hw:(KI ρ p ⟨.list o te,(l.take n:List te.D)⟩).run=some up):
  ∃w',(Instr.storeAt t0 va v).run P w= .ok () w'∧aR c KS F ρ {rv:= .cL,rs:=up++[],kill:=[]++[bif (Ty.list o te).DT then .sc p else .hd p]} undef w':=by
 unfold sB at hpq
 replace hpq:=Cm.aG hpq;obtain⟨hpr0,hpq⟩:=hpq
 have hpπ:=jU hpq
 have hpr:=Nat.eq_of_beq_eq_true hpr0
 obtain⟨pr,pπ⟩:=p
 obtain⟨qr,qπ⟩:=q
 simp only at hpπ hpr
 subst hpπ
 subst hpr
 obtain⟨hd,tu,g,ad,hs',hlo,ad2,had2,rfl⟩:=hx
 obtain⟨s0,A,k1,k2,rfl⟩:=hp
 rw[eI hd,hs']at k1
 cases k1
 obtain⟨s1,hs1,he,_⟩:=jI h hr
 rw[dY hd,hs']at hs1;cases hs1
 cases he
 obtain⟨re,tr,y,pd,hb⟩:=hd
 have sok:bM w KS (.list true te) g:=(ch h ⟨re,tr,y,pd,hb⟩ hs').1
 simp only[Nat.sub_zero]
 have hax:g.cap≠0→ad2=g.ad:=fun hc=>by
  rcases sok with⟨q1,q2⟩|⟨b,rest,q1,q2,_⟩
  ·exact absurd q1 hc
  ·have q1':g.ad=some ⟨b,0,none⟩:=q1
   rw[had2 hc,q1'];simp[Addr.plus]
 let G:ck te.G:=⟨ad2,g.cap,g.rows.take n⟩
 have hfp:∀b∈fp (.list true te) G,b∈fp (.list true te) g:=fun b hb=>by
  by_cases hc:g.cap=0
  ·simp only[fp,G,hc]at hb
   cases ad2<;>simp at hb
  ·simp only[fp,G,hax hc]at hb ⊢
   cases hg:g.ad with
   |none=>rw[hg]at hb;cases hb
   |some a=>
    rw[hg]at hb
    simp only[hc,if_false]at hb ⊢
    rcases List.mem_cons.1 hb with hb|hb
    ·simp[hb]
    ·refine List.mem_cons_of_mem _ ?_
     obtain⟨x,hx,hb⟩:=List.mem_flatMap.1 hb
     exact List.mem_flatMap.2 ⟨x,List.mem_of_mem_take hx,hb⟩
 have nd:=h.nd pr
 have hbl:∃adr gr,e.gr pr=some ⟨adr,tr,gr⟩∧(fp tr gr).Nodup∧bM w KS tr gr∧∀A,adr=some A→A.spot=none:=by
  obtain⟨adr,gr,q1,q2,q3,q4,q5,q6⟩:=h.root hb
  rw[q6]at nd
  exact⟨adr,gr,q1,(List.nodup_append.1 (List.nodup_append.1 nd).1).2.1,q3,fun A hA=>(q4 A hA).2.1⟩
 obtain⟨adr,gr,q1,nd2,q3,qs⟩:=hbl
 have hl:loc tr gr adr pπ=some ⟨.list true te,g,some A⟩:=by
  have:=hs'
  simp only[aC,q1,Option.bind_some]at this
  rw[this]
  congr 1
  simp only at k2
  rw[k2]
 have hL:=fc pπ tr gr adr _ hl qs q3
 obtain⟨rest0,hpr,_⟩:=hL.perm
 have ndl:(fp (.list true te) g).Nodup:=(List.nodup_append.1 (bg hpr nd2)).1
 have hnd:(fp (.list true te) G).Nodup:=by
  by_cases hc:g.cap=0
  ·simp only[fp,G,hc]
   cases ad2<;>simp
  ·have:=ndl
   simp only[fp,G,hax hc]at this ⊢
   cases hg:g.ad with
   |none=>simp
   |some a=>
    rw[hg]at this
    simp only[hc,if_false]at this ⊢
    refine List.Sublist.nodup ?_ this
    refine List.Sublist.cons_cons _ ?_
    have e0:g.rows.flatMap (fp te)=(g.rows.take n).flatMap (fp te)++(g.rows.drop n).flatMap (fp te):=by rw[←List.flatMap_append,List.take_append_drop]
    rw[e0]
    exact List.sublist_append_left _ _
 have hok:bM w (fun b=>KS b∨False) (.list true te) G:=by
  rcases sok with⟨q1,q2⟩|⟨b,rest,q1,q2,q3,q4,q5,q6⟩
  ·refine .inl ⟨q1, ?_⟩
   have q2':g.rows=[]:=q2
   show g.rows.take n=[]
   rw[q2'];simp
  ·refine .inr ⟨b,(g.rows.drop n).flatMap (cl te)++rest,(hax (Nat.pos_iff_ne_zero.1 q2)).trans q1,q2, ?_, ?_, ?_, ?_⟩
   ·have:G.rows.length≤g.rows.length:=by simp[G];omega
    exact Nat.le_trans this q3
   ·have e1:G.rows.flatMap (cl te)++((g.rows.drop n).flatMap (cl te)++rest)=g.rows.flatMap (cl te)++rest:=by
     rw[←List.append_assoc,←List.flatMap_append,List.take_append_drop]
    rw[e1];exact q4
   ·have e1:G.rows.flatMap (cl te)++((g.rows.drop n).flatMap (cl te)++rest)=g.rows.flatMap (cl te)++rest:=by
     rw[←List.append_assoc,←List.flatMap_append,List.take_append_drop]
    rw[e1];exact q5
   ·intro x hx
    exact oH (fun b hb=> .inl hb) _ _ (q6 x (List.mem_of_mem_take hx))
 have hlen:G.rows.length=n:=by simp only[G,List.length_take];omega
 refine EW (p:=⟨pr,pπ⟩) hC h hb hs' k2 hT (t':= .list true te) rfl hs (g':=G) (X:=fun _=>False) ?_ (fun b hb=> .inl (hfp b hb)) hnd (fun b hb=>hb.elim) hok ?_
 ·show(Value.slice ad2 n g.cap).cells=_
  have:(cl (.list true te) G)=[.slice ad2 n g.cap]:=by
   show [Value.slice ad2 G.rows.length g.cap]=_
   rw[hlen]
  rw[this];rfl
 ·have e1:er (.list true te) G=(er (.list true te) g).take n:=by simp[er,G]
  rw[e1];exact hw
theorem Inv.Ql{ks:List aH}(h:Inv c KS e F ρ w)(nh:cn ks F ρ){r:Nat}(hk1: .hd ⟨r,[]⟩∈ks)(hk2: .gn ⟨r,[]⟩∈ks){t:Ty}{x:t.D}{pd:Option (Path×(te:Ty)×List te.D)}(hr:ah ρ r=some (.data true t x pd))
  {A:Addr} {g:t.G} (hg:e.gr r=some ⟨some A,t,g⟩) (hp:c.cD r=none) (hh:c.eo r=none) {q:Place} {s:dN} (hq:hasData ρ q.r) (hqr:q.r≠r) (hs:aC e q=some s)
  (hsame:∀b,b≠A.block→bH w w' b) (hz:dH w w') (hrow:cz w' A (cl s.t s.g))
  (hρr:ah ρ' r=some (.al q)) (hρ:∀n,n≠r→ah ρ' n=ah ρ n):Inv c KS {e with ud:=fun n=>if n=r then A else e.ud n} F ρ' w':=by
 obtain⟨ad0,g0,q1,q2,q3,q4,q5,q6⟩:=h.root hr
 rw[hg]at q1;cases q1
 have hAb:A.block∈bj ρ e r:=by rw[q6];simp
 have hbr:bj ρ' {e with ud:=fun n=>if n=r then A else e.ud n} r=[A.block]:=by simp only[bj,hρr,if_true]
 have hwl:∀p:Place,(∀k∈ks,hit k (.wl p)=false)→p.r≠r:=fun p hp e0=>Hi (hp _ hk1) e0 p.π rfl
 have hsv:∀p:Place,(∀k∈ks,hit k (.sv p)=false)→p.r≠r:=fun p hp e0=>(Hp (hp _ hk1) e0).1 p.π rfl
 have hKc:∀b,KS b→∀o,w'.cell? ⟨b,o,none⟩=w.cell? ⟨b,o,none⟩:=fun b hb=>(hsame b fun e0=>h.ks r _ hAb (e0▸hb)).2.2
 refine h.step (S:=fun n=>n=r) nh
  {reads:=Reads.of (fun b hb=>hb) hKc ?_ ?_ ?_ ?_ ?_
   out:=fun n hn=>⟨hρ n hn,rfl,by simp[show n≠r from hn],rfl,rfl⟩
   same:=fun n hn b hb=>hsame b fun e0=>h.dj n r hn b hb (by rw[e0];exact hAb)
   size:=hz
   roots:= ?_
   nd:=fun n hn=>by subst hn;rw[hbr];simp
   dj:=fun n m hn hm hnm=>absurd (hn.trans hm.symm) hnm
   src:=fun n hn b hb=>by
    subst hn;rw[hbr]at hb;simp at hb;subst hb
    exact .inr ⟨n,rfl,hAb,.inl rfl⟩
   DP:=fun b hb=> .inl hb
   HX:=fun n hn b hb hk=>by
    subst hn;rw[hbr]at hb;simp at hb;subst hb
    exact h.ks n _ hAb hk
   cD:=fun n hn A hA=>by subst hn;rw[hp]at hA;cases hA
   eo:=fun n hn A hA=>by subst hn;rw[hh]at hA;cases hA
   GZ:=fun b hb=> ?_}
 ·intro p hp hd _
  have hne:p.r≠r:=hp.elim (hwl p) (hsv p)
  simpa only[hasData,hρ _ hne]using hd
 ·intro p te gg a hp hd hsp
  exact⟨gg,hsp,rfl,rfl,rfl⟩
 ·intro p hp hd _;rfl
 ·intro p s' A' hp h1 h2
  by_cases hn:p.r=r
  ·have hπ:p.π=[]:=HD (hp _ hk2) hn p.π rfl
   simp only[bB,hn,hr]at h1
   simp only[aC,hn,hg,Option.bind_some,hπ,aD,Option.some.injEq]at h1
   subst h1
   simp only at h2
   refine⟨⟨s.t,s.g,some A⟩, ?_,h2⟩
   simp only[bB,hn,hρr,if_true,hπ]
   have:aC {e with ud:=fun n=>if n=r then A else e.ud n} q=some s:=hs
   rw[this]
   simp[aD,pI]
  ·refine⟨s', ?_,h2⟩
   simp only[bB,hρ _ hn]at h1 ⊢
   cases hb:ah ρ p.r with
   |none=>rw[hb]at h1;cases h1
   |some b=>
    rw[hb]at h1
    cases b with
    |data=>exact h1
    |al q'=>
     simp only[hn,if_false]at h1 ⊢
     exact h1
 ·intro p hp re' t' x' pe' hd
  have hn:p.r≠r:=fun e0=>by have:=hp _ hk1;simp[hit,e0]at this
  exact⟨⟨re',t',x',pe',by rw[hρ _ hn];exact hd⟩,rfl⟩
 ·intro n hn
  subst hn
  simp only[bC,hρr,if_true]
  refine⟨?_,s,hs,hrow⟩
  simpa only[hasData,hρ _ hqr]using hq
 ·by_cases hbA:b=A.block
  ·subst hbA
   rcases h.may r _ hAb with h1|h1|⟨A',h1,_⟩
   ·exact .inr (.inl h1)
   ·exact .inr (.inr (.inl h1))
   ·rw[hp]at h1;cases h1
  ·exact .inl (hsame b hbA)
theorem RE{tid:TypeId}{a b:Ty}(ha:j8 P tid a)(hb:j8 P tid b):a.sz=b.sz:=by
 obtain⟨_,h1⟩:=ha.fact
 obtain⟨_,h2⟩:=hb.fact
 obtain⟨i,_,q1,q2,_⟩:=h1.info
 obtain⟨j,_,p1,p2,_⟩:=h2.info
 rw[q1]at p1;cases p1
 rw[←q2,p2]
theorem Nu(hE:bZ P E)(hC:cy τ c)(h:Inv c KS e F ρ w){p:Place}{x:RV}{va v:Value}(hp:bf w KS ρ e (.rf p) va)(hx:bf w KS ρ e x v){bound t0:Nat}{t:Ty}(hT:j8 P t0 t){ef:jM}
  (hc:(cU E bound t0 t ρ p x).run=some ef):∃w',(Instr.storeAt t0 va v).run P w= .ok () w'∧aR c KS F ρ ef undef w':=by
 have tk:∀{r},((take ρ t x).bind fun(d,rs,kl)=>Cm.jm (d.1.same t&& !(aB kl ρ).any (fun k=>hit k (.rf p))) ((KI (rs++ρ) p d).bind fun up=>
   .ret {rv:= .cL,rs:=up++rs,kill:=kl++[bif d.1.DT then .sc p else .hd p]}:Cm jM)).run=some r→ef=r→∃w',(Instr.storeAt t0 va v).run P w= .ok () w'∧aR c KS F ρ ef undef w':=fun{r} hc e0=>by
  subst e0
  replace hc:=Cm.ae hc;obtain⟨⟨d,rs,kl⟩,htk,hc⟩:=hc
  replace hc:=Cm.aG hc;obtain⟨hchk,hc⟩:=hc
  replace hc:=Cm.ae hc;obtain⟨up,hw,hc⟩:=hc
  injection hc with hc;subst hc
  simp only[Bool.and_eq_true,Bool.not_eq_true']at hchk
  exact RN hC h hp hx htk hT hchk.1 hchk.2 hw
 cases x with
 |ap q=>exact LY hC h hp hx hT hc
 |vw q lo n=>
  cases lo with
  |succ k=>exact tk (by simpa only[cU]using hc) rfl
  |zero=>
   obtain⟨qr,qπ⟩:=q
   cases qπ with
   |nil=>exact tk (by simpa only[cU]using hc) rfl
   |cons a b=>
    simp only[cU]at hc
    replace hc:=Cm.ae hc;obtain⟨u,hpq,hc⟩:=hc
    replace hc:=Cm.ae hc;obtain⟨dd,hr,hc⟩:=hc
    split at hc
    ·replace hc:=Cm.aG hc;obtain⟨hchk,hc⟩:=hc
     replace hc:=Cm.ae hc;obtain⟨up,hw,hc⟩:=hc
     injection hc with hc;subst hc
     simp only[Bool.and_eq_true]at hchk
     exact Ln hC h hp hx hT hpq hr hchk.1 (by simpa using hw)
    ·cases hc
 |sv q=>
  obtain⟨pr,pπ⟩:=p
  cases pπ with
  |cons a b=>exact tk (by simpa only[cU]using hc) rfl
  |nil=>
   simp only[cU]at hc
   cases hl:l7 bound ρ q with
   |false=>rw[hl]at hc;exact tk (by simpa only[cond_false]using hc) rfl
   |true=>
    rw[hl]at hc
    simp only[cond_true]at hc
    split at hc
    ·rename_i tr y pd hb
     replace hc:=Cm.aG hc;obtain⟨hchk,hc⟩:=hc
     injection hc with hc;subst hc
     simp only[Bool.and_eq_true,Bool.not_eq_true',Nat.ble_eq]at hchk
     obtain⟨h1,h2,h3,h4⟩:=hchk
     obtain⟨hq,s,hs,hnl,rfl⟩:=hx
     rw[dY hq]at h1 h4 ⊢
     have hne:q.r≠pr:=fun e0=>by rw[e0,Nat.beq_refl]at h4;cases h4
     obtain⟨u,hu,hsame⟩:=ea hE h h1 hs
     obtain⟨ad,g,q1,q2,q3,q4,q5,q6⟩:=h.root hb
     subst q2
     obtain⟨A,rfl⟩:=q5 rfl
     have hrow:=(q4 A rfl).2
     have hsp:aC e ⟨pr,[]⟩=some ⟨tr,g,some A⟩:=by simp only[aC,q1,Option.bind_some,aD]
     obtain⟨u',hu',hlike⟩:=rZ hE h h2 hsp
     obtain⟨s0,A0,k1,k2,rfl⟩:=hp
     rw[eI ⟨true,tr,_,pd,hb⟩,hsp]at k1
     cases k1
     cases k2
     obtain⟨sok,_⟩:=ch h hq hs
     have hszs:s.t.sz=u.sz:=Ty.bm hsame
     have hszt:tr.sz=u.sz:=by rw[IG hlike,RE hu' hu]
     have hlen:(cl s.t s.g).length=(cl tr g).length:=by rw[bc _ _ sok,bc _ _ q3,hszs,hszt]
     have hone:=oD _ _ sok
     have hstore:=sx (P:=P) hu hrow (by rw[bc _ _ q3,hszt]) (by rw[bc _ _ sok,hszs]) hone (nH (bc _ _ sok) hone)
     obtain⟨hpin,hhdr⟩:=hC.none h3
     refine⟨w.setCells A.block A.off (cl s.t s.g), ?_,KS,{e with ud:=fun n=>if n=pr then A else e.ud n},fun _ h=>h,trivial, ?_⟩
     ·simp only[Instr.storeAt,Instr.sureAddr,Sem.run_bind,Sem.run_pure,Result.andThen_ok]
      exact hstore
     ·have hP:=h.gd [.hd ⟨pr,[]⟩,.gn ⟨pr,[]⟩]
      have hin:=kq hrow hlen
      refine hP.1.Ql (r:=pr) (t:=tr) (g:=g) (A:=A) (q:=q) (s:=s) hP.2 (by simp) (by simp) (bJ hb) q1 hpin hhdr ?_ hne hs (fun b hb=>lP (Ne.symm hb)) (iW _ _ _ _) ?_ ?_ ?_
      ·obtain⟨re,t',x',pd',hq'⟩:=hq;exact⟨re,t',x',pd',bJ hq'⟩
      ·refine⟨hrow.1,hin.2.2.2,fun j hj=> ?_⟩
       rw[hin.2.1];exact hrow.2.2 j (by omega)
      ·simp[ay]
      ·intro n hn
       simp only[List.cons_append,List.nil_append]
       rw[aw hn]
    ·cases hc
 |v t y=>exact tk (by simpa only[cU]using hc) rfl
 |nl=>exact tk (by simpa only[cU]using hc) rfl
 |pn=>exact tk (by simpa only[cU]using hc) rfl
 |wl q=>exact tk (by simpa only[cU]using hc) rfl
 |rf q=>exact tk (by simpa only[cU]using hc) rfl
 |cL=>exact tk (by simpa only[cU]using hc) rfl
 |aT=>exact tk (by simpa only[cU]using hc) rfl
 |fn f l=>exact tk (by simpa only[cU]using hc) rfl
 |fb f l=>exact tk (by simpa only[cU]using hc) rfl
 |tp l=>exact tk (by simpa only[cU]using hc) rfl
end
end
section
section
variable {P:Program} {τ:dM} {E:Env} {c:Ctx} {KS:Nat→Prop} {e:av} {F:Fs} {ρ ρ':af} {w w':World}
theorem ey{x:RV}{v:Value}{vs:List Value}(h:bF w KS ρ e [x] (v::vs)):bf w KS ρ e x v∧vs=[]:=by
 obtain⟨u,us,h0,h1,h2⟩:=h
 cases h0;exact⟨h1,h2⟩
theorem Nl{m:Sem Unit}{w':World}{R:Value→World→Prop}(hm:m.run P w= .ok () w')(hR:R undef w'):cM P (do m;pure .skip) w R:=by
 unfold cM
 have:(do m;pure .skip:Sem Next).run P w= .ok .skip w':=by
  show(m>>=fun _=>pure Next.skip).run P w=_
  rw[Sem.run_bind,hm];rfl
 rw[this];exact hR
def oG(P:Program)(E:Env)(τ:dM)(call:cr):Prop:=
 ∀{c:Ctx} {KS:Nat→Prop} {e:av} {F:Fs} {ρ:af} {w:World} {d f:Nat} {s:bu} {args caps:List RV} {vs us:List Value} {ef:jM},cy τ c→Inv c KS e F ρ w→E.sig f=some s→32768≤d→(ef.new=true→ah ρ d=none∧ah ρ (d+1)=none∧ah ρ (d+2)=none)→
  bF w KS ρ e args vs→bF w KS ρ e caps us→(CF call d f s ρ (args++caps)).run=some ef→
  cM P (callFunc f (vs.toArray++us.toArray)) w (aR c KS F ρ ef)
theorem zA(h:Inv c KS e F ρ w){x:RV}{v:Value}(hx:bf w KS ρ e x v){ef:jM}(hc:(cG x).run=some ef):aR c KS F ρ ef v w:=by
 injection hc with hc;subst hc;exact aR.pure h hx
theorem He{xs ys:List RV}{vs us:List Value}(hx:bF w KS ρ e xs vs)(hy:bF w KS ρ e ys us):bF w KS ρ e (xs++ys) (vs++us):=by
 induction xs generalizing vs with
 |nil=>have:vs=[]:=hx;subst this;exact hy
 |cons x xs ih=>obtain⟨v,vs',rfl,h1,h2⟩:=hx;exact⟨v,vs'++us,rfl,h1,ih h2⟩
theorem Rf{xs ys:List RV}{vs:List Value}(h:bF w KS ρ e (xs++ys) vs):∃v1 v2,vs=v1++v2∧bF w KS ρ e xs v1∧bF w KS ρ e ys v2:=by
 induction xs generalizing vs with
 |nil=>exact⟨[],vs,rfl,rfl,h⟩
 |cons x xs ih=>
  obtain⟨v,vs',rfl,h1,h2⟩:=h
  obtain⟨v1,v2,rfl,h3,h4⟩:=ih h2
  exact⟨v::v1,v2,rfl,⟨v,v1,rfl,h1,h3⟩,h4⟩
theorem Gl{o:Oper}{f:Operand→Value}{x:Operand}(ho:o.op= .nilCheck x){v:Value}(hv:f x=v){R:Value→World→Prop}(k1:v≠ .nilIface)(k2:v≠ .pointer none)(k3:v≠ .nilFunc)(k4:∀n x y,v≠ .func (.method n) x y)(h:R v w):
  cM P (execOp f o) w R:=by
 unfold execOp
 rw[ho]
 simp only[hv]
 cases v with
 |nilIface=>exact absurd rfl k1
 |nilFunc=>exact absurd rfl k3
 |pointer a=>
  cases a with
  |none=>exact absurd rfl k2
  |some a=>exact h
 |func fn x y=>
  cases fn with
  |method n=>exact absurd rfl (k4 _ _ _)
  |_=>exact h
 |_=>exact h
theorem Qe(hE:bZ P E)(hC:cy τ c){call:cr}(hcall:oG P E τ call)(h:Inv c KS e F ρ w)(o:Oper)(a:Act){xs:List RV}(hxs:bF w KS ρ e xs ((cF o.op).map a.eval)){bound d:Nat}(hd32:32768≤d){ef:jM}
  (hnew:ef.new=true→ah ρ d=none∧ah ρ (d+1)=none∧ah ρ (d+2)=none) (hc:(comp E call bound d o.op xs ρ).run=some ef):cM P (execOp a.eval o) w (aR c KS F ρ ef):=by
 obtain⟨hp,hh⟩:=hC.none hd32
 have hd:ef.new=true→ah ρ d=none:=fun h=>(hnew h).1
 generalize hop:o.op=op at hxs hc
 cases op with
 |move x=>
  unfold execOp;rw[hop]
  match xs,hxs with
  |[y],hxs=>
   obtain⟨h1,_⟩:=ey hxs
   exact zA h h1 hc
 |assign x=>
  unfold execOp;rw[hop]
  match xs,hxs with
  |[y],hxs=>
   obtain⟨h1,_⟩:=ey hxs
   exact zA h h1 hc
 |pick x y z=>
  unfold execOp;rw[hop]
  match xs,hxs with
  |[r1,r2,r3],hxs=>
   obtain⟨v1,vs1,e1,h1,v2,vs2,e2,h2,v3,vs3,e3,h3,e4⟩:=hxs
   simp only[cF,List.map_cons,List.map_nil]at e1
   cases e1;cases e2;cases e3
   simp only[comp]at hc
   split at hc
   ·have:=gv h1
    unfold cM
    simp only[this,asBool,Sem.run_bind,Sem.run_pure,Result.andThen_ok,if_true]
    exact zA h h2 hc
   ·have:=gv h1
    unfold cM
    simp only[this,asBool,Sem.run_bind,Sem.run_pure,Result.andThen_ok,Bool.false_eq_true,if_false]
    exact zA h h3 hc
   ·cases hc
 |alloc t=>
  unfold execOp;rw[hop]
  match xs,hxs with
  |[],_=>exact Pt hE h hd hp hh hc
 |box t x=>
  unfold execOp;rw[hop]
  match xs,hxs with
  |[y],hxs=>
   obtain⟨h1,_⟩:=ey hxs
   exact RJ hE hC h hd32 hd h1 hc
 |build t ps=>
  unfold execOp;rw[hop]
  refine OB hE hC h hd32 hd hxs ?_ hc ?_
  ·have:=jS hxs
   simp only[cF,List.map_map,List.length_map,Array.length_toList]at this
   exact this.symm
  ·simp only[Array.toList_map,cF,List.map_map]
   induction ps.toList with
   |nil=>rfl
   |cons q l ih=>simp[ih]
 |buildSlice t n ps=>
  unfold execOp;rw[hop]
  refine Gi hE hC h hd32 hd hxs ?_ hc ?_
  ·have:=jS hxs
   simp only[cF,List.map_map,List.length_map,Array.length_toList]at this
   exact this.symm
  ·simp only[Array.toList_map,cF,List.map_map]
   induction ps.toList with
   |nil=>rfl
   |cons q l ih=>simp[ih]
 |load t x=>
  unfold execOp;rw[hop]
  match xs,hxs with
  |[y],hxs=>
   obtain⟨h1,_⟩:=ey hxs
   exact QH hE h h1 hc
 |store t x y=>
  unfold execOp;rw[hop]
  match xs,hxs with
  |[r1,r2],hxs=>
   obtain⟨v1,vs1,e1,h1,v2,vs2,e2,h2,e4⟩:=hxs
   simp only[cF,List.map_cons,List.map_nil]at e1
   cases e1;cases e2
   simp only[comp]at hc
   split at hc
   ·rename_i t' p ht
    obtain⟨w',q1,q2⟩:=Nu hE hC h h1 h2 (hE.ty _ _ ht) hc
    exact Nl q1 q2
   ·cases hc
 |nilCheck x=>
  match xs,hxs with
  |[y],hxs=>
   obtain⟨h1,_⟩:=ey hxs
   obtain⟨k1,k2,k3,k4,k5⟩:=KC h h1 hc
   exact Gl hop rfl k1 k2 k3 k4 k5
 |binOp op t x y yt=>
  unfold execOp;rw[hop]
  match xs,hxs with
  |[r1,r2],hxs=>
   obtain⟨v1,vs1,e1,h1,v2,vs2,e2,h2,e4⟩:=hxs
   simp only[cF,List.map_cons,List.map_nil]at e1
   cases e1;cases e2
   exact OZ hE h h1 h2 hc
 |unOp op t x=>
  unfold execOp;rw[hop]
  match xs,hxs with
  |[y],hxs=>
   obtain⟨h1,_⟩:=ey hxs
   exact Qy h h1 hc
 |convert s t x=>
  unfold execOp;rw[hop]
  match xs,hxs with
  |[y],hxs=>
   obtain⟨h1,_⟩:=ey hxs
   exact Ld hE h hd hp hh h1 hc
 |makeSlice t x y=>
  unfold execOp;rw[hop]
  match xs,hxs with
  |[r1,r2],hxs=>
   obtain⟨v1,vs1,e1,h1,v2,vs2,e2,h2,e4⟩:=hxs
   simp only[cF,List.map_cons,List.map_nil]at e1
   cases e1;cases e2
   exact Ie hE h hd hp hh h1 h2 hc
 |slice t x lo hi mx=>
  unfold execOp;rw[hop]
  cases mx with
  |some m=>cases xs<;>cases hc
  |none=>
  match xs,hxs with
  |r::rest,hxs=>
   obtain⟨v1,vs1,e1,h1,h2⟩:=hxs
   simp only[cF,List.map_cons,List.map_append]at e1
   cases e1
   simp only[comp]at hc
   replace hc:=Cm.aG hc;obtain⟨hty,hc⟩:=hc
   cases lo with
   |none=>
    cases hi with
    |none=>
     have hr:rest=[]:=by cases rest with|nil=>rfl|cons _ _=>obtain⟨_,_,h,_⟩:=h2;cases h
     subst hr
     exact vY hE h h1 (lo:=none) (hi:=none) rfl rfl hty hc
    |some y=>
     match rest,h2 with
     |[z],h2=>
      obtain⟨h3,_⟩:=ey h2
      exact vY hE h h1 (lo:=none) (hi:=some z) rfl ⟨_,rfl,h3⟩ hty hc
     |_::_::_,h2=>obtain⟨_,_,h,_,_,_,h',_⟩:=h2;cases h;cases h'
   |some y=>
    cases hi with
    |none=>
     match rest,h2 with
     |[z],h2=>
      obtain⟨h3,_⟩:=ey h2
      exact vY hE h h1 (lo:=some z) (hi:=none) ⟨_,rfl,h3⟩ rfl hty hc
     |_::_::_,h2=>obtain⟨_,_,h,_,_,_,h',_⟩:=h2;cases h;cases h'
    |some y2=>
     match rest,h2 with
     |[z,z2],h2=>
      obtain⟨_,_,h,h3,_,_,h',h4,_⟩:=h2
      cases h;cases h'
      exact vY hE h h1 (lo:=some z) (hi:=some z2) ⟨_,rfl,h3⟩ ⟨_,rfl,h4⟩ hty hc
     |[_],h2=>obtain⟨_,_,h,_,h'⟩:=h2;cases h;cases h'
     |_::_::_::_,h2=>obtain⟨_,_,h,_,_,_,h',_,_,_,h'',_⟩:=h2;cases h;cases h';cases h''
 |fieldAddr t x f=>
  unfold execOp;rw[hop]
  match xs,hxs with
  |[y],hxs=>
   obtain⟨h1,_⟩:=ey hxs
   cases y with
   |rf p=>exact Ik hE h h1 hc
   |v tp z=>
    cases tp with
    |ptr tp=>exact Jn hE h h1 hc
    |_=>simp only[comp]at hc;replace hc:=Cm.aG hc;obtain⟨_,hc⟩:=hc;cases hc
   |_=>simp only[comp]at hc;replace hc:=Cm.aG hc;obtain⟨_,hc⟩:=hc;cases hc
 |field t x f=>
  unfold execOp;rw[hop]
  match xs,hxs with
  |[y],hxs=>
   obtain⟨h1,_⟩:=ey hxs
   cases y with
   |v tp z=>exact QQ hE h h1 hc
   |sv p=>exact Pr hE h h1 hc
   |_=>simp only[comp]at hc;replace hc:=Cm.aG hc;obtain⟨_,hc⟩:=hc;cases hc
 |indexAddr t x y=>
  unfold execOp;rw[hop]
  match xs,hxs with
  |[r1,r2],hxs=>
   obtain⟨v1,vs1,e1,h1,v2,vs2,e2,h2,e4⟩:=hxs
   simp only[cF,List.map_cons,List.map_nil]at e1
   cases e1;cases e2
   exact IM hE h h1 h2 hc
 |index t x y=>
  unfold execOp;rw[hop]
  match xs,hxs with
  |[r1,r2],hxs=>
   obtain⟨v1,vs1,e1,h1,v2,vs2,e2,h2,e4⟩:=hxs
   simp only[cF,List.map_cons,List.map_nil]at e1
   cases e1;cases e2
   exact OO hE h h1 h2 hc
 |extract x j=>
  unfold execOp;rw[hop]
  match xs,hxs with
  |[y],hxs=>
   obtain⟨h1,_⟩:=ey hxs
   exact LG h h1 hc
 |makeFunc f first caps=>
  unfold execOp;rw[hop]
  cases f with
  |func f=>
   simp only[comp]at hc
   replace hc:=Cm.aG hc;obtain⟨hf,hc⟩:=hc
   injection hc with hc;subst hc
   have hf':first= #[]:=by
    have:first.toList=[]:=List.isEmpty_iff.1 hf
    exact Array.toList_eq_nil_iff.1 this
   subst hf'
   refine aJ (v:= .func (.func f) #[] (caps.map a.eval)) (w':=w) (by simp[Instr.makeFunc]) (aR.pure h ⟨caps.toList.map a.eval, ?_,hxs⟩)
   congr 1
   apply Array.toList_inj.1
   simp
  |_=>cases hc
 |call cl=>
  unfold execOp;rw[hop]
  simp only[comp]at hc
  obtain⟨callee,args,argTypes⟩:=cl
  simp only at hc hxs ⊢
  cases callee with
  |invoke r m=>cases hc
  |value f=>
   simp only[cF,List.cons_append,List.nil_append,List.map_cons]at hxs
   simp only at hc
   split at hc
   ·rename_i f' caps args'
    split at hc
    ·rename_i s hs
     obtain⟨v,vs,e0,h1,h2⟩:=hxs
     cases e0
     obtain⟨us,hv,hcaps⟩:=h1
     have hk:=hcall hC h hs hd32 hnew h2 hcaps hc
     have e1:(do let dd ←resolve a.eval ⟨.value f,args,argTypes⟩ o.type;invoke dd.target dd.args)=callFunc f' ((args.toList.map a.eval).toArray++us.toArray):=by
      simp only[resolve,hv,Deferred.ofValue]
      show invoke (.fn (.func f') us.toArray) (#[]++args.map a.eval)=_
      simp only[invoke,Array.empty_append]
      congr 2
      apply Array.toList_inj.1;simp
     rw[e1];exact hk
    ·cases hc
   ·cases hc
  |builtin b=>
   simp only[cF,List.nil_append]at hxs
   have args_eq:∀vs:List Value,args.toList.map a.eval=vs→args.map a.eval=vs.toArray:=fun vs hv=>by
    apply Array.toList_inj.1;rw[Array.toList_map,hv]
   have done:∀{m:Sem Value} {b':Builtin},b=b'→(∀cs ty,builtin b' argTypes ty cs (args.map a.eval)=(do pure (.value (←m))))→cM P (do pure (.value (←m))) w (aR c KS F ρ ef)→
     cM P (do let dd ←resolve a.eval ⟨.builtin b,args,argTypes⟩ o.type;invoke dd.target dd.args) w (aR c KS F ρ ef):=fun hb hm hD=>by
    subst hb
    have e1:(do let dd ←resolve a.eval ⟨.builtin b,args,argTypes⟩ o.type;invoke dd.target dd.args)=(do pure (.value (←_)):Sem Next):=hm _ _
    rw[e1];exact hD
   cases b with
   |len=>
    simp only at hc
    split at hc
    ·rename_i x
     split at hc
     ·rename_i t0 rest hts
      replace hc:=Cm.aG hc;obtain⟨hty,hc⟩:=hc
      replace hc:=Cm.ae hc;obtain⟨n,hn,hc⟩:=hc
      injection hc with hc;subst hc
      obtain⟨v,vs,hv,h1,h2⟩:=hxs
      have h2':vs=[]:=h2
      subst h2'
      refine done rfl (m:=Builtin.len_ argTypes o.type #[v]) (fun cs ty=> ?_) (aJ (OQ hE h h1 hty hn argTypes (by rw[←Array.getElem?_toList,hts];rfl) o.type) (aR.pure h (cu _ _)))
      rw[args_eq _ hv];rfl
     ·cases hc
    ·cases hc
   |append=>
    simp only at hc
    split at hc
    ·rename_i x y t t2 hts
     split at hc
     ·rename_i el by_ hel
      split at hc
      ·rename_i te hte
       replace hc:=Cm.aG hc;obtain⟨hty,hc⟩:=hc
       obtain⟨v1,vs1,hv,h1,v2,vs2,rfl,h2,h3⟩:=hxs
       have h3':vs2=[]:=h3
       subst h3'
       refine done rfl (m:=Builtin.append_ #[t,t2] o.type #[v1,v2]) (fun cs ty=> ?_) (M7 hE hC h hd32 hd hel hte h1 h2 hty hc)
       have e1:argTypes= #[t,t2]:=by apply Array.toList_inj.1;exact hts
       rw[args_eq _ hv,e1];rfl
      ·cases hc
     ·cases hc
    ·cases hc
   |min=>
    simp only at hc
    replace hc:=Cm.ae hc;obtain⟨r,hr,hc⟩:=hc
    injection hc with hc;subst hc
    obtain⟨v,q1,q2⟩:=HO (P:=P) (w:=w) hxs hr argTypes o.type
    refine done rfl (m:=Builtin.min_ argTypes o.type (args.map a.eval)) (fun cs ty=> ?_) (aJ (v:=v) (w':=w) ?_ (aR.pure h q2))
    ·rfl
    ·rw[args_eq _ rfl];simpa using q1
   |max=>
    simp only at hc
    replace hc:=Cm.ae hc;obtain⟨r,hr,hc⟩:=hc
    injection hc with hc;subst hc
    obtain⟨v,q1,q2⟩:=HO (P:=P) (w:=w) hxs hr argTypes o.type
    refine done rfl (m:=Builtin.max_ argTypes o.type (args.map a.eval)) (fun cs ty=> ?_) (aJ (v:=v) (w':=w) ?_ (aR.pure h q2))
    ·rfl
    ·rw[args_eq _ rfl];simpa using q1
   |_=>cases hc
 |_=>cases hc
end
end
section
inductive Sh where
 |v (t:Ty)--a value
 |w (t:Ty)--what an own root of no address holds:the root moves to the register's own name
 |keep--what the register held at the entry
structure Shape where
 bX:List (Nat×Sh)
 roots:List (Nat×Bool×Ty)
def force{α:Type}(m:Nat)(f:Nat→α):α:=Nat.rec (f 0) (fun n _=>f (Nat.succ n)) m
def IL{α:Type}(b:Bool)(f:Bool→α):α:=match b with|true=>f true|false=>f false
def gR{α:Type}:Ty→(Ty→α)→α
 | .unit,f=>f .unit
 | .int k,f=>f (.int k)
 | .bool,f=>f .bool
 | .str,f=>f .str
 | .list o t,f=>IL o fun o=>gR t fun t=>f (.list o t)
 | .ptr t,f=>gR t fun t=>f (.ptr t)
 | .pair a b,f=>gR a fun a=>gR b fun b=>f (.pair a b)
 | .arr n t,f=>force n fun n=>gR t fun t=>f (.arr n t)
 | .gone n,f=>force n fun n=>f (.gone n)
def Ir{α:Type}:Sh→(Sh→α)→α
 | .v t,f=>gR t fun t=>f (.v t)
 | .w t,f=>gR t fun t=>f (.w t)
 | .keep,f=>f .keep
def zO{α:Type}:List (Nat×Sh)→(List (Nat×Sh)→α)→α
 |[],f=>f []
 |(n,s)::l,f=>force n fun n=>Ir s fun s=>zO l fun l=>f ((n,s)::l)
def zC{α:Type}:List (Nat×Bool×Ty)→(List (Nat×Bool×Ty)→α)→α
 |[],f=>f []
 |(n,b,t)::l,f=>force n fun n=>IL b fun b=>gR t fun t=>zC l fun l=>f ((n,b,t)::l)
def sH{α:Type}(s:Shape)(f:Shape→α):α:=zO s.bX fun a=>zC s.roots fun b=>f ⟨a,b⟩
def lG{α:Type}:Path→(Path→α)→α
 |[],f=>f []
 | .L::l,f=>lG l fun l=>f (.L::l)
 | .R::l,f=>lG l fun l=>f (.R::l)
 | .I i::l,f=>lG l fun l=>f (.I i::l)
 | .A i::l,f=>lG l fun l=>f (.A i::l)
def oX{α:Type}(p:Place)(f:Place→α):α:=force p.r fun r=>lG p.π fun π=>f ⟨r,π⟩
def AA{α:Type}:RV→(RV→α)→α
 | .cL,f=>f .cL
 | .aT,f=>f .aT
 | .v t x,f=>f (.v t x)
 | .nl,f=>f .nl
 | .pn,f=>f .pn
 | .wl p,f=>oX p fun p=>f (.wl p)
 | .vw p a n,f=>oX p fun p=>f (.vw p a n)
 | .sv p,f=>oX p fun p=>f (.sv p)
 | .rf p,f=>oX p fun p=>f (.rf p)
 | .ap p,f=>oX p fun p=>f (.ap p)
 | .fn n c,f=>f (.fn n c)
 | .fb n c,f=>f (.fb n c)
 | .tp l,f=>f (.tp l)
def lK{α:Type}:aA→(aA→α)→α
 |[],f=>f []
 |(n,v)::l,f=>AA v fun v=>lK l fun l=>f ((n,v)::l)
def D1{α:Type}:List aA→(List aA→α)→α
 |[],f=>f []
 |g::l,f=>lK g fun g=>D1 l fun l=>f (g::l)
def DU{α:Type}:Option eP→(Option eP→α)→α
 |none,f=>f none
 |some (.data re t x none),f=>IL re fun re=>f (some (.data re t x none))
 |some (.data re t x (some p)),f=>f (some (.data re t x (some p)))
 |some (.al p),f=>oX p fun p=>f (some (.al p))
def lu{α:Type}:af→(af→α)→α
 |[],f=>f []
 |(n,b)::l,f=>force n fun n=>DU b fun b=>lu l fun l=>f ((n,b)::l)
section
variable (E:Env) (call:cr)
def nameOf(dep dst:Nat):Nat:=((dep+1)*4096+dst)*8
def free(ρ:af)(d:Nat):Bool:=(ah ρ d).isNone&&(ah ρ (d+1)).isNone&&(ah ρ (d+2)).isNone
def yH(g:aA)(sk:List aA)(ρ:af)(o:Oper):Cm (aA×List aA×af):=
 let d:=nameOf sk.length (o.dst.getD 0)
 (comp E call (nameOf sk.length 0) d o.op ((cF o.op).map (ev g)) ρ).bind fun e=>
  let ks:=aB e.kill ρ
  .jm (!e.new||free ρ d) (.ret ((match o.dst with|some t=>(t,e.rv)::bt ks g|none=>bt ks g),di ks sk,e.rs++ag e.kill ρ))
def guards(ops:List Oper)(i:Nat):Bool:=ops.any fun o=>match o.guard with|some (j,_)=>Nat.beq i j|none=>false
def wG(g:aA)(o:Oper):Option (Nat×List RV):=
 match o.op with
 | .call c=>match c.callee with
  | .value f=>match ev g f with
   | .fn f caps=>match E.sig f with
    |some _=>none
    |none=>some (f,c.args.toList.map (ev g)++caps)
   |_=>none
  |_=>none
 |_=>none
abbrev QS:={R:Type}→Nat→Nat→List RV→List aA→af→(RV→List aA→af→Option R)→Option R
def DW(ρ:af)(f:Ty→Bool)(q:Place):Bool:=
 match ah ρ q.r with
 |some (.data _ t _ _)=>match oL t q.π with
  |some u=>f u
  |none=>false
 |_=>false
def RU(ρ:af)(q:Place):Bool:=
 match ah ρ q.r with
 |some (.data re t _ _)=>(re|| !pI q.π)&&(oL t q.π).isSome
 |some (.al _)=>true
 |none=>false
mutual
def there(ρ:af):RV→Bool
 | .wl q| .vw q _ _=>DW ρ eV q
 | .sv q=>DW ρ (fun u=> !u.dA) q
 | .rf q=>RU ρ q
 | .ap _=>false
 | .fn _ caps| .fb _ caps=>FJ ρ caps
 | .tp l=>FJ ρ l
 |_=>true
def FJ(ρ:af):List RV→Bool
 |[]=>true
 |x::xs=>there ρ x&&FJ ρ xs
end
def xY(ρ:af):aA→aA
 |[]=>[]
 |(n,v)::l=>(n,if there ρ v then v else .cL)::xY ρ l
def dI{R:Type}(inl:QS)(all:List Oper):List Oper→Nat→aA→List aA→af→(aA→List aA→af→Option R)→Option R
 |[],_,g,sk,ρ,κ=>κ g sk ρ
 |o::os,i,g,sk,ρ,κ=>
  let next (g:aA) (sk:List aA) (ρ:af):Option R:=
   if guards all i then match bL g (o.dst.getD 0)with
    | .aT=>dI inl all os (i+1) g sk ρ κ
    | .v .bool b=>bif (b:Bool)then dI inl all os (i+1) ((o.dst.getD 0,.v .bool true)::g) sk ρ κ
     else dI inl all os (i+1) ((o.dst.getD 0,.v .bool false)::g) sk ρ κ
    |_=>none
   else dI inl all os (i+1) g sk ρ κ
  let go:Option R:=match wG E g o with
   |some (f,xs)=>inl (o.dst.getD 0) f xs (g::sk) ρ fun rv sk' ρ'=>match sk' with
    |g'::sk''=>next (match o.dst with|some t=>(t,rv)::g'|none=>g') sk'' ρ'
    |[]=>none
   |none=>(yH E call g sk ρ o).runK fun(g,sk,ρ)=>next g sk ρ
  match o.guard with
  |none=>go
  |some (j,want)=>match(all[j]?).bind (·.dst)with
   |some tj=>match bL g tj with
    | .v .bool b=>bif (b:Bool)==want then go else dI inl all os (i+1) (match o.dst with|some t=>(t,.aT)::g|none=>g) sk ρ κ
    | .aT=>dI inl all os (i+1) (match o.dst with|some t=>(t,.aT)::g|none=>g) sk ρ κ
    |_=>none
   |none=>none
mutual
def names:RV→List Nat
 | .wl p| .vw p _ _| .sv p| .rf p| .ap p=>[p.r]
 | .fn _ c| .fb _ c=>fj c
 | .tp l=>fj l
 |_=>[]
def fj:List RV→List Nat
 |[]=>[]
 |x::xs=>names x++fj xs
end
structure Rec where
 o:Oper
 xs:List RV--its operands
 DE:List RV--and as they were written
 d:Nat--the name of its first new root
 ef:jM
def bQ(o:Oper):List Nat:=(o.after.toList.filter fun e=>Region.binds .any e).map (·.on)
def pN:List Oper→List (List Nat)→List (List Nat)
 |[],acc=>acc
 |o::os,acc=>pN os (acc++[bQ o++(bQ o).flatMap fun e=>acc.getD e []])
def Il(r:Rec):List RV:=match r.o.op,r.DE with
 | .extract _ _,[.tp _]=>[]
 |_,_=>r.xs
def p7(ρ0:af)(r:Rec):List Nat:=
 ((fj (Il r)).flatMap fun n=>match ah ρ0 n with|some (.al q)=>[n,q.r]|_=>[n])++(if r.ef.new then [r.d,r.d+1,r.d+2]else [])
def iA(r:Rec):List Nat:=r.ef.rs.map (·.1)
def I6(ks:List aH)(xs:List RV):Bool:=ks.all fun k=>xs.all fun x=> !hit k x
def ja(r:Rec):List RV:=match r.o.op,r.DE with
 | .extract _ j,[.tp l]=>[(l[j]?).getD .cL]
 |_,l=>l
def I4(a b:Oper):Bool:=match a.dst,b.dst with|some s,some t=>Nat.beq s t|_,_=>false
def BD(ρ0:af)(a b:Rec):Bool:=
 !(I4 a.o b.o)&&Lp (iA a) (iA b)&&(Lp (iA a) (p7 ρ0 b)&&(Lp (iA b) (p7 ρ0 a)&&
  (I6 a.ef.kill (b.ef.rv::ja b)&&I6 b.ef.kill (a.ef.rv::ja a))))
def Iw(ρ0:af)(an:List (List Nat))(rs:List Rec):Bool:=
 (List.range rs.length).all fun j=>(List.range j).all fun i=>((an.getD j []).any (Nat.beq i))||(match rs[i]?,rs[j]? with|some a,some b=>BD ρ0 a b|_,_=>false)
def tmpsOf(o:Oper):List Nat:=(cF o.op).filterMap fun x=>match x with| .tmp t=>some t|_=>none
def um(ops:List Oper)(o:Oper):List Nat:=tmpsOf o++(match o.guard with|some (i,_)=>((ops[i]?).bind (·.dst)).toList|none=>[])
def wJ(ops:List Oper)(an:List (List Nat)):Bool:=
 (List.range ops.length).all fun j=>match ops[j]? with
  |some o=>(bQ o).all (fun e=>Nat.blt e j)&&
   (List.range ops.length).all fun i=>match ops[i]? with
    |some p=>match p.dst with
     |some t=> !((um ops o).any (Nat.beq t))||((an.getD j []).any (Nat.beq i)||(an.getD i []).any (Nat.beq j))
     |none=>true
    |none=>true
  |none=>true
def zJ(x:Nat×Option eP):Bool:=match x.2 with|some (.al _)=>false|_=>true
def Rg(ρ:af)(n:Nat):Bool:=match ah ρ n with|some (.al _)=>false|_=>true
def LV(ops:List Oper)(ρ0:af)(rs:List Rec):Bool:=
 let an:=pN ops []
 wJ ops an&&(Iw ρ0 an rs&&rs.all fun r=>
  (r.ef.rs.all fun x=>zJ x&&Rg ρ0 x.1)&&r.ef.kill.all fun k=>(aX k ρ0).isEmpty)
def OH(n M:Nat):List Nat→Nat
 |[]=>0
 |e::es=>Nat.lor (Nat.lor (Nat.shiftLeft 1 e) (Nat.shiftRight M (Nat.mul e n))) (OH n M es)
def Ff(n:Nat):List Oper→Nat→Nat→Nat
 |[],_,M=>M
 |o::os,j,M=>force (Nat.lor M (Nat.shiftLeft (Nat.mod (OH n M (bQ o)) (Nat.pow 2 n)) (Nat.mul j n))) fun M'=>Ff n os (Nat.succ j) M'
def Gp(n M j i:Nat):Bool:=Nat.beq (Nat.land (Nat.shiftRight M (Nat.add (Nat.mul j n) i)) 1) 1
def KZ(ops:List Oper)(n M:Nat):Bool:=
 (List.range n).all fun j=>match ops[j]? with
  |some o=>(bQ o).all (fun e=>Nat.blt e j)&&
   (List.range n).all fun i=>match ops[i]? with
    |some p=>match p.dst with
     |some t=> !((um ops o).any (Nat.beq t))||(Gp n M j i||Gp n M i j)
     |none=>true
    |none=>true
  |none=>true
def Sv(ops:List Oper)(n M:Nat):Bool:=
 (List.range n).all fun j=>match ops[j]? with
  |some o=>(List.range j).all fun i=>match ops[i]? with
   |some p=> !(I4 p o)||Gp n M j i
   |none=>true
  |none=>true
def Ku(ops:List Oper):Bool:=KZ ops ops.length (Ff ops.length ops 0 0)&&Sv ops ops.length (Ff ops.length ops 0 0)
def SA(r:Rec):Bool:= !(r.ef.rs.isEmpty&&r.ef.kill.isEmpty)
def Pg:Nat→List Rec→List (Nat×Rec)
 |_,[]=>[]
 |i,r::l=>(i,r)::Pg (Nat.succ i) l
def Rz(ρ0:af)(n M:Nat)(l:List (Nat×Rec)):Bool:=
 l.all fun b=> !SA b.2||l.all fun a=>
  bif Nat.blt a.1 b.1 then(Gp n M b.1 a.1||BD ρ0 a.2 b.2)
  else bif Nat.blt b.1 a.1 then(Gp n M a.1 b.1||BD ρ0 b.2 a.2)else true
def sG(ops:List Oper)(ρ0:af)(rs:List Rec):Bool:=
 Ku ops&&(Rz ρ0 ops.length (Ff ops.length ops 0 0) (Pg 0 rs)&&rs.all fun r=>
  (r.ef.rs.all fun x=>zJ x&&Rg ρ0 x.1)&&r.ef.kill.all fun k=>(aX k ρ0).isEmpty)
def iN{R:Type}(all:List Oper)(ρ0:af):List Oper→Nat→List Rec→aA→aA→List aA→af→(aA→List aA→af→Option R)→Option R
 |[],_,rs,_,g,sk,ρ,κ=>if sG all ρ0 rs.reverse then κ g sk ρ else none
 |o::os,i,rs,gr,g,sk,ρ,κ=>
  let d:=nameOf sk.length (o.dst.getD 0)
  let put (t:Option Nat) (v:RV) (g:aA):aA:=match t with|some t=>(t,v)::g|none=>g
  let skip:Option R:=iN all ρ0 os (i+1) (⟨o,[],[],d,{rv:= .aT}⟩::rs) (put o.dst .aT gr) (put o.dst .aT g) sk ρ κ
  let next (xs DE:List RV) (ef:jM):Option R:=
   iN all ρ0 os (i+1) (⟨o,xs,DE,d,ef⟩::rs) (put o.dst ef.rv gr) (put o.dst ef.rv (bt ef.kill g)) (di ef.kill sk) (ef.rs++ρ) κ
  let go:Option R:=match wG E g o with
   |some _=>none
   |none=>((comp E call (nameOf sk.length 0) d o.op ((cF o.op).map (ev g)) ρ).bind fun ef=> .jm (!ef.new||free ρ d) (.ret ef)).runK fun ef=>
    if guards all i then match ef.rv with
     | .v .bool b=>bif (b:Bool)then next ((cF o.op).map (ev g)) ((cF o.op).map (ev gr)) {ef with rv:= .v .bool true}
      else next ((cF o.op).map (ev g)) ((cF o.op).map (ev gr)) {ef with rv:= .v .bool false}
     |_=>none
    else next ((cF o.op).map (ev g)) ((cF o.op).map (ev gr)) ef
  match o.guard with
  |none=>go
  |some (j,want)=>match(all[j]?).bind (·.dst)with
   |some tj=>match bL g tj with
    | .v .bool b=>bif (b:Bool)==want then go else skip
    | .aT=>skip
    |_=>none
   |none=>none
def qO:List Oper→Option (List Oper×Oper)
 |[]=>none
 |o::os=>match qO os with
  |some (l,x)=>some (o::l,x)
  |none=>some ([],o)
def Rl(o:Oper):Bool:=match o.op with
 | .call c=>match c.callee with
  | .value (.tmp _)=>true
  |_=>false
 |_=>false
def jB(n:Nat)(o:Oper):Bool:=match o.guard with|some (j,_)=>Nat.blt j n|none=>true
def OW(all:List Oper):Option (List Oper×Oper):=match qO all with
 |none=>none
 |some (l,o)=>bif Rl o&&(o.guard.isNone&&(l.all (jB l.length)&&((bQ o).all (fun e=>Nat.blt e l.length)&&(List.range l.length).all (Gp all.length (Ff all.length all 0 0) l.length))))then some (l,o)else none
def K1{R:Type}(inl:QS)(draw:Bool)(ops:List Oper)(g:aA)(sk:List aA)(ρ:af)(κ:aA→List aA→af→Option R):Option R:=
 bif draw then match OW ops with
  |some (l,o)=>iN E call l ρ l 0 [] g g sk ρ fun g sk ρ=>dI E call inl ops [o] l.length g sk ρ κ
  |none=>iN E call ops ρ ops 0 [] g g sk ρ κ
 else dI E call inl ops ops 0 g sk ρ κ
def Sh.t:Sh→Ty
 | .v t| .w t=>t| .keep=> .unit
def Shape.ts(s:Shape):List Ty:=s.bX.map (·.2.t)++s.roots.map (·.2.2)
def Shape.T(s:Shape):Ty:=QJ s.ts
def Sg(bound:Nat)(ρ:af)(r:Nat):Option Ty:=
 if Nat.ble bound r then match ah ρ r with
  |some (.data false t _ _)=>some t
  |_=>none
 else none
def whole:RV→Option Nat
 | .wl ⟨r,[]⟩| .sv ⟨r,[]⟩=>some r
 |_=>none
def Sq(bound:Nat)(g:aA)(ρ:af)(sn:List Nat)(n:Nat):Option Ty→Sh
 |some t=>if t.shared then .v t else .w t
 |none=>match bL g n with
  | .v t _=> .v t
  |x=>match whole x with
   |some r=>if sn.any (Nat.beq r)then .keep else match Sg bound ρ r with
    |some t=> .w t
    |none=> .keep
   |none=> .keep
def KY(bound:Nat)(g:aA)(ρ:af):List Nat→List (Nat×Option Ty)→List (Nat×Sh)
 |_,[]=>[]
 |sn,(n,t)::l=>match whole (bL g n)with
  |some r=>(n,Sq bound g ρ sn n t)::KY bound g ρ (r::sn) l
  |none=>(n,Sq bound g ρ sn n t)::KY bound g ρ sn l
def BX(g:aA):List (Nat×Sh)→List Nat
 |[]=>[]
 |(n,.keep)::l=>names (bL g n)++BX g l
 |_::l=>BX g l
def LS(g:aA):List (Nat×Sh)→List Nat
 |[]=>[]
 |(n,.w _)::l=>(match whole (bL g n)with|some r=>[r]|none=>[])++LS g l
 |_::l=>LS g l
def qM(keep:Nat→Bool):af→List Nat→List (Nat×Bool×Ty)
 |[],_=>[]
 |(n,b)::l,sn=>if sn.any (Nat.beq n)then qM keep l sn else match b with
  |some (.data re t _ _)=>if keep n then(n,re,t)::qM keep l (n::sn)else qM keep l (n::sn)
  |_=>qM keep l (n::sn)
def Ee:List (Nat×Option Ty)→Nat→Ty→Ty
 |[],_,t=>t
 |(m,some t')::l,n,t=>bif Nat.beq m (1000000+n)then t' else Ee l n t
 |_::l,n,t=>Ee l n t
def sK(g:aA)(dep:Nat)(ρ:af)(live:List (Nat×Option Ty)):Shape:=
 let rs:=KY (nameOf dep 0) g ρ [] (live.filter fun x=>Nat.ble x.1 999999)
 let nm:=BX g rs
 let ws:=(LS g rs)
 {bX:=rs,roots:=(qM (fun n=>Nat.ble (n+1) (nameOf dep 0)||(nm.any (Nat.beq n)&& !ws.any (Nat.beq n))) ρ []).map fun x=>(x.1,x.2.1,Ee live x.1 x.2.2)}
mutual
def Lh:RV→RV→Cm Unit
 | .rf p,.rf q| .wl p,.wl q| .sv p,.sv q=>sB p q
 | .vw p a n,.vw q b m=> .ask (a=b∧n=m) (sB p q)
 | .nl,.nl| .pn,.pn=> .ret ()
 | .fn f c,.fn f' c'| .fb f c,.fb f' c'=> .jm (Nat.beq f f') (MJ c c')
 |_,_=> .fail
def MJ:List RV→List RV→Cm Unit
 |[],[]=> .ret ()
 |x::xs,y::ys=>(Lh x y).bind fun _=>MJ xs ys
 |_,_=> .fail
end
def Rk(t:Ty):RV→Cm eh
 | .v t' x=> .ret ⟨t',x⟩
 | .nl=>match t with| .list _ t=> .ret ⟨.list false t,[]⟩|_=> .fail
 | .pn=>match t with| .ptr t=> .ret ⟨.ptr t,none⟩|_=> .fail
 |_=> .fail
def BE:RV→Option Nat
 | .wl ⟨r,[]⟩| .sv ⟨r,[]⟩=>some r
 |_=>none
def mF(dep:Nat)(g:aA):List (Nat×Sh)→List (Nat×Nat)
 |[]=>[]
 |(n,.w _)::l=>match BE (bL g n)with
  |some r=>(r,nameOf dep n+7)::mF dep g l
  |none=>mF dep g l
 |_::l=>mF dep g l
def tV:List (Nat×Nat)→Nat→Nat
 |[],r=>r
 |(a,b)::l,r=>if Nat.beq a r then b else tV l r
def wX(m:List (Nat×Nat))(p:Place):Place:=⟨tV m p.r,p.π⟩
mutual
def Dy(m:List (Nat×Nat)):RV→RV
 | .wl p=> .wl (wX m p)| .vw p a n=> .vw (wX m p) a n| .sv p=> .sv (wX m p)| .rf p=> .rf (wX m p)| .ap p=> .ap (wX m p)
 | .fn f c=> .fn f (Bc m c)| .fb f c=> .fb f (Bc m c)| .tp l=> .tp (Bc m l)
 |x=>x
def Bc(m:List (Nat×Nat)):List RV→List RV
 |[]=>[]
 |x::xs=>Dy m x::Bc m xs
end
def Rn(ρ:af)(t:Ty):RV→Cm (eh×af)
 | .nl=>match t with
  | .list _ t=> .ret (⟨.list true t.o,[]⟩,[])
  |_=> .fail
 | .wl p| .sv p=>match ah ρ p.r with
  |some (.data false tr y _)=>(rd tr y p.π).bind fun d=> .ret (d,[(p.r,none)])
  |_=> .fail
 | .vw ⟨r,[]⟩ 0 n=>match ah ρ r with
  |some (.data false (.list true te) l _)=> .ret (⟨.list true te,((l:List te.D).take n:List te.D)⟩,[(r,none)])
  |_=> .fail
 |_=> .fail
def fX(dep:Nat):List (Nat×Sh)→List Nat
 |[]=>[]
 |(n,.w _)::l=>(nameOf dep n+7)::fX dep l
 |_::l=>fX dep l
def Ma(m:List (Nat×Nat))(ns:List Nat)(v:RV):Bool:=(names v).all fun r=>(m.any fun x=>Nat.beq x.1 r)|| !(ns.any (Nat.beq r))
def BH(m:List (Nat×Nat))(ns:List Nat)(g:aA):List (Nat×Sh)→Bool
 |[]=>true
 |(n,.keep)::l=>Ma m ns (bL g n)&&BH m ns g l
 |_::l=>BH m ns g l
def Mr(s:Shape)(dep:Nat)(g:aA)(sk:List aA):Bool:=
 let ns:=fX dep s.bX
 nodup (ns++s.roots.map (·.1))&&BH (mF dep g s.bX) ns g s.bX&&(sk.all fun r=>r.all fun x=>Ma [] ns x.2)&&(s.roots.all fun x=>Nat.ble 32768 x.1|| !x.2.2.dA||eV x.2.2)&&s.bX.all fun x=>match x.2 with| .v t=>t.shared|_=>true
def gb(m0 m:List (Nat×Nat))(g0 g:aA)(ρ:af):List (Nat×Sh)→Cm (List eh×af)
 |[]=> .ret ([],ρ)
 |(n,.v t)::l=>(Rk t (bL g n)).bind fun d=>(gb m0 m g0 g ρ l).bind fun ds=> .ret (d::ds.1,ds.2)
 |(n,.w t)::l=>(Rn ρ t (bL g n)).bind fun(d,rs)=>(gb m0 m g0 g (rs++ρ) l).bind fun ds=> .ret (d::ds.1,ds.2)
 |(n,.keep)::l=>(Lh (Dy m0 (bL g0 n)) (Dy m (bL g n))).bind fun _=>(gb m0 m g0 g ρ l).bind fun ds=> .ret (⟨.unit,()⟩::ds.1,ds.2)
def wA(ρ:af):List (Nat×Bool×Ty)→Cm (List eh)
 |[]=> .ret []
 |(n,re,_)::l=>match ah ρ n with
  |some (.data re' t x _)=> .jm (re==re') ((wA ρ l).bind fun ds=> .ret (⟨t,x⟩::ds))
  |_=> .fail
def pack(s:Shape)(dep:Nat)(g0 g:aA)(sk:List aA)(ρ:af):Cm s.T.D:= .jm (Mr s dep g sk)<|
 (gb (mF dep g0 s.bX) (mF dep g s.bX) g0 g ρ s.bX).bind fun a=>(wA a.2 s.roots).bind fun b=>AH s.ts (a.1++b)
def fk(m0:List (Nat×Nat))(g0:aA)(dep:Nat):List (Nat×Sh)→List eh→aA×af×List eh
 |[],ds=>([],[],ds)
 |(n,.v _)::l,d::ds=>let r:=fk m0 g0 dep l ds;((n,.v d.1 d.2)::r.1,r.2)
 |(n,.w _)::l,d::ds=>
  let r:=fk m0 g0 dep l ds
  let nm:=nameOf dep n+7
  ((n,match d.1 with| .list _ _=> .wl ⟨nm,[]⟩|_=> .sv ⟨nm,[]⟩)::r.1,(nm,some (.data false d.1 d.2 none))::r.2.1,r.2.2)
 |(n,.keep)::l,_::ds=>let r:=fk m0 g0 dep l ds;((n,Dy m0 (bL g0 n))::r.1,r.2)
 |_,ds=>([],[],ds)
def wo:List (Nat×Bool×Ty)→List eh→af
 |(n,re,_)::l,d::ds=>(n,some (.data re d.1 d.2 none))::wo l ds
 |_,_=>[]
def unpack(s:Shape)(g0:aA)(sk:List aA)(x:s.T.D):aA×List aA×af:=
 let r:=fk (mF sk.length g0 s.bX) g0 sk.length s.bX (wg s.ts x)
 let ρ:=r.2.1++wo s.roots r.2.2
 (xY ρ r.1,sk.map (xY ρ),ρ)
def S2(t:Ty)(nm:Nat):RV:=match t with| .list _ _=> .wl ⟨nm,[]⟩|_=> .sv ⟨nm,[]⟩
def oN{α:Type}(m0:List (Nat×Nat))(g0:aA)(dep:Nat):List (Nat×Sh)→List eh→(aA→af→List eh→α)→α
 |[],ds,f=>f [] [] ds
 |(n,.v _)::l,⟨t,x⟩::ds,f=>oN m0 g0 dep l ds fun g ρ ds=>f ((n,.v t x)::g) ρ ds
 |(n,.w _)::l,⟨t,x⟩::ds,f=>force (nameOf dep n+7) fun nm=>
  AA (S2 t nm) fun v=>oN m0 g0 dep l ds fun g ρ ds=>f ((n,v)::g) ((nm,some (.data false t x none))::ρ) ds
 |(n,.keep)::l,_::ds,f=>AA (Dy m0 (bL g0 n)) fun v=>oN m0 g0 dep l ds fun g ρ ds=>f ((n,v)::g) ρ ds
 |_,ds,f=>f [] [] ds
def Az{α:Type}:List (Nat×Bool×Ty)→List eh→(af→α)→α
 |(n,re,_)::l,⟨t,x⟩::ds,f=>Az l ds fun ρ=>f ((n,some (.data re t x none))::ρ)
 |_,_,f=>f []
def D6{α:Type}(s:Shape)(g0:aA)(sk:List aA)(x:s.T.D)(f:aA×List aA×af→α):α:=
 oN (mF sk.length g0 s.bX) g0 sk.length s.bX (wg s.ts x) fun g ρ1 ds=>Az s.roots ds fun ρ2=>
 lu (ρ1++ρ2) fun ρ=>lK (xY ρ g) fun g=>D1 (sk.map (xY ρ)) fun sk=>f (g,sk,ρ)
mutual
def KK:RV→RV→Bool
 | .tp l,.tp m=>Iv l m
 | .cL,_=>true
 |_,.cL=>false
 |_,_=>true
def Iv:List RV→List RV→Bool
 |[],[]=>true
 |x::xs,y::ys=>KK x y&&Iv xs ys
 |_,_=>false
end
def AE:aA→aA→Bool
 |[],[]=>true
 |(_,v)::l,(_,u)::m=>KK v u&&AE l m
 |_,_=>false
def Cb:List aA→List aA→Bool
 |[],[]=>true
 |a::l,b::m=>AE a b&&Cb l m
 |_,_=>false
inductive Ex where
 |normal|exit (id:Nat)|ret
abbrev RA(R:Type):=Ex→aA→List aA→af→Option R
def iter{D R:Type}:Nat→((D→Option R)→D→Option R)→D→Option R
 |0,_,_=>none
 |n+1,F,d=>F (iter n F) d
def o4{T R:Type}(x:Option (T ⊕ R))(f:T→Option R):Option R:=match x with
 |some (.inl d)=>f d
 |some (.inr r)=>some r
 |none=>none
def fv:Code→Option Nat
 | .region id _ _=>some id
 | .seq a _=>fv a
 | .block _ a| .loop a=>fv a
 | .cond _ a b=>match fv a with|some r=>some r|none=>fv b
 |_=>none
structure Hints where
 loop:Nat→List (Nat×Option Ty)
 join:Nat→Option (List (Nat×Option Ty))
def den(inl:QS)(k:Nat)(h:Hints){R:Type}:Code→aA→List aA→af→RA R→Option R
 | .skip,g,sk,ρ,κ=>κ .normal g sk ρ
 | .region _ ops draw,g,sk,ρ,κ=>K1 E call inl draw ops.toList g sk ρ fun g sk ρ=>κ .normal g sk ρ
 | .seq a b,g,sk,ρ,κ=>
  match(fv b).bind h.join with
  |none=>den inl k h a g sk ρ fun e g sk ρ=>match e with
   | .normal=>den inl k h b g sk ρ κ
   |e=>κ e g sk ρ
  |some live=>
   lK g fun g=>lu ρ fun ρ=>sH (sK g sk.length ρ live) fun s=>
   o4 (den (R:=s.T.D ⊕ R) inl k h a g sk ρ (fun e g' sk' ρ'=>match e with
    | .normal=>if Cb sk sk' then(pack s sk.length g g' sk' ρ').runK fun d=>some (.inl d)else none
    |e=>(κ e g' sk' ρ').map .inr)) fun d=>D6 s g sk d fun u=>den inl k h b u.1 u.2.1 u.2.2 κ
 | .cond c a b,g,sk,ρ,κ=>match ev g c with
  | .v .bool x=>bif (x:Bool)then den inl k h a g sk ρ κ else den inl k h b g sk ρ κ
  |_=>none
 | .block id a,g,sk,ρ,κ=>den inl k h a g sk ρ fun e g sk ρ=>match e with
  | .exit j=>if Nat.beq j id then κ .normal g sk ρ else κ (.exit j) g sk ρ
  |e=>κ e g sk ρ
 | .loop a,g,sk,ρ,κ=>
  lK g fun g=>lu ρ fun ρ=>sH (sK g sk.length ρ (h.loop ((fv a).getD 0))) fun s=>
  (pack s sk.length g g sk ρ).runK (iter k fun self d=>D6 s g sk d fun u=>
   den inl k h a u.1 u.2.1 u.2.2 fun e g' sk' ρ'=>match e with
    | .normal=>if Cb sk sk' then(pack s sk.length g g' sk' ρ').runK self else none
    |e=>κ e g' sk' ρ')
 | .exit id,g,sk,ρ,κ=>κ (.exit id) g sk ρ
 | .ret,g,sk,ρ,κ=>κ .ret g sk ρ
 |_,_,_,_,_=>none
def BI(g:aA)(ρ:af):List ResultVar→Cm (List RV)
 |[]=> .ret []
 | .tmp t::l=>(BI g ρ l).bind fun r=> .ret (bL g t::r)
 | .cell a t::l=>match bL g a with
  | .rf p=> .jm (cm E ρ t (res ρ p))<|(sZ ρ p).bind fun v=>(BI g ρ l).bind fun r=> .ret (seen (res ρ p) v::r)
  |_=> .fail
def PV(bound:Nat)(v:RV):RV:=bif (names v).any (Nat.ble bound)then .cL else v
def cut(bound:Nat):aA→aA
 |[]=>[]
 |(n,v)::l=>(n,PV bound v)::cut bound l
def R3(bound:Nat):af→af
 |[]=>[]
 |(n,b)::l=>if Nat.ble bound n then R3 bound l else(n,b)::R3 bound l
def yx(bound:Nat):Nat→List (Nat×Nat)→List Nat→List (Nat×Nat)
 |_,m,[]=>m
 |d,m,r::l=>if Nat.ble bound r&& !(m.any fun x=>Nat.beq x.1 r)then yx bound (d+1) ((r,d)::m) l else yx bound d m l
def G6(bound:Nat):af→Bool
 |[]=>true
 |(_,some (.al q))::l=>Nat.ble (q.r+1) bound&&G6 bound l
 |_::l=>G6 bound l
def dC(m:List (Nat×Nat))(bound:Nat)(ρ:af):af:=m.map (fun x=>(x.2,ah ρ x.1))++R3 bound ρ
def Ew(bound d:Nat)(g:aA)(ρ:af)(rs:List ResultVar):Cm (List RV×af):=
 (BI E g ρ rs).bind fun xs=>
  let m:=yx bound d [] (fj xs)
  .jm (Nat.ble 32768 bound&&G6 bound ρ&&nodup (m.map (·.1))&&nodup (m.map (·.2))&&m.all fun x=>Nat.ble bound x.1&&(Nat.ble 32768 x.2&&(Nat.ble (x.2+1) bound&&(ah ρ x.2).isNone)))<|
   .ret (Bc m xs,dC m bound ρ)
def lA:List RV→Nat→aA
 |[],_=>[]
 |x::xs,i=>(i,x)::lA xs (i+1)
def Oa(k:Nat)(H:Nat→Hints):Nat→QS
 |0=>fun _ _ _ _ _ _=>none
 |m+1=>fun dst f xs sk ρ κ=>match E.body f with
  |some fn=>match fn.body with
   |some c=>
    den E call (Oa k H m) k (H f) c (lA xs 0) sk ρ fun e g sk' ρ'=>
     let fin (_:Unit):=(Ew E (nameOf sk.length 0) (nameOf (sk.length-1) dst+3) g ρ' fn.results.toList).runK fun(rvs,ρ3)=>
      κ (C7 rvs) (sk'.map (cut (nameOf sk.length 0))) ρ3
     match e with
     | .ret=>fin ()
     | .normal=>fin ()
     |_=>none
   |none=>none
  |none=>none
def Jw(ρ:af)(s:bu)(xs:List RV):Cm s.yM.D:=
 (gA ρ (s.outs.map .val) xs [] []).bind fun a=>(eN ρ a.2.1 a.2.2 (s.outs.map .val) xs a.1).bind fun b=>
 match s.io with
 |none=>AH s.dQ b.1
 |some (_,t)=>match ah (a.2.1++ρ) 1 with
  |some (.data _ t' x _)=> .jm (t'.beq t&& !b.2.any (Nat.beq 1)) (AH s.dQ (b.1++[⟨t',x⟩]))
  |_=> .fail
end
def BM(s:bu)(ds:List eh):List RV×af:=
 match s.io,ds with
 |some (ptr,_),v::vs=>((if ptr then .rf ⟨1,[]⟩else .wl ⟨1,[]⟩)::(outs 32768 vs).1,(1,some (.data ptr v.1 v.2 none))::(outs 32768 vs).2)
 |_,ds=>outs 32768 ds
def bu.Ra(s:bu):Bool:=(s.ins.all fun p=>p.t.shared|| !p.t.dA||eV p.t)&&(match s.io with|some (ptr,t)=>ptr||eV t|none=>true)
def aO(E:Env)(H:Nat→Hints):Nat→cr
 |0=>fun _ _ _=>none
 |k+1=>fun f s x=>match E.body f with
  |some fn=>match fn.body with
   |some c=>
    if s.Ra then
     den E (aO E H k) (Oa E (aO E H k) k H 9) k (H f) c (lA (BM s (wg s.ox x)).1 0) [] (BM s (wg s.ox x)).2 fun e g _ ρ=>
      match e with
      | .ret=>((BI E g ρ fn.results.toList).bind fun xs=>Jw ρ s xs).runK some
      | .normal=>((BI E g ρ fn.results.toList).bind fun xs=>Jw ρ s xs).runK some
      |_=>none
    else none
   |none=>none
  |none=>E.ext f s x
end
section
def LC(t t':Ty)(g:t.G)(g':t'.G):Prop:=
 ∀(ad:Option Addr) (p:Path) (u:Ty),oL t' p=some u→∀s,loc t g ad p=some s→∃s',loc t' g' ad p=some s'∧s'.ad=s.ad∧s'.t=u∧s.t.same u=true∧cl s'.t s'.g=cl s.t s.g
theorem LC.nil{t t':Ty}{g:t.G}{g':t'.G}(hs:t.same t'=true)(hc:cl t' g'=cl t g){ad:Option Addr}{u:Ty}(hu:oL t' []=some u){s:dN}(h:loc t g ad []=some s):∃s',loc t' g' ad []=some s'∧s'.ad=s.ad∧s'.t=u∧s.t.same u=true∧cl s'.t s'.g=cl s.t s.g:=by
 rw[aD]at h;injection h with h;subst h
 rw[F1]at hu;injection hu with hu;subst hu
 exact⟨_,aD _ _ _,rfl,rfl,hs,hc⟩
theorem BQ{t t':Ty}(h:t.sub t'=true)(ih:∀g:t.G,∃g' dr,FM t t' h g g' dr∧LC t t' g g'):∀rows:List t.G,∃(rows':List t'.G) (dr:List Nat),
  (rows.flatMap (fp t)).Perm (rows'.flatMap (fp t')++dr)∧rows'.length=rows.length∧rows'.flatMap (cl t')=rows.flatMap (cl t)∧
  (∀e:List t.D=List t'.D,rows'.map (er t')=cast e (rows.map (er t)))∧
  (∀w KS KS',(∀b,KS b→KS' b)→(∀b∈dr,KS' b)→(∀r∈rows,bM w KS t r)→∀r∈rows',bM w KS' t' r)∧
  ∀(i:Nat) (r:t.G),rows[i]? =some r→∃r':t'.G,rows'[i]? =some r'∧LC t t' r r'
 |[]=>⟨[],[],by simp,rfl,rfl,fun e=>(xL (Ty.cj (Ty.aP h)) e).symm,fun _ _ _ _ _ _=>by simp,by simp⟩
 |g::gs=>by
  obtain⟨g',d1,hg,hL⟩:=ih g
  obtain⟨gs',d2,h1,h2,h3,h4,h5,h6⟩:=BQ h ih gs
  refine⟨g'::gs',d1++d2, ?_,by simp[h2],by simp[h3,hg.cl], ?_, ?_, ?_⟩
  ·simp only[List.flatMap_cons];exact ld hg.perm h1
  ·intro e
   rw[List.map_cons,List.map_cons,uL (Ty.cj (Ty.aP h)) e,hg.er,h4 e]
  ·intro w KS KS' hs hd hr r hr'
   rcases List.mem_cons.1 hr' with rfl|hr'
   ·exact hg.ok w KS KS' hs (fun b hb=>hd b (by simp[hb])) (hr g (by simp))
   ·exact h5 w KS KS' hs (fun b hb=>hd b (by simp[hb])) (fun r hr''=>hr r (by simp[hr''])) r hr'
  ·intro i r hi
   cases i with
   |zero=>simp at hi;subst hi;exact⟨g',by simp,hL⟩
   |succ i=>obtain⟨r',q1,q2⟩:=h6 i r (by simpa using hi);exact⟨r',by simpa using q1,q2⟩
theorem LC.atom{t t':Ty}{g:t.G}{g':t'.G}(hs:t.same t'=true)(hc:cl t' g'=cl t g)(h:∀a p,oL t' (a::p)=none):LC t t' g g':=fun ad p u hu s hl=>by
 cases p with
 |nil=>exact LC.nil hs hc hu hl
 |cons a p=>rw[h a p]at hu;cases hu
theorem Rq:∀{t t':Ty} (h:t.sub t'=true) (g:t.G),∃g' dr,FM t t' h g g' dr∧LC t t' g g':=by
 intro t
 induction t with
 |pair a b iha ihb=>
  intro t' h g
  cases t'<;>first|(cases h;done)|skip
  rename_i c d
  have h':=h
  simp only[Ty.sub,Bool.and_eq_true]at h'
  obtain⟨g1,d1,c1,L1⟩:=iha h'.1 g.1
  obtain⟨g2,d2,c2,L2⟩:=ihb h'.2 g.2
  have C:FM (.pair a b) (.pair c d) h g (g1,g2) (d1++d2):=by
   refine⟨ld c1.perm c2.perm,by simp[cl,c1.cl,c2.cl], ?_, ?_⟩
   ·rw[Hy (Ty.cj (Ty.aP h'.1)) (Ty.cj (Ty.aP h'.2))]
    simp only[er,c1.er,c2.er]
   ·intro w KS KS' hs hd hg
    exact⟨c1.ok w KS KS' hs (fun b hb=>hd b (by simp[hb])) hg.1,c2.ok w KS KS' hs (fun b hb=>hd b (by simp[hb])) hg.2⟩
  refine⟨(g1,g2),d1++d2,C,fun ad p u hu s hl=> ?_⟩
  cases p with
  |nil=>exact LC.nil (Ty.aP h) C.cl hu hl
  |cons st p=>
   cases st with
   |L=>exact L1 ad p u hu s hl
   |R=>
    have:=L2 (ad.map (Addr.plus · a.sz)) p u hu s hl
    rw[Ty.bm (Ty.aP h'.1)]at this
    exact this
   |I i=>cases hl
   |A i=>cases hl
 |arr n t ih=>
  intro t' h g
  cases t'<;>first|(cases h;done)|skip
  rename_i n' v
  have h':=h
  simp only[Ty.sub,Bool.and_eq_true]at h'
  obtain rfl:n=n':=Nat.eq_of_beq_eq_true h'.1
  obtain⟨rows',dr,h1,h2,h3,h4,h5,h6⟩:=BQ h'.2 (fun g=>ih h'.2 g) g
  have C:FM (.arr n t) (.arr n v) h g rows' dr:=⟨h1,h3,h4 _,fun w KS KS' hs hd hg=>⟨by rw[h2];exact hg.1,h5 w KS KS' hs hd hg.2⟩⟩
  refine⟨rows',dr,C,fun ad p u hu s hl=> ?_⟩
  cases p with
  |nil=>exact LC.nil (Ty.aP h) C.cl hu hl
  |cons st p=>
   cases st with
   |A i=>
    simp only[loc]at hl ⊢
    split at hl
    ·rename_i r hr
     obtain⟨r',q1,q2⟩:=h6 i r hr
     have:=q2 _ p u hu s hl
     rw[Ty.bm (Ty.aP h'.2)]at this
     rw[show(rows':List v.G)[i]? =some r' from q1]
     exact this
    ·cases hl
   |L=>cases hl
   |R=>cases hl
   |I i=>cases hl
 |list o t ih=>
  intro t' h g
  cases t'<;>first|(cases h;done)|skip
  rename_i o' v
  cases o' with
  |true=>
   have h':=h
   simp only[Ty.sub,if_true,Bool.and_eq_true]at h'
   obtain⟨rfl,h'⟩:=h'
   obtain⟨rows',dr,h1,h2,h3,h4,h5,h6⟩:=BQ h' (fun g=>ih h' g) g.rows
   have C:FM (.list true t) (.list true v) h g ⟨g.ad,g.cap,rows'⟩ (if g.ad.isSome∧g.cap≠0 then dr else []):=by
    refine⟨?_,by simp[cl,h2],h4 _, ?_⟩
    ·cases hg:g.ad with
     |none=>simp[fp,hg]
     |some a=>
      by_cases hc:g.cap=0
      ·simp[fp,hg,hc]
      ·simp only[fp,hg,hc,if_false,Option.isSome_some,ne_eq,not_false_eq_true,and_self,if_true,List.cons_append]
       exact List.Perm.cons _ h1
    ·intro w KS KS' hs hd hg
     rcases hg with⟨h6,h7⟩|⟨b,rest,e1,e2,e3,e4,e5,e6⟩
     ·refine .inl ⟨h6, ?_⟩
      have:rows'.length=0:=by rw[h2,h7];rfl
      exact List.eq_nil_of_length_eq_zero this
     ·have hne:g.cap≠0:=by omega
      have hsz:v.sz=t.sz:=(Ty.bm (Ty.aP h')).symm
      refine .inr ⟨b,rest,e1,e2,by simpa[h2]using e3,by rw[h3];exact e4,by rw[h3,e5,hsz], ?_⟩
      refine h5 w KS KS' hs (fun b' hb'=>hd b' ?_) e6
      simp[e1,hne,hb']
   refine⟨⟨g.ad,g.cap,rows'⟩,_,C,fun ad p u hu s hl=> ?_⟩
   cases p with
   |nil=>exact LC.nil (Ty.aP h) C.cl hu hl
   |cons st p=>
    cases st with
    |I i=>
     simp only[loc]at hl ⊢
     split at hl
     ·rename_i r hr
      obtain⟨r',q1,q2⟩:=h6 i r hr
      have:=q2 _ p u hu s hl
      rw[Ty.bm (Ty.aP h')]at this
      rw[q1]
      exact this
     ·cases hl
    |L=>cases hl
    |R=>cases hl
    |A i=>cases hl
  |false=>
   obtain⟨g',dr,C⟩:=qu h g
   exact⟨g',dr,C,LC.atom (Ty.aP h) C.cl (fun a p=>by cases a<;>rfl)⟩
 |unit=>
  intro t' h g
  obtain⟨g',dr,C⟩:=qu h g
  exact⟨g',dr,C,LC.atom (Ty.aP h) C.cl (fun a p=>by cases t'<;>first|(cases h;done)|(cases a<;>rfl))⟩
 |bool=>
  intro t' h g
  obtain⟨g',dr,C⟩:=qu h g
  exact⟨g',dr,C,LC.atom (Ty.aP h) C.cl (fun a p=>by cases t'<;>first|(cases h;done)|(cases a<;>rfl))⟩
 |str=>
  intro t' h g
  obtain⟨g',dr,C⟩:=qu h g
  exact⟨g',dr,C,LC.atom (Ty.aP h) C.cl (fun a p=>by cases t'<;>first|(cases h;done)|(cases a<;>rfl))⟩
 |int k=>
  intro t' h g
  obtain⟨g',dr,C⟩:=qu h g
  exact⟨g',dr,C,LC.atom (Ty.aP h) C.cl (fun a p=>by cases t'<;>first|(cases h;done)|(cases a<;>rfl))⟩
 |gone n=>
  intro t' h g
  obtain⟨g',dr,C⟩:=qu h g
  exact⟨g',dr,C,LC.atom (Ty.aP h) C.cl (fun a p=>by cases t'<;>first|(cases h;done)|(cases a<;>rfl))⟩
 |ptr t ih=>
  intro t' h g
  obtain⟨g',dr,C⟩:=qu h g
  exact⟨g',dr,C,LC.atom (Ty.aP h) C.cl (fun a p=>by cases t'<;>first|(cases h;done)|(cases a<;>rfl))⟩
end
section
structure wC where
 n:Nat
 re:Bool
 t:Ty
 g:t.G
 ad:Option Addr
 r:Nat
 dr:List Nat:=[]
def wC.jL(x:wC):List Nat:=(x.ad.map (·.block)).toList++fp x.t x.g
def bN:List wC→af
 |[]=>[]
 |x::l=>(x.n,some (.data x.re x.t (er x.t x.g) none))::bN l
def fU:List wC→Nat→Option wC
 |[],_=>none
 |x::l,n=>if Nat.beq x.n n then some x else fU l n
def kI(l:List wC):av:={gr:=fun n=>(fU l n).map fun x=>⟨x.ad,x.t,x.g⟩,ud:=fun _=>default,pv:=fun _=>undef,pb:=fun _=>[]}
theorem gm:∀(l:List wC) (n:Nat),ah (bN l) n=(fU l n).map fun x=> .data x.re x.t (er x.t x.g) none
 |[],_=>rfl
 |x::l,n=>by
  simp only[bN,ah,fU]
  split
  ·rfl
  ·exact gm l n
theorem gT:∀{l:List wC} {n:Nat} {x:wC},fU l n=some x→x∈l∧x.n=n
 |y::l,n,x,h=>by
  simp only[fU]at h
  split at h
  ·rename_i hb
   injection h with h;subst h
   exact⟨by simp,Nat.eq_of_beq_eq_true hb⟩
  ·obtain⟨h1,h2⟩:=gT h
   exact⟨by simp[h1],h2⟩
theorem qL:∀{l:List wC},(l.map (·.n)).Nodup→∀x∈l,fU l x.n=some x
 |y::l,hn,x,h=>by
  simp only[List.map_cons,List.nodup_cons]at hn
  simp only[fU]
  rcases List.mem_cons.1 h with rfl|h
  ·simp[Nat.beq_refl]
  ·have hne:y.n≠x.n:=fun e=>hn.1 (List.mem_map.2 ⟨x,h,e.symm⟩)
   rw[if_neg (fun hb=>hne (Nat.eq_of_beq_eq_true hb))]
   exact qL hn.2 x h
structure Oe (c:Ctx) (KS KS':Nat→Prop) (e:av) (ρ:af) (w:World) (l:List wC):Prop where
 nd:(l.map (·.n)).Nodup
 ok:∀x∈l,bM w KS' x.t x.g∧(x.re=true→∃A,x.ad=some A∧cz w A (cl x.t x.g))∧(x.re=false→x.ad=none)∧x.jL.Nodup∧∀b∈x.jL,b∈bj ρ e x.r∧¬KS' b
 dj:∀x∈l,∀y∈l,x.n≠y.n→∀b∈x.jL,b∉y.jL
 ks:∀b,KS b→KS' b
 DP:∀b,KS' b→KS b∨∃m,b∈bj ρ e m∧∀A,c.cD m=some A→A.block≠b
 mv:∀x∈l,x.r≠x.n→∀A,c.cD x.r≠some A
 cD:∀x∈l,∀A,c.cD x.n=some A→x.ad=some A∧∀o,A.off≤o→o<A.off+x.t.sz→c.FT A.block o
 eo:∀x∈l,∀hh,c.eo x.n=some hh→∃te,∃gl:ck te.G,(⟨x.ad,x.t,x.g⟩:eY)=⟨none,.list true te,gl⟩∧hh=(gl.ad,gl.rows.length,gl.cap)
theorem J4{l:List wC}{n:Nat}:bj (bN l) (kI l) n=match fU l n with|some x=>x.jL|none=>[]:=by
 simp only[bj,gm,kI]
 cases h:fU l n with
 |none=>simp
 |some x=>simp[wC.jL]
section
variable {c:Ctx} {KS KS':Nat→Prop} {e:av} {F F2:Fs} {ρ:af} {w:World} {l:List wC}
theorem Inv.QU(h:Inv c KS e F ρ w)(H:Oe c KS KS' e ρ w l)(hF:∀p∈F2,∀t,bf w KS' (bN l) (kI l) (bL p.1 t) (p.2.eval (.tmp t))):Inv c KS' (kI l) F2 (bN l) w:=by
 have hb:∀n b,b∈bj (bN l) (kI l) n→∃x,fU l n=some x∧x∈l∧x.n=n∧b∈x.jL:=fun n b hb=>by
  rw[J4]at hb
  cases hf:fU l n with
  |none=>rw[hf]at hb;cases hb
  |some x=>rw[hf]at hb;exact⟨x,rfl,(gT hf).1,(gT hf).2,hb⟩
 refine⟨hF, ?_, ?_, ?_, ?_, ?_, ?_, ?_, ?_, ?_, ?_,h.fr⟩
 ·intro n
  simp only[bC,gm]
  cases hf:fU l n with
  |none=>trivial
  |some x=>
   obtain⟨hx,hn⟩:=gT hf
   obtain⟨q1,q2,q3,_⟩:=H.ok x hx
   exact⟨x.ad,x.g,by simp[kI,hf],rfl,q1,q2,q3,rfl⟩
 ·intro n
  rw[J4]
  cases hf:fU l n with
  |none=>simp
  |some x=>exact(H.ok x (gT hf).1).2.2.2.1
 ·intro n m hnm b hb1 hb2
  obtain⟨x,_,hx,hxn,hbx⟩:=hb n b hb1
  obtain⟨y,_,hy,hyn,hby⟩:=hb m b hb2
  exact H.dj x hx y hy (by rw[hxn,hyn];exact hnm) b hbx hby
 ·intro n b hb1
  obtain⟨x,_,hx,hxn,hbx⟩:=hb n b hb1
  exact((H.ok x hx).2.2.2.2 b hbx).2
 ·intro b hk
  rcases H.DP b hk with h1|⟨m,h1,_⟩
  ·exact h.lt b h1
  ·exact h.blt m b h1
 ·intro n b hb1
  obtain⟨x,_,hx,hxn,hbx⟩:=hb n b hb1
  exact h.blt _ b ((H.ok x hx).2.2.2.2 b hbx).1
 ·intro n b hb1
  obtain⟨x,_,hx,hxn,hbx⟩:=hb n b hb1
  rcases h.may _ b ((H.ok x hx).2.2.2.2 b hbx).1 with h1|h1|⟨A,h1,h2⟩
  ·exact .inl h1
  ·exact .inr (.inl h1)
  ·by_cases hr:x.r=x.n
   ·rw[hr,hxn]at h1;exact .inr (.inr ⟨A,h1,h2⟩)
   ·exact absurd h1 (H.mv x hx hr A)
 ·intro n A hA
  refine⟨fun q hq=> ?_,fun re t x pd hd=> ?_⟩
  ·rw[gm]at hq
   cases hf:fU l n with
   |none=>rw[hf]at hq;cases hq
   |some x=>rw[hf]at hq;cases hq
  ·rw[gm]at hd
   cases hf:fU l n with
   |none=>rw[hf]at hd;cases hd
   |some y=>
    rw[hf]at hd;cases hd
    obtain⟨hy,hyn⟩:=gT hf
    obtain⟨q1,q2⟩:=H.cD y hy A (by rw[hyn];exact hA)
    exact⟨⟨y.g,by simp[kI,hf,q1]⟩,q2⟩
 ·intro n hh hq re t x pd hd
  rw[gm]at hd
  cases hf:fU l n with
  |none=>rw[hf]at hd;cases hd
  |some y=>
   rw[hf]at hd;cases hd
   obtain⟨hy,hyn⟩:=gT hf
   obtain⟨te,gl,q1,q2⟩:=H.eo y hy hh (by rw[hyn];exact hq)
   exact⟨te,gl,by simp[kI,hf,q1],q2⟩
 ·intro b hk
  rcases H.DP b hk with h1|⟨m,h1,h2⟩
  ·exact h.Q6 b h1
  ·rcases h.may m b h1 with h3|h3|⟨A,h3,h4⟩
   ·exact .inr (.inl h3)
   ·exact .inr (.inr h3)
   ·exact absurd h4 (h2 A h3)
def uZ(e:av)(ρ:af)(x:wC):Prop:=hasData ρ x.r∧∃G,e.gr x.r=some G∧x.ad=G.ad∧LC G.t x.t G.g x.g
theorem nD{f:Ty→Bool}{q:Place}(h:DW (bN l) f q=true):∃x u,fU l q.r=some x∧oL x.t q.π=some u∧f u=true:=by
 unfold DW at h
 rw[gm]at h
 cases hf:fU l q.r with
 |none=>rw[hf]at h;cases h
 |some x=>
  rw[hf]at h
  simp only[Option.map_some]at h
  cases hu:oL x.t q.π with
  |none=>rw[hu]at h;cases h
  |some u=>rw[hu]at h;exact⟨x,u,rfl,hu,h⟩
theorem Ns{q:Place}(h:RU (bN l) q=true):∃x u,fU l q.r=some x∧oL x.t q.π=some u:=by
 unfold RU at h
 rw[gm]at h
 cases hf:fU l q.r with
 |none=>rw[hf]at h;cases h
 |some x=>
  rw[hf]at h
  simp only[Option.map_some,Bool.and_eq_true]at h
  obtain⟨u,hu⟩:=Option.isSome_iff_exists.1 h.2
  exact⟨x,u,rfl,hu⟩
theorem oV{p:Place}{n':Nat}{x:wC}(hf:fU l n'=some x)(hr:x.r=p.r)(hL:uZ e ρ x){s:dN}(hs:aC e p=some s){u:Ty}(hu:oL x.t p.π=some u):
  hasData (bN l) n'∧∃s',aC (kI l) ⟨n',p.π⟩=some s'∧s'.ad=s.ad∧s'.t=u∧s.t.same u=true∧cl s'.t s'.g=cl s.t s.g:=by
 obtain⟨_,G,q1,q2,q3⟩:=hL
 rw[hr]at q1
 simp only[aC,q1,Option.bind_some]at hs
 obtain⟨s',k1,k2⟩:=q3 _ _ _ hu _ hs
 refine⟨⟨x.re,x.t,er x.t x.g,none,by rw[gm,hf];rfl⟩,s', ?_,k2⟩
 simp only[aC,kI,hf,Option.map_some,Option.bind_some,q2]
 exact k1
mutual
theorem Iz{m:List (Nat×Nat)}(hK:∀b,KS b→KS' b):∀(v:RV) (x:Value),bf w KS ρ e v x→(∀r∈names v,∀y,fU l (tV m r)=some y→y.r=r∧uZ e ρ y)→there (bN l) (Dy m v)=true→bf w KS' (bN l) (kI l) (Dy m v) x
 | .cL,x,h,hn,ht=>trivial
 | .aT,x,h,hn,ht=>h
 | .v _ _,x,h,hn,ht=>⟨h.1,h.2.imp fun cs hc=>⟨cg.mono hK (fun _ _ _=>rfl) _ _ _ hc.1,hc.2⟩⟩
 | .nl,x,h,hn,ht=>h
 | .pn,x,h,hn,ht=>h
 | .wl p,x,h,hn,ht=>by
  obtain⟨y,u,hf,hu,hown⟩:=nD (q:=wX m p) (by simpa only[Dy,there]using ht)
  obtain⟨q1,q2⟩:=hn p.r (by simp[names]) y hf
  obtain⟨_,te,g,ad,h2,h3⟩:=h
  obtain⟨k0,s',k1,k2,k3,k4,k5⟩:=oV hf q1 q2 h2 hu
  obtain⟨st,sg,sa⟩:=s'
  simp only at k3;subst k3
  cases st<;>first|(cases hown;done)|skip
  rename_i o te'
  cases o with
  |false=>cases hown
  |true=>
   have k5':[Value.slice sg.ad sg.rows.length sg.cap]=[Value.slice g.ad g.rows.length g.cap]:=k5
   injection k5' with k5'
   exact⟨k0,te',sg,sa,k1,by rw[h3,k5']⟩
 | .vw p lo len,x,h,hn,ht=>by
  obtain⟨y,u,hf,hu,hown⟩:=nD (q:=wX m p) (by simpa only[Dy,there]using ht)
  obtain⟨q1,q2⟩:=hn p.r (by simp[names]) y hf
  obtain⟨_,te,g,ad,h2,h3,ad2,h4,h5⟩:=h
  obtain⟨k0,s',k1,k2,k3,k4,k5⟩:=oV hf q1 q2 h2 hu
  obtain⟨st,sg,sa⟩:=s'
  simp only at k3;subst k3
  cases st<;>first|(cases hown;done)|skip
  rename_i o te'
  cases o with
  |false=>cases hown
  |true=>
   have k5':[Value.slice sg.ad sg.rows.length sg.cap]=[Value.slice g.ad g.rows.length g.cap]:=k5
   injection k5' with k5'
   injection k5' with j1 j2 j3
   have hsz:te'.sz=te.sz:=(Ty.bm (a:=te) (b:=te') k4).symm
   exact⟨k0,te',sg,sa,k1,by rw[j2];exact h3,ad2,by rw[j1,j3,hsz];exact h4,by rw[h5,j3]⟩
 | .sv p,x,h,hn,ht=>by
  obtain⟨y,u,hf,hu,hown⟩:=nD (q:=wX m p) (by simpa only[Dy,there]using ht)
  obtain⟨q1,q2⟩:=hn p.r (by simp[names]) y hf
  obtain⟨_,s,h2,h3,h4⟩:=h
  obtain⟨k0,s',k1,k2,k3,k4,k5⟩:=oV hf q1 q2 h2 hu
  subst k3
  refine⟨k0,s',k1,by simpa using hown, ?_⟩
  rw[h4,←k5,cv k4]
 | .rf p,x,h,hn,ht=>by
  obtain⟨y,u,hf,hu⟩:=Ns (q:=wX m p) (by simpa only[Dy,there]using ht)
  obtain⟨q1,q2⟩:=hn p.r (by simp[names]) y hf
  obtain⟨s,A,h2,h3,h4⟩:=h
  have hd:hasData ρ p.r:=by rw[←q1];exact q2.1
  rw[eI hd]at h2
  obtain⟨k0,s',k1,k2,k3,k4,k5⟩:=oV hf q1 q2 h2 hu
  refine⟨s',A, ?_,by rw[k2,h3],h4⟩
  exact(eI (p:=⟨tV m p.r,p.π⟩) k0).trans k1
 | .ap p,x,h,hn,ht=>by simp[Dy,there]at ht
 | .fn f caps,x,h,hn,ht=>by
  obtain⟨vs,h1,h2⟩:=h
  exact⟨vs,h1,Bk hK caps vs h2 (fun r hr=>hn r (by simpa only[names]using hr)) (by simpa only[Dy,there]using ht)⟩
 | .fb f caps,x,h,hn,ht=>by
  obtain⟨a,vs,h1,h2,h3,h4,h5⟩:=h
  exact⟨a,vs,h1,h2,hK _ h3,h4,Bk hK caps vs h5 (fun r hr=>hn r (by simpa only[names]using hr)) (by simpa only[Dy,there]using ht)⟩
 | .tp ls,x,h,hn,ht=>by
  obtain⟨vs,h1,h2⟩:=h
  exact⟨vs,h1,Bk hK ls vs h2 (fun r hr=>hn r (by simpa only[names]using hr)) (by simpa only[Dy,there]using ht)⟩
theorem Bk{m:List (Nat×Nat)}(hK:∀b,KS b→KS' b):∀(ls:List RV) (vs:List Value),bF w KS ρ e ls vs→(∀r∈fj ls,∀y,fU l (tV m r)=some y→y.r=r∧uZ e ρ y)→FJ (bN l) (Bc m ls)=true→bF w KS' (bN l) (kI l) (Bc m ls) vs
 |[],vs,h,hn,ht=>h
 |v::ls,vs,h,hn,ht=>by
  obtain⟨x,vs',h0,h1,h2⟩:=h
  simp only[Bc,FJ,Bool.and_eq_true]at ht
  exact⟨x,vs',h0,Iz hK v x h1 (fun r hr=>hn r (by simp[fj,hr])) ht.1,Bk hK ls vs' h2 (fun r hr=>hn r (by simp[fj,hr])) ht.2⟩
end
mutual
theorem Jf:∀v:RV,Dy [] v=v
 | .cL| .aT| .v _ _| .nl| .pn=>rfl
 | .wl p| .vw p _ _| .sv p| .rf p| .ap p=>by simp[Dy,wX,tV]
 | .fn f c| .fb f c=>by simp[Dy,E3 c]
 | .tp l=>by simp[Dy,E3 l]
theorem E3:∀l:List RV,Bc [] l=l
 |[]=>rfl
 |v::l=>by simp[Bc,Jf v,E3 l]
end
theorem ym(ρ:af):∀(g:aA) (t:Nat),bL (xY ρ g) t=if there ρ (bL g t)then bL g t else .cL
 |[],t=>by
  show RV.cL=if there ρ RV.cL then RV.cL else RV.cL
  cases there ρ RV.cL<;>rfl
 |(n,v)::g,t=>by
  simp only[xY,bL]
  split
  ·rfl
  ·exact ym ρ g t
end
end
section
def mo:List eh→List eh→Prop
 |[],[]=>True
 |d::ds,d'::ds'=>conv d.1 d'.1 d.2=some d'.2∧mo ds ds'
 |_,_=>False
theorem qQ:∀(ts:List Ty) (ds:List eh) (d:(QJ ts).D),(AH ts ds).run=some d→mo ds (wg ts d)∧(wg ts d).map (·.1)=ts
 |[],[],d,h=>⟨trivial,rfl⟩
 |[t],[x],d,h=>by
  simp only[AH]at h
  replace h:=Cm.run_get h;obtain⟨y,hy,h⟩:=h
  injection h with h;subst h
  exact⟨⟨hy,trivial⟩,rfl⟩
 |t::u::ts,x::ds,d,h=>by
  simp only[AH]at h
  replace h:=Cm.run_get h;obtain⟨y,hy,h⟩:=h
  replace h:=Cm.ae h;obtain⟨z,hz,h⟩:=h
  injection h with h;subst h
  obtain⟨q1,q2⟩:=qQ (u::ts) ds z hz
  exact⟨⟨hy,q1⟩,by simp only[wg,List.map_cons,q2]⟩
 |[],_::_,d,h=>by cases h
 |[_],[],d,h=>by cases h
 |[_],_::_::_,d,h=>by cases h
 |_::_::_,[],d,h=>by cases h
theorem mo.split:∀{a b c:List eh},mo (a++b) c→∃c1 c2,c=c1++c2∧mo a c1∧mo b c2
 |[],b,c,h=>⟨[],c,rfl,trivial,h⟩
 |x::a,b,[],h=>h.elim
 |x::a,b,y::c,h=>by
  obtain⟨c1,c2,rfl,h1,h2⟩:=mo.split (a:=a) h.2
  exact⟨y::c1,c2,rfl,⟨h.1,h1⟩,h2⟩
mutual
theorem Me:∀{x y:RV} {u:Unit},(Lh x y).run=some u→x=y
 | .rf p,.rf q,u,h| .wl p,.wl q,u,h| .sv p,.sv q,u,h=>by
  unfold Lh sB at h
  replace h:=Cm.aG h;obtain⟨h1,h2⟩:=h
  obtain⟨pr,pπ⟩:=p
  obtain⟨qr,qπ⟩:=q
  have e1:pr=qr:=Nat.eq_of_beq_eq_true h1
  have e2:pπ=qπ:=jU h2
  rw[e1,e2]
 | .vw p a n,.vw q b m,u,h=>by
  unfold Lh sB at h
  replace h:=Cm.cC h;obtain⟨⟨h3,h4⟩,h⟩:=h
  replace h:=Cm.aG h;obtain⟨h1,h2⟩:=h
  obtain⟨pr,pπ⟩:=p
  obtain⟨qr,qπ⟩:=q
  have e1:pr=qr:=Nat.eq_of_beq_eq_true h1
  have e2:pπ=qπ:=jU h2
  rw[e1,e2,h3,h4]
 | .nl,.nl,u,h=>rfl
 | .pn,.pn,u,h=>rfl
 | .fn f c,.fn f' c',u,h=>by
  unfold Lh at h
  replace h:=Cm.aG h;obtain⟨h1,h2⟩:=h
  rw[Nat.eq_of_beq_eq_true h1,EN h2]
 | .fb f c,.fb f' c',u,h=>by
  unfold Lh at h
  replace h:=Cm.aG h;obtain⟨h1,h2⟩:=h
  rw[Nat.eq_of_beq_eq_true h1,EN h2]
 | .cL,y,u,h| .aT,y,u,h| .v _ _,y,u,h| .ap _,y,u,h| .tp _,y,u,h=>by cases y<;>cases h
 | .rf _,.cL,u,h| .rf _,.aT,u,h| .rf _,.v _ _,u,h| .rf _,.nl,u,h| .rf _,.pn,u,h| .rf _,.wl _,u,h| .rf _,.vw _ _ _,u,h| .rf _,.sv _,u,h| .rf _,.ap _,u,h| .rf _,.fn _ _,u,h| .rf _,.fb _ _,u,h| .rf _,.tp _,u,h=>by cases h
 | .wl _,.cL,u,h| .wl _,.aT,u,h| .wl _,.v _ _,u,h| .wl _,.nl,u,h| .wl _,.pn,u,h| .wl _,.rf _,u,h| .wl _,.vw _ _ _,u,h| .wl _,.sv _,u,h| .wl _,.ap _,u,h| .wl _,.fn _ _,u,h| .wl _,.fb _ _,u,h| .wl _,.tp _,u,h=>by cases h
 | .sv _,.cL,u,h| .sv _,.aT,u,h| .sv _,.v _ _,u,h| .sv _,.nl,u,h| .sv _,.pn,u,h| .sv _,.wl _,u,h| .sv _,.vw _ _ _,u,h| .sv _,.rf _,u,h| .sv _,.ap _,u,h| .sv _,.fn _ _,u,h| .sv _,.fb _ _,u,h| .sv _,.tp _,u,h=>by cases h
 | .vw _ _ _,.cL,u,h| .vw _ _ _,.aT,u,h| .vw _ _ _,.v _ _,u,h| .vw _ _ _,.nl,u,h| .vw _ _ _,.pn,u,h| .vw _ _ _,.wl _,u,h| .vw _ _ _,.rf _,u,h| .vw _ _ _,.sv _,u,h| .vw _ _ _,.ap _,u,h| .vw _ _ _,.fn _ _,u,h| .vw _ _ _,.fb _ _,u,h| .vw _ _ _,.tp _,u,h=>by cases h
 | .nl,.cL,u,h| .nl,.aT,u,h| .nl,.v _ _,u,h| .nl,.rf _,u,h| .nl,.pn,u,h| .nl,.wl _,u,h| .nl,.vw _ _ _,u,h| .nl,.sv _,u,h| .nl,.ap _,u,h| .nl,.fn _ _,u,h| .nl,.fb _ _,u,h| .nl,.tp _,u,h=>by cases h
 | .pn,.cL,u,h| .pn,.aT,u,h| .pn,.v _ _,u,h| .pn,.rf _,u,h| .pn,.nl,u,h| .pn,.wl _,u,h| .pn,.vw _ _ _,u,h| .pn,.sv _,u,h| .pn,.ap _,u,h| .pn,.fn _ _,u,h| .pn,.fb _ _,u,h| .pn,.tp _,u,h=>by cases h
 | .fn _ _,.cL,u,h| .fn _ _,.aT,u,h| .fn _ _,.v _ _,u,h| .fn _ _,.rf _,u,h| .fn _ _,.nl,u,h| .fn _ _,.wl _,u,h| .fn _ _,.vw _ _ _,u,h| .fn _ _,.sv _,u,h| .fn _ _,.ap _,u,h| .fn _ _,.pn,u,h| .fn _ _,.fb _ _,u,h| .fn _ _,.tp _,u,h=>by cases h
 | .fb _ _,.cL,u,h| .fb _ _,.aT,u,h| .fb _ _,.v _ _,u,h| .fb _ _,.rf _,u,h| .fb _ _,.nl,u,h| .fb _ _,.wl _,u,h| .fb _ _,.vw _ _ _,u,h| .fb _ _,.sv _,u,h| .fb _ _,.ap _,u,h| .fb _ _,.fn _ _,u,h| .fb _ _,.pn,u,h| .fb _ _,.tp _,u,h=>by cases h
theorem EN:∀{x y:List RV} {u:Unit},(MJ x y).run=some u→x=y
 |[],[],u,h=>rfl
 |x::xs,y::ys,u,h=>by
  unfold MJ at h
  replace h:=Cm.ae h;obtain⟨v,h1,h2⟩:=h
  rw[Me h1,EN h2]
 |[],_::_,u,h=>by cases h
 |_::_,[],u,h=>by cases h
end
structure R4 (c:Ctx) (KS:Nat→Prop) (e:av) (ρ:af) (w:World) (x:wC):Prop where
 ok:∀KS',(∀b,KS b→KS' b)→(∀b∈x.dr,KS' b)→bM w KS' x.t x.g
 nd:(x.jL++x.dr).Nodup
 sub:∀b∈x.jL++x.dr,b∈bj ρ e x.r
 Tg:∀b∈x.dr,∀A,c.cD x.r=some A→A.block≠b
 row:x.re=true→∃A,x.ad=some A∧cz w A (cl x.t x.g)
 S5:x.re=false→x.ad=none
section
variable {c:Ctx} {KS KS':Nat→Prop} {e:av} {F F2:Fs} {ρ ρ0:af} {w:World} {l:List wC}
theorem JT(h:Inv c KS e F ρ0 w){r:Nat}{tr:Ty}{y:tr.D}{pd:Option (Path×(te:Ty)×List te.D)}(hb:ah ρ0 r=some (.data false tr y pd)){π:Path}{s:dN}(hs:aC e ⟨r,π⟩=some s){t':Ty}{z:t'.D}(hc:conv s.t t' (er s.t s.g)=some z)(nm:Nat):
  ∃g' dr,R4 c KS e ρ0 w ⟨nm,false,t',g',none,r,dr⟩∧er t' g'=z∧s.t.same t'=true∧cl t' g'=cl s.t s.g∧LC s.t t' s.g g':=by
 obtain⟨hs',rfl⟩:=dn hc
 obtain⟨g',dr,C,L⟩:=Rq hs' s.g
 obtain⟨ad,g,q1,q2,q3,q4,q5,q6⟩:=h.root hb
 simp only[aC,q1,Option.bind_some]at hs
 have hL:=fc π tr g ad s hs (fun A hA=>(q4 A hA).2.1) q3
 obtain⟨rest,hpr,_⟩:=hL.perm
 have nd:=h.nd r
 rw[q6]at nd
 have nd1:=(List.nodup_append.1 nd).1
 have nd2:=(List.nodup_append.1 nd1).2.1
 have nds:=(List.nodup_append.1 (bg hpr nd2)).1
 have hmem:∀b∈fp t' g'++dr,b∈fp s.t s.g:=fun b hb=>C.perm.mem_iff.2 hb
 refine⟨g',dr,⟨fun KS' hK hd=>C.ok w KS KS' hK hd hL.ok, ?_, ?_, ?_,(fun h=>by cases h),fun _=>rfl⟩,C.er,Ty.aP hs',C.cl,L⟩
 ·simpa[wC.jL]using bg C.perm nds
 ·intro b hb1
  have:b∈fp t' g'++dr:=by simpa[wC.jL]using hb1
  rw[q6];simp[hL.sub b (hmem b this)]
 ·intro b hb1 A hA
  exact absurd hA (h.w9 hb A)
theorem J3(h:Inv c KS e F ρ0 w){r:Nat}{re:Bool}{tr:Ty}{y:tr.D}{pd:Option (Path×(te:Ty)×List te.D)}(hb:ah ρ0 r=some (.data re tr y pd)){t':Ty}{z:t'.D}(hc:conv tr t' y=some z):
  ∃g' ad dr,R4 c KS e ρ0 w ⟨r,re,t',g',ad,r,dr⟩∧er t' g'=z∧tr.same t'=true∧uZ e ρ0 ⟨r,re,t',g',ad,r,dr⟩∧∃g,e.gr r=some ⟨ad,tr,g⟩∧cl t' g'=cl tr g:=by
 obtain⟨hs',rfl⟩:=dn hc
 obtain⟨ad,g,q1,q2,q3,q4,q5,q6⟩:=h.root hb
 subst q2
 obtain⟨g',dr,C,L⟩:=Rq hs' g
 have nd:=h.nd r
 rw[q6]at nd
 have nd1:=(List.nodup_append.1 nd).1
 have nd2:=List.nodup_append.1 nd1
 have hmem:∀b∈fp t' g'++dr,b∈fp tr g:=fun b hb=>C.perm.mem_iff.2 hb
 have hpin:∀A,c.cD r=some A→ad=some A:=fun A hA=>by
  obtain⟨_,h2⟩:=h.cD r A hA
  obtain⟨⟨g2,h3⟩,_⟩:=h2 _ _ _ _ hb
  rw[q1]at h3
  injection h3 with h3
  exact congrArg eY.ad h3
 refine⟨g',ad,dr,⟨fun KS' hK hd=>C.ok w KS KS' hK hd q3, ?_, ?_, ?_, ?_, ?_⟩,C.er,Ty.aP hs',⟨⟨re,tr,_,pd,hb⟩,_,q1,rfl,L⟩,g,q1,C.cl⟩
 ·simp only[wC.jL,List.append_assoc]
  refine List.nodup_append.2 ⟨nd2.1,bg C.perm nd2.2.1,fun a ha b hb e0=> ?_⟩
  subst e0
  exact nd2.2.2 a ha a (hmem a hb) rfl
 ·intro b hb1
  simp only[wC.jL,List.append_assoc,List.mem_append]at hb1
  rw[q6]
  rcases hb1 with hb1|hb1
  ·simp only[List.mem_append];exact .inl (.inl hb1)
  ·have:=hmem b (List.mem_append.2 hb1);simp[this]
 ·intro b hb1 A hA e0
  have:=hpin A hA
  exact nd2.2.2 A.block (by rw[this];simp) b (hmem b (List.mem_append.2 (.inr hb1))) e0
 ·intro hre
  obtain⟨A,hA⟩:=q5 hre
  exact⟨A,hA,by show cz w A (cl t' g');rw[C.cl];exact(q4 A hA).2⟩
 ·intro hre
  cases had:ad with
  |none=>rfl
  |some A=>
   have:=(q4 A had).1
   have hre':re=false:=hre
   rw[hre']at this;cases this
end
end
section
theorem AS:∀a b:List wC,bN (a++b)=bN a++bN b
 |[],b=>rfl
 |x::a,b=>by simp[bN,AS a b]
section
variable {c:Ctx} {KS KS':Nat→Prop} {e:av} {F F2:Fs} {ρ ρ0:af} {w:World}
def RF(w:World)(KS:Nat→Prop)(ρ0:af)(e:av)(m:List (Nat×Nat))(g:aA)(ns:List Nat)(ents:List wC)(n:Nat)(v:Value)(rv:RV):Prop:=
 (∃t x,rv= .v t x∧bf w KS ρ0 e (.v t x) v)∨
 (∃x∈ents,((rv= .wl ⟨x.n,[]⟩∧x.t.dA=true)∨(rv= .sv ⟨x.n,[]⟩∧x.t.dA=false))∧v=val x.t (cl x.t x.g))∨
 (rv=Dy m (bL g n)∧Ma m ns (bL g n)=true)
structure SH (c:Ctx) (KS:Nat→Prop) (e:av) (ρ0:af) (w:World) (dep:Nat) (g:aA) (a:Act) (m:List (Nat×Nat)) (ns:List Nat) (l:List (Nat×Sh)) (ρ ρ':af) (bX:aA) (ents:List wC):Prop where
 names:ents.map (·.n)=fX dep l
 Nh:∀x∈ents,R4 c KS e ρ0 w x∧x.re=false∧∀A,c.cD x.r=some A→x.r=x.n
 src:∀x∈ents,x.jL++x.dr=[]∨(ah ρ x.r≠none∧ah ρ' x.r=none)
 pw:ents.Pairwise fun x y=>x.jL++x.dr=[]∨y.jL++y.dr=[]∨x.r≠y.r
 sub:∀n b,ah ρ' n=some b→ah ρ n=some b
 map:∀q∈mF dep g l,∃x∈ents,x.n=q.2∧x.r=q.1∧uZ e ρ0 x
 bX:∀q∈bX,RF w KS ρ0 e m g ns ents q.1 (a.eval (.tmp q.1)) q.2
theorem RF.mono{m:List (Nat×Nat)}{g:aA}{ns:List Nat}{ents ents':List wC}(hs:∀x∈ents,x∈ents'){n:Nat}{v:Value}{rv:RV}(h:RF w KS ρ0 e m g ns ents n v rv):RF w KS ρ0 e m g ns ents' n v rv:=by
 rcases h with h|⟨x,hx,h⟩|h
 ·exact .inl h
 ·exact .inr (.inl ⟨x,hs x hx,h⟩)
 ·exact .inr (.inr h)
theorem Fw{t t':Ty}(h:t.same t'=true){g:t.G}{g':t'.G}(hc:cl t' g'=cl t g):val t (cl t g)=val t' (cl t' g'):=by rw[hc,cv h]
def Sp(c:Ctx)(KS:Nat→Prop)(e:av)(ρ0:af)(w:World)(g:aA)(n dep:Nat)(d1:eh)(v:Value)(ρ rs:af):Prop:=
 ∃x:wC,x.n=nameOf dep n+7∧x.re=false∧(⟨x.t,er x.t x.g⟩:eh)=d1∧R4 c KS e ρ0 w x∧(∀A,c.cD x.r=some A→x.r=x.n)∧v=val x.t (cl x.t x.g)∧
     ((rs=[]∧x.jL++x.dr=[]∧BE (bL g n)=none)∨(∃r,rs=[(r,none)]∧x.r=r∧ah ρ r≠none∧(∀r',BE (bL g n)=some r'→r'=r∧uZ e ρ0 x)))
theorem oZ{g g0:aA}{a:Act}{dep:Nat}{m0 m:List (Nat×Nat)}{ns:List Nat}(h:Inv c KS e ((g,a)::F) ρ0 w):∀(l:List (Nat×Sh)) (ρ:af),(∀n b,ah ρ n=some b→ah ρ0 n=some b)→∀ds ρ',(gb m0 m g0 g ρ l).run=some (ds,ρ')→
  ∀ds1 rest,mo ds ds1→ds1.map (·.1)=l.map (·.2.t)→(l.all fun x=>match x.2 with| .v t=>t.shared|_=>true)=true→BH m ns g l=true→
  ∃ents,(fk m0 g0 dep l (ds1++rest)).2.1=bN ents∧(fk m0 g0 dep l (ds1++rest)).2.2=rest∧SH c KS e ρ0 w dep g a m ns l ρ ρ' (fk m0 g0 dep l (ds1++rest)).1 ents
 |[],ρ,hρ,ds,ρ',hr,ds1,rest,hcv,hty,hsh,hok=>by
  injection hr with hr;cases hr
  cases ds1 with
  |cons _ _=>exact hcv.elim
  |nil=>exact⟨[],rfl,rfl,rfl,by simp,by simp,by simp,fun _ _ h=>h,by simp[mF],by simp[fk]⟩
 |(n,.v t)::l,ρ,hρ,ds,ρ',hr,ds1,rest,hcv,hty,hsh,hok=>by
  simp only[gb]at hr
  replace hr:=Cm.ae hr;obtain⟨d,hd,hr⟩:=hr
  replace hr:=Cm.ae hr;obtain⟨⟨ds2,ρ2⟩,hr2,hr⟩:=hr
  injection hr with hr;cases hr
  cases ds1 with
  |nil=>exact hcv.elim
  |cons d1 ds1=>
   obtain⟨hc1,hcv⟩:=hcv
   simp only[List.map_cons,List.cons.injEq]at hty
   simp only[List.all_cons,Bool.and_eq_true]at hsh
   obtain⟨ents,e1,e2,R⟩:=oZ h l ρ hρ ds2 ρ2 hr2 ds1 rest hcv hty.2 hsh.2 hok
   refine⟨ents,e1,e2,⟨R.names,R.Nh,R.src,R.pw,R.sub,R.map,fun q hq=> ?_⟩⟩
   simp only[fk,List.cons_append]at hq
   rcases List.mem_cons.1 hq with rfl|hq
   ·left
    refine⟨d1.1,d1.2,rfl, ?_⟩
    have hreg:=h.bX (g,a) (by simp) n
    have eo:d1.1.shared=true:=by rw[hty.1];exact hsh.1
    obtain⟨hs,hcast⟩:=dn hc1
    unfold Rk at hd
    split at hd
    ·rename_i t' x hv
     injection hd with hd;subst hd
     rw[hv]at hreg
     obtain⟨_,cs,k1,k2⟩:=hreg
     refine⟨eo,cs, ?_,by rw[k2,cv (Ty.aP hs)]⟩
     rw[hcast];exact dT (Ty.aP hs) k1
    ·rename_i hv
     rw[hv]at hreg
     cases t<;>first|(cases hd;done)|skip
     injection hd with hd;subst hd
     have hv':a.eval (.tmp n)= .slice none 0 0:=hreg
     refine⟨eo,[.slice none 0 0], ?_, ?_⟩
     ·rw[hcast]
      exact dT (Ty.aP hs) (t:= .list false _) ⟨none,0,rfl,Nat.le_refl _,.inl rfl⟩
     ·rw[hv',←cv (Ty.aP hs)];rfl
    ·rename_i hv
     rw[hv]at hreg
     cases t<;>first|(cases hd;done)|skip
     injection hd with hd;subst hd
     have hv':a.eval (.tmp n)= .pointer none:=hreg
     refine⟨eo,[.pointer none], ?_, ?_⟩
     ·rw[hcast]
      exact dT (Ty.aP hs) (t:= .ptr _) (by rw[Ba];rfl)
     ·rw[hv',←cv (Ty.aP hs)];rfl
    ·cases hd
   ·exact R.bX q hq
 |(n,.keep)::l,ρ,hρ,ds,ρ',hr,ds1,rest,hcv,hty,hsh,hok=>by
  simp only[gb]at hr
  replace hr:=Cm.ae hr;obtain⟨u,hu,hr⟩:=hr
  replace hr:=Cm.ae hr;obtain⟨⟨ds2,ρ2⟩,hr2,hr⟩:=hr
  injection hr with hr;cases hr
  cases ds1 with
  |nil=>exact hcv.elim
  |cons d1 ds1=>
   obtain⟨hc1,hcv⟩:=hcv
   simp only[List.map_cons,List.cons.injEq]at hty
   simp only[List.all_cons,Bool.and_eq_true]at hsh
   simp only[BH,Bool.and_eq_true]at hok
   obtain⟨ents,e1,e2,R⟩:=oZ h l ρ hρ ds2 ρ2 hr2 ds1 rest hcv hty.2 hsh.2 hok.2
   refine⟨ents,e1,e2,⟨R.names,R.Nh,R.src,R.pw,R.sub,R.map,fun q hq=> ?_⟩⟩
   simp only[fk,List.cons_append]at hq
   rcases List.mem_cons.1 hq with rfl|hq
   ·exact .inr (.inr ⟨Me hu,hok.1⟩)
   ·exact R.bX q hq
 |(n,.w t)::l,ρ,hρ,ds,ρ',hr,ds1,rest,hcv,hty,hsh,hok=>by
  simp only[gb]at hr
  replace hr:=Cm.ae hr;obtain⟨⟨d,rs⟩,hd,hr⟩:=hr
  replace hr:=Cm.ae hr;obtain⟨⟨ds2,ρ2⟩,hr2,hr⟩:=hr
  injection hr with hr;cases hr
  cases ds1 with
  |nil=>exact hcv.elim
  |cons d1 ds1=>
   obtain⟨hc1,hcv⟩:=hcv
   simp only[List.map_cons,List.cons.injEq]at hty
   simp only[List.all_cons,Bool.and_eq_true]at hsh
   have hreg:=h.bX (g,a) (by simp) n
   -- the new root, and which root goes
   have key:Sp c KS e ρ0 w g n dep d1 (a.eval (.tmp n)) ρ rs:=by
    have place:∀{p:Place} {tr:Ty} {y:tr.D} {pd:Option (Path×(te:Ty)×List te.D)},ah ρ p.r=some (.data false tr y pd)→(rd tr y p.π).run=some d→rs=[(p.r,none)]→(∀s,aC e p=some s→a.eval (.tmp n)=val s.t (cl s.t s.g))→(∀r',BE (bL g n)=some r'→p.π=[]∧r'=p.r)→Sp c KS e ρ0 w g n dep d1 (a.eval (.tmp n)) ρ rs:=fun{p tr y pd} hb hrd hrs hval hwh=>by
     have hb0:=hρ _ _ hb
     obtain⟨s,hs,hds⟩:=IV h hb0 hrd
     subst hds
     obtain⟨pr,pπ⟩:=p
     obtain⟨g',dr,P1,P2,P3,P4,P5⟩:=JT h hb0 hs (t':=d1.1) (z:=d1.2) hc1 (nameOf dep n+7)
     refine⟨⟨nameOf dep n+7,false,d1.1,g',none,pr,dr⟩,rfl,rfl,by rw[P2],P1,fun A hA=>absurd hA (h.w9 hb0 A), ?_,.inr ⟨pr,hrs,rfl,by rw[hb];simp,fun r' hr'=> ?_⟩⟩
     ·rw[hval s hs];exact Fw P3 P4
     ·obtain⟨hπ,hrr⟩:=hwh r' hr'
      simp only at hπ hrr
      subst hπ
      refine⟨hrr,⟨false,tr,y,pd,hb0⟩, ?_⟩
      obtain⟨ad,gg,q1,q2,q3,q4,q5,q6⟩:=h.root hb0
      have hadn:ad=none:=by
       cases had:ad with
       |none=>rfl
       |some A=>have:=(q4 A had).1;cases this
      simp only[aC,q1,Option.bind_some,aD,Option.some.injEq]at hs
      subst hs
      exact⟨_,q1,hadn.symm,P5⟩
    unfold Rn at hd
    split at hd
    ·rename_i hv
     rw[hv]at hreg
     cases t<;>first|(cases hd;done)|skip
     rename_i o tt
     injection hd with hd;cases hd
     have hv':a.eval (.tmp n)= .slice none 0 0:=hreg
     obtain⟨hs,hcast⟩:=dn hc1
     obtain⟨g',dr,C⟩:=qu hs (⟨none,0,[]⟩:ck tt.o.G)
     have eo:fp d1.1 g'++dr=[]:=by
      have:=C.perm
      have h0:fp (.list true tt.o) (⟨none,0,[]⟩:ck tt.o.G)=[]:=rfl
      rw[h0]at this
      exact List.nil_perm.1 this
     have hdr2:=List.append_eq_nil_iff.1 eo
     refine⟨⟨nameOf dep n+7,false,d1.1,g',none,nameOf dep n+7,dr⟩,rfl,rfl, ?_,⟨fun KS' hK hd=>C.ok w KS KS' hK hd (.inl ⟨rfl,rfl⟩), ?_, ?_, ?_,(fun h=>by cases h),fun _=>rfl⟩,fun _ _=>rfl, ?_,.inl ⟨rfl, ?_,by rw[hv];rfl⟩⟩
     ·obtain⟨dt,dx⟩:=d1
      simp only at hcast hs ⊢
      rw[C.er,hcast];rfl
     ·simp[wC.jL,hdr2.1,hdr2.2]
     ·intro b hb
      simp[wC.jL,hdr2.1,hdr2.2]at hb
     ·intro b hb
      simp only[hdr2.2]at hb;cases hb
     ·rw[hv']
      show _=val d1.1 (cl d1.1 g')
      rw[C.cl,←cv (Ty.aP hs)];rfl
     ·simp[wC.jL,hdr2.1,hdr2.2]
    ·rename_i p hv
     rw[hv]at hreg
     split at hd
     ·rename_i tr y pd hb
      replace hd:=Cm.ae hd;obtain⟨d',hrd,hd⟩:=hd
      injection hd with hd;cases hd
      refine place hb hrd rfl (fun s hs=> ?_) (fun r' hr'=> ?_)
      ·obtain⟨_,te,gg,ad,h2,h3⟩:=hreg
       rw[hs]at h2;cases h2
       rw[h3];rfl
      ·rw[hv]at hr'
       obtain⟨pr,pπ⟩:=p
       cases pπ with
       |nil=>simp only[BE,Option.some.injEq]at hr';exact⟨rfl,hr'.symm⟩
       |cons _ _=>cases hr'
     ·cases hd
    ·rename_i p hv
     rw[hv]at hreg
     split at hd
     ·rename_i tr y pd hb
      replace hd:=Cm.ae hd;obtain⟨d',hrd,hd⟩:=hd
      injection hd with hd;cases hd
      refine place hb hrd rfl (fun s hs=> ?_) (fun r' hr'=> ?_)
      ·obtain⟨_,s2,h2,h3,h4⟩:=hreg
       rw[hs]at h2;cases h2
       exact h4
      ·rw[hv]at hr'
       obtain⟨pr,pπ⟩:=p
       cases pπ with
       |nil=>simp only[BE,Option.some.injEq]at hr';exact⟨rfl,hr'.symm⟩
       |cons _ _=>cases hr'
     ·cases hd
    ·rename_i r k hv
     rw[hv]at hreg
     split at hd
     ·rename_i te l' pd hb
      injection hd with hd;cases hd
      have hb0:=hρ _ _ hb
      obtain⟨_,te',gg,ad,h2,h3,ad2,had2,h4⟩:=hreg
      obtain⟨adr,gr,q1,q2,q3,q4,q5,q6⟩:=h.root hb0
      subst q2
      simp only[aC,q1,Option.bind_some,aD,Option.some.injEq,dN.mk.injEq]at h2
      obtain⟨he1,he2,he3⟩:=h2
      injection he1 with _ he1
      subst he1
      cases he2
      -- the list, cut
      have q3':bM w KS (.list true te) gr:=q3
      have hax:gr.cap≠0→ad2=gr.ad:=fun hc=>by
       rcases q3' with⟨p1,p2⟩|⟨b,rest',p1,p2,_⟩
       ·exact absurd p1 hc
       ·have p1':gr.ad=some ⟨b,0,none⟩:=p1
        rw[had2 hc,p1'];simp[Addr.plus]
      let G:ck te.G:=⟨ad2,gr.cap,gr.rows.take k⟩
      have hGok:bM w KS (.list true te) G:=by
       rcases q3' with⟨p1,p2⟩|⟨b,rest',p1,p2,p3,p4,p5,p6⟩
       ·refine .inl ⟨p1, ?_⟩
        have p2':gr.rows=[]:=p2
        show gr.rows.take k=[]
        rw[p2'];simp
       ·refine .inr ⟨b,(gr.rows.drop k).flatMap (cl te)++rest',(hax (Nat.pos_iff_ne_zero.1 p2)).trans p1,p2, ?_, ?_, ?_, ?_⟩
        ·have:G.rows.length≤gr.rows.length:=by simp[G];omega
         exact Nat.le_trans this p3
        ·have e1:G.rows.flatMap (cl te)++((gr.rows.drop k).flatMap (cl te)++rest')=gr.rows.flatMap (cl te)++rest':=by
          rw[←List.append_assoc,←List.flatMap_append,List.take_append_drop]
         rw[e1];exact p4
        ·have e1:G.rows.flatMap (cl te)++((gr.rows.drop k).flatMap (cl te)++rest')=gr.rows.flatMap (cl te)++rest':=by
          rw[←List.append_assoc,←List.flatMap_append,List.take_append_drop]
         rw[e1];exact p5
        ·intro x hx;exact p6 x (List.mem_of_mem_take hx)
      have hsubl:∃L,(fp (.list true te) gr).Perm (fp (.list true te) G++L):=by
       by_cases hc:gr.cap=0
       ·refine⟨[], ?_⟩
        have e1:fp (.list true te) gr=[]:=by simp only[fp,hc];cases gr.ad<;>simp
        have e2:fp (.list true te) G=[]:=by simp only[fp,G,hc];cases ad2<;>simp
        rw[e1,e2];simp
       ·simp only[fp,G,hax hc]
        cases gr.ad with
        |none=>exact⟨[],by simp⟩
        |some A=>
         refine⟨(gr.rows.drop k).flatMap (fp te), ?_⟩
         simp only[hc,if_false,List.cons_append]
         rw[←List.flatMap_append,List.take_append_drop]
      obtain⟨L,hL⟩:=hsubl
      have nd:=h.nd r
      rw[q6]at nd
      have nd2:=(List.nodup_append.1 (List.nodup_append.1 nd).1).2.1
      have ndG:=(List.nodup_append.1 (bg hL nd2)).1
      have heG:er (.list true te) G=(er (.list true te) gr).take k:=by simp[er,G]
      obtain⟨hs',hcast⟩:=dn hc1
      obtain⟨g',dr,C⟩:=qu hs' G
      have hmem:∀b∈fp d1.1 g'++dr,b∈fp (.list true te) gr:=fun b hb=>hL.mem_iff.2 (List.mem_append.2 (.inl (C.perm.mem_iff.2 hb)))
      refine⟨⟨nameOf dep n+7,false,d1.1,g',none,r,dr⟩,rfl,rfl, ?_,⟨fun KS' hK hd=>C.ok w KS KS' hK hd hGok, ?_, ?_, ?_,(fun h=>by cases h),fun _=>rfl⟩,fun A hA=>absurd hA (h.w9 hb0 A), ?_,.inr ⟨r,rfl,rfl,by rw[hb];simp,fun r' hr'=>by rw[hv]at hr';cases hr'⟩⟩
      ·obtain⟨dt,dx⟩:=d1
       simp only at hcast hs' ⊢
       rw[C.er,hcast,heG]
      ·simpa[wC.jL]using bg C.perm ndG
      ·intro b hb1
       have:b∈fp d1.1 g'++dr:=by simpa[wC.jL]using hb1
       rw[q6];simp[hmem b this]
      ·intro b hb1 A hA;exact absurd hA (h.w9 hb0 A)
      ·rw[h4]
       show _=val d1.1 (cl d1.1 g')
       rw[C.cl,←cv (Ty.aP hs')]
       have:G.rows.length=k:=by simp only[G,List.length_take];omega
       show _=Value.slice ad2 G.rows.length gr.cap
       rw[this];rfl
     ·cases hd
    ·cases hd
   obtain⟨x,x1,x2,x3,x4,x5,x6,x7⟩:=key
   have hρ1:∀n b,ah (rs++ρ) n=some b→ah ρ n=some b:=fun n b hb=>by
    rcases x7 with⟨h1,_⟩|⟨r,h1,_⟩
    ·rw[h1]at hb;exact hb
    ·rw[h1]at hb
     by_cases hn:n=r
     ·subst hn;rw[List.singleton_append,ay]at hb;cases hb
     ·rw[List.singleton_append,aw hn]at hb;exact hb
   have hok':BH m ns g l=true:=hok
   obtain⟨ents,e1,e2,R⟩:=oZ h l (rs++ρ) (fun n b hb=>hρ n b (hρ1 n b hb)) ds2 ρ2 hr2 ds1 rest hcv hty.2 hsh.2 hok'
   have hgone:x.jL++x.dr=[]∨(ah ρ x.r≠none∧ah (rs++ρ) x.r=none):=by
    rcases x7 with⟨_,h1,_⟩|⟨r,h1,h2,h3,_⟩
    ·exact .inl h1
    ·exact .inr ⟨by rw[h2];exact h3,by rw[h1,h2,List.singleton_append,ay]⟩
   refine⟨x::ents, ?_,e2,⟨by simp[fX,R.names,x1], ?_, ?_, ?_,fun n b hb=>hρ1 n b (R.sub n b hb), ?_, ?_⟩⟩
   ·simp only[List.cons_append,fk,bN,e1,x1,x2]
    rw[←x3]
   ·intro y hy
    rcases List.mem_cons.1 hy with rfl|hy
    ·exact⟨x4,x2,x5⟩
    ·exact R.Nh y hy
   ·intro y hy
    rcases List.mem_cons.1 hy with rfl|hy
    ·refine hgone.imp id fun⟨h1,h2⟩=>⟨h1, ?_⟩
     cases hq:ah ρ2 y.r with
     |none=>rfl
     |some b=>rw[R.sub _ _ hq]at h2;cases h2
    ·refine(R.src y hy).imp id fun⟨h1,h2⟩=>⟨fun h0=>h1 ?_,h2⟩
     cases hq:ah (rs++ρ) y.r with
     |none=>rfl
     |some b=>rw[hρ1 _ _ hq]at h0;cases h0
   ·refine List.pairwise_cons.2 ⟨fun y hy=> ?_,R.pw⟩
    rcases hgone with h1|⟨_,h2⟩
    ·exact .inl h1
    ·rcases R.src y hy with h3|⟨h3,_⟩
     ·exact .inr (.inl h3)
     ·exact .inr (.inr fun e0=>h3 (by rw[←e0];exact h2))
   ·intro q hq
    simp only[mF]at hq
    split at hq
    ·rename_i r hw
     rcases List.mem_cons.1 hq with rfl|hq
     ·rcases x7 with⟨_,_,h3⟩|⟨r2,_,h2,_,h4⟩
      ·rw[hw]at h3;cases h3
      ·obtain⟨h5,h6⟩:=h4 r hw
       exact⟨x,by simp,x1,by rw[h2,h5],h6⟩
     ·obtain⟨y,hy,h1⟩:=R.map q hq
      exact⟨y,by simp[hy],h1⟩
    ·obtain⟨y,hy,h1⟩:=R.map q hq
     exact⟨y,by simp[hy],h1⟩
   ·intro q hq
    simp only[fk,List.cons_append]at hq
    rcases List.mem_cons.1 hq with rfl|hq
    ·refine .inr (.inl ⟨x,by simp, ?_,x6⟩)
     rw[x1]
     have ht:d1.1=x.t:=by rw[←x3]
     simp only[ht]
     cases x.t<;>first|exact .inl ⟨rfl,rfl⟩|exact .inr ⟨rfl,rfl⟩
    ·exact(R.bX q hq).mono fun y hy=>by simp[hy]
end
end
section
section
variable {τ:dM} {c:Ctx} {KS KS':Nat→Prop} {e:av} {F F2:Fs} {ρ ρ0:af} {w:World}
structure Sz (c:Ctx) (KS:Nat→Prop) (e:av) (ρ0:af) (w:World) (ρ:af) (x:wC):Prop where
 Nh:R4 c KS e ρ0 w x
 rn:x.r=x.n
 lk:uZ e ρ0 x
 here:ah ρ x.r≠none
 cD:∀A,c.cD x.n=some A→x.ad=some A∧∀o,A.off≤o→o<A.off+x.t.sz→c.FT A.block o
 eo:∀hh,c.eo x.n=some hh→∃te,∃gl:ck te.G,(⟨x.ad,x.t,x.g⟩:eY)=⟨none,.list true te,gl⟩∧hh=(gl.ad,gl.rows.length,gl.cap)
theorem zw(hC:cy τ c)(h:Inv c KS e F ρ0 w):∀(l:List (Nat×Bool×Ty)) (ρ:af),(∀n b,ah ρ n=some b→ah ρ0 n=some b)→∀ds,(wA ρ l).run=some ds→∀ds1,mo ds ds1→ds1.map (·.1)=l.map (·.2.2)→
  (l.all fun x=>Nat.ble 32768 x.1|| !x.2.2.dA||eV x.2.2)=true→
  ∃ents,wo l ds1=bN ents∧ents.map (·.n)=l.map (·.1)∧∀x∈ents,Sz c KS e ρ0 w ρ x
 |[],ρ,hρ,ds,hr,ds1,hcv,hty,hck=>by
  injection hr with hr;subst hr
  cases ds1 with
  |cons _ _=>exact hcv.elim
  |nil=>exact⟨[],rfl,rfl,by simp⟩
 |(n,re,t)::l,ρ,hρ,ds,hr,ds1,hcv,hty,hck=>by
  simp only[wA]at hr
  split at hr
  ·rename_i re' tr y pd hb
   replace hr:=Cm.aG hr;obtain⟨hre,hr⟩:=hr
   replace hr:=Cm.ae hr;obtain⟨ds2,hr2,hr⟩:=hr
   injection hr with hr;subst hr
   have hre':re=re':=by cases re<;>cases re'<;>first|rfl|cases hre
   subst hre'
   cases ds1 with
   |nil=>exact hcv.elim
   |cons d1 ds1=>
    obtain⟨hc1,hcv⟩:=hcv
    simp only[List.map_cons,List.cons.injEq]at hty
    simp only[List.all_cons,Bool.and_eq_true]at hck
    obtain⟨ents,e1,e2,e3⟩:=zw hC h l ρ hρ ds2 hr2 ds1 hcv hty.2 hck.2
    have hb0:=hρ _ _ hb
    obtain⟨g',ad,dr,P1,P2,P3,P4,gg,P5,P6⟩:=J3 h hb0 (t':=d1.1) (z:=d1.2) hc1
    refine⟨⟨n,re,d1.1,g',ad,n,dr⟩::ents, ?_,by simp[e2],fun x hx=> ?_⟩
    ·simp only[wo,bN,e1,P2]
    ·rcases List.mem_cons.1 hx with rfl|hx
     ·refine⟨P1,rfl,P4,by rw[hb];simp,fun A hA=> ?_,fun hh hq=> ?_⟩
      ·obtain⟨_,k2⟩:=h.cD n A hA
       obtain⟨⟨g2,k3⟩,k4⟩:=k2 _ _ _ _ hb0
       rw[P5]at k3
       injection k3 with k3
       have hAd:ad=some A:=congrArg eY.ad k3
       exact⟨hAd,by show∀o,A.off≤o→o<A.off+d1.1.sz→_;rw[←Ty.bm P3];exact k4⟩
      ·obtain⟨te,gl,k1,k2⟩:=h.eo n hh hq _ _ _ _ hb0
       rw[P5]at k1
       injection k1 with k1
       injection k1 with k3 k4 k5
       subst k4
       cases k5
       subst k3
       have hlt:=(hC.eo n hh hq).1
       obtain⟨dt,dx⟩:=d1
       simp only at hty P3 P6 hck ⊢
       cases dt with
       |list o' te'=>
        have hown:eV (.list o' te')=true:=by
         have:=hck.1
         rw[←hty.1]at this
         simp only[Ty.dA,Bool.not_true,Bool.or_false,Bool.or_eq_true,Nat.ble_eq]at this
         rcases this with h1|h1
         ·omega
         ·exact h1
        cases o' with
        |false=>cases hown
        |true=>
         have P6':[Value.slice (g':ck te'.G).ad (g':ck te'.G).rows.length (g':ck te'.G).cap]=[Value.slice gl.ad gl.rows.length gl.cap]:=P6
         injection P6' with P6'
         injection P6' with j1 j2 j3
         exact⟨te',g',rfl,by rw[k2,j1,j2,j3]⟩
       |_=>cases P3
     ·exact e3 x hx
  ·cases hr
theorem sC:∀{l:List Nat},nodup l=true→l.Nodup
 |[],_=>by simp
 |a::l,h=>by
  simp only[nodup,Bool.and_eq_true,Bool.not_eq_true']at h
  refine List.nodup_cons.2 ⟨fun hm=> ?_,sC h.2⟩
  have:=h.1
  rw[List.any_eq_false]at this
  exact this a hm (Nat.beq_refl a)
theorem yv(m:List (Nat×Nat))(r:Nat):(∃q∈m,q.1=r∧tV m r=q.2)∨((∀q∈m,q.1≠r)∧tV m r=r):=by
 induction m with
 |nil=>exact .inr ⟨by simp,rfl⟩
 |cons x m ih=>
  obtain⟨a,b⟩:=x
  simp only[tV]
  split
  ·rename_i hb
   exact .inl ⟨(a,b),by simp,Nat.eq_of_beq_eq_true hb,rfl⟩
  ·rename_i hb
   rcases ih with⟨q,hq,h1,h2⟩|⟨h1,h2⟩
   ·exact .inl ⟨q,by simp[hq],h1,h2⟩
   ·refine .inr ⟨fun q hq=> ?_,h2⟩
    rcases List.mem_cons.1 hq with rfl|hq
    ·intro e;subst e;exact hb (Nat.beq_refl _)
    ·exact h1 q hq
theorem Kz{g:aA}{t:Nat}(h:bL g t≠ .cL):(t,bL g t)∈g:=by
 induction g with
 |nil=>exact absurd rfl h
 |cons x g ih=>
  obtain⟨n,v⟩:=x
  simp only[bL]at h ⊢
  split
  ·rename_i hb
   rw[Nat.eq_of_beq_eq_true hb];simp
  ·rename_i hb
   rw[if_neg hb]at h
   exact List.mem_cons_of_mem _ (ih h)
theorem Jm(hC:cy τ c){s:Shape}{g g0:aA}{a:Act}{sk:List aA}{as:List Act}(h:Inv c KS e ((g,a)::sk.zip as) ρ0 w){d:s.T.D}(hp:(pack s sk.length g0 g sk ρ0).run=some d):
  ∃KS' e',(∀b,KS b→KS' b)∧Inv c KS' e' (((unpack s g0 sk d).1,a)::(unpack s g0 sk d).2.1.zip as) (unpack s g0 sk d).2.2 w:=by
 unfold pack at hp
 replace hp:=Cm.aG hp;obtain⟨hck,hp⟩:=hp
 replace hp:=Cm.ae hp;obtain⟨⟨ds1,ρ1⟩,hr1,hp⟩:=hp
 replace hp:=Cm.ae hp;obtain⟨ds2,hr2,hp⟩:=hp
 simp only[Mr,Bool.and_eq_true]at hck
 obtain⟨⟨⟨⟨ck1,ck2⟩,ck3⟩,ck4⟩,ck5⟩:=hck
 obtain⟨hcv,hty⟩:=qQ s.ts _ d hp
 obtain⟨c1,c2,hc12,hcv1,hcv2⟩:=hcv.split
 rw[hc12]at hty
 have hl1:ds1.length=c1.length:=by
  have key:∀a b,mo a b→a.length=b.length:=by
   intro a
   induction a with
   |nil=>intro b hb;cases b with|nil=>rfl|cons _ _=>exact hb.elim
   |cons x a ih=>intro b hb;cases b with|nil=>exact hb.elim|cons y b=>simp[ih b hb.2]
  exact key _ _ hcv1
 have hl2:ds1.length=s.bX.length:=by
  have key:∀(l:List (Nat×Sh)) (ρ:af) (ds:List eh) (ρ':af),(gb (mF sk.length g0 s.bX) (mF sk.length g s.bX) g0 g ρ l).run=some (ds,ρ')→ds.length=l.length:=by
   intro l
   induction l with
   |nil=>intro ρ ds ρ' h;injection h with h;cases h;rfl
   |cons x l ih=>
    intro ρ ds ρ' h
    obtain⟨n,sh⟩:=x
    cases sh with
    |v t=>
     simp only[gb]at h
     replace h:=Cm.ae h;obtain⟨_,_,h⟩:=h
     replace h:=Cm.ae h;obtain⟨⟨_,_⟩,h2,h⟩:=h
     injection h with h;cases h
     simp[ih _ _ _ h2]
    |w t=>
     simp only[gb]at h
     replace h:=Cm.ae h;obtain⟨⟨_,_⟩,_,h⟩:=h
     replace h:=Cm.ae h;obtain⟨⟨_,_⟩,h2,h⟩:=h
     injection h with h;cases h
     simp[ih _ _ _ h2]
    |keep=>
     simp only[gb]at h
     replace h:=Cm.ae h;obtain⟨_,_,h⟩:=h
     replace h:=Cm.ae h;obtain⟨⟨_,_⟩,h2,h⟩:=h
     injection h with h;cases h
     simp[ih _ _ _ h2]
  exact key _ _ _ _ hr1
 simp only[Shape.ts,List.map_append]at hty
 obtain⟨ht1,ht2⟩:=List.append_inj hty (by simp;omega)
 obtain⟨ents1,f1,f2,R⟩:=oZ (g0:=g0) (dep:=sk.length) (m0:=mF sk.length g0 s.bX) (ns:=fX sk.length s.bX) h s.bX ρ0 (fun _ _ h=>h) ds1 ρ1 hr1 c1 c2 hcv1 ht1 ck5 ck2
 obtain⟨ents2,k1,k2,k3⟩:=zw hC h s.roots ρ1 R.sub ds2 hr2 c2 hcv2 (by rw[ht2]) ck4
 -- the new roots
 have hunp:unpack s g0 sk d=(xY (bN (ents1++ents2)) (fk (mF sk.length g0 s.bX) g0 sk.length s.bX (c1++c2)).1,sk.map (xY (bN (ents1++ents2))),bN (ents1++ents2)):=by
  simp only[unpack,hc12,f1,f2,k1,AS]
 rw[hunp]
 have hnd:((ents1++ents2).map (·.n)).Nodup:=by
  rw[List.map_append,R.names,k2]
  exact sC ck1
 let KS':Nat→Prop:=fun b=>KS b∨∃x∈ents1++ents2,b∈x.dr
 have hpok:∀x∈ents1++ents2,R4 c KS e ρ0 w x:=fun x hx=>by
  rcases List.mem_append.1 hx with hx|hx
  ·exact(R.Nh x hx).1
  ·exact(k3 x hx).Nh
 -- different roots come from different ones
 have hdisj:∀x∈ents1++ents2,∀y∈ents1++ents2,x.n≠y.n→∀b∈x.jL++x.dr,b∉y.jL++y.dr:=by
  have cross:∀x∈ents1,∀y∈ents2,∀b∈x.jL++x.dr,b∉y.jL++y.dr:=fun x hx y hy b hb hb2=>by
   rcases R.src x hx with h1|⟨_,h1⟩
   ·rw[h1]at hb;cases hb
   ·have hne:x.r≠y.r:=fun e0=>(k3 y hy).here (by rw[←e0];exact h1)
    exact h.dj _ _ hne b ((R.Nh x hx).1.sub b hb) ((k3 y hy).Nh.sub b hb2)
  intro x hx y hy hne b hb hb2
  rcases List.mem_append.1 hx with hx|hx<;>rcases List.mem_append.1 hy with hy|hy
  ·--both are of registers
   have key:∀L:List wC,(L.Pairwise fun x y=>x.jL++x.dr=[]∨y.jL++y.dr=[]∨x.r≠y.r)→∀x∈L,∀y∈L,x.n≠y.n→x.jL++x.dr=[]∨y.jL++y.dr=[]∨x.r≠y.r:=by
    intro L
    induction L with
    |nil=>intro _ x hx;cases hx
    |cons z L ih=>
     intro hp x hx y hy hne
     obtain⟨p1,p2⟩:=List.pairwise_cons.1 hp
     rcases List.mem_cons.1 hx with hx'|hx'<;>rcases List.mem_cons.1 hy with hy'|hy'
     ·exact absurd (by rw[hx',hy']) hne
     ·subst hx';exact p1 y hy'
     ·subst hy'
      rcases p1 x hx' with h1|h1|h1
      ·exact .inr (.inl h1)
      ·exact .inl h1
      ·exact .inr (.inr (Ne.symm h1))
     ·exact ih p2 x hx' y hy' hne
   rcases key ents1 R.pw x hx y hy hne with h1|h1|h1
   ·rw[h1]at hb;cases hb
   ·rw[h1]at hb2;cases hb2
   ·exact h.dj _ _ h1 b ((R.Nh x hx).1.sub b hb) ((R.Nh y hy).1.sub b hb2)
  ·exact cross x hx y hy b hb hb2
  ·exact cross y hy x hx b hb2 hb
  ·have hne':x.r≠y.r:=by rw[(k3 x hx).rn,(k3 y hy).rn];exact hne
   exact h.dj _ _ hne' b ((k3 x hx).Nh.sub b hb) ((k3 y hy).Nh.sub b hb2)
 have hE:Oe c KS KS' e ρ0 w (ents1++ents2):=by
  refine⟨hnd,fun x hx=> ?_,fun x hx y hy hne b hb hb2=>hdisj x hx y hy hne b (by simp[hb]) (by simp[hb2]),fun b hb=> .inl hb,fun b hb=> ?_,fun x hx hne A hA=> ?_,fun x hx A hA=> ?_,fun x hx hh hq=> ?_⟩
  ·have hP:=hpok x hx
   refine⟨hP.ok KS' (fun b hb=> .inl hb) (fun b hb=> .inr ⟨x,hx,hb⟩),hP.row,hP.S5,(List.nodup_append.1 hP.nd).1,fun b hb=>⟨hP.sub b (by simp[hb]),fun hk=> ?_⟩⟩
   rcases hk with hk|⟨y,hy,hk⟩
   ·exact h.ks _ b (hP.sub b (by simp[hb])) hk
   ·by_cases hxy:x.n=y.n
    ·have:x=y:=by
      have h1:=qL hnd x hx
      have h2:=qL hnd y hy
      rw[hxy,h2]at h1;injection h1 with h1;exact h1.symm
     subst this
     exact(List.nodup_append.1 hP.nd).2.2 b hb b hk rfl
    ·exact hdisj x hx y hy hxy b (by simp[hb]) (by simp[hk])
  ·rcases hb with hb|⟨x,hx,hb⟩
   ·exact .inl hb
   ·exact .inr ⟨x.r,(hpok x hx).sub b (by simp[hb]),(hpok x hx).Tg b hb⟩
  ·rcases List.mem_append.1 hx with hx|hx
   ·exact hne ((R.Nh x hx).2.2 A hA)
   ·exact hne (k3 x hx).rn
  ·rcases List.mem_append.1 hx with hx|hx
   ·--a root of a register has a fresh name
    have h1:=hC.cD _ _ hA
    have h2:x.n∈fX sk.length s.bX:=by rw[←R.names];exact List.mem_map.2 ⟨x,hx,rfl⟩
    have key:∀(l:List (Nat×Sh)) n,n∈fX sk.length l→32768≤n:=by
     intro l
     induction l with
     |nil=>intro n h;cases h
     |cons y l ih=>
      intro n h
      obtain⟨m,sh⟩:=y
      cases sh with
      |w t=>
       rcases List.mem_cons.1 h with rfl|h
       ·simp only[nameOf];omega
       ·exact ih n h
      |v t=>exact ih n h
      |keep=>exact ih n h
    have:=key _ _ h2
    omega
   ·exact(k3 x hx).cD A hA
  ·rcases List.mem_append.1 hx with hx|hx
   ·have h1:=(hC.eo _ _ hq).1
    have h2:x.n∈fX sk.length s.bX:=by rw[←R.names];exact List.mem_map.2 ⟨x,hx,rfl⟩
    have key:∀(l:List (Nat×Sh)) n,n∈fX sk.length l→32768≤n:=by
     intro l
     induction l with
     |nil=>intro n h;cases h
     |cons y l ih=>
      intro n h
      obtain⟨m,sh⟩:=y
      cases sh with
      |w t=>
       rcases List.mem_cons.1 h with rfl|h
       ·simp only[nameOf];omega
       ·exact ih n h
      |v t=>exact ih n h
      |keep=>exact ih n h
    have:=key _ _ h2
    omega
   ·exact(k3 x hx).eo hh hq
 -- which old root a name means
 have hmean:∀(m:List (Nat×Nat)),(∀q∈m,q∈mF sk.length g s.bX)→∀v:RV,Ma m (fX sk.length s.bX) v=true→∀r∈names v,∀y,fU (ents1++ents2) (tV m r)=some y→y.r=r∧uZ e ρ0 y:=fun m hm v hv r hr y hy=>by
  obtain⟨hym,hyn⟩:=gT hy
  have hv':=List.all_eq_true.1 hv r hr
  simp only[Bool.or_eq_true,Bool.not_eq_true']at hv'
  rcases yv m r with⟨q,hq,q1,q2⟩|⟨q1,q2⟩
  ·obtain⟨x,hx,x1,x2,x3⟩:=R.map q (hm q hq)
   have h1:=qL hnd x (by simp[hx])
   rw[q2,←x1,h1]at hy
   injection hy with hy;subst hy
   exact⟨by rw[x2,q1],x3⟩
  ·rw[q2]at hyn
   have hnot:r∉fX sk.length s.bX:=by
    rcases hv' with h1|h1
    ·exfalso
     obtain⟨x,hx,hxr⟩:=List.any_eq_true.1 h1
     exact q1 x hx (Nat.eq_of_beq_eq_true hxr)
    ·intro hm'
     rw[List.any_eq_false]at h1
     exact h1 r hm' (Nat.beq_refl r)
   rcases List.mem_append.1 hym with hy1|hy2
   ·exact absurd (by rw[←R.names,←hyn];exact List.mem_map.2 ⟨y,hy1,rfl⟩) hnot
   ·exact⟨by rw[(k3 y hy2).rn,hyn],(k3 y hy2).lk⟩
 refine⟨KS',_,fun b hb=> .inl hb,h.QU hE fun p hp t=> ?_⟩
 rcases List.mem_cons.1 hp with rfl|hp
 ·--the frame's own registers
  simp only
  rw[ym]
  split
  ·rename_i ht
   by_cases hund:bL (fk (mF sk.length g0 s.bX) g0 sk.length s.bX (c1++c2)).1 t= .cL
   ·rw[hund];trivial
   ·have hRF:=R.bX _ (Kz hund)
    simp only at hRF
    rcases hRF with⟨tt,x,h1,h2⟩|⟨x,hx,h1,h2⟩|⟨h1,h2⟩
    ·rw[h1]
     exact⟨h2.1,h2.2.imp fun cs hc=>⟨cg.mono (fun b hb=> .inl hb) (fun _ _ _=>rfl) _ _ _ hc.1,hc.2⟩⟩
    ·have hfe:=qL hnd x (by simp[hx])
     have hdat:hasData (bN (ents1++ents2)) x.n:=⟨x.re,x.t,er x.t x.g,none,by rw[gm,hfe];rfl⟩
     have hspot:aC (kI (ents1++ents2)) ⟨x.n,[]⟩=some ⟨x.t,x.g,x.ad⟩:=by simp only[aC,kI,hfe,Option.map_some,Option.bind_some,aD]
     rcases h1 with⟨h1,h3⟩|⟨h1,h3⟩
     ·rw[h1]at ht ⊢
      obtain⟨y,u,y1,y2,y3⟩:=nD (q:=⟨x.n,[]⟩) (by simpa only[there]using ht)
      rw[hfe]at y1;cases y1
      rw[F1]at y2;cases y2
      obtain⟨xn,xre,xt,xg,xad,xr,xdr⟩:=x
      simp only at y3 h2 hspot hdat ⊢
      cases xt<;>first|(cases y3;done)|skip
      rename_i o te
      cases o with
      |false=>cases y3
      |true=>exact⟨hdat,te,xg,xad,hspot,h2⟩
     ·rw[h1]
      exact⟨hdat,_,hspot,h3,h2⟩
    ·rw[h1]at ht ⊢
     exact Iz (fun b hb=> .inl hb) _ _ (h.bX (g,a) (by simp) t) (hmean _ (fun q hq=>hq) _ h2) ht
  ·trivial
 ·--the callers' registers
  obtain⟨g1,a1⟩:=p
  obtain⟨i,hi1,hi2⟩:=List.getElem_of_mem hp
  have hi3:i<sk.length∧i<as.length:=by
   have h0:=hi1
   rw[List.length_zip,List.length_map]at h0
   omega
  rw[List.getElem_zip]at hi2
  simp only[Prod.mk.injEq,List.getElem_map]at hi2
  obtain⟨rfl,rfl⟩:=hi2
  simp only
  rw[ym]
  split
  ·rename_i ht
   have hmem:(sk[i],as[i])∈sk.zip as:=by
    have:=List.getElem_mem (l:=sk.zip as) (n:=i) (by simp;omega)
    rwa[List.getElem_zip]at this
   have hreg:=h.bX (sk[i],as[i]) (List.mem_cons_of_mem _ hmem) t
   by_cases hund:bL sk[i] t= .cL
   ·rw[hund];trivial
   ·have hall:=List.all_eq_true.1 ck3 sk[i] (List.getElem_mem _)
    have hok:=List.all_eq_true.1 hall _ (Kz hund)
    have:=Iz (KS':=KS') (m:=[]) (fun b hb=>Or.inl hb) _ _ hreg (hmean [] (by simp) _ hok) (by rw[Jf];exact ht)
    rw[Jf]at this
    exact this
  ·trivial
end
end
section
section
variable {α:Type}
theorem force_eq(m:Nat)(f:Nat→α):force m f=f m:=by cases m<;>rfl
theorem Bu(b:Bool)(f:Bool→α):IL b f=f b:=by cases b<;>rfl
theorem jE:∀(t:Ty) (f:Ty→α),gR t f=f t
 | .unit,f| .int k,f| .bool,f| .str,f=>rfl
 | .list o t,f=>by simp only[gR,Bu,jE t]
 | .ptr t,f=>by simp only[gR,jE t]
 | .pair a b,f=>by simp only[gR,jE a,jE b]
 | .arr n t,f=>by simp only[gR,force_eq,jE t]
 | .gone n,f=>by simp only[gR,force_eq]
theorem K9(s:Sh)(f:Sh→α):Ir s f=f s:=by
 cases s<;>simp only[Ir,jE]
theorem C0:∀(l:List (Nat×Sh)) (f:List (Nat×Sh)→α),zO l f=f l
 |[],f=>rfl
 |(n,s)::l,f=>by simp only[zO,force_eq,K9,C0 l]
theorem CX:∀(l:List (Nat×Bool×Ty)) (f:List (Nat×Bool×Ty)→α),zC l f=f l
 |[],f=>rfl
 |(n,b,t)::l,f=>by simp only[zC,force_eq,Bu,jE,CX l]
theorem xA(s:Shape)(f:Shape→α):sH s f=f s:=by simp only[sH,C0,CX]
theorem z7:∀(p:Path) (f:Path→α),lG p f=f p
 |[],f=>rfl
 |a::l,f=>by cases a<;>simp only[lG,z7 l]
theorem Fy(p:Place)(f:Place→α):oX p f=f p:=by simp only[oX,force_eq,z7]
theorem yp(v:RV)(f:RV→α):AA v f=f v:=by
 cases v<;>simp only[AA,Fy]
theorem kD:∀(g:aA) (f:aA→α),lK g f=f g
 |[],f=>rfl
 |(n,v)::l,f=>by simp only[lK,yp,kD l]
theorem EH:∀(l:List aA) (f:List aA→α),D1 l f=f l
 |[],f=>rfl
 |g::l,f=>by simp only[D1,kD,EH l]
theorem L3(b:Option eP)(f:Option eP→α):DU b f=f b:=by
 cases b with
 |none=>rfl
 |some b=>cases b with
  |data re t x pd=>cases pd<;>simp only[DU,Bu]
  |al p=>simp only[DU,Fy]
theorem lO:∀(l:af) (f:af→α),lu l f=f l
 |[],f=>rfl
 |(n,b)::l,f=>by simp only[lu,force_eq,L3,lO l]
theorem sj(m0:List (Nat×Nat))(g0:aA)(dep:Nat):∀(l:List (Nat×Sh)) (ds:List eh) (f:aA→af→List eh→α),
  oN m0 g0 dep l ds f=f (fk m0 g0 dep l ds).1 (fk m0 g0 dep l ds).2.1 (fk m0 g0 dep l ds).2.2
 |[],ds,f=>by cases ds<;>rfl
 |(n,s)::l,[],f=>by cases s<;>rfl
 |(n,s)::l,⟨t,x⟩::ds,f=>by
  cases s with
  |v=>simp only[oN,fk,sj m0 g0 dep l ds]
  |keep=>simp only[oN,fk,yp,sj m0 g0 dep l ds]
  |w=>
   simp only[oN,fk,force_eq,yp,sj m0 g0 dep l ds]
   cases t<;>rfl
theorem Cw:∀(l:List (Nat×Bool×Ty)) (ds:List eh) (f:af→α),Az l ds f=f (wo l ds)
 |[],ds,f=>by cases ds<;>rfl
 |(n,re,t)::l,[],f=>rfl
 |(n,re,t)::l,⟨_,x⟩::ds,f=>by simp only[Az,wo,Cw l ds]
theorem Fg(s:Shape)(g0:aA)(sk:List aA)(x:s.T.D)(f:aA×List aA×af→α):D6 s g0 sk x f=f (unpack s g0 sk x):=by
 simp only[D6,sj,Cw,lO,kD,EH,unpack]
end
end
section
mutual
inductive Cc:RV→RV→Prop
 |refl (v):Cc v v
 |cL (v):Cc v .cL
 |tp {l m}:om l m→Cc (.tp l) (.tp m)
inductive om:List RV→List RV→Prop
 |nil:om [] []
 |cons {v u l m}:Cc v u→om l m→om (v::l) (u::m)
end
mutual
theorem Cc.trans:∀{a b c:RV},Cc a b→Cc b c→Cc a c
 |_,_,_,.refl _,h=>h
 |_,_,_,.cL _,h=>by cases h<;>exact .cL _
 |_,_,_,.tp h,.refl _=> .tp h
 |_,_,_,.tp _,.cL _=> .cL _
 |_,_,_,.tp h,.tp h'=> .tp (om.trans h h')
theorem om.trans:∀{a b c:List RV},om a b→om b c→om a c
 |_,_,_,.nil,.nil=> .nil
 |_,_,_,.cons h t,.cons h' t'=> .cons (Cc.trans h h') (om.trans t t')
end
theorem om.refl:∀l:List RV,om l l
 |[]=> .nil
 |v::l=> .cons (.refl v) (om.refl l)
mutual
theorem Kc:∀{v u:RV},Cc v u→KK v u=true→u=v
 |_,_,.refl _,_=>rfl
 |v,_,.cL _,h=>by cases v<;>first|rfl|(simp[KK]at h)
 |_,_,.tp h,h'=>by simp only[KK]at h';rw[Hn h h']
theorem Hn:∀{v u:List RV},om v u→Iv v u=true→u=v
 |_,_,.nil,_=>rfl
 |_,_,.cons h t,h'=>by
  simp only[Iv,Bool.and_eq_true]at h'
  rw[Kc h h'.1,Hn t h'.2]
end
theorem Ph(b:Bool)(v:RV):Cc v (bif b then .cL else v):=by cases b;exact .refl _;exact .cL _
mutual
theorem G5(k:aH):∀v:RV,Cc v (hJ k v)
 | .tp l=> .tp (G3 k l)
 | .cL| .aT| .v _ _| .nl| .pn| .wl _| .vw _ _ _| .sv _| .rf _| .ap _| .fn _ _| .fb _ _=>by
  rw[qP (by intro l h;cases h)]
  exact Ph _ _
theorem G3(k:aH):∀l:List RV,om l (si k l)
 |[]=> .nil
 |v::l=> .cons (G5 k v) (G3 k l)
end
inductive eS:aA→aA→Prop
 |nil:eS [] []
 |cons {n v u l m}:Cc v u→eS l m→eS ((n,v)::l) ((n,u)::m)
theorem eS.refl:∀g:aA,eS g g
 |[]=> .nil
 |(n,v)::g=> .cons (.refl v) (eS.refl g)
theorem eS.trans:∀{a b c:aA},eS a b→eS b c→eS a c
 |_,_,_,.nil,.nil=> .nil
 |_,_,_,.cons h t,.cons h' t'=> .cons (h.trans h') (t.trans t')
theorem KO(k:aH):∀g:aA,eS g (gd k g)
 |[]=> .nil
 |(n,v)::g=> .cons (G5 k v) (KO k g)
theorem Ci:∀(ks:List aH) (g:aA),eS g (bt ks g)
 |[],g=>eS.refl g
 |k::ks,g=>(KO k g).trans (Ci ks (gd k g))
theorem Fu(ρ:af):∀g:aA,eS g (xY ρ g)
 |[]=> .nil
 |(n,v)::g=> .cons (by split;exact .refl v;exact .cL v) (Fu ρ g)
theorem CL:∀{a b:aA},eS a b→AE a b=true→b=a
 |_,_,.nil,_=>rfl
 |_,_,.cons h t,hs=>by
  simp only[AE,Bool.and_eq_true]at hs
  rw[Kc h hs.1,CL t hs.2]
inductive fJ:List aA→List aA→Prop
 |nil:fJ [] []
 |cons {a b l m}:eS a b→fJ l m→fJ (a::l) (b::m)
theorem fJ.refl:∀l:List aA,fJ l l
 |[]=> .nil
 |a::l=> .cons (eS.refl a) (fJ.refl l)
theorem fJ.trans:∀{a b c:List aA},fJ a b→fJ b c→fJ a c
 |_,_,_,.nil,.nil=> .nil
 |_,_,_,.cons h t,.cons h' t'=> .cons (h.trans h') (t.trans t')
theorem fJ.len:∀{a b:List aA},fJ a b→a.length=b.length
 |_,_,.nil=>rfl
 |_,_,.cons _ t=>by simp[t.len]
theorem fJ.map{f:aA→aA}(hf:∀g,eS g (f g)):∀l:List aA,fJ l (l.map f)
 |[]=> .nil
 |a::l=> .cons (hf a) (fJ.map hf l)
theorem Ip(ks:List aH)(sk:List aA):fJ sk (di ks sk):=by
 cases ks with
 |nil=>exact fJ.refl sk
 |cons k ks=>exact fJ.map (Ci (k::ks)) sk
theorem BK:∀{a b:List aA},fJ a b→Cb a b=true→b=a
 |_,_,.nil,_=>rfl
 |_,_,.cons h t,hs=>by
  simp only[Cb,Bool.and_eq_true]at hs
  rw[CL h hs.1,BK t hs.2]
def SM:Ex→Exit
 | .normal=> .normal| .exit id=> .exit id| .ret=> .ret
def la(nt:Nat)(ops:List Oper):Bool:=ops.all fun o=>match o.dst with|some d=>Nat.blt d nt|none=>true
def ic(nt:Nat):Code→Bool
 | .region _ ops _=>la nt ops.toList
 | .seq a b| .cond _ a b=>ic nt a&&ic nt b
 | .block _ a| .loop a=>ic nt a
 |_=>true
def Kf(P:Program)(E:Env)(τ:dM)(call:cr)(inl:QS):Prop:=
 ∀{R:Type} {id:Nat} {ops:Array Oper} {draw:Bool} {g:aA} {sk:List aA} {ρ:af} {κ:aA→List aA→af→Option R} {r:R} {c:Ctx} {KS:Nat→Prop} {e:av} {a:Act} {as:List Act} {w:World} {Q:Exit→Act→World→Prop},
  cy τ c→K1 E call inl draw ops.toList g sk ρ κ=some r→Inv c KS e ((g,a)::sk.zip as) ρ w→sk.length=as.length→la a.tmps.size ops.toList=true→
  (∀g' sk' ρ' a' w' KS' e',(∀b,KS b→KS' b)→fJ sk sk'→κ g' sk' ρ'=some r→Inv c KS' e' ((g',a')::sk'.zip as) ρ' w'→a'.tmps.size=a.tmps.size→a'.defers=a.defers→Q .normal a' w')→
  (Code.region id ops draw).wp P Q a w
section
variable {P:Program} {τ:dM} {E:Env} {call:cr} {inl:QS} {c:Ctx} {as:List Act}
theorem LA{w:World}{KS:Nat→Prop}{ρ:af}{e:av}(v:Value):bf w KS ρ e (ofConst v) v:=by
 unfold ofConst
 split
 ·exact bq _
 ·exact cu _ _
 ·exact mI _
 ·rfl
 ·rfl
 ·trivial
theorem O6{KS:Nat→Prop}{e:av}{F:Fs}{ρ:af}{w:World}{g:aA}{a:Act}(h:Inv c KS e ((g,a)::F) ρ w)(x:Operand):bf w KS ρ e (ev g x) (a.eval x):=by
 cases x with
 |tmp t=>exact h.bX (g,a) (by simp) t
 |const v=>exact LA v
 |func f=>exact⟨[],rfl,rfl⟩
 |global gl=>trivial
def Tw{R:Type}(c:Ctx)(as:List Act)(sk:List aA)(KS:Nat→Prop)(a:Act)(κ:RA R)(r:R)(Q:Exit→Act→World→Prop):Prop:=
 ∀ex g' sk' ρ' a' w' KS' e',(∀b,KS b→KS' b)→fJ sk sk'→κ ex g' sk' ρ'=some r→Inv c KS' e' ((g',a')::sk'.zip as) ρ' w'→a'.tmps.size=a.tmps.size→a'.defers=a.defers→Q (SM ex) a' w'
theorem oA(hR:Kf P E τ call inl)(hC:cy τ c)(k:Nat)(h:Hints):∀(code:Code) {R:Type} {g:aA} {sk:List aA} {ρ:af} {κ:RA R} {r:R} {KS:Nat→Prop} {e:av} {a:Act} {w:World} {Q:Exit→Act→World→Prop},
  den E call inl k h code g sk ρ κ=some r→Inv c KS e ((g,a)::sk.zip as) ρ w→sk.length=as.length→ic a.tmps.size code=true→Tw c as sk KS a κ r Q→code.wp P Q a w
 | .skip,R,g,sk,ρ,κ,r,KS,e,a,w,Q,hd,hI,hl,hw,hK=>wp_skip (hK .normal _ _ _ _ _ _ _ (fun _ h=>h) (fJ.refl sk) hd hI rfl rfl)
 | .exit id,R,g,sk,ρ,κ,r,KS,e,a,w,Q,hd,hI,hl,hw,hK=>wp_exit (hK (.exit id) _ _ _ _ _ _ _ (fun _ h=>h) (fJ.refl sk) hd hI rfl rfl)
 | .ret,R,g,sk,ρ,κ,r,KS,e,a,w,Q,hd,hI,hl,hw,hK=>wp_ret (hK .ret _ _ _ _ _ _ _ (fun _ h=>h) (fJ.refl sk) hd hI rfl rfl)
 | .region id ops draw,R,g,sk,ρ,κ,r,KS,e,a,w,Q,hd,hI,hl,hw,hK=>
  hR hC hd hI hl hw fun g' sk' ρ' a' w' KS' e' h1 h2 h3 h4 h5 h6=>hK .normal _ _ _ _ _ _ _ h1 h2 h3 h4 h5 h6
 | .cond x ca cb,R,g,sk,ρ,κ,r,KS,e,a,w,Q,hd,hI,hl,hw,hK=>by
  simp only[ic,Bool.and_eq_true]at hw
  simp only[den]at hd
  have hev:=O6 hI x
  split at hd
  ·rename_i b hb
   rw[hb]at hev
   have hv:=gv hev
   refine wp_cond hv ?_
   cases b with
   |true=>exact oA hR hC k h ca hd hI hl hw.1 hK
   |false=>exact oA hR hC k h cb hd hI hl hw.2 hK
  ·cases hd
 | .block id ca,R,g,sk,ρ,κ,r,KS,e,a,w,Q,hd,hI,hl,hw,hK=>by
  simp only[ic]at hw
  simp only[den]at hd
  refine wp_block (oA hR hC k h ca hd hI hl hw ?_)
  intro ex g' sk' ρ' a' w' KS' e' h1 h2 h3 h4 h5 h6
  cases ex with
  |normal=>exact hK .normal _ _ _ _ _ _ _ h1 h2 h3 h4 h5 h6
  |ret=>exact hK .ret _ _ _ _ _ _ _ h1 h2 h3 h4 h5 h6
  |exit j=>
   simp only[SM,Exit.inBlock]
   simp only at h3
   split at h3
   ·rename_i hj
    rw[if_pos (Nat.eq_of_beq_eq_true hj)]
    exact hK .normal _ _ _ _ _ _ _ h1 h2 h3 h4 h5 h6
   ·rename_i hj
    rw[if_neg fun e=>hj (by rw[e];exact Nat.beq_refl _)]
    exact hK (.exit j) _ _ _ _ _ _ _ h1 h2 h3 h4 h5 h6
 | .seq ca cb,R,g,sk,ρ,κ,r,KS,e,a,w,Q,hd,hI,hl,hw,hK=>by
  simp only[ic,Bool.and_eq_true]at hw
  simp only[den]at hd
  refine wp_seq ?_
  split at hd
  ·refine oA hR hC k h ca hd hI hl hw.1 ?_
   intro ex g' sk' ρ' a' w' KS' e' h1 h2 h3 h4 h5 h6
   cases ex with
   |normal=>
    refine oA hR hC k h cb (Q:=Q) h3 h4 (by rw[←h2.len,hl]) (by rw[h5];exact hw.2) ?_
    intro ex g2 sk2 ρ2 a2 w2 KS2 e2 j1 j2 j3 j4 j5 j6
    exact hK ex _ _ _ _ _ _ _ (fun b hb=>j1 b (h1 b hb)) (h2.trans j2) j3 j4 (j5.trans h5) (j6.trans h6)
   |ret=>exact hK .ret _ _ _ _ _ _ _ h1 h2 h3 h4 h5 h6
   |exit j=>exact hK (.exit j) _ _ _ _ _ _ _ h1 h2 h3 h4 h5 h6
  ·rename_i live _
   simp only[kD,lO,xA,Fg]at hd
   unfold o4 at hd
   split at hd
   ·rename_i d hden
    refine oA hR hC k h ca hden hI hl hw.1 ?_
    intro ex g' sk' ρ' a' w' KS' e' h1 h2 h3 h4 h5 h6
    cases ex with
    |normal=>
     simp only at h3
     split at h3
     ·rename_i hsame
      rw[Cm.l4]at h3
      have hsk:=BK h2 hsame
      replace hsk:=hsk.symm;subst hsk
      cases hpk:(pack (sK g sk.length ρ live) sk.length g g' sk ρ').run with
      |none=>rw[hpk]at h3;cases h3
      |some d'=>
       rw[hpk]at h3
       injection h3 with h3
       injection h3 with h3
       subst h3
       obtain⟨KS2,e2,p1,p2⟩:=Jm hC h4 hpk
       have hskle:fJ sk (unpack (sK g sk.length ρ live) g sk d').2.1:=fJ.map (Fu _) sk
       show cb.wp P Q a' w'
       refine oA hR hC k h cb hd p2 (by rw[←hskle.len,hl]) (by rw[h5];exact hw.2) ?_
       intro ex g3 sk3 ρ3 a3 w3 KS3 e3 j1 j2 j3 j4 j5 j6
       exact hK ex _ _ _ _ _ _ _ (fun b hb=>j1 b (p1 b (h1 b hb))) (hskle.trans j2) j3 j4 (j5.trans h5) (j6.trans h6)
     ·cases h3
    |ret=>
     simp only[Option.map_eq_some_iff]at h3
     obtain⟨_,_,h3⟩:=h3;cases h3
    |exit j=>
     simp only[Option.map_eq_some_iff]at h3
     obtain⟨_,_,h3⟩:=h3;cases h3
   ·rename_i r' hden
    injection hd with hd
    subst hd
    refine oA hR hC k h ca hden hI hl hw.1 ?_
    intro ex g' sk' ρ' a' w' KS' e' h1 h2 h3 h4 h5 h6
    cases ex with
    |normal=>
     simp only at h3
     split at h3
     ·rw[Cm.l4]at h3
      cases hpk:(pack (sK g sk.length ρ live) sk.length g g' sk' ρ').run with
      |none=>rw[hpk]at h3;cases h3
      |some d'=>rw[hpk]at h3;injection h3 with h3;cases h3
     ·cases h3
    |ret=>
     simp only[Option.map_eq_some_iff]at h3
     obtain⟨r2,hr2,h3⟩:=h3
     injection h3 with h3;subst h3
     exact hK .ret _ _ _ _ _ _ _ h1 h2 hr2 h4 h5 h6
    |exit j=>
     simp only[Option.map_eq_some_iff]at h3
     obtain⟨r2,hr2,h3⟩:=h3
     injection h3 with h3;subst h3
     exact hK (.exit j) _ _ _ _ _ _ _ h1 h2 hr2 h4 h5 h6
   ·cases hd
 | .loop ca,R,g,sk,ρ,κ,r,KS,e,a,w,Q,hd,hI,hl,hw,hK=>by
  simp only[ic]at hw
  simp only[den]at hd
  simp only[kD,lO,xA,Fg]at hd
  rw[Cm.l4]at hd
  cases hpk:(pack (sK g sk.length ρ (h.loop ((fv ca).getD 0))) sk.length g g sk ρ).run with
  |none=>rw[hpk]at hd;cases hd
  |some d=>
   rw[hpk]at hd
   simp only[Option.bind_some]at hd
   generalize hs:sK g sk.length ρ (h.loop ((fv ca).getD 0))=s at*
   -- round by round
   have key:∀(n:Nat) (d:s.T.D) (KS1:Nat→Prop) (e1:av) (a1:Act) (w1:World),iter n (fun self d=>
     den E call inl k h ca (unpack s g sk d).1 (unpack s g sk d).2.1 (unpack s g sk d).2.2 fun e g' sk' ρ'=>match e with
      | .normal=>if Cb sk sk' then(pack s sk.length g g' sk' ρ').runK self else none
      |e=>κ e g' sk' ρ') d=some r→(∀b,KS b→KS1 b)→Inv c KS1 e1 (((unpack s g sk d).1,a1)::(unpack s g sk d).2.1.zip as) (unpack s g sk d).2.2 w1→a1.tmps.size=a.tmps.size→a1.defers=a.defers→
     Code.rounds P ca Q n a1 w1:=by
    intro n
    induction n with
    |zero=>intro d KS1 e1 a1 w1 hit;cases hit
    |succ n ih=>
     intro d KS1 e1 a1 w1 hit k1 k2 k3 k4
     have hskle:fJ sk (unpack s g sk d).2.1:=fJ.map (Fu _) sk
     rw[rounds_succ]
     simp only[iter]at hit
     refine oA hR hC k h ca hit k2 (by rw[←hskle.len,hl]) (by rw[k3];exact hw) ?_
     intro ex g' sk' ρ' a' w' KS' e' h1 h2 h3 h4 h5 h6
     cases ex with
     |normal=>
      simp only at h3
      split at h3
      ·rename_i hsame
       have hsk:=BK (hskle.trans h2) hsame
       replace hsk:=hsk.symm;subst hsk
       rw[Cm.l4]at h3
       cases hpk2:(pack s sk.length g g' sk ρ').run with
       |none=>rw[hpk2]at h3;cases h3
       |some d2=>
        rw[hpk2]at h3
        obtain⟨KS2,e2,p1,p2⟩:=Jm hC h4 hpk2
        exact ih d2 KS2 e2 a' w' h3 (fun b hb=>p1 b (h1 b (k1 b hb))) p2 (h5.trans k3) (h6.trans k4)
      ·cases h3
     |ret=>exact hK .ret _ _ _ _ _ _ _ (fun b hb=>h1 b (k1 b hb)) (hskle.trans h2) h3 h4 (h5.trans k3) (h6.trans k4)
     |exit j=>exact hK (.exit j) _ _ _ _ _ _ _ (fun b hb=>h1 b (k1 b hb)) (hskle.trans h2) h3 h4 (h5.trans k3) (h6.trans k4)
   obtain⟨KS2,e2,p1,p2⟩:=Jm hC hI hpk
   exact wp_loop_rounds k (key k d KS2 e2 a w hd p1 p2 rfl rfl)
 | .rangeFunc _ _ _ _,R,g,sk,ρ,κ,r,KS,e,a,w,Q,hd,hI,hl,hw,hK=>by cases hd
 | .scope _,R,g,sk,ρ,κ,r,KS,e,a,w,Q,hd,hI,hl,hw,hK=>by cases hd
 | .label _,R,g,sk,ρ,κ,r,KS,e,a,w,Q,hd,hI,hl,hw,hK=>by cases hd
 | .goto _,R,g,sk,ρ,κ,r,KS,e,a,w,Q,hd,hI,hl,hw,hK=>by cases hd
 | .refuse _,R,g,sk,ρ,κ,r,KS,e,a,w,Q,hd,hI,hl,hw,hK=>by cases hd
end
end
section
theorem OG{a:Act}{d:Nat}{v:Value}(hd:d<a.tmps.size)(t:Nat):(a.put (some d) v).eval (.tmp t)=if d=t then v else a.eval (.tmp t):=by
 simp only[Act.put,Act.eval,Array.getD_eq_getD_getElem?,Array.getElem?_setIfInBounds]
 split
 ·rename_i h;subst h;simp[]
 ·rfl
theorem AT{a:Act}{d:Option Tmp}{v:Value}:(a.put d v).tmps.size=a.tmps.size:=by
 cases d<;>simp[Act.put]
theorem put_defers{a:Act}{d:Option Tmp}{v:Value}:(a.put d v).defers=a.defers:=by
 cases d<;>rfl
theorem Inv.Mg{c:Ctx}{KS:Nat→Prop}{e:av}{F:Fs}{ρ:af}{w:World}{g:aA}{a:Act}(h:Inv c KS e ((g,a)::F) ρ w){g':aA}{a':Act}(hr:∀t,bf w KS ρ e (bL g' t) (a'.eval (.tmp t))):Inv c KS e ((g',a')::F) ρ w:=
 have hr':∀p∈(g',a')::F,∀t,bf w KS ρ e (bL p.1 t) (p.2.eval (.tmp t)):=fun p hp t=>by
  cases hp with
  |head=>exact hr t
  |tail _ hp=>exact h.bX p (List.mem_cons_of_mem _ hp) t
 {h with bX:=hr'}
def Th(g:aA)(d:Option Tmp)(v:RV):aA:=match d with|some t=>(t,v)::g|none=>g
theorem Inv.put{c:Ctx}{KS:Nat→Prop}{e:av}{F:Fs}{ρ:af}{w:World}{g:aA}{a:Act}(h:Inv c KS e ((g,a)::F) ρ w){d:Option Tmp}{rv:RV}{v:Value}(hv:bf w KS ρ e rv v)
  (hd:∀t,d=some t→t<a.tmps.size):Inv c KS e ((Th g d rv,a.put d v)::F) ρ w:=by
 cases d with
 |none=>exact h
 |some d=>
  refine h.Mg fun t=> ?_
  rw[OG (hd d rfl)]
  simp only[Th,bL]
  by_cases hdt:d=t
  ·subst hdt
   rw[if_pos rfl]
   simp only[Nat.beq_refl]
   exact hv
  ·rw[if_neg hdt]
   have:Nat.beq d t=false:=by
    cases hb:Nat.beq d t with
    |false=>rfl
    |true=>exact absurd (Nat.eq_of_beq_eq_true hb) hdt
   simp only[this]
   exact h.bX _ (List.mem_cons_self ..) t
theorem Jy(ks:List aH)(sk:List aA)(as:List Act):bG ks (sk.zip as)=(di ks sk).zip as:=by
 cases ks with
 |nil=>exact gX _
 |cons k ks=>
  simp only[bG,di]
  induction sk generalizing as with
  |nil=>rfl
  |cons g sk ih=>
   cases as with
   |nil=>rfl
   |cons a as=>simp only[List.zip_cons_cons,List.map_cons,ih]
theorem Lk{c:Ctx}{as:List Act}{KS:Nat→Prop}{e:av}{F:Fs}{ρ:af}{w:World}{g:aA}{a:Act}(h:Inv c KS e ((g,a)::F) ρ w):∀xs:List Operand,bF w KS ρ e (xs.map (ev g)) (xs.map a.eval)
 |[]=>rfl
 |x::xs=>⟨_,_,rfl,O6 h x,Lk (as:=as) h xs⟩
section
variable {P:Program} {τ:dM} {E:Env} {call:cr} {c:Ctx} {as:List Act}
theorem step_ok(hE:bZ P E)(hcall:oG P E τ call)(hC:cy τ c){o:Oper}{g:aA}{sk:List aA}{ρ:af}{KS:Nat→Prop}{e:av}{a:Act}{w:World}{g':aA}{sk':List aA}{ρ':af}
  (h:Inv c KS e ((g,a)::sk.zip as) ρ w) (hd:∀t,o.dst=some t→t<a.tmps.size) (hc:(yH E call g sk ρ o).run=some (g',sk',ρ')):
  fJ sk sk'∧cM P (execOp a.eval o) w fun v w'=>∃KS' e',(∀b,KS b→KS' b)∧Inv c KS' e' ((g',a.put o.dst v)::sk'.zip as) ρ' w':=by
 unfold yH at hc
 replace hc:=Cm.ae hc;obtain⟨ef,hef,hc⟩:=hc
 replace hc:=Cm.aG hc;obtain⟨hfree,hc⟩:=hc
 injection hc with hc
 simp only[Prod.mk.injEq]at hc
 obtain⟨hg',hsk',hρ'⟩:=hc
 subst hg';subst hsk';subst hρ'
 refine⟨Ip _ _, ?_⟩
 have hdoes:=Qe hE hC hcall h o a (Lk (as:=as) h (cF o.op)) (ef:=ef) (by simp only[nameOf];omega) (fun hn=>by
  simp only[hn,Bool.not_true,Bool.false_or,free,Bool.and_eq_true,Option.isNone_iff_eq_none]at hfree
  exact⟨hfree.1.1,hfree.1.2,hfree.2⟩) hef
 unfold cM at hdoes ⊢
 have key:∀v w',aR c KS ((g,a)::sk.zip as) ρ ef v w'→∃KS' e',(∀b,KS b→KS' b)∧Inv c KS' e' (((match o.dst with|some t=>(t,ef.rv)::bt (aB ef.kill ρ) g|none=>bt (aB ef.kill ρ) g),a.put o.dst v)::(di (aB ef.kill ρ) sk).zip as) (ef.rs++ag ef.kill ρ) w':=by
  intro v w' ⟨KS',e',h1,h2,h3⟩
  refine⟨KS',e',h1, ?_⟩
  have h3':Inv c KS' e' ((bt (aB ef.kill ρ) g,a)::(di (aB ef.kill ρ) sk).zip as) (ef.rs++ag ef.kill ρ) w':=by
   rw[←Jy];exact h3
  exact h3'.put h2 hd
 generalize (execOp a.eval o).run P w=r at*
 cases r with
 |ok n w'=>
  cases n<;>first|exact key _ _ hdoes|(exact hdoes.elim)|skip
  exact Calls.mono hdoes fun e w'' ⟨v,he,hn⟩=>⟨v,he,key _ _ hn⟩
 |halt x w'=>exact hdoes.elim
def Ps(P:Program)(E:Env)(τ:dM)(inl:QS):Prop:=
 ∀{R:Type} {dst f:Nat} {xs:List RV} {sk:List aA} {ρ:af} {κ:RV→List aA→af→Option R} {r:R} {c:Ctx} {KS:Nat→Prop} {e:av} {as:List Act} {w:World} {vs:List Value} {Z:Value→World→Prop},
  cy τ c→inl dst f xs sk ρ κ=some r→Inv c KS e (sk.zip as) ρ w→sk.length=as.length→bF w KS ρ e xs vs→
  (∀rv sk' ρ' v w' KS' e',(∀b,KS b→KS' b)→fJ sk sk'→κ rv sk' ρ'=some r→bf w' KS' ρ' e' rv v→Inv c KS' e' (sk'.zip as) ρ' w'→Z v w')→
  cM P (callFunc f vs.toArray) w Z
theorem Ll{o:Oper}{g:aA}{a:Act}{f:Nat}{xs:List RV}(hi:wG E g o=some (f,xs)){KS:Nat→Prop}{e:av}{F:Fs}{ρ:af}{w:World}(h:Inv c KS e ((g,a)::F) ρ w){Z:Value→World→Prop}
  (hZ:∀vs,bF w KS ρ e xs vs→cM P (callFunc f vs.toArray) w Z):cM P (execOp a.eval o) w Z:=by
 unfold wG at hi
 split at hi
 ·rename_i cl hop
  split at hi
  ·rename_i fo hcallee
   split at hi
   ·rename_i f' caps hev
    split at hi
    ·cases hi
    ·injection hi with hi
     simp only[Prod.mk.injEq]at hi
     obtain⟨rfl,rfl⟩:=hi
     have hfn:=O6 h fo
     rw[hev]at hfn
     obtain⟨us,hv,hcaps⟩:=hfn
     have hargs:=Lk (as:=[]) h cl.args.toList
     have hz:=hZ _ (He hargs hcaps)
     obtain⟨callee,args,argTypes⟩:=cl
     simp only at hcallee;subst hcallee
     unfold execOp;rw[hop]
     have e1:(do let dd ←resolve a.eval ⟨.value fo,args,argTypes⟩ o.type;invoke dd.target dd.args)=callFunc f' ((args.toList.map a.eval).toArray++us.toArray):=by
      simp only[resolve,hv,Deferred.ofValue]
      show invoke (.fn (.func f') us.toArray) (#[]++args.map a.eval)=_
      simp only[invoke,Array.empty_append]
      congr 2
      apply Array.toList_inj.1;simp
     show cM P (do let dd ←resolve a.eval ⟨.value fo,args,argTypes⟩ o.type;invoke dd.target dd.args) w Z
     rw[e1]
     have e2:(args.toList.map a.eval++us).toArray=(args.toList.map a.eval).toArray++us.toArray:=by
      apply Array.toList_inj.1;simp
     rw[e2]at hz
     exact hz
   ·cases hi
  ·cases hi
 ·cases hi
theorem yG{ops:Array Oper}{j t:Nat}{a:Act}(ht:((ops.toList[j]?).bind (·.dst))=some t):yielded ops a.tmps j=match a.eval (.tmp t)with| .bool b=>some b|_=>none:=by
 unfold yielded
 rw[←Array.getElem?_toList,ht]
 simp only[Option.bind_some,Act.eval,Array.getD_eq_getD_getElem?]
 cases a.tmps[t]? with
 |none=>rfl
 |some v=>cases v<;>rfl
theorem Ck(hE:bZ P E)(hcall:oG P E τ call){inl:QS}(hinl:Ps P E τ inl)(hC:cy τ c){R:Type}{ops:Array Oper}{r:R}{Q:Exit→Act→World→Prop}{κ:aA→List aA→af→Option R}:∀(os:List Oper) (i:Nat) {g:aA} {sk:List aA} {ρ:af} {KS:Nat→Prop} {e:av} {a:Act} {w:World},
  dI E call inl ops.toList os i g sk ρ κ=some r→Inv c KS e ((g,a)::sk.zip as) ρ w→sk.length=as.length→la a.tmps.size os=true→
  (∀g' sk' ρ' a' w' KS' e',(∀b,KS b→KS' b)→fJ sk sk'→κ g' sk' ρ'=some r→Inv c KS' e' ((g',a')::sk'.zip as) ρ' w'→a'.tmps.size=a.tmps.size→a'.defers=a.defers→Q .normal a' w')→
  wpList P ops Q os a w
 |[],i,g,sk,ρ,KS,e,a,w,hr,hI,hl,hs,hK=>hK _ _ _ _ _ _ _ (fun _ h=>h) (fJ.refl sk) hr hI rfl rfl
 |o::os,i,g,sk,ρ,KS,e,a,w,hr,hI,hl,hs,hK=>by
  simp only[la,List.all_cons,Bool.and_eq_true]at hs
  obtain⟨hso,hs⟩:=hs
  have hd:∀t,o.dst=some t→t<a.tmps.size:=fun t ht=>by
   rw[ht]at hso
   exact Nat.le_of_ble_eq_true hso
  -- behind the operation
  have rest:∀{g':aA} {sk':List aA} {ρ':af} {v:Value} {w':World} {KS':Nat→Prop} {e':av},(∀b,KS b→KS' b)→fJ sk sk'→dI E call inl ops.toList os (i+1) g' sk' ρ' κ=some r→Inv c KS' e' ((g',a.put o.dst v)::sk'.zip as) ρ' w'→wpList P ops Q os (a.put o.dst v) w':=
   fun hk hle hrun hI'=>Ck hE hcall hinl hC os (i+1) hrun hI' (by rw[←hle.len,hl]) (by rw[AT];exact hs)
    fun g2 sk2 ρ2 a2 w2 KS2 e2 j1 j2 j3 j4 j5 j6=>hK _ _ _ _ _ _ _ (fun b hb=>j1 b (hk b hb)) (hle.trans j2) j3 j4 (j5.trans AT) (j6.trans put_defers)
  have next:∀{g':aA} {sk':List aA} {ρ':af} {v:Value} {w':World} {KS':Nat→Prop} {e':av},(∀b,KS b→KS' b)→fJ sk sk'→
    (if guards ops.toList i then match bL g' (o.dst.getD 0)with
     | .aT=>dI E call inl ops.toList os (i+1) g' sk' ρ' κ
     | .v .bool b=>bif (b:Bool)then dI E call inl ops.toList os (i+1) ((o.dst.getD 0,.v .bool true)::g') sk' ρ' κ
      else dI E call inl ops.toList os (i+1) ((o.dst.getD 0,.v .bool false)::g') sk' ρ' κ
     |_=>none
    else dI E call inl ops.toList os (i+1) g' sk' ρ' κ)=some r→Inv c KS' e' ((g',a.put o.dst v)::sk'.zip as) ρ' w'→wpList P ops Q os (a.put o.dst v) w':=by
   intro g' sk' ρ' v w' KS' e' hk hle hrun hI'
   have same:∀b:Bool,bL g' (o.dst.getD 0)= .v .bool b→Inv c KS' e' (((o.dst.getD 0,.v .bool b)::g',a.put o.dst v)::sk'.zip as) ρ' w':=fun b hb=>hI'.Mg fun t=>by
    have:=hI'.bX _ (List.mem_cons_self ..) t
    simp only[bL]
    cases ht:Nat.beq (o.dst.getD 0) t with
    |false=>exact this
    |true=>
     rw[←Nat.eq_of_beq_eq_true ht,hb]at this
     rw[←Nat.eq_of_beq_eq_true ht]
     exact this
   split at hrun
   ·split at hrun
    ·exact rest hk hle hrun hI'
    ·rename_i b hb
     cases b with
     |true=>exact rest hk hle hrun (same true hb)
     |false=>exact rest hk hle hrun (same false hb)
    ·cases hrun
   ·exact rest hk hle hrun hI'
  -- the operation itself
  have go:(match wG E g o with
   |some (f,xs)=>inl (o.dst.getD 0) f xs (g::sk) ρ fun rv sk' ρ'=>match sk' with
    |g'::sk''=>
     (if guards ops.toList i then match bL (match o.dst with|some t=>(t,rv)::g'|none=>g') (o.dst.getD 0)with
      | .aT=>dI E call inl ops.toList os (i+1) (match o.dst with|some t=>(t,rv)::g'|none=>g') sk'' ρ' κ
      | .v .bool b=>bif (b:Bool)then dI E call inl ops.toList os (i+1) ((o.dst.getD 0,.v .bool true)::(match o.dst with|some t=>(t,rv)::g'|none=>g')) sk'' ρ' κ
       else dI E call inl ops.toList os (i+1) ((o.dst.getD 0,.v .bool false)::(match o.dst with|some t=>(t,rv)::g'|none=>g')) sk'' ρ' κ
      |_=>none
     else dI E call inl ops.toList os (i+1) (match o.dst with|some t=>(t,rv)::g'|none=>g') sk'' ρ' κ)
    |[]=>none
   |none=>(yH E call g sk ρ o).runK fun(g',sk',ρ')=>
     (if guards ops.toList i then match bL g' (o.dst.getD 0)with
      | .aT=>dI E call inl ops.toList os (i+1) g' sk' ρ' κ
      | .v .bool b=>bif (b:Bool)then dI E call inl ops.toList os (i+1) ((o.dst.getD 0,.v .bool true)::g') sk' ρ' κ
       else dI E call inl ops.toList os (i+1) ((o.dst.getD 0,.v .bool false)::g') sk' ρ' κ
      |_=>none
     else dI E call inl ops.toList os (i+1) g' sk' ρ' κ))=some r→o.wp P a w (wpList P ops Q os) Q:=by
   intro hr
   split at hr
   ·rename_i f xs hi
    refine Oper.yy (Ll hi hI (Z:=fun v w'=>wpList P ops Q os (a.put o.dst v) w') fun vs hvs=> ?_)
    refine hinl (as:=a::as) hC hr hI (by simp[hl]) hvs ?_
    intro rv sk' ρ' v w' KS' e' h1 h2 h3 h4 h5
    cases h2 with
    |cons h2 h2'=>
     simp only at h3
     exact next h1 h2' h3 (Inv.put h5 h4 hd)
   ·rw[Cm.l4]at hr
    cases hst:(yH E call g sk ρ o).run with
    |none=>rw[hst]at hr;cases hr
    |some z=>
     obtain⟨g',sk',ρ'⟩:=z
     rw[hst]at hr
     simp only[Option.bind_some]at hr
     obtain⟨hle,hdoes⟩:=step_ok hE hcall hC hI hd hst
     refine Oper.yy ?_
     unfold cM at hdoes ⊢
     generalize (execOp a.eval o).run P w=res at*
     cases res with
     |ok n w'=>
      cases n<;>first|(exact hdoes.elim)|(obtain⟨KS',e',h1,h2⟩:=hdoes;exact next h1 hle hr h2)|skip
      exact Calls.mono hdoes fun x w'' ⟨v,hx,KS',e',h1,h2⟩=>⟨v,hx,next h1 hle hr h2⟩
     |halt x w'=>exact hdoes.elim
  have skip:dI E call inl ops.toList os (i+1) (match o.dst with|some t=>(t,.aT)::g|none=>g) sk ρ κ=some r→wpList P ops Q os (a.put o.dst undef) w:=
   fun hrun=>rest (fun _ h=>h) (fJ.refl sk) hrun (Inv.put hI (rv:= .aT) rfl hd)
  unfold wpList
  unfold dI at hr
  simp only at hr
  split at hr
  ·rename_i hg
   rw[if_pos (by simp only[Region.wanted,hg])]
   exact .inl (go hr)
  ·rename_i j want hg
   split at hr
   ·rename_i tj htj
    have hval:=hI.bX _ (List.mem_cons_self ..) tj
    split at hr
    ·rename_i b hb
     rw[hb]at hval
     have hv:=gv hval
     have hy:yielded ops a.tmps j=some b:=by rw[yG htj,hv]
     cases hbw:((b:Bool)==want)with
     |true=>
      rw[hbw]at hr
      rw[if_pos (by simp only[Region.wanted,hg,hy];simpa using hbw)]
      exact .inl (go hr)
     |false=>
      rw[hbw]at hr
      rw[if_neg (by simp only[Region.wanted,hg,hy];simpa using hbw)]
      exact skip hr
    ·rename_i hb
     rw[hb]at hval
     have hv:a.eval (.tmp tj)=undef:=hval
     have hy:yielded ops a.tmps j=none:=by rw[yG htj,hv];rfl
     rw[if_neg (by simp only[Region.wanted,hg,hy];simp)]
     exact skip hr
    ·cases hr
   ·cases hr
end
end
end Go.Eng

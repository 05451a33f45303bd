/- The engine, part 4: a symbolic interpreter of the model's programs and the proof that its runs are what the functions do; conditions: those that its theorems name. -/
import Derived.Test.YtkdcfeopelbojaaGreatDoorEng3
set_option linter.unusedVariables false
set_option linter.unusedSimpArgs false
namespace Go.Eng
section
def mh(w w':World):Prop:=dH w w'∧∀b,b<w.heap.size→w'.heap[b]? =w.heap[b]?
theorem mh.below{w w':World}(h:RowKit.Below w.heap.size w w'):mh w w':=⟨⟨h.size,h.os,h.output⟩,h.block⟩
theorem mh.refl(w:World):mh w w:=⟨dH.refl w,fun _ _=>rfl⟩
def Tm:dM:=⟨fun _=>True,fun _=>False,fun _ _ _ _=>trivial⟩
def OF(P:Program)(name:String)(k:IntKind)(zs:List Int):dM where
 T w:=Lib.TabIs P w name k zs
 B b:=P.globalNamed name=some b
 OP w w' h ht:=by
  unfold Lib.TabIs World.var? at*
  cases hg:P.globalNamed name with
  |none=>rw[hg]at ht;cases ht
  |some g=>
   rw[hg]at ht
   simp only[Option.bind_some]at ht ⊢
   rw[(h g hg).heap]
   exact ht
theorem rG{P:Program}{τ:dM}{f:Nat}{fn:Func}{c:Code}{s:bu}{G:s.zk.D→Option s.yM.D}(hf:P.funcs[f]? =some fn)(hn:(fn.name== "runtime.NumGoroutine")=false)(hc:fn.body=some c)(hio:s.io=none)
  (h:∀{w:World} {KS:Nat→Prop} {gs:List SG} {x:s.zk.D} {z:s.yM.D},wg s.ox x=gs.map SG.d→G x=some z→(∀y∈gs,bM w KS y.t y.g)→(∀b,KS b→b<w.heap.size)→τ.T w→
   ∃y:SG,wg s.dQ z=[y.d]∧y.fp=[]∧(∀w KS,bM w KS y.t y.g)∧Calls P f (gs.map SG.v).toArray w fun e w'=>e= .returned y.v∧mh w w'):ln P τ f s G:=by
 intro w KS gs A x z _ hx hz hok hnd hfp hKS _ hT _
 obtain⟨y,h1,h2,h3,h4⟩:=h hx hz hok hKS hT
 rw[lJ (by rw[hio];rfl)]
 have hrun:(callFunc f (gs.map SG.v).toArray).run P w= .ok (.enter f (gs.map SG.v).toArray) w:=by
  unfold callFunc
  rw[Sem.run_bind]
  have h1:(program:Sem Program).run P w= .ok P w:=rfl
  rw[h1]
  simp only[Result.andThen_ok,hf,hn,hc,Option.isNone_some,Bool.false_eq_true,if_false,Sem.run_pure]
 unfold cM
 rw[hrun]
 refine Calls.mono h4 fun e w' hp=> ?_
 obtain⟨rfl,hb⟩:=hp
 refine⟨y.v,rfl,KS,[y],[],fun b hb=>hb,rfl,⟨by rw[h1];rfl,by rw[hio];rfl⟩, ?_, ?_, ?_,fun b hb=> .inl hb,hb.1, ?_, ?_, ?_⟩
 ·intro u hu
  simp only[List.append_nil,List.mem_singleton]at hu
  subst hu;exact h3 w' KS
 ·simp[h2]
 ·simp[h2]
 ·intro b hlt _ _
  exact .of (hb.2 b hlt)
 ·intro hh;rw[hio]at hh;cases hh
 ·intro _ u hu;cases hu
theorem oR{y:SG}{t:Ty}{x:t.D}(h:(⟨t,x⟩:eh)=y.d):∃g:t.G,y=⟨t,g⟩∧er t g=x:=by
 obtain⟨t',g⟩:=y
 simp only[SG.d]at h
 injection h with h1 h2
 subst h1
 exact⟨g,rfl,(eq_of_heq h2).symm⟩
theorem ES{gs:List SG}{a b:eh}(h:[a,b]=gs.map SG.d):∃y z:SG,gs=[y,z]∧a=y.d∧b=z.d:=by
 match gs,h with
 |[y,z],h=>simp only[List.map_cons,List.map_nil,List.cons.injEq,and_true]at h;exact⟨y,z,rfl,h.1,h.2⟩
 |[],h=>cases h
 |[_],h=>simp at h
 |_::_::_::_,h=>simp at h
theorem I8{gs:List SG}{a:eh}(h:[a]=gs.map SG.d):∃y:SG,gs=[y]∧a=y.d:=by
 match gs,h with
 |[y],h=>simp only[List.map_cons,List.map_nil,List.cons.injEq,and_true]at h;exact⟨y,rfl,h⟩
 |[],h=>cases h
 |_::_::_,h=>simp at h
def ub(x:ByteArray×Int):Option Int:=some (Lib.indexByte x.1.data.toList x.2.toNat.toUInt8)
theorem Pv{P:Program}{τ:dM}{f:Nat}{fn:Func}{c:Code}(hf:P.funcs[f]? =some fn)(hn:(fn.name== "runtime.NumGoroutine")=false)(hc:fn.body=some c)
  (h:∀(s:ByteArray) (c:Int) (w:World),Calls P f #[.string s,.int .u8 c] w fun e w'=>e= .returned (.int .i64 (Lib.indexByte s.data.toList c.toNat.toUInt8))∧w'=w):
  ln P τ f ⟨[.val .str,.val (.int .u8)],[.int .i64],none⟩ ub:=by
 refine rG hf hn hc rfl fun{w KS gs x z} hx hz _ _ _=> ?_
 obtain⟨y1,y2,rfl,h1,h2⟩:=ES hx
 obtain⟨g1,rfl,e1⟩:=oR h1
 obtain⟨g2,rfl,e2⟩:=oR h2
 injection hz with hz
 subst hz
 refine⟨⟨.int .i64,_⟩,rfl,rfl,fun _ _=>trivial, ?_⟩
 refine Calls.mono (h g1 g2 w) fun e w' hp=>⟨?_,hp.2▸mh.refl _⟩
 rw[hp.1]
 show _=Ending.returned (.int .i64 (Lib.indexByte x.1.data.toList x.2.toNat.toUInt8))
 rw[←e1,←e2]
 rfl
def bK(x:ByteArray×ByteArray):Option Bool:=
 if x.1.size<4294967281∧x.2.size<4294967281∧x.2.data.toList.all (fun b=>decide (b.toNat<128))=true then some (Lib.containsAny x.1.data.toList x.2.data.toList)else none
def da(x:ByteArray×Int):Option ByteArray:=
 if 0≤x.2∧x.2≤9223372036854775807∧x.1.size*x.2.toNat≤140737488355328 then some ⟨(Lib.repeatL x.1.data.toList x.2.toNat).toArray⟩else none
theorem J6{P:Program}{τ:dM}{f:Nat}{fn:Func}{c:Code}(hf:P.funcs[f]? =some fn)(hn:(fn.name== "runtime.NumGoroutine")=false)(hc:fn.body=some c)
  (h:∀(s:ByteArray) (c:Nat) (w:World),c≤9223372036854775807→s.size*c≤140737488355328→Calls P f #[.string s,.int .i64 c] w fun e w'=>e= .returned (.string ⟨(Lib.repeatL s.data.toList c).toArray⟩)∧RowKit.Below w.heap.size w w'):
  ln P τ f ⟨[.val .str,.val (.int .i64)],[.str],none⟩ da:=by
 refine rG hf hn hc rfl fun{w KS gs x z} hx hz _ _ _=> ?_
 obtain⟨y1,y2,rfl,h1,h2⟩:=ES hx
 obtain⟨g1,rfl,e1⟩:=oR h1
 obtain⟨g2,rfl,e2⟩:=oR h2
 have hz':da x=some z:=hz
 unfold da at hz'
 split at hz'
 ·rename_i hq
  injection hz' with hz'
  subst hz'
  refine⟨⟨.str,_⟩,rfl,rfl,fun _ _=>trivial, ?_⟩
  have e2':(g2:Int)=x.2:=e2
  have e1':(g1:ByteArray)=x.1:=e1
  have hn:(g2:Int)=((x.2.toNat:Nat):Int):=e2'.trans (Int.toNat_of_nonneg hq.1).symm
  show Calls P f #[.string g1,.int .i64 g2] w _
  have hq1:=hq.2.1
  have hq0:=hq.1
  rw[hn,e1']
  refine Calls.mono (h x.1 x.2.toNat w (by have:=hq.2.1;omega) hq.2.2) fun e w' hp=>⟨?_,mh.below hp.2⟩
  rw[hp.1];rfl
 ·cases hz'
def qH(l:List ByteArray)(sep:ByteArray):List UInt8:=Lib.join (l.map (·.data.toList)) sep.data.toList
def dS(x:List ByteArray×ByteArray):Option ByteArray:=
 if x.1.length≤140737488355328∧(qH x.1 x.2).length≤140737488355328 then some ⟨(qH x.1 x.2).toArray⟩else none
theorem EZ{w:World}{KS:Nat→Prop}:∀{l:List ByteArray} {rows:List Value},eM (cg w KS .str) l rows→rows=l.map Value.string
 |[],_,h=>h
 |x::l,_,⟨c1,c2,e,h1,h2⟩=>by
  have h1:c1=[.string x]:=h1
  rw[e,h1,EZ h2];rfl
theorem KA{l:List ByteArray}{j:Nat}{y:ByteArray}(h:l[j]? =some y):(l.map Value.string)[j]? =some (.string y):=by rw[List.getElem?_map,h];rfl
theorem N0{P:Program}{τ:dM}{f:Nat}{fn:Func}{c:Code}(hf:P.funcs[f]? =some fn)(hn:(fn.name== "runtime.NumGoroutine")=false)(hc:fn.body=some c)
  (h:∀(bk o c:Nat) (xs:List ByteArray) (sep:ByteArray) (w:World),(∀(j:Nat) x,xs[j]? =some x→w.cell? ⟨bk,o+j,none⟩=some (.string x))→bk<w.heap.size→xs.length≤140737488355328→xs.length≤c→
   (Lib.join (xs.map (·.data.toList)) sep.data.toList).length≤140737488355328→
   Calls P f #[.slice (some ⟨bk,o,none⟩) xs.length c,.string sep] w fun e w'=>e= .returned (.string ⟨(Lib.join (xs.map (·.data.toList)) sep.data.toList).toArray⟩)∧RowKit.Below w.heap.size w w')
  (h0:∀(a:Option Addr) (c:Nat) (sep:ByteArray) (w:World),Calls P f #[.slice a 0 c,.string sep] w fun e w'=>e= .returned (.string ⟨#[]⟩)∧w'=w):
  ln P τ f ⟨[.val (.list false .str),.val .str],[.str],none⟩ dS:=by
 refine rG hf hn hc rfl fun{w KS gs x z} hx hz hok hKS _=> ?_
 obtain⟨y1,y2,rfl,h1,h2⟩:=ES hx
 obtain⟨g1,rfl,e1⟩:=oR h1
 obtain⟨g2,rfl,e2⟩:=oR h2
 have hz':dS x=some z:=hz
 unfold dS at hz'
 split at hz'
 ·rename_i hq
  injection hz' with hz'
  subst hz'
  refine⟨⟨.str,_⟩,rfl,rfl,fun _ _=>trivial, ?_⟩
  have e1':(g1:DJ ByteArray).l=x.1:=e1
  have e2':(g2:ByteArray)=x.2:=e2
  have hk:cg w KS (.list false .str) (g1:DJ ByteArray).l [.slice (g1:DJ ByteArray).ad (g1:DJ ByteArray).l.length (g1:DJ ByteArray).cap]:=hok _ (List.mem_cons_self ..)
  obtain⟨ad,cap,k1,k2,k3⟩:=hk
  show Calls P f #[.slice (g1:DJ ByteArray).ad (g1:DJ ByteArray).l.length (g1:DJ ByteArray).cap,.string g2] w _
  simp only[List.cons.injEq,and_true,Value.slice.injEq]at k1
  obtain⟨ka,_,kc⟩:=k1
  rw[e1']at k2 k3 ⊢
  rw[e2',ka,kc]
  rcases k3 with hnil|⟨a,rows,ra,rs,rk,rst,rr⟩
  ·rw[hnil]
   refine Calls.mono (h0 ad cap x.2 w) fun e w' hp=>⟨?_,hp.2▸mh.refl _⟩
   rw[hp.1];rfl
  ·subst ra
   obtain⟨ab,ao,asp⟩:=a
   simp only at rs
   subst rs
   refine Calls.mono (h ab ao cap x.1 x.2 w (fun j y hj=> ?_) (hKS _ rk) hq.1 k2 hq.2) fun e w' hp=>⟨?_,mh.below hp.2⟩
   ·have hrow:=KA hj
    exact rst j (.string y) ((EZ rr).symm▸hrow)
   ·rw[hp.1];rfl
 ·cases hz'
def dU(x:Int):Option ByteArray:=
 if-9223372036854775808≤x∧x≤9223372036854775807 then some ⟨(Lib.itoa x).toArray⟩else none
theorem NF{P:Program}{τ:dM}{f:Nat}{fn:Func}{c:Code}{name:String}(hf:P.funcs[f]? =some fn)(hn:(fn.name== "runtime.NumGoroutine")=false)(hc:fn.body=some c)
  (h:∀(n:Int),-9223372036854775808≤n→n≤9223372036854775807→∀w:World,Lib.TabIs P w name .u64 Lib.pow10Tab→Calls P f #[.int .i64 n] w fun e w'=>e= .returned (.string ⟨(Lib.itoa n).toArray⟩)∧∃k os,w'=Sort.grow (w.drewN k) os)
  (hT:∀w,τ.T w→Lib.TabIs P w name .u64 Lib.pow10Tab):
  ln P τ f ⟨[.val (.int .i64)],[.str],none⟩ dU:=by
 refine rG hf hn hc rfl fun{w KS gs x z} hx hz _ _ ht=> ?_
 obtain⟨y1,rfl,h1⟩:=I8 hx
 obtain⟨g1,rfl,e1⟩:=oR h1
 have hz':dU x=some z:=hz
 unfold dU at hz'
 split at hz'
 ·rename_i hq
  injection hz' with hz'
  subst hz'
  refine⟨⟨.str,_⟩,rfl,rfl,fun _ _=>trivial, ?_⟩
  have e1':(g1:Int)=x:=e1
  show Calls P f #[.int .i64 g1] w _
  rw[e1']
  refine Calls.mono (h x hq.1 hq.2 w (hT w ht)) fun e w' hp=>⟨?_, ?_⟩
  ·rw[hp.1];rfl
  ·obtain⟨_,k,os,rfl⟩:=hp
   refine⟨⟨?_,rfl,rfl⟩,fun b hb=> ?_⟩
   ·show w.heap.size≤(w.heap++os).size
    rw[Array.size_append];exact Nat.le_add_right ..
   ·show(w.heap++os)[b]? =w.heap[b]?
    exact Array.getElem?_append_left hb
 ·cases hz'
theorem zU{P:Program}{W:World}{name:String}{k:IntKind}{zs:List Int}{g:Nat}{t e:TypeId}{n:Nat}
  (hg:P.globalNamed name=some g) (hty:(P.globals[g]?).map (·.type)=some t) (ht:P.underlying t=some (.array n e)) (he:P.underlying e=some (.int k)) (hce:P.cellsOf e=1) (hct:P.cellsOf t=n):
  ∀{l:List (String×DataW Unit)} {ps:List MemPlace},DataW.LaidVars P W l ps→(name,Lib.tabData k zs)∈l→Lib.TabIs P W name k zs
 |[],_,_,hm=>by cases hm
 |(n',d')::r,ps,h,hm=>by
  obtain⟨g',t',cs,fuel,p,q,h1,h2,h3,h4,h5,_⟩:=h
  rcases List.mem_cons.1 hm with e0|e0
  ·cases e0
   obtain rfl:=Option.some.inj (hg.symm.trans h1)
   obtain rfl:=Option.some.inj (hty.symm.trans h2)
   unfold Lib.TabIs
   rw[h3,←Lib.cells_of_tab ht he hce hct h4]
  ·exact zU hg hty ht he hce hct h5 e0
theorem JG{P:Program}{W:World}{name:String}{k:IntKind}{zs:List Int}{g:Nat}{t e:TypeId}{n:Nat}{l:List (String×DataW Unit)}
  (hg:P.globalNamed name=some g) (hty:(P.globals[g]?).map (·.type)=some t) (ht:P.underlying t=some (.array n e)) (he:P.underlying e=some (.int k)) (hce:P.cellsOf e=1) (hct:P.cellsOf t=n)
  (h:laidMet P l W) (hm:(name,Lib.tabData k zs)∈l):Lib.TabIs P W name k zs:=
 let⟨_,hv,_⟩:=h
 zU hg hty ht he hce hct hv hm
theorem OI{P:Program}{W:World}{name:String}{k:IntKind}{zs:List Int}(h:Lib.TabIs P W name k zs):∀b,(OF P name k zs).B b→b<W.heap.size:=by
 intro b hb
 have hb:P.globalNamed name=some b:=hb
 unfold Lib.TabIs World.var? at h
 rw[hb]at h
 simp only[Option.bind_some]at h
 split at h
 ·rename_i h1
  exact(Array.getElem?_eq_some_iff.1 h1).1
 ·cases h
theorem H9{P:Program}{τ:dM}{f:Nat}{fn:Func}{c:Code}{s:bu}{G:s.zk.D→Option s.yM.D}(hf:P.funcs[f]? =some fn)(hn:(fn.name== "runtime.NumGoroutine")=false)(hc:fn.body=some c)(hio:s.io=none)
  (h:∀{w:World} {KS:Nat→Prop} {gs:List SG} {x:s.zk.D} {z:s.yM.D},wg s.ox x=gs.map SG.d→G x=some z→(∀y∈gs,bM w KS y.t y.g)→(∀b,KS b→b<w.heap.size)→τ.T w→
   Calls P f (gs.map SG.v).toArray w fun e w'=>∃y:SG,e= .returned y.v∧wg s.dQ z=[y.d]∧bM w' KS y.t y.g∧y.fp.Nodup∧(∀b∈y.fp,w.heap.size≤b∧b<w'.heap.size)∧mh w w'):ln P τ f s G:=by
 intro w KS gs A x z _ hx hz hok hnd hfp hKS _ hT _
 have h4:=h hx hz hok hKS hT
 rw[lJ (by rw[hio];rfl)]
 have hrun:(callFunc f (gs.map SG.v).toArray).run P w= .ok (.enter f (gs.map SG.v).toArray) w:=by
  unfold callFunc
  rw[Sem.run_bind]
  have h1:(program:Sem Program).run P w= .ok P w:=rfl
  rw[h1]
  simp only[Result.andThen_ok,hf,hn,hc,Option.isNone_some,Bool.false_eq_true,if_false,Sem.run_pure]
 unfold cM
 rw[hrun]
 refine Calls.mono h4 fun e w' hp=> ?_
 obtain⟨y,rfl,h1,h2,h3,h5,hb⟩:=hp
 refine⟨y.v,rfl,KS,[y],[],fun b hb=>hb,rfl,⟨by rw[h1];rfl,by rw[hio];rfl⟩, ?_, ?_, ?_,fun b hb=> .inl hb,hb.1, ?_, ?_, ?_⟩
 ·intro u hu
  simp only[List.append_nil,List.mem_singleton]at hu
  subst hu;exact h2
 ·simpa using h3
 ·intro b hbm
  have hbm:b∈y.fp:=by simpa using hbm
  obtain⟨q1,q2⟩:=h5 b hbm
  exact⟨fun hk=>by have:=hKS b hk;omega,.inl ⟨q1,q2⟩⟩
 ·intro b hlt _ _
  exact .of (hb.2 b hlt)
 ·intro hh;rw[hio]at hh;cases hh
 ·intro _ u hu;cases hu
theorem uC{w:World}{KS:Nat→Prop}{B:Nat}{e:TypeId}{te:Ty}{v:Value}{n:Nat}{xs:List Value}(h:w.ownsRow B e te.sz v n xs)(rows:List te.G)(hn:rows.length=n)
  (hx:rows.flatMap (cl te)=xs) (hok:∀r∈rows,bM w KS te r) (hfp:∀r∈rows,fp te r=[]):
  ∃g:ck te.G,v= .slice g.ad g.rows.length g.cap∧g.rows=rows∧bM w KS (.list true te) g∧(fp (.list true te) g).Nodup∧∀b∈fp (.list true te) g,B≤b∧b<w.heap.size:=by
 obtain⟨hl,h⟩:=h
 rcases h with⟨rfl,h0⟩|⟨g,cap,cur,rfl,hb,hg,hnc,hcm,hcs,hct⟩
 ·subst h0
  have hr:rows=[]:=List.eq_nil_of_length_eq_zero hn
  subst hr
  exact⟨⟨none,0,[]⟩,rfl,rfl,.inl ⟨rfl,rfl⟩,List.nodup_nil,fun b hb=>by cases hb⟩
 ·have hlt:g<w.heap.size:=(Array.getElem?_eq_some_iff.1 hg).1
  have hff:rows.flatMap (fp te)=[]:=List.flatMap_eq_nil_iff.2 hfp
  refine⟨⟨some ⟨g,0,none⟩,cap,rows⟩,by rw[hn],rfl, ?_, ?_, ?_⟩
  ·by_cases hc0:cap=0
   ·have hr:rows=[]:=List.eq_nil_of_length_eq_zero (by omega)
    exact .inl ⟨hc0,hr⟩
   ·refine .inr ⟨g,cur.toList.drop (n*te.sz),rfl,by show 0<cap;omega,by show rows.length≤cap;omega, ?_, ?_,hok⟩
    ·have hcur:rows.flatMap (cl te)++cur.toList.drop (n*te.sz)=cur.toList:=by
      rw[hx,←hct,List.take_append_drop]
     rw[hcur]
     refine⟨⟨e, ?_⟩, ?_, ?_⟩
     ·simp only[World.shape?,hg,Array.length_toList]
     ·intro j u hj
      have hj':cur[j]? =some u:=by rw[←Array.getElem?_toList];exact hj
      simp[World.cell?,hg,hj']
     ·intro j hj
      simp[World.frozen?,hg]
    ·have hcur:rows.flatMap (cl te)++cur.toList.drop (n*te.sz)=cur.toList:=by
      rw[hx,←hct,List.take_append_drop]
     rw[hcur,Array.length_toList]
     exact hcs
  ·simp only[fp]
   split
   ·exact List.nodup_nil
   ·rw[hff];simp
  ·intro b hbm
   simp only[fp]at hbm
   split at hbm
   ·cases hbm
   ·rw[hff]at hbm
    simp at hbm
    subst hbm
    exact⟨hb,hlt⟩
def Ty.zB:Ty→Bool
 | .int _| .bool| .str=>true
 | .pair a b=>a.zB&&b.zB
 |_=>false
theorem PA{w:World}{KS:Nat→Prop}:∀{te:Ty},te.zB=true→∀{x:te.D} {cs:List Value},cg w KS te x cs→∃g:te.G,er te g=x∧cl te g=cs∧(∀w' KS',bM w' KS' te g)∧fp te g=[]∧∀u∈cs,u.oneCell'=true:=by
 intro te
 induction te with
 |int k=>intro _ x cs h;exact⟨x,rfl,Eq.symm h,fun _ _=>trivial,rfl,fun u hu=>by rw[h]at hu;simp at hu;subst hu;rfl⟩
 |bool=>intro _ x cs h;exact⟨x,rfl,Eq.symm h,fun _ _=>trivial,rfl,fun u hu=>by rw[h]at hu;simp at hu;subst hu;rfl⟩
 |str=>intro _ x cs h;exact⟨x,rfl,Eq.symm h,fun _ _=>trivial,rfl,fun u hu=>by rw[h]at hu;simp at hu;subst hu;rfl⟩
 |pair a b iha ihb=>
  intro hf x cs h
  simp only[Ty.zB,Bool.and_eq_true]at hf
  obtain⟨c1,c2,rfl,h1,h2⟩:=h
  obtain⟨g1,p1,p2,p3,p4,p5⟩:=iha hf.1 h1
  obtain⟨g2,q1,q2,q3,q4,q5⟩:=ihb hf.2 h2
  refine⟨(g1,g2),by simp only[er,p1,q1],by simp only[cl,p2,q2],fun w' KS'=>⟨p3 w' KS',q3 w' KS'⟩,by simp only[fp,p4,q4,List.append_nil],fun u hu=> ?_⟩
  rcases List.mem_append.1 hu with hu|hu
  ·exact p5 u hu
  ·exact q5 u hu
 |unit=>intro hf;cases hf
 |list o t _=>intro hf;cases hf
 |ptr t _=>intro hf;cases hf
 |arr n t _=>intro hf;cases hf
 |gone n=>intro hf;cases hf
theorem G0{w:World}{KS:Nat→Prop}{te:Ty}(hte:te.zB=true):∀{l:List te.D} {rows:List Value},eM (cg w KS te) l rows→
  ∃gs:List te.G,gs.map (er te)=l∧gs.flatMap (cl te)=rows∧(∀r∈gs,(∀w' KS',bM w' KS' te r)∧fp te r=[])∧∀u∈rows,u.oneCell'=true
 |[],cs,h=>by
  have h:cs=[]:=h
  subst h
  exact⟨[],rfl,rfl,(fun r hr=>by cases hr),(fun u hu=>by cases hu)⟩
 |x::l,_,⟨c1,c2,e,h1,h2⟩=>by
  subst e
  obtain⟨g,p1,p2,p3,p4,p5⟩:=PA hte h1
  obtain⟨gs,q1,q2,q3,q4⟩:=G0 hte h2
  refine⟨g::gs,by simp[p1,q1],by simp[p2,q2],fun r hr=> ?_,fun u hu=> ?_⟩
  ·rcases List.mem_cons.1 hr with rfl|hr
   ·exact⟨p3,p4⟩
   ·exact q3 r hr
  ·rcases List.mem_append.1 hu with hu|hu
   ·exact p5 u hu
   ·exact q4 u hu
def lg(te:Ty)(bytes:Nat)(x:List te.D):Option (List te.D):=if x.length≤maxLen∧x.length*bytes≤140737488355328 then some x else none
theorem zl{P:Program}{τ:dM}{f:Nat}{fn:Func}{c:Code}{te:Ty}{bytes:Nat}{e:TypeId}(hte:te.zB=true)(hf:P.funcs[f]? =some fn)(hn:(fn.name== "runtime.NumGoroutine")=false)(hc:fn.body=some c)
  (h:∀(b off n c:Nat) (gs:List te.G) (w:World),gs.length=n→n≤maxLen→n*bytes≤140737488355328→(∀j u,(gs.flatMap (cl te))[j]? =some u→w.cell? ⟨b,off+j,none⟩=some u)→
   Calls P f #[.slice (some ⟨b,off,none⟩) n c] w fun x w'=>∃v',x= .returned v'∧w'.ownsRow w.heap.size e te.sz v' n (gs.flatMap (cl te))∧v'≠ .slice none 0 0∧RowKit.Below w.heap.size w w')
  (hnil:∀(n c:Nat) (w:World),Calls P f #[.slice none n c] w fun x w'=>x= .returned (.slice none 0 0)∧w'=w)
  (hzero:∀(a:Addr) (c:Nat) (w:World),Calls P f #[.slice (some a) 0 c] w fun x w'=>∃v',x= .returned v'∧w'.ownsRow w.heap.size e te.sz v' 0 []∧v'≠ .slice none 0 0∧RowKit.Below w.heap.size w w'):
  ln P τ f ⟨[.val (.list false te)],[.list true te],none⟩ (lg te bytes):=by
 refine H9 hf hn hc rfl fun{w KS gs x z} hx hz hok hKS _=> ?_
 obtain⟨y1,rfl,h1⟩:=I8 hx
 obtain⟨g1,rfl,e1⟩:=oR h1
 have hz':lg te bytes x=some z:=hz
 unfold lg at hz'
 split at hz'
 ·rename_i hq
  injection hz' with hz'
  subst hz'
  have e1':(g1:DJ te.D).l=x:=e1
  have hk:cg w KS (.list false te) (g1:DJ te.D).l [.slice (g1:DJ te.D).ad (g1:DJ te.D).l.length (g1:DJ te.D).cap]:=hok _ (List.mem_cons_self ..)
  obtain⟨ad,cap,k1,k2,k3⟩:=hk
  show Calls P f #[.slice (g1:DJ te.D).ad (g1:DJ te.D).l.length (g1:DJ te.D).cap] w _
  simp only[List.cons.injEq,and_true,Value.slice.injEq]at k1
  obtain⟨ka,_,kc⟩:=k1
  rw[e1']at k2 k3 ⊢
  rw[ka,kc]
  have fin:∀(news:List Value) (gs:List te.G) (b off:Nat),gs.map (er te)=x→gs.flatMap (cl te)=news→(∀r∈gs,(∀w' KS',bM w' KS' te r)∧fp te r=[])→(∀u∈news,u.oneCell'=true)→
    (∀j u,news[j]? =some u→w.cell? ⟨b,off+j,none⟩=some u)→
    Calls P f #[.slice (some ⟨b,off,none⟩) x.length cap] w fun e w'=>∃y:SG,e= .returned y.v∧wg (bu.mk [.val (.list false te)] [.list true te] none).dQ x=[y.d]∧bM w' KS y.t y.g∧y.fp.Nodup∧(∀b∈y.fp,w.heap.size≤b∧b<w'.heap.size)∧mh w w':=by
   intro news gs b off p1 p2 p3 p4 p5
   have hlen:gs.length=x.length:=by rw[←p1,List.length_map]
   have hnl:news.length=x.length*te.sz:=by
    rw[←p2,←hlen]
    have:∀l:List te.G,(∀r∈l,bM w KS te r)→(l.flatMap (cl te)).length=l.length*te.sz:=by
     intro l
     induction l with
     |nil=>intro _;simp
     |cons a l ih=>
      intro hl
      rw[List.flatMap_cons,List.length_append,bc te a (hl a (by simp)),ih fun r hr=>hl r (by simp[hr]),List.length_cons,Nat.succ_mul,Nat.add_comm]
    exact this gs fun r hr=>(p3 r hr).1 w KS
   subst p2
   refine Calls.mono (h b off x.length cap gs w hlen hq.1 hq.2 p5) fun e w' hp=> ?_
   obtain⟨v',rfl,r1,_,r2⟩:=hp
   obtain⟨g,s1,s2,s3,s4,s5⟩:=uC (KS:=KS) r1 gs hlen rfl (fun r hr=>(p3 r hr).1 w' KS) (fun r hr=>(p3 r hr).2)
   refine⟨⟨.list true te,g⟩,by rw[s1];rfl, ?_,s3,s4,s5,mh.below r2⟩
   show [(⟨.list true te,x⟩:eh)]=[⟨.list true te,g.rows.map (er te)⟩]
   rw[s2,p1]
  rcases k3 with hnil'|⟨a,rows,ra,rs,rk,rst,rr⟩
  ·cases ad with
   |none=>
    refine Calls.mono (hnil x.length cap w) fun e w' hp=> ?_
    obtain⟨rfl,rfl⟩:=hp
    refine⟨⟨.list true te,(⟨none,0,[]⟩:ck te.G)⟩,rfl, ?_,.inl ⟨rfl,rfl⟩,List.nodup_nil,(fun b hb=>by cases hb),mh.refl _⟩
    show [(⟨.list true te,x⟩:eh)]=[⟨.list true te,[]⟩]
    rw[hnil']
   |some a=>
    rw[hnil']
    refine Calls.mono (hzero a cap w) fun e w' hp=> ?_
    obtain⟨v',rfl,r1,_,r2⟩:=hp
    obtain⟨g,s1,s2,s3,s4,s5⟩:=uC (te:=te) (KS:=KS) r1 [] rfl rfl (fun r hr=>by cases hr) (fun r hr=>by cases hr)
    refine⟨⟨.list true te,g⟩,by rw[s1];rfl, ?_,s3,s4,s5,mh.below r2⟩
    show [(⟨.list true te,[]⟩:eh)]=[⟨.list true te,g.rows.map (er te)⟩]
    rw[s2];rfl
  ·subst ra
   obtain⟨ab,ao,asp⟩:=a
   simp only at rs
   subst rs
   obtain⟨gs,p1,p2,p3,p4⟩:=G0 hte rr
   exact fin rows gs ab ao p1 p2 p3 p4 (fun j u hj=>rst j u hj)
 ·cases hz'
theorem Et(k:IntKind):∀gs:List Int,gs.flatMap (cl (.int k))=gs.map (Value.int k)
 |[]=>rfl
 |a::l=>by rw[List.flatMap_cons,Et k l];rfl
theorem rh:∀gs:List ByteArray,gs.flatMap (cl .str)=gs.map Value.string
 |[]=>rfl
 |a::l=>by rw[List.flatMap_cons,rh l];rfl
abbrev pJ:List Int→Option (List Int):=lg (.int .i64) 8
abbrev lb:List ByteArray→Option (List ByteArray):=lg .str 16
theorem Ol{P:Program}{τ:dM}{f:Nat}{fn:Func}{c:Code}{e:TypeId}(hf:P.funcs[f]? =some fn)(hn:(fn.name== "runtime.NumGoroutine")=false)(hc:fn.body=some c)
  (h:∀(b off n c:Nat) (zs:List Int) (w:World),n≤zs.length→n*8≤140737488355328→(∀j,j<zs.length→w.cell? ⟨b,off+j,none⟩=some (.int .i64 (zs.getD j 0)))→
   Calls P f #[.slice (some ⟨b,off,none⟩) n c] w fun x w'=>∃v',x= .returned v'∧w'.ownsRow w.heap.size e 1 v' n ((zs.take n).map (Value.int .i64))∧v'≠ .slice none 0 0∧RowKit.Below w.heap.size w w')
  (hnil:∀(n c:Nat) (w:World),Calls P f #[.slice none n c] w fun x w'=>x= .returned (.slice none 0 0)∧w'=w)
  (hzero:∀(a:Addr) (c:Nat) (w:World),Calls P f #[.slice (some a) 0 c] w fun x w'=>∃v',x= .returned v'∧w'.ownsRow w.heap.size e 1 v' 0 []∧v'≠ .slice none 0 0∧RowKit.Below w.heap.size w w'):
  ln P τ f ⟨[.val (.list false (.int .i64))],[.list true (.int .i64)],none⟩ pJ:=by
 refine zl (te:= .int .i64) (bytes:=8) (e:=e) rfl hf hn hc (fun b off n c gs w h1 h2 h3 h4=> ?_) hnil hzero
 have h4':∀j,j<(gs:List Int).length→w.cell? ⟨b,off+j,none⟩=some (.int .i64 ((gs:List Int).getD j 0)):=fun j hj=>by
  refine h4 j _ ?_
  rw[Et .i64 gs,List.getElem?_map,List.getElem?_eq_getElem hj]
  simp[List.getD,hj]
 have:=h b off n c gs w (Nat.le_of_eq h1.symm) h3 h4'
 rw[←h1,List.take_length,←Et .i64 gs]at this
 rw[←h1]
 exact this
theorem L8{P:Program}{τ:dM}{f:Nat}{fn:Func}{c:Code}{e:TypeId}(hf:P.funcs[f]? =some fn)(hn:(fn.name== "runtime.NumGoroutine")=false)(hc:fn.body=some c)
  (h:∀(b off n c:Nat) (zs:List ByteArray) (w:World),n≤zs.length→n*16≤140737488355328→(∀j,j<zs.length→w.cell? ⟨b,off+j,none⟩=some (.string (zs.getD j ByteArray.empty)))→
   Calls P f #[.slice (some ⟨b,off,none⟩) n c] w fun x w'=>∃v',x= .returned v'∧w'.ownsRow w.heap.size e 1 v' n ((zs.take n).map Value.string)∧v'≠ .slice none 0 0∧RowKit.Below w.heap.size w w')
  (hnil:∀(n c:Nat) (w:World),Calls P f #[.slice none n c] w fun x w'=>x= .returned (.slice none 0 0)∧w'=w)
  (hzero:∀(a:Addr) (c:Nat) (w:World),Calls P f #[.slice (some a) 0 c] w fun x w'=>∃v',x= .returned v'∧w'.ownsRow w.heap.size e 1 v' 0 []∧v'≠ .slice none 0 0∧RowKit.Below w.heap.size w w'):
  ln P τ f ⟨[.val (.list false .str)],[.list true .str],none⟩ lb:=by
 refine zl (te:= .str) (bytes:=16) (e:=e) rfl hf hn hc (fun b off n c gs w h1 h2 h3 h4=> ?_) hnil hzero
 have h4':∀j,j<(gs:List ByteArray).length→w.cell? ⟨b,off+j,none⟩=some (.string ((gs:List ByteArray).getD j ByteArray.empty)):=fun j hj=>by
  refine h4 j _ ?_
  rw[rh gs,List.getElem?_map,List.getElem?_eq_getElem hj]
  simp[List.getD,hj]
 have:=h b off n c gs w (Nat.le_of_eq h1.symm) h3 h4'
 rw[←h1,List.take_length,←rh gs]at this
 rw[←h1]
 exact this
def cT(x:List ByteArray×Int):Option (List ByteArray):=
 match x.1 with
 |[z]=>if 1≤x.2∧x.2≤1000 then some (List.replicate x.2.toNat z)else none
 |_=>none
theorem PO{P:Program}{τ:dM}{f:Nat}{fn:Func}{c:Code}{te:TypeId}(hf:P.funcs[f]? =some fn)(hn:(fn.name== "runtime.NumGoroutine")=false)(hc:fn.body=some c)
  (h:∀(b off c n:Nat) (z:ByteArray) (w:World),w.cell? ⟨b,off,none⟩=some (.string z)→b<w.heap.size→1≤n→n≤1000→
   Calls P f #[.slice (some ⟨b,off,none⟩) 1 c,.int .i64 n] w fun e w'=>e= .returned (.slice (some ⟨w.heap.size,0,none⟩) n n)∧w'.heap[w.heap.size]? =some (.cells (List.replicate n (Value.string z)).toArray te (0,0))∧RowKit.Below w.heap.size w w'):
  ln P τ f ⟨[.val (.list false .str),.val (.int .i64)],[.list true .str],none⟩ cT:=by
 refine H9 hf hn hc rfl fun{w KS gs x z} hx hz hok hKS _=> ?_
 obtain⟨y1,y2,rfl,h1,h2⟩:=ES hx
 obtain⟨g1,rfl,e1⟩:=oR h1
 obtain⟨g2,rfl,e2⟩:=oR h2
 have hz':cT x=some z:=hz
 have e1':(g1:DJ ByteArray).l=x.1:=e1
 have e2':(g2:Int)=x.2:=e2
 unfold cT at hz'
 split at hz'
 ·rename_i v hv
  split at hz'
  ·rename_i hq
   injection hz' with hz'
   subst hz'
   have hk:cg w KS (.list false .str) (g1:DJ ByteArray).l [.slice (g1:DJ ByteArray).ad (g1:DJ ByteArray).l.length (g1:DJ ByteArray).cap]:=hok _ (List.mem_cons_self ..)
   obtain⟨ad,cap,k1,k2,k3⟩:=hk
   show Calls P f #[.slice (g1:DJ ByteArray).ad (g1:DJ ByteArray).l.length (g1:DJ ByteArray).cap,.int .i64 g2] w _
   simp only[List.cons.injEq,and_true,Value.slice.injEq]at k1
   obtain⟨ka,_,kc⟩:=k1
   rw[e1',hv]at k2 k3
   rw[e1',hv,e2',ka,kc]
   rcases k3 with hnil|⟨a,rows,ra,rs,rk,rst,rr⟩
   ·cases hnil
   ·subst ra
    obtain⟨ab,ao,asp⟩:=a
    simp only at rs
    subst rs
    obtain⟨m,hm⟩:∃m:Int,x.2=m:=⟨_,rfl⟩
    rw[hm]at hq ⊢
    have q1:(1:Int)≤m:=hq.1
    have q2:m≤(1000:Int):=hq.2
    obtain⟨n,rfl⟩:∃n:Nat,m=(n:Int):=⟨m.toNat,by omega⟩
    have hcell:w.cell? ⟨ab,ao,none⟩=some (.string v):=by
     have:=rst 0 (.string v) (by rw[EZ rr];rfl)
     simpa using this
    refine Calls.mono (h ab ao cap n v w hcell (hKS _ rk) (by omega) (by omega)) fun e w' hp=> ?_
    obtain⟨p1,p2,p3⟩:=hp
    have row:w'.ownsRow w.heap.size te 1 (.slice (some ⟨w.heap.size,0,none⟩) n n) n (List.replicate n (Value.string v)):=by
     refine⟨by simp,.inr ⟨w.heap.size,n,_,rfl,Nat.le_refl _,p2, ?_, ?_, ?_, ?_⟩⟩
     ·exact Nat.le_refl _
     ·unfold maxLen;omega
     ·simp
     ·simp
    obtain⟨g,s1,s2,s3,s4,s5⟩:=uC (te:= .str) (KS:=KS) row (List.replicate n v) (by simp) (by simp[cl,List.flatMap]) (fun r _=>trivial) (fun r _=>rfl)
    refine⟨⟨.list true .str,g⟩,by rw[p1,s1];rfl, ?_,s3,s4,s5,mh.below p3⟩
    have hd:er (.list true .str) g=List.replicate n v:=by
     show g.rows.map (er .str)=_
     rw[s2];exact List.map_id' _
    show _=[(⟨.list true .str,er (.list true .str) g⟩:eh)]
    rw[hd]
    rfl
  ·cases hz'
 ·cases hz'
end
section
def td(l:List ByteArray):List (List UInt8):=(l.map fun s=>s.data.toList).mergeSort fun x y=>decide (x≤y)
def jg(l:List ByteArray):List ByteArray:=(td l).map fun s=>⟨s.toArray⟩
def bA(x:List ByteArray):Option (List ByteArray):=if x.length<4611686018427387904 then some (jg x)else none
theorem iF(l:List ByteArray):(jg l).length=l.length:=by simp[jg,td]
theorem NW{w:World}{os:Array Obj}{b:Nat}(h:b<w.heap.size):(Sort.grow w os).heap[b]? =w.heap[b]? :=by
 show(w.heap++os)[b]? =_
 rw[Array.getElem?_append_left h]
theorem Nj{P:Program}{τ:dM}{f:Nat}{fn:Func}{c:Code}(hf:P.funcs[f]? =some fn)(hn:(fn.name== "runtime.NumGoroutine")=false)(hc:fn.body=some c)
  (h:∀(bj off cap:Nat) (ss:List (List UInt8)) (w:World),Sort.Holds Proofs.encStr w bj off ss.toArray→bj<w.heap.size→ss.length<4611686018427387904→
   Calls P f #[.slice (some ⟨bj,off,none⟩) ss.length cap] w fun e w'=>e= .returned (.tuple #[])∧∃n os,w'=Sort.grow (Sort.putRow Proofs.encStr (Sort.ahead w n) bj off (ss.mergeSort fun x y=>decide (x≤y)).toArray) os)
  (h0:∀(p:Option Addr) (cap:Nat) (w:World),Calls P f #[.slice p 0 cap] w fun e w'=>e= .returned (.tuple #[])∧w'=w):
  ln P τ f ⟨[],[],some (false,.list true .str)⟩ bA:=by
 intro w KS gs A (x:List ByteArray) (z:List ByteArray) _ hx hz hok hnd hfp hKS _ hT _
 obtain⟨y,rfl,hy⟩:=I8 (show [(⟨.list true .str,x⟩:eh)]=gs.map SG.d from hx)
 obtain⟨g,rfl,hg⟩:=oR hy
 have hz':bA x=some z:=hz
 unfold bA at hz'
 split at hz'
 case isFalse=>cases hz'
 case isTrue hlen=>
 injection hz' with hz'
 have hgx:(g:ck ByteArray).rows=x:=by
  have:(g:ck ByteArray).rows.map (fun s=>s)=x:=hg
  simpa using this
 rw[lJ rfl]
 have hrun:(callFunc f (([⟨.list true .str,g⟩]:List SG).map SG.v).toArray).run P w= .ok (.enter f (([⟨.list true .str,g⟩]:List SG).map SG.v).toArray) w:=by
  unfold callFunc
  rw[Sem.run_bind]
  have h1:(program:Sem Program).run P w= .ok P w:=rfl
  rw[h1]
  simp only[Result.andThen_ok,hf,hn,hc,Option.isNone_some,Bool.false_eq_true,if_false,Sem.run_pure]
 unfold cM
 rw[hrun]
 have hk:bM w KS (.list true .str) g:=hok _ (List.mem_cons_self ..)
 have hout:wg (bu.dQ ⟨[],[],some (false,.list true .str)⟩) z=[⟨.list true .str,z⟩]:=rfl
 rcases hk with⟨hc0,hr0⟩|⟨b,rest,had,hcp,hle,hB,hBl,hrows⟩
 ·have hx0:x=[]:=by rw[←hgx];exact hr0
  have hz0:z=[]:=by rw[←hz',hx0];simp[jg,td]
  show Calls P f #[.slice (g:ck ByteArray).ad (g:ck ByteArray).rows.length (g:ck ByteArray).cap] w _
  rw[show(g:ck ByteArray).rows.length=0 by rw[hgx,hx0];rfl]
  refine Calls.mono (h0 _ _ w) fun e w' hp=> ?_
  obtain⟨rfl,rfl⟩:=hp
  refine⟨.tuple #[],rfl,KS,[],[⟨.list true .str,g⟩],fun b hb=>hb,rfl,⟨?_,rfl⟩, ?_,hnd, ?_,fun b hb=> .inl hb,dH.refl _,fun b _ _ _=> .of rfl,fun hh=>(nomatch hh), ?_⟩
  ·rw[hout,hz0]
   show [(⟨.list true .str,(g:ck ByteArray).rows.map (er .str)⟩:eh)]=_
   rw[show(g:ck ByteArray).rows=[]by rw[hgx,hx0]]
   rfl
  ·intro u hu
   exact hok u hu
  ·intro b hb
   exact⟨(hfp b hb).2,.inr hb⟩
  ·intro _ u hu v hv
   simp only[List.mem_singleton]at hu
   subst hu
   simp only[List.head?_cons,Option.mem_def,Option.some.injEq]at hv
   subst hv;rfl
 ·have hcell:(g:ck ByteArray).rows.flatMap (cl .str)=x.map Value.string:=by rw[hgx];exact rh x
  rw[hcell]at hB hBl
  obtain⟨⟨e,hsh⟩,hra,hfr⟩:=hB
  have hfpb:∀b',b'∈(([⟨.list true .str,g⟩]:List SG).flatMap SG.fp)↔b'=b:=by
   intro b'
   have:(([⟨.list true .str,g⟩]:List SG).flatMap SG.fp)=[b]:=by
    simp only[List.flatMap_cons,List.flatMap_nil,List.append_nil]
    show fp (.list true .str) g=_
    simp only[fp,had,if_neg (by omega:¬(g:ck ByteArray).cap=0)]
    exact congrArg (b:: ·) (List.flatMap_eq_nil_iff.2 fun _ _=>rfl)
   rw[this,List.mem_singleton]
  have hbs:=hfp b ((hfpb b).2 rfl)
  obtain⟨cs,fr,hcs,hcsl⟩:∃cs fr,w.heap[b]? =some (.cells cs e fr)∧cs.size=(x.map Value.string++rest).length:=by
   unfold World.shape? at hsh
   split at hsh
   ·rename_i cs' e' fr' hh
    simp only[Option.some.injEq,Prod.mk.injEq]at hsh
    obtain⟨rfl,h2⟩:=hsh
    exact⟨_,_,hh,h2⟩
   ·cases hsh
  show Calls P f #[.slice (g:ck ByteArray).ad (g:ck ByteArray).rows.length (g:ck ByteArray).cap] w _
  rw[had,hgx]
  have hH:Sort.Holds Proofs.encStr w b 0 (x.map fun s=>s.data.toList).toArray:=by
   intro j hj
   have hj':j<x.length:=by simpa using hj
   refine⟨?_, ?_⟩
   ·refine hra j _ ?_
    rw[List.getElem?_append_left (by simpa using hj'),List.getElem?_map,List.getElem?_eq_getElem hj']
    simp[Proofs.encStr,hj']
   ·rw[Nat.zero_add]
    exact hfr j (by simp only[List.length_append,List.length_map];omega)
  have hlen':(x.map fun s=>s.data.toList).length=x.length:=by simp
  have hcall:=h b 0 (g:ck ByteArray).cap (x.map fun s=>s.data.toList) w hH hbs.1 (by rw[hlen'];exact hlen)
  rw[hlen']at hcall
  refine Calls.mono hcall fun ee w' hp=> ?_
  obtain⟨rfl,n,os,hw⟩:=hp
  have hd:((x.map fun s=>s.data.toList).mergeSort fun x y=>decide (x≤y))=td x:=rfl
  rw[hd]at hw
  have hsl:(td x).length=x.length:=by simp[td]
  have hw1:∀b',b'<w.heap.size→w'.heap[b']? =(Sort.putRow Proofs.encStr (Sort.ahead w n) b 0 (td x).toArray).heap[b']? :=fun b' hb'=>by
   rw[hw]
   exact NW (by rw[Sort.size_putRow];exact hb')
  have hne:∀b',b'<w.heap.size→b'≠b→w'.heap[b']? =w.heap[b']? :=fun b' hb' hn'=>by
   rw[hw1 b' hb']
   show(w.heap.modify b _)[b']? =_
   rw[Array.getElem?_modify,if_neg (Ne.symm hn')]
  have hbb:w'.heap[b]? =some (.cells (Sort.putCells Proofs.encStr 0 (td x).toArray cs) e fr):=by
   rw[hw1 b hbs.1]
   show(w.heap.modify b _)[b]? =_
   rw[Array.getElem?_modify,if_pos rfl,hcs]
   rfl
  have hH':Sort.Holds Proofs.encStr (Sort.ahead w n) b 0 (x.map fun s=>s.data.toList).toArray:=fun j hj=>by rw[Sort.cell?_ahead,Sort.frozen?_ahead];exact hH j hj
  have hH2:=Sort.holds_putRow Proofs.encStr (Sort.ahead w n) b 0 (x.map fun s=>s.data.toList).toArray (td x).toArray hH' (by simp[hsl])
  have hpc:∀j,w'.cell? ⟨b,j,none⟩=(Sort.putRow Proofs.encStr (Sort.ahead w n) b 0 (td x).toArray).cell? ⟨b,j,none⟩:=fun j=>by
   simp only[World.cell?,hw1 b hbs.1]
  have hzl:z=jg x:=hz'.symm
  let g2:ck ByteArray:=⟨some ⟨b,0,none⟩,(g:ck ByteArray).cap,jg x⟩
  have hg2:bM w' KS (.list true .str) g2:=by
   refine .inr ⟨b,rest,rfl,hcp, ?_, ?_, ?_, ?_⟩
   ·show(jg x).length≤_
    rw[iF,←hgx];exact hle
   ·show Block w' b ((jg x).flatMap (cl .str)++rest)
    rw[rh (jg x)]
    refine⟨⟨e, ?_⟩, ?_, ?_⟩
    ·simp only[World.shape?,hbb,Sort.putCells,Array.size_mapIdx,hcsl,List.length_append,List.length_map,iF]
    ·intro j v hv
     rw[Nat.zero_add,hpc]
     by_cases hj:j<x.length
     ·rw[List.getElem?_append_left (by rw[List.length_map,iF];exact hj)]at hv
      have:=(hH2 j (by simp only[List.size_toArray,hsl];exact hj)).1
      rw[Nat.zero_add]at this
      rw[this,←hv]
      have hj2:j<(td x).length:=by rw[hsl];exact hj
      simp[jg,Proofs.encStr,hj2]
     ·rw[Sort.cell?_putRow_other]
      ·rw[Sort.cell?_ahead]
       have hv2:(x.map Value.string++rest)[j]? =some v:=by
        rw[List.getElem?_append_right (by simp only[List.length_map];omega)]
        rw[List.getElem?_append_right (by simp only[List.length_map,iF];omega)]at hv
        simpa[iF]using hv
       have:=hra j v hv2
       rwa[Nat.zero_add]at this
      ·right;right
       simp only[List.size_toArray,hsl];omega
    ·intro j hj
     have:=hfr j (by simpa[iF]using hj)
     simp only[World.frozen?,hbb,hcs]at this ⊢
     exact this
   ·show((jg x).flatMap (cl .str)++rest).length=_
    rw[rh (jg x)]
    simpa[iF]using hBl
   ·intro r _;trivial
  have hfp2:([⟨.list true .str,g2⟩]:List SG).flatMap SG.fp=[b]:=by
   simp only[List.flatMap_cons,List.flatMap_nil,List.append_nil]
   show fp (.list true .str) g2=_
   simp only[fp,g2,if_neg (by omega:¬(g:ck ByteArray).cap=0)]
   exact congrArg (b:: ·) (List.flatMap_eq_nil_iff.2 fun _ _=>rfl)
  refine⟨.tuple #[],rfl,KS,[],[⟨.list true .str,g2⟩],fun b hb=>hb,rfl,⟨?_,rfl⟩, ?_, ?_, ?_,fun b hb=> .inl hb,⟨?_, ?_, ?_⟩, ?_,fun hh=>(nomatch hh), ?_⟩
  ·rw[hout,hzl]
   show [(⟨.list true .str,(jg x).map (fun s=>s)⟩:eh)]=_
   rw[List.map_id']
  ·intro u hu
   simp only[List.nil_append,List.mem_singleton]at hu
   subst hu;exact hg2
  ·rw[List.nil_append,hfp2];simp
  ·intro b' hb'
   rw[List.nil_append,hfp2,List.mem_singleton]at hb'
   subst hb'
   exact⟨hbs.2,.inr ((hfpb _).2 rfl)⟩
  ·rw[hw]
   show w.heap.size≤((Sort.putRow Proofs.encStr (Sort.ahead w n) b 0 (td x).toArray).heap++os).size
   rw[Array.size_append,Sort.size_putRow]
   exact Nat.le_add_right _ _
  ·rw[hw];rfl
  ·rw[hw];rfl
  ·intro b' hb' hn' _
   exact .of (hne b' hb' fun hh=>hn' ((hfpb b').2 hh))
  ·intro _ u hu v hv
   simp only[List.mem_singleton]at hu
   subst hu
   simp only[List.head?_cons,Option.mem_def,Option.some.injEq]at hv
   subst hv
   show [Value.slice (some ⟨b,0,none⟩) (jg x).length _]=[Value.slice (g:ck ByteArray).ad (g:ck ByteArray).rows.length _]
   rw[had,hgx,iF]
end
section
def gM(m:Int)(i:Nat):Bool:=decide ((m / 2 ^(10-i)) % 2=0)
def o7(m:Int):Nat→List Int
 |0=>[115,116,114,119,120,114,119,120,114,119,120]
 |i+1=>if gM m i then(o7 m i).set i 45 else o7 m i
theorem j7(m:Int):∀i,(o7 m i).length=11
 |0=>rfl
 |i+1=>by
  rw[o7];split
  ·rw[List.length_set];exact j7 m i
  ·exact j7 m i
def qF(m:Int):ByteArray:=if 0≤m∧m≤2047 then ofBytes (o7 m 11)else⟨#[]⟩
def cR(x:Int):Option ByteArray:=if-9223372036854775808≤x∧x≤9223372036854775807 then some (qF x)else none
theorem DA{P:Program}{τ:dM}{f:Nat}{fn:Func}{c:Code}(hf:P.funcs[f]? =some fn)(hn:(fn.name== "runtime.NumGoroutine")=false)(hc:fn.body=some c)
  (h:∀(n:Int),-9223372036854775808≤n→n≤9223372036854775807→∀w:World,Calls P f #[.int .i64 n] w fun e w'=>e= .returned (.string (qF n))∧RowKit.Below w.heap.size w w'):
  ln P τ f ⟨[.val (.int .i64)],[.str],none⟩ cR:=by
 refine rG hf hn hc rfl fun{w KS gs x z} hx hz _ _ _=> ?_
 obtain⟨y1,rfl,h1⟩:=I8 hx
 obtain⟨g1,rfl,e1⟩:=oR h1
 have hz':cR x=some z:=hz
 unfold cR at hz'
 split at hz'
 ·rename_i hq
  injection hz' with hz'
  subst hz'
  refine⟨⟨.str,_⟩,rfl,rfl,fun _ _=>trivial, ?_⟩
  have e1':(g1:Int)=x:=e1
  show Calls P f #[.int .i64 g1] w _
  rw[e1']
  refine Calls.mono (h x hq.1 hq.2 w) fun e w' hp=>⟨?_,mh.below hp.2⟩
  rw[hp.1];rfl
 ·cases hz'
end
section
section
variable {D R:Type}
theorem ax.lift{f:Nat→Option R}{r:R}(h:Ev f r):ax (fun k (self:D→Option R)=>f k) (fun _=>some r):=by
 obtain⟨N,h⟩:=h
 exact⟨N,fun k hk=>by funext self;exact h k hk⟩
theorem cZ.ex{L:Nat→(D→Option R)→D→Option R}(Inv:D→Prop)(Q:R→Prop)(m:D→Nat)
  (h:∀d,Inv d→(∃r,ax (fun k (self:D→Option R)=>L k self d) (fun _=>some r)∧Q r)∨∃d',Inv d'∧m d'<m d∧wK L d d') {d:D} (hd:Inv d):∃r,cZ L d r∧Q r:=by
 have key:∀n d,m d≤n→Inv d→∃r,cZ L d r∧Q r:=by
  intro n
  induction n with
  |zero=>
   intro d hm hd
   rcases h d hd with⟨r,h1,h2⟩|⟨d',h1,h2,h3⟩
   ·exact⟨r,cZ.stop h1,h2⟩
   ·omega
  |succ n ih=>
   intro d hm hd
   rcases h d hd with⟨r,h1,h2⟩|⟨d',h1,h2,h3⟩
   ·exact⟨r,cZ.stop h1,h2⟩
   ·obtain⟨r,h4,h5⟩:=ih d' (by omega) h1
    exact⟨r,cZ.step h3 h4,h5⟩
 exact key (m d) d (Nat.le_refl _) hd
end
theorem N3(s:ByteArray)(i:Nat):s[i]? =s.data.toList[i]? :=by
 by_cases h:i<s.size
 ·rw[getElem?_pos s i h,ByteArray.getElem_eq_getElem_data]
  rw[Array.getElem?_toList]
  exact(Array.getElem?_eq_getElem _).symm
 ·rw[getElem?_neg s i h,Array.getElem?_toList]
  exact(Array.getElem?_eq_none (by rw[ByteArray.size_data];omega)).symm
theorem uG(s:ByteArray):s.data.toList.length=s.size:=by rw[Array.length_toList,ByteArray.size_data]
theorem Bd{a b:ByteArray}(h:a.data.toList=b.data.toList):a=b:=ByteArray.ext (Array.toList_inj.1 h)
theorem iL(l:List Int):(ofBytes l).data.toList=l.map fun n=>UInt8.ofNat n.toNat:=rfl
theorem cP(l:List Int):(ofBytes l).size=l.length:=by rw[←uG,iL,List.length_map]
theorem Ec(k:Nat)(h:k<9223372036854775808):IntKind.i64.wrap (k:Int)=k:=wrap_i64 (by omega) (by omega)
theorem SZ(x:Int):0≤intBits .and .i64 x 255∧intBits .and .i64 x 255≤255:=by
 have h:(BitVec.ofInt 64 x&&& BitVec.ofInt 64 255).toNat≤255:=by
  rw[BitVec.toNat_and]
  have h2:(BitVec.ofInt 64 255).toNat=255:=rfl
  rw[h2]
  exact Nat.and_le_right
 have:intBits .and .i64 x 255=IntKind.i64.wrap ((BitVec.ofInt 64 x&&& BitVec.ofInt 64 255).toNat:Nat):=rfl
 rw[this,Ec _ (by omega)]
 omega
theorem vZ(n:Nat)(h:n<18446744073709551616):(BitVec.ofInt 64 (n:Int)).toNat=n:=by
 rw[BitVec.toNat_ofInt]
 have:(n:Int) % ((2 ^ 64:Nat):Int)=n:=Int.emod_eq_of_lt (by omega) (by omega)
 rw[this,Int.toNat_natCast]
theorem PF(v b:Nat)(hv:v<1099511627776)(hb:b<256):intBits .or .i64 ((v*256:Nat):Int) (b:Int)=((v*256+b:Nat):Int):=by
 have h1:intBits .or .i64 ((v*256:Nat):Int) (b:Int)=IntKind.i64.wrap ((BitVec.ofInt 64 ((v*256:Nat):Int)|||BitVec.ofInt 64 (b:Int)).toNat:Nat):=rfl
 rw[h1,BitVec.toNat_or,vZ _ (by omega),vZ _ (by omega)]
 have h2:=Nat.two_pow_add_eq_or_of_lt (i:=8) (b:=b) (by omega) v
 rw[show v*256=2 ^ 8*v by omega,←h2,Ec _ (by omega)]
theorem SS{n:Int}(h:F8 (.int .i64) n): -9223372036854775808≤n∧n≤9223372036854775807:=by
 have h:(Lit.int .i64 n).wf=true:=h
 simp only[Lit.wf,Bool.and_eq_true,decide_eq_true_eq]at h
 exact h
theorem fZ{u:Nat}(h:u<10):Lib.decDigits u=[UInt8.ofNat (48+u)]:=by rw[Lib.decDigits,dif_pos h]
theorem pT{u:Nat}(h:¬u<10):Lib.decDigits u=Lib.decDigits (u / 10)++[UInt8.ofNat (48+u % 10)]:=by rw[Lib.decDigits,dif_neg h]
theorem me:∀(k u:Nat),u<10 ^(k+1)→(Lib.decDigits u).length≤k+1
 |k,u,h=>by
  by_cases hu:u<10
  ·rw[fZ hu];simp
  ·match k,h with
   |0,h=>omega
   |k+1,h=>
    rw[pT hu,List.length_append,List.length_singleton]
    have:=me k (u / 10) (by rw[Nat.pow_succ]at h;omega)
    omega
theorem OL{n:Int}(h0: -9223372036854775808≤n)(h1:n≤9223372036854775807):(Lib.itoa n).length≤21:=by
 unfold Lib.itoa
 split
 ·have:=me 19 n.natAbs (by omega)
  rw[List.length_cons];omega
 ·have:=me 19 n.toNat (by omega)
  omega
theorem lL{d:Nat}(h:d<10):aa .u8 (aa .i64 ((48:Int)+(d:Int)))=((48+d:Nat):Int):=by
 have:aa .i64 ((48:Int)+(d:Int))=48+d:=by rw[aa,wrap_i64 (by omega) (by omega)]
 rw[this,aa,wrap_u8 (by omega) (by omega)];omega
theorem lC(d:Nat):(ofBytes [((48+d:Nat):Int)]).data.toList=[UInt8.ofNat (48+d)]:=by
 rw[iL,List.map_cons,List.map_nil,Int.toNat_natCast]
theorem DZ(m:Nat):(m:Int).tdiv 10=((m / 10:Nat):Int):=(Int.ofNat_tdiv m 10).symm
theorem L9(m:Nat):(m:Int).tmod 10=((m % 10:Nat):Int):=(Int.ofNat_tmod m 10).symm
section
variable {α β D:Type}
def kB(e:α→Int→α×Int):List α→Int→List α×Int
 |[],m=>([],m)
 |x::l,m=>((e x m).1::(kB e l (e x m).2).1,(kB e l (e x m).2).2)
theorem Ji(e:α→Int→α×Int):∀(l:List α) (m:Int),(kB e l m).1.length=l.length
 |[],m=>rfl
 |x::l,m=>by simp only[kB,List.length_cons,Ji e l]
theorem JV{e:α→Int→α×Int}{c:α→Nat}{B:Int}:∀{l:List α} {m:Int},0≤m→m+((l.map c).sum:Nat)<B→(∀x∈l,∀m,0≤m→m+(c x:Int)<B→m≤(e x m).2∧(e x m).2≤m+c x)→
  m≤(kB e l m).2∧(kB e l m).2≤m+((l.map c).sum:Nat)
 |[],m,_,_,_=>⟨Int.le_refl _,by simp[kB]⟩
 |x::l,m,h0,hb,he=>by
  simp only[List.map_cons,List.sum_cons]at hb ⊢
  obtain⟨h1,h2⟩:=he x (by simp) m h0 (by omega)
  obtain⟨h3,h4⟩:= @JV e c B l (e x m).2 (by omega) (by omega) fun y hy=>he y (by simp[hy])
  simp only[kB]
  omega
theorem Sj{L:Nat→((Unit×(Int×(Int×List α)))→Option β)→(Unit×(Int×(Int×List α)))→Option β}(e:α→Int→α×Int)(c:α→Nat)(B:Int)(l0:List α)(m0:Int)(fin:Int→List α→β)
  (h0:0≤m0) (hb:m0+((l0.map c).sum:Nat)<B) (he:∀x∈l0,∀m,0≤m→m+(c x:Int)<B→m≤(e x m).2∧(e x m).2≤m+c x)
  (hs:∀(pre:List α) x (post:List α) (m:Int),x∈l0→0≤m→m+(c x:Int)<B→pre.length+(post.length+1)=l0.length→wK L ((),m,(pre.length:Int),pre++x::post) ((),(e x m).2,((pre.length+1:Nat):Int),pre++(e x m).1::post))
  (hf:∀(m:Int) (l:List α),l.length=l0.length→cZ L ((),m,(l0.length:Int),l) (fin m l)):cZ L ((),m0,(0:Int),l0) (fin (kB e l0 m0).2 (kB e l0 m0).1):=by
 have key:∀(post pre:List α) (m:Int),pre.length+post.length=l0.length→(∀x∈post,x∈l0)→0≤m→m+((post.map c).sum:Nat)<B→
   cZ L ((),m,(pre.length:Int),pre++post) (fin (kB e post m).2 (pre++(kB e post m).1)):=by
  intro post
  induction post with
  |nil=>
   intro pre m hl _ _ _
   simp only[List.length_nil,Nat.add_zero]at hl
   rw[hl]
   exact hf m (pre++[]) (by simpa using hl)
  |cons x post ih=>
   intro pre m hl hx hm hB
   simp only[List.length_cons]at hl
   simp only[List.map_cons,List.sum_cons]at hB
   obtain⟨h1,h2⟩:=he x (hx x (by simp)) m hm (by omega)
   refine cZ.step (hs pre x post m (hx x (by simp)) hm (by omega) hl) ?_
   have:=ih (pre++[(e x m).1]) (e x m).2 (by simp;omega) (fun y hy=>hx y (by simp[hy])) (by omega) (by omega)
   simp only[List.length_append,List.length_singleton,List.append_assoc,List.singleton_append]at this
   exact this
 have:=key l0 [] m0 (by simp) (fun x hx=>hx) h0 hb
 simpa using this
theorem Sc{L:Nat→(D→Option β)→D→Option β}(st:Int→Int→D)(e:α→Int→α×Int)(c:α→Nat)(B:Int)(l0:List α)(m0:Int){r:β}
  (h0:0≤m0) (hb:m0+((l0.map c).sum:Nat)<B) (he:∀x∈l0,∀m,0≤m→m+(c x:Int)<B→m≤(e x m).2∧(e x m).2≤m+c x)
  (hs:∀(i:Nat) x (m:Int),x∈l0→0≤m→m+(c x:Int)<B→i<l0.length→(kB e l0 m0).1[i]? =some (e x m).1→wK L (st m (i:Int)) (st (e x m).2 ((i+1:Nat):Int)))
  (hf:cZ L (st (kB e l0 m0).2 (l0.length:Int)) r):cZ L (st m0 (0:Int)) r:=by
 have key:∀(post pre:List α) (m:Int) (q:List α),pre.length+post.length=l0.length→(∀x∈post,x∈l0)→0≤m→m+((post.map c).sum:Nat)<B→(kB e l0 m0).1=q++(kB e post m).1→q.length=pre.length→(kB e l0 m0).2=(kB e post m).2→
   cZ L (st m (pre.length:Int)) r:=by
  intro post
  induction post with
  |nil=>
   intro pre m q hl _ _ _ _ _ h2
   simp only[List.length_nil,Nat.add_zero]at hl
   rw[h2,←hl]at hf
   exact hf
  |cons x post ih=>
   intro pre m q hl hx hm hB h1 hq h2
   simp only[List.length_cons]at hl
   simp only[List.map_cons,List.sum_cons]at hB
   obtain⟨k1,k2⟩:=he x (hx x (by simp)) m hm (by omega)
   simp only[kB]at h1 h2
   refine cZ.step (hs pre.length x m (hx x (by simp)) hm (by omega) (by omega) ?_) ?_
   ·rw[h1,List.getElem?_append_right (by omega),hq];simp
   ·have:=ih (pre++[x]) (e x m).2 (q++[(e x m).1]) (by simp;omega) (fun y hy=>hx y (by simp[hy])) (by omega) (by omega) (by rw[h1];simp) (by simp[hq]) h2
    simp only[List.length_append,List.length_singleton]at this
    exact this
 exact key l0 [] m0 [] (by simp) (fun x hx=>hx) h0 hb (by simp) rfl rfl
end
end
section
section
variable {S D R α σ β T:Type}
def ak(F:Nat→S→Option R)(G:(S→Option R)→Prop):Prop:=∃o,ax F o∧G o
theorem ak.const(o:S→Option R){G:(S→Option R)→Prop}(h:G o):ak (fun _=>o) G:=⟨o,ax.const o,h⟩
theorem ak.congr{F F':Nat→S→Option R}{G:(S→Option R)→Prop}(h:∀k s,F k s=F' k s)(hF:ak F' G):ak F G:=by
 obtain⟨o,h1,h2⟩:=hF
 exact⟨o,ax.congr (fun k=>funext (h k)) h1,h2⟩
theorem ak.bif{c:Bool}{F H:Nat→S→Option R}{G:(S→Option R)→Prop}(h1:c=true→ak F G)(h2:c=false→ak H G):ak (fun k s=>bif c then F k s else H k s) G:=by
 cases c
 ·exact h2 rfl
 ·exact h1 rfl
theorem ak.pE{p:Prop}[Decidable p]{F:Nat→S→Option R}{G:(S→Option R)→Prop}(hp:p)(h:ak F G):ak (fun k s=>if p then F k s else none) G:=by
 simp only[if_pos hp];exact h
theorem ak.get{o:Option α}{a:α}{g:Nat→S→α→Option R}{G:(S→Option R)→Prop}(h:o=some a)(hg:ak (fun k s=>g k s a) G):ak (fun k s=>o.bind (g k s)) G:=by
 simp only[h,Option.bind_some];exact hg
theorem ak.bind{f:Nat→Option α}{a:α}{g:Nat→S→α→Option R}{G:(S→Option R)→Prop}(h:Ev f a)(hg:ak (fun k s=>g k s a) G):ak (fun k s=>(f k).bind (g k s)) G:=by
 obtain⟨o,⟨M,hg⟩,hG⟩:=hg
 obtain⟨N,h⟩:=h
 refine⟨o,⟨N+M,fun k hk=> ?_⟩,hG⟩
 have:=hg k (by omega)
 simp only[h k (by omega),Option.bind_some]
 exact this
def dB(f:Nat→Option Bool)(P:Prop):Prop:=∃b,Ev f b∧(b=true↔P)
theorem dB.run{c F:Nat→Option Bool}{P:Prop}(h:∀k,c (k+1)=F k)(hF:dB F P):dB c P:=by
 obtain⟨b,h1,h2⟩:=hF
 exact⟨b,ax.run h h1,h2⟩
theorem dB.iff{f:Nat→Option Bool}{P Q:Prop}(h:dB f P)(e:P↔Q):dB f Q:=by
 obtain⟨b,h1,h2⟩:=h
 exact⟨b,h1,h2.trans e⟩
theorem dB.same{f g:Nat→Option Bool}{P:Prop}(h:dB f P)(h':dB g P):∃b,Ev f b∧Ev g b∧(b=true↔P):=by
 obtain⟨b,h1,h2⟩:=h
 obtain⟨b',h1',h2'⟩:=h'
 have:b'=b:=by
  cases b<;>cases b'<;>simp_all
 subst this
 exact⟨_,h1,h1',h2⟩
theorem ak.CB{f:Nat→Option Bool}{Q:Prop}{g:Nat→S→Bool→Option R}{G:(S→Option R)→Prop}(h:dB f Q)(hg:∀b,(b=true↔Q)→ak (fun k s=>g k s b) G):ak (fun k s=>(f k).bind (g k s)) G:=by
 obtain⟨b,h1,h2⟩:=h
 exact ak.bind h1 (hg b h2)
def GP(P:Prop)(o:S→Option Bool):Prop:=∃b:Bool,(∀s,o s=some b)∧(b=true↔P)
theorem GP.ret{P:Prop}{b:Bool}(h:b=true↔P):GP P (fun _:S=>some b):=⟨b,fun _=>rfl,h⟩
theorem GP.no{P:Prop}(h:¬P):GP P (fun _:S=>some false):=GP.ret (by simp[h])
theorem GP.yes{P:Prop}(h:P):GP P (fun _:S=>some true):=GP.ret ⟨fun _=>h,fun _=>rfl⟩
theorem dB.of{f:Nat→Option Bool}{P:Prop}(h:ak (fun k (_:Unit)=>f k) (GP P)):dB f P:=by
 obtain⟨o,⟨N,h1⟩,b,h2,h3⟩:=h
 exact⟨b,⟨N,fun k hk=>by have:=congrFun (h1 k hk) ();rw[h2]at this;exact this⟩,h3⟩
def GR(Q:R→Prop)(o:S→Option R):Prop:=∃r,(∀s,o s=some r)∧Q r
theorem GR.ret{Q:R→Prop}{r:R}(h:Q r):GR Q (fun _:S=>some r):=⟨r,fun _=>rfl,h⟩
theorem Ev.of{f:Nat→Option R}{Q:R→Prop}(h:ak (fun k (_:Unit)=>f k) (GR Q)):∃r,Ev f r∧Q r:=by
 obtain⟨o,⟨N,h1⟩,r,h2,h3⟩:=h
 exact⟨r,⟨N,fun k hk=>by have:=congrFun (h1 k hk) ();rw[h2]at this;exact this⟩,h3⟩
theorem Ev.eq{f:Nat→Option R}{r:R}(h:ak (fun k (_:Unit)=>f k) (GR fun x=>x=r)):Ev f r:=by
 obtain⟨x,h1,rfl⟩:=Ev.of h
 exact h1
theorem ak.Qf{f:Nat→Option R}{r:R}{G:(S→Option R)→Prop}(h:Ev f r)(hG:G fun _=>some r):ak (fun k (_:S)=>f k) G:=by
 obtain⟨N,h⟩:=h
 exact⟨fun _=>some r,⟨N,fun k hk=>funext fun _=>h k hk⟩,hG⟩
theorem ak.join{X:Nat→S→Option (T ⊕ R)}{g:Nat→S→T→Option R}{G:(S→Option R)→Prop}
  (h:ak X fun o=>(∃t,(∀s,o s=some (.inl t))∧ak (fun k s=>g k s t) G)∨∃b,(∀s,o s=some (.inr b))∧G fun _=>some b):ak (fun k s=>o4 (X k s) (g k s)) G:=by
 obtain⟨o,⟨N,h1⟩,h2⟩:=h
 rcases h2 with⟨t,h2,o',⟨M,h3⟩,h4⟩|⟨b,h2,h3⟩
 ·refine⟨o',⟨N+M,fun k hk=>funext fun s=> ?_⟩,h4⟩
  have e1:=congrFun (h1 k (by omega)) s
  have e2:=congrFun (h3 k (by omega)) s
  simp only[o4,e1,h2];exact e2
 ·refine⟨fun _=>some b,⟨N,fun k hk=>funext fun s=> ?_⟩,h3⟩
  have e1:=congrFun (h1 k (by omega)) s
  simp only[o4,e1,h2]
def GT(t:T)(Q:Prop)(G:(S→Option R)→Prop)(o:S→Option (T ⊕ R)):Prop:=((∀s,o s=some (.inl t))∧Q)∨∃b,(∀s,o s=some (.inr b))∧G fun _=>some b
theorem ak.jd{X:Nat→S→Option (T ⊕ R)}{g:Nat→S→T→Option R}{G:(S→Option R)→Prop}(t:T)(Q:Prop)
  (h:ak X (GT t Q G)) (hg:Q→ak (fun k s=>g k s t) G):ak (fun k s=>o4 (X k s) (g k s)) G:=by
 refine ak.join ?_
 obtain⟨o,h1,h2⟩:=h
 refine⟨o,h1,h2.imp (fun h=>⟨t,h.1,hg h.2⟩) id⟩
theorem GT.inl{G:(S→Option R)→Prop}{t:T}{Q:Prop}(h:Q):GT t Q G (fun _=>some (.inl t)):=Or.inl ⟨fun _=>rfl,h⟩
theorem GT.inr{G:(S→Option R)→Prop}{t:T}{Q:Prop}{b:R}(h:G fun _=>some b):GT t Q G (fun _=>some (.inr b)):=Or.inr ⟨b,fun _=>rfl,h⟩
def GL(mk:σ→Nat→D)(inv:σ→Nat→Prop)(i:Nat)(G:(S→Option R)→Prop)(o:(S×(D→Option R))→Option R):Prop:=
 (∃st,(∀p,o p=p.2 (mk st (i+1)))∧inv st (i+1))∨∃o',(∀p,o p=o' p.1)∧G o'
theorem GL.self{mk:σ→Nat→D}{inv:σ→Nat→Prop}{i:Nat}{G:(S→Option R)→Prop}{d:D}(st:σ)(hd:d=mk st (i+1))(h:inv st (i+1)):GL mk inv i G (fun p=>p.2 d):=by
 subst hd;exact .inl ⟨st,fun _=>rfl,h⟩
theorem GL.up{mk:σ→Nat→D}{inv:σ→Nat→Prop}{i:Nat}{G:(S→Option R)→Prop}(o':S→Option R)(h:G o'):GL mk inv i G (fun p=>o' p.1):= .inr ⟨o',fun _=>rfl,h⟩
theorem GL.ret{mk:σ→Nat→D}{inv:σ→Nat→Prop}{i:Nat}{G:(S→Option R)→Prop}{b:R}(h:G fun _=>some b):GL mk inv i G (fun _=>some b):= .inr ⟨fun _=>some b,fun _=>rfl,h⟩
def GE(G:(S→Option R)→Prop)(o:(S×(D→Option R))→Option R):Prop:=∃o',(∀p,o p=o' p.1)∧G o'
theorem GE.up{G:(S→Option R)→Prop}(o':S→Option R)(h:G o'):GE (D:=D) G (fun p=>o' p.1):=⟨o',fun _=>rfl,h⟩
theorem GE.ret{G:(S→Option R)→Prop}{b:R}(h:G fun _=>some b):GE (D:=D) G (fun _=>some b):=⟨fun _=>some b,fun _=>rfl,h⟩
theorem ak.out{F:Nat→S→Option R}{G:(S→Option R)→Prop}(h:ak F G):ak (fun k (p:S×(D→Option R))=>F k p.1) (GE G):=by
 obtain⟨o,⟨N,h1⟩,h2⟩:=h
 exact⟨fun p=>o p.1,⟨N,fun k hk=>funext fun p=>congrFun (h1 k hk) p.1⟩,o,fun _=>rfl,h2⟩
theorem ak.Tx{mk:σ→Nat→D}{inv:σ→Nat→Prop}{i:Nat}{F:Nat→S→Option R}{G:(S→Option R)→Prop}(h:ak F G):ak (fun k (p:S×(D→Option R))=>F k p.1) (GL mk inv i G):=by
 obtain⟨o,⟨N,h1⟩,h2⟩:=h
 exact⟨fun p=>o p.1,⟨N,fun k hk=>funext fun p=>congrFun (h1 k hk) p.1⟩,.inr ⟨o,fun _=>rfl,h2⟩⟩
theorem ak.upto{L:Nat→S→(D→Option R)→D→Option R}(n:Nat)(mk:σ→Nat→D)(inv:σ→Nat→Prop){G:(S→Option R)→Prop}
  (hs:∀st i,i<n→inv st i→ak (fun k (p:S×(D→Option R))=>L k p.1 p.2 (mk st i)) (GL mk inv i G))
  (he:∀st,inv st n→ak (fun k (p:S×(D→Option R))=>L k p.1 p.2 (mk st n)) (GE G)) (s0:σ) (i0:Nat) (hi:i0≤n) (h0:inv s0 i0):
  ak (fun k s=>iter k (L k s) (mk s0 i0)) G:=by
 have key:∀m i st,i+m=n→inv st i→∃o,(∃N,∀r k,N≤r→N≤k→∀s,iter r (L k s) (mk st i)=o s)∧G o:=by
  intro m
  induction m with
  |zero=>
   intro i st hi hv
   have:i=n:=by omega
   subst this
   obtain⟨o,⟨N,h1⟩,o',h2,h3⟩:=he st hv
   refine⟨o',⟨N+1,fun r k hr hk s=> ?_⟩,h3⟩
   obtain⟨m,rfl⟩:∃m,r=m+1:=⟨r-1,by omega⟩
   have:L k s (iter m (L k s)) (mk st i)=o (s,iter m (L k s)):=congrFun (h1 k (by omega)) (s,iter m (L k s))
   simp only[iter]
   rw[this,h2]
  |succ m ih=>
   intro i st hi hv
   obtain⟨o,⟨N,h1⟩,h2⟩:=hs st i (by omega) hv
   rcases h2 with⟨st',h2,h3⟩|⟨o',h2,h3⟩
   ·obtain⟨o',⟨M,h4⟩,h5⟩:=ih (i+1) st' (by omega) h3
    refine⟨o',⟨N+M+1,fun r k hr hk s=> ?_⟩,h5⟩
    obtain⟨m,rfl⟩:∃m,r=m+1:=⟨r-1,by omega⟩
    have:L k s (iter m (L k s)) (mk st i)=o (s,iter m (L k s)):=congrFun (h1 k (by omega)) (s,iter m (L k s))
    simp only[iter]
    rw[this,h2]
    exact h4 m k (by omega) (by omega) s
   ·refine⟨o',⟨N+1,fun r k hr hk s=> ?_⟩,h3⟩
    obtain⟨m,rfl⟩:∃m,r=m+1:=⟨r-1,by omega⟩
    have:L k s (iter m (L k s)) (mk st i)=o (s,iter m (L k s)):=congrFun (h1 k (by omega)) (s,iter m (L k s))
    simp only[iter]
    rw[this,h2]
 obtain⟨o,⟨N,h1⟩,h2⟩:=key (n-i0) i0 s0 (by omega) h0
 exact⟨o,⟨N,fun k hk=>funext fun s=>h1 k k hk hk s⟩,h2⟩
theorem ak.list{L:Nat→S→(D→Option R)→D→Option R}(l:List α)(mk:σ→Nat→D)(inv:σ→Nat→Prop){G:(S→Option R)→Prop}
  (hs:∀st i x,l[i]? =some x→i<l.length→inv st i→ak (fun k (p:S×(D→Option R))=>L k p.1 p.2 (mk st i)) (GL mk inv i G))
  (he:∀st,inv st l.length→ak (fun k (p:S×(D→Option R))=>L k p.1 p.2 (mk st l.length)) (GE G)) (s0:σ) (h0:inv s0 0):
  ak (fun k s=>iter k (L k s) (mk s0 0)) G:=
 ak.upto l.length mk inv (fun st i hi hv=>hs st i l[i] (List.getElem?_eq_getElem hi) hi hv) he s0 0 (Nat.zero_le _) h0
end
end
end Go.Eng

/- The engine, part 2: a symbolic interpreter of the model's programs and the proof that its runs are what the functions do; conditions: those that its theorems name. -/
import Derived.Test.YtkmnlefjlhogaaaEng1
set_option linter.unusedVariables false
set_option linter.unusedSimpArgs false
namespace Go.Eng
section
theorem heq_none{α β:Type}(h:α=β):HEq (fun(_ _:α)=>(none:Option Bool)) (fun(_ _:β)=>(none:Option Bool)):=by subst h;rfl
theorem heq_eqp{α β γ δ:Type}{f:α→α→Option Bool}{g:β→β→Option Bool}{f':γ→γ→Option Bool}{g':δ→δ→Option Bool}(h:α=γ)(h':β=δ)(hf:HEq f f')(hg:HEq g g'):
  HEq (fun(x y:α×β)=>match f x.1 y.1,g x.2 y.2 with|some p,some q=>some (p&&q)|_,_=>none) (fun(x y:γ×δ)=>match f' x.1 y.1,g' x.2 y.2 with|some p,some q=>some (p&&q)|_,_=>none):=by
 subst h;subst h';cases hf;cases hg;rfl
theorem eqD_same:∀{t t':Ty},t.same t'=true→HEq (eqD t) (eqD t'):=by
 intro t
 induction t with
 |unit=>intro b h;cases b<;>first|rfl|cases h
 |bool=>intro b h;cases b<;>first|rfl|cases h
 |str=>intro b h;cases b<;>first|rfl|cases h
 |int k=>
  intro b h
  cases b<;>first|(cases h;done)|rfl
 |list o t ih=>intro b h;cases b<;>first|cases h|exact heq_none (Ty.same_D (a:= .list o t) (b:= .list _ _) h)
 |ptr t ih=>intro b h;cases b<;>first|cases h|exact heq_none (Ty.same_D (a:= .ptr t) (b:= .ptr _) h)
 |pair x y ihx ihy=>
  intro b h
  cases b<;>first|cases h|skip
  simp only[Ty.same,Bool.and_eq_true]at h
  exact heq_eqp (Ty.same_D h.1) (Ty.same_D h.2) (ihx h.1) (ihy h.2)
 |arr n t ih=>intro b h;cases b<;>first|cases h|exact heq_none (Ty.same_D (a:= .arr n t) (b:= .arr _ _) h)
 |gone n=>intro b h;cases b<;>first|cases h|exact heq_none (Ty.same_D (a:= .gone n) (b:= .gone _) h)
 |ti=>
  intro b h
  cases b<;>first|(cases h;done)|rfl
theorem heq_cast2{α β:Type}{γ:Type}{f:α→α→γ}{g:β→β→γ}(h:α=β)(hf:HEq f g)(x y:α):g (cast h x) (cast h y)=f x y:=by
 subst h;cases hf;rfl
section
variable {P:Program} {E:Env} {c:Ctx} {KS:Nat→Prop} {e:GEnv} {F:Fs} {ρ:Roots} {w:World}
theorem eqFields_ok(hE:EnvOK P E)(d:Nat)
  (IH:∀tid u,TyR P tid u→eqPlain P d tid=true→∀(x y:u.D) (c1 c2:List Value),RepK w KS u x c1→RepK w KS u y c2→∀n,d≤n→∃r,eqD u x y=some r∧(Op.equalIn n tid (val u c1) (val u c2)).run P w= .ok r w):
  ∀(fs:List Field) (off:Nat) (u:Ty),FldR P fs off u→(fs.all fun f=>f.name != "_" &&eqPlain P d f.type)=true→∀(x y:u.D) (c1 c2 pre1 pre2:List Value),RepK w KS u x c1→RepK w KS u y c2→pre1.length=off→pre2.length=off→∀n,d≤n→
  ∃r,eqD u x y=some r∧(Op.eqFields n (pre1++c1).toArray (pre2++c2).toArray fs).run P w= .ok r w
 |[],off,u,h,ha,x,y,c1,c2,pre1,pre2,h1,h2,hp1,hp2,n,hn=>by cases h
 |[f],off,u,h,ha,x,y,c1,c2,pre1,pre2,h1,h2,hp1,hp2,n,hn=>by
  cases h with
  |one q1 q2=>
   simp only[List.all_cons,List.all_nil,Bool.and_true,Bool.and_eq_true]at ha
   obtain⟨r,e1,e2⟩:=IH _ _ q2 ha.2 x y c1 c2 h1 h2 n hn
   refine⟨r,e1, ?_⟩
   have hne:f.name≠ "_" :=by simpa using ha.1
   have l1:(part f.type (pre1++c1).toArray f.offset).run P w= .ok (val u c1) w:=by
    have:=run_part (w:=w) q2 (pre:=pre1) (post:=[]) (repK_len _ _ _ h1)
    rw[List.append_nil,hp1,←q1]at this;exact this
   have l2:(part f.type (pre2++c2).toArray f.offset).run P w= .ok (val u c2) w:=by
    have:=run_part (w:=w) q2 (pre:=pre2) (post:=[]) (repK_len _ _ _ h2)
    rw[List.append_nil,hp2,←q1]at this;exact this
   simp only[Op.eqFields,hne,ne_eq,not_false_eq_true,if_true,Sem.run_bind,l1,l2,e2,Result.andThen_ok]
   cases r<;>simp[]
 |f::f2::fs,off,u,h,ha,x,y,c1,c2,pre1,pre2,h1,h2,hp1,hp2,n,hn=>by
  cases h with
  |cons q1 q2 q3=>
   rename_i a b
   simp only[List.all_cons,Bool.and_eq_true]at ha
   obtain⟨a1,a2,rfl,m1,m2⟩:=h1
   obtain⟨b1,b2,rfl,n1,n2⟩:=h2
   obtain⟨r,e1,e2⟩:=IH _ _ q2 ha.1.2 x.1 y.1 a1 b1 m1 n1 n hn
   have hne:f.name≠ "_" :=by simpa using ha.1.1
   obtain⟨r',e1',e2'⟩:=eqFields_ok hE d IH (f2::fs) _ b q3 (by simp only[List.all_cons,Bool.and_eq_true];exact ha.2) x.2 y.2 a2 b2 (pre1++a1) (pre2++b1) m2 n2 (by simp[hp1,repK_len _ _ _ m1]) (by simp[hp2,repK_len _ _ _ n1]) n hn
   have l1:(part f.type (pre1++(a1++a2)).toArray f.offset).run P w= .ok (val a a1) w:=by
    have:=run_part (w:=w) q2 (pre:=pre1) (mid:=a1) (post:=a2) (repK_len _ _ _ m1)
    rw[List.append_assoc,hp1,←q1]at this;exact this
   have l2:(part f.type (pre2++(b1++b2)).toArray f.offset).run P w= .ok (val a b1) w:=by
    have:=run_part (w:=w) q2 (pre:=pre2) (mid:=b1) (post:=b2) (repK_len _ _ _ n1)
    rw[List.append_assoc,hp2,←q1]at this;exact this
   refine⟨r&&r',by simp only[eqD,e1,e1'], ?_⟩
   rw[List.append_assoc,List.append_assoc]at e2'
   rw[Op.eqFields,if_pos hne]
   simp only[Sem.run_bind,l1,l2,e2,Result.andThen_ok]
   cases r with
   |false=>simp
   |true=>simpa using e2'
theorem equalIn_ok(hE:EnvOK P E):∀(d:Nat) (tid:TypeId) (u:Ty),TyR P tid u→eqPlain P d tid=true→∀(x y:u.D) (c1 c2:List Value),RepK w KS u x c1→RepK w KS u y c2→∀n,d≤n→∃r,eqD u x y=some r∧(Op.equalIn n tid (val u c1) (val u c2)).run P w= .ok r w
 |0,tid,u,hu,hp,x,y,c1,c2,h1,h2,n,hn=>by cases hp
 |d+1,tid,u,hu,hp,x,y,c1,c2,h1,h2,n,hn=>by
  obtain⟨n,rfl⟩:∃m,n=m+1:=⟨n-1,by omega⟩
  obtain⟨dd,hf⟩:=hu.fact
  have hund:=hf.und
  simp only[eqPlain,hund]at hp
  cases hu with
  |int hf2=>
   have h1':c1=[.int _ x]:=h1
   have h2':c2=[.int _ y]:=h2
   subst h1' h2'
   exact⟨_,rfl,run_equalIn_int w n tid _ _ x y hf2.und⟩
  |bool hf2=>
   have h1':c1=[.bool x]:=h1
   have h2':c2=[.bool y]:=h2
   subst h1' h2'
   exact⟨_,rfl,run_equalIn_bool w n tid x y hf2.und⟩
  |str hf2=>
   have h1':c1=[.string x]:=h1
   have h2':c2=[.string y]:=h2
   subst h1' h2'
   refine⟨_,rfl, ?_⟩
   have:=run_equalIn_string w n tid x y hf2.und
   rw[str_eq]at this
   exact this
  |list hf2 _=>rw[hf2.und]at hund;cases hund;cases hp
  |ptr hf2 _=>rw[hf2.und]at hund;cases hund;cases hp
  |arr hf2 _=>rw[hf2.und]at hund;cases hund;cases hp
  |struct hf2 h3=>
   rename_i fs ta tb
   rw[hf2.und]at hund;cases hund
   simp only[Bool.and_eq_true,Bool.not_eq_true']at hp
   obtain⟨r,e1,e2⟩:=eqFields_ok hE d (fun tid u hu hp x y c1 c2 h1 h2 n hn=>equalIn_ok hE d tid u hu hp x y c1 c2 h1 h2 n hn) _ 0 _ h3 hp.2 x y c1 c2 [] [] h1 h2 rfl rfl n (by omega)
   refine⟨r,e1, ?_⟩
   have hfo:P.fieldsOf tid=fs:=by rw[Program.fieldsOf,hf2.und]
   have:=run_equalIn_struct w n tid c1.toArray c2.toArray (by rw[hfo];exact hf2.und) hp.1
   rw[hfo]at this
   show(Op.equalIn (n+1) tid (.agg c1.toArray) (.agg c2.toArray)).run P w=_
   rw[this]
   simpa using e2
  |ti hf2=>
   have h1':c1=[.int _ x]:=h1
   have h2':c2=[.int _ y]:=h2
   subst h1' h2'
   exact⟨_,rfl,run_equalIn_int w n tid _ _ x y hf2.und⟩
theorem run_eqGuard{op:BinOp}{t:TypeId}{x y:Operand}{a b:Value}(h:(∀cs,a≠ .agg cs)∧a≠ .nilIface):(eqGuard op t x y a b).run P w= .ok () w:=by
 obtain⟨h1,h2⟩:=h
 unfold eqGuard
 by_cases ho:(!(match op with| .eql| .neq=>true|_=>false))=true
 ·cases op<;>first|rfl|(simp at ho;done)
 ·cases op<;>first|(simp at ho;done)|skip
  all_goals
   cases a<;>first|rfl|exact absurd rfl (h1 _)|exact absurd rfl h2
theorem run_eql{t:TypeId}{a b:Value}{r:Bool}(hi:∀k n,a≠ .int k n)(hf:∀k n,a≠ .float k n)(hc:∀k n m,a≠ .complex k n m)(hs:∀s,a≠ .string s)(h:(Op.equal t a b).run P w= .ok r w):
  (binOp .eql t a b).run P w= .ok (.bool r) w:=by
 cases a<;>first
  |(exact absurd rfl (hi _ _))|(exact absurd rfl (hf _ _))|(exact absurd rfl (hc _ _ _))|(exact absurd rfl (hs _))
  |(unfold binOp;simp only[Sem.run_bind,h,Result.andThen_ok,Sem.run_pure])
theorem run_neq{t:TypeId}{a b:Value}{r:Bool}(hi:∀k n,a≠ .int k n)(hf:∀k n,a≠ .float k n)(hc:∀k n m,a≠ .complex k n m)(hs:∀s,a≠ .string s)(h:(Op.equal t a b).run P w= .ok r w):
  (binOp .neq t a b).run P w= .ok (.bool (!r)) w:=by
 cases a<;>first
  |(exact absurd rfl (hi _ _))|(exact absurd rfl (hf _ _))|(exact absurd rfl (hc _ _ _))|(exact absurd rfl (hs _))
  |(unfold binOp;simp only[Sem.run_bind,h,Result.andThen_ok,Sem.run_pure])
theorem eqNil_gen(d:Nat){t el:TypeId}(hu:P.underlying t=some (.slice el))(ad:Option Addr)(n m:Nat):(Op.equalIn (d+1) t (.slice ad n m) (.slice none 0 0)).run P w= .ok ad.isNone w:=by
 cases ad<;>simp[Op.equalIn,run_underlying hu]
theorem eqPtr_gen(d:Nat){t el:TypeId}(hu:P.underlying t=some (.pointer el))(ad:Option Addr):(Op.equalIn (d+1) t (.pointer ad) (.pointer none)).run P w= .ok ad.isNone w:=by
 cases ad<;>simp[Op.equalIn,run_underlying hu]
theorem bin_ok(hE:EnvOK P E){op:BinOp}{t:TypeId}{x y:RV}{a b:Value}(hx:RVok w KS ρ e x a)(hy:RVok w KS ρ e y b)(ht:eqTy E op t x y=true){r:RV}(h:(bin op x y).run=some r)(xo yo:Operand):
  ∃u,(binOp op t a b).run P w= .ok u w∧RVok w KS ρ e r u∧(eqGuard op t xo yo a b).run P w= .ok () w:=by
 by_cases hxi:∃k n k' m,x= .v (.int k) n∧y= .v (.int k') m
 ·obtain⟨k,n,k',m,rfl,rfl⟩:=hxi
  have h1:=rvok_int hx;subst h1
  have h2:=rvok_int hy;subst h2
  obtain⟨u,q1,q2⟩:=bin_int (P:=P) (KS:=KS) (e:=e) (ρ:=ρ) (w:=w) (xT:=t) h
  exact⟨u,q1,q2,run_eqGuard ⟨by simp,by simp⟩⟩
 by_cases hxs:∃n m,x= .v .str n∧y= .v .str m
 ·obtain⟨n,m,rfl,rfl⟩:=hxs
  have h1:=rvok_str hx;subst h1
  have h2:=rvok_str hy;subst h2
  obtain⟨u,q1,q2⟩:=bin_str (P:=P) (KS:=KS) (e:=e) (ρ:=ρ) (w:=w) (xT:=t) h
  exact⟨u,q1,q2,run_eqGuard ⟨by simp,by simp⟩⟩
 have guard:∀{v:Value},a=v→((∀cs,v≠ .agg cs)∧v≠ .nilIface)→(eqGuard op t xo yo a b).run P w= .ok () w:=fun e h=>by subst e;exact run_eqGuard h
 have listT:tyIsList E t=true→∃el,P.underlying t=some (.slice el):=fun h=>by
  unfold tyIsList at h
  split at h
  ·rename_i u hu
   cases u with
   |list o te=>obtain⟨el,_,h1,_⟩:=list_ty (hE.ty _ _ hu) (o:=o) (te:=te) (Ty.same_refl _);exact⟨el,h1⟩
   |_=>cases h
  ·cases h
 have listT2:∀{o:Bool} {te:Ty},tyIs E t (.list o te)=true→∃el,P.underlying t=some (.slice el):=fun h=>by
  obtain⟨u,hu,hs⟩:=tyIs_ok hE h
  obtain⟨el,_,h1,_⟩:=list_ty hu hs
  exact⟨el,h1⟩
 have ptrT:tyIsPtr E t=true→∃el,P.underlying t=some (.pointer el):=fun h=>by
  unfold tyIsPtr at h
  split at h
  ·rename_i u hu
   have:=hE.ty _ _ hu
   cases this with
   |ptr hf _=>exact⟨_,hf.und⟩
  ·cases h
 have ptrT2:∀{te:Ty},tyIs E t (.ptr te)=true→∃el,P.underlying t=some (.pointer el):=fun h=>by
  obtain⟨u,hu,hs⟩:=tyIs_ok hE h
  cases hu with
  |ptr hf _=>exact⟨_,hf.und⟩
  |_=>cases hs
 have eqNil:∀{el:TypeId},P.underlying t=some (.slice el)→∀(ad:Option Addr) (n m:Nat),(Op.equal t (.slice ad n m) (.slice none 0 0)).run P w= .ok ad.isNone w:=fun hu ad n m=>eqNil_gen 9999 hu ad n m
 have eqPtr:∀{el:TypeId},P.underlying t=some (.pointer el)→∀(ad:Option Addr),(Op.equal t (.pointer ad) (.pointer none)).run P w= .ok ad.isNone w:=fun hu ad=>eqPtr_gen 9999 hu ad
 have shList:∀{o:Bool} {te:Ty} {l:(Ty.list o te).D} {v:Value},RVok w KS ρ e (.v (.list o te) l) v→(l:List te.D).isEmpty=false→∃ad n m,v= .slice (some ad) n m∧True:=fun h hne=>by
  obtain⟨_,cs,⟨ad,cap,rfl,_,h3⟩,rfl⟩:=h
  rcases h3 with rfl|⟨A,_,rfl,_⟩
  ·cases hne
  ·exact⟨A,_,_,rfl,trivial⟩
 have shPtr:∀{te:Ty} {o:(Ty.ptr te).D} {v:Value},RVok w KS ρ e (.v (.ptr te) o) v→∃ad,v= .pointer ad∧(o:Option te.D).isNone=ad.isNone∧(o:Option te.D).isSome= !ad.isNone:=fun{te o v} h=>by
  obtain⟨_,cs,k1,rfl⟩:=h
  rw[repK_ptr]at k1
  cases o with
  |none=>have:cs=[.pointer none]:=k1;subst this;exact⟨none,rfl,rfl,rfl⟩
  |some x=>obtain⟨A,rows,rfl,_⟩:=k1;exact⟨some A,rfl,rfl,rfl⟩
 have boolT:∀{z:Bool},tyIs E t .bool=true→P.underlying t=some .bool:=fun h=>by
  obtain⟨u,hu,hs⟩:=tyIs_ok hE h
  cases hu with
  |bool hf=>exact hf.und
  |_=>cases hs
 unfold bin at h
 split at h
 ·exact absurd ⟨_,_,_,_,rfl,rfl⟩ hxi
 ·exact absurd ⟨_,_,_,_,rfl,rfl⟩ hxi
 ·exact absurd ⟨_,_,_,_,rfl,rfl⟩ hxi
 ·exact absurd ⟨_,_,rfl,rfl⟩ hxs
 ·--bools
  injection h with h;subst h
  have h1:=rvok_bool hx;subst h1
  have h2:=rvok_bool hy;subst h2
  have hund:=boolT (z:=true) ht
  refine⟨_,run_eql (by simp) (by simp) (by simp) (by simp) (run_equalIn_bool w 9999 t _ _ hund),rvok_of_bool _,run_eqGuard ⟨by simp,by simp⟩⟩
 ·injection h with h;subst h
  have h1:=rvok_bool hx;subst h1
  have h2:=rvok_bool hy;subst h2
  have hund:=boolT (z:=true) ht
  refine⟨_,run_neq (by simp) (by simp) (by simp) (by simp) (run_equalIn_bool w 9999 t _ _ hund), ?_,run_eqGuard ⟨by simp,by simp⟩⟩
  exact rvok_of_bool _
 ·--structs
  replace h:=Cm.run_get h;obtain⟨y2,hy2,h⟩:=h
  replace h:=Cm.run_get h;obtain⟨r1,hr1,h⟩:=h
  injection h with h;subst h
  obtain⟨hsx,c1,k1,rfl⟩:=hx
  obtain⟨hsy,c2,k2,rfl⟩:=hy
  obtain⟨hsub,rfl⟩:=conv_some hy2
  have k2':=repK_sub hsub k2
  have ht':(E.eqs t&&tySub E t (.pair _ _))=true:=ht
  simp only[Bool.and_eq_true]at ht'
  obtain⟨q1,q2⟩:=hE.eqs t ht'.1
  obtain⟨u,hu,hsb⟩:=tySub_ok hE ht'.2
  have hs:=Ty.sub_same hsb
  obtain⟨r2,m1,m2⟩:=equalIn_ok (w:=w) hE 20 t u hu q1 _ _ c1 c2 (repK_sub hsb k1) (repK_sub hsb k2') 10000 (by omega)
  rw[heq_cast2 (Ty.same_D hs) (eqD_same hs)]at m1
  have:r1=r2:=by rw[hr1]at m1;cases m1;rfl
  subst this
  rw[←val_same hs,←val_same hs]at m2
  exact⟨_,run_eql (by simp[val]) (by simp[val]) (by simp[val]) (by simp[val]) m2,rvok_of_bool _,run_eqGuard_agg w _ _ _ _ _ _ q2⟩
 ·replace h:=Cm.run_get h;obtain⟨y2,hy2,h⟩:=h
  replace h:=Cm.run_get h;obtain⟨r1,hr1,h⟩:=h
  injection h with h;subst h
  obtain⟨hsx,c1,k1,rfl⟩:=hx
  obtain⟨hsy,c2,k2,rfl⟩:=hy
  obtain⟨hsub,rfl⟩:=conv_some hy2
  have k2':=repK_sub hsub k2
  have ht':(E.eqs t&&tySub E t (.pair _ _))=true:=ht
  simp only[Bool.and_eq_true]at ht'
  obtain⟨q1,q2⟩:=hE.eqs t ht'.1
  obtain⟨u,hu,hsb⟩:=tySub_ok hE ht'.2
  have hs:=Ty.sub_same hsb
  obtain⟨r2,m1,m2⟩:=equalIn_ok (w:=w) hE 20 t u hu q1 _ _ c1 c2 (repK_sub hsb k1) (repK_sub hsb k2') 10000 (by omega)
  rw[heq_cast2 (Ty.same_D hs) (eqD_same hs)]at m1
  have:r1=r2:=by rw[hr1]at m1;cases m1;rfl
  subst this
  rw[←val_same hs,←val_same hs]at m2
  refine⟨_,run_neq (by simp[val]) (by simp[val]) (by simp[val]) (by simp[val]) m2, ?_,run_eqGuard_agg w _ _ _ _ _ _ q2⟩
  exact rvok_of_bool _
 ·--nil lists
  injection h with h;subst h
  have h1:a= .slice none 0 0:=hx
  have h2:b= .slice none 0 0:=hy
  subst h1 h2
  obtain⟨el,hund⟩:=listT ht
  exact⟨_,run_eql (by simp) (by simp) (by simp) (by simp) (eqNil hund none 0 0),rvok_of_bool _,run_eqGuard ⟨by simp,by simp⟩⟩
 ·injection h with h;subst h
  have h1:a= .slice none 0 0:=hx
  have h2:b= .slice none 0 0:=hy
  subst h1 h2
  obtain⟨el,hund⟩:=listT ht
  exact⟨_,run_neq (by simp) (by simp) (by simp) (by simp) (eqNil hund none 0 0),rvok_of_bool _,run_eqGuard ⟨by simp,by simp⟩⟩
 ·replace h:=Cm.run_ask h;obtain⟨hne,h⟩:=h
  injection h with h;subst h
  obtain⟨ad,n,m,rfl,had⟩:=shList hx hne
  have h2:b= .slice none 0 0:=hy
  subst h2
  obtain⟨el,hund⟩:=listT2 ht
  exact⟨_,run_eql (by simp) (by simp) (by simp) (by simp) (eqNil hund (some ad) n m),rvok_of_bool _,run_eqGuard ⟨by simp,by simp⟩⟩
 ·replace h:=Cm.run_ask h;obtain⟨hne,h⟩:=h
  injection h with h;subst h
  obtain⟨ad,n,m,rfl,had⟩:=shList hx hne
  have h2:b= .slice none 0 0:=hy
  subst h2
  obtain⟨el,hund⟩:=listT2 ht
  exact⟨_,run_neq (by simp) (by simp) (by simp) (by simp) (eqNil hund (some ad) n m),rvok_of_bool _,run_eqGuard ⟨by simp,by simp⟩⟩
 ·injection h with h;subst h
  obtain⟨s,A,_,_,rfl⟩:=hx
  have h2:b= .pointer none:=hy
  subst h2
  obtain⟨el,hund⟩:=ptrT ht
  exact⟨_,run_eql (by simp) (by simp) (by simp) (by simp) (eqPtr hund (some A)),rvok_of_bool _,run_eqGuard ⟨by simp,by simp⟩⟩
 ·injection h with h;subst h
  obtain⟨s,A,_,_,rfl⟩:=hx
  have h2:b= .pointer none:=hy
  subst h2
  obtain⟨el,hund⟩:=ptrT ht
  exact⟨_,run_neq (by simp) (by simp) (by simp) (by simp) (eqPtr hund (some A)),rvok_of_bool _,run_eqGuard ⟨by simp,by simp⟩⟩
 ·injection h with h;subst h
  have h1:a= .pointer none:=hx
  have h2:b= .pointer none:=hy
  subst h1 h2
  obtain⟨el,hund⟩:=ptrT ht
  exact⟨_,run_eql (by simp) (by simp) (by simp) (by simp) (eqPtr hund none),rvok_of_bool _,run_eqGuard ⟨by simp,by simp⟩⟩
 ·injection h with h;subst h
  have h1:a= .pointer none:=hx
  have h2:b= .pointer none:=hy
  subst h1 h2
  obtain⟨el,hund⟩:=ptrT ht
  exact⟨_,run_neq (by simp) (by simp) (by simp) (by simp) (eqPtr hund none),rvok_of_bool _,run_eqGuard ⟨by simp,by simp⟩⟩
 ·injection h with h;subst h
  obtain⟨ad,rfl,had,had2⟩:=shPtr hx
  have h2:b= .pointer none:=hy
  subst h2
  obtain⟨el,hund⟩:=ptrT2 ht
  rw[had]
  exact⟨_,run_eql (by simp) (by simp) (by simp) (by simp) (eqPtr hund ad),rvok_of_bool _,run_eqGuard ⟨by simp,by simp⟩⟩
 ·injection h with h;subst h
  obtain⟨ad,rfl,had,had2⟩:=shPtr hx
  have h2:b= .pointer none:=hy
  subst h2
  obtain⟨el,hund⟩:=ptrT2 ht
  refine⟨_,run_neq (by simp) (by simp) (by simp) (by simp) (eqPtr hund ad), ?_,run_eqGuard ⟨by simp,by simp⟩⟩
  rw[had2];exact rvok_of_bool _
 ·cases h
end
end
section
section
variable {P:Program} {E:Env} {c:Ctx} {KS:Nat→Prop} {e:GEnv} {F:Fs} {ρ:Roots} {w:World}
theorem binE_ok(hE:EnvOK P E)(h:Inv c KS e F ρ w){op:BinOp}{t:TypeId}{x y:RV}{a b:Value}(hx:RVok w KS ρ e x a)(hy:RVok w KS ρ e y b)(ht:eqTy E op t x y=true){r:RV}(hr:(binE ρ op x y).run=some r)(xo yo:Operand):
  ∃u,(binOp op t a b).run P w= .ok u w∧RVok w KS ρ e r u∧(eqGuard op t xo yo a b).run P w= .ok () w:=by
 have key:∀{p:Place},RVok w KS ρ e (.wl p) a→tyIsList E t=true→∀{v:Dyn},(rdP ρ p).run=some v→(match v with|⟨.list _ _,l⟩=>(l:List _).isEmpty=false|_=>True)→
   (∃te,∃o,v.1= .list o te)→∃ad n m,a= .slice (some ad) n m∧∃el,P.underlying t=some (.slice el):=fun{p} hx ht v hv hne hl=>by
  obtain⟨hd,te,g,ad,hs,rfl⟩:=hx
  obtain⟨s,hs',rfl,_⟩:=rdP_ok h hv
  rw[res_data hd,hs]at hs';cases hs'
  have hok:okG w KS (.list true te) g:=(spotD_ok h hd hs).1
  simp only[er]at hne
  have hne':g.rows≠[]:=fun e=>by rw[e]at hne;cases hne
  have hlt:0<g.rows.length:=List.length_pos_iff.2 hne'
  obtain⟨b0,m1,_⟩:=own_there hok hlt
  refine⟨_,_,_,by rw[m1], ?_⟩
  unfold tyIsList at ht
  split at ht
  ·rename_i u hu
   cases u with
   |list o te=>obtain⟨el,_,h1,_⟩:=list_ty (hE.ty _ _ hu) (o:=o) (te:=te) (Ty.same_refl _);exact⟨el,h1⟩
   |_=>cases ht
  ·cases ht
 unfold binE at hr
 split at hr
 ·replace hr:=Cm.run_bind_some hr;obtain⟨v,hv,hr⟩:=hr
  obtain⟨vt,vx⟩:=v
  cases vt<;>first|(cases hr;done)|skip
  replace hr:=Cm.run_ask hr;obtain⟨hne,hr⟩:=hr
  injection hr with hr;subst hr
  obtain⟨ad,n,m,rfl,el,hund⟩:=key hx ht hv hne ⟨_,_,rfl⟩
  have h2:b= .slice none 0 0:=hy
  subst h2
  exact⟨_,run_eql (by simp) (by simp) (by simp) (by simp) (eqNil_gen 9999 hund (some ad) n m),rvok_of_bool _,run_eqGuard ⟨by simp,by simp⟩⟩
 ·replace hr:=Cm.run_bind_some hr;obtain⟨v,hv,hr⟩:=hr
  obtain⟨vt,vx⟩:=v
  cases vt<;>first|(cases hr;done)|skip
  replace hr:=Cm.run_ask hr;obtain⟨hne,hr⟩:=hr
  injection hr with hr;subst hr
  obtain⟨ad,n,m,rfl,el,hund⟩:=key hx ht hv hne ⟨_,_,rfl⟩
  have h2:b= .slice none 0 0:=hy
  subst h2
  exact⟨_,run_neq (by simp) (by simp) (by simp) (by simp) (eqNil_gen 9999 hund (some ad) n m),rvok_of_bool _,run_eqGuard ⟨by simp,by simp⟩⟩
 ·exact bin_ok hE hx hy ht hr xo yo
theorem binOp_ok(hE:EnvOK P E)(h:Inv c KS e F ρ w){call:CallT}{bound d:Nat}{op:BinOp}{t yt:TypeId}{xo yo:Operand}{x y:RV}{a b:Value}(hx:RVok w KS ρ e x a)(hy:RVok w KS ρ e y b){ef:Eff}
  (hc:(comp E call bound d (.binOp op t xo yo yt) [x,y] ρ).run=some ef):Does P (do pure (.value (←(do eqGuard op t xo yo a b;binOp op t a b)))) w (After c KS F ρ ef):=by
 simp only[comp]at hc
 replace hc:=Cm.run_chk hc;obtain⟨h1,hc⟩:=hc
 replace hc:=Cm.run_bind_some hc;obtain⟨r,hr,hc⟩:=hc
 injection hc with hc;subst hc
 obtain⟨u,q1,q2,q3⟩:=binE_ok hE h hx hy h1 hr xo yo
 refine does_value (v:=u) (w':=w) ?_ (After.pure h q2)
 rw[Sem.run_bind,q3,Result.andThen_ok,q1]
theorem unOp_ok(h:Inv c KS e F ρ w){call:CallT}{bound d:Nat}{op:UnOp}{t:TypeId}{xo:Operand}{x:RV}{a:Value}(hx:RVok w KS ρ e x a){ef:Eff}
  (hc:(comp E call bound d (.unOp op t xo) [x] ρ).run=some ef):Does P (do pure (.value (←Op.unary op a))) w (After c KS F ρ ef):=by
 simp only[comp]at hc
 split at hc
 ·injection hc with hc;subst hc
  have:=rvok_int hx;subst this
  exact does_value (v:= .int _ _) rfl (After.pure h (rvok_of_int _ _))
 ·injection hc with hc;subst hc
  have:=rvok_bool hx;subst this
  exact does_value (v:= .bool _) rfl (After.pure h (rvok_of_bool _))
 ·cases hc
theorem extract_ok(h:Inv c KS e F ρ w){call:CallT}{bound d j:Nat}{xo:Operand}{x:RV}{a:Value}(hx:RVok w KS ρ e x a){ef:Eff}
  (hc:(comp E call bound d (.extract xo j) [x] ρ).run=some ef):Does P (do pure (.value (←Instr.extract a j))) w (After c KS F ρ ef):=by
 cases x<;>first|(cases hc;done)|skip
 rename_i l
 simp only[comp]at hc
 split at hc
 ·rename_i y hy
  injection hc with hc;subst hc
  obtain⟨vs,rfl,hl⟩:=hx
  have key:∀(l:List RV) (vs:List Value) (j:Nat) (y:RV),RVoks w KS ρ e l vs→l[j]? =some y→∃v,vs[j]? =some v∧RVok w KS ρ e y v:=by
   intro l
   induction l with
   |nil=>intro vs j y _ hj;simp at hj
   |cons x xs ih=>
    rintro vs j y ⟨v,vs',rfl,h1,h2⟩ hj
    cases j with
    |zero=>simp at hj;subst hj;exact⟨v,by simp,h1⟩
    |succ j=>obtain⟨u,q1,q2⟩:=ih vs' j y h2 (by simpa using hj);exact⟨u,by simpa using q1,q2⟩
  obtain⟨v,q1,q2⟩:=key l vs j y hl hy
  refine does_value (v:=v) ?_ (After.pure h q2)
  simp only[Instr.extract,List.getElem?_toArray,q1];rfl
 ·cases hc
theorem nilCheck_ok(h:Inv c KS e F ρ w){call:CallT}{bound d:Nat}{xo:Operand}{x:RV}{a:Value}(hx:RVok w KS ρ e x a){ef:Eff}
  (hc:(comp E call bound d (.nilCheck xo) [x] ρ).run=some ef):a≠ .nilIface∧a≠ .pointer none∧a≠ .nilFunc∧(∀n x y,a≠ .func (.method n) x y)∧After c KS F ρ ef a w:=by
 simp only[comp]at hc
 split at hc
 ·injection hc with hc;subst hc
  have hx0:=hx
  obtain⟨s,A,h1,h2,rfl⟩:=hx
  exact⟨by simp,by simp,by simp,by simp,After.pure h hx0⟩
 ·replace hc:=Cm.run_get hc;obtain⟨y,hy,hc⟩:=hc
  injection hc with hc;subst hc
  obtain⟨hsh,cs,k1,rfl⟩:=hx
  have hy':_=some y:=hy
  subst hy'
  obtain⟨A,rows,rfl,k1⟩:=k1
  exact⟨by simp[val],by simp[val],by simp[val],by simp[val],After.pure h ⟨hsh,_,⟨A,rows,rfl,k1⟩,rfl⟩⟩
 ·injection hc with hc;subst hc
  have hx0:=hx
  obtain⟨vs,rfl,h2⟩:=hx
  exact⟨by simp,by simp,by simp,by simp,After.pure h hx0⟩
 ·cases hc
theorem lenOf_ok(hE:EnvOK P E)(h:Inv c KS e F ρ w){t:TypeId}{x:RV}{v:Value}(hx:RVok w KS ρ e x v)(h1:rvIs E ρ t x=true){n:Nat}(hn:(lenOf ρ x).run=some n)(ts:Array TypeId)(ht:ts[0]? =some t)(ty:TypeId):
  (Builtin.len_ ts ty #[v]).run P w= .ok (.int .i64 n) w:=by
 have sl:∀{el:TypeId},P.underlying t=some (.slice el)→∀(ad:Option Addr) (n m:Nat),(Builtin.len_ ts ty #[.slice ad n m]).run P w= .ok (.int .i64 n) w:=fun hu ad n m=>by
  simp[Builtin.len_,ht,run_underlying hu,goInt]
 cases x with
 |v u l=>
  cases u with
  |list o te=>
   injection hn with hn;subst hn
   obtain⟨hsh,cs,⟨ad,cap,rfl,_⟩,rfl⟩:=hx
   obtain⟨u,hu,hs⟩:=tyIs_ok hE h1
   obtain⟨el,_,hund,_⟩:=list_ty hu hs
   exact sl hund _ _ _
  |str=>
   injection hn with hn;subst hn
   have:=rvok_str hx;subst this
   obtain⟨u,hu,hs⟩:=tyIs_ok hE h1
   have hund:=str_ty hu hs
   simp[Builtin.len_,ht,run_underlying hund,goInt]
  |_=>cases hn
 |nl=>
  injection hn with hn;subst hn
  have hv:v= .slice none 0 0:=hx
  subst hv
  have h1':tyIsList E t=true:=h1
  unfold tyIsList at h1'
  split at h1'
  ·rename_i u hu
   cases u with
   |list o te=>obtain⟨el,_,h1,_⟩:=list_ty (hE.ty _ _ hu) (o:=o) (te:=te) (Ty.same_refl _);exact sl h1 _ _ _
   |_=>cases h1'
  ·cases h1'
 |wl p=>
  obtain⟨hd,te,g,ad,hs,rfl,rfl,hok⟩:=lenOf_wl h hx hn
  obtain⟨u,hu,hsame⟩:=placeIs_ok hE h h1 hs
  obtain⟨el,_,hund,_⟩:=list_ty hu hsame
  exact sl hund _ _ _
 |vw p lo n'=>
  injection hn with hn;subst hn
  obtain⟨hd,te,g,ad,hs,_,ad2,_,rfl⟩:=hx
  obtain⟨u,hu,hsame⟩:=placeIs_ok hE h h1 hs
  obtain⟨el,_,hund,_⟩:=list_ty hu hsame
  exact sl hund _ _ _
 |_=>cases hn
theorem min2_run(k:IntKind)(a b:Int):(Builtin.min2 (.int k a) (.int k b)).run P w= .ok (.int k (min a b)) w:=by
 simp only[Builtin.min2,Sem.run_pure]
 congr 2
 rw[Int.min_def];split<;>split<;>omega
theorem max2_run(k:IntKind)(a b:Int):(Builtin.max2 (.int k a) (.int k b)).run P w= .ok (.int k (max a b)) w:=by
 simp only[Builtin.max2,Sem.run_pure]
 congr 2
 rw[Int.max_def];split<;>split<;>omega
theorem minmax_ok{mx:Bool}{xs:List RV}{vs:List Value}(hx:RVoks w KS ρ e xs vs){r:RV}(hr:(minmax mx xs).run=some r)(ts:Array TypeId)(ty:TypeId):
  ∃v,((if mx then Builtin.max_ ts ty vs.toArray else Builtin.min_ ts ty vs.toArray).run P w= .ok v w)∧RVok w KS ρ e r v:=by
 unfold minmax at hr
 split at hr
 ·cases hr
 ·injection hr with hr;subst hr
  obtain⟨v,vs',rfl,h1,rfl⟩:=hx
  refine⟨v, ?_,h1⟩
  cases mx<;>rfl
 ·obtain⟨v1,vs1,rfl,h1,v2,vs2,rfl,h2,hx⟩:=hx
  replace hr:=Cm.run_chk hr;obtain⟨hk,hr⟩:=hr
  have hk:=kindB_eq hk
  subst hk
  have h1':=rvok_int h1;subst h1'
  have h2':=rvok_int h2;subst h2'
  split at hr
  ·injection hr with hr;subst hr
   have hx':vs2=[]:=hx
   subst hx'
   cases mx
   ·exact⟨_,by simp only[Builtin.min_,Bool.false_eq_true,if_false,List.foldlM,Sem.run_bind,min2_run,Result.andThen_ok,Sem.run_pure],rvok_of_int _ _⟩
   ·exact⟨_,by simp only[Builtin.max_,if_true,List.foldlM,Sem.run_bind,max2_run,Result.andThen_ok,Sem.run_pure],rvok_of_int _ _⟩
  ·replace hr:=Cm.run_chk hr;obtain⟨hk2,hr⟩:=hr
   have hk2:=kindB_eq hk2
   subst hk2
   injection hr with hr;subst hr
   obtain⟨v3,vs3,rfl,h3,hx⟩:=hx
   have h3':=rvok_int h3;subst h3'
   have hx':vs3=[]:=hx
   subst hx'
   cases mx
   ·exact⟨_,by simp only[Builtin.min_,Bool.false_eq_true,if_false,List.foldlM,Sem.run_bind,min2_run,Result.andThen_ok,Sem.run_pure],rvok_of_int _ _⟩
   ·exact⟨_,by simp only[Builtin.max_,if_true,List.foldlM,Sem.run_bind,max2_run,Result.andThen_ok,Sem.run_pure],rvok_of_int _ _⟩
  ·cases hr
 ·cases hr
end
end
section
def zeroG:(t:Ty)→t.G
 | .unit=>()| .int _=>(0:Int)| .bool=>false| .str=>ByteArray.empty
 | .list true _=>⟨none,0,[]⟩| .list false _=>⟨none,0,[]⟩| .ptr _=>⟨none,none⟩
 | .pair a b=>(zeroG a,zeroG b)| .arr n t=>List.replicate n (zeroG t)| .gone _=>[]| .ti=>(0:Int)
theorem er_zeroG:∀t:Ty,er t (zeroG t)=t.zero:=by
 intro t
 induction t with
 |list o t ih=>cases o<;>rfl
 |pair a b iha ihb=>simp only[zeroG,er,Ty.zero,iha,ihb]
 |arr n t ih=>simp only[zeroG,er,Ty.zero,List.map_replicate,ih]
 |_=>rfl
theorem cl_zeroG:∀t:Ty,cl t (zeroG t)=zeros t:=by
 intro t
 induction t with
 |list o t ih=>cases o<;>rfl
 |pair a b iha ihb=>simp only[zeroG,cl,zeros,iha,ihb]
 |arr n t ih=>simp only[zeroG,cl,zeros,List.flatMap_replicate,ih]
 |_=>rfl
theorem fp_zeroG:∀t:Ty,fp t (zeroG t)=[]:=by
 intro t
 induction t with
 |list o t ih=>cases o<;>rfl
 |pair a b iha ihb=>simp only[zeroG,fp,iha,ihb,List.append_nil]
 |arr n t ih=>
  simp only[zeroG,fp,List.flatMap_eq_nil_iff]
  intro x hx
  rw[List.eq_of_mem_replicate hx,ih]
 |_=>rfl
theorem ok_zeroG{w:World}{KS:Nat→Prop}:∀t:Ty,t.solid=true→okG w KS t (zeroG t):=by
 intro t
 induction t with
 |list o t ih=>
  intro _
  cases o with
  |true=>exact .inl ⟨rfl,rfl⟩
  |false=>exact⟨none,0,rfl,⟨Nat.le_refl _,fun _ _=>rfl⟩,.inl rfl⟩
 |pair a b iha ihb=>
  intro h
  simp only[Ty.solid,Bool.and_eq_true]at h
  exact⟨iha h.1,ihb h.2⟩
 |arr n t ih=>
  intro h
  exact⟨by simp[zeroG],fun r hr=>by rw[List.eq_of_mem_replicate hr];exact ih h⟩
 |gone n=>intro h;cases h
 |ptr t ih=>intro _;rfl
 |_=>intro _;trivial
theorem o_same:∀t:Ty,t.o.same t=true:=by
 intro t
 induction t with
 |list o t ih=>exact ih
 |pair a b iha ihb=>simp[Ty.o,Ty.same,iha,ihb]
 |arr n t ih=>simp[Ty.o,Ty.same,ih]
 |ptr t ih=>exact Ty.same_refl _
 |_=>exact Ty.same_refl _
theorem o_solid:∀t:Ty,t.solid=true→t.o.solid=true:=by
 intro t
 induction t with
 |list o t ih=>exact ih
 |pair a b iha ihb=>intro h;simp only[Ty.solid,Bool.and_eq_true]at h;simp[Ty.o,Ty.solid,iha h.1,ihb h.2]
 |arr n t ih=>exact ih
 |_=>intro h;exact h
theorem zeros_o:∀t:Ty,zeros t.o=zeros t:=by
 intro t
 induction t with
 |pair a b iha ihb=>simp only[Ty.o,zeros,iha,ihb]
 |arr n t ih=>simp only[Ty.o,zeros,ih]
 |_=>rfl
theorem zeros_len{t:Ty}(h:t.solid=true):(zeros t).length=t.sz:=by
 have:=okG_len (w:=default) (KS:=fun _=>False) t (zeroG t) (ok_zeroG t h)
 rwa[cl_zeroG]at this
theorem zeros_one{t:Ty}(h:t.solid=true):∀v∈zeros t,v.oneCell'=true:=by
 have:=cl_one (w:=default) (KS:=fun _=>False) t (zeroG t) (ok_zeroG t h)
 rwa[cl_zeroG]at this
theorem zeros_cells{t:Ty}(h:t.solid=true):(val t (zeros t)).cells=(zeros t).toArray:=val_cells (zeros_len h) (zeros_one h)
theorem made_cells{z:List Value}{n:Nat}(hz:z.length≠0):(madeCells z.toArray (n*z.length)).toList=(List.replicate n z).flatten:=by
 unfold madeCells
 induction n with
 |zero=>simp[Array.range_zero']
 |succ n ih=>
  rw[Nat.add_mul,Nat.one_mul,List.replicate_succ',List.flatten_append,←ih]
  simp only[Array.toList_map,Array.toList_range]
  rw[List.range_add,List.map_append]
  congr 1
  simp only[List.map_map,List.flatten_cons,List.flatten_nil,List.append_nil]
  apply List.ext_getElem
  ·simp
  ·intro j h1 h2
   simp only[List.getElem_map,List.getElem_range,Function.comp,List.size_toArray]
   rw[Nat.mul_comm,Nat.mul_add_mod,Nat.mod_eq_of_lt h2]
   simp[h2]
theorem make_bounds(l cc:Int)(b:Nat)(h:1≤b)(h0:0≤l)(h1:l≤cc)(h2:cc*b≤140737488355328):(b:Int)*cc≤281474976710656∧cc≤9223372036854775807:=by
 have:cc*1≤cc*b:=Int.mul_le_mul_of_nonneg_left (by omega) (by omega)
 rw[Int.mul_comm]
 omega
section
variable {P:Program} {E:Env} {c:Ctx} {KS:Nat→Prop} {e:GEnv} {F:Fs} {ρ:Roots} {w w':World}
theorem After.fresh(h:Inv c KS e F ρ w){d:Nat}(hd:getB ρ d=none)(hp:c.pin d=none)(hh:c.hdr d=none)
  (hs:∀b,b<w.heap.size→Same w w' b) (hz:Grew w w') {re:Bool} {t:Ty} {g:t.G} {ad:Option Addr} (hok:okG w' KS t g)
  (hr:re=true→∃A,ad=some A∧RowAt w' A (cl t g)) (hr':re=false→ad=none) (hn:((ad.map (·.block)).toList++fp t g).Nodup)
  (hf:∀b∈(ad.map (·.block)).toList++fp t g,w.heap.size≤b∧b<w'.heap.size) {rv:RV} {v:Value} {x:t.D} (hx:er t g=x)
  (hv:RVok w' KS ((d,some (.data re t x none))::ρ) (e.set d ⟨ad,t,g⟩) rv v):After c KS F ρ {new:=true,rv:=rv,rs:=[(d,some (.data re t x none))]} v w':=by
 subst hx
 refine⟨KS,e.set d ⟨ad,t,g⟩,fun _ h=>h,hv, ?_⟩
 have:allKills [] ρ=[]:=rfl
 rw[this,purgesF_nil]
 exact h.new hd hp hh hs hz hok hr hr' hn hf
theorem spotD_new{d:Nat}{G:GRoot}:spotD (e.set d G) ⟨d,[]⟩=some ⟨G.t,G.g,G.ad⟩:=by
 simp only[spotD,GEnv.set,if_true,Option.bind_some,loc_nil]
theorem rvok_rf{d:Nat}{re:Bool}{t:Ty}{x:t.D}{pd:Option (Path×(te:Ty)×List te.D)}{g:t.G}{A:Addr}:RVok w KS ((d,some (.data re t x pd))::ρ) (e.set d ⟨some A,t,g⟩) (.rf ⟨d,[]⟩) (.pointer (some A)):=by
 refine⟨⟨t,g,some A⟩,A, ?_,rfl,rfl⟩
 simp only[spotOf,getB_cons_eq]
 exact spotD_new
theorem rvok_wl{d:Nat}{re:Bool}{t:Ty}{x:(Ty.list true t).D}{pd:Option (Path×(te:Ty)×List te.D)}{g:(Ty.list true t).G}{ad:Option Addr}:
  RVok w KS ((d,some (.data re (.list true t) x pd))::ρ) (e.set d ⟨ad,.list true t,g⟩) (.wl ⟨d,[]⟩) (.slice g.ad g.rows.length g.cap):=
 ⟨⟨re,_,x,pd,getB_cons_eq⟩,t,g,ad,spotD_new,rfl⟩
theorem alloc_ok(hE:EnvOK P E)(h:Inv c KS e F ρ w){call:CallT}{bound d tid:Nat}{ef:Eff}(hd:ef.new=true→getB ρ d=none)(hp:c.pin d=none)(hh:c.hdr d=none)
  (hc:(comp E call bound d (.alloc tid) [] ρ).run=some ef):Does P (do pure (.value (←Instr.alloc tid true (.tuple #[])))) w (After c KS F ρ ef):=by
 simp only[comp]at hc
 split at hc
 ·rename_i t ht
  injection hc with hc;subst hc
  replace hd:=hd rfl
  have hT:=hE.ty _ _ ht
  have hsol:=hE.sol _ _ ht
  obtain⟨dd,hf⟩:=hT.fact
  obtain⟨i,z,h1,h2,h3,h4⟩:=hf.info
  have hcs:z.cells=(zeros t).toArray:=by rw[h4,zeros_cells hsol]
  have hrun:(Instr.alloc tid true (.tuple #[])).run P w= .ok (.pointer (some ⟨w.heap.size,0,none⟩)) (w.alloc (.cells (zeros t).toArray tid)):=by
   simp only[Instr.alloc,zeroValue,typeInfo,Sem.run_bind,run_program,h1,h3,Result.andThen_ok,Sem.run_pure,run_newVar,hcs]
  refine does_value hrun ?_
  refine After.fresh h hd hp hh (fun b hb=>alloc_same w _ hb) (alloc_grew _ _) (g:=zeroG t.o) (ad:=some ⟨w.heap.size,0,none⟩) (ok_zeroG _ (o_solid _ hsol))
   (fun _=>⟨_,rfl,by rw[cl_zeroG,zeros_o];exact alloc_row w _ _⟩) (fun h=>by cases h) (by simp[fp_zeroG]) ?_ (er_zeroG _) rvok_rf
  intro b hb
  simp only[fp_zeroG,Option.map_some,Option.toList_some,List.append_nil,List.mem_singleton]at hb
  subst hb;rw[alloc_size];omega
 ·cases hc
theorem newList_ok{w1:World}(h:Inv c KS e F ρ w){d:Nat}(hd:getB ρ d=none)(hp:c.pin d=none)(hh:c.hdr d=none)
  (hs:∀b,b<w.heap.size→Same w w1 b) (hz:w1.heap.size=w.heap.size+1) (hg:Grew w w1) {te:Ty} (rows:List te.G) (rest:List Value) {cap:Nat} (hb:0<cap→Block w1 w.heap.size (rows.flatMap (cl te)++rest))
  (hlen:(rows.flatMap (cl te)++rest).length=cap*te.sz) (hcap:rows.length≤cap) (hT:te.isT=true→rows=[]→cap=0) (hrow:∀r∈rows,okG w1 KS te r) (hfp:∀r∈rows,fp te r=[]) {l:List te.D} (hl:rows.map (er te)=l):
  After c KS F ρ {new:=true,rv:= .wl ⟨d,[]⟩,rs:=[(d,some (.data false (.list true te) l none))]} (.slice (some ⟨w.heap.size,0,none⟩) rows.length cap) w1:=by
 have hfl:rows.flatMap (fp te)=[]:=List.flatMap_eq_nil_iff.2 hfp
 refine After.fresh h hd hp hh hs hg (t:= .list true te) (g:=⟨some ⟨w.heap.size,0,none⟩,cap,rows⟩) (ad:=none) ?_ (fun h=>by cases h) (fun _=>rfl) ?_ ?_ hl rvok_wl
 ·by_cases hc0:cap=0
  ·subst hc0
   exact .inl ⟨rfl,List.eq_nil_of_length_eq_zero (Nat.le_zero.1 hcap)⟩
  ·exact .inr ⟨w.heap.size,rest,rfl,by show 0<cap;omega,⟨hcap,fun e e'=>hc0 (hT e e')⟩,hb (by omega),hlen,hrow⟩
 ·simp only[Option.map_none,Option.toList_none,List.nil_append,fp]
  split
  ·simp
  ·rw[hfl];simp
 ·intro b hb
  simp only[Option.map_none,Option.toList_none,List.nil_append,fp]at hb
  split at hb
  ·cases hb
  ·rw[hfl]at hb
   simp at hb
   subst hb;omega
theorem makeSlice_ok(hE:EnvOK P E)(h:Inv c KS e F ρ w){call:CallT}{bound d tid:Nat}{ef:Eff}(hd:ef.new=true→getB ρ d=none)(hp:c.pin d=none)(hh:c.hdr d=none){a b:Operand}{x y:RV}{v u:Value}(hx:RVok w KS ρ e x v)(hy:RVok w KS ρ e y u)
  (hc:(comp E call bound d (.makeSlice tid a b) [x,y] ρ).run=some ef):Does P (do pure (.value (←Instr.makeSlice tid v u))) w (After c KS F ρ ef):=by
 simp only[comp]at hc
 split at hc
 ·rename_i te by_ hel
  split at hc
  ·rename_i t k1 l k2 cc ht
   replace hc:=Cm.run_chk hc;obtain⟨hby,hc⟩:=hc
   replace hc:=Cm.run_ask hc;obtain⟨h0,hc⟩:=hc
   replace hc:=Cm.run_ask hc;obtain⟨h1,hc⟩:=hc
   replace hc:=Cm.run_ask hc;obtain⟨h2,hc⟩:=hc
   injection hc with hc;subst hc
   replace hd:=hd rfl
   have e1:=rvok_int hx;subst e1
   have e2:=rvok_int hy;subst e2
   obtain⟨hund,i,hi,hbytes⟩:=hE.el _ _ _ hel
   have hT:=hE.ty _ _ ht
   have hsol:=hE.sol _ _ ht
   obtain⟨dd,hf⟩:=hT.fact
   obtain⟨i',z,q1,q2,q3,q4⟩:=hf.info
   rw[hi]at q1;cases q1
   have hcs:z.cells=(zeros t).toArray:=by rw[q4,zeros_cells hsol]
   simp only[Bool.and_eq_true,Bool.not_eq_true']at hby
   obtain⟨hby,hnT⟩:=hby
   have hby1:1≤by_:=by simpa using hby
   obtain⟨hb1,hb2⟩:=make_bounds l cc by_ hby1 h0 h1 h2
   have hrun:=run_make (P:=P) w tid te i z hund hi q3 k1 k2 l cc h0 h1 (by rw[hbytes];exact hb1) hb2
   refine does_value hrun ?_
   rw[hcs,q2,←zeros_len hsol]
   have hcells:madeCells (zeros t).toArray (Int.toNat cc*(zeros t).length)=((List.replicate (Int.toNat cc) (zeros t)).flatten).toArray:=by
    apply Array.toList_inj.1
    rw[made_cells (by rw[zeros_len hsol];exact Nat.pos_iff_ne_zero.1 hf.pos)]
   rw[hcells]
   have hln:Int.toNat l≤Int.toNat cc:=Int.toNat_le_toNat h1
   have hcl:(List.replicate (Int.toNat l) (zeroG t.o)).flatMap (cl t.o)++(List.replicate (Int.toNat cc-Int.toNat l) (zeros t)).flatten=(List.replicate (Int.toNat cc) (zeros t)).flatten:=by
    rw[List.flatMap_replicate,cl_zeroG,zeros_o,←List.flatten_append,List.replicate_append_replicate]
    congr 2;omega
   have:=newList_ok (e:=e) (F:=F) (w1:=w.alloc (.cells ((List.replicate (Int.toNat cc) (zeros t)).flatten).toArray te)) h hd hp hh (fun b hb=>alloc_same w _ hb) (alloc_size _ _) (alloc_grew _ _) (te:=t.o) (List.replicate (Int.toNat l) (zeroG t.o)) ((List.replicate (Int.toNat cc-Int.toNat l) (zeros t)).flatten) (cap:=Int.toNat cc)
    (fun _=>by rw[hcl];exact alloc_block w _ _) (by rw[hcl];simp[zeros_len hsol,Ty.same_sz (o_same t)]) (by simpa using hln) (fun e=>by rw[e]at hnT;cases hnT)
    (fun r hr=>by rw[List.eq_of_mem_replicate hr];exact ok_zeroG _ (o_solid _ hsol)) (fun r hr=>by rw[List.eq_of_mem_replicate hr];exact fp_zeroG _) (l:=List.replicate (Int.toNat l) t.o.zero) (by rw[List.map_replicate,er_zeroG])
   simpa using this
  ·cases hc
 ·cases hc
end
end
section
theorem rows_u8{w:World}{KS:Nat→Prop}:∀(l:List Int) (rows:List Value),Rows' (RepK w KS (.int .u8)) l rows→rows=l.map (Value.int .u8)
 |[],rows,h=>h
 |x::xs,rows,⟨c1,c2,e,h1,h2⟩=>by
  have h1':c1=[.int .u8 x]:=h1
  rw[e,h1',rows_u8 xs c2 h2];rfl
theorem fold_push:∀(l:List Int) (a:ByteArray),l.foldl (fun r n=>r.push (UInt8.ofNat n.toNat)) a=⟨a.data++(l.map fun n=>UInt8.ofNat n.toNat).toArray⟩
 |[],a=>by cases a;simp
 |x::xs,a=>by
  rw[List.foldl_cons,fold_push xs]
  cases a
  simp[ByteArray.push]
theorem fold_ofBytes(l:List Int):l.foldl (fun r n=>r.push (UInt8.ofNat n.toNat)) ByteArray.empty=ofBytes l:=by
 rw[fold_push]
 have:(ByteArray.empty).data= #[]:=rfl
 rw[this,Array.empty_append];rfl
theorem block_old{w:World}{KS:Nat→Prop}{t:Ty}{g:OwnL t.G}(h:okG w KS (.list true t) g)(hs:t.shared=true):g.rows=[]∨∃a,g.ad=some a∧a.spot=none∧Stand w a (g.rows.flatMap (cl t))∧Rows' (RepK w KS t) (g.rows.map (er t)) (g.rows.flatMap (cl t)):=by
 rcases h with⟨_,h2⟩|⟨b,rest,h1,h2,h3,h4,h5,h6⟩
 ·exact .inl h2
 ·refine .inr ⟨⟨b,0,none⟩,h1,rfl,h4.stand,rows_of_ok _ fun r hr=>okG_repK (fun _ h=>h) t r (by simp[fp_shared t hs r]) (h6 r hr)⟩
section
variable {P:Program} {E:Env} {c:Ctx} {KS:Nat→Prop} {e:GEnv} {F:Fs} {ρ:Roots} {w w':World}
theorem snap_list(h:Inv c KS e F ρ w){x:RV}{v:Value}(hx:RVok w KS ρ e x v){te:Ty}{o:Bool}{t:Ty}{l:List t.D}(hs:(snap ρ te x).run=some ⟨.list o t,l⟩)(ht:t.shared=true):
  ∃ad cap,v= .slice ad l.length cap∧(l=[]∨∃a rows,ad=some a∧a.spot=none∧Stand w a rows∧Rows' (RepK w KS t) l rows):=by
 cases x with
 |v u y=>
  injection hs with hs;cases hs
  obtain⟨hsh,cs,⟨ad,cap,rfl,_,h3⟩,rfl⟩:=hx
  refine⟨ad,cap,rfl,h3.imp id ?_⟩
  rintro⟨a,rows,q1,q2,_,q3,q4⟩
  exact⟨a,rows,q1,q2,q3,q4⟩
 |nl=>
  cases te<;>first|(cases hs;done)|skip
  injection hs with hs;cases hs
  exact⟨none,0,hx,.inl rfl⟩
 |wl p=>
  obtain⟨hd,tu,g,ad,hs',rfl⟩:=hx
  obtain⟨s,hs2,he,_⟩:=rdP_ok h hs
  rw[res_data hd,hs']at hs2;cases hs2
  have hok:okG w KS (.list true tu) g:=(spotD_ok h hd hs').1
  cases he
  refine⟨g.ad,g.cap,by simp[er], ?_⟩
  rcases block_old hok ht with h1|⟨a,h1,h2,h3,h4⟩
  ·left;simp[er,h1]
  ·exact .inr ⟨a,_,h1,h2,h3,h4⟩
 |sv p=>
  obtain⟨hd,s0,hs',hl,rfl⟩:=hx
  obtain⟨s,hs2,he,_⟩:=rdP_ok h hs
  rw[res_data hd,hs']at hs2;cases hs2
  obtain⟨t0,g0,a0⟩:=s0
  cases he;cases hl
 |vw p lo len=>
  obtain⟨hd,tu,g,ad,hs',hlo,ad2,had2,rfl⟩:=hx
  replace hs:=Cm.run_bind_some hs;obtain⟨dd,hr,hs⟩:=hs
  obtain⟨s,hs2,rfl,_⟩:=rdP_ok h hr
  rw[res_data hd,hs']at hs2;cases hs2
  have hok:okG w KS (.list true tu) g:=(spotD_ok h hd hs').1
  replace hs:=(Cm.run_chk hs).2
  injection hs with hs;cases hs
  have hlen:((List.drop lo (er (Ty.list true t) g)).take len).length=len:=by simp[er];omega
  refine⟨ad2,_,by rw[hlen], ?_⟩
  by_cases hl0:len=0
  ·left;subst hl0;simp
  ·right
   rcases block_old hok ht with h1|⟨a,h1,h2,h3,h4⟩
   ·rw[h1]at hlo;simp at hlo;omega
   ·have hcap:g.rows.length≤g.cap:=by
     rcases hok with⟨_,q2⟩|⟨_,_,_,_,q3,_⟩
     ·rw[q2];simp
     ·exact q3.1
    obtain⟨pre,mid,post,e1,e2,e3⟩:=rows_sub (fun x cs h=>repK_len t x cs h) _ _ h4 lo (lo+len) (by omega) (by simpa using hlo)
    rw[e1]at h3
    refine⟨_,mid,by rw[had2 (by omega),h1];rfl,rfl, ?_, ?_⟩
    ·rw[←e2];exact stand_mid h3
    ·have:(List.drop lo (er (Ty.list true t) g)).take len=((g.rows.map (er t)).take (lo+len)).drop lo:=by
      rw[List.drop_take];simp[er]
     rw[this];exact e3
 |rf p=>
  replace hs:=Cm.run_bind_some hs;obtain⟨dd,hr,hs⟩:=hs
  injection hs with hs;cases hs
 |pn=>cases te<;>first|(cases hs;done)|(injection hs with hs;cases hs)
 |_=>cases hs
theorem convert_ok(hE:EnvOK P E)(h:Inv c KS e F ρ w){call:CallT}{bound d src dst:Nat}{ef:Eff}(hd:ef.new=true→getB ρ d=none)(hp:c.pin d=none)(hh:c.hdr d=none){a:Operand}{x:RV}{v:Value}(hx:RVok w KS ρ e x v)
  (hc:(comp E call bound d (.convert src dst a) [x] ρ).run=some ef):Does P (do pure (.value (←convert src dst v))) w (After c KS F ρ ef):=by
 have und:∀{t:TypeId},(E.ty t).isSome=true→∃dd,P.underlying t=some dd:=fun{t} ht=>by
  obtain⟨u,hu⟩:=Option.isSome_iff_exists.1 ht
  obtain⟨dd,hf⟩:=(hE.ty _ _ hu).fact
  exact⟨dd,hf.und⟩
 simp only[comp]at hc
 split at hc
 ·rename_i k k0 n ht
  replace hc:=Cm.run_chk hc;obtain⟨h1,hc⟩:=hc
  injection hc with hc;subst hc
  have:=rvok_int hx;subst this
  obtain⟨dd,hu⟩:=und h1
  have hud:P.underlying dst=some (.int k):=by
   have:=hE.ty _ _ ht
   cases this with
   |int hf=>exact hf.und
  have hrun:(convert src dst (.int k0 n)).run P w= .ok (.int k (k.wrap n)) w:=by
   simp only[convert,Sem.run_bind,run_underlying hu w,run_underlying hud w,Result.andThen_ok,Conv.intToInt,Sem.run_pure]
  exact does_value hrun (After.pure h (rvok_of_int _ _))
 ·rename_i s ht
  replace hc:=Cm.run_chk hc;obtain⟨h1,hc⟩:=hc
  injection hc with hc;subst hc
  have:=rvok_str hx;subst this
  obtain⟨dd,hu⟩:=und h1
  have hud:P.underlying dst=some .string:=by
   have:=hE.ty _ _ ht
   cases this with
   |str hf=>exact hf.und
  have hrun:(convert src dst (.string s)).run P w= .ok (.string s) w:=by
   simp only[convert,Sem.run_bind,run_underlying hu w,run_underlying hud w,Result.andThen_ok,Sem.run_pure]
  exact does_value hrun (After.pure h (rvok_of_str _))
 ·rename_i o s ht
  replace hc:=Cm.run_chk hc;obtain⟨h1,hc⟩:=hc
  injection hc with hc;subst hc
  replace hd:=hd rfl
  have:=rvok_str hx;subst this
  obtain⟨u,hu,hs⟩:=tyIs_ok hE h1
  have hus:=str_ty hu hs
  have hud:=hE.ty _ _ ht
  obtain⟨el,te',hund,hte,hs'⟩:=list_ty hud (o:=o) (te:= .int .u8) (Ty.same_refl _)
  have hel:P.underlying el=some (.int .u8):=by
   cases hte with
   |int hf=>cases kindB_eq (a:= .u8) hs';exact hf.und
   |_=>cases hs'
  refine does_value (Lib.run_convert_string_bytes w src dst el s hus hund hel) ?_
  have hlen:(bytesOf s).length=s.size:=by simp[bytesOf]
  have hge:s.size≤grownCap w s.size 0 el:=grownCap_ge _ _ _ _
  have hsz:=Lib.bytesWorld_size w el s
  have hnew:=Lib.bytesWorld_at_new w el s
  have hcl:(bytesOf s).flatMap (cl (.int .u8))++List.replicate (grownCap w s.size 0 el-s.size) (Value.int .u8 0)=(Lib.bytesCells w el s).toList:=by
   simp only[Lib.bytesCells,bytesOf,cl,List.flatMap_map,Array.toList_append,Array.toList_map,Array.toList_replicate]
   congr 1
   induction s.data.toList with
   |nil=>rfl
   |cons x xs ih=>simp[ih]
  have hszc:(Lib.bytesCells w el s).size=grownCap w s.size 0 el:=by
   have:s.data.size=s.size:=rfl
   simp[Lib.bytesCells,this];omega
  have hR:=newList_ok (e:=e) (F:=F) (w1:=Lib.bytesWorld w el s) h hd hp hh (fun b hb=>by
    exact Same.of (Lib.bytesWorld_at_old w el s b hb)) hsz ⟨by omega,rfl,rfl⟩
   (te:= .int .u8) (bytesOf s) (List.replicate (grownCap w s.size 0 el-s.size) (Value.int .u8 0)) (cap:=grownCap w s.size 0 el)
   (fun _=>by
    rw[hcl]
    refine⟨⟨el,by simp only[World.shape?,hnew];simp⟩,fun j v hj=> ?_,fun j hj=> ?_⟩
    ·simp only[World.cell?,Nat.zero_add]
     rw[hnew];simpa using hj
    ·simp only[World.frozen?]
     rw[hnew]
     simp only[Array.length_toList]at hj
     simp;omega)
   (by rw[hcl,Array.length_toList,hszc];simp[Ty.sz]) (by rw[hlen];exact hge) (fun e=>by cases e) (fun r _=>trivial) (fun r _=>rfl) (l:=bytesOf s) (by simp[er])
  rw[hlen]at hR
  exact hR
 ·have ht:E.ty dst=some .str:=by assumption
  split at hc
  ·rename_i o hts
   replace hc:=Cm.run_bind_some hc;obtain⟨vv,hv,hc⟩:=hc
   split at hc
   ·rename_i oo vl
    injection hc with hc;subst hc
    obtain⟨ad,cap,rfl,hl⟩:=snap_list h hx hv rfl
    have hud:P.underlying dst=some .string:=by
     have:=hE.ty _ _ ht
     cases this with
     |str hf=>exact hf.und
    obtain⟨el,te',hund,hte,hs'⟩:=list_ty (hE.ty _ _ hts) (o:=o) (te:= .int .u8) (Ty.same_refl _)
    have hel:P.underlying el=some (.int .u8):=by
     cases hte with
     |int hf=>cases kindB_eq (a:= .u8) hs';exact hf.und
     |_=>cases hs'
    have hrun:∃s,s=ofBytes vl∧(Conv.bytesToString (.slice ad (List.length (α:=Int) vl) cap)).run P w= .ok (.string s) w:=by
     rcases hl with rfl|⟨a,rows,rfl,h1,h2,h3⟩
     ·refine⟨_,rfl, ?_⟩
      cases ad with
      |none=>rfl
      |some a=>
       have:=run_bytesToString (P:=P) w a 0 cap [] (by simp[loadCells,loadCellsFrom])
       exact this
     ·refine⟨_,rfl, ?_⟩
      have hr:=rows_u8 _ _ h3
      rw[←fold_ofBytes]
      refine run_bytesToString w a _ cap vl ?_
      have:=run_loadCells_list (P:=P) w a rows (fun j v hj=>by
       have:=h2 j v hj
       rw[add_plus h1];exact this)
      rw[hr,List.length_map]at this
      exact this
    obtain⟨s,rfl,hrun⟩:=hrun
    refine does_value ((run_convert_bytes_string w src dst el _ _ _ hund hel hud).trans hrun) ?_
    exact After.pure h (rvok_of_str _)
   ·cases hc
  ·cases hc
 ·cases hc
end
end
section
theorem allKills_nil(ρ:Roots):allKills [] ρ=[]:=rfl
section
variable {P:Program} {τ:Tabs} {E:Env} {c:Ctx} {KS:Nat→Prop} {e:GEnv} {F:Fs} {ρ ρ':Roots} {w w':World}
theorem Inv.nopin(h:Inv c KS e F ρ w){n:Nat}{t:Ty}{x:t.D}{pd:Option (Path×(te:Ty)×List te.D)}(hr:getB ρ n=some (.data false t x pd)):∀A,c.pin n≠some A:=fun A hA=>by
 obtain⟨ad,g,q1,q2,q3,q4,q5,q6⟩:=h.root hr
 obtain⟨_,h2⟩:=h.pin n A hA
 obtain⟨⟨g2,h3⟩,_⟩:=h2 _ _ _ _ hr
 rw[q1]at h3;cases h3
 have:=(q4 A rfl).1;cases this
theorem Inv.merge(h:Inv c KS e F ρ w){hs:List Nat}(nh:NoHit (hs.map .all) F ρ)
  (hr:∀n∈hs,∃t x,getB ρ n=some (.data false t x none))
  {d:Nat} (hd:d∉hs) (hd0:getB ρ d=none) (hp:c.pin d=none) (hpd:c.hdr d=none)
  (hsame:∀b,b<w.heap.size→(∀n∈hs,b∉blk ρ e n)→Same w w' b) (hz:Grew w w')
  {X:Nat→Prop} (hX:∀b,X b→∃n∈hs,b∈blk ρ e n)
  {re:Bool} {t:Ty} {g:t.G} {ad:Option Addr} (hok:okG w' (fun b=>KS b∨X b) t g) (hrow:re=true→∃A,ad=some A∧RowAt w' A (cl t g)) (hrow':re=false→ad=none)
  (hn:((ad.map (·.block)).toList++fp t g).Nodup)
  (hf:∀b∈(ad.map (·.block)).toList++fp t g,¬X b∧((w.heap.size≤b∧b<w'.heap.size)∨∃n∈hs,b∈blk ρ e n))
  (hρd:getB ρ' d=some (.data re t (er t g) none)) (hρh:∀n∈hs,getB ρ' n=none) (hρ:∀n,n∉hs→n≠d→getB ρ' n=getB ρ n):
  Inv c (fun b=>KS b∨X b) (e.set d ⟨ad,t,g⟩) F ρ' w':=by
 have hbd:blk ρ' (e.set d ⟨ad,t,g⟩) d=(ad.map (·.block)).toList++fp t g:=by simp[blk,hρd,GEnv.set]
 have hbh:∀n∈hs,blk ρ' (e.set d ⟨ad,t,g⟩) n=[]:=fun n hn=>by simp[blk,hρh n hn]
 have hnp:∀n∈hs,∀A,c.pin n≠some A:=fun n hn=>by
  obtain⟨t,x,h1⟩:=hr n hn
  exact h.nopin h1
 have hks:∀b,KS b→Same w w' b:=fun b hb=>hsame b (h.lt b hb) fun n _ hbn=>h.ks n b hbn hb
 refine h.step (S:=fun n=>n∈hs∨n=d) nh
  {reads:=Reads.off (S:=fun n=>n∈hs∨n=d) h nh (fun n hn=>hn.elim (fun e=> .inr (List.mem_map.2 ⟨n,e,rfl⟩)) (fun e=> .inl (by subst e;exact hd0)))
    (fun n hn=>hρ n (fun e=>hn (.inl e)) (fun e=>hn (.inr e))) (fun n hn=>⟨by simp[GEnv.set,show n≠d from fun e=>hn (.inr e)],rfl,rfl⟩) (fun b hb=> .inl hb) (fun b hb=>(hks b hb).2.2)
   out:=fun n hn=>⟨hρ n (fun e=>hn (.inl e)) (fun e=>hn (.inr e)),by simp[GEnv.set,show n≠d from fun e=>hn (.inr e)],rfl,rfl,by simp[GEnv.set,show n≠d from fun e=>hn (.inr e)]⟩
   same:=fun n hn b hb=>hsame b (h.blt n b hb) fun m hm hbm=>h.dj m n (fun e=>hn (.inl (e▸hm))) b hbm hb
   size:=hz
   roots:= ?_
   nd:= ?_
   dj:= ?_
   src:= ?_
   ksn:=fun b hb=>hb.imp id fun hb=> .inr (by
    obtain⟨n,hn,hbn⟩:=hX b hb
    exact⟨n,.inl hn,hbn,fun A hA=>absurd hA (hnp n hn A)⟩)
   ksd:= ?_
   pin:= ?_
   hdr:= ?_
   frm:=fun b hb=> ?_}
 ·intro n hn
  rcases hn with hn|rfl
  ·simp only[RootOK,hρh n hn]
  ·simp only[RootOK,hρd]
   exact⟨ad,g,by simp[GEnv.set],rfl,hok,hrow,hrow',by simp[GEnv.set]⟩
 ·intro n hn
  rcases hn with hn|rfl
  ·rw[hbh n hn];simp
  ·rw[hbd];assumption
 ·intro n m hn hm hnm b hb1 hb2
  rcases hn with hn|rfl
  ·rw[hbh n hn]at hb1;cases hb1
  ·rcases hm with hm|rfl
   ·rw[hbh m hm]at hb2;cases hb2
   ·exact hnm rfl
 ·intro n hn b hb
  rcases hn with hn|rfl
  ·rw[hbh n hn]at hb;cases hb
  ·rw[hbd]at hb
   rcases(hf b hb).2 with h1|⟨m,hm,h1⟩
   ·exact .inl h1
   ·exact .inr ⟨m,.inl hm,h1,.inr fun A hA=>absurd hA (hnp m hm A)⟩
 ·intro n hn b hb hkb
  rcases hn with hn|rfl
  ·rw[hbh n hn]at hb;cases hb
  ·rw[hbd]at hb
   obtain⟨h1,h2⟩:=hf b hb
   rcases hkb with hkb|hkb
   ·rcases h2 with⟨h2,_⟩|⟨m,hm,h2⟩
    ·have:=h.lt b hkb;omega
    ·exact h.ks m b h2 hkb
   ·exact h1 hkb
 ·intro n hn A hA
  rcases hn with hn|rfl
  ·exact absurd hA (hnp n hn A)
  ·rw[hp]at hA;cases hA
 ·intro n hn hh hq re' t'' x'' pd'' hd'
  rcases hn with hn|rfl
  ·rw[hρh n hn]at hd';cases hd'
  ·rw[hpd]at hq;cases hq
 ·by_cases hin:∃n∈hs,b∈blk ρ e n
  ·obtain⟨n,hn,hbn⟩:=hin
   rcases h.may n b hbn with h1|h1|⟨A,h1,_⟩
   ·exact .inr (.inl h1)
   ·exact .inr (.inr (.inl h1))
   ·exact absurd h1 (hnp n hn A)
  ·exact .inl (hsame b hb fun n hn hbn=>hin ⟨n,hn,hbn⟩)
theorem Inv.drops{hs:List Nat}:∀{ρ ρ':Roots} {KS:Nat→Prop} (h:Inv c KS e F ρ w) (nh:NoHit (hs.map .all) F ρ) (hr:∀n∈hs,∃t x,getB ρ n=some (.data false t x none))
  {X:Nat→Prop} (hX:∀b,X b→∃n∈hs,b∈blk ρ e n)
  (hρh:∀n∈hs,getB ρ' n=none) (hρ:∀n,n∉hs→getB ρ' n=getB ρ n),Inv c (fun b=>KS b∨X b) e F ρ' w:=by
 intro ρ ρ' KS h nh hr X hX hρh hρ
 have hnp:∀n∈hs,∀A,c.pin n≠some A:=fun n hn=>by
  obtain⟨t,x,h1⟩:=hr n hn
  exact h.nopin h1
 have hbh:∀n∈hs,blk ρ' e n=[]:=fun n hn=>by simp[blk,hρh n hn]
 refine h.step (S:=fun n=>n∈hs) nh
  {reads:=Reads.off (S:=fun n=>n∈hs) h nh (fun n hn=> .inr (List.mem_map.2 ⟨n,hn,rfl⟩)) hρ (fun n hn=>⟨rfl,rfl,rfl⟩) (fun b hb=> .inl hb) (fun _ _ _=>rfl)
   out:=fun n hn=>⟨hρ n hn,rfl,rfl,rfl,rfl⟩
   same:=fun _ _ b _=>Same.refl w b
   size:=Grew.refl _
   roots:=fun n hn=>by simp only[RootOK,hρh n hn]
   nd:=fun n hn=>by rw[hbh n hn];simp
   dj:=fun n m hn hm hnm b hb=>by rw[hbh n hn]at hb;cases hb
   src:=fun n hn b hb=>by rw[hbh n hn]at hb;cases hb
   ksn:=fun b hb=>hb.imp id fun hb=> .inr (by
    obtain⟨n,hn,hbn⟩:=hX b hb
    exact⟨n,hn,hbn,fun A hA=>absurd hA (hnp n hn A)⟩)
   ksd:=fun n hn b hb=>by rw[hbh n hn]at hb;cases hb
   pin:=fun n hn A hA=>absurd hA (hnp n hn A)
   hdr:=fun n hn hh hp' re t x pd hd=>by rw[hρh n hn]at hd;cases hd
   frm:=fun b _=> .inl (Same.refl w b)}
end
structure HG where
 n:Nat
 t:Ty
 g:t.G
def HG.d(x:HG):Dyn:=⟨x.t,er x.t x.g⟩
def hid:List HG→Roots
 |[]=>[]
 |x::l=>(x.n,some (.data false x.t (er x.t x.g) none))::hid l
theorem getB_hid_out{n:Nat}{ρ:Roots}:∀{H:List HG},(∀x∈H,x.n≠n)→getB (hid H++ρ) n=getB ρ n
 |[],_=>rfl
 |x::H,h=>by
  rw[hid,List.cons_append,getB_cons_ne (Ne.symm (h x (by simp)))]
  exact getB_hid_out fun y hy=>h y (by simp[hy])
theorem getB_hid_in{ρ:Roots}:∀{H:List HG},(H.map (·.n)).Nodup→∀x∈H,getB (hid H++ρ) x.n=some (.data false x.t (er x.t x.g) none)
 |[],_,x,h=>by cases h
 |y::H,hn,x,h=>by
  simp only[List.map_cons,List.nodup_cons]at hn
  rcases List.mem_cons.1 h with rfl|h
  ·rw[hid,List.cons_append,getB_cons_eq]
  ·have:x.n≠y.n:=fun e=>hn.1 (List.mem_map.2 ⟨x,h,e⟩)
   rw[hid,List.cons_append,getB_cons_ne this]
   exact getB_hid_in hn.2 x h
theorem hid_noal(H:List HG):∀y∈hid H,∀q,y.2≠some (.al q):=by
 induction H with
 |nil=>intro y hy;cases hy
 |cons x H ih=>
  intro y hy q
  rcases List.mem_cons.1 hy with rfl|hy
  ·simp
  ·exact ih y hy q
theorem getB_purgesB_mem{a b:List Kill}(h:∀k,k∈a↔k∈b)(ρ:Roots)(n:Nat):getB (purgesB a ρ) n=getB (purgesB b ρ) n:=by
 rcases getB_purgesB a ρ n with⟨h1,h2⟩|⟨h1,q,k,h2,h3,h4⟩<;>rcases getB_purgesB b ρ n with⟨g1,g2⟩|⟨g1,q',k',g2,g3,g4⟩
 ·rw[h1,g1]
 ·have:=h2 q' g2 k' ((h k').2 g3);rw[this]at g4;cases g4
 ·have:=g2 q h2 k ((h k).1 h3);rw[this]at h4;cases h4
 ·rw[h1,g1]
theorem getB_app_cases{rs ρ:Roots}{n:Nat}:(∃y∈rs,y.1=n)∨getB (rs++ρ) n=getB ρ n:=by
 by_cases h:∃y∈rs,y.1=n
 ·exact .inl h
 ·exact .inr (getB_append rs ρ n fun y hy e=>h ⟨y,hy,e⟩)
theorem getB_app_congr{n:Nat}{ρ ρ':Roots}(h:getB ρ n=getB ρ' n):∀rs:Roots,getB (rs++ρ) n=getB (rs++ρ') n
 |[]=>h
 |(m,b)::rs=>by
  by_cases hn:n=m
  ·subst hn;simp only[List.cons_append,getB_cons_eq]
  ·simp only[List.cons_append,getB_cons_ne hn];exact getB_app_congr h rs
structure Taken (N:Nat) (c:Ctx) (F:Fs) (ρ:Roots) (w:World) (KS:Nat→Prop) (e:GEnv) (rs:Roots) (kl:List Kill) (H:List HG):Prop where
 inv:Inv c KS e (purgesF (allKills kl ρ) F) (hid H++(rs++purgesB kl ρ)) w
 gr:∀x∈H,e.gr x.n=some ⟨none,x.t,x.g⟩
 nd:(H.map (·.n)).Nodup
 fr:∀x∈H,getB ρ x.n=none∧N≤x.n
 noal:∀y∈rs,(∀q,y.2≠some (.al q))∧getB ρ y.1≠none
section
variable {P:Program} {τ:Tabs} {E:Env} {c:Ctx} {KS:Nat→Prop} {e:GEnv} {F:Fs} {ρ ρ':Roots} {w w':World} {rs:Roots} {kl:List Kill} {H:List HG} {N:Nat}
theorem Taken.start(h:Inv c KS e F ρ w):Taken N c F ρ w KS e [] [] []:=
 ⟨by simpa[hid,allKills_nil,purgesF_nil,purgesB]using h,by simp,by simp,by simp,by simp⟩
theorem CtxOK.none(hC:CtxOK τ c){n:Nat}(h:32768≤n):c.pin n=none∧c.hdr n=none:=by
 constructor
 ·cases hq:c.pin n with
  |none=>rfl
  |some A=>have:=hC.pin _ _ hq;omega
 ·cases hq:c.hdr n with
  |none=>rfl
  |some A=>have:=(hC.hdr _ _ hq).1;omega
theorem Taken.sub(T:Taken N c F ρ w KS e rs kl H):∀n re t x pd,getB (rs++ρ) n=some (.data re t x pd)→getB (hid H++(rs++purgesB kl ρ)) n=some (.data re t x pd):=fun n re t x pd hn=>by
 rw[getB_hid_out]
 ·exact getB_app_data rs ρ hn
 ·intro x hx e
  have h1:=(T.fr x hx).1
  rcases getB_app_cases (rs:=rs) (ρ:=ρ) (n:=n)with⟨y,hy,rfl⟩|h2
  ·exact(T.noal y hy).2 (by rw[←e];exact h1)
  ·rw[h2,←e,h1]at hn;cases hn
theorem fresh_eq{x:RV}(h:fresh kl ρ x=true):((allKills kl ρ).any fun k=>hit k x)=false:=by simpa[fresh]using h
theorem Taken.take(hC:CtxOK τ c)(hN:32768≤N)(T:Taken N c F ρ w KS e rs kl H){x:RV}{v:Value}(hx:RVok w KS (hid H++(rs++purgesB kl ρ)) e x v){te:Ty}{d:Dyn}{rs':Roots}{kl':List Kill}(ht:(Eng.take (rs++ρ) te x).run=some (d,rs',kl')):
  ∃KS' e' y,(∀b,KS b→KS' b)∧Taken N c F ρ w KS' e' (rs'++rs) (kl'++kl) (y::H)∧d=y.d∧v.cells=(cl y.t y.g).toArray:=by
 obtain⟨n1,m1,h1⟩:=fresh_name (hid H++(rs++purgesB kl ρ)) N
 obtain⟨n2,_,h2⟩:=fresh_name ρ 0
 obtain⟨hd,rfl⟩:∃hd,hd=max n1 n2:=⟨_,rfl⟩
 have hh:=h1 (max n1 n2) (by omega)
 have hhρ:=h2 (max n1 n2) (by omega)
 have h32:32768≤max n1 n2:=by omega
 have hN2:N≤max n1 n2:=by omega
 generalize max n1 n2=hd at*
 clear h1 h2 m1
 have hnH:∀x∈H,x.n≠hd:=fun x hx e=>by
  have:=getB_hid_in (ρ:=rs++purgesB kl ρ) T.nd x hx
  rw[e,hh]at this;cases this
 obtain⟨hp,hph⟩:=hC.none h32
 obtain⟨KS',e',g',k1,k2,k3,k4,k5,k6,k7⟩:=take_ok T.inv T.sub hx ht hh hp hph hC.pin
 have hrs':∀y∈rs',(∀q,y.2≠some (.al q))∧getB ρ y.1≠none:=fun y hy=>by
  obtain⟨q1,q2⟩:=take_noal ht y hy
  refine⟨q1, ?_⟩
  rcases getB_app_cases (rs:=rs) (ρ:=ρ) (n:=y.1)with⟨z,hz,hzn⟩|q3
  ·rw[←hzn];exact(T.noal z hz).2
  ·rw[←q3];exact q2
 have hrsH:∀x∈H,∀y∈rs',y.1≠x.n:=fun x hx y hy e=>(hrs' y hy).2 (by rw[e];exact(T.fr x hx).1)
 refine⟨KS',e',⟨hd,d.1,g'⟩,k1,⟨?_, ?_, ?_, ?_, ?_⟩,by simp only[HG.d];rw[←k2],k4⟩
 ·rw[purgesF_append]at k5
  refine(k5.more (L:=allKills (kl'++kl) ρ) ?_).congr ?_
  ·intro x hx
   simp only[allKills,List.mem_append,List.flatMap_append]at hx ⊢
   rcases hx with(hx|hx)|hx|hx
   ·exact .inl (.inr hx)
   ·exact .inr (.inr hx)
   ·exact .inl (.inl hx)
   ·right;left
    obtain⟨k,hk,hx⟩:=List.mem_flatMap.1 hx
    rw[aliasKills_app k _ _ (hid_noal H),aliasKills_app k rs _ (fun y hy=>(T.noal y hy).1)]at hx
    exact List.mem_flatMap.2 ⟨k,hk,aliasKills_purgesB k kl ρ x hx⟩
  ·intro n
   have hpA:purgesB kl' (hid H++(rs++purgesB kl ρ))=hid H++(rs++purgesB (kl++kl') ρ):=by
    have key:∀(ks:List Kill) (ρ0:Roots),purgesB ks (hid H++(rs++ρ0))=hid H++(rs++purgesB ks ρ0):=by
     intro ks
     induction ks with
     |nil=>intro ρ0;rfl
     |cons k ks ih=>
      intro ρ0
      simp only[purgesB]
      rw[purgeB_app k _ _ (hid_noal H),purgeB_app k rs _ (fun y hy=>(T.noal y hy).1),ih]
    rw[key,purgesB_app]
   rw[hpA]
   simp only[hid,List.cons_append,List.append_assoc]
   by_cases hn:n=hd
   ·subst hn;rw[getB_cons_eq,getB_cons_eq]
   ·rw[getB_cons_ne hn,getB_cons_ne hn]
    by_cases hin:∃x∈H,x.n=n
    ·obtain⟨x,hx,rfl⟩:=hin
     rw[getB_hid_in T.nd x hx,getB_append rs' _ _ (hrsH x hx),getB_hid_in T.nd x hx]
    ·have hout:∀x∈H,x.n≠n:=fun x hx e=>hin ⟨x,hx,e⟩
     rw[getB_hid_out hout]
     refine getB_app_congr ?_ rs'
     rw[getB_hid_out hout]
     exact getB_app_congr (getB_purgesB_mem (fun k=>by simp only[List.mem_append];exact Or.comm) ρ n) rs
 ·intro x hx
  rcases List.mem_cons.1 hx with rfl|hx
  ·exact k3
  ·rw[k7 _ (hnH x hx) (hrsH x hx)];exact T.gr x hx
 ·simp only[List.map_cons,List.nodup_cons]
  refine⟨fun hm=> ?_,T.nd⟩
  obtain⟨x,hx,e⟩:=List.mem_map.1 hm
  exact hnH x hx e
 ·intro x hx
  rcases List.mem_cons.1 hx with rfl|hx
  ·exact⟨hhρ,hN2⟩
  ·exact T.fr x hx
 ·intro y hy
  rcases List.mem_append.1 hy with hy|hy
  ·exact hrs' y hy
  ·exact T.noal y hy
theorem Taken.zero(hC:CtxOK τ c)(hN:32768≤N)(T:Taken N c F ρ w KS e rs kl H){t:Ty}(ht:t.solid=true):
  ∃e' y,Taken N c F ρ w KS e' rs kl (y::H)∧y.d=⟨t,t.zero⟩∧cl y.t y.g=zeros t:=by
 obtain⟨n1,m1,h1⟩:=fresh_name (hid H++(rs++purgesB kl ρ)) N
 obtain⟨n2,_,h2⟩:=fresh_name ρ 0
 have hh:=h1 (max n1 n2) (by omega)
 have hhρ:=h2 (max n1 n2) (by omega)
 have h32:32768≤max n1 n2:=by omega
 have hN2:N≤max n1 n2:=by omega
 generalize max n1 n2=hd at*
 clear h1 h2 m1
 have hnH:∀x∈H,x.n≠hd:=fun x hx e=>by
  have:=getB_hid_in (ρ:=rs++purgesB kl ρ) T.nd x hx
  rw[e,hh]at this;cases this
 obtain⟨hp,hph⟩:=hC.none h32
 refine⟨_,⟨hd,t,zeroG t⟩,⟨T.inv.hide hh hp hph (ok_zeroG t ht) (fp_zeroG t), ?_, ?_, ?_,T.noal⟩,by simp[HG.d,er_zeroG],cl_zeroG t⟩
 ·intro x hx
  rcases List.mem_cons.1 hx with rfl|hx
  ·simp[GEnv.set]
  ·simp only[GEnv.set,hnH x hx,if_false];exact T.gr x hx
 ·simp only[List.map_cons,List.nodup_cons]
  refine⟨fun hm=> ?_,T.nd⟩
  obtain⟨x,hx,e⟩:=List.mem_map.1 hm
  exact hnH x hx e
 ·intro x hx
  rcases List.mem_cons.1 hx with rfl|hx
  ·exact⟨hhρ,hN2⟩
  ·exact T.fr x hx
theorem getB_none_base{n:Nat}(hn:getB ρ n=none)(hrs:∀y∈rs,getB ρ y.1≠none):getB (rs++purgesB kl ρ) n=none:=by
 rw[getB_append _ _ _ (fun y hy e=>hrs y hy (by rw[e];exact hn))]
 exact none_purgesB hn
theorem Taken.nohit{KS0:Nat→Prop}{e0:GEnv}(h0:Inv c KS0 e0 F ρ w)(T:Taken N c F ρ w KS e rs kl H):NoHit ((H.map (·.n)).map .all) (purgesF (allKills kl ρ) F) (hid H++(rs++purgesB kl ρ)):=by
 have key:∀x∈H,NoHit [.all x.n] (purgesF (allKills kl ρ) F) (hid H++(rs++purgesB kl ρ)):=fun x hx=>by
  refine((h0.nohit (T.fr x hx).1).purge (allKills kl ρ) kl).roots fun n q hq=> ?_
  by_cases hin:∃x∈H,x.n=n
  ·obtain⟨x,hx,rfl⟩:=hin
   rw[getB_hid_in T.nd x hx]at hq;cases hq
  ·rw[getB_hid_out fun x hx e=>hin ⟨x,hx,e⟩]at hq
   by_cases hin2:∃y∈rs,y.1=n
   ·exfalso
    have key:∀(l:Roots),(∃y∈l,y.1=n)→(∀y∈l,∀q,y.2≠some (.al q))→∀ρ1,getB (l++ρ1) n≠some (.al q):=by
     intro l
     induction l with
     |nil=>rintro⟨y,hy,_⟩;cases hy
     |cons z l ih=>
      intro hex hno ρ1
      obtain⟨m,b⟩:=z
      by_cases hm:n=m
      ·subst hm;rw[List.cons_append,getB_cons_eq];exact hno (n,b) (by simp) q
      ·rw[List.cons_append,getB_cons_ne hm]
       refine ih ?_ (fun y hy=>hno y (by simp[hy])) ρ1
       obtain⟨y,hy,e⟩:=hex
       rcases List.mem_cons.1 hy with rfl|hy
       ·exact absurd e.symm hm
       ·exact⟨y,hy,e⟩
    exact key rs hin2 (fun y hy=>(T.noal y hy).1) _ hq
   ·rw[getB_append _ _ _ fun y hy e=>hin2 ⟨y,hy,e⟩]at hq;exact hq
 refine⟨fun p hp t k hk=> ?_,fun n q hq k hk=> ?_⟩
 ·obtain⟨m,hm,rfl⟩:=List.mem_map.1 hk
  obtain⟨x,hx,rfl⟩:=List.mem_map.1 hm
  exact(key x hx).regs p hp t _ (by simp)
 ·obtain⟨m,hm,rfl⟩:=List.mem_map.1 hk
  obtain⟨x,hx,rfl⟩:=List.mem_map.1 hm
  exact(key x hx).als n q hq _ (by simp)
theorem Taken.into{KS0:Nat→Prop}{e0:GEnv}(hC:CtxOK τ c)(h0:Inv c KS0 e0 F ρ w)(hKS:∀b,KS0 b→KS b)(T:Taken N c F ρ w KS e rs kl H){d:Nat}(hd32:32768≤d)(hdN:d<N)(hd0:getB ρ d=none)
  (hsame:∀b,b<w.heap.size→(∀x∈H,b∉fp x.t x.g)→Same w w' b) (hz:Grew w w')
  {X:Nat→Prop} (hX:∀b,X b→∃x∈H,b∈fp x.t x.g)
  {re:Bool} {t:Ty} {g:t.G} {ad:Option Addr} (hok:okG w' (fun b=>KS b∨X b) t g) (hrow:re=true→∃A,ad=some A∧RowAt w' A (cl t g)) (hrow':re=false→ad=none)
  (hn:((ad.map (·.block)).toList++fp t g).Nodup)
  (hf:∀b∈(ad.map (·.block)).toList++fp t g,¬X b∧((w.heap.size≤b∧b<w'.heap.size)∨∃x∈H,b∈fp x.t x.g))
  {x:t.D} (hx:er t g=x) {rv:RV} {v:Value} (hv:RVok w' (fun b=>KS b∨X b) ((d,some (.data re t x none))::(rs++purgesB kl ρ)) (e.set d ⟨ad,t,g⟩) rv v):
  After c KS0 F ρ {new:=true,rv:=rv,rs:=(d,some (.data re t x none))::rs,kill:=kl} v w':=by
 subst hx
 have hbx:∀x∈H,blk (hid H++(rs++purgesB kl ρ)) e x.n=fp x.t x.g:=fun x hx=>by
  have h1:=getB_hid_in (ρ:=rs++purgesB kl ρ) T.nd x hx
  obtain⟨ad,g,q1,q2,q3,q4,q5,q6⟩:=T.inv.root h1
  have:=T.gr x hx
  rw[this]at q1
  cases q1
  have hr:=T.inv.roots x.n
  simp only[RootOK,h1]at hr
  obtain⟨_,_,_,_,_,_,_,hpb⟩:=hr
  rw[q6,hpb];simp
 obtain⟨hp,hpd⟩:=hC.none hd32
 refine⟨_,_,fun b hb=> .inl (hKS b hb),hv, ?_⟩
 refine Inv.merge (hs:=H.map (·.n)) T.inv (T.nohit h0) ?_ ?_ ?_ hp hpd ?_ hz ?_ hok hrow hrow' hn ?_ ?_ ?_ ?_
 ·intro n hn
  obtain⟨x,hx,rfl⟩:=List.mem_map.1 hn
  exact⟨_,_,getB_hid_in T.nd x hx⟩
 ·intro hm
  obtain⟨x,hx,rfl⟩:=List.mem_map.1 hm
  have:=(T.fr x hx).2
  omega
 ·rw[getB_hid_out]
  ·exact getB_none_base hd0 fun y hy=>(T.noal y hy).2
  ·intro x hx e
   have:=(T.fr x hx).2
   omega
 ·intro b hb hnb
  refine hsame b hb fun x hx hbx'=>hnb x.n (List.mem_map.2 ⟨x,hx,rfl⟩) ?_
  rw[hbx x hx];exact hbx'
 ·intro b hb
  obtain⟨x,hx,h1⟩:=hX b hb
  exact⟨x.n,List.mem_map.2 ⟨x,hx,rfl⟩,by rw[hbx x hx];exact h1⟩
 ·intro b hb
  obtain⟨h1,h2⟩:=hf b hb
  refine⟨h1,h2.imp id ?_⟩
  rintro⟨x,hx,h3⟩
  exact⟨x.n,List.mem_map.2 ⟨x,hx,rfl⟩,by rw[hbx x hx];exact h3⟩
 ·simp only[List.cons_append,getB_cons_eq]
 ·intro n hn
  obtain⟨x,hx,rfl⟩:=List.mem_map.1 hn
  have h2:=(T.fr x hx).2
  simp only[List.cons_append]
  rw[getB_cons_ne (by omega)]
  exact getB_none_base (T.fr x hx).1 fun y hy=>(T.noal y hy).2
 ·intro n h1 h2
  simp only[List.cons_append]
  rw[getB_cons_ne h2,getB_hid_out fun x hx e=>h1 (List.mem_map.2 ⟨x,hx,e⟩)]
theorem Taken.plain{KS0:Nat→Prop}{e0:GEnv}(h0:Inv c KS0 e0 F ρ w)(hKS:∀b,KS0 b→KS b)(T:Taken N c F ρ w KS e rs kl H)
  {rv:RV} {v:Value} (hv:RVok w KS (rs++purgesB kl ρ) e rv v) {b:Bool}:
  After c KS0 F ρ {new:=b,rv:=rv,rs:=rs,kill:=kl} v w:=by
 have hI:=T.inv.drops (ρ':=rs++purgesB kl ρ) (hs:=H.map (·.n)) (X:=fun _=>False) (T.nohit h0) (fun n hn=>by
   obtain⟨x,hx,rfl⟩:=List.mem_map.1 hn
   exact⟨_,_,getB_hid_in T.nd x hx⟩) (fun b hb=>hb.elim) (fun n hn=>by
   obtain⟨x,hx,rfl⟩:=List.mem_map.1 hn
   exact getB_none_base (T.fr x hx).1 fun y hy=>(T.noal y hy).2) (fun n hn=>by
   rw[getB_hid_out fun x hx e=>hn (List.mem_map.2 ⟨x,hx,e⟩)])
 have e1:(fun b=>KS b∨False)=KS:=by funext b;simp
 rw[e1]at hI
 exact⟨KS,e,hKS,hv,hI⟩
theorem Taken.nodup(T:Taken N c F ρ w KS e rs kl H):(H.flatMap fun x=>fp x.t x.g).Nodup:=by
 have hbx:∀x∈H,blk (hid H++(rs++purgesB kl ρ)) e x.n=fp x.t x.g:=fun x hx=>by
  have h1:=getB_hid_in (ρ:=rs++purgesB kl ρ) T.nd x hx
  obtain⟨ad,g,q1,q2,q3,q4,q5,q6⟩:=T.inv.root h1
  have:=T.gr x hx
  rw[this]at q1
  cases q1
  have hr:=T.inv.roots x.n
  simp only[RootOK,h1]at hr
  obtain⟨_,_,_,_,_,_,_,hpb⟩:=hr
  rw[q6,hpb];simp
 have key:∀L:List HG,(∀x∈L,x∈H)→(L.map (·.n)).Nodup→(L.flatMap fun x=>fp x.t x.g).Nodup:=by
  intro L
  induction L with
  |nil=>intro _ _;simp
  |cons x L ih=>
   intro hs hn
   simp only[List.map_cons,List.nodup_cons]at hn
   simp only[List.flatMap_cons]
   refine List.nodup_append.2 ⟨?_,ih (fun y hy=>hs y (by simp[hy])) hn.2,fun a ha b hb e0=> ?_⟩
   ·rw[←hbx x (hs x (by simp))];exact T.inv.nd x.n
   ·subst e0
    obtain⟨y,hy,hay⟩:=List.mem_flatMap.1 hb
    have hne:x.n≠y.n:=fun e=>hn.1 (List.mem_map.2 ⟨y,hy,e.symm⟩)
    rw[←hbx x (hs x (by simp))]at ha
    rw[←hbx y (hs y (by simp[hy]))]at hay
    exact T.inv.dj _ _ hne a ha hay
 exact key H (fun _ h=>h) T.nd
theorem Taken.each(T:Taken N c F ρ w KS e rs kl H):∀x∈H,okG w KS x.t x.g∧∀b∈fp x.t x.g,b<w.heap.size∧¬KS b:=fun x hx=>by
 have h1:=getB_hid_in (ρ:=rs++purgesB kl ρ) T.nd x hx
 obtain⟨ad,g,q1,q2,q3,q4,q5,q6⟩:=T.inv.root h1
 have:=T.gr x hx
 rw[this]at q1
 cases q1
 refine⟨q3,fun b hb=> ?_⟩
 have hb':b∈blk (hid H++(rs++purgesB kl ρ)) e x.n:=by rw[q6];simp[hb]
 exact⟨T.inv.blt _ b hb',T.inv.ks _ b hb'⟩
theorem Taken.pop{p:Regs×Act}(T:Taken N c (p::F) ρ w KS e rs kl H):Taken N c F ρ w KS e rs kl H:=
 ⟨T.inv.pop (p:=(purges (allKills kl ρ) p.1,p.2)),T.gr,T.nd,T.fr,T.noal⟩
def opsR:Nat→List RV→Regs
 |_,[]=>[]
 |i,x::xs=>(i,x)::opsR (i+1) xs
theorem opsR_get:∀(xs:List RV) (i j:Nat),getR (opsR i xs) j=if i≤j then(xs[j-i]?).getD .und else .und
 |[],i,j=>by simp[opsR,getR]
 |x::xs,i,j=>by
  simp only[opsR,getR]
  cases hb:Nat.beq i j with
  |true=>
   obtain rfl:=Nat.eq_of_beq_eq_true hb
   simp
  |false=>
   have hne:i≠j:=fun e=>by subst e;simp[Nat.beq_refl]at hb
   simp only[Bool.false_eq_true,if_false]
   rw[opsR_get xs (i+1) j]
   by_cases hij:i≤j
   ·rw[if_pos (by omega),if_pos hij]
    obtain⟨m,rfl⟩:∃m,j=i+1+m:=⟨j-(i+1),by omega⟩
    rw[show i+1+m-(i+1)=m by omega,show i+1+m-i=m+1 by omega]
    simp
   ·rw[if_neg (by omega),if_neg hij]
theorem rvoks_get{xs:List RV}{vs:List Value}(h:RVoks w KS ρ e xs vs):∀j,RVok w KS ρ e ((xs[j]?).getD .und) (vs.toArray.getD j undef):=by
 induction xs generalizing vs with
 |nil=>intro j;simp[RVok]
 |cons x xs ih=>
  obtain⟨v,vs',rfl,h1,h2⟩:=h
  intro j
  cases j with
  |zero=>simpa using h1
  |succ j=>simpa using ih h2 j
theorem Inv.ops(h:Inv c KS e F ρ w){xs:List RV}{vs:List Value}(hx:RVoks w KS ρ e xs vs):Inv c KS e ((opsR 0 xs,⟨vs.toArray,[]⟩)::F) ρ w:=
 h.push (fun t=>by
  rw[opsR_get]
  simp only[Nat.zero_le,if_true,Nat.sub_zero]
  exact rvoks_get hx t)
theorem Taken.opnd{xs:List RV}{vs:List Value}(T:Taken N c ((opsR 0 xs,⟨vs.toArray,[]⟩)::F) ρ w KS e rs kl H){j:Nat}{x:RV}(hj:xs[j]? =some x)(hl:xs.length=vs.length)(hf:fresh kl ρ x=true)(ht:∀l,x≠ .tp l):
  ∃v,vs[j]? =some v∧RVok w KS (hid H++(rs++purgesB kl ρ)) e x v:=by
 have hlt:j<xs.length:=(List.getElem?_eq_some_iff.1 hj).1
 have hv:vs[j]? =some vs[j]:=List.getElem?_eq_getElem (by omega)
 refine⟨_,hv, ?_⟩
 have:=T.inv.regs (purges (allKills kl ρ) (opsR 0 xs),⟨vs.toArray,[]⟩) (by simp[purgesF]) j
 rw[getR_purges,opsR_get]at this
 simp only[Nat.zero_le,if_true,Nat.sub_zero,hj,Option.getD_some]at this
 rw[hits_none (fresh_eq hf) ht]at this
 have he:Act.eval (⟨vs.toArray,[]⟩:Act) (.tmp j)=vs[j]:=by
  simp only[Act.eval]
  have h3:vs.toArray[j]? =some vs[j]:=by rw[List.getElem?_toArray,hv]
  simp[h3]
 rw[he]at this
 exact this
end
end
section
def Parts:List (Nat×Value)→Nat→List (List Value)→List (List Value)→Prop
 |ps,_,[],[]=>ps=[]
 |ps,i,b::bs,c::cs=>(∃v ps',ps=(i,v)::ps'∧v.cells=c.toArray∧Parts ps' (i+1) bs cs)∨(c=b∧Parts ps (i+1) bs cs)
 |_,_,_,_=>False
theorem foldl_mid(pre post:List Value):∀(c b:List Value) (s:Nat) (X:List Value) (off:Nat),c.length=b.length→off+s=X.length→
  (c.zipIdx s).foldl (fun(cs:Array Value) (x:Value×Nat)=>cs.setIfInBounds (off+x.2) x.1) (X++b++post).toArray=(X++c++post).toArray
 |[],[],s,X,off,_,_=>rfl
 |v::c,u::b,s,X,off,hl,hx=>by
  simp only[List.zipIdx_cons,List.foldl_cons]
  have e1:(X++u::b++post).toArray.setIfInBounds (off+s) v=((X++[v])++b++post).toArray:=by
   rw[List.setIfInBounds_toArray,hx]
   congr 1
   simp
  rw[e1,foldl_mid pre post c b (s+1) (X++[v]) off (by simpa using hl) (by simp;omega)]
  simp
theorem fill_seq(place:Nat→Option (Nat×Nat)):∀(bs cs:List (List Value)) (i:Nat) (pre:List Value) (ps:List (Nat×Value)),Parts ps i bs cs→bs.map List.length=cs.map List.length→
  (∀m b,bs[m]? =some b→place (i+m)=some (pre.length+(bs.take m).flatten.length,b.length))→Instr.fill place (pre++bs.flatten).toArray ps=some (pre++cs.flatten).toArray
 |[],[],i,pre,ps,h,_,_=>by
  have h':ps=[]:=h
  subst h';rfl
 |b::bs,c::cs,i,pre,ps,h,hl,hp=>by
  simp only[List.map_cons,List.cons.injEq]at hl
  have hp0:=hp 0 b (by simp)
  have hp':∀m b',bs[m]? =some b'→place (i+1+m)=some ((pre++c).length+(bs.take m).flatten.length,b'.length):=fun m b' hm=>by
   have:=hp (m+1) b' (by simpa using hm)
   rw[show i+1+m=i+(m+1)by omega,this]
   simp[hl.1];omega
  rcases h with⟨v,ps',rfl,hv,h⟩|⟨rfl,h⟩
  ·have ih:=fill_seq place bs cs (i+1) (pre++c) ps' h hl.2 hp'
   simp only[Nat.add_zero,List.take_zero,List.flatten_nil,List.length_nil]at hp0
   have e1:=foldl_mid pre bs.flatten c b 0 pre pre.length hl.1.symm (by simp)
   simp only[Instr.fill,hp0,hv,List.size_toArray,hl.1,List.flatten_cons]
   rw[if_neg (by simp;omega)]
   have e2:(c.toArray.zipIdx.foldl (fun(cs:Array Value) (x:Value×Nat)=>cs.setIfInBounds (pre.length+x.2) x.1) (pre++(b++bs.flatten)).toArray)=(pre++c++bs.flatten).toArray:=by
    rw[←e1]
    simp
   simp only[←List.append_assoc]at e2 ih ⊢
   rw[e2];exact ih
  ·have ih:=fill_seq place bs cs (i+1) (pre++c) ps h hl.2 hp'
   simpa[List.append_assoc]using ih
 |[],_::_,_,_,_,h,_,_=>h.elim
 |_::_,[],_,_,_,h,_,_=>h.elim
def mkHG:List HG→(t:Ty)×t.G
 |[]=>⟨.unit,()⟩
 |[x]=>⟨x.t,x.g⟩
 |x::y::l=>⟨.pair x.t (mkHG (y::l)).1,(x.g,(mkHG (y::l)).2)⟩
theorem mkHG_d:∀H:List HG,mkD (H.map HG.d)=⟨(mkHG H).1,er _ (mkHG H).2⟩
 |[]=>rfl
 |[x]=>rfl
 |x::y::l=>by
  have ih:=mkHG_d (y::l)
  have h0:mkD ((x::y::l).map HG.d)=(let r:=mkD ((y::l).map HG.d);⟨.pair x.d.1 r.1,(x.d.2,r.2)⟩):=rfl
  rw[h0,ih];rfl
theorem mkHG_cl:∀H:List HG,cl _ (mkHG H).2=H.flatMap fun x=>cl x.t x.g
 |[]=>rfl
 |[x]=>by simp[mkHG]
 |x::y::l=>by
  have ih:=mkHG_cl (y::l)
  simp only[mkHG,cl,List.flatMap_cons]at ih ⊢
  rw[ih]
theorem mkHG_fp:∀H:List HG,fp _ (mkHG H).2=H.flatMap fun x=>fp x.t x.g
 |[]=>rfl
 |[x]=>by simp[mkHG]
 |x::y::l=>by
  have ih:=mkHG_fp (y::l)
  simp only[mkHG,fp,List.flatMap_cons]at ih ⊢
  rw[ih]
theorem mkHG_ok{w:World}{KS:Nat→Prop}:∀H:List HG,(∀x∈H,okG w KS x.t x.g)→okG w KS _ (mkHG H).2
 |[],_=>trivial
 |[x],h=>h x (by simp)
 |x::y::l,h=>⟨h x (by simp),mkHG_ok (y::l) fun z hz=>h z (by simp[hz])⟩
section
variable {P:Program} {τ:Tabs} {E:Env} {c:Ctx} {KS:Nat→Prop} {e:GEnv} {F:Fs} {ρ ρ':Roots} {w w':World} {rs:Roots} {kl:List Kill} {H:List HG} {N:Nat}
theorem take_notp{te:Ty}{x:RV}{ρ:Roots}{r:Dyn×List (Nat×Option Root)×List Kill}(h:(Eng.take ρ te x).run=some r):∀l,x≠ .tp l:=fun l e=>by subst e;cases h
theorem partsE_ok(hC:CtxOK τ c)(hN:32768≤N){xs:List RV}{vs:List Value}(hlen:xs.length=vs.length):∀(ts:List Ty),(∀t∈ts,t.solid=true)→∀(is:List Nat) (j0 i:Nat),is.length+j0=xs.length→
  ∀{KS:Nat→Prop} {e:GEnv} {rs:Roots} {kl:List Kill} {H:List HG} (T:Taken N c ((opsR 0 xs,⟨vs.toArray,[]⟩)::F) ρ w KS e rs kl H) {ds:List Dyn} {rs':Roots} {kl':List Kill},
  (partsE ρ ts (is.zip (xs.drop j0)) i rs kl).run=some (ds,rs',kl')→
  ∃KS' e',∃Hs:List HG,(∀b,KS b→KS' b)∧Taken N c ((opsR 0 xs,⟨vs.toArray,[]⟩)::F) ρ w KS' e' rs' kl' (Hs.reverse++H)∧ds=Hs.map HG.d∧Parts (is.zip (vs.drop j0)) i (ts.map zeros) (Hs.map fun x=>cl x.t x.g)
 |[],_,is,j0,i,hj,KS,e,rs,kl,H,T,ds,rs',kl',hr=>by
  cases is with
  |nil=>
   simp only[partsE,List.zip_nil_left]at hr
   injection hr with hr;cases hr
   exact⟨KS,e,[],fun _ h=>h,T,rfl,rfl⟩
  |cons a is=>
   have:∃y l,xs.drop j0=y::l:=by
    cases hd:xs.drop j0 with
    |nil=>have:=congrArg List.length hd;simp at this hj;omega
    |cons y l=>exact⟨y,l,rfl⟩
   obtain⟨y,l,hy⟩:=this
   rw[hy]at hr;cases hr
 |t::ts,hsol,[],j0,i,hj,KS,e,rs,kl,H,T,ds,rs',kl',hr=>by
  simp only[List.zip_nil_left,partsE]at hr
  replace hr:=Cm.run_bind_some hr;obtain⟨⟨ds1,rs1,kl1⟩,hr1,hr⟩:=hr
  injection hr with hr;cases hr
  obtain⟨e1,y,T1,y1,y2⟩:=T.zero hC hN (o_solid t (hsol t (by simp)))
  obtain⟨KS2,e2,Hs,k1,T2,k3,k4⟩:=partsE_ok hC hN hlen ts (fun u hu=>hsol u (by simp[hu])) [] j0 (i+1) hj T1 (by simpa using hr1)
  refine⟨KS2,e2,y::Hs,k1,by simpa using T2,by simp[y1,k3], ?_⟩
  simp only[List.map_cons]
  exact .inr ⟨by rw[y2,zeros_o],k4⟩
 |t::ts,hsol,a::is,j0,i,hj,KS,e,rs,kl,H,T,ds,rs',kl',hr=>by
  have hlt:j0<xs.length:=by simp at hj;omega
  have hx:xs.drop j0=xs[j0]::xs.drop (j0+1):=List.drop_eq_getElem_cons hlt
  have hv:vs.drop j0=vs[j0]'(by omega)::vs.drop (j0+1):=List.drop_eq_getElem_cons (by omega)
  rw[hx,List.zip_cons_cons]at hr
  simp only[partsE]at hr
  cases hb:Nat.beq i a with
  |true=>
   obtain rfl:=Nat.eq_of_beq_eq_true hb
   rw[hb,if_pos rfl]at hr
   replace hr:=Cm.run_chk hr;obtain⟨hf,hr⟩:=hr
   replace hr:=Cm.run_bind_some hr;obtain⟨⟨d,rs1,kl1⟩,ht,hr⟩:=hr
   replace hr:=Cm.run_bind_some hr;obtain⟨⟨ds1,rs2,kl2⟩,hr1,hr⟩:=hr
   injection hr with hr;cases hr
   obtain⟨v,hv1,hxv⟩:=T.opnd (j:=j0) (x:=xs[j0]) (by simp[hlt]) hlen hf (take_notp ht)
   obtain⟨KS1,e1,y,k0,T1,y1,y2⟩:=T.take hC hN hxv ht
   obtain⟨KS2,e2,Hs,k1,T2,k3,k4⟩:=partsE_ok hC hN hlen ts (fun u hu=>hsol u (by simp[hu])) is (j0+1) (i+1) (by simp at hj;omega) T1 hr1
   refine⟨KS2,e2,y::Hs,fun b hb=>k1 b (k0 b hb),by simpa using T2,by simp[y1,k3], ?_⟩
   simp only[List.map_cons]
   rw[hv,List.zip_cons_cons]
   have hve:vs[j0]'(by omega)=v:=by
    have:vs[j0]? =some (vs[j0]'(by omega)):=List.getElem?_eq_getElem (by omega)
    rw[this]at hv1;injection hv1
   rw[hve]
   exact .inl ⟨v,_,rfl,y2,k4⟩
  |false=>
   rw[hb,if_neg (by simp)]at hr
   replace hr:=Cm.run_bind_some hr;obtain⟨⟨ds1,rs1,kl1⟩,hr1,hr⟩:=hr
   injection hr with hr;cases hr
   obtain⟨e1,y,T1,y1,y2⟩:=T.zero hC hN (o_solid t (hsol t (by simp)))
   obtain⟨KS2,e2,Hs,k1,T2,k3,k4⟩:=partsE_ok hC hN hlen ts (fun u hu=>hsol u (by simp[hu])) (a::is) j0 (i+1) hj T1 (by rw[hx,List.zip_cons_cons];exact hr1)
   refine⟨KS2,e2,y::Hs,k1,by simpa using T2,by simp[y1,k3], ?_⟩
   simp only[List.map_cons]
   exact .inr ⟨by rw[y2,zeros_o],k4⟩
end
end
section
theorem zipI_eq:∀(l:List (Nat×Operand)) (xs:List RV),zipI l xs=(l.map (·.1)).zip xs
 |[],xs=>rfl
 |(i,o)::l,[]=>rfl
 |(i,o)::l,x::xs=>by simp[zipI,zipI_eq l xs]
structure FieldsG (P:Program) (fs:List Field) (off:Nat) (t:Ty) (ts:List Ty):Prop where
 eq:fieldsOf t fs.length=ts
 len:ts.length=fs.length
 zer:zeros t=(ts.map zeros).flatten
 pl:t.solid=true→∃places,fs.mapM (fun f=>(P.info? f.type).map fun i=>(f.offset,i.size))=some places∧∀m u,ts[m]? =some u→places[m]? =some (off+((ts.take m).map zeros).flatten.length,(zeros u).length)
 same:∀H:List HG,(mkHG H).1.same t=true→H.length=ts.length→H.map (·.t.sz)=ts.map Ty.sz
 sol:t.solid=true→∀u∈ts,u.solid=true
theorem fields_ok{P:Program}:∀(fs:List Field) (off:Nat) (t:Ty),FldR P fs off t→∃ts,FieldsG P fs off t ts
 |[],off,t,h=>by cases h
 |[f],off,t,h=>by
  cases h with
  |one h1 h2=>
   have e0:fieldsOf t 1=[t]:=by cases t<;>rfl
   refine⟨[t],⟨by simpa using e0,rfl,by simp,fun hs=> ?_,fun H hH hl=> ?_,fun hs u hu=>by simp at hu;subst hu;exact hs⟩⟩
   ·obtain⟨d,hf⟩:=h2.fact
    obtain⟨i,z,q1,q2,_⟩:=hf.info
    refine⟨[(f.offset,i.size)],by simp[q1],fun m u hm=> ?_⟩
    cases m with
    |zero=>simp at hm;subst hm;simp[h1,q2,zeros_len hs]
    |succ m=>simp at hm
   ·match H,hl with
    |[x],_=>
     have hx:x.t.same t=true:=hH
     simp[Ty.same_sz hx]
 |f::f2::fs,off,t,h=>by
  cases h with
  |cons h1 h2 h3=>
   rename_i a b
   obtain⟨ts,G⟩:=fields_ok (f2::fs) _ b h3
   refine⟨a::ts,⟨?_,by simp[G.len],by simp[zeros,G.zer],fun hs=> ?_,fun H hH hl=> ?_,fun hs u hu=> ?_⟩⟩
   ·show a::fieldsOf b (fs.length+1)=_
    have:=G.eq
    rw[List.length_cons]at this
    rw[this]
   ·simp only[Ty.solid,Bool.and_eq_true]at hs
    obtain⟨places,q1,q2⟩:=G.pl hs.2
    obtain⟨d,hf⟩:=h2.fact
    obtain⟨i,z,r1,r2,_⟩:=hf.info
    refine⟨(f.offset,i.size)::places, ?_,fun m u hm=> ?_⟩
    ·rw[List.mapM_cons,r1]
     simp only[Option.map_some,q1];rfl
    ·cases m with
     |zero=>simp at hm;subst hm;simp[h1,r2,zeros_len hs.1]
     |succ m=>
      have:=q2 m u (by simpa using hm)
      simp only[List.getElem?_cons_succ,this,List.take_succ_cons,List.map_cons,List.flatten_cons,List.length_append,zeros_len hs.1]
      simp;omega
   ·have hl':ts.length=fs.length+1:=by rw[G.len];rfl
    match H,hl with
    |[x],hl=>simp only[List.length_cons,List.length_nil]at hl;omega
    |x::y::H,hl=>
     simp only[mkHG,Ty.same,Bool.and_eq_true]at hH
     have:=G.same (y::H) hH.2 (by simpa using hl)
     simp only[List.map_cons]at this ⊢
     rw[Ty.same_sz hH.1,←this]
   ·simp only[Ty.solid,Bool.and_eq_true]at hs
    rcases List.mem_cons.1 hu with rfl|hu
    ·exact hs.1
    ·exact G.sol hs.2 u hu
section
variable {P:Program} {τ:Tabs} {E:Env} {c:Ctx} {KS:Nat→Prop} {e:GEnv} {F:Fs} {ρ ρ':Roots} {w w':World}
theorem rvoks_len{xs:List RV}{vs:List Value}(h:RVoks w KS ρ e xs vs):xs.length=vs.length:=by
 induction xs generalizing vs with
 |nil=>have:vs=[]:=h;subst this;rfl
 |cons x xs ih=>obtain⟨v,vs',rfl,_,h2⟩:=h;simp[ih h2]
theorem mem_flatMap_rev{H:List HG}{b:Nat}(h:b∈H.flatMap fun x=>fp x.t x.g):∃x∈H.reverse,b∈fp x.t x.g:=by
 obtain⟨x,hx,hb⟩:=List.mem_flatMap.1 h
 exact⟨x,by simpa using hx,hb⟩
theorem After.box{KS0:Nat→Prop}{e0:GEnv}{N:Nat}{rs:Roots}{kl:List Kill}{y:HG}(hC:CtxOK τ c)(h0:Inv c KS0 e0 F ρ w)(hKS:∀b,KS0 b→KS b)(T:Taken N c F ρ w KS e rs kl [y]){d:Nat}(hd32:32768≤d)(hdN:d<N)(hd0:getB ρ d=none)(tid:TypeId):
  After c KS0 F ρ {new:=true,rv:= .rf ⟨d,[]⟩,rs:=(d,some (.data true y.t (er y.t y.g) none))::rs,kill:=kl} (.pointer (some ⟨w.heap.size,0,none⟩)) (w.alloc (.cells (cl y.t y.g).toArray tid)):=by
 obtain⟨hok,hbl⟩:=T.each y (by simp)
 have hk:∀b,KS b→∀o,(w.alloc (.cells (cl y.t y.g).toArray tid)).cell? ⟨b,o,none⟩=w.cell? ⟨b,o,none⟩:=fun b hb=>(alloc_same w _ (T.inv.lt b hb)).2.2
 refine T.into hC h0 hKS hd32 hdN hd0 (fun b hb _=>alloc_same w _ hb) (alloc_grew _ _) (X:=fun _=>False) (fun b hb=>hb.elim) (g:=y.g) (ad:=some ⟨w.heap.size,0,none⟩)
  (okG_frame' (fun b hb=> .inl hb) hk (fun b hb=>alloc_same w _ (hbl b hb).1) hok) (fun _=>⟨_,rfl,alloc_row w tid _⟩) (fun h=>by cases h) ?_ ?_ rfl rvok_rf
 ·have:=T.nodup
  simp only[List.flatMap_cons,List.flatMap_nil,List.append_nil]at this
  simp only[Option.map_some,Option.toList_some,List.singleton_append,List.nodup_cons]
  exact⟨fun hm=>by have:=(hbl _ hm).1;omega,this⟩
 ·intro b hb
  simp only[Option.map_some,Option.toList_some,List.singleton_append,List.mem_cons]at hb
  refine⟨fun h=>h, ?_⟩
  rcases hb with rfl|hb
  ·left;rw[alloc_size];omega
  ·exact .inr ⟨y,by simp,hb⟩
theorem Inv.alias(h:Inv c KS e F ρ w){d:Nat}(hd:getB ρ d=none)(hp:c.pin d=none)(hh:c.hdr d=none){q:Place}{s:Spot}(hq:hasData ρ q.r)(hs:spotD e q=some s)(tid:TypeId):
  Inv c KS {e with ala:=fun n=>if n=d then⟨w.heap.size,0,none⟩else e.ala n} F ((d,some (.al q))::ρ) (w.alloc (.cells (cl s.t s.g).toArray tid)):=by
 have hbd:blk ((d,some (.al q))::ρ) {e with ala:=fun n=>if n=d then⟨w.heap.size,0,none⟩else e.ala n} d=[w.heap.size]:=by
  simp only[blk,getB_cons_eq,if_true]
 have hqd:q.r≠d:=fun e=>by obtain⟨re,t,x,pd,h1⟩:=hq;rw[e,hd]at h1;cases h1
 have hsm:∀b,b<w.heap.size→Same w (w.alloc (.cells (cl s.t s.g).toArray tid)) b:=fun b hb=>alloc_same w _ hb
 refine h.step (S:=fun n=>n=d) (ks:=[]) (NoHit.nil F ρ)
  {reads:=Reads.new h hd (fun n hn=>getB_cons_ne hn) (fun n hn=>⟨rfl,by simp[hn],rfl⟩) (fun b hb=>(hsm b (h.lt b hb)).2.2)
   out:=fun n hn=>⟨getB_cons_ne hn,rfl,by simp[hn],rfl,rfl⟩
   same:=fun n _ b hb=>hsm b (h.blt n b hb)
   size:=by exact alloc_grew _ _
   roots:=fun n hn=>by
    subst hn
    simp only[RootOK,getB_cons_eq]
    refine⟨?_,s,hs, ?_⟩
    ·obtain⟨re,t,x,pd,h1⟩:=hq
     exact⟨re,t,x,pd,by rw[getB_cons_ne hqd];exact h1⟩
    ·simp only[if_true];exact alloc_row w tid _
   nd:=fun n hn=>by subst hn;rw[hbd];simp
   dj:=fun n m hn hm hnm=>absurd (hn.trans hm.symm) hnm
   src:=fun n hn b hb'=>by
    subst hn;rw[hbd]at hb';simp at hb';subst hb'
    left;rw[alloc_size];omega
   ksn:=fun b h=> .inl h
   ksd:=fun n hn b hb' hk=>by
    subst hn;rw[hbd]at hb';simp at hb';subst hb'
    have:=h.lt _ hk;omega
   pin:=fun n hn A hA=>by subst hn;rw[hp]at hA;cases hA
   hdr:=fun n hn A hA=>by subst hn;rw[hh]at hA;cases hA
   frm:=fun b hb=> .inl (hsm b hb)}
theorem run_box{tid:TypeId}{v:Value}{cs:List Value}(h:v.cells=cs.toArray):(Instr.box tid v).run P w= .ok (.pointer (some ⟨w.heap.size,0,none⟩)) (w.alloc (.cells cs.toArray tid)):=by
 simp only[Instr.box,Sem.run_bind,run_newVar,Result.andThen_ok,Sem.run_pure,h]
theorem opsOne(h:Inv c KS e F ρ w){x:RV}{v:Value}(hx:RVok w KS ρ e x v):Inv c KS e ((opsR 0 [x],⟨[v].toArray,[]⟩)::F) ρ w:=h.ops ⟨v,[],rfl,hx,rfl⟩
theorem takeOne(hC:CtxOK τ c)(h:Inv c KS e F ρ w){x:RV}{v:Value}(hx:RVok w KS ρ e x v){te:Ty}{d:Dyn}{rs:Roots}{kl:List Kill}(ht:(take ρ te x).run=some (d,rs,kl)){N:Nat}(hN:32768≤N):
  ∃KS' e',∃y:HG,(∀b,KS b→KS' b)∧Taken N c F ρ w KS' e' rs kl [y]∧d=y.d∧v.cells=(cl y.t y.g).toArray:=by
 have T:=Taken.start (N:=N) h
 have:=T.take hC hN (x:=x) (v:=v) (by simpa[hid,purgesB]using hx) (te:=te) (d:=d) (rs':=rs) (kl':=kl) (by simpa using ht)
 simpa using this
theorem box_ok(hE:EnvOK P E)(hC:CtxOK τ c)(h:Inv c KS e F ρ w){call:CallT}{bound d tid:Nat}{ef:Eff}(hd32:32768≤d)(hd:ef.new=true→getB ρ d=none){a:Operand}{x:RV}{v:Value}(hx:RVok w KS ρ e x v)
  (hc:(comp E call bound d (.box tid a) [x] ρ).run=some ef):Does P (do pure (.value (←Instr.box tid v))) w (After c KS F ρ ef):=by
 simp only[comp]at hc
 obtain⟨hp,hpd⟩:=hC.none hd32
 split at hc
 ·rename_i t ht
  have taken:(((take ρ t x).bind fun(v,rs,kl)=>Cm.chk (v.1.same t) (.ret {new:=true,rv:= .rf ⟨d,[]⟩,rs:=(d,some (.data true v.1 v.2 none))::rs,kill:=kl})).run=some ef)→Does P (do pure (.value (←Instr.box tid v))) w (After c KS F ρ ef):=fun hc=>by
   replace hc:=Cm.run_bind_some hc;obtain⟨⟨dv,rs,kl⟩,htk,hc⟩:=hc
   replace hc:=Cm.run_chk hc;obtain⟨hs,hc⟩:=hc
   injection hc with hc;subst hc
   replace hd:=hd rfl
   obtain⟨KS',e',y,k1,T,rfl,k3⟩:=takeOne hC h hx htk (N:=d+1) (by omega)
   exact does_value (run_box k3) (After.box hC h k1 T hd32 (by omega) hd tid)
  cases x with
  |sv q=>
   simp only at hc
   cases hl:lasting bound ρ q with
   |false=>rw[hl]at hc;exact taken hc
   |true=>
    rw[hl]at hc
    simp only[cond_true]at hc
    replace hc:=Cm.run_chk hc;obtain⟨h1,hc⟩:=hc
    injection hc with hc;subst hc
    replace hd:=hd rfl
    obtain⟨hq,s,hs,hnl,rfl⟩:=hx
    rw[res_data hq]at h1
    have hok:=(spotD_ok h hq hs).1
    refine does_value (run_box (val_cells (okG_len _ _ hok) (cl_one _ _ hok))) ?_
    refine⟨KS,{e with ala:=fun n=>if n=d then⟨w.heap.size,0,none⟩else e.ala n},fun _ h=>h, ?_, ?_⟩
    rotate_left
    ·rw[allKills_nil,purgesF_nil,res_data hq]
     exact h.alias hd hp hpd hq hs tid
    ·rw[res_data hq]
     refine⟨⟨s.t,s.g,some ⟨w.heap.size,0,none⟩⟩,⟨w.heap.size,0,none⟩, ?_,rfl,rfl⟩
     have hqd:q.r≠d:=fun e=>by obtain⟨re,t,x,pd,h1⟩:=hq;rw[e,hd]at h1;cases h1
     show spotOf ((d,some (.al q))::ρ) _ ⟨d,[]⟩=_
     simp only[spotOf,getB_cons_eq]
     have:spotD {e with ala:=fun n=>if n=d then⟨w.heap.size,0,none⟩else e.ala n} q=some s:=hs
     rw[this]
     simp[loc_nil,noI]
  |_=>exact taken hc
 ·cases x with
  |fn f caps=>
   replace hc:=Cm.run_chk hc;obtain⟨h1,hc⟩:=hc
   injection hc with hc;subst hc
   obtain⟨vs,rfl,hcaps⟩:=hx
   refine does_value (run_box (cs:=[.func (.func f) #[] vs.toArray]) rfl) ?_
   -- a block that nobody writes
   have hw:=h.world (w':=w.alloc (.cells [Value.func (.func f) #[] vs.toArray].toArray tid)) (fun b hb=>alloc_same w _ hb) (alloc_grew _ _)
   have hI:Inv c (fun b=>KS b∨b=w.heap.size) e F ρ (w.alloc (.cells [Value.func (.func f) #[] vs.toArray].toArray tid)):=by
    refine h.step (S:=fun _=>False) (ks:=[]) (NoHit.nil F ρ)
     {reads:=Reads.of (fun b hb=> .inl hb) (fun b hb=>(alloc_same w _ (h.lt b hb)).2.2) (fun p _ h _=>h) (fun p te g ad _ _ h=>⟨g,h,rfl,rfl,rfl⟩) (fun _ _ _ _=>rfl) (fun p s A _ h1 h2=>⟨s,h1,h2⟩) (fun p _ re t x pe h=>⟨⟨re,t,x,pe,h⟩,rfl⟩)
      out:=fun n _=>⟨rfl,rfl,rfl,rfl,rfl⟩
      same:=fun n _ b hb=>alloc_same w _ (h.blt n b hb)
      size:=alloc_grew _ _
      roots:=fun _ h=>h.elim
      nd:=fun _ h=>h.elim
      dj:=fun _ _ h=>h.elim
      src:=fun _ h=>h.elim
      ksn:=fun b h=>h.imp id fun h=> .inl (by subst h;rw[alloc_size];omega)
      ksd:=fun _ h=>h.elim
      pin:=fun _ h=>h.elim
      hdr:=fun _ h=>h.elim
      frm:=fun b hb=> .inl (alloc_same w _ hb)}
   refine⟨fun b=>KS b∨b=w.heap.size,e,fun b hb=> .inl hb, ?_, ?_⟩
   ·refine⟨⟨w.heap.size,0,none⟩,vs,rfl,rfl,.inr rfl, ?_, ?_⟩
    ·have:=(alloc_row w tid [Value.func (.func f) #[] vs.toArray]).2.1 0 _ rfl
     simp
    ·have key:∀(l:List RV) (us:List Value),RVoks w KS ρ e l us→RVoks (w.alloc (.cells [Value.func (.func f) #[] vs.toArray].toArray tid)) (fun b=>KS b∨b=w.heap.size) ρ e l us:=fun l us hl=>
      Reads.oks (w:=w) (KS:=KS) (ρ:=ρ) (e:=e) (ks:=[]) (Reads.of (fun b hb=> .inl hb) (fun b hb=>(alloc_same w _ (h.lt b hb)).2.2) (fun p _ h _=>h) (fun p te g ad _ _ h=>⟨g,h,rfl,rfl,rfl⟩) (fun _ _ _ _=>rfl) (fun p s A _ h1 h2=>⟨s,h1,h2⟩) (fun p _ re t x pe h=>⟨⟨re,t,x,pe,h⟩,rfl⟩)) l us (fun k hk=>by cases hk) hl
     exact key caps vs hcaps
   ·rw[allKills_nil,purgesF_nil]
    exact hI
  |_=>cases hc
end
end
section
section
variable {P:Program} {τ:Tabs} {E:Env} {c:Ctx} {KS:Nat→Prop} {e:GEnv} {F:Fs} {ρ ρ':Roots} {w w':World}
theorem parts_ok(hC:CtxOK τ c)(h:Inv c KS e F ρ w){xs:List RV}{vs:List Value}(hx:RVoks w KS ρ e xs vs){N:Nat}(hN:32768≤N){ts:List Ty}(hsol:∀t∈ts,t.solid=true){is:List Nat}(hl:is.length=xs.length)
  {ds:List Dyn} {rs:Roots} {kl:List Kill} (hr:(partsE ρ ts (is.zip xs) 0 [] []).run=some (ds,rs,kl)):
  ∃KS' e',∃Hs:List HG,(∀b,KS b→KS' b)∧Taken N c F ρ w KS' e' rs kl Hs.reverse∧ds=Hs.map HG.d∧Parts (is.zip vs) 0 (ts.map zeros) (Hs.map fun x=>cl x.t x.g):=by
 have hlen:=rvoks_len hx
 have T0:=Taken.start (N:=N) (h.ops hx)
 obtain⟨KS',e',Hs,k1,k2,k3,k4⟩:=partsE_ok hC hN hlen ts hsol is 0 0 (by omega) T0 (by simpa using hr)
 exact⟨KS',e',Hs,k1,by simpa using k2.pop,k3,by simpa using k4⟩
theorem Parts.len:∀(bs cs:List (List Value)) (i:Nat) (ps:List (Nat×Value)),Parts ps i bs cs→bs.length=cs.length
 |[],[],_,_,_=>rfl
 |b::bs,c::cs,i,ps,h=>by
  rcases h with⟨v,ps',_,_,h⟩|⟨_,h⟩
  ·simp[Parts.len bs cs _ _ h]
  ·simp[Parts.len bs cs _ _ h]
 |[],_::_,_,_,h=>h.elim
 |_::_,[],_,_,h=>h.elim
theorem agg_nolist{t:Ty}(h:t.agg=true):t.isList=false:=by cases t<;>first|rfl|cases h
theorem build_ok(hE:EnvOK P E)(hC:CtxOK τ c)(h:Inv c KS e F ρ w){call:CallT}{bound d tid:Nat}{ef:Eff}(hd32:32768≤d)(hd:ef.new=true→getB ρ d=none){ps:Array (Nat×Operand)}{xs:List RV}{vs:List Value}(hx:RVoks w KS ρ e xs vs)(hl:ps.size=xs.length)
  (hc:(comp E call bound d (.build tid ps) xs ρ).run=some ef) {pv:Array (Nat×Value)} (hpv:pv.toList=(ps.toList.map (·.1)).zip vs):Does P (do pure (.value (←Instr.build tid pv))) w (After c KS F ρ ef):=by
 simp only[comp]at hc
 split at hc
 rotate_left
 ·cases hc
 rename_i ty ht
 rw[zipI_eq]at hc
 have hT:=hE.ty _ _ ht
 have hsol:=hE.sol _ _ ht
 replace hc:=Cm.run_bind_some hc;obtain⟨⟨ds,rs,kl⟩,hparts,hc⟩:=hc
 replace hc:=Cm.run_chk hc;obtain⟨hsame,hc⟩:=hc
 -- a struct
 have hnf:0<E.nf tid:=by
  rcases Nat.eq_zero_or_pos (E.nf tid)with h0|h0
  ·exfalso
   rw[h0]at hparts
   have e0:fieldsOf ty 0=[]:=by cases ty<;>rfl
   rw[e0]at hparts
   unfold partsE at hparts
   split at hparts
   ·injection hparts with hparts;cases hparts
    cases hT<;>cases hsame
   ·cases hparts
  ·exact h0
 obtain⟨fs,hst,hnfs⟩:=hE.nf tid hnf
 obtain⟨ts,G⟩:=fields_ok fs.toList 0 ty (struct_fld hT hst)
 have hts:fieldsOf ty (E.nf tid)=ts:=by rw[hnfs,←Array.length_toList];exact G.eq
 rw[hts]at hparts
 obtain⟨KS',e',Hs,k1,T,rfl,hP⟩:=parts_ok hC h hx (N:=d+1) (by omega) (G.sol hsol) (by simpa using hl) hparts
 have hlenH:Hs.length=ts.length:=by have:=Parts.len _ _ _ _ hP;simpa using this.symm
 rw[mkHG_d]at hsame hc
 have hsz:=G.same Hs hsame hlenH
 have hoks:∀x∈Hs,okG w KS' x.t x.g:=fun x hx=>(T.each x (by simpa using hx)).1
 have hcs:(mkHG Hs).2=(mkHG Hs).2:=rfl
 have hcl:=mkHG_cl Hs
 have hlens:(ts.map zeros).map List.length=(Hs.map fun x=>cl x.t x.g).map List.length:=by
  rw[List.map_map,List.map_map]
  have e1:ts.map (List.length ∘ zeros)=ts.map Ty.sz:=List.map_congr_left fun u hu=>zeros_len (G.sol hsol u hu)
  have e2:Hs.map (List.length ∘ fun x=>cl x.t x.g)=Hs.map (·.t.sz):=List.map_congr_left fun x hx=>okG_len _ _ (hoks x hx)
  rw[e1,e2,hsz]
 obtain⟨dd,hf⟩:=hT.fact
 obtain⟨i,z,q1,q2,q3,q4⟩:=hf.info
 obtain⟨places,p1,p2⟩:=G.pl hsol
 have hbuilt:P.built tid pv.toList=some (cl _ (mkHG Hs).2).toArray:=by
  unfold Program.built
  rw[q1,hst]
  simp only[q3,p1]
  have hz:z.cells=([]++(ts.map zeros).flatten).toArray:=by rw[q4,zeros_cells hsol,G.zer];rfl
  rw[hz,hpv,hcl]
  have:=fill_seq (fun i=>places.toArray[i]?) (ts.map zeros) (Hs.map fun x=>cl x.t x.g) 0 [] _ hP hlens (fun m b hm=>by
   simp only[List.getElem?_map,Option.map_eq_some_iff]at hm
   obtain⟨u,hu,rfl⟩:=hm
   have:=p2 m u hu
   simp only[Nat.zero_add,List.length_nil,List.getElem?_toArray,this,List.map_take])
  rw[this,List.flatMap_def]
  rfl
 refine does_value (run_build w tid pv _ hbuilt) ?_
 have hagg:(mkHG Hs).1.agg=true:=by rw[same_agg hsame];exact struct_agg hT hst
 have hok:=mkHG_ok Hs hoks
 have hnd:(fp _ (mkHG Hs).2).Nodup:=by
  rw[mkHG_fp]
  exact nodup_perm ((List.reverse_perm Hs).flatMap_right _) T.nodup
 unfold rootE at hc
 split at hc
 ·rename_i hsh
  injection hc with hc;subst hc
  have hv:RVok w KS' (rs++purgesB kl ρ) e' (.v (mkHG Hs).1 (er _ (mkHG Hs).2)) (.agg (cl _ (mkHG Hs).2).toArray):=
   ⟨hsh,cl _ (mkHG Hs).2,okG_repK (fun _ h=>h) _ _ (by simp[fp_shared _ hsh]) hok,(val_agg hagg _).symm⟩
  exact T.plain h k1 hv
 ·injection hc with hc;subst hc
  replace hd:=hd rfl
  refine T.into hC h k1 hd32 (by omega) hd (fun b _ _=>Same.refl w b) (Grew.refl _) (X:=fun _=>False) (fun b hb=>hb.elim) (re:=false) (g:=(mkHG Hs).2) (ad:=none)
   (okG_KS (fun b hb=> .inl hb) _ _ hok) (fun h=>by cases h) (fun _=>rfl) (by simpa using hnd) (fun b hb=>⟨fun h=>h,.inr ?_⟩) rfl ?_
  ·simp only[Option.map_none,Option.toList_none,List.nil_append,mkHG_fp]at hb
   exact mem_flatMap_rev hb
  ·exact⟨⟨_,_,_,_,getB_cons_eq⟩,_,spotD_new,agg_nolist hagg,(val_agg hagg _).symm⟩
theorem elems_ok(tj:Ty):∀(Hs:List HG) (l:List tj.D),(elemsE tj (Hs.map HG.d)).run=some l→∃(rows:List tj.G) (drs:List Nat),
  (Hs.flatMap fun x=>fp x.t x.g).Perm (rows.flatMap (fp tj)++drs)∧rows.length=Hs.length∧rows.flatMap (cl tj)=(Hs.flatMap fun x=>cl x.t x.g)∧rows.map (er tj)=l∧
  ∀(w:World) (KS KS':Nat→Prop),(∀b,KS b→KS' b)→(∀b∈drs,KS' b)→(∀x∈Hs,okG w KS x.t x.g)→∀r∈rows,okG w KS' tj r
 |[],l,h=>by
  injection h with h;subst h
  exact⟨[],[],by simp,rfl,rfl,rfl,by simp⟩
 |x::Hs,l,h=>by
  simp only[List.map_cons,elemsE]at h
  replace h:=Cm.run_get h;obtain⟨y,hy,h⟩:=h
  replace h:=Cm.run_bind_some h;obtain⟨l',hl',h⟩:=h
  injection h with h;subst h
  obtain⟨hs,rfl⟩:=conv_some hy
  obtain⟨g',dr,C⟩:=convG hs x.g
  obtain⟨rows,drs,k1,k2,k3,k4,k5⟩:=elems_ok tj Hs l' hl'
  refine⟨g'::rows,dr++drs, ?_,by simp[k2],by simp[C.cl,k3];rfl,by simp only[List.map_cons,k4,C.er];rfl, ?_⟩
  ·simp only[List.flatMap_cons];exact perm_swap4 C.perm k1
  ·intro w KS KS' hKS hd ho r hr
   rcases List.mem_cons.1 hr with rfl|hr
   ·exact C.ok w KS KS' hKS (fun b hb=>hd b (by simp[hb])) (ho x (by simp))
   ·exact k5 w KS KS' hKS (fun b hb=>hd b (by simp[hb])) (fun z hz=>ho z (by simp[hz])) r hr
theorem zeros_same:∀{a b:Ty},a.same b=true→zeros a=zeros b:=by
 intro a
 induction a with
 |pair x y ihx ihy=>intro b h;cases b<;>first|(cases h;done)|(simp only[Ty.same,Bool.and_eq_true]at h;simp only[zeros,ihx h.1,ihy h.2])
 |arr n t ih=>intro b h;cases b<;>first|(cases h;done)|(simp only[Ty.same,Bool.and_eq_true]at h;obtain rfl:=Nat.eq_of_beq_eq_true h.1;simp only[zeros,ih h.2])
 |int k=>intro b h;cases b<;>first|(cases h;done)|(rename_i k';obtain rfl:=kindB_eq (a:=k) (b:=k') h;rfl)|(obtain rfl:=kindB_eq (a:=k) (b:= .i64) h;rfl)
 |ti=>intro b h;cases b<;>first|(cases h;done)|(rename_i k';obtain rfl:=kindB_eq (a:= .i64) (b:=k') h;rfl)|rfl
 |_=>intro b h;cases b<;>first|(cases h;done)|rfl
theorem run_buildSlice0{tid el:TypeId}(hu:P.underlying tid=some (.slice el)){te:Ty}(ht:TyR P el te){pv:Array (Nat×Value)}(hp:pv.toList=[]):
  (Instr.buildSlice tid 0 pv).run P w= .ok (.slice (some ⟨w.heap.size,0,none⟩) 0 0) (w.alloc (.cells #[] el)):=by
 simp[Instr.buildSlice,run_underlying hu,run_sizeOf w ht,hp,Instr.fill,newRow,Array.range_zero']
theorem buildSlice_ok(hE:EnvOK P E)(hC:CtxOK τ c)(h:Inv c KS e F ρ w){call:CallT}{bound d tid n:Nat}{ef:Eff}(hd32:32768≤d)(hd:ef.new=true→getB ρ d=none){ps:Array (Nat×Operand)}{xs:List RV}{vs:List Value}(hx:RVoks w KS ρ e xs vs)(hl:ps.size=xs.length)
  (hc:(comp E call bound d (.buildSlice tid n ps) xs ρ).run=some ef) {pv:Array (Nat×Value)} (hpv:pv.toList=(ps.toList.map (·.1)).zip vs):Does P (do pure (.value (←Instr.buildSlice tid n pv))) w (After c KS F ρ ef):=by
 simp only[comp]at hc
 split at hc
 rotate_left
 ·cases hc
 rename_i o te ht
 rw[zipI_eq]at hc
 have hT:=hE.ty _ _ ht
 have hsol:te.solid=true:=by have:=hE.sol _ _ ht;exact this
 obtain⟨el,te',hund,hte,hs'⟩:=list_ty hT (o:=o) (te:=te) (Ty.same_refl _)
 replace hc:=Cm.run_bind_some hc;obtain⟨⟨ds,rs,kl⟩,hparts,hc⟩:=hc
 simp only at hc
 generalize joinAll te ds=tj at hc
 replace hc:=Cm.run_chk hc;obtain⟨hchk,hc⟩:=hc
 replace hc:=Cm.run_bind_some hc;obtain⟨l,hel,hc⟩:=hc
 injection hc with hc;subst hc
 replace hd:=hd rfl
 simp only[Bool.and_eq_true,Nat.ble_eq]at hchk
 obtain⟨hsame,hsmall⟩:=hchk
 obtain⟨KS',e',Hs,k1,T,rfl,hP⟩:=parts_ok hC h hx (N:=d+1) (by omega) (fun t ht=>by rw[List.eq_of_mem_replicate ht];exact hsol) (by simpa using hl) hparts
 have hlenH:Hs.length=n:=by have:=Parts.len _ _ _ _ hP;simpa using this.symm
 obtain⟨rows,drs,r1,r2,r3,r4,r5⟩:=elems_ok tj Hs l hel
 have hoks:∀x∈Hs,okG w KS' x.t x.g:=fun x hx=>(T.each x (by simpa using hx)).1
 have hbl:∀b∈(Hs.flatMap fun x=>fp x.t x.g),b<w.heap.size:=fun b hb=>by
  obtain⟨x,hx,hb⟩:=List.mem_flatMap.1 hb
  exact((T.each x (by simpa using hx)).2 b hb).1
 have hnd:(rows.flatMap (fp tj)++drs).Nodup:=nodup_perm (((List.reverse_perm Hs).flatMap_right _).trans r1) T.nodup
 have hnd':=List.nodup_append.1 hnd
 -- the elements' types
 have hszs:∀x∈Hs,x.t.sz=te.sz:=by
  have key:∀(Hs:List HG) (l:List tj.D),(elemsE tj (Hs.map HG.d)).run=some l→∀x∈Hs,x.t.sz=tj.sz:=by
   intro Hs
   induction Hs with
   |nil=>intro l _ x hx;cases hx
   |cons y Hs ih=>
    intro l h x hx
    simp only[List.map_cons,elemsE]at h
    replace h:=Cm.run_get h;obtain⟨z,hz,h⟩:=h
    replace h:=Cm.run_bind_some h;obtain⟨l',hl',h⟩:=h
    obtain⟨hs,_⟩:=conv_some hz
    rcases List.mem_cons.1 hx with rfl|hx
    ·exact Ty.same_sz (Ty.sub_same hs)
    ·exact ih l' hl' x hx
  intro x hx
  rw[key Hs l hel x hx,Ty.same_sz hsame]
 obtain⟨dd,hf⟩:=hte.fact
 obtain⟨i,z,q1,q2,q3,q4⟩:=hf.info
 have hszte:te'.sz=te.sz:=(Ty.same_sz hs').symm
 have hzs:te'.sz≠0:=Nat.pos_iff_ne_zero.1 hf.pos
 have hcells:rows.flatMap (cl tj)=(Hs.map fun x=>cl x.t x.g).flatten:=by rw[r3,List.flatMap_def]
 have hrun:(Instr.buildSlice tid n pv).run P w= .ok (.slice (some ⟨w.heap.size,0,none⟩) n n) (w.alloc (.cells (rows.flatMap (cl tj)).toArray el)):=by
  by_cases hn0:n=0
  ·have hH0:Hs=[]:=List.eq_nil_of_length_eq_zero (by omega)
   rw[hcells,hH0]
   subst hn0
   rw[hH0]at hP
   have hpv0:(ps.toList.map (·.1)).zip vs=[]:=hP
   exact run_buildSlice0 hund hte (by rw[hpv,hpv0])
  ·refine run_buildSlice w tid el n pv _ i z hund q1 q3 (by rw[q2,hszte];omega) (by rw[q2];exact Nat.mul_ne_zero hn0 hzs) ?_
   have hz:z.cells=(zeros te).toArray:=by rw[q4,←val_same hs',←zeros_same hs',zeros_cells hsol]
   have hsz:i.size=(zeros te).length:=by rw[q2,hszte,zeros_len hsol]
   have harr:(Array.range (n*i.size)).map (z.cells[· % z.cells.size]!)=([]++((List.replicate n te).map zeros).flatten).toArray:=by
    rw[hz,hsz]
    apply Array.toList_inj.1
    have:=made_cells (z:=zeros te) (n:=n) (by rw[zeros_len hsol,←hszte];exact hzs)
    rw[madeCells]at this
    rw[this,List.map_replicate];rfl
   rw[harr,hpv,hcells]
   refine fill_seq (fun j=>some (j*i.size,i.size)) _ _ 0 [] _ hP ?_ ?_
   ·rw[List.map_map,List.map_map]
    have e2:Hs.map (List.length ∘ fun x=>cl x.t x.g)=List.replicate Hs.length te.sz:=by
     rw[←List.map_const]
     exact List.map_congr_left fun x hx=>by rw[Function.comp,okG_len _ _ (hoks x hx),hszs x hx];rfl
    rw[e2,List.map_replicate,hlenH,Function.comp,zeros_len hsol]
   ·intro m b hm
    simp only[List.map_replicate]at hm ⊢
    have hlt:m<n:=by
     have:=(List.getElem?_eq_some_iff.1 hm).1
     simpa using this
    rw[List.getElem?_replicate,if_pos hlt]at hm
    injection hm with hm;subst hm
    simp[List.take_replicate,Nat.min_eq_left (Nat.le_of_lt hlt),hsz]
 refine does_value hrun ?_
 have hok:okG (w.alloc (.cells (rows.flatMap (cl tj)).toArray el)) (fun b=>KS' b∨b∈drs) (.list true tj) (⟨some ⟨w.heap.size,0,none⟩,n,rows⟩:OwnL tj.G):=by
  by_cases hn0:n=0
  ·exact .inl ⟨hn0,List.eq_nil_of_length_eq_zero (by show rows.length=0;omega)⟩
  ·refine .inr ⟨w.heap.size,[],rfl,by show 0<n;omega,⟨by show rows.length≤n;omega,fun _ (e:rows=[])=>hn0 (by rw[e]at r2;simp at r2;omega)⟩, ?_, ?_, ?_⟩
   ·rw[List.append_nil];exact alloc_block w el _
   ·rw[List.append_nil]
    show(rows.flatMap (cl tj)).length=n*tj.sz
    rw[r3]
    have:∀L:List HG,(∀x∈L,okG w KS' x.t x.g∧x.t.sz=te.sz)→(L.flatMap fun x=>cl x.t x.g).length=L.length*te.sz:=by
     intro L
     induction L with
     |nil=>intro _;simp
     |cons y L ih=>
      intro hL
      simp only[List.flatMap_cons,List.length_append,List.length_cons,Nat.add_mul,Nat.one_mul]
      rw[ih (fun x hx=>hL x (by simp[hx])),okG_len _ _ (hL y (by simp)).1,(hL y (by simp)).2]
      omega
    rw[this Hs (fun x hx=>⟨hoks x hx,hszs x hx⟩),hlenH,Ty.same_sz hsame]
   ·intro r hr
    have h0:=r5 w KS' (fun b=>KS' b∨b∈drs) (fun b hb=> .inl hb) (fun b hb=> .inr hb) hoks r hr
    refine okG_frame (fun b hb=>(alloc_same w _ ?_).2.2) _ _ (fun b hb=>alloc_same w _ (hbl b (r1.mem_iff.2 (List.mem_append.2 (.inl (List.mem_flatMap.2 ⟨r,hr,hb⟩)))))) h0
    rcases hb with hb|hb
    ·exact T.inv.lt b hb
    ·exact hbl b (r1.mem_iff.2 (List.mem_append.2 (.inr hb)))
 have hfp:∀b∈fp (.list true tj) (⟨some ⟨w.heap.size,0,none⟩,n,rows⟩:OwnL tj.G),b=w.heap.size∨b∈rows.flatMap (fp tj):=fun b hb=>by
  simp only[fp]at hb
  split at hb
  ·cases hb
  ·exact(List.mem_cons.1 hb).imp id id
 have:=T.into (re:=false) (t:= .list true tj) (w':=w.alloc (.cells (rows.flatMap (cl tj)).toArray el)) (X:=fun b=>b∈drs) (g:=(⟨some ⟨w.heap.size,0,none⟩,n,rows⟩:OwnL tj.G)) (ad:=none) (x:=l) (rv:= .wl ⟨d,[]⟩) (v:= .slice (some ⟨w.heap.size,0,none⟩) n n)
  hC h k1 hd32 (by omega) hd (fun b hb _=>alloc_same w _ hb) (alloc_grew _ _) (fun b hb=>by
   have:b∈(Hs.flatMap fun x=>fp x.t x.g):=r1.mem_iff.2 (List.mem_append.2 (.inr hb))
   exact mem_flatMap_rev this) hok (fun h=>by cases h) (fun _=>rfl) (by
   simp only[Option.map_none,Option.toList_none,List.nil_append,fp]
   split
   ·simp
   ·refine List.nodup_cons.2 ⟨fun hm=> ?_,hnd'.1⟩
    have:=hbl _ (r1.mem_iff.2 (List.mem_append.2 (.inl hm)));omega) (fun b hb=>by
   simp only[Option.map_none,Option.toList_none,List.nil_append]at hb
   rcases hfp b hb with rfl|hb
   ·refine⟨fun hx=> ?_,.inl (by rw[alloc_size];omega)⟩
    have:=hbl _ (r1.mem_iff.2 (List.mem_append.2 (.inr hx)));omega
   ·exact⟨fun hx=>hnd'.2.2 b hb b hx rfl,.inr (mem_flatMap_rev (r1.mem_iff.2 (List.mem_append.2 (.inl hb))))⟩) r4 (by
   have h1:=rvok_wl (w:=w.alloc (.cells (rows.flatMap (cl tj)).toArray el)) (KS:=fun b=>KS' b∨b∈drs) (ρ:=rs++purgesB kl ρ) (e:=e') (d:=d) (re:=false) (t:=tj) (x:=l) (pd:=none) (g:=(⟨some ⟨w.heap.size,0,none⟩,n,rows⟩:OwnL tj.G)) (ad:=none)
   have hrl:rows.length=n:=by omega
   simp only[hrl]at h1
   exact h1)
 exact this
end
end
section
theorem drew_same(w:World)(o:Obj){b:Nat}(h:b<w.heap.size):Same w (w.drew.alloc o) b:=by
 have:=alloc_get w.drew o b h
 have h2:w.drew.heap[b]? =w.heap[b]? :=rfl
 rw[h2]at this
 exact Same.of this
theorem drewAlloc_grew(w:World)(o:Obj):Grew w (w.drew.alloc o):=⟨by have:=alloc_size w.drew o;have h2:w.drew.heap.size=w.heap.size:=rfl;omega,rfl,rfl⟩
section
variable {P:Program} {E:Env} {c:Ctx} {KS:Nat→Prop} {e:GEnv} {F:Fs} {ρ ρ':Roots} {w w':World}
inductive AppR (w:World) (sz:Nat) (ad:Option Addr) (cap n0 m:Nat) (olds news:List Value) (v':Value) (w':World):Prop
 |none:cap=0→n0=0→m=0→v'= .slice ad 0 0→w'=w→AppR w sz ad cap n0 m olds news v' w'
 |room (b:Nat) (rest:List Value):ad=some ⟨b,0,none⟩→0<cap→n0+m≤cap→v'= .slice ad (n0+m) cap→(∀x,x≠b→Same w w' x)→(w'.heap.size=w.heap.size∧Grew w w')→
   Block w' b (olds++news++rest)→(olds++news++rest).length=cap*sz→AppR w sz ad cap n0 m olds news v' w'
 |grow (rest:List Value) (cap':Nat):v'= .slice (some ⟨w.heap.size,0,Option.none⟩) (n0+m) cap'→0<n0+m→n0+m≤cap'→(∀x,x<w.heap.size→Same w w' x)→(w'.heap.size=w.heap.size+1∧Grew w w')→
   Block w' w.heap.size (olds++news++rest)→(olds++news++rest).length=cap'*sz→AppR w sz ad cap n0 m olds news v' w'
theorem run_append_empty(t tx ty el:TypeId)(ht:P.underlying t=some (.slice el)){te:Ty}(hte:TyR P el te)(ad:Option Addr)(x:Value)(hs:Src P te.sz tx x 0 [] w):
  (Builtin.append_ #[t,tx] ty #[.slice ad 0 0,x]).run P w= .ok (.slice ad 0 0) w:=by
 have hz:=run_sizeOf w hte
 cases ad with
 |none=>rcases hs.kind with⟨e',hk⟩|hk<;>simp[Builtin.append_,run_underlying ht,run_underlying hk,hz,hs.len,hs.cells]
 |some a=>rcases hs.kind with⟨e',hk⟩|hk<;>simp[Builtin.append_,run_underlying ht,run_underlying hk,hz,hs.len,hs.cells,storeCells]
theorem append_run{KS:Nat→Prop}{t tx ty el:TypeId}(ht:P.underlying t=some (.slice el)){te tt:Ty}(hte:TyR P el te)(hsol:te.solid=true)(hts:tt.sz=te.sz){by_:Nat}(hby:∃i,P.info? el=some i∧i.bytes=by_)(hby1:1≤by_)
  {g:OwnL tt.G} (hok:okG w KS (.list true tt) g) {x:Value} {m:Nat} {news:List Value} (hs:Src P te.sz tx x m news w) (hb:(g.rows.length+m)*by_≤capBytes):
  ∃v' w',(Builtin.append_ #[t,tx] ty #[.slice g.ad g.rows.length g.cap,x]).run P w= .ok v' w'∧AppR w te.sz g.ad g.cap g.rows.length m (g.rows.flatMap (cl tt)) news v' w':=by
 obtain⟨dd,hf⟩:=hte.fact
 obtain⟨i,z,q1,q2,q3,q4⟩:=hf.info
 obtain⟨i',hi',hbytes⟩:=hby
 rw[q1]at hi';cases hi'
 have hcap:(g.rows.length+m)≤capBytes:=by
  have:(g.rows.length+m)*1≤(g.rows.length+m)*by_:=Nat.mul_le_mul_left _ hby1
  omega
 have hcb:capBytes=140737488355328:=rfl
 have hsz0:0<te.sz:=hf.pos
 have hzc:z.cells.size=te.sz:=by rw[q4,zeros_cells hsol];simp[zeros_len hsol]
 have rowlen:(∀r∈g.rows,okG w KS tt r)→(g.rows.flatMap (cl tt)).length=g.rows.length*te.sz:=fun h=>by rw[rows_flat tt g.rows h,hts]
 -- there is no room
 have growk:∀(base:Option Addr),g.ad=base→g.cap<g.rows.length+m→(∀r∈g.rows,okG w KS tt r)→
   (Builtin.firstCells i.size g.rows.length (.slice base g.rows.length g.cap)).run P w.drew= .ok (g.rows.flatMap (cl tt)).toArray w.drew→
   ∃v' w',(Builtin.append_ #[t,tx] ty #[.slice g.ad g.rows.length g.cap,x]).run P w= .ok v' w'∧AppR w te.sz g.ad g.cap g.rows.length m (g.rows.flatMap (cl tt)) news v' w':=fun base he hlt hrows hold=>by
  have hfit:=growslice_fits (need:=g.rows.length+m) (old:=g.cap) (bytes:=i.bytes) hlt (by rw[hbytes];omega)
  have hr:=run_append_grow_src (P:=P) w t tx ty el i z ht q1 q3 base g.rows.length g.cap _ hold x m news (by rw[q2];exact hs) hlt (by omega) hfit
  rw[he]
  refine⟨_,_,hr, ?_⟩
  have hge:g.rows.length+m≤grownCap w (g.rows.length+m) g.cap el:=grownCap_ge _ _ _ _
  have harr:(g.rows.flatMap (cl tt)++news).toArray++Builtin.zeroCells z.cells (grownCap w (g.rows.length+m) g.cap el-(g.rows.length+m))=
    (g.rows.flatMap (cl tt)++news++(Builtin.zeroCells z.cells (grownCap w (g.rows.length+m) g.cap el-(g.rows.length+m))).toList).toArray:=by
   apply Array.toList_inj.1;simp
  rw[harr]
  refine .grow _ _ rfl (by omega) hge (fun b hb=>drew_same w _ hb) ⟨by rw[alloc_size];rfl,drewAlloc_grew _ _⟩ (alloc_block w.drew el _) ?_
  have hz2:(Builtin.zeroCells z.cells (grownCap w (g.rows.length+m) g.cap el-(g.rows.length+m))).size=(grownCap w (g.rows.length+m) g.cap el-(g.rows.length+m))*te.sz:=by simp[Builtin.zeroCells,hzc]
  have hz3:=(Array.length_toList (xs:=Builtin.zeroCells z.cells (grownCap w (g.rows.length+m) g.cap el-(g.rows.length+m)))).trans hz2
  rw[List.length_append,List.length_append,hz3,rowlen hrows,hs.newsLen,←Nat.add_mul,←Nat.add_mul]
  congr 1;omega
 rcases hok with⟨h1,h2⟩|⟨b,rest,h1,h2,h3,h4,h5,h6⟩
 ·by_cases hm:m=0
  ·subst hm
   have hn:news=[]:=List.eq_nil_of_length_eq_zero (by simpa using hs.newsLen)
   subst hn
   refine⟨_,_, ?_,.none h1 (by rw[h2];rfl) rfl rfl rfl⟩
   have h2':g.rows.length=0:=by rw[h2];rfl
   rw[h1,h2']
   exact run_append_empty t tx ty el ht hte _ x hs
  ·refine growk _ rfl (by rw[h1];omega) (fun r hr=>by rw[h2]at hr;cases hr) ?_
   have h2':g.rows.length=0:=by rw[h2];rfl
   rw[h2']
   have h2'':g.rows=[]:=h2
   rw[h2'']
   cases g.ad with
   |none=>rfl
   |some a=>simp[Builtin.firstCells,loadCells,loadCellsFrom]
 ·have hlen:=rowlen h6
  by_cases hroom:g.rows.length+m≤g.cap
  ·have hcells:∀j,j<news.length→(w.cell? ⟨b,0+g.rows.length*i.size+j,none⟩).isSome=true:=fun j hj=>by
    have hlt:g.rows.length*te.sz+j<(g.rows.flatMap (cl tt)++rest).length:=by
     rw[h5,hts]
     have:(g.rows.length+m)*te.sz≤g.cap*te.sz:=Nat.mul_le_mul_right _ hroom
     rw[Nat.add_mul]at this
     have:=hs.newsLen
     omega
    have:=h4.cell (List.getElem?_eq_getElem hlt)
    rw[q2,Nat.zero_add,this];rfl
   have hfro:∀j,j<news.length→w.frozen? ⟨b,0+g.rows.length*i.size+j,none⟩=false:=fun j hj=>by
    rw[q2,Nat.zero_add]
    refine h4.2.2 _ ?_
    rw[h5,hts]
    have:(g.rows.length+m)*te.sz≤g.cap*te.sz:=Nat.mul_le_mul_right _ hroom
    rw[Nat.add_mul]at this
    have:=hs.newsLen
    omega
   have hr:=run_append_room_src (P:=P) w t tx ty el i ht q1 b 0 g.rows.length g.cap x m news (by rw[q2];exact hs) hroom hcells hfro
   rw[h1]
   refine⟨_,_,hr,.room b (rest.drop news.length) rfl h2 hroom rfl (fun y hy=>same_setCells (Ne.symm hy)) ⟨size_setCells _ _ _ _,grew_setCells _ _ _ _⟩ ?_ ?_⟩
   ·have hle:news.length≤rest.length:=by
     have e1:=h5
     rw[List.length_append,hlen,hts]at e1
     have:(g.rows.length+m)*te.sz≤g.cap*te.sz:=Nat.mul_le_mul_right _ hroom
     rw[Nat.add_mul]at this
     have:=hs.newsLen
     omega
    have hsplit:g.rows.flatMap (cl tt)++rest=g.rows.flatMap (cl tt)++rest.take news.length++rest.drop news.length:=by rw[List.append_assoc,List.take_append_drop]
    rw[hsplit]at h4
    have hrow:=h4.row
    have hin:=inBlk_setCells (cs:=news) hrow (by simp;omega)
    rw[q2,Nat.zero_add,←hlen]
    have htl:(rest.take news.length).length=news.length:=by simp;omega
    exact blockUpd h4 (by rw[htl];exact hin) htl.symm
   ·have:=h5
    simp only[List.length_append,List.length_drop]at this ⊢
    rw[hts]at this
    have hle:news.length≤rest.length:=by
     have e1:=h5
     rw[List.length_append,hlen,hts]at e1
     have:(g.rows.length+m)*te.sz≤g.cap*te.sz:=Nat.mul_le_mul_right _ hroom
     rw[Nat.add_mul]at this
     have:=hs.newsLen
     omega
    omega
  ·refine growk _ rfl (by omega) h6 ?_
   rw[h1]
   refine run_firstCells_some w.drew i.size g.rows.length ⟨b,0,none⟩ _ _ _ (by rw[hlen,q2]) fun j v hj=> ?_
   have:=h4.stand j v hj
   rw[add_plus rfl]
   exact this
end
end
section
section
variable {P:Program} {τ:Tabs} {E:Env} {c:Ctx} {KS:Nat→Prop} {e:GEnv} {F:Fs} {ρ ρ':Roots} {w w':World}
theorem Inv.moveRoot{ks:List Kill}(h:Inv c KS e F ρ w)(nh:NoHit ks F ρ){r hd:Nat}(hne:hd≠r)(hall: .all r∈ks){re:Bool}{t:Ty}{x:t.D}{pd:Option (Path×(te:Ty)×List te.D)}(hr:getB ρ r=some (.data re t x pd))
  {ad:Option Addr} {g:t.G} (hg:e.gr r=some ⟨ad,t,g⟩) (hh:getB ρ hd=none) (hp:c.pin hd=none) (hph:c.hdr hd=none)
  (hρr:getB ρ' r=none) (hρh:getB ρ' hd=some (.data false t (er t g) none)) (hρ:∀n,n≠r→n≠hd→getB ρ' n=getB ρ n):Inv c KS (e.set hd ⟨none,t,g⟩) F ρ' w:=by
 obtain⟨ad0,g0,q1,q2,q3,q4,q5,q6⟩:=h.root hr
 rw[hg]at q1;cases q1
 have nd:=h.nd r
 rw[q6]at nd
 rw[List.nodup_append,List.nodup_append]at nd
 have hbr:blk ρ' (e.set hd ⟨none,t,g⟩) r=[]:=by simp[blk,hρr]
 have hbh:blk ρ' (e.set hd ⟨none,t,g⟩) hd=fp t g:=by simp[blk,hρh,GEnv.set]
 have bh:∀b∈fp t g,b∈blk ρ e r:=fun b hb=>by rw[q6];simp[hb]
 have hpr:∀A,c.pin r=some A→∀b∈fp t g,A.block≠b:=fun A hA b hb e0=>by
  obtain⟨_,h2⟩:=h.pin r A hA
  obtain⟨⟨g2,h3⟩,_⟩:=h2 _ _ _ _ hr
  rw[hg]at h3;cases h3
  exact nd.1.2.2 A.block (by simp) b hb e0
 refine h.step (S:=fun n=>n=r∨n=hd) nh
  {reads:=Reads.off (S:=fun n=>n=r∨n=hd) h nh (fun n hn=>hn.elim (fun e=> .inr (by subst e;exact hall)) (fun e=> .inl (by subst e;exact hh)))
    (fun n hn=>hρ n (fun e=>hn (.inl e)) (fun e=>hn (.inr e))) (fun n hn=>⟨by simp[GEnv.set,show n≠hd from fun e=>hn (.inr e)],rfl,rfl⟩) (fun b hb=>hb) (fun _ _ _=>rfl)
   out:=fun n hn=>⟨hρ n (fun e=>hn (.inl e)) (fun e=>hn (.inr e)),by simp[GEnv.set,show n≠hd from fun e=>hn (.inr e)],rfl,rfl,by simp[GEnv.set,show n≠hd from fun e=>hn (.inr e)]⟩
   same:=fun n _ b hb=>Same.refl w b
   size:=Grew.refl _
   roots:= ?_
   nd:= ?_
   dj:= ?_
   src:= ?_
   ksn:=fun b hb=> .inl hb
   ksd:= ?_
   pin:= ?_
   hdr:= ?_
   frm:=fun b hb=> .inl (Same.refl w b)}
 ·intro n hn
  rcases hn with rfl|rfl
  ·simp only[RootOK,hρr]
  ·simp only[RootOK,hρh]
   exact⟨none,g,by simp[GEnv.set],rfl,q3,(fun h=>by cases h),(fun _=>rfl),by simp[GEnv.set]⟩
 ·intro n hn
  rcases hn with rfl|rfl
  ·rw[hbr];simp
  ·rw[hbh];exact nd.1.2.1
 ·intro n m hn hm hnm b hb1 hb2
  rcases hn with rfl|rfl
  ·rw[hbr]at hb1;cases hb1
  ·rcases hm with rfl|rfl
   ·rw[hbr]at hb2;cases hb2
   ·exact hnm rfl
 ·intro n hn b hb
  rcases hn with rfl|rfl
  ·rw[hbr]at hb;cases hb
  ·rw[hbh]at hb
   exact .inr ⟨r,.inl rfl,bh b hb,.inr fun A hA=>hpr A hA b hb⟩
 ·intro n hn b hb hkb
  rcases hn with rfl|rfl
  ·rw[hbr]at hb;cases hb
  ·rw[hbh]at hb;exact h.ks r b (bh b hb) hkb
 ·intro n hn A hA
  rcases hn with rfl|rfl
  ·refine⟨fun q hq=>(by rw[hρr]at hq;cases hq),fun re t x pd hd'=>by rw[hρr]at hd';cases hd'⟩
  ·rw[hp]at hA;cases hA
 ·intro n hn hh hq re' t'' x'' pd'' hd'
  rcases hn with rfl|rfl
  ·rw[hρr]at hd';cases hd'
  ·rw[hph]at hq;cases hq
structure SrcOK (P:Program) (N:Nat) (c:Ctx) (F:Fs) (ρ:Roots) (w:World) (KS0:Nat→Prop) (s:Src') (t2:TypeId) (v:Value) (KS:Nat→Prop) (e:GEnv) (H:List HG) (mr:List s.t.G):Prop where
 ks:∀b,KS0 b→KS b
 tk:Taken N c F ρ w KS e s.rs s.kl H
 er:mr.map (er s.t)=s.l
 ok:∀r∈mr,okG w KS s.t r
 src:Src P s.t.sz t2 v s.l.length (mr.flatMap (cl s.t)) w
 fp:∃ex,(H.flatMap fun x=>fp x.t x.g).Perm (ex++mr.flatMap (fp s.t))
theorem bytesOf_cells(s:ByteArray):(bytesOf s).flatMap (cl (.int .u8))=byteCells s:=by
 simp only[bytesOf,byteCells,cl,List.flatMap_map]
 induction s.data.toList with
 |nil=>rfl
 |cons x xs ih=>simp[ih]
theorem src_shared{N:Nat}{KS0:Nat→Prop}{s:Src'}(h:Inv c KS e F ρ w)(hrs:s.rs=[])(hkl:s.kl=[])(hsh:s.t.shared=true){t2 el:TypeId}(hk:P.underlying t2=some (.slice el)){ad:Option Addr}{cap:Nat}
  (hl:s.l=[]∨∃a rows,ad=some a∧a.spot=none∧Stand w a rows∧Rows' (RepK w KS s.t) s.l rows):∃mr,SrcOK P N c F ρ w KS s t2 (.slice ad s.l.length cap) KS e [] mr:=by
 rcases hl with h0|⟨a,rows,rfl,h2,h3,h4⟩
 ·refine⟨[],fun _ h=>h,by rw[hrs,hkl];exact Taken.start h,by simp[h0],by simp, ?_,[],by simp⟩
  rw[h0]
  cases ad with
  |none=>exact Src.ofNil w hk cap
  |some a=>exact Src.ofSlice w hk a 0 cap [] (by simp) (by simp) (by simp)
 ·obtain⟨gs,g1,g2,g3,g4⟩:=rows_ghost (fun x cs hx=>repK_okG s.t hsh x cs hx) s.l rows h4
  refine⟨gs,fun _ h=>h,by rw[hrs,hkl];exact Taken.start h,g2,g1, ?_,[],by simp[g4]⟩
  rw[g3]
  refine Src.ofSlice w hk a _ cap rows (by rw[rows_len (fun x cs hx=>repK_len s.t x cs hx) _ _ h4]) (fun j u hj=> ?_) (fun u hu=> ?_)
  ·rw[add_plus h2];exact h3 j u hj
  ·rw[←g3]at hu
   obtain⟨r,hr,hu⟩:=List.mem_flatMap.1 hu
   exact cl_one _ _ (g1 r hr) u hu
theorem srcE_ok{N:Nat}(hN:32768≤N)(hE:EnvOK P E)(hC:CtxOK τ c)(h:Inv c KS e F ρ w){a x:RV}{v:Value}(hx:RVok w KS ρ e x v){s:Src'}(hs:(srcE ρ a x).run=some s){t2:TypeId}(h2:rvIs E ρ t2 x=true):
  ∃KS' e' H mr,SrcOK P N c F ρ w KS s t2 v KS' e' H mr∧(s.kl=[]∨fresh s.kl ρ a=true):=by
 have lst:∀{o:Bool} {t:Ty},tyIs E t2 (.list o t)=true→∃el,P.underlying t2=some (.slice el):=fun ht=>by
  obtain⟨u,hu,hsm⟩:=tyIs_ok hE ht
  obtain⟨el,_,h1,_⟩:=list_ty hu hsm
  exact⟨el,h1⟩
 have plc:∀{p:Place} {s0:Spot} {o:Bool} {t:Ty},placeIs E ρ t2 p=true→spotD e p=some s0→s0.t= .list o t→∃el,P.underlying t2=some (.slice el):=fun hp hsp he=>by
  obtain⟨u,hu,hsm⟩:=placeIs_ok hE h hp hsp
  rw[he]at hsm
  obtain⟨el,_,h1,_⟩:=list_ty hu hsm
  exact⟨el,h1⟩
 have snapped:∀{te:Ty} {o:Bool},(snap ρ te x).run=some ⟨.list o s.t,s.l⟩→s.t.shared=true→s.rs=[]→s.kl=[]→(∃el,P.underlying t2=some (.slice el))→∃KS' e' H mr,SrcOK P N c F ρ w KS s t2 v KS' e' H mr∧(s.kl=[]∨fresh s.kl ρ a=true):=fun hsn hsh hrs hkl ⟨el,hk⟩=>by
  obtain⟨ad,cap,rfl,hl⟩:=snap_list h hx hsn hsh
  obtain⟨mr,hm⟩:=src_shared (N:=N) (KS0:=KS) h hrs hkl hsh hk (ad:=ad) (cap:=cap) hl
  exact⟨_,_,_,mr,hm,.inl hkl⟩
 unfold srcE at hs
 split at hs
 ·--a string's bytes
  rename_i b
  injection hs with hs;subst hs
  have:=rvok_str hx;subst this
  obtain⟨u,hu,hsm⟩:=tyIs_ok hE h2
  have hk:=str_ty hu hsm
  refine⟨KS,e,[],bytesOf b,⟨fun _ h=>h,Taken.start h,by simp[er],fun _ _=>trivial, ?_,[], ?_⟩,.inl rfl⟩
  ·rw[bytesOf_cells]
   have:=Src.ofString (P:=P) w hk b
   have hl:(bytesOf b).length=b.size:=by simp[bytesOf]
   show Src P 1 t2 (.string b) (bytesOf b).length (byteCells b) w
   rw[hl];exact this
  ·have:(bytesOf b).flatMap (fp (.int .u8))=[]:=List.flatMap_eq_nil_iff.2 fun _ _=>rfl
   simp[this]
 ·rename_i o t l
  injection hs with hs;subst hs
  have hsh:=hx.1
  cases o with
  |true=>cases hsh
  |false=>
  exact snapped (te:= .unit) (o:=false) rfl (by simpa[Ty.shared]using hsh) rfl rfl (lst h2)
 ·rename_i r
  replace hs:=Cm.run_bind_some hs;obtain⟨vv,hv,hs⟩:=hs
  split at hs
  ·rename_i o t l
   have hpl:placeIs E ρ t2 ⟨r,[]⟩=true:=h2
   have hx0:=hx
   obtain⟨hd,te,g,ad,hsp,rfl⟩:=hx
   obtain⟨s0,hs0,he0,_⟩:=rdP_ok h hv
   rw[res_data hd,hsp]at hs0;cases hs0
   split at hs
   ·rename_i hsh
    injection hs with hs;subst hs
    exact snapped (te:= .unit) (o:=o) hv hsh rfl rfl (plc hpl hsp rfl)
   ·rename_i hsh
    replace hs:=Cm.run_chk hs;obtain⟨hfr,hs⟩:=hs
    injection hs with hs;subst hs
    obtain⟨el,hk⟩:=plc hpl hsp rfl
    obtain⟨re,tr,xr,pd,hb⟩:=hd
    obtain⟨adr,gr,q1,q2,q3,q4,q5,q6⟩:=h.root hb
    simp only[spotD,q1,Option.bind_some,loc_nil,Option.some.injEq,Spot.mk.injEq]at hsp
    obtain⟨rfl,hgr,_⟩:=hsp
    cases hgr
    cases he0
    -- the root's content moves
    obtain⟨n1,m1,f1⟩:=fresh_name ρ (max N (r+1))
    have hh:=f1 n1 (Nat.le_refl _)
    obtain⟨hp,hph⟩:=hC.none (n:=n1) (by omega)
    have hne:n1≠r:=by omega
    have hP:=h.purge [.all r]
    have hM:=hP.1.moveRoot (ρ':=(n1,some (.data false (.list true t) (er _ g) none))::(([(r,none)]:Roots)++purgesB [.all r] ρ)) hP.2 hne (by simp) (data_purgesB hb) q1 (none_purgesB hh) hp hph
     (by rw[getB_cons_ne (Ne.symm hne)];simp[getB]) getB_cons_eq (fun n h1 h2=>by rw[getB_cons_ne h2];simp only[List.singleton_append];rw[getB_cons_ne h1])
    have q3':okG w KS (.list true t) g:=q3
    have hrows:∀r0∈g.rows,okG w KS t r0:=by
     rcases q3' with⟨_,k2⟩|⟨_,_,_,_,_,_,_,k6⟩
     ·rw[k2];simp
     ·exact k6
    refine⟨KS,_,[⟨n1,.list true t,g⟩],g.rows,⟨fun _ h=>h,⟨hM,by simp[GEnv.set],by simp, ?_,by simp[hb]⟩,rfl,hrows, ?_, ?_⟩,.inr hfr⟩
    ·intro x hx
     simp only[List.mem_singleton]at hx
     subst hx
     exact⟨hh,by show N≤n1;omega⟩
    ·have hlen:(er (Ty.list true t) g).length=g.rows.length:=by simp[er]
     show Src P t.sz t2 _ (er (Ty.list true t) g).length _ w
     rw[hlen]
     rcases q3' with⟨k1,k2⟩|⟨b,rest,k1,k2,k3,k4,k5,k6⟩
     ·rw[k2]
      cases g.ad with
      |none=>exact Src.ofNil w hk _
      |some a0=>exact Src.ofSlice w hk a0 0 _ [] (by simp) (by simp) (by simp)
     ·rw[k1]
      refine Src.ofSlice w hk ⟨b,0,none⟩ _ _ _ (rows_flat t _ k6) (fun j u hj=> ?_) (fun u hu=> ?_)
      ·rw[add_plus rfl];exact k4.stand j u hj
      ·obtain⟨r0,hr0,hu⟩:=List.mem_flatMap.1 hu
       exact cl_one _ _ (k6 r0 hr0) u hu
    ·simp only[List.flatMap_cons,List.flatMap_nil,List.append_nil]
     rcases q3' with⟨k1,k2⟩|⟨b,rest,k1,k2,k3,k4,k5,k6⟩
     ·exact⟨fp (.list true t) g,by rw[k2];simp⟩
     ·exact⟨[b],by simp only[fp,k1,show g.cap≠0 by omega,if_false];rfl⟩
  ·cases hs
 ·replace hs:=Cm.run_bind_some hs;obtain⟨vv,hv,hs⟩:=hs
  split at hs
  ·rename_i o t l
   split at hs
   ·rename_i hsh
    injection hs with hs;subst hs
    refine snapped (te:= .unit) (o:=o) hv hsh rfl rfl ?_
    cases x with
    |v u y=>
     injection hv with hv
     cases hv
     exact lst h2
    |wl p=>
     obtain⟨hd,te,g,ad,hsp,_⟩:=hx
     exact plc h2 hsp rfl
    |vw p lo n=>
     obtain⟨hd,te,g,ad,hsp,_⟩:=hx
     exact plc h2 hsp rfl
    |rf p=>
     replace hv:=Cm.run_bind_some hv;obtain⟨dd,_,hv⟩:=hv
     injection hv with hv;cases hv
    |_=>first|(cases hv;done)|(cases h2;done)
   ·cases hs
  ·cases hs
end
end
section
section
variable {P:Program} {τ:Tabs} {E:Env} {c:Ctx} {KS:Nat→Prop} {e:GEnv} {F:Fs} {ρ ρ':Roots} {w w':World}
theorem After.congr{ef ef':Eff}{v:Value}(h:After c KS F ρ ef v w')(hv:ef'.rv=ef.rv)(hb:∀n,getB (ef'.rs++purgesB ef'.kill ρ) n=getB (ef.rs++purgesB ef.kill ρ) n)(hk:∀k∈ef.kill,k∈ef'.kill):After c KS F ρ ef' v w':=by
 obtain⟨KS',e',h1,h2,h3⟩:=h
 refine⟨KS',e',h1, ?_,(h3.more (L:=allKills ef'.kill ρ) fun k hk'=> ?_).congr hb⟩
 ·rw[hv]
  exact(Reads.refl hb []).ok _ _ (fun k hk=>by cases hk) h2
 ·simp only[allKills,List.mem_append,List.mem_flatMap]at hk' ⊢
  rcases hk' with h|⟨x,hx,h⟩
  ·exact .inl (hk _ h)
  ·exact .inr ⟨x,hk x hx,h⟩
theorem appR_sum{sz:Nat}{ad:Option Addr}{cap n0 m:Nat}{olds news:List Value}{v':Value}(h:AppR w sz ad cap n0 m olds news v' w')(hcap:cap=0→n0=0):
  Grew w w'∧(∀x,x<w.heap.size→(∀a,ad=some a→cap≠0→a.block≠x)→Same w w' x)∧
  ∃adN capN,v'= .slice adN (n0+m) capN∧((capN=0∧n0+m=0∧adN=ad)∨∃b rest,adN=some ⟨b,0,none⟩∧0<capN∧n0+m≤capN∧Block w' b (olds++news++rest)∧(olds++news++rest).length=capN*sz∧
   ((w.heap.size≤b∧b<w'.heap.size)∨(ad=some ⟨b,0,none⟩∧cap≠0))∧(n0+m=0→cap≠0)):=by
 cases h with
 |none h1 h2 h3 h4 h5=>
  subst h5
  refine⟨Grew.refl _,fun x _ _=>Same.refl _ x,ad,0, ?_,.inl ⟨rfl,by omega,rfl⟩⟩
  rw[h4,h2,h3]
 |room b rest h1 h2 h3 h4 h5 h6 h7 h8=>
  refine⟨h6.2,fun x hx hne=>h5 x fun e=>hne ⟨b,0,Option.none⟩ h1 (by omega) e.symm,ad,cap,h4,.inr ⟨b,rest,h1,h2,h3,h7,h8,.inr ⟨h1,by omega⟩,fun _=>by omega⟩⟩
 |grow rest cap' h1 h2 h3 h4 h5 h6 h7=>
  refine⟨h5.2,fun x hx _=>h4 x hx,_,cap',h1,.inr ⟨w.heap.size,rest,rfl,by omega,h3,h6,h7,.inl ⟨Nat.le_refl _,by omega⟩,fun h=>by omega⟩⟩
theorem convList{t t':Ty}{l:List t.D}{l':List t'.D}(h:conv (.list true t) (.list true t') l=some l')(rows:List t.G)(hr:rows.map (er t)=l):
  ∃(rows':List t'.G) (dr:List Nat),t.sz=t'.sz∧(rows.flatMap (fp t)).Perm (rows'.flatMap (fp t')++dr)∧rows'.length=rows.length∧rows'.flatMap (cl t')=rows.flatMap (cl t)∧rows'.map (er t')=l'∧
   ∀w KS KS',(∀b,KS b→KS' b)→(∀b∈dr,KS' b)→(∀r∈rows,okG w KS t r)→∀r∈rows',okG w KS' t' r:=by
 obtain⟨hs,rfl⟩:=conv_some h
 have hs':t.sub t'=true:=by
  have:=hs
  simp only[Ty.sub,Bool.and_eq_true]at this
  exact this.2.2
 obtain⟨rows',dr,h1,h2,h3,h4,h5⟩:=convRows hs' (fun g=>convG hs' g) rows
 subst hr
 exact⟨rows',dr,Ty.same_sz (Ty.sub_same hs'),h1,h2,h3,h4 _,h5⟩
theorem conv_tight{t t':Ty}{l:List t.D}{l':List t'.D}(h:conv (.list true t) (.list true t') l=some l')(e:t'.isT=true):t.isT=true:=by
 obtain⟨hs,_⟩:=conv_some h
 simp only[Ty.sub,Bool.and_eq_true,e,Bool.not_true,Bool.false_or]at hs
 exact hs.2.1
theorem fin_ok(hE:EnvOK P E){N:Nat}{KS0:Nat→Prop}{e0:GEnv}{rs:Roots}{kl:List Kill}{H:List HG}(hC:CtxOK τ c)(h0:Inv c KS0 e0 F ρ w)(hKS:∀b,KS0 b→KS b)(T:Taken N c F ρ w KS e rs kl H){d:Nat}(hd32:32768≤d)(hdN:d<N)(hd0:getB ρ d=none)
  {t t2 ty el:TypeId} (ht:P.underlying t=some (.slice el)) {tt:Ty} (hte:TyR P el tt) (hsol:tt.solid=true) {by_:Nat} (hby:∃i,P.info? el=some i∧i.bytes=by_)
  {te:Ty} {g:OwnL te.G} (hg:okG w KS (.list true te) g) {s:Src'} {x:Value} {mr:List s.t.G} (her:mr.map (er s.t)=s.l) (hok:∀r∈mr,okG w KS s.t r) (hsrc:Src P s.t.sz t2 x s.l.length (mr.flatMap (cl s.t)) w)
  (hperm:∃ex,(H.flatMap fun x=>fp x.t x.g).Perm (ex++(fp (.list true te) g++mr.flatMap (fp s.t)))) {ef:Eff} (hc:(finE' d tt by_ te (er (.list true te) g) s rs kl).run=some ef):
  Does P (do pure (.value (←Builtin.append_ #[t,t2] ty #[.slice g.ad g.rows.length g.cap,x]))) w (After c KS0 F ρ ef):=by
 unfold finE' roomE at hc
 replace hc:=Cm.run_chk hc;obtain⟨hchk,hc⟩:=hc
 replace hc:=Cm.run_ask hc;obtain⟨hroom,hc⟩:=hc
 replace hc:=Cm.run_get hc;obtain⟨l',hl',hc⟩:=hc
 replace hc:=Cm.run_get hc;obtain⟨m',hm',hc⟩:=hc
 injection hc with hc;subst hc
 simp only[Bool.and_eq_true,Nat.ble_eq]at hchk
 obtain⟨⟨hs1,hs2⟩,hby1⟩:=hchk
 generalize joinT te s.t=tj at*
 have hsz1:=Ty.same_sz hs1
 have hsz2:=Ty.same_sz hs2
 have hlen0:(er (.list true te) g).length=g.rows.length:=by simp[er]
 have hlenm:s.l.length=mr.length:=by rw[←her];simp
 obtain⟨v',w',hrun,hR⟩:=append_run (P:=P) (t:=t) (tx:=t2) (ty:=ty) ht hte hsol hsz1 hby hby1 hg (x:=x) (m:=s.l.length) (news:=mr.flatMap (cl s.t)) (by rw[←hsz2];exact hsrc) (by rw[hlen0]at hroom;exact hroom)
 refine does_value hrun ?_
 have hcap0:g.cap=0→g.rows.length=0:=fun h=>by
  rcases hg with⟨_,h2⟩|⟨_,_,_,h2,h3,_⟩
  ·rw[h2];rfl
  ·have:=h3.1;omega
 obtain⟨hz,hsame,adN,capN,rfl,hres⟩:=appR_sum hR hcap0
 obtain⟨rows0,dr0,a1,a2,a3,a4,a5,a6⟩:=convList hl' g.rows rfl
 obtain⟨rows1,dr1,b1,b2,b3,b4,b5,b6⟩:=convList hm' mr her
 obtain⟨ex,hperm⟩:=hperm
 have hgrows:∀r∈g.rows,okG w KS te r:=by
  rcases hg with⟨_,h2⟩|⟨_,_,_,_,_,_,_,h6⟩
  ·rw[h2];simp
  ·exact h6
 -- the blocks
 obtain⟨B0,hB0,hB1,hB2⟩:∃B0:List Nat,fp (.list true te) g=B0++g.rows.flatMap (fp te)∧(∀a,g.ad=some a→g.cap≠0→a.block∈B0)∧(∀b∈B0,g.ad=some ⟨b,0,none⟩∧g.cap≠0):=by
  rcases hg with⟨h1,h2⟩|⟨b,rest,h1,h2,_⟩
  ·have h2':g.rows=[]:=h2
   have h1':g.cap=0:=h1
   refine⟨[], ?_,fun a _ h=>absurd h1' h,by simp⟩
   rw[h2']
   cases hq:g.ad with
   |none=>simp[fp,hq]
   |some a=>simp[fp,hq,h1']
  ·have h1':g.ad=some ⟨b,0,none⟩:=h1
   refine⟨[b],by simp[fp,h1',show g.cap≠0 by omega],fun a ha _=>by rw[h1']at ha;cases ha;simp,fun x hx=> ?_⟩
   simp at hx;subst hx;exact⟨h1',by omega⟩
 have hnd:=nodup_perm hperm T.nodup
 rw[hB0]at hnd hperm
 have hmemL:∀b,b∈ex++(B0++g.rows.flatMap (fp te)++mr.flatMap (fp s.t))→∃x∈H,b∈fp x.t x.g:=fun b hb=>List.mem_flatMap.1 (hperm.mem_iff.2 hb)
 have hlt:∀b,(∃x∈H,b∈fp x.t x.g)→b<w.heap.size∧¬KS b:=fun b ⟨x,hx,hb⟩=>(T.each x hx).2 b hb
 have in0:∀b,b∈rows0.flatMap (fp tj)∨b∈dr0→b∈g.rows.flatMap (fp te):=fun b hb=>a2.mem_iff.2 (List.mem_append.2 hb)
 have in1:∀b,b∈rows1.flatMap (fp tj)∨b∈dr1→b∈mr.flatMap (fp s.t):=fun b hb=>b2.mem_iff.2 (List.mem_append.2 hb)
 have nd1:=List.nodup_append.1 (List.nodup_append.1 hnd).2.1--(B0++rows),mr
 have nd2:=List.nodup_append.1 nd1.1--B0,rows
 have nd3:=List.nodup_append.1 (nodup_perm a2 nd2.2.1)--rows0,dr0
 have nd4:=List.nodup_append.1 (nodup_perm b2 nd1.2.1)--rows1,dr1
 have hX:∀b,b∈dr0∨b∈dr1→∃x∈H,b∈fp x.t x.g:=fun b hb=>hmemL b (by
  rcases hb with hb|hb
  ·have:=in0 b (.inr hb);simp[this]
  ·have:=in1 b (.inr hb);simp[this])
 have hnotB:∀b,(b∈g.rows.flatMap (fp te)∨b∈mr.flatMap (fp s.t))→∀a,g.ad=some a→g.cap≠0→a.block≠b:=fun b hb a ha hc e0=>by
  have h1:=hB1 a ha hc
  rw[e0]at h1
  rcases hb with hb|hb
  ·exact nd2.2.2 b h1 b hb rfl
  ·exact nd1.2.2 b (by simp[h1]) b hb rfl
 have hkeep:∀b,(b∈g.rows.flatMap (fp te)∨b∈mr.flatMap (fp s.t))→Same w w' b:=fun b hb=>
  hsame b (hlt b (hmemL b (by rcases hb with hb|hb<;>simp[hb]))).1 (hnotB b hb)
 have hkeepK:∀b,(KS b∨b∈dr0∨b∈dr1)→∀o,w'.cell? ⟨b,o,none⟩=w.cell? ⟨b,o,none⟩:=fun b hb=>by
  rcases hb with hb|hb|hb
  ·refine(hsame b (T.inv.lt b hb) fun a ha hc e0=> ?_).2.2
   have h1:=hB1 a ha hc
   rw[e0]at h1
   exact(hlt b (hmemL b (by simp[h1]))).2 hb
  ·exact(hkeep b (.inl (in0 b (.inr hb)))).2.2
  ·exact(hkeep b (.inr (in1 b (.inr hb)))).2.2
 have hrowsOK:∀r∈rows0++rows1,okG w' (fun b=>KS b∨b∈dr0∨b∈dr1) tj r:=fun r hr=>by
  rcases List.mem_append.1 hr with hr|hr
  ·refine okG_frame hkeepK _ _ (fun b hb=>hkeep b (.inl (in0 b (.inl (List.mem_flatMap.2 ⟨r,hr,hb⟩))))) (a6 w KS _ (fun b hb=> .inl hb) (fun b hb=> .inr (.inl hb)) hgrows r hr)
  ·refine okG_frame hkeepK _ _ (fun b hb=>hkeep b (.inr (in1 b (.inl (List.mem_flatMap.2 ⟨r,hr,hb⟩))))) (b6 w KS _ (fun b hb=> .inl hb) (fun b hb=> .inr (.inr hb)) hok r hr)
 have hlenN:(rows0++rows1).length=g.rows.length+s.l.length:=by simp[a3,b3,hlenm]
 have hcells:(rows0++rows1).flatMap (cl tj)=g.rows.flatMap (cl te)++mr.flatMap (cl s.t):=by rw[List.flatMap_append,a4,b4]
 have hszj:tj.sz=tt.sz:=by rw[←a1,hsz1]
 let G:OwnL tj.G:=⟨adN,capN,rows0++rows1⟩
 have hGok:okG w' (fun b=>KS b∨b∈dr0∨b∈dr1) (.list true tj) G:=by
  rcases hres with⟨h1,h2,_⟩|⟨b,rest,h1,h2,h3,h4,h5,h6,h7⟩
  ·exact .inl ⟨h1,List.eq_nil_of_length_eq_zero (by show(rows0++rows1).length=0;omega)⟩
  ·refine .inr ⟨b,rest,h1,h2,⟨by show(rows0++rows1).length≤capN;omega,fun e (e0:rows0++rows1=[])=> ?_⟩, ?_, ?_,hrowsOK⟩
   ·have e1:g.rows.length+s.l.length=0:=by rw[←hlenN,e0];rfl
    rcases hg with⟨k1,_⟩|⟨_,_,_,_,k3,_⟩
    ·exact h7 e1 k1
    ·exact k3.2 (conv_tight hl' e) (List.eq_nil_of_length_eq_zero (by omega))
   ·show Block w' b ((rows0++rows1).flatMap (cl tj)++rest);rw[hcells];exact h4
   ·show((rows0++rows1).flatMap (cl tj)++rest).length=capN*tj.sz;rw[hcells,h5,hszj]
 have hfpG:∀b∈fp (.list true tj) G,((w.heap.size≤b∧b<w'.heap.size)∨b∈B0)∨b∈rows0.flatMap (fp tj)∨b∈rows1.flatMap (fp tj):=fun b hb=>by
  simp only[fp,G]at hb
  rcases hres with⟨h1,_⟩|⟨b',rest,h1,h2,h3,h4,h5,h6,_⟩
  ·cases adN<;>simp[h1]at hb
  ·simp only[h1,show capN≠0 by omega,if_false,List.flatMap_append]at hb
   rcases List.mem_cons.1 hb with rfl|hb
   ·left
    exact h6.imp id fun⟨h7,h8⟩=>hB1 _ h7 h8
   ·exact .inr (List.mem_append.1 hb)
 have hndG:(fp (.list true tj) G).Nodup:=by
  simp only[fp,G]
  rcases hres with⟨h1,_⟩|⟨b',rest,h1,h2,h3,h4,h5,h6,_⟩
  ·cases adN<;>simp[h1]
  ·simp only[h1,show capN≠0 by omega,if_false,List.flatMap_append]
   refine List.nodup_cons.2 ⟨fun hm=> ?_,List.nodup_append.2 ⟨nd3.1,nd4.1,fun a ha b hb e0=> ?_⟩⟩
   ·rcases List.mem_append.1 hm with hm|hm
    ·have hi:=in0 b' (.inl hm)
     rcases h6 with⟨h7,_⟩|⟨h7,h8⟩
     ·have:=(hlt b' (hmemL b' (by simp[hi]))).1;omega
     ·exact hnotB b' (.inl hi) _ h7 h8 rfl
    ·have hi:=in1 b' (.inl hm)
     rcases h6 with⟨h7,_⟩|⟨h7,h8⟩
     ·have:=(hlt b' (hmemL b' (by simp[hi]))).1;omega
     ·exact hnotB b' (.inr hi) _ h7 h8 rfl
   ·subst e0
    exact nd1.2.2 a (by simp[in0 a (.inl ha)]) a (in1 a (.inl hb)) rfl
 have hv:=rvok_wl (w:=w') (KS:=fun b=>KS b∨b∈dr0∨b∈dr1) (ρ:=rs++purgesB kl ρ) (e:=e) (d:=d) (re:=false) (t:=tj) (x:=(l'++m':List tj.D)) (pd:=none) (g:=G) (ad:=none)
 have hv':RVok w' (fun b=>KS b∨b∈dr0∨b∈dr1) ((d,some (.data false (.list true tj) (l'++m':List tj.D) none))::(rs++purgesB kl ρ)) (e.set d ⟨none,.list true tj,G⟩) (.wl ⟨d,[]⟩) (.slice adN (g.rows.length+s.l.length) capN):=by
  rw[←hlenN];exact hv
 refine T.into hC h0 hKS hd32 hdN hd0 (fun b hb hnb=>hsame b hb fun a ha hc e0=> ?_) hz (X:=fun b=>b∈dr0∨b∈dr1) hX hGok (fun h=>by cases h) (fun _=>rfl) (by simpa using hndG) (fun b hb=> ?_) (by simp[er,G,a5,b5]) hv'
 ·have h1:=hB1 a ha hc
  rw[e0]at h1
  obtain⟨x,hx,hbx⟩:=hmemL b (by simp[h1])
  exact hnb x hx hbx
 ·simp only[Option.map_none,Option.toList_none,List.nil_append]at hb
  refine⟨fun hXb=> ?_, ?_⟩
  ·rcases hfpG b hb with(⟨h1,_⟩|h1)|h1|h1
   ·have:=(hlt b (hX b hXb)).1;omega
   ·rcases hXb with hXb|hXb
    ·exact nd2.2.2 b h1 b (in0 b (.inr hXb)) rfl
    ·exact nd1.2.2 b (by simp[h1]) b (in1 b (.inr hXb)) rfl
   ·rcases hXb with hXb|hXb
    ·exact nd3.2.2 b h1 b hXb rfl
    ·exact nd1.2.2 b (by simp[in0 b (.inl h1)]) b (in1 b (.inr hXb)) rfl
   ·rcases hXb with hXb|hXb
    ·exact nd1.2.2 b (by simp[in0 b (.inr hXb)]) b (in1 b (.inl h1)) rfl
    ·exact nd4.2.2 b h1 b hXb rfl
  ·rcases hfpG b hb with(h1|h1)|h1|h1
   ·exact .inl h1
   ·exact .inr (hmemL b (by simp[h1]))
   ·exact .inr (hmemL b (by simp[in0 b (.inl h1)]))
   ·exact .inr (hmemL b (by simp[in1 b (.inl h1)]))
end
end
section
theorem okG_spare {w w' : World} {KS : Nat → Prop} (hk : ∀ b, KS b → ∀ o, w'.cell? ⟨b, o, none⟩ = w.cell? ⟨b, o, none⟩) {b : Nat} {tl : Ty} {gl : OwnL tl.G} (hb : gl.ad = some ⟨b, 0, none⟩) (hcap : 0 < gl.cap)
  {rest : List Value} (hB : Block w' b (gl.rows.flatMap (cl tl) ++ rest)) (hlen : (gl.rows.flatMap (cl tl) ++ rest).length = gl.cap * tl.sz) :
  ∀ (p : Path) (t : Ty) (g : t.G) (ad : Option Addr) (a : Option Addr), loc t g ad p = some ⟨.list true tl, gl, a⟩ → (∀ A, ad = some A → A.spot = none) → okG w KS t g → (fp t g).Nodup → (∀ x ∈ fp t g, x ≠ b → Same w w' x) → okG w' KS t g := by
 have hin : b ∈ fp (.list true tl) gl := by simp [fp, hb, show gl.cap ≠ 0 by omega]
 intro p
 induction p with
 | nil =>
  intro t g ad a h hsp hok hnd hs
  rw [loc_nil] at h
  injection h with h
  injection h with h1 h2 h3
  subst h1
  cases h2
  rcases hok with ⟨h1, h2⟩ | ⟨b', rest', h1, h2, h3, h4, h5, h6⟩
  ·have h1' : gl.cap = 0 := h1
   omega
  ·refine .inr ⟨b, rest, hb, hcap, h3, hB, hlen, fun r hr => ?_⟩
   have hfp : fp (.list true tl) gl = b :: gl.rows.flatMap (fp tl) := by simp [fp, hb, show gl.cap ≠ 0 by omega]
   rw [hfp] at hnd hs
   have hn := List.nodup_cons.1 hnd
   refine okG_frame hk _ _ (fun x hx => ?_) (h6 r hr)
   have hx' : x ∈ gl.rows.flatMap (fp tl) := List.mem_flatMap.2 ⟨r, hr, hx⟩
   exact hs x (List.mem_cons_of_mem _ hx') fun e => hn.1 (e ▸ hx')
 | cons st p ih =>
  intro t g ad a h hsp hok hnd hs
  cases st with
  | L =>
   cases t <;> first | (cases h; done) | skip
   rename_i t1 t2
   simp only [fp] at hnd hs
   have hn := List.nodup_append.1 hnd
   have hL := locG p t1 g.1 ad _ h hsp hok.1
   have hbin : b ∈ fp t1 g.1 := hL.sub b hin
   refine ⟨ih t1 g.1 ad a h hsp hok.1 hn.1 fun x hx => hs x (by simp [hx]), okG_frame hk _ _ (fun x hx => hs x (by simp [hx]) fun e => ?_) hok.2⟩
   subst e; exact hn.2.2 _ hbin _ hx rfl
  | R =>
   cases t <;> first | (cases h; done) | skip
   rename_i t1 t2
   simp only [fp] at hnd hs
   have hn := List.nodup_append.1 hnd
   have hsp' : ∀ A, ad.map (Addr.plus · t1.sz) = some A → A.spot = none := fun A hA => by
    cases ad with
    | none => cases hA
    | some A' => simp at hA; subst hA; rfl
   have hL := locG p t2 g.2 _ _ h hsp' hok.2
   have hbin : b ∈ fp t2 g.2 := hL.sub b hin
   refine ⟨okG_frame hk _ _ (fun x hx => hs x (by simp [hx]) fun e => ?_) hok.1, ih t2 g.2 _ a h hsp' hok.2 hn.2.1 fun x hx => hs x (by simp [hx])⟩
   subst e; exact hn.2.2 _ hx _ hbin rfl
  | I i =>
   cases t <;> first | (cases h; done) | skip
   rename_i o u
   cases o with
   | false => cases h
   | true =>
   simp only [loc] at h
   split at h
   ·rename_i r hr
    obtain ⟨l1, l2, e1, hi, _⟩ := split_at hr
    rcases hok with ⟨_, h0⟩ | ⟨b', rest', h1, h2, h3, h4, h5, h6⟩
    ·have h0' : g.rows = [] := h0
     rw [h0'] at hr; simp at hr
    ·have h1' : g.ad = some ⟨b', 0, none⟩ := h1
     have hfp : fp (.list true u) g = b' :: g.rows.flatMap (fp u) := by simp [fp, h1', show g.cap ≠ 0 by omega]
     rw [hfp] at hnd hs
     have hn := List.nodup_cons.1 hnd
     have hsp' : ∀ A, g.ad.map (Addr.plus · (i * u.sz)) = some A → A.spot = none := fun A hA => by rw [h1'] at hA; simp at hA; subst hA; rfl
     have hL := locG p u r _ _ h hsp' (h6 r (by simp [e1]))
     have hbin : b ∈ fp u r := hL.sub b hin
     have hbr : b ∈ g.rows.flatMap (fp u) := List.mem_flatMap.2 ⟨r, by simp [e1], hbin⟩
     have hnr := hn.2
     rw [e1] at hnr
     simp only [List.flatMap_append, List.flatMap_cons] at hnr
     have n1 := List.nodup_append.1 hnr
     have n2 := List.nodup_append.1 n1.2.1
     refine .inr ⟨b', rest', h1, h2, h3, (hs b' (by simp) fun e => hn.1 (e ▸ hbr)).block h4, h5, fun r0 hr0 => ?_⟩
     have hsub : ∀ x ∈ fp u r0, x ∈ b' :: g.rows.flatMap (fp u) := fun x hx => List.mem_cons_of_mem _ (List.mem_flatMap.2 ⟨r0, hr0, hx⟩)
     rw [e1] at hr0
     rcases List.mem_append.1 hr0 with hr0 | hr0
     ·refine okG_frame hk _ _ (fun x hx => hs x (hsub x hx) fun e => ?_) (h6 r0 (by simp [e1, hr0]))
      subst e
      exact n1.2.2 _ (List.mem_flatMap.2 ⟨r0, hr0, hx⟩) _ (by simp [hbin]) rfl
     ·rcases List.mem_cons.1 hr0 with rfl | hr0
      ·exact ih u r0 _ a h hsp' (h6 r0 (by simp [e1])) n2.1 fun x hx => hs x (hsub x hx)
      ·refine okG_frame hk _ _ (fun x hx => hs x (hsub x hx) fun e => ?_) (h6 r0 (by simp [e1, hr0]))
       subst e
       exact n2.2.2 _ hbin _ (List.mem_flatMap.2 ⟨r0, hr0, hx⟩) rfl
   ·cases h
  | A i =>
   cases t <;> first | (cases h; done) | skip
   rename_i n u
   simp only [loc] at h
   split at h
   ·rename_i r hr
    obtain ⟨l1, l2, e1, hi, _⟩ := split_at hr
    obtain ⟨hlen', h6⟩ := hok
    have hfp : fp (.arr n u) g = (g : List u.G).flatMap (fp u) := rfl
    rw [hfp] at hnd hs
    have hsp' : ∀ A, ad.map (Addr.plus · (i * u.sz)) = some A → A.spot = none := fun A hA => by
     cases ad with
     | none => cases hA
     | some A' => simp at hA; subst hA; rfl
    have hL := locG p u r _ _ h hsp' (h6 r (by rw [e1]; simp))
    have hbin : b ∈ fp u r := hL.sub b hin
    have hnr := hnd
    rw [e1] at hnr
    simp only [List.flatMap_append, List.flatMap_cons] at hnr
    have n1 := List.nodup_append.1 hnr
    have n2 := List.nodup_append.1 n1.2.1
    refine ⟨hlen', fun r0 hr0 => ?_⟩
    have hsub : ∀ x ∈ fp u r0, x ∈ (g : List u.G).flatMap (fp u) := fun x hx => List.mem_flatMap.2 ⟨r0, hr0, hx⟩
    have hr0' := hr0
    rw [e1] at hr0
    rcases List.mem_append.1 hr0 with hr0 | hr0
    ·refine okG_frame hk _ _ (fun x hx => hs x (hsub x hx) fun e => ?_) (h6 r0 hr0')
     subst e
     exact n1.2.2 _ (List.mem_flatMap.2 ⟨r0, hr0, hx⟩) _ (by simp [hbin]) rfl
    ·rcases List.mem_cons.1 hr0 with rfl | hr0
     ·exact ih u r0 _ a h hsp' (h6 r0 hr0') n2.1 fun x hx => hs x (hsub x hx)
     ·refine okG_frame hk _ _ (fun x hx => hs x (hsub x hx) fun e => ?_) (h6 r0 hr0')
      subst e
      exact n2.2.2 _ hbin _ (List.mem_flatMap.2 ⟨r0, hr0, hx⟩) rfl
   ·cases h
section
variable {P:Program} {E:Env} {c:Ctx} {KS:Nat→Prop} {e:GEnv} {F:Fs} {ρ ρ':Roots} {w w':World}
def GEnv.pend(e:GEnv)(r:Nat)(v:Value)(pb:List Nat):GEnv:={e with pv:=fun n=>if n=r then v else e.pv n,pb:=fun n=>if n=r then pb else e.pb n}
set_option maxHeartbeats 2000000 in
theorem Taken.pend{N:Nat}{KS0:Nat→Prop}{e0:GEnv}{rs:Roots}{kl:List Kill}{H:List HG}(h0:Inv c KS0 e0 F ρ w)(hKS:∀b,KS0 b→KS b)(T:Taken N c F ρ w KS e rs kl H)
  {r:Nat} {re:Bool} {t:Ty} {x:t.D} {pd:Option (Path×(te:Ty)×List te.D)} (hrr:∀y∈rs,y.1≠r) (hr:getB ρ r=some (.data re t x pd)) {ad:Option Addr} {g:t.G} (hg:e.gr r=some ⟨ad,t,g⟩)
  {π:Path} {te:Ty} {gl:OwnL te.G} {a:Option Addr} (hl:loc t g ad π=some ⟨.list true te,gl,a⟩)
  {s:Src'} {mr:List s.t.G} (her:mr.map (er s.t)=s.l) (hok:∀r∈mr,okG w KS s.t r) (hsz:s.t.sz=te.sz) (hperm:∃ex,(H.flatMap fun x=>fp x.t x.g).Perm (ex++mr.flatMap (fp s.t)))
  {v':Value} (hR:AppR w te.sz gl.ad gl.cap gl.rows.length s.l.length (gl.rows.flatMap (cl te)) (mr.flatMap (cl s.t)) v' w'):
  After c KS0 F ρ {rv:= .ap ⟨r,π⟩,rs:=rs++[(r,some (.data re t x (some (π,⟨s.t,s.l⟩))))],kill:=kl++[.ap r]} v' w':=by
 have hrH:∀y∈H,y.n≠r:=fun y hy e=>by have:=(T.fr y hy).1;rw[e,hr]at this;cases this
 have hrA:getB (hid H++(rs++purgesB kl ρ)) r=some (.data re t x pd):=by
  rw[getB_hid_out hrH,getB_append _ _ _ hrr];exact data_purgesB hr
 have hP:=T.inv.purge [.ap r]
 have noalA:∀n,getB (purgesB [.ap r] (hid H++(rs++purgesB kl ρ))) n=getB (hid H++(rs++purgesB kl ρ)) n:=fun n=>by
  rcases getB_purgesB [.ap r] (hid H++(rs++purgesB kl ρ)) n with⟨h1,_⟩|⟨_,q,k,_,h2,h3⟩
  ·exact h1
  ·simp at h2;subst h2;simp[hitA]at h3
 have hI:Inv c KS e (purgesF (allKills [.ap r] (hid H++(rs++purgesB kl ρ))) (purgesF (allKills kl ρ) F)) (hid H++(rs++purgesB kl ρ)) w:=hP.1.congr fun n=>(noalA n).symm
 have nh1:NoHit [.ap r] (purgesF (allKills [.ap r] (hid H++(rs++purgesB kl ρ))) (purgesF (allKills kl ρ) F)) (hid H++(rs++purgesB kl ρ)):=⟨hP.2.regs,fun n q hq k hk=>by simp at hk;subst hk;simp[hitA]⟩
 have nh2:NoHit ((H.map (·.n)).map .all) (purgesF (allKills [.ap r] (hid H++(rs++purgesB kl ρ))) (purgesF (allKills kl ρ) F)) (hid H++(rs++purgesB kl ρ)):=
  ⟨((T.nohit h0).purge (allKills [.ap r] (hid H++(rs++purgesB kl ρ))) []).regs,(T.nohit h0).als⟩
 have nh:=nh1.append nh2
 -- the root's facts
 obtain⟨ad1,g1,q1,q2,q3,q4,q5,q6⟩:=hI.root hrA
 rw[hg]at q1;cases q1
 have ndr:=hI.nd r
 rw[q6]at ndr
 have nr1:=List.nodup_append.1 ndr
 have nr2:=List.nodup_append.1 nr1.1
 have hsp:∀A,ad=some A→A.spot=none:=fun A hA=>(q4 A hA).2.1
 have hL:=locG π t g ad _ hl hsp q3
 have hlenm:mr.length=s.l.length:=by rw[←her];simp
 have hglen:gl.rows.length≤gl.cap:=by
  rcases hL.ok with⟨_,h2⟩|⟨_,_,_,_,h3,_⟩
  ·rw[show gl.rows=[]from h2];simp
  ·exact h3.1
 have blr:∀b∈blk (hid H++(rs++purgesB kl ρ)) e r,b<w.heap.size∧¬KS b:=fun b hb=>⟨hI.blt r b hb,hI.ks r b hb⟩
 have hbH:∀y∈H,blk (hid H++(rs++purgesB kl ρ)) e y.n=fp y.t y.g:=fun y hy=>by
  have h1:=getB_hid_in (ρ:=rs++purgesB kl ρ) T.nd y hy
  obtain⟨ad',g',p1,p2,p3,p4,p5,p6⟩:=T.inv.root h1
  rw[T.gr y hy]at p1;cases p1
  have hrt:=T.inv.roots y.n
  simp only[RootOK,h1]at hrt
  obtain⟨_,_,_,_,_,_,_,hpb⟩:=hrt
  rw[p6,hpb];simp
 obtain⟨ex,hperm⟩:=hperm
 have ndH:=nodup_perm hperm T.nodup
 have hmr:∀b∈mr.flatMap (fp s.t),∃y∈H,b∈fp y.t y.g:=fun b hb=>List.mem_flatMap.1 (hperm.mem_iff.2 (by simp[hb]))
 have hmrlt:∀b∈mr.flatMap (fp s.t),b<w.heap.size∧¬KS b∧b∉blk (hid H++(rs++purgesB kl ρ)) e r:=fun b hb=>by
  obtain⟨y,hy,hby⟩:=hmr b hb
  have h1:=(T.each y hy).2 b hby
  refine⟨h1.1,h1.2,fun hbr=> ?_⟩
  rw[←hbH y hy]at hby
  exact hI.dj r y.n (Ne.symm (hrH y hy)) b hbr hby
 have lsub:∀b∈fp (.list true te) gl,b∈fp t g:=hL.sub
 -- the memory
 obtain⟨pb,hpbn,hpb,hz,hsame,hG,hpe⟩:∃pb:List Nat,pb.Nodup∧(∀b∈pb,(w.heap.size≤b∧b<w'.heap.size)∨b∈mr.flatMap (fp s.t))∧Grew w w'∧
   (∀b,b<w.heap.size→b∉fp t g→Same w w' b)∧okG w' KS t g∧PendOK w' KS ⟨ad,t,g⟩ v' pb π s.t s.l:=by
  cases hR with
  |none h1 h2 h3 h4 h5=>
   subst h5
   refine⟨[],by simp,by simp,Grew.refl _,fun b _ _=>Same.refl _ b,q3,te,gl,a,hl,mr,her,hok,hsz,.inl ⟨h1,List.eq_nil_of_length_eq_zero h3,h4,rfl⟩⟩
  |room b rest h1 h2 h3 h4 h5 h6 h7 h8=>
   have hbin:b∈fp (.list true te) gl:=by simp[fp,h1,show gl.cap≠0 by omega]
   have hbr:b∈blk (hid H++(rs++purgesB kl ρ)) e r:=by rw[q6];simp[lsub b hbin]
   have hk:∀x,KS x→∀o,w'.cell? ⟨x,o,Option.none⟩=w.cell? ⟨x,o,Option.none⟩:=fun x hx=>(h5 x fun e=>(blr b hbr).2 (e▸hx)).2.2
   refine⟨mr.flatMap (fp s.t),(List.nodup_append.1 ndH).2.1,fun b hb=> .inr hb,h6.2,fun x _ hx=>h5 x fun e=>hx (e▸lsub b hbin), ?_,te,gl,a,hl,mr,her,fun r0 hr0=> ?_,hsz,
    .inr (.inl ⟨b,rest,h1,h4,h2,h3,h7,h8,rfl⟩)⟩
   ·rw[List.append_assoc]at h7 h8
    exact okG_spare hk h1 h2 h7 h8 π t g ad a hl hsp q3 nr2.2.1 fun x _ hx=>h5 x hx
   ·refine okG_frame hk _ _ (fun x hx=>h5 x fun e=> ?_) (hok r0 hr0)
    have:=(hmrlt x (List.mem_flatMap.2 ⟨r0,hr0,hx⟩)).2.2
    rw[e]at this;exact this hbr
  |grow rest cap' h1 h2 h3 h4 h5 h6 h7=>
   have hk:∀x,KS x→∀o,w'.cell? ⟨x,o,Option.none⟩=w.cell? ⟨x,o,Option.none⟩:=fun x hx=>(h4 x (hI.lt x hx)).2.2
   refine⟨w.heap.size::mr.flatMap (fp s.t),List.nodup_cons.2 ⟨fun hm=>by have:=(hmrlt _ hm).1;omega,(List.nodup_append.1 ndH).2.1⟩,fun b hb=> ?_,h5.2,fun x hx _=>h4 x hx, ?_,te,gl,a,hl,mr,her,fun r0 hr0=> ?_,hsz,
    .inr (.inr ⟨w.heap.size,rest,cap',h1,h2,h3,h6,h7,rfl⟩)⟩
   ·rcases List.mem_cons.1 hb with rfl|hb
    ·left;omega
    ·exact .inr hb
   ·exact okG_frame hk _ _ (fun x hx=>h4 x (hI.blt r x (by rw[q6];simp[hx]))) q3
   ·exact okG_frame hk _ _ (fun x hx=>h4 x (hmrlt x (List.mem_flatMap.2 ⟨r0,hr0,hx⟩)).1) (hok r0 hr0)
 have hρr:getB ((rs++[(r,some (.data re t x (some (π,⟨s.t,s.l⟩))))])++purgesB (kl++[.ap r]) ρ) r=some (.data re t x (some (π,⟨s.t,s.l⟩))):=by
  rw[List.append_assoc,getB_append _ _ _ hrr,List.singleton_append,getB_cons_eq]
 have hρo:∀n,n≠r→getB ((rs++[(r,some (.data re t x (some (π,⟨s.t,s.l⟩))))])++purgesB (kl++[.ap r]) ρ) n=getB (rs++purgesB kl ρ) n:=fun n hn=>by
  rw[List.append_assoc]
  refine getB_app_congr ?_ rs
  rw[List.singleton_append,getB_cons_ne hn,purgesB_app]
  rcases getB_purgesB [.ap r] (purgesB kl ρ) n with⟨h1,_⟩|⟨_,q,k,_,h2,h3⟩
  ·exact h1
  ·simp at h2;subst h2;simp[hitA]at h3
 have hρh:∀y∈H,getB ((rs++[(r,some (.data re t x (some (π,⟨s.t,s.l⟩))))])++purgesB (kl++[.ap r]) ρ) y.n=none:=fun y hy=>by
  rw[hρo _ (hrH y hy)]
  exact getB_none_base (T.fr y hy).1 fun z hz=>(T.noal z hz).2
 have hbr':blk ((rs++[(r,some (.data re t x (some (π,⟨s.t,s.l⟩))))])++purgesB (kl++[.ap r]) ρ) (e.pend r v' pb) r=(ad.map (·.block)).toList++fp t g++pb:=by
  simp only[blk,hρr,GEnv.pend,hg,if_true]
 have hbh':∀y∈H,blk ((rs++[(r,some (.data re t x (some (π,⟨s.t,s.l⟩))))])++purgesB (kl++[.ap r]) ρ) (e.pend r v' pb) y.n=[]:=fun y hy=>by
  simp only[blk,hρh y hy]
 have hnin:∀(p:Place),(∀k∈[Kill.ap r]++(H.map (·.n)).map Kill.all,hit k (.wl p)=false)∨(∀k∈[Kill.ap r]++(H.map (·.n)).map Kill.all,hit k (.sv p)=false)∨(∀k∈[Kill.ap r]++(H.map (·.n)).map Kill.all,hit k (.rf p)=false)∨(∀k∈[Kill.ap r]++(H.map (·.n)).map Kill.all,hit k (.ap p)=false)→∀y∈H,p.r≠y.n:=fun p hp y hy e0=>by
  have hm:Kill.all y.n∈[Kill.ap r]++(H.map (·.n)).map Kill.all:=by
   simp only[List.mem_append,List.mem_map]
   exact .inr ⟨y.n,⟨y,hy,rfl⟩,rfl⟩
  rcases hp with hp|hp|hp|hp<;>(have:=hp _ hm;simp[hit,e0]at this)
 have hout:∀n,n≠r→(∀y∈H,n≠y.n)→getB ((rs++[(r,some (.data re t x (some (π,⟨s.t,s.l⟩))))])++purgesB (kl++[.ap r]) ρ) n=getB (hid H++(rs++purgesB kl ρ)) n:=fun n h1 h2=>by
  rw[hρo n h1,getB_hid_out fun y hy e=>h2 y hy e.symm]
 have hdat:∀n,(∀y∈H,n≠y.n)→hasData (hid H++(rs++purgesB kl ρ)) n→hasData ((rs++[(r,some (.data re t x (some (π,⟨s.t,s.l⟩))))])++purgesB (kl++[.ap r]) ρ) n:=fun n h1 h2=>by
  by_cases hn:n=r
  ·subst hn;exact⟨_,_,_,_,hρr⟩
  ·simpa only[hasData,hout n hn h1]using h2
 have hS:Inv c KS (e.pend r v' pb) (purgesF (allKills [.ap r] (hid H++(rs++purgesB kl ρ))) (purgesF (allKills kl ρ) F)) ((rs++[(r,some (.data re t x (some (π,⟨s.t,s.l⟩))))])++purgesB (kl++[.ap r]) ρ) w':=by
  refine hI.step (S:=fun n=>n=r∨∃y∈H,y.n=n) nh
   {reads:=Reads.of (fun b hb=>hb) (fun b hb=>(hsame b (hI.lt b hb) fun hbt=>(blr b (by rw[q6];simp[hbt])).2 hb).2.2) ?_ ?_ ?_ ?_ ?_
    out:= ?_
    same:= ?_
    size:=hz
    roots:= ?_
    nd:= ?_
    dj:= ?_
    src:= ?_
    ksn:=fun b hb=> .inl hb
    ksd:= ?_
    pin:= ?_
    hdr:= ?_
    frm:= ?_}
  ·intro p hp hd _
   exact hdat _ (hnin p (hp.elim (fun h=> .inl h) (fun h=> .inr (.inl h)))) hd
  ·intro p te' g' a' hp _ hsp'
   exact⟨g',hsp',rfl,rfl,rfl⟩
  ·intro p _ _ _;rfl
  ·intro p s' A hp h1 h2
   refine⟨s', ?_,h2⟩
   have hne:=hnin p (.inr (.inr (.inl hp)))
   simp only[spotOf]at h1 ⊢
   by_cases hn:p.r=r
   ·rw[hn]at h1 ⊢
    rw[hrA]at h1;rw[hρr];exact h1
   ·rw[hout _ hn hne];exact h1
  ·intro p hp re' t' x' pe' hd
   have hne:=hnin p (.inr (.inr (.inr hp)))
   have hn:p.r≠r:=fun e0=>by
    have:=hp (.ap r) (by simp)
    simp[hit,e0]at this
   refine⟨⟨re',t',x',pe',by rw[hout _ hn hne];exact hd⟩, ?_⟩
   simp[GEnv.pend,hn]
  ·intro n hn
   have h1:n≠r:=fun e=>hn (.inl e)
   refine⟨hout n h1 fun y hy e=>hn (.inr ⟨y,hy,e.symm⟩),rfl,rfl,by simp[GEnv.pend,h1],by simp[GEnv.pend,h1]⟩
  ·intro n hn b hb
   refine hsame b (hI.blt n b hb) fun hbt=> ?_
   exact hI.dj n r (fun e=>hn (.inl e)) b hb (by rw[q6];simp[hbt])
  ·intro n hn
   rcases hn with rfl|⟨y,hy,rfl⟩
   ·simp only[RootOK,hρr]
    refine⟨ad,g,hg,q2,hG,fun hre=> ?_,fun hre=> ?_, ?_⟩
    ·obtain⟨A,hA⟩:=q5 hre
     refine⟨A,hA,(hsame A.block (hI.blt n A.block (by rw[q6,hA];simp)) fun hbt=> ?_).row (q4 A hA).2⟩
     exact nr2.2.2 A.block (by rw[hA];simp) _ hbt rfl
    ·cases had:ad with
     |none=>rfl
     |some A=>have:=(q4 A had).1;rw[hre]at this;cases this
    ·simpa[GEnv.pend]using hpe
   ·simp only[RootOK,hρh y hy]
  ·intro n hn
   rcases hn with rfl|⟨y,hy,rfl⟩
   ·rw[hbr']
    refine List.nodup_append.2 ⟨nr1.1,hpbn,fun a ha b hb e0=> ?_⟩
    subst e0
    have ha':a∈blk (hid H++(rs++purgesB kl ρ)) e n:=by rw[q6];exact List.mem_append.2 (.inl ha)
    rcases hpb a hb with⟨h1,_⟩|h1
    ·have:=(blr a ha').1;omega
    ·exact(hmrlt a h1).2.2 ha'
   ·rw[hbh' y hy];simp
  ·intro n m hn hm hnm b hb1 hb2
   rcases hn with rfl|⟨y,hy,rfl⟩
   ·rcases hm with rfl|⟨y,hy,rfl⟩
    ·exact hnm rfl
    ·rw[hbh' y hy]at hb2;cases hb2
   ·rw[hbh' y hy]at hb1;cases hb1
  ·intro n hn b hb
   rcases hn with rfl|⟨y,hy,rfl⟩
   ·rw[hbr']at hb
    rcases List.mem_append.1 hb with hb|hb
    ·exact .inr ⟨n,.inl rfl,by rw[q6];exact List.mem_append.2 (.inl hb),.inl rfl⟩
    ·rcases hpb b hb with h1|h1
     ·exact .inl h1
     ·obtain⟨y,hy,hby⟩:=hmr b h1
      refine .inr ⟨y.n,.inr ⟨y,hy,rfl⟩,by rw[hbH y hy];exact hby,.inr fun A hA=> ?_⟩
      exact absurd hA (T.inv.nopin (getB_hid_in (ρ:=rs++purgesB kl ρ) T.nd y hy) A)
   ·rw[hbh' y hy]at hb;cases hb
  ·intro n hn b hb hk
   rcases hn with rfl|⟨y,hy,rfl⟩
   ·rw[hbr']at hb
    rcases List.mem_append.1 hb with hb|hb
    ·exact(blr b (by rw[q6];exact List.mem_append.2 (.inl hb))).2 hk
    ·rcases hpb b hb with⟨h1,_⟩|h1
     ·have:=hI.lt b hk;omega
     ·exact(hmrlt b h1).2.1 hk
   ·rw[hbh' y hy]at hb;cases hb
  ·intro n hn A hA
   rcases hn with rfl|⟨y,hy,rfl⟩
   ·refine⟨fun q hq=>(by rw[hρr]at hq;cases hq),fun re' t' x' pd' hd'=> ?_⟩
    rw[hρr]at hd';cases hd'
    exact(hI.pin n A hA).2 _ _ _ _ hrA
   ·exact absurd hA (T.inv.nopin (getB_hid_in (ρ:=rs++purgesB kl ρ) T.nd y hy) A)
  ·intro n hn hh hq re' t' x' pd' hd'
   rcases hn with rfl|⟨y,hy,rfl⟩
   ·rw[hρr]at hd';cases hd'
    exact hI.hdr n hh hq _ _ _ _ hrA
   ·rw[hρh y hy]at hd';cases hd'
  ·intro b hb
   by_cases hbt:b∈fp t g
   ·have hbr:b∈blk (hid H++(rs++purgesB kl ρ)) e r:=by rw[q6];simp[hbt]
    rcases hI.may r b hbr with h1|h1|⟨A,h1,h2⟩
    ·exact .inr (.inl h1)
    ·exact .inr (.inr (.inl h1))
    ·exfalso
     obtain⟨⟨g2,h3⟩,_⟩:=(hI.pin r A h1).2 _ _ _ _ hrA
     rw[hg]at h3;cases h3
     exact nr2.2.2 A.block (by simp) _ hbt h2
   ·exact .inl (hsame b hb hbt)
 refine⟨KS,e.pend r v' pb,hKS,⟨⟨re,t,x,_,hρr⟩,by simp[GEnv.pend]⟩, ?_⟩
 rw[purgesF_append]at hS
 refine hS.more fun k hk=> ?_
 simp only[allKills,List.mem_append,List.flatMap_append,List.flatMap_cons,List.flatMap_nil,List.append_nil,List.mem_singleton]at hk ⊢
 rcases hk with(hk|hk)|hk|hk
 ·exact .inl (.inl hk)
 ·exact .inr (.inl hk)
 ·exact .inl (.inr hk)
 ·rw[aliasKills_app _ _ _ (hid_noal H),aliasKills_app _ rs _ (fun y hy=>(T.noal y hy).1)]at hk
  exact .inr (.inr (aliasKills_purgesB _ kl ρ k hk))
end
end
section
theorem srcE_rs{ρ:Roots}{a x:RV}{s:Src'}(hs:(srcE ρ a x).run=some s):(s.rs=[]∧s.kl=[])∨∃r,s.rs=[(r,none)]∧s.kl=[.all r]:=by
 unfold srcE at hs
 split at hs
 ·injection hs with hs;subst hs;exact .inl ⟨rfl,rfl⟩
 ·injection hs with hs;subst hs;exact .inl ⟨rfl,rfl⟩
 ·replace hs:=Cm.run_bind_some hs;obtain⟨vv,hv,hs⟩:=hs
  split at hs
  ·split at hs
   ·injection hs with hs;subst hs;exact .inl ⟨rfl,rfl⟩
   ·replace hs:=Cm.run_chk hs;obtain⟨_,hs⟩:=hs
    injection hs with hs;subst hs;exact .inr ⟨_,rfl,rfl⟩
  ·cases hs
 ·replace hs:=Cm.run_bind_some hs;obtain⟨vv,hv,hs⟩:=hs
  split at hs
  ·split at hs
   ·injection hs with hs;subst hs;exact .inl ⟨rfl,rfl⟩
   ·cases hs
  ·cases hs
section
variable {P:Program} {τ:Tabs} {E:Env} {c:Ctx} {KS:Nat→Prop} {e:GEnv} {F:Fs} {ρ ρ':Roots} {w w':World}
theorem slice_cells{v:Value}{t:Ty}{g:OwnL t.G}(h:v.cells=(cl (.list true t) g).toArray)(hv:∃a n m,v= .slice a n m):v= .slice g.ad g.rows.length g.cap:=by
 obtain⟨a,n,m,rfl⟩:=hv
 have:(#[Value.slice a n m]:Array Value)= #[.slice g.ad g.rows.length g.cap]:=h
 simpa using this
theorem reorder{rs:Roots}{kl:List Kill}{r:Nat}(hrs:∀y∈rs,y.2=none)(n:Nat):getB ((rs++[(r,none)])++purgesB (kl++[.all r]) ρ) n=getB (([(r,none)]++rs)++purgesB ([.all r]++kl) ρ) n:=by
 have e1:=getB_purgesB_mem (a:=kl++[.all r]) (b:=[.all r]++kl) (fun k=>by simp only[List.mem_append];exact Or.comm) ρ n
 have key:∀(l:Roots) (ρ1:Roots),(∀y∈l,y.2=none)→getB (l++ρ1) n=if(∃y∈l,y.1=n)then none else getB ρ1 n:=by
  intro l
  induction l with
  |nil=>intro ρ1 _;simp
  |cons z l ih=>
   intro ρ1 hl
   obtain⟨m,b⟩:=z
   have hb:b=none:=hl (m,b) (by simp)
   subst hb
   by_cases hm:n=m
   ·subst hm;rw[List.cons_append,getB_cons_eq];simp
   ·rw[List.cons_append,getB_cons_ne hm,ih ρ1 fun y hy=>hl y (by simp[hy])]
    have:(∃y∈(m,none)::l,y.1=n)↔∃y∈l,y.1=n:=by
     constructor
     ·rintro⟨y,hy,e⟩
      rcases List.mem_cons.1 hy with rfl|hy
      ·exact absurd e.symm hm
      ·exact⟨y,hy,e⟩
     ·rintro⟨y,hy,e⟩;exact⟨y,by simp[hy],e⟩
    simp only[this]
 rw[key _ _ (fun y hy=>by rcases List.mem_append.1 hy with hy|hy;exact hrs y hy;simp at hy;subst hy;rfl),key _ _ (fun y hy=>by rcases List.mem_append.1 hy with hy|hy;simp at hy;subst hy;rfl;exact hrs y hy),e1]
 have:(∃y∈rs++[(r,none)],y.1=n)↔∃y∈[(r,none)]++rs,y.1=n:=by
  constructor<;>(rintro⟨y,hy,e⟩;exact⟨y,by simp only[List.mem_append]at hy ⊢;exact hy.symm,e⟩)
 simp only[this]
theorem finE'_eff{d:Nat}{tt:Ty}{b:Nat}{te:Ty}{l:List te.D}{s:Src'}{rs rs':Roots}{kl kl':List Kill}{ef:Eff}(h:(finE' d tt b te l s rs kl).run=some ef):
  ef.new=true∧∃ef',(finE' d tt b te l s rs' kl').run=some ef'∧ef'.rv=ef.rv∧∃x,ef.rs=x::rs∧ef'.rs=x::rs'∧ef.kill=kl∧ef'.kill=kl':=by
 unfold finE' roomE at h ⊢
 replace h:=Cm.run_chk h;obtain⟨h1,h⟩:=h
 replace h:=Cm.run_ask h;obtain⟨h2,h⟩:=h
 replace h:=Cm.run_get h;obtain⟨l',hl',h⟩:=h
 replace h:=Cm.run_get h;obtain⟨m',hm',h⟩:=h
 injection h with h;subst h
 refine⟨rfl,{new:=true,rv:= .wl ⟨d,[]⟩,rs:=(d,some (.data false (.list true (joinT te s.t)) (l'++m':List (joinT te s.t).D) none))::rs',kill:=kl'}, ?_,rfl,_,rfl,rfl,rfl,rfl⟩
 rw[h1]
 simp only[Cm.chk,cond_true,Cm.ask,Cm.run,h2,if_true,hl',hm']
theorem tag_rs(b:Bool)(s:Src'):(s.tag b).rs=s.rs∧(s.tag b).kl=s.kl:=by
 unfold Src'.tag;split<;>exact⟨rfl,rfl⟩
theorem SrcOK.tag{N:Nat}{KS0:Nat→Prop}{s:Src'}{t2:TypeId}{v:Value}{H:List HG}{mr:List s.t.G}(S:SrcOK P N c F ρ w KS0 s t2 v KS e H mr)(b:Bool):∃mr',SrcOK P N c F ρ w KS0 (s.tag b) t2 v KS e H mr':=by
 cases b
 ·exact⟨mr,S⟩
 obtain⟨t,l,rs,kl⟩:=s
 cases t with
 |int k=>cases k<;>first|exact⟨mr,S⟩|exact⟨mr,S.ks,S.tk,S.er,S.ok,S.src,S.fp⟩
 |_=>exact⟨mr,S⟩
theorem append_ok(hE:EnvOK P E)(hC:CtxOK τ c)(h:Inv c KS e F ρ w){d:Nat}{ef:Eff}(hd32:32768≤d)(hd:ef.new=true→getB ρ d=none){t t2 ty el by_:Nat}{tt:Ty}(hel:E.el t=some (el,by_))(htt:E.ty el=some tt)
  {a x:RV} {va vx:Value} (ha:RVok w KS ρ e a va) (hx:RVok w KS ρ e x vx) (h2:rvIs E ρ t2 x=true) (hc:(appendE d tt by_ ρ a x).run=some ef):
  Does P (do pure (.value (←Builtin.append_ #[t,t2] ty #[va,vx]))) w (After c KS F ρ ef):=by
 obtain⟨ht,hby⟩:=hE.el _ _ _ hel
 have hte:=hE.ty _ _ htt
 have hsol:=hE.sol _ _ htt
 unfold appendE at hc
 replace hc:=Cm.run_bind_some hc;obtain⟨s0,hs,hc⟩:=hc
 have hops:=h.ops (xs:=[a,x]) (vs:=[va,vx]) ⟨va,[vx],rfl,ha,vx,[],rfl,hx,rfl⟩
 obtain⟨KS1,e1,H,mr0,S0,hfr⟩:=srcE_ok (N:=d+1) (by omega) hE hC hops hx hs h2
 obtain⟨mr,S⟩:=S0.tag (tightB ρ a)
 have hrk:=tag_rs (tightB ρ a) s0
 have hrs0:=srcE_rs hs
 rw[←hrk.1,←hrk.2]at hrs0
 rw[←hrk.2]at hfr
 generalize s0.tag (tightB ρ a)=s at*
 unfold appE at hc
 have hfr':fresh s.kl ρ a=true:=by
  rcases hfr with h0|h0
  ·rw[h0];rfl
  ·exact h0
 have hrsn:∀y∈s.rs,y.2=none∧Kill.all y.1∈s.kl:=fun y hy=>by
  rcases hrs0 with⟨h1,h2⟩|⟨r,h1,h2⟩
  ·rw[h1]at hy;cases hy
  ·rw[h1]at hy;simp at hy;subst hy;rw[h2];simp
 have hnot:∀r π,a= .wl ⟨r,π⟩∨(∃n,a= .vw ⟨r,π⟩ 0 n)→∀y∈s.rs,y.1≠r:=fun r π ha y hy e0=>by
  have h1:=fresh_eq hfr'
  have h2:=(hrsn y hy).2
  have h3:∃k∈allKills s.kl ρ,hit k a=true:=⟨.all y.1,by simp[allKills,h2],by rcases ha with rfl|⟨n,rfl⟩<;>simp[hit,e0]⟩
  rw[List.any_eq_false]at h1
  obtain⟨k,hk,hh⟩:=h3
  exact h1 k hk hh
 -- with the base taken out of a root of its own
 have whole:∀{r:Nat} {te:Ty} {l:List te.D},(a= .wl ⟨r,[]⟩∨∃n,a= .vw ⟨r,[]⟩ 0 n)→(take (s.rs++ρ) .unit a).run=some (⟨.list true te,l⟩,[(r,none)],[.all r])→(finE' d tt by_ te l s (s.rs++[(r,none)]) (s.kl++[.all r])).run=some ef→
   Does P (do pure (.value (←Builtin.append_ #[t,t2] ty #[va,vx]))) w (After c KS F ρ ef):=fun{r te l} haw htk hc=>by
  obtain⟨va',hva',hra⟩:=S.tk.opnd (j:=0) (x:=a) (by simp) rfl hfr' (by rcases haw with rfl|⟨n,rfl⟩<;>simp)
  simp at hva';subst hva'
  have hsl:∃a n m,va=Value.slice a n m:=by
   rcases haw with rfl|⟨n,rfl⟩
   ·obtain⟨_,te',g,_,_,rfl⟩:=hra;exact⟨_,_,_,rfl⟩
   ·obtain⟨_,te',g,_,_,_,_,_,rfl⟩:=hra;exact⟨_,_,_,rfl⟩
  obtain⟨KS2,e2,y,k0,T2,hyd,hyc⟩:=S.tk.take hC (by omega) hra htk
  obtain⟨yn,yt,yg⟩:=y
  simp only[HG.d]at hyd
  cases hyd
  have hva:=slice_cells hyc hsl
  have hg:=(T2.each ⟨yn,.list true te,yg⟩ (by simp)).1
  obtain⟨ex,hex⟩:=S.fp
  obtain⟨hnew,ef',hc',hrv,xx,e5,e6,e7,e8⟩:=finE'_eff (rs':=[(r,none)]++s.rs) (kl':=[.all r]++s.kl) hc
  have hd:=hd hnew
  have hD:=fin_ok (ty:=ty) (g:=yg) (x:=vx) (s:=s) (mr:=mr) hE hC h (fun b hb=>k0 b (S.ks b hb)) T2.pop hd32 (by omega) hd ht hte hsol hby hg S.er (fun r hr=>okG_KS k0 _ _ (S.ok r hr)) S.src
   ⟨ex,by
    simp only[List.flatMap_cons]
    refine(List.Perm.append_left _ hex).trans ?_
    rw[←List.append_assoc,←List.append_assoc]
    exact List.Perm.append_right _ List.perm_append_comm⟩ hc'
  rw[hva]
  unfold Does at hD ⊢
  generalize ((do pure (.value (←Builtin.append_ #[t,t2] ty #[.slice yg.ad yg.rows.length yg.cap,vx])):Sem Next).run P w)=R at hD ⊢
  have hA:∀v w',After c KS F ρ ef' v w'→After c KS F ρ ef v w':=fun v w' hA=>by
   refine hA.congr hrv.symm (fun n=> ?_) (fun k hk=> ?_)
   ·rw[e5,e6,e7,e8]
    by_cases hn:n=xx.1
    ·subst hn
     obtain⟨xa,xb⟩:=xx
     simp only[List.cons_append,getB_cons_eq]
    ·obtain⟨xa,xb⟩:=xx
     simp only[List.cons_append,getB_cons_ne hn]
     exact reorder (fun y hy=>(hrsn y hy).1) n
   ·rw[e8]at hk;rw[e7]
    simp only[List.mem_append]at hk ⊢;exact hk.symm
  cases R with
  |ok n w1=>
   cases n<;>first|exact hA _ _ hD|exact hD|(exact Calls.mono hD fun e w'' ⟨v,h1,h2⟩=>⟨v,h1,hA _ _ h2⟩)
  |halt x w1=>exact hD
 split at hc
 ·--nil
  have hva:va= .slice none 0 0:=ha
  subst hva
  have hg:okG w KS1 (.list true s.t) (⟨none,0,[]⟩:OwnL s.t.G):= .inl ⟨rfl,rfl⟩
  obtain⟨ex,hex⟩:=S.fp
  have hd:=hd (finE'_eff (rs':=[]) (kl':=[]) hc).1
  exact fin_ok (ty:=ty) (g:=(⟨none,0,[]⟩:OwnL s.t.G)) (x:=vx) (s:=s) (mr:=mr) hE hC h S.ks S.tk.pop hd32 (by omega) hd ht hte hsol hby hg S.er S.ok S.src ⟨ex,by simpa[fp]using hex⟩ hc
 ·--a tight list that is empty
  rename_i o l
  replace hc:=Cm.run_ask hc;obtain⟨hl,hc⟩:=hc
  obtain⟨_,cs,⟨ad,cap,rfl,hcap,_⟩,rfl⟩:=ha
  have hl0:l=[]:=List.isEmpty_iff.1 hl
  obtain rfl:=hcap.2 rfl hl0
  subst hl0
  have hg:okG w KS1 (.list true .ti) (⟨ad,0,[]⟩:OwnL Int):= .inl ⟨rfl,rfl⟩
  obtain⟨ex,hex⟩:=S.fp
  have hd:=hd (finE'_eff (rs':=[]) (kl':=[]) hc).1
  refine fin_ok (ty:=ty) (te:= .ti) (g:=(⟨ad,0,[]⟩:OwnL Int)) (x:=vx) (s:=s) (mr:=mr) hE hC h S.ks S.tk.pop hd32 (by omega) hd ht hte hsol hby hg S.er S.ok S.src ⟨ex, ?_⟩ hc
  have:fp (.list true .ti) (⟨ad,0,[]⟩:OwnL Int)=[]:=by cases ad<;>simp[fp]
  rw[this];exact hex
 ·rename_i r π
  split at hc
  ·rename_i re tr y pd hb
   replace hc:=Cm.run_bind_some hc;obtain⟨vv,hv,hc⟩:=hc
   split at hc
   ·rename_i te l
    have hrr:=hnot r π (.inl rfl)
    cases hwh:(re|| !π.isEmpty)with
    |true=>
     rw[hwh]at hc
     simp only[cond_true]at hc
     unfold roomE at hc
     replace hc:=Cm.run_chk hc;obtain⟨hchk,hc⟩:=hc
     replace hc:=Cm.run_ask hc;obtain⟨hroom,hc⟩:=hc
     injection hc with hc;subst hc
     simp only[Bool.and_eq_true,Nat.ble_eq]at hchk
     obtain⟨⟨hs1,hs2⟩,hby1⟩:=hchk
     have hsz1:=Ty.same_sz hs1
     have hsz2:=Ty.same_sz hs2
     obtain⟨va',hva',hra⟩:=S.tk.opnd (j:=0) (x:= .wl ⟨r,π⟩) (by simp) rfl hfr' (by simp)
     simp at hva';subst hva'
     obtain⟨hdat,te',g',ad',hsp,rfl⟩:=hra
     have T:=S.tk.pop
     have hrH:∀y∈H,y.n≠r:=fun y hy e=>by have:=(T.fr y hy).1;rw[e,hb]at this;cases this
     have hrA:getB (hid H++(s.rs++purgesB s.kl ρ)) r=some (.data re tr y pd):=by
      rw[getB_hid_out hrH,getB_append _ _ _ hrr];exact data_purgesB hb
     obtain⟨ad,g,q1,q2,q3,q4,q5,q6⟩:=T.inv.root hrA
     subst q2
     obtain⟨s0,hl0,hd0⟩:=rd_loc π tr g ad _ hv
     simp only[spotD,q1,Option.bind_some]at hsp
     rw[hsp]at hl0;cases hl0
     cases hd0
     have hL:=locG π tr g ad _ hsp (fun A hA=>(q4 A hA).2.1) q3
     have hlen0:(er (.list true te) g').length=g'.rows.length:=by simp[er]
     obtain⟨v',w',hrun,hR⟩:=append_run (P:=P) (t:=t) (tx:=t2) (ty:=ty) ht hte hsol hsz1 hby hby1 (KS:=KS1) (g:=g') hL.ok (x:=vx) (m:=s.l.length) (news:=mr.flatMap (cl s.t)) (by rw[←hsz2];exact S.src) (by rw[←hlen0];exact hroom)
     refine does_value hrun ?_
     rw[show tt.sz=te.sz from hsz1.symm]at hR
     exact T.pend h S.ks hrr hb q1 hsp S.er S.ok (by rw[hsz2,hsz1]) S.fp hR
    |false=>
     rw[hwh]at hc
     simp only[cond_false]at hc
     simp only[Bool.or_eq_false_iff,Bool.not_eq_false']at hwh
     obtain⟨rfl,hπ⟩:=hwh
     cases π with
     |cons _ _=>cases hπ
     |nil=>
     refine whole (.inl rfl) ?_ hc
     have hb':getB (s.rs++ρ) r=some (.data false tr y pd):=by rw[getB_append _ _ _ hrr];exact hb
     simp only[take,takeP,hb']
     rw[Cm.run_bind,hv];rfl
   ·cases hc
  ·cases hc
 ·rename_i r n
  split at hc
  ·rename_i te l pd hb
   have hrr:=hnot r [] (.inr ⟨n,rfl⟩)
   replace hc:=Cm.run_chk hc;obtain⟨hnT,hc⟩:=hc
   refine whole (.inr ⟨n,rfl⟩) ?_ hc
   have hb':getB (s.rs++ρ) r=some (.data false (.list true te) l pd):=by rw[getB_append _ _ _ hrr];exact hb
   simp only[take,takeP,hb']
   rw[Bool.not_eq_true']at hnT
   simp[Cm.bind,Cm.run,rd,Cm.chk,hnT]
  ·cases hc
 ·cases hc
end
end
section
theorem Inv.refill{c:Ctx}{KS:Nat→Prop}{e:GEnv}{F:Fs}{ρ ρ':Roots}{w w':World}{ks:List Kill}(h:Inv c KS e F ρ w)(nh:NoHit ks F ρ)
  {r:Nat} {re:Bool} {t:Ty} {x:t.D} {pd:Option (Path×(te:Ty)×List te.D)} (hr:getB ρ r=some (.data re t x pd)) {ad:Option Addr} {g:t.G} (hg:e.gr r=some ⟨ad,t,g⟩)
  {π:Path} {s:Spot} (hl:loc t g ad π=some s) {t':Ty} {g':t'.G} {T:Ty} {G:T.G} {dr:List Nat} (P:PutG w KS t g ad π s t' g' T G dr) (hK:Covers ks r π t')
  (hfp:∀b∈fp t' g',b∈fp s.t s.g∨b∈e.pb r) (hnd:(fp t' g').Nodup) {X:Nat→Prop} (hX:∀b,X b→(b∈fp s.t s.g∨b∈e.pb r)∧b∉fp t' g') (hok':okG w (fun b=>KS b∨X b) t' g')
  (hρr:getB ρ' r=some (.data re T (er T G) none)) (hρ:∀n,n≠r→getB ρ' n=getB ρ n)
  (hsame:∀b,b<w.heap.size→(∀B,s.ad=some B→B.block≠b)→Same w w' b) (hz:Grew w w')
  (hin:∀B,s.ad=some B→InBlk w w' B s.t.sz (cl t' g'))
  (hhdr:∀hh,c.hdr r=some hh→π≠[]):
  Inv c (fun b=>(KS b∨X b)∨b∈dr) (e.put r ⟨ad,T,G⟩) F ρ' w':=by
 obtain⟨ad0,g0,q1,q2,q3,q4,q5,q6⟩:=h.root hr
 rw[hg]at q1;cases q1
 have hsp:∀A,ad=some A→A.spot=none:=fun A hA=>(q4 A hA).2.1
 have hL:=locG π t g ad s hl hsp q3
 have nd:=h.nd r
 rw[q6]at nd
 have ndp:=List.nodup_append.1 nd
 have nda:=List.nodup_append.1 ndp.1
 have nd1:=nda.1
 have nd2:=nda.2.1
 have bi:∀b∈fp t g,b∈blk ρ e r:=fun b hb=>by rw[q6];simp[hb]
 have bp:∀b∈e.pb r,b∈blk ρ e r:=fun b hb=>by rw[q6];simp[hb]
 have ba:∀A,ad=some A→A.block∈blk ρ e r:=fun A hA=>by rw[q6,hA];simp
 have hAn:∀A,ad=some A→A.block∉fp t g:=fun A hA hm=>nda.2.2 A.block (by simp[hA]) _ hm rfl
 have hAp:∀A,ad=some A→A.block∉e.pb r:=fun A hA hm=>ndp.2.2 A.block (by simp[hA]) _ hm rfl
 have hpg:∀b∈e.pb r,b∉fp t g:=fun b hb hm=>ndp.2.2 b (by simp[hm]) _ hb rfl
 have bsub:∀b,b∈fp s.t s.g∨b∈e.pb r→b∈fp t g∨b∈e.pb r:=fun b hb=>hb.imp (hL.sub b) id
 have bsp:∀b,b∈fp s.t s.g∨b∈e.pb r→b∈blk ρ e r:=fun b hb=>(bsub b hb).elim (bi b) (bp b)
 have hBr:∀B,s.ad=some B→B.block∈blk ρ e r:=fun B hB=>by
  rcases hL.where_ hB with⟨_,A,hA,hAB⟩|⟨hn,_⟩
  ·rw[hAB];exact ba A hA
  ·exact bi _ (hL.in_ hB hn)
 obtain⟨rest,hpr,hBin⟩:=hL.perm
 have ndsr:=List.nodup_append.1 (nodup_perm hpr nd2)
 -- the header's own block is none of the list's
 have hBn:∀B,s.ad=some B→∀b,(b∈fp s.t s.g∨b∈e.pb r)→B.block≠b:=fun B hB b hb e0=>by
  rcases hL.where_ hB with⟨_,A,hA,hAB⟩|⟨hn,_⟩
  ·rw[hAB]at e0
   rcases bsub b hb with h1|h1
   ·exact hAn A hA (by rw[e0];exact h1)
   ·exact hAp A hA (by rw[e0];exact h1)
  ·obtain⟨B',e1,h2,_⟩:=hBin hn
   rw[hB]at e1;cases e1
   rcases hb with hb|hb
   ·exact ndsr.2.2 b hb _ h2 e0.symm
   ·exact hpg b hb (by rw[←e0];exact hpr.mem_iff.2 (by simp[h2]))
 have hKc:∀b,KS b→∀o,w'.cell? ⟨b,o,none⟩=w.cell? ⟨b,o,none⟩:=fun b hb=>(hsame b (h.lt b hb) fun B hB e=>h.ks r _ (hBr B hB) (by rw[e];exact hb)).2.2
 have hXs:∀b,X b→Same w w' b:=fun b hb=>hsame b (h.blt r b (bsp b (hX b hb).1)) fun B hB=>hBn B hB b (hX b hb).1
 have hKXc:∀b,(KS b∨X b)→∀o,w'.cell? ⟨b,o,none⟩=w.cell? ⟨b,o,none⟩:=fun b hb=>hb.elim (hKc b) fun hb=>(hXs b hb).2.2
 have hsN:∀n,n≠r→∀b∈blk ρ e n,Same w w' b:=fun n hn b hb=>hsame b (h.blt n b hb) fun B hB e=>h.dj n r hn b hb (by rw[←e];exact hBr B hB)
 have okg':okG w' (fun b=>(KS b∨X b)∨b∈dr) t' g':=okG_frame' (fun b hb=> .inl hb) hKXc (fun b hb=>hsame b (h.blt r b (bsp b (hfp b hb))) fun B hB=>hBn B hB b (hfp b hb)) hok'
 have hT:okG w' (fun b=>(KS b∨X b)∨b∈dr) T G:=P.ok w' _ (fun b hb=> .inl (.inl hb)) (fun b hb=> .inr hb) okg' hKc nd2 hAn
  (fun b hb hns hB=>hsame b (h.blt r b (bi b hb)) hB) (fun B hB _=>hin B hB)
 have hlen':(cl t' g').length=s.t.sz:=by rw[okG_len _ _ hok',P.szs]
 have hlens:(cl s.t s.g).length=s.t.sz:=okG_len _ _ hL.ok
 have hrow:∀A,ad=some A→RowAt w' A (cl T G):=fun A hA=>by
  have hr0:=(q4 A hA).2
  cases hn:noI π with
  |true=>
   obtain⟨pre,post,e1,e2,e3⟩:=P.out hn
   rw[e3];rw[e1]at hr0
   refine rowUpd hr0 ?_ (by rw[hlen',hlens])
   rw[hA]at e2
   have:=hin _ e2
   rw[hlens];exact this
  |false=>
   rw[P.inn hn]
   refine Same.row (hsame A.block (h.blt r _ (ba A hA)) fun B hB e=> ?_) hr0
   exact hAn A hA (by rw[←e];exact hL.in_ hB hn)
 -- what the blocks come to
 have hpm:(rest++fp t' g').Perm (fp T G++dr):=by
  have h1:(fp s.t s.g++(rest++fp t' g')).Perm (fp s.t s.g++(fp T G++dr)):=by
   rw[←List.append_assoc]
   refine(List.Perm.append_right _ hpr.symm).trans (P.perm.trans ?_)
   rw[←List.append_assoc,←List.append_assoc]
   exact List.Perm.append_right _ List.perm_append_comm
  exact(List.perm_append_left_iff _).1 h1
 have ndall:(rest++fp t' g').Nodup:=List.nodup_append.2 ⟨ndsr.2.1,hnd,fun a ha b hb e0=>by
  subst e0
  rcases hfp a hb with h1|h1
  ·exact ndsr.2.2 a h1 a ha rfl
  ·exact hpg a h1 (hpr.mem_iff.2 (by simp[ha]))⟩
 obtain⟨ndT1,ndT2,ndT3⟩:=List.nodup_append.1 (nodup_perm hpm ndall)
 have hTsub:∀b,b∈fp T G∨b∈dr→b∈rest∨b∈fp t' g':=fun b hb=>by
  have:b∈rest++fp t' g':=hpm.mem_iff.2 (by simpa using hb)
  simpa using this
 have hsrc:∀b,b∈fp T G∨b∈dr→b∈fp t g∨b∈e.pb r:=fun b hb=>by
  rcases hTsub b hb with h1|h1
  ·exact .inl (hpr.mem_iff.2 (by simp[h1]))
  ·exact bsub b (hfp b h1)
 have hsrc':∀b,b∈fp T G∨b∈dr→b∈blk ρ e r:=fun b hb=>(hsrc b hb).elim (bi b) (bp b)
 have hbr:blk ρ' (e.put r ⟨ad,T,G⟩) r=(ad.map (·.block)).toList++fp T G:=by simp[blk,hρr,GEnv.put]
 have hAT:∀A,ad=some A→A.block∉fp T G∧A.block∉dr:=fun A hA=>by
  constructor<;>intro hm
  ·rcases hsrc _ (.inl hm)with h1|h1
   ·exact hAn A hA h1
   ·exact hAp A hA h1
  ·rcases hsrc _ (.inr hm)with h1|h1
   ·exact hAn A hA h1
   ·exact hAp A hA h1
 have hpinr:∀A,c.pin r=some A→ad=some A:=fun A hA=>by
  obtain⟨_,h2⟩:=h.pin r A hA
  obtain⟨⟨g2,h3⟩,_⟩:=h2 _ _ _ _ hr
  rw[hg]at h3
  injection h3 with h3
  exact congrArg GRoot.ad h3
 refine h.step (S:=fun n=>n=r) nh
  {reads:= ?_
   out:= ?_
   same:= ?_
   size:=hz
   roots:= ?_
   nd:= ?_
   dj:=fun n m hn hm hnm=>absurd (hn.trans hm.symm) hnm
   src:= ?_
   ksn:= ?_
   ksd:= ?_
   pin:= ?_
   hdr:= ?_
   frm:= ?_}
 ·refine Reads.put (S:=fun n=>n=r) h nh hr hg q3 hsp hl P hK hT hρr (by simp[GEnv.put]) ?_ ?_ ?_ (fun b hb=> .inl (.inl hb)) hKc
  ·intro n hn hnr;exact absurd hn hnr
  ·intro n hn hnr;exact hρ n hnr
  ·intro n hn hnr;exact⟨by simp[GEnv.put,hnr],rfl,rfl⟩
 ·intro n hn
  exact⟨hρ n hn,by simp[GEnv.put,hn],rfl,rfl,by simp[GEnv.put,hn]⟩
 ·intro n hn b hb
  exact hsN n hn b hb
 ·intro n hn
  subst hn
  simp only[RootOK,hρr]
  refine⟨ad,G,by simp[GEnv.put],rfl,hT,fun hre=> ?_,fun hre=> ?_,by simp[GEnv.put]⟩
  ·obtain⟨A,hA⟩:=q5 hre
   exact⟨A,hA,hrow A hA⟩
  ·cases hA:ad with
   |none=>rfl
   |some A=>have:=(q4 A hA).1;rw[hre]at this;cases this
 ·intro n hn
  subst hn
  rw[hbr]
  refine List.nodup_append.2 ⟨nd1,ndT1,fun a ha b hb e=> ?_⟩
  cases hA:ad with
  |none=>rw[hA]at ha;simp at ha
  |some A=>
   rw[hA]at ha
   simp at ha
   subst ha;subst e
   exact(hAT A hA).1 hb
 ·intro n hn b hb
  subst hn
  rw[hbr]at hb
  right
  refine⟨n,rfl, ?_,.inl rfl⟩
  rcases List.mem_append.1 hb with hb|hb
  ·rw[q6];simp only[List.mem_append];exact .inl (.inl hb)
  ·exact hsrc' b (.inl hb)
 ·intro b hb
  have key:b∈fp t g∨b∈e.pb r→KS b∨(w.heap.size≤b∧b<w'.heap.size)∨∃m,m=r∧b∈blk ρ e m∧∀A,c.pin m=some A→A.block≠b:=fun hb=>by
   refine .inr (.inr ⟨r,rfl,hb.elim (bi b) (bp b),fun A hA e=> ?_⟩)
   have hAd:=hpinr A hA
   rcases hb with hb|hb
   ·exact hAn A hAd (by rw[e];exact hb)
   ·exact hAp A hAd (by rw[e];exact hb)
  rcases hb with(hb|hb)|hb
  ·exact .inl hb
  ·exact key (bsub b (hX b hb).1)
  ·exact key (hsrc b (.inr hb))
 ·intro n hn b hb hk
  subst hn
  rw[hbr]at hb
  rcases List.mem_append.1 hb with hb|hb
  ·have hb':b∈blk ρ e n:=by rw[q6];simp only[List.mem_append];exact .inl (.inl hb)
   cases hA:ad with
   |none=>rw[hA]at hb;simp at hb
   |some A=>
    rw[hA]at hb;simp at hb;subst hb
    rcases hk with(hk|hk)|hk
    ·exact h.ks n _ hb' hk
    ·rcases bsub _ (hX _ hk).1 with h1|h1
     ·exact hAn A hA h1
     ·exact hAp A hA h1
    ·exact(hAT A hA).2 hk
  ·rcases hk with(hk|hk)|hk
   ·exact h.ks n b (hsrc' b (.inl hb)) hk
   ·obtain⟨h1,h2⟩:=hX b hk
    rcases hTsub b (.inl hb)with h3|h3
    ·rcases h1 with h1|h1
     ·exact ndsr.2.2 b h1 b h3 rfl
     ·exact hpg b h1 (hpr.mem_iff.2 (by simp[h3]))
    ·exact h2 h3
   ·exact ndT3 b hb b hk rfl
 ·intro n hn A hA
  subst hn
  obtain⟨h1,h2⟩:=h.pin n A hA
  obtain⟨⟨g2,h3⟩,h4⟩:=h2 _ _ _ _ hr
  have hAd:=hpinr A hA
  refine⟨fun q hq=>(by rw[hρr]at hq;cases hq),fun re' t'' x'' pd'' hd'=> ?_⟩
  rw[hρr]at hd';cases hd'
  exact⟨⟨G,by simp[GEnv.put,hAd]⟩,by rw[P.sz];exact h4⟩
 ·intro n hn hh' hp re' t'' x'' pd'' hd'
  subst hn
  obtain⟨te,gl,e1,e2⟩:=h.hdr n hh' hp _ _ _ _ hr
  rw[hg]at e1
  injection e1 with e1
  injection e1 with e3 e4 e5
  subst e4
  cases e5
  subst e3
  have hTe:=P.lst te rfl (hhdr hh' hp)
  subst hTe
  have hne':=hhdr hh' hp
  obtain⟨sq',k1,k2⟩:=P.st1 [] _ (loc_nil _ _ _) (fun q e=>hne' (by
   cases π with
   |nil=>rfl
   |cons a b=>simp at e))
  obtain⟨gl',k3,k4,k5,k6⟩:=k2.list te gl rfl
  rw[loc_nil]at k1
  injection k1 with k1
  rw[k3]at k1
  have:G=gl':=by injection k1
  refine⟨te,G,by simp[GEnv.put], ?_⟩
  rw[e2,this,k4,k5,k6]
 ·intro b hb
  by_cases hB:∃B,s.ad=some B∧B.block=b
  ·obtain⟨B,hB,rfl⟩:=hB
   rcases h.may r _ (hBr B hB)with h1|h1|⟨A,h1,h2⟩
   ·exact .inr (.inl h1)
   ·exact .inr (.inr (.inl h1))
   ·obtain⟨i1,⟨i2,i3,_⟩,i4⟩:=hin B hB
    obtain⟨_,h3⟩:=h.pin r A h1
    obtain⟨⟨g2,h4⟩,h5⟩:=h3 _ _ _ _ hr
    rw[hg]at h4
    injection h4 with h4
    have hAd:ad=some A:=congrArg GRoot.ad h4
    refine .inr (.inr (.inr ⟨i1,i2,(fun o ho=>i3 o fun hh=>ho ?_),i4⟩))
    rcases hL.where_ hB with⟨hn,_⟩|⟨hn,_⟩
    ·obtain⟨pre,post,e1,e2,_⟩:=P.out hn
     rw[hB,hAd]at e2
     injection e2 with e2
     have hlen:=okG_len t g q3
     rw[e1]at hlen
     simp only[List.length_append,hlens]at hlen
     rw[←h2]
     refine h5 o ?_ ?_
     ·have:=hh.1;rw[e2]at this;simp only[Addr.plus]at this;omega
     ·have:=hh.2;rw[e2]at this;simp only[Addr.plus]at this;omega
    ·exact absurd (by rw[h2];exact hL.in_ hB hn) (hAn A hAd)
  ·exact .inl (hsame b hb fun B hB' e=>hB ⟨B,hB',e⟩)
end
section
theorem pathEq_ok:∀{p q:Path} {u:Unit},(pathEq p q).run=some u→p=q
 |[],[],_,_=>rfl
 | .L::p,.L::q,u,h=>by rw[pathEq_ok (p:=p) (q:=q) (u:=u) h]
 | .R::p,.R::q,u,h=>by rw[pathEq_ok (p:=p) (q:=q) (u:=u) h]
 | .I i::p,.I j::q,u,h=>by
  replace h:=Cm.run_ask h;obtain⟨h1,h⟩:=h
  rw[h1,pathEq_ok (p:=p) (q:=q) (u:=u) h]
 | .A i::p,.A j::q,u,h=>by
  replace h:=Cm.run_ask h;obtain⟨h1,h⟩:=h
  rw[h1,pathEq_ok (p:=p) (q:=q) (u:=u) h]
 |[],a::_,_,h=>by cases a<;>cases h
 |a::_,[],_,h=>by cases a<;>cases h
 | .L::_,.R::_,_,h| .L::_,.I _::_,_,h| .L::_,.A _::_,_,h| .R::_,.L::_,_,h| .R::_,.I _::_,_,h| .R::_,.A _::_,_,h
 | .I _::_,.L::_,_,h| .I _::_,.R::_,_,h| .I _::_,.A _::_,_,h| .A _::_,.L::_,_,h| .A _::_,.R::_,_,h| .A _::_,.I _::_,_,h=>by cases h
section
variable {P:Program} {τ:Tabs} {E:Env} {c:Ctx} {KS:Nat→Prop} {e:GEnv} {F:Fs} {ρ ρ':Roots} {w w':World}
theorem restore_ok(hC:CtxOK τ c)(h:Inv c KS e F ρ w){p:Place}{s:Spot}{A:Addr}{re:Bool}{tr:Ty}{y:tr.D}{pd:Option (Path×(te:Ty)×List te.D)}(hb:getB ρ p.r=some (.data re tr y pd))(hs:spotD e p=some s)(hA:s.ad=some A)
  {t0:TypeId} {t:Ty} (hT:TyR P t0 t) {t':Ty} (hl':t'.isList=true) (hsame:t'.same t=true) {g':t'.G} {v:Value} (hv:v.cells=(cl t' g').toArray)
  (hfp:∀b∈fp t' g',b∈fp s.t s.g∨b∈e.pb p.r) (hnd:(fp t' g').Nodup) {X:Nat→Prop} (hX:∀b,X b→(b∈fp s.t s.g∨b∈e.pb p.r)∧b∉fp t' g') (hok':okG w (fun b=>KS b∨X b) t' g')
  {up:List (Nat×Option Root)} (hw:(wrP ρ p ⟨t',er t' g'⟩).run=some up):
  ∃w',(Instr.storeAt t0 (.pointer (some A)) v).run P w= .ok () w'∧After c KS F ρ {rv:= .und,rs:=up++[],kill:=[]++[bif t'.scal then .sc p else .hd p]} undef w':=by
 have hsc:t'.scal=false:=by cases t'<;>first|rfl|cases hl'
 rw[hsc]
 simp only[wrP,hb]at hw
 replace hw:=Cm.run_bind_some hw;obtain⟨z,hz,hw⟩:=hw
 injection hw with hw;subst hw
 have hP:=h.purge [.hd p]
 obtain⟨ad,g,q1,q2,q3,q4,q5,q6⟩:=h.root hb
 subst q2
 have hl:loc tr g ad p.π=some s:=by simpa only[spotD,q1,Option.bind_some]using hs
 have hsp:∀A,ad=some A→A.spot=none:=fun A hA=>(q4 A hA).2.1
 obtain⟨G,dr,z1,PG⟩:=putG p.π tr g ad s t' g' z hl hsp q3 hz
 obtain⟨sok,srow⟩:=spotD_ok h ⟨re,tr,_,pd,hb⟩ hs
 have hrow:=srow A hA
 have hlen:(cl t' g').length=(cl s.t s.g).length:=by rw[okG_len _ _ hok',okG_len _ _ sok,PG.szs]
 have hone:=cl_one _ _ hok'
 have hstore:=run_storeVar (P:=P) hT hrow (by rw[okG_len _ _ sok,←PG.szs,Ty.same_sz hsame]) (by rw[okG_len _ _ hok',Ty.same_sz hsame]) hone hv
 refine⟨w.setCells A.block A.off (cl t' g'), ?_, ?_⟩
 ·simp only[Instr.storeAt,Instr.sureAddr,Sem.run_bind,Sem.run_pure,Result.andThen_ok]
  exact hstore
 ·have hcov:Covers [.hd p] p.r p.π t':= .inl ⟨by simp,.inl fun n hn=>by rw[hn]at hl';cases hl'⟩
  have hF:=Inv.refill (ρ':=(p.r,some (.data re z.1 z.2 none))::purgesB [.hd p] ρ) (w':=w.setCells A.block A.off (cl t' g')) hP.1 hP.2 (data_purgesB hb) q1 hl PG hcov hfp hnd hX hok'
   (by rw[getB_cons_eq,z1]) (fun n h1=>by rw[getB_cons_ne h1])
   (fun b _ hB=>same_setCells (hB A hA)) (grew_setCells _ _ _ _)
   (fun B hB=>by
    rw[hA]at hB;cases hB
    have:=inBlk_setCells hrow hlen
    rw[hlen,okG_len _ _ sok]at this
    exact this)
   (fun hh' hq e0=>by
    obtain⟨te,gl,r1,_⟩:=h.hdr p.r hh' hq _ _ _ _ hb
    rw[q1]at r1
    injection r1 with r1
    have hA0:ad=none:=congrArg GRoot.ad r1
    rw[e0,loc_nil]at hl
    injection hl with hl
    have:s.ad=ad:=by rw[←hl]
    rw[hA,hA0]at this;cases this)
  exact⟨_,_,fun b hb=> .inl (.inl hb),trivial,hF⟩
theorem storeAp_ok(hC:CtxOK τ c)(h:Inv c KS e F ρ w){p q:Place}{va v:Value}(hp:RVok w KS ρ e (.rf p) va)(hx:RVok w KS ρ e (.ap q) v){bound t0:Nat}{t:Ty}(hT:TyR P t0 t){ef:Eff}
  (hc:(storeE E bound t0 t ρ p (.ap q)).run=some ef):∃w',(Instr.storeAt t0 va v).run P w= .ok () w'∧After c KS F ρ ef undef w':=by
 simp only[storeE]at hc
 replace hc:=Cm.run_chk hc;obtain⟨hqp,hc⟩:=hc
 have hqp:=Nat.eq_of_beq_eq_true hqp
 split at hc
 ·rename_i re tr y hh tm m hb
  replace hc:=Cm.run_bind_some hc;obtain⟨u,hu,hc⟩:=hc
  have hpe:=pathEq_ok hu
  subst hpe
  replace hc:=Cm.run_bind_some hc;obtain⟨vv,hv,hc⟩:=hc
  split at hc
  ·rename_i te l
   replace hc:=Cm.run_get hc;obtain⟨l',hl',hc⟩:=hc
   replace hc:=Cm.run_get hc;obtain⟨m',hm',hc⟩:=hc
   replace hc:=Cm.run_chk hc;obtain⟨hchk,hc⟩:=hc
   replace hc:=Cm.run_bind_some hc;obtain⟨up,hw,hc⟩:=hc
   injection hc with hc;subst hc
   simp only[Bool.and_eq_true]at hchk
   generalize joinT te tm=tj at*
   obtain⟨s,A,k1,k2,rfl⟩:=hp
   have hroot:=h.roots p.r
   simp only[RootOK,hb]at hroot
   obtain⟨ad,g,q1,q2,q3,q4,q5,hpe⟩:=hroot
   subst q2
   have hdat:hasData ρ p.r:=⟨_,_,_,_,hb⟩
   rw[spotOf_data hdat]at k1
   have hl:loc tr g ad p.π=some s:=by simpa only[spotD,q1,Option.bind_some]using k1
   obtain⟨s0,hl0,hd0⟩:=rd_loc p.π tr g ad _ hv
   rw[hl]at hl0;cases hl0
   obtain⟨tl,gl,a,hl1,mr,her,hmok,hsz,halt⟩:=hpe
   rw[hl]at hl1;cases hl1
   cases hd0
   obtain⟨⟨_,_,_,_,_⟩,hvv⟩:=hx
   rw[hqp]at hvv
   obtain⟨sok,_⟩:=spotD_ok h hdat k1
   have sok':okG w KS (.list true te) gl:=sok
   obtain⟨rows0,dr0,a1,a2,a3,a4,a5,a6⟩:=convList hl' gl.rows rfl
   obtain⟨rows1,dr1,b1,b2,b3,b4,b5,b6⟩:=convList hm' mr her
   have hgrows:∀r∈gl.rows,okG w KS te r:=by
    rcases sok' with⟨_,h2⟩|⟨_,_,_,_,_,_,_,h6⟩
    ·rw[h2];simp
    ·exact h6
   have hlenm:m.length=mr.length:=by rw[←her];simp
   -- blocks
   have nd:=h.nd p.r
   have hbl:blk ρ e p.r=(ad.map (·.block)).toList++fp tr g++e.pb p.r:=by simp only[blk,hb,q1]
   rw[hbl]at nd
   have ndp:=List.nodup_append.1 nd
   have hsp:∀A,ad=some A→A.spot=none:=fun A hA=>by
    cases re with
    |true=>obtain⟨A',hA',hrow⟩:=q4 rfl;rw[hA]at hA';cases hA';exact hrow.1
    |false=>rw[q5 rfl]at hA;cases hA
   have hL:=locG p.π tr g ad _ hl hsp q3
   obtain⟨rest0,hpr,_⟩:=hL.perm
   have ndl:(fp (.list true te) gl).Nodup:=(List.nodup_append.1 (nodup_perm hpr (List.nodup_append.1 ndp.1).2.1)).1
   have hpg:∀b∈e.pb p.r,b∉fp (.list true te) gl:=fun b hb1 hm1=>ndp.2.2 b (by simp[hL.sub b hm1]) b hb1 rfl
   -- which blocks the rows have
   have hrowsfp:∀b∈gl.rows.flatMap (fp te),b∈fp (.list true te) gl:=fun b hb1=>by
    rcases sok' with⟨_,h2⟩|⟨b0,_,h1,h2,_⟩
    ·rw[show gl.rows=[]from h2]at hb1;cases hb1
    ·simp only[fp,show gl.ad=some ⟨b0,0,none⟩from h1,show gl.cap≠0 by omega,if_false]
     exact List.mem_cons_of_mem _ hb1
   have in0:∀b,b∈rows0.flatMap (fp tj)∨b∈dr0→b∈gl.rows.flatMap (fp te):=fun b hb=>a2.mem_iff.2 (List.mem_append.2 hb)
   have in1:∀b,b∈rows1.flatMap (fp tj)∨b∈dr1→b∈mr.flatMap (fp tm):=fun b hb=>b2.mem_iff.2 (List.mem_append.2 hb)
   have ndrows:(gl.rows.flatMap (fp te)).Nodup:=by
    rcases sok' with⟨_,h2⟩|⟨b0,_,h1,h2,_⟩
    ·rw[show gl.rows=[]from h2];simp
    ·have:=ndl
     simp only[fp,show gl.ad=some ⟨b0,0,none⟩from h1,show gl.cap≠0 by omega,if_false]at this
     exact(List.nodup_cons.1 this).2
   have nd3:=List.nodup_append.1 (nodup_perm a2 ndrows)
   -- in one form
   obtain⟨adN,capN,rfl,hmrpb,hres⟩:∃adN capN,v= .slice adN (gl.rows.length+m.length) capN∧(∀b∈mr.flatMap (fp tm),b∈e.pb p.r)∧
     ((capN=0∧gl.rows.length+m.length=0)∨∃b rest,adN=some ⟨b,0,none⟩∧0<capN∧gl.rows.length+m.length≤capN∧Block w b (gl.rows.flatMap (cl te)++mr.flatMap (cl tm)++rest)∧(gl.rows.flatMap (cl te)++mr.flatMap (cl tm)++rest).length=capN*te.sz∧
      ((gl.ad=some ⟨b,0,none⟩∧0<gl.cap∧e.pb p.r=mr.flatMap (fp tm))∨e.pb p.r=b::mr.flatMap (fp tm))∧(gl.rows.length+m.length=0→gl.cap≠0)):=by
    rcases halt with⟨h1,h2,h3,h4⟩|⟨b,rest,h1,h2,h3,h4,h5,h6,h7⟩|⟨b,rest,cap,h1,h2,h3,h4,h5,h6⟩
    ·have hm0:mr=[]:=List.eq_nil_of_length_eq_zero (by rw[←hlenm,h2];rfl)
     have hg0:gl.rows.length=0:=by
      rcases sok' with⟨_,q⟩|⟨_,_,_,q,_⟩
      ·rw[show gl.rows=[]from q];rfl
      ·omega
     refine⟨gl.ad,0,by rw[hvv,h3,hg0,h2];rfl,by rw[hm0];simp,.inl ⟨rfl,by rw[hg0,h2];rfl⟩⟩
    ·exact⟨gl.ad,gl.cap,by rw[hvv,h2],by rw[h7];simp,.inr ⟨b,rest,h1,h3,h4,h5,h6,.inl ⟨h1,h3,h7⟩,fun _=>by omega⟩⟩
    ·exact⟨some ⟨b,0,none⟩,cap,by rw[hvv,h1],fun x hx=>by rw[h6];exact List.mem_cons_of_mem _ hx,.inr ⟨b,rest,rfl,by omega,h3,h4,h5,.inr h6,fun h=>by omega⟩⟩
   have ndmr:(mr.flatMap (fp tm)).Nodup:=by
    rcases halt with⟨h1,h2,h3,h4⟩|⟨b,rest,h1,h2,h3,h4,h5,h6,h7⟩|⟨b,rest,cap,h1,h2,h3,h4,h5,h6⟩
    ·have hm0:mr=[]:=List.eq_nil_of_length_eq_zero (by rw[←hlenm,h2];rfl)
     rw[hm0];simp
    ·have:=ndp.2.1;rw[h7]at this;exact this
    ·have:=ndp.2.1;rw[h6]at this;exact(List.nodup_cons.1 this).2
   have nd4:=List.nodup_append.1 (nodup_perm b2 ndmr)
   let G:OwnL tj.G:=⟨adN,capN,rows0++rows1⟩
   have hlenN:(rows0++rows1).length=gl.rows.length+m.length:=by simp[a3,b3,hlenm]
   have hcells:(rows0++rows1).flatMap (cl tj)=gl.rows.flatMap (cl te)++mr.flatMap (cl tm):=by rw[List.flatMap_append,a4,b4]
   have hfpG:∀b∈fp (.list true tj) G,((b∈fp (.list true te) gl∧(b∈rows0.flatMap (fp tj)∨b∉gl.rows.flatMap (fp te)))∨(b∈e.pb p.r∧(b∈rows1.flatMap (fp tj)∨b∉mr.flatMap (fp tm)))):=fun b hb1=>by
    simp only[fp,G]at hb1
    rcases hres with⟨h1,_⟩|⟨b',rest,h1,h2,h3,h4,h5,h6,_⟩
    ·cases adN<;>simp[h1]at hb1
    ·simp only[h1,show capN≠0 by omega,if_false,List.flatMap_append]at hb1
     rcases List.mem_cons.1 hb1 with rfl|hb1
     ·rcases h6 with⟨h7,h8,_⟩|h7
      ·left
       have hfpl:fp (.list true te) gl=b::gl.rows.flatMap (fp te):=by simp[fp,h7,show gl.cap≠0 by omega]
       rw[hfpl]at ndl
       exact⟨by rw[hfpl];simp,.inr (List.nodup_cons.1 ndl).1⟩
      ·right
       have:=ndp.2.1
       rw[h7]at this
       exact⟨by rw[h7];simp,.inr (List.nodup_cons.1 this).1⟩
     ·rcases List.mem_append.1 hb1 with hb1|hb1
      ·exact .inl ⟨hrowsfp b (in0 b (.inl hb1)),.inl hb1⟩
      ·exact .inr ⟨hmrpb b (in1 b (.inl hb1)),.inl hb1⟩
   have hndG:(fp (.list true tj) G).Nodup:=by
    simp only[fp,G]
    rcases hres with⟨h1,_⟩|⟨b',rest,h1,h2,h3,h4,h5,h6,_⟩
    ·cases adN<;>simp[h1]
    ·simp only[h1,show capN≠0 by omega,if_false,List.flatMap_append]
     refine List.nodup_cons.2 ⟨fun hm=> ?_,List.nodup_append.2 ⟨nd3.1,nd4.1,fun a ha b hb1 e0=> ?_⟩⟩
     ·rcases h6 with⟨h7,h8,h9⟩|h7
      ·have hfpl:fp (.list true te) gl=b'::gl.rows.flatMap (fp te):=by simp[fp,h7,show gl.cap≠0 by omega]
       rcases List.mem_append.1 hm with hm|hm
       ·rw[hfpl]at ndl
        exact(List.nodup_cons.1 ndl).1 (in0 b' (.inl hm))
       ·exact hpg b' (hmrpb b' (in1 b' (.inl hm))) (by rw[hfpl];simp)
      ·rcases List.mem_append.1 hm with hm|hm
       ·exact hpg b' (by rw[h7];simp) (hrowsfp b' (in0 b' (.inl hm)))
       ·have:=ndp.2.1
        rw[h7]at this
        exact(List.nodup_cons.1 this).1 (in1 b' (.inl hm))
     ·subst e0
      exact hpg a (hmrpb a (in1 a (.inl hb1))) (hrowsfp a (in0 a (.inl ha)))
   have hrowsOK:∀r∈rows0++rows1,okG w (fun b=>KS b∨b∈dr0∨b∈dr1) tj r:=fun r hr=>by
    rcases List.mem_append.1 hr with hr|hr
    ·exact a6 w KS _ (fun b hb=> .inl hb) (fun b hb=> .inr (.inl hb)) hgrows r hr
    ·exact b6 w KS _ (fun b hb=> .inl hb) (fun b hb=> .inr (.inr hb)) hmok r hr
   have hGok:okG w (fun b=>KS b∨b∈dr0∨b∈dr1) (.list true tj) G:=by
    rcases hres with⟨h1,h2⟩|⟨b,rest,h1,h2,h3,h4,h5,h6,h7⟩
    ·exact .inl ⟨h1,List.eq_nil_of_length_eq_zero (by show(rows0++rows1).length=0;omega)⟩
    ·refine .inr ⟨b,rest,h1,h2,⟨by show(rows0++rows1).length≤capN;omega,fun e (e0:rows0++rows1=[])=> ?_⟩, ?_, ?_,hrowsOK⟩
     ·have e1:gl.rows.length+m.length=0:=by rw[←hlenN,e0];rfl
      rcases sok' with⟨k1,_⟩|⟨_,_,_,_,k3,_⟩
      ·exact h7 e1 k1
      ·exact k3.2 (conv_tight hl' e) (List.eq_nil_of_length_eq_zero (by omega))
     ·show Block w b ((rows0++rows1).flatMap (cl tj)++rest);rw[hcells];exact h4
     ·show((rows0++rows1).flatMap (cl tj)++rest).length=capN*tj.sz;rw[hcells,h5,a1]
   refine restore_ok hC h hb k1 k2 hT (t':= .list true tj) rfl hchk.1 (g':=G) (X:=fun b=>b∈dr0∨b∈dr1) ?_ (fun b hb1=>(hfpG b hb1).imp And.left And.left) hndG (fun b hb1=> ?_) hGok ?_
   ·show(Value.slice adN (gl.rows.length+m.length) capN).cells=_
    rw[←hlenN];rfl
   ·rcases hb1 with hb1|hb1
    ·have hi:=in0 b (.inr hb1)
     refine⟨.inl (hrowsfp b hi),fun hG1=> ?_⟩
     rcases hfpG b hG1 with⟨_,h2|h2⟩|⟨h2,_⟩
     ·exact nd3.2.2 b h2 b hb1 rfl
     ·exact h2 hi
     ·exact hpg b h2 (hrowsfp b hi)
    ·have hi:=in1 b (.inr hb1)
     refine⟨.inr (hmrpb b hi),fun hG1=> ?_⟩
     rcases hfpG b hG1 with⟨h2,_⟩|⟨_,h2|h2⟩
     ·exact hpg b (hmrpb b hi) h2
     ·exact nd4.2.2 b h2 b hb1 rfl
     ·exact h2 hi
   ·have e1:(⟨.list true tj,(l'++m':List tj.D)⟩:Dyn)=⟨.list true tj,er (.list true tj) G⟩:=by
     simp[er,G,a5,b5]
    rw[←e1];simpa using hw
  ·cases hc
 ·cases hc
end
end
section
section
variable {P:Program} {τ:Tabs} {E:Env} {c:Ctx} {KS:Nat→Prop} {e:GEnv} {F:Fs} {ρ ρ':Roots} {w w':World}
theorem storeVw_ok(hC:CtxOK τ c)(h:Inv c KS e F ρ w){p q:Place}{n:Nat}{va v:Value}(hp:RVok w KS ρ e (.rf p) va)(hx:RVok w KS ρ e (.vw q 0 n) v){t0:Nat}{t:Ty}(hT:TyR P t0 t)
  {u:Unit} (hpq:(placeEq p q).run=some u) {o:Bool} {te:Ty} {l:List te.D} (hr:(rdP ρ q).run=some ⟨.list o te,l⟩) (hs:(Ty.list o te).same t=true) {up:List (Nat×Option Root)} (hw:(wrP ρ p ⟨.list o te,(l.take n:List te.D)⟩).run=some up) (hnT:te.isT=false):
  ∃w',(Instr.storeAt t0 va v).run P w= .ok () w'∧After c KS F ρ {rv:= .und,rs:=up++[],kill:=[]++[bif (Ty.list o te).scal then .sc p else .hd p]} undef w':=by
 unfold placeEq at hpq
 replace hpq:=Cm.run_chk hpq;obtain⟨hpr0,hpq⟩:=hpq
 have hpπ:=pathEq_ok hpq
 have hpr:=Nat.eq_of_beq_eq_true hpr0
 obtain⟨pr,pπ⟩:=p
 obtain⟨qr,qπ⟩:=q
 simp only at hpπ hpr
 subst hpπ
 subst hpr
 obtain⟨hd,tu,g,ad,hs',hlo,ad2,had2,rfl⟩:=hx
 obtain⟨s0,A,k1,k2,rfl⟩:=hp
 rw[spotOf_data hd,hs']at k1
 cases k1
 obtain⟨s1,hs1,he,_⟩:=rdP_ok h hr
 rw[res_data hd,hs']at hs1;cases hs1
 cases he
 obtain⟨re,tr,y,pd,hb⟩:=hd
 have sok:okG w KS (.list true te) g:=(spotD_ok h ⟨re,tr,y,pd,hb⟩ hs').1
 simp only[Nat.sub_zero]
 have hax:g.cap≠0→ad2=g.ad:=fun hc=>by
  rcases sok with⟨q1,q2⟩|⟨b,rest,q1,q2,_⟩
  ·exact absurd q1 hc
  ·have q1':g.ad=some ⟨b,0,none⟩:=q1
   rw[had2 hc,q1'];simp[Addr.plus]
 let G:OwnL te.G:=⟨ad2,g.cap,g.rows.take n⟩
 have hfp:∀b∈fp (.list true te) G,b∈fp (.list true te) g:=fun b hb=>by
  by_cases hc:g.cap=0
  ·simp only[fp,G,hc]at hb
   cases ad2<;>simp at hb
  ·simp only[fp,G,hax hc]at hb ⊢
   cases hg:g.ad with
   |none=>rw[hg]at hb;cases hb
   |some a=>
    rw[hg]at hb
    simp only[hc,if_false]at hb ⊢
    rcases List.mem_cons.1 hb with hb|hb
    ·simp[hb]
    ·refine List.mem_cons_of_mem _ ?_
     obtain⟨x,hx,hb⟩:=List.mem_flatMap.1 hb
     exact List.mem_flatMap.2 ⟨x,List.mem_of_mem_take hx,hb⟩
 have nd:=h.nd pr
 have hbl:∃adr gr,e.gr pr=some ⟨adr,tr,gr⟩∧(fp tr gr).Nodup∧okG w KS tr gr∧∀A,adr=some A→A.spot=none:=by
  obtain⟨adr,gr,q1,q2,q3,q4,q5,q6⟩:=h.root hb
  rw[q6]at nd
  exact⟨adr,gr,q1,(List.nodup_append.1 (List.nodup_append.1 nd).1).2.1,q3,fun A hA=>(q4 A hA).2.1⟩
 obtain⟨adr,gr,q1,nd2,q3,qs⟩:=hbl
 have hl:loc tr gr adr pπ=some ⟨.list true te,g,some A⟩:=by
  have:=hs'
  simp only[spotD,q1,Option.bind_some]at this
  rw[this]
  congr 1
  simp only at k2
  rw[k2]
 have hL:=locG pπ tr gr adr _ hl qs q3
 obtain⟨rest0,hpr,_⟩:=hL.perm
 have ndl:(fp (.list true te) g).Nodup:=(List.nodup_append.1 (nodup_perm hpr nd2)).1
 have hnd:(fp (.list true te) G).Nodup:=by
  by_cases hc:g.cap=0
  ·simp only[fp,G,hc]
   cases ad2<;>simp
  ·have:=ndl
   simp only[fp,G,hax hc]at this ⊢
   cases hg:g.ad with
   |none=>simp
   |some a=>
    rw[hg]at this
    simp only[hc,if_false]at this ⊢
    refine List.Sublist.nodup ?_ this
    refine List.Sublist.cons_cons _ ?_
    have e0:g.rows.flatMap (fp te)=(g.rows.take n).flatMap (fp te)++(g.rows.drop n).flatMap (fp te):=by rw[←List.flatMap_append,List.take_append_drop]
    rw[e0]
    exact List.sublist_append_left _ _
 have hok:okG w (fun b=>KS b∨False) (.list true te) G:=by
  rcases sok with⟨q1,q2⟩|⟨b,rest,q1,q2,q3,q4,q5,q6⟩
  ·refine .inl ⟨q1, ?_⟩
   have q2':g.rows=[]:=q2
   show g.rows.take n=[]
   rw[q2'];simp
  ·refine .inr ⟨b,(g.rows.drop n).flatMap (cl te)++rest,(hax (Nat.pos_iff_ne_zero.1 q2)).trans q1,q2, ?_, ?_, ?_, ?_⟩
   ·have:G.rows.length≤g.rows.length:=by simp[G];omega
    exact⟨Nat.le_trans this q3.1,fun e=>by rw[hnT]at e;cases e⟩
   ·have e1:G.rows.flatMap (cl te)++((g.rows.drop n).flatMap (cl te)++rest)=g.rows.flatMap (cl te)++rest:=by
     rw[←List.append_assoc,←List.flatMap_append,List.take_append_drop]
    rw[e1];exact q4
   ·have e1:G.rows.flatMap (cl te)++((g.rows.drop n).flatMap (cl te)++rest)=g.rows.flatMap (cl te)++rest:=by
     rw[←List.append_assoc,←List.flatMap_append,List.take_append_drop]
    rw[e1];exact q5
   ·intro x hx
    exact okG_KS (fun b hb=> .inl hb) _ _ (q6 x (List.mem_of_mem_take hx))
 have hlen:G.rows.length=n:=by simp only[G,List.length_take];omega
 refine restore_ok (p:=⟨pr,pπ⟩) hC h hb hs' k2 hT (t':= .list true te) rfl hs (g':=G) (X:=fun _=>False) ?_ (fun b hb=> .inl (hfp b hb)) hnd (fun b hb=>hb.elim) hok ?_
 ·show(Value.slice ad2 n g.cap).cells=_
  have:(cl (.list true te) G)=[.slice ad2 n g.cap]:=by
   show [Value.slice ad2 G.rows.length g.cap]=_
   rw[hlen]
  rw[this];rfl
 ·have e1:er (.list true te) G=(er (.list true te) g).take n:=by simp[er,G]
  rw[e1];exact hw
theorem Inv.realias{ks:List Kill}(h:Inv c KS e F ρ w)(nh:NoHit ks F ρ){r:Nat}(hk1: .hd ⟨r,[]⟩∈ks)(hk2: .gn ⟨r,[]⟩∈ks){t:Ty}{x:t.D}{pd:Option (Path×(te:Ty)×List te.D)}(hr:getB ρ r=some (.data true t x pd))
  {A:Addr} {g:t.G} (hg:e.gr r=some ⟨some A,t,g⟩) (hp:c.pin r=none) (hh:c.hdr r=none) {q:Place} {s:Spot} (hq:hasData ρ q.r) (hqr:q.r≠r) (hs:spotD e q=some s)
  (hsame:∀b,b≠A.block→Same w w' b) (hz:Grew w w') (hrow:RowAt w' A (cl s.t s.g))
  (hρr:getB ρ' r=some (.al q)) (hρ:∀n,n≠r→getB ρ' n=getB ρ n):Inv c KS {e with ala:=fun n=>if n=r then A else e.ala n} F ρ' w':=by
 obtain⟨ad0,g0,q1,q2,q3,q4,q5,q6⟩:=h.root hr
 rw[hg]at q1;cases q1
 have hAb:A.block∈blk ρ e r:=by rw[q6];simp
 have hbr:blk ρ' {e with ala:=fun n=>if n=r then A else e.ala n} r=[A.block]:=by simp only[blk,hρr,if_true]
 have hwl:∀p:Place,(∀k∈ks,hit k (.wl p)=false)→p.r≠r:=fun p hp e0=>hit_hd_wl (hp _ hk1) e0 p.π rfl
 have hsv:∀p:Place,(∀k∈ks,hit k (.sv p)=false)→p.r≠r:=fun p hp e0=>(hit_hd_sv (hp _ hk1) e0).1 p.π rfl
 have hKc:∀b,KS b→∀o,w'.cell? ⟨b,o,none⟩=w.cell? ⟨b,o,none⟩:=fun b hb=>(hsame b fun e0=>h.ks r _ hAb (e0▸hb)).2.2
 refine h.step (S:=fun n=>n=r) nh
  {reads:=Reads.of (fun b hb=>hb) hKc ?_ ?_ ?_ ?_ ?_
   out:=fun n hn=>⟨hρ n hn,rfl,by simp[show n≠r from hn],rfl,rfl⟩
   same:=fun n hn b hb=>hsame b fun e0=>h.dj n r hn b hb (by rw[e0];exact hAb)
   size:=hz
   roots:= ?_
   nd:=fun n hn=>by subst hn;rw[hbr];simp
   dj:=fun n m hn hm hnm=>absurd (hn.trans hm.symm) hnm
   src:=fun n hn b hb=>by
    subst hn;rw[hbr]at hb;simp at hb;subst hb
    exact .inr ⟨n,rfl,hAb,.inl rfl⟩
   ksn:=fun b hb=> .inl hb
   ksd:=fun n hn b hb hk=>by
    subst hn;rw[hbr]at hb;simp at hb;subst hb
    exact h.ks n _ hAb hk
   pin:=fun n hn A hA=>by subst hn;rw[hp]at hA;cases hA
   hdr:=fun n hn A hA=>by subst hn;rw[hh]at hA;cases hA
   frm:=fun b hb=> ?_}
 ·intro p hp hd _
  have hne:p.r≠r:=hp.elim (hwl p) (hsv p)
  simpa only[hasData,hρ _ hne]using hd
 ·intro p te gg a hp hd hsp
  exact⟨gg,hsp,rfl,rfl,rfl⟩
 ·intro p hp hd _;rfl
 ·intro p s' A' hp h1 h2
  by_cases hn:p.r=r
  ·have hπ:p.π=[]:=hit_gn_rf (hp _ hk2) hn p.π rfl
   simp only[spotOf,hn,hr]at h1
   simp only[spotD,hn,hg,Option.bind_some,hπ,loc_nil,Option.some.injEq]at h1
   subst h1
   simp only at h2
   refine⟨⟨s.t,s.g,some A⟩, ?_,h2⟩
   simp only[spotOf,hn,hρr,if_true,hπ]
   have:spotD {e with ala:=fun n=>if n=r then A else e.ala n} q=some s:=hs
   rw[this]
   simp[loc_nil,noI]
  ·refine⟨s', ?_,h2⟩
   simp only[spotOf,hρ _ hn]at h1 ⊢
   cases hb:getB ρ p.r with
   |none=>rw[hb]at h1;cases h1
   |some b=>
    rw[hb]at h1
    cases b with
    |data=>exact h1
    |al q'=>
     simp only[hn,if_false]at h1 ⊢
     exact h1
 ·intro p hp re' t' x' pe' hd
  have hn:p.r≠r:=fun e0=>by have:=hp _ hk1;simp[hit,e0]at this
  exact⟨⟨re',t',x',pe',by rw[hρ _ hn];exact hd⟩,rfl⟩
 ·intro n hn
  subst hn
  simp only[RootOK,hρr,if_true]
  refine⟨?_,s,hs,hrow⟩
  simpa only[hasData,hρ _ hqr]using hq
 ·by_cases hbA:b=A.block
  ·subst hbA
   rcases h.may r _ hAb with h1|h1|⟨A',h1,_⟩
   ·exact .inr (.inl h1)
   ·exact .inr (.inr (.inl h1))
   ·rw[hp]at h1;cases h1
  ·exact .inl (hsame b hbA)
theorem tyR_sz{tid:TypeId}{a b:Ty}(ha:TyR P tid a)(hb:TyR P tid b):a.sz=b.sz:=by
 obtain⟨_,h1⟩:=ha.fact
 obtain⟨_,h2⟩:=hb.fact
 obtain⟨i,_,q1,q2,_⟩:=h1.info
 obtain⟨j,_,p1,p2,_⟩:=h2.info
 rw[q1]at p1;cases p1
 rw[←q2,p2]
theorem storeE_ok(hE:EnvOK P E)(hC:CtxOK τ c)(h:Inv c KS e F ρ w){p:Place}{x:RV}{va v:Value}(hp:RVok w KS ρ e (.rf p) va)(hx:RVok w KS ρ e x v){bound t0:Nat}{t:Ty}(hT:TyR P t0 t){ef:Eff}
  (hc:(storeE E bound t0 t ρ p x).run=some ef):∃w',(Instr.storeAt t0 va v).run P w= .ok () w'∧After c KS F ρ ef undef w':=by
 have tk:∀{r},((take ρ t x).bind fun(d,rs,kl)=>Cm.chk (d.1.same t&& !(allKills kl ρ).any (fun k=>hit k (.rf p))) ((wrP (rs++ρ) p d).bind fun up=>
   .ret {rv:= .und,rs:=up++rs,kill:=kl++[bif d.1.scal then .sc p else .hd p]}:Cm Eff)).run=some r→ef=r→∃w',(Instr.storeAt t0 va v).run P w= .ok () w'∧After c KS F ρ ef undef w':=fun{r} hc e0=>by
  subst e0
  replace hc:=Cm.run_bind_some hc;obtain⟨⟨d,rs,kl⟩,htk,hc⟩:=hc
  replace hc:=Cm.run_chk hc;obtain⟨hchk,hc⟩:=hc
  replace hc:=Cm.run_bind_some hc;obtain⟨up,hw,hc⟩:=hc
  injection hc with hc;subst hc
  simp only[Bool.and_eq_true,Bool.not_eq_true']at hchk
  exact put_ok hC h hp hx htk hT hchk.1 hchk.2 hw
 cases x with
 |ap q=>exact storeAp_ok hC h hp hx hT hc
 |vw q lo n=>
  cases lo with
  |succ k=>exact tk (by simpa only[storeE]using hc) rfl
  |zero=>
   obtain⟨qr,qπ⟩:=q
   cases qπ with
   |nil=>exact tk (by simpa only[storeE]using hc) rfl
   |cons a b=>
    simp only[storeE]at hc
    replace hc:=Cm.run_bind_some hc;obtain⟨u,hpq,hc⟩:=hc
    replace hc:=Cm.run_bind_some hc;obtain⟨dd,hr,hc⟩:=hc
    split at hc
    ·replace hc:=Cm.run_chk hc;obtain⟨hnT,hc⟩:=hc
     replace hc:=Cm.run_chk hc;obtain⟨hchk,hc⟩:=hc
     replace hc:=Cm.run_bind_some hc;obtain⟨up,hw,hc⟩:=hc
     injection hc with hc;subst hc
     simp only[Bool.and_eq_true]at hchk
     exact storeVw_ok hC h hp hx hT hpq hr hchk.1 (by simpa using hw) (by simpa using hnT)
    ·cases hc
 |sv q=>
  obtain⟨pr,pπ⟩:=p
  cases pπ with
  |cons a b=>exact tk (by simpa only[storeE]using hc) rfl
  |nil=>
   simp only[storeE]at hc
   cases hl:lasting bound ρ q with
   |false=>rw[hl]at hc;exact tk (by simpa only[cond_false]using hc) rfl
   |true=>
    rw[hl]at hc
    simp only[cond_true]at hc
    split at hc
    ·rename_i tr y pd hb
     replace hc:=Cm.run_chk hc;obtain⟨hchk,hc⟩:=hc
     injection hc with hc;subst hc
     simp only[Bool.and_eq_true,Bool.not_eq_true',Nat.ble_eq]at hchk
     obtain⟨h1,h2,h3,h4⟩:=hchk
     obtain⟨hq,s,hs,hnl,rfl⟩:=hx
     rw[res_data hq]at h1 h4 ⊢
     have hne:q.r≠pr:=fun e0=>by rw[e0,Nat.beq_refl]at h4;cases h4
     obtain⟨u,hu,hsame⟩:=placeIs_ok hE h h1 hs
     obtain⟨ad,g,q1,q2,q3,q4,q5,q6⟩:=h.root hb
     subst q2
     obtain⟨A,rfl⟩:=q5 rfl
     have hrow:=(q4 A rfl).2
     have hsp:spotD e ⟨pr,[]⟩=some ⟨tr,g,some A⟩:=by simp only[spotD,q1,Option.bind_some,loc_nil]
     obtain⟨u',hu',hlike⟩:=placeLike_ok hE h h2 hsp
     obtain⟨s0,A0,k1,k2,rfl⟩:=hp
     rw[spotOf_data ⟨true,tr,_,pd,hb⟩,hsp]at k1
     cases k1
     cases k2
     obtain⟨sok,_⟩:=spotD_ok h hq hs
     have hszs:s.t.sz=u.sz:=Ty.same_sz hsame
     have hszt:tr.sz=u.sz:=by rw[like_sz hlike,tyR_sz hu' hu]
     have hlen:(cl s.t s.g).length=(cl tr g).length:=by rw[okG_len _ _ sok,okG_len _ _ q3,hszs,hszt]
     have hone:=cl_one _ _ sok
     have hstore:=run_storeVar (P:=P) hu hrow (by rw[okG_len _ _ q3,hszt]) (by rw[okG_len _ _ sok,hszs]) hone (val_cells (okG_len _ _ sok) hone)
     obtain⟨hpin,hhdr⟩:=hC.none h3
     refine⟨w.setCells A.block A.off (cl s.t s.g), ?_,KS,{e with ala:=fun n=>if n=pr then A else e.ala n},fun _ h=>h,trivial, ?_⟩
     ·simp only[Instr.storeAt,Instr.sureAddr,Sem.run_bind,Sem.run_pure,Result.andThen_ok]
      exact hstore
     ·have hP:=h.purge [.hd ⟨pr,[]⟩,.gn ⟨pr,[]⟩]
      have hin:=inBlk_setCells hrow hlen
      refine hP.1.realias (r:=pr) (t:=tr) (g:=g) (A:=A) (q:=q) (s:=s) hP.2 (by simp) (by simp) (data_purgesB hb) q1 hpin hhdr ?_ hne hs (fun b hb=>same_setCells (Ne.symm hb)) (grew_setCells _ _ _ _) ?_ ?_ ?_
      ·obtain⟨re,t',x',pd',hq'⟩:=hq;exact⟨re,t',x',pd',data_purgesB hq'⟩
      ·refine⟨hrow.1,hin.2.2.2,fun j hj=> ?_⟩
       rw[hin.2.1];exact hrow.2.2 j (by omega)
      ·simp[getB_cons_eq]
      ·intro n hn
       simp only[List.cons_append,List.nil_append]
       rw[getB_cons_ne hn]
    ·cases hc
 |v t y=>exact tk (by simpa only[storeE]using hc) rfl
 |nl=>exact tk (by simpa only[storeE]using hc) rfl
 |pn=>exact tk (by simpa only[storeE]using hc) rfl
 |wl q=>exact tk (by simpa only[storeE]using hc) rfl
 |rf q=>exact tk (by simpa only[storeE]using hc) rfl
 |und=>exact tk (by simpa only[storeE]using hc) rfl
 |skipped=>exact tk (by simpa only[storeE]using hc) rfl
 |fn f l=>exact tk (by simpa only[storeE]using hc) rfl
 |fb f l=>exact tk (by simpa only[storeE]using hc) rfl
 |tp l=>exact tk (by simpa only[storeE]using hc) rfl
end
end
section
section
variable {P:Program} {τ:Tabs} {E:Env} {c:Ctx} {KS:Nat→Prop} {e:GEnv} {F:Fs} {ρ ρ':Roots} {w w':World}
theorem rvoks_one{x:RV}{v:Value}{vs:List Value}(h:RVoks w KS ρ e [x] (v::vs)):RVok w KS ρ e x v∧vs=[]:=by
 obtain⟨u,us,h0,h1,h2⟩:=h
 cases h0;exact⟨h1,h2⟩
theorem does_skip{m:Sem Unit}{w':World}{R:Value→World→Prop}(hm:m.run P w= .ok () w')(hR:R undef w'):Does P (do m;pure .skip) w R:=by
 unfold Does
 have:(do m;pure .skip:Sem Next).run P w= .ok .skip w':=by
  show(m>>=fun _=>pure Next.skip).run P w=_
  rw[Sem.run_bind,hm];rfl
 rw[this];exact hR
def CallOK(P:Program)(E:Env)(τ:Tabs)(call:CallT):Prop:=
 ∀{c:Ctx} {KS:Nat→Prop} {e:GEnv} {F:Fs} {ρ:Roots} {w:World} {d f:Nat} {s:Sig} {args caps:List RV} {vs us:List Value} {ef:Eff},CtxOK τ c→Inv c KS e F ρ w→E.sig f=some s→32768≤d→(ef.new=true→getB ρ d=none∧getB ρ (d+1)=none∧getB ρ (d+2)=none)→
  RVoks w KS ρ e args vs→RVoks w KS ρ e caps us→(callE call d f s ρ (args++caps)).run=some ef→
  Does P (callFunc f (vs.toArray++us.toArray)) w (After c KS F ρ ef)
theorem moved_ok(h:Inv c KS e F ρ w){x:RV}{v:Value}(hx:RVok w KS ρ e x v){ef:Eff}(hc:(pureE x).run=some ef):After c KS F ρ ef v w:=by
 injection hc with hc;subst hc;exact After.pure h hx
theorem rvoks_app{xs ys:List RV}{vs us:List Value}(hx:RVoks w KS ρ e xs vs)(hy:RVoks w KS ρ e ys us):RVoks w KS ρ e (xs++ys) (vs++us):=by
 induction xs generalizing vs with
 |nil=>have:vs=[]:=hx;subst this;exact hy
 |cons x xs ih=>obtain⟨v,vs',rfl,h1,h2⟩:=hx;exact⟨v,vs'++us,rfl,h1,ih h2⟩
theorem rvoks_split{xs ys:List RV}{vs:List Value}(h:RVoks w KS ρ e (xs++ys) vs):∃v1 v2,vs=v1++v2∧RVoks w KS ρ e xs v1∧RVoks w KS ρ e ys v2:=by
 induction xs generalizing vs with
 |nil=>exact⟨[],vs,rfl,rfl,h⟩
 |cons x xs ih=>
  obtain⟨v,vs',rfl,h1,h2⟩:=h
  obtain⟨v1,v2,rfl,h3,h4⟩:=ih h2
  exact⟨v::v1,v2,rfl,⟨v,v1,rfl,h1,h3⟩,h4⟩
theorem does_nilCheck{o:Oper}{f:Operand→Value}{x:Operand}(ho:o.op= .nilCheck x){v:Value}(hv:f x=v){R:Value→World→Prop}(k1:v≠ .nilIface)(k2:v≠ .pointer none)(k3:v≠ .nilFunc)(k4:∀n x y,v≠ .func (.method n) x y)(h:R v w):
  Does P (execOp f o) w R:=by
 unfold execOp
 rw[ho]
 simp only[hv]
 cases v with
 |nilIface=>exact absurd rfl k1
 |nilFunc=>exact absurd rfl k3
 |pointer a=>
  cases a with
  |none=>exact absurd rfl k2
  |some a=>exact h
 |func fn x y=>
  cases fn with
  |method n=>exact absurd rfl (k4 _ _ _)
  |_=>exact h
 |_=>exact h
theorem comp_ok(hE:EnvOK P E)(hC:CtxOK τ c){call:CallT}(hcall:CallOK P E τ call)(h:Inv c KS e F ρ w)(o:Oper)(a:Act){xs:List RV}(hxs:RVoks w KS ρ e xs ((opnds o.op).map a.eval)){bound d:Nat}(hd32:32768≤d){ef:Eff}
  (hnew:ef.new=true→getB ρ d=none∧getB ρ (d+1)=none∧getB ρ (d+2)=none) (hc:(comp E call bound d o.op xs ρ).run=some ef):Does P (execOp a.eval o) w (After c KS F ρ ef):=by
 obtain⟨hp,hh⟩:=hC.none hd32
 have hd:ef.new=true→getB ρ d=none:=fun h=>(hnew h).1
 generalize hop:o.op=op at hxs hc
 cases op with
 |move x=>
  unfold execOp;rw[hop]
  match xs,hxs with
  |[y],hxs=>
   obtain⟨h1,_⟩:=rvoks_one hxs
   exact moved_ok h h1 hc
 |assign x=>
  unfold execOp;rw[hop]
  match xs,hxs with
  |[y],hxs=>
   obtain⟨h1,_⟩:=rvoks_one hxs
   exact moved_ok h h1 hc
 |pick x y z=>
  unfold execOp;rw[hop]
  match xs,hxs with
  |[r1,r2,r3],hxs=>
   obtain⟨v1,vs1,e1,h1,v2,vs2,e2,h2,v3,vs3,e3,h3,e4⟩:=hxs
   simp only[opnds,List.map_cons,List.map_nil]at e1
   cases e1;cases e2;cases e3
   simp only[comp]at hc
   split at hc
   ·have:=rvok_bool h1
    unfold Does
    simp only[this,asBool,Sem.run_bind,Sem.run_pure,Result.andThen_ok,if_true]
    exact moved_ok h h2 hc
   ·have:=rvok_bool h1
    unfold Does
    simp only[this,asBool,Sem.run_bind,Sem.run_pure,Result.andThen_ok,Bool.false_eq_true,if_false]
    exact moved_ok h h3 hc
   ·cases hc
 |alloc t=>
  unfold execOp;rw[hop]
  match xs,hxs with
  |[],_=>exact alloc_ok hE h hd hp hh hc
 |box t x=>
  unfold execOp;rw[hop]
  match xs,hxs with
  |[y],hxs=>
   obtain⟨h1,_⟩:=rvoks_one hxs
   exact box_ok hE hC h hd32 hd h1 hc
 |build t ps=>
  unfold execOp;rw[hop]
  refine build_ok hE hC h hd32 hd hxs ?_ hc ?_
  ·have:=rvoks_len hxs
   simp only[opnds,List.map_map,List.length_map,Array.length_toList]at this
   exact this.symm
  ·simp only[Array.toList_map,opnds,List.map_map]
   induction ps.toList with
   |nil=>rfl
   |cons q l ih=>simp[ih]
 |buildSlice t n ps=>
  unfold execOp;rw[hop]
  refine buildSlice_ok hE hC h hd32 hd hxs ?_ hc ?_
  ·have:=rvoks_len hxs
   simp only[opnds,List.map_map,List.length_map,Array.length_toList]at this
   exact this.symm
  ·simp only[Array.toList_map,opnds,List.map_map]
   induction ps.toList with
   |nil=>rfl
   |cons q l ih=>simp[ih]
 |load t x=>
  unfold execOp;rw[hop]
  match xs,hxs with
  |[y],hxs=>
   obtain⟨h1,_⟩:=rvoks_one hxs
   exact load_ok hE h h1 hc
 |store t x y=>
  unfold execOp;rw[hop]
  match xs,hxs with
  |[r1,r2],hxs=>
   obtain⟨v1,vs1,e1,h1,v2,vs2,e2,h2,e4⟩:=hxs
   simp only[opnds,List.map_cons,List.map_nil]at e1
   cases e1;cases e2
   simp only[comp]at hc
   split at hc
   ·rename_i t' p ht
    obtain⟨w',q1,q2⟩:=storeE_ok hE hC h h1 h2 (hE.ty _ _ ht) hc
    exact does_skip q1 q2
   ·cases hc
 |nilCheck x=>
  match xs,hxs with
  |[y],hxs=>
   obtain⟨h1,_⟩:=rvoks_one hxs
   obtain⟨k1,k2,k3,k4,k5⟩:=nilCheck_ok h h1 hc
   exact does_nilCheck hop rfl k1 k2 k3 k4 k5
 |binOp op t x y yt=>
  unfold execOp;rw[hop]
  match xs,hxs with
  |[r1,r2],hxs=>
   obtain⟨v1,vs1,e1,h1,v2,vs2,e2,h2,e4⟩:=hxs
   simp only[opnds,List.map_cons,List.map_nil]at e1
   cases e1;cases e2
   exact binOp_ok hE h h1 h2 hc
 |unOp op t x=>
  unfold execOp;rw[hop]
  match xs,hxs with
  |[y],hxs=>
   obtain⟨h1,_⟩:=rvoks_one hxs
   exact unOp_ok h h1 hc
 |convert s t x=>
  unfold execOp;rw[hop]
  match xs,hxs with
  |[y],hxs=>
   obtain⟨h1,_⟩:=rvoks_one hxs
   exact convert_ok hE h hd hp hh h1 hc
 |makeSlice t x y=>
  unfold execOp;rw[hop]
  match xs,hxs with
  |[r1,r2],hxs=>
   obtain⟨v1,vs1,e1,h1,v2,vs2,e2,h2,e4⟩:=hxs
   simp only[opnds,List.map_cons,List.map_nil]at e1
   cases e1;cases e2
   exact makeSlice_ok hE h hd hp hh h1 h2 hc
 |slice t x lo hi mx=>
  unfold execOp;rw[hop]
  cases mx with
  |some m=>cases xs<;>cases hc
  |none=>
  match xs,hxs with
  |r::rest,hxs=>
   obtain⟨v1,vs1,e1,h1,h2⟩:=hxs
   simp only[opnds,List.map_cons,List.map_append]at e1
   cases e1
   simp only[comp]at hc
   replace hc:=Cm.run_chk hc;obtain⟨hty,hc⟩:=hc
   cases lo with
   |none=>
    cases hi with
    |none=>
     have hr:rest=[]:=by cases rest with|nil=>rfl|cons _ _=>obtain⟨_,_,h,_⟩:=h2;cases h
     subst hr
     exact sliceE_ok hE h h1 (lo:=none) (hi:=none) rfl rfl hty hc
    |some y=>
     match rest,h2 with
     |[z],h2=>
      obtain⟨h3,_⟩:=rvoks_one h2
      exact sliceE_ok hE h h1 (lo:=none) (hi:=some z) rfl ⟨_,rfl,h3⟩ hty hc
     |_::_::_,h2=>obtain⟨_,_,h,_,_,_,h',_⟩:=h2;cases h;cases h'
   |some y=>
    cases hi with
    |none=>
     match rest,h2 with
     |[z],h2=>
      obtain⟨h3,_⟩:=rvoks_one h2
      exact sliceE_ok hE h h1 (lo:=some z) (hi:=none) ⟨_,rfl,h3⟩ rfl hty hc
     |_::_::_,h2=>obtain⟨_,_,h,_,_,_,h',_⟩:=h2;cases h;cases h'
    |some y2=>
     match rest,h2 with
     |[z,z2],h2=>
      obtain⟨_,_,h,h3,_,_,h',h4,_⟩:=h2
      cases h;cases h'
      exact sliceE_ok hE h h1 (lo:=some z) (hi:=some z2) ⟨_,rfl,h3⟩ ⟨_,rfl,h4⟩ hty hc
     |[_],h2=>obtain⟨_,_,h,_,h'⟩:=h2;cases h;cases h'
     |_::_::_::_,h2=>obtain⟨_,_,h,_,_,_,h',_,_,_,h'',_⟩:=h2;cases h;cases h';cases h''
 |fieldAddr t x f=>
  unfold execOp;rw[hop]
  match xs,hxs with
  |[y],hxs=>
   obtain⟨h1,_⟩:=rvoks_one hxs
   cases y with
   |rf p=>exact fieldAddr_rf hE h h1 hc
   |v tp z=>
    cases tp with
    |ptr tp=>exact fieldAddr_v hE h h1 hc
    |_=>simp only[comp]at hc;replace hc:=Cm.run_chk hc;obtain⟨_,hc⟩:=hc;cases hc
   |_=>simp only[comp]at hc;replace hc:=Cm.run_chk hc;obtain⟨_,hc⟩:=hc;cases hc
 |field t x f=>
  unfold execOp;rw[hop]
  match xs,hxs with
  |[y],hxs=>
   obtain⟨h1,_⟩:=rvoks_one hxs
   cases y with
   |v tp z=>exact field_v hE h h1 hc
   |sv p=>exact field_sv hE h h1 hc
   |_=>simp only[comp]at hc;replace hc:=Cm.run_chk hc;obtain⟨_,hc⟩:=hc;cases hc
 |indexAddr t x y=>
  unfold execOp;rw[hop]
  match xs,hxs with
  |[r1,r2],hxs=>
   obtain⟨v1,vs1,e1,h1,v2,vs2,e2,h2,e4⟩:=hxs
   simp only[opnds,List.map_cons,List.map_nil]at e1
   cases e1;cases e2
   exact indexAddr_ok hE h h1 h2 hc
 |index t x y=>
  unfold execOp;rw[hop]
  match xs,hxs with
  |[r1,r2],hxs=>
   obtain⟨v1,vs1,e1,h1,v2,vs2,e2,h2,e4⟩:=hxs
   simp only[opnds,List.map_cons,List.map_nil]at e1
   cases e1;cases e2
   exact index_ok hE h h1 h2 hc
 |extract x j=>
  unfold execOp;rw[hop]
  match xs,hxs with
  |[y],hxs=>
   obtain⟨h1,_⟩:=rvoks_one hxs
   exact extract_ok h h1 hc
 |makeFunc f first caps=>
  unfold execOp;rw[hop]
  cases f with
  |func f=>
   simp only[comp]at hc
   replace hc:=Cm.run_chk hc;obtain⟨hf,hc⟩:=hc
   injection hc with hc;subst hc
   have hf':first= #[]:=by
    have:first.toList=[]:=List.isEmpty_iff.1 hf
    exact Array.toList_eq_nil_iff.1 this
   subst hf'
   refine does_value (v:= .func (.func f) #[] (caps.map a.eval)) (w':=w) (by simp[Instr.makeFunc]) (After.pure h ⟨caps.toList.map a.eval, ?_,hxs⟩)
   congr 1
   apply Array.toList_inj.1
   simp
  |_=>cases hc
 |call cl=>
  unfold execOp;rw[hop]
  simp only[comp]at hc
  obtain⟨callee,args,argTypes⟩:=cl
  simp only at hc hxs ⊢
  cases callee with
  |invoke r m=>cases hc
  |value f=>
   simp only[opnds,List.cons_append,List.nil_append,List.map_cons]at hxs
   simp only at hc
   split at hc
   ·rename_i f' caps args'
    split at hc
    ·rename_i s hs
     obtain⟨v,vs,e0,h1,h2⟩:=hxs
     cases e0
     obtain⟨us,hv,hcaps⟩:=h1
     have hk:=hcall hC h hs hd32 hnew h2 hcaps hc
     have e1:(do let dd ←resolve a.eval ⟨.value f,args,argTypes⟩ o.type;invoke dd.target dd.args)=callFunc f' ((args.toList.map a.eval).toArray++us.toArray):=by
      simp only[resolve,hv,Deferred.ofValue]
      show invoke (.fn (.func f') us.toArray) (#[]++args.map a.eval)=_
      simp only[invoke,Array.empty_append]
      congr 2
      apply Array.toList_inj.1;simp
     rw[e1];exact hk
    ·cases hc
   ·cases hc
  |builtin b=>
   simp only[opnds,List.nil_append]at hxs
   have args_eq:∀vs:List Value,args.toList.map a.eval=vs→args.map a.eval=vs.toArray:=fun vs hv=>by
    apply Array.toList_inj.1;rw[Array.toList_map,hv]
   have done:∀{m:Sem Value} {b':Builtin},b=b'→(∀cs ty,builtin b' argTypes ty cs (args.map a.eval)=(do pure (.value (←m))))→Does P (do pure (.value (←m))) w (After c KS F ρ ef)→
     Does P (do let dd ←resolve a.eval ⟨.builtin b,args,argTypes⟩ o.type;invoke dd.target dd.args) w (After c KS F ρ ef):=fun hb hm hD=>by
    subst hb
    have e1:(do let dd ←resolve a.eval ⟨.builtin b,args,argTypes⟩ o.type;invoke dd.target dd.args)=(do pure (.value (←_)):Sem Next):=hm _ _
    rw[e1];exact hD
   cases b with
   |len=>
    simp only at hc
    split at hc
    ·rename_i x
     split at hc
     ·rename_i t0 rest hts
      replace hc:=Cm.run_chk hc;obtain⟨hty,hc⟩:=hc
      replace hc:=Cm.run_bind_some hc;obtain⟨n,hn,hc⟩:=hc
      injection hc with hc;subst hc
      obtain⟨v,vs,hv,h1,h2⟩:=hxs
      have h2':vs=[]:=h2
      subst h2'
      refine done rfl (m:=Builtin.len_ argTypes o.type #[v]) (fun cs ty=> ?_) (does_value (lenOf_ok hE h h1 hty hn argTypes (by rw[←Array.getElem?_toList,hts];rfl) o.type) (After.pure h (rvok_of_int _ _)))
      rw[args_eq _ hv];rfl
     ·cases hc
    ·cases hc
   |append=>
    simp only at hc
    split at hc
    ·rename_i x y t t2 hts
     split at hc
     ·rename_i el by_ hel
      split at hc
      ·rename_i te hte
       replace hc:=Cm.run_chk hc;obtain⟨hty,hc⟩:=hc
       obtain⟨v1,vs1,hv,h1,v2,vs2,rfl,h2,h3⟩:=hxs
       have h3':vs2=[]:=h3
       subst h3'
       refine done rfl (m:=Builtin.append_ #[t,t2] o.type #[v1,v2]) (fun cs ty=> ?_) (append_ok hE hC h hd32 hd hel hte h1 h2 hty hc)
       have e1:argTypes= #[t,t2]:=by apply Array.toList_inj.1;exact hts
       rw[args_eq _ hv,e1];rfl
      ·cases hc
     ·cases hc
    ·cases hc
   |min=>
    simp only at hc
    replace hc:=Cm.run_bind_some hc;obtain⟨r,hr,hc⟩:=hc
    injection hc with hc;subst hc
    obtain⟨v,q1,q2⟩:=minmax_ok (P:=P) (w:=w) hxs hr argTypes o.type
    refine done rfl (m:=Builtin.min_ argTypes o.type (args.map a.eval)) (fun cs ty=> ?_) (does_value (v:=v) (w':=w) ?_ (After.pure h q2))
    ·rfl
    ·rw[args_eq _ rfl];simpa using q1
   |max=>
    simp only at hc
    replace hc:=Cm.run_bind_some hc;obtain⟨r,hr,hc⟩:=hc
    injection hc with hc;subst hc
    obtain⟨v,q1,q2⟩:=minmax_ok (P:=P) (w:=w) hxs hr argTypes o.type
    refine done rfl (m:=Builtin.max_ argTypes o.type (args.map a.eval)) (fun cs ty=> ?_) (does_value (v:=v) (w':=w) ?_ (After.pure h q2))
    ·rfl
    ·rw[args_eq _ rfl];simpa using q1
   |_=>cases hc
 |_=>cases hc
end
end
section
inductive Sh where
 |v (t:Ty)--a value
 |w (t:Ty)--what an own root of no address holds:the root moves to the register's own name
 |keep--what the register held at the entry
structure Shape where
 regs:List (Nat×Sh)
 roots:List (Nat×Bool×Ty)
def force{α:Type}(m:Nat)(f:Nat→α):α:=Nat.rec (f 0) (fun n _=>f (Nat.succ n)) m
def forceB{α:Type}(b:Bool)(f:Bool→α):α:=match b with|true=>f true|false=>f false
def forceTy{α:Type}:Ty→(Ty→α)→α
 | .unit,f=>f .unit
 | .int k,f=>f (.int k)
 | .bool,f=>f .bool
 | .str,f=>f .str
 | .list o t,f=>forceB o fun o=>forceTy t fun t=>f (.list o t)
 | .ptr t,f=>forceTy t fun t=>f (.ptr t)
 | .pair a b,f=>forceTy a fun a=>forceTy b fun b=>f (.pair a b)
 | .arr n t,f=>force n fun n=>forceTy t fun t=>f (.arr n t)
 | .gone n,f=>force n fun n=>f (.gone n)
 | .ti,f=>f .ti
def forceSh{α:Type}:Sh→(Sh→α)→α
 | .v t,f=>forceTy t fun t=>f (.v t)
 | .w t,f=>forceTy t fun t=>f (.w t)
 | .keep,f=>f .keep
def forceShs{α:Type}:List (Nat×Sh)→(List (Nat×Sh)→α)→α
 |[],f=>f []
 |(n,s)::l,f=>force n fun n=>forceSh s fun s=>forceShs l fun l=>f ((n,s)::l)
def forceRts{α:Type}:List (Nat×Bool×Ty)→(List (Nat×Bool×Ty)→α)→α
 |[],f=>f []
 |(n,b,t)::l,f=>force n fun n=>forceB b fun b=>forceTy t fun t=>forceRts l fun l=>f ((n,b,t)::l)
def forceShape{α:Type}(s:Shape)(f:Shape→α):α:=forceShs s.regs fun a=>forceRts s.roots fun b=>f ⟨a,b⟩
def forcePath{α:Type}:Path→(Path→α)→α
 |[],f=>f []
 | .L::l,f=>forcePath l fun l=>f (.L::l)
 | .R::l,f=>forcePath l fun l=>f (.R::l)
 | .I i::l,f=>forcePath l fun l=>f (.I i::l)
 | .A i::l,f=>forcePath l fun l=>f (.A i::l)
def forcePl{α:Type}(p:Place)(f:Place→α):α:=force p.r fun r=>forcePath p.π fun π=>f ⟨r,π⟩
def forceRV{α:Type}:RV→(RV→α)→α
 | .und,f=>f .und
 | .skipped,f=>f .skipped
 | .v t x,f=>f (.v t x)
 | .nl,f=>f .nl
 | .pn,f=>f .pn
 | .wl p,f=>forcePl p fun p=>f (.wl p)
 | .vw p a n,f=>forcePl p fun p=>f (.vw p a n)
 | .sv p,f=>forcePl p fun p=>f (.sv p)
 | .rf p,f=>forcePl p fun p=>f (.rf p)
 | .ap p,f=>forcePl p fun p=>f (.ap p)
 | .fn n c,f=>f (.fn n c)
 | .fb n c,f=>f (.fb n c)
 | .tp l,f=>f (.tp l)
def forceRegs{α:Type}:Regs→(Regs→α)→α
 |[],f=>f []
 |(n,v)::l,f=>forceRV v fun v=>forceRegs l fun l=>f ((n,v)::l)
def forceSk{α:Type}:List Regs→(List Regs→α)→α
 |[],f=>f []
 |g::l,f=>forceRegs g fun g=>forceSk l fun l=>f (g::l)
def forceRt{α:Type}:Option Root→(Option Root→α)→α
 |none,f=>f none
 |some (.data re t x none),f=>forceB re fun re=>f (some (.data re t x none))
 |some (.data re t x (some p)),f=>f (some (.data re t x (some p)))
 |some (.al p),f=>forcePl p fun p=>f (some (.al p))
def forceRoots{α:Type}:Roots→(Roots→α)→α
 |[],f=>f []
 |(n,b)::l,f=>force n fun n=>forceRt b fun b=>forceRoots l fun l=>f ((n,b)::l)
section
variable (E:Env) (call:CallT)
def nameOf(dep dst:Nat):Nat:=((dep+1)*4096+dst)*8
def free(ρ:Roots)(d:Nat):Bool:=(getB ρ d).isNone&&(getB ρ (d+1)).isNone&&(getB ρ (d+2)).isNone
def stepC'(g:Regs)(sk:List Regs)(ρ:Roots)(o:Oper):Cm (Regs×List Regs×Roots):=
 let d:=nameOf sk.length (o.dst.getD 0)
 (comp E call (nameOf sk.length 0) d o.op ((opnds o.op).map (ev g)) ρ).bind fun e=>
  let ks:=allKills e.kill ρ
  .chk (!e.new||free ρ d) (.ret ((match o.dst with|some t=>(t,e.rv)::purges ks g|none=>purges ks g),purgesAll ks sk,e.rs++purgesB e.kill ρ))
def guards(ops:List Oper)(i:Nat):Bool:=ops.any fun o=>match o.guard with|some (j,_)=>Nat.beq i j|none=>false
def inlined(g:Regs)(o:Oper):Option (Nat×List RV):=
 match o.op with
 | .call c=>match c.callee with
  | .value f=>match ev g f with
   | .fn f caps=>match E.sig f with
    |some _=>none
    |none=>some (f,c.args.toList.map (ev g)++caps)
   |_=>none
  |_=>none
 |_=>none
abbrev Inl:={R:Type}→Nat→Nat→List RV→List Regs→Roots→(RV→List Regs→Roots→Option R)→Option R
def placeOK(ρ:Roots)(f:Ty→Bool)(q:Place):Bool:=
 match getB ρ q.r with
 |some (.data _ t _ _)=>match tyAt t q.π with
  |some u=>f u
  |none=>false
 |_=>false
def rfOK(ρ:Roots)(q:Place):Bool:=
 match getB ρ q.r with
 |some (.data re t _ _)=>(re|| !noI q.π)&&(tyAt t q.π).isSome
 |some (.al _)=>true
 |none=>false
mutual
def there(ρ:Roots):RV→Bool
 | .wl q| .vw q _ _=>placeOK ρ isOwnL q
 | .sv q=>placeOK ρ (fun u=> !u.isList) q
 | .rf q=>rfOK ρ q
 | .ap _=>false
 | .fn _ caps| .fb _ caps=>theres ρ caps
 | .tp l=>theres ρ l
 |_=>true
def theres(ρ:Roots):List RV→Bool
 |[]=>true
 |x::xs=>there ρ x&&theres ρ xs
end
def sweep(ρ:Roots):Regs→Regs
 |[]=>[]
 |(n,v)::l=>(n,if there ρ v then v else .und)::sweep ρ l
def runOps{R:Type}(inl:Inl)(all:List Oper):List Oper→Nat→Regs→List Regs→Roots→(Regs→List Regs→Roots→Option R)→Option R
 |[],_,g,sk,ρ,κ=>κ g sk ρ
 |o::os,i,g,sk,ρ,κ=>
  let next (g:Regs) (sk:List Regs) (ρ:Roots):Option R:=
   if guards all i then match getR g (o.dst.getD 0)with
    | .skipped=>runOps inl all os (i+1) g sk ρ κ
    | .v .bool b=>bif (b:Bool)then runOps inl all os (i+1) ((o.dst.getD 0,.v .bool true)::g) sk ρ κ
     else runOps inl all os (i+1) ((o.dst.getD 0,.v .bool false)::g) sk ρ κ
    |_=>none
   else runOps inl all os (i+1) g sk ρ κ
  let go:Option R:=match inlined E g o with
   |some (f,xs)=>inl (o.dst.getD 0) f xs (g::sk) ρ fun rv sk' ρ'=>match sk' with
    |g'::sk''=>next (match o.dst with|some t=>(t,rv)::g'|none=>g') sk'' ρ'
    |[]=>none
   |none=>(stepC' E call g sk ρ o).runK fun(g,sk,ρ)=>next g sk ρ
  match o.guard with
  |none=>go
  |some (j,want)=>match(all[j]?).bind (·.dst)with
   |some tj=>match getR g tj with
    | .v .bool b=>bif (b:Bool)==want then go else runOps inl all os (i+1) (match o.dst with|some t=>(t,.skipped)::g|none=>g) sk ρ κ
    | .skipped=>runOps inl all os (i+1) (match o.dst with|some t=>(t,.skipped)::g|none=>g) sk ρ κ
    |_=>none
   |none=>none
mutual
def names:RV→List Nat
 | .wl p| .vw p _ _| .sv p| .rf p| .ap p=>[p.r]
 | .fn _ c| .fb _ c=>namesL c
 | .tp l=>namesL l
 |_=>[]
def namesL:List RV→List Nat
 |[]=>[]
 |x::xs=>names x++namesL xs
end
structure Rec where
 o:Oper
 xs:List RV--its operands
 raws:List RV--and as they were written
 d:Nat--the name of its first new root
 ef:Eff
def directs(o:Oper):List Nat:=(o.after.toList.filter fun e=>Region.binds .any e).map (·.on)
def befs:List Oper→List (List Nat)→List (List Nat)
 |[],acc=>acc
 |o::os,acc=>befs os (acc++[directs o++(directs o).flatMap fun e=>acc.getD e []])
def seenBy(r:Rec):List RV:=match r.o.op,r.raws with
 | .extract _ _,[.tp _]=>[]
 | .move _,_=>[]
 |_,_=>r.xs
def footOf(ρ0:Roots)(r:Rec):List Nat:=
 ((namesL (seenBy r)).flatMap fun n=>match getB ρ0 n with|some (.al q)=>[n,q.r]|_=>[n])++(if r.ef.new then [r.d,r.d+1,r.d+2]else [])
def wroteBy(r:Rec):List Nat:=r.ef.rs.map (·.1)
def noHits(ks:List Kill)(xs:List RV):Bool:=ks.all fun k=>xs.all fun x=> !hit k x
def looksRaw(r:Rec):List RV:=match r.o.op,r.raws with
 | .extract _ j,[.tp l]=>[(l[j]?).getD .und]
 |_,l=>l
def sameDst(a b:Oper):Bool:=match a.dst,b.dst with|some s,some t=>Nat.beq s t|_,_=>false
def pairOK(ρ0:Roots)(a b:Rec):Bool:=
 !(sameDst a.o b.o)&&disj (wroteBy a) (wroteBy b)&&(disj (wroteBy a) (footOf ρ0 b)&&(disj (wroteBy b) (footOf ρ0 a)&&
  (noHits a.ef.kill (b.ef.rv::looksRaw b)&&noHits b.ef.kill (a.ef.rv::looksRaw a))))
def pairsOK(ρ0:Roots)(an:List (List Nat))(rs:List Rec):Bool:=
 (List.range rs.length).all fun j=>(List.range j).all fun i=>((an.getD j []).any (Nat.beq i))||(match rs[i]?,rs[j]? with|some a,some b=>pairOK ρ0 a b|_,_=>false)
def tmpsOf(o:Oper):List Nat:=(opnds o.op).filterMap fun x=>match x with| .tmp t=>some t|_=>none
def lookOf(ops:List Oper)(o:Oper):List Nat:=tmpsOf o++(match o.guard with|some (i,_)=>((ops[i]?).bind (·.dst)).toList|none=>[])
def readsOK(ops:List Oper)(an:List (List Nat)):Bool:=
 (List.range ops.length).all fun j=>match ops[j]? with
  |some o=>(directs o).all (fun e=>Nat.blt e j)&&
   (List.range ops.length).all fun i=>match ops[i]? with
    |some p=>match p.dst with
     |some t=> !((lookOf ops o).any (Nat.beq t))||((an.getD j []).any (Nat.beq i)||(an.getD i []).any (Nat.beq j))
     |none=>true
    |none=>true
  |none=>true
def isDataW(x:Nat×Option Root):Bool:=match x.2 with|some (.al _)=>false|_=>true
def notAl(ρ:Roots)(n:Nat):Bool:=match getB ρ n with|some (.al _)=>false|_=>true
def drawOK(ops:List Oper)(ρ0:Roots)(rs:List Rec):Bool:=
 let an:=befs ops []
 readsOK ops an&&(pairsOK ρ0 an rs&&rs.all fun r=>
  (r.ef.rs.all fun x=>isDataW x&&notAl ρ0 x.1)&&r.ef.kill.all fun k=>(aliasKills k ρ0).isEmpty)
def rowM(n M:Nat):List Nat→Nat
 |[]=>0
 |e::es=>Nat.lor (Nat.lor (Nat.shiftLeft 1 e) (Nat.shiftRight M (Nat.mul e n))) (rowM n M es)
def matM(n:Nat):List Oper→Nat→Nat→Nat
 |[],_,M=>M
 |o::os,j,M=>force (Nat.lor M (Nat.shiftLeft (Nat.mod (rowM n M (directs o)) (Nat.pow 2 n)) (Nat.mul j n))) fun M'=>matM n os (Nat.succ j) M'
def ancM(n M j i:Nat):Bool:=Nat.beq (Nat.land (Nat.shiftRight M (Nat.add (Nat.mul j n) i)) 1) 1
def readsM(ops:List Oper)(n M:Nat):Bool:=
 (List.range n).all fun j=>match ops[j]? with
  |some o=>(directs o).all (fun e=>Nat.blt e j)&&
   (List.range n).all fun i=>match ops[i]? with
    |some p=>match p.dst with
     |some t=> !((lookOf ops o).any (Nat.beq t))||(ancM n M j i||ancM n M i j)
     |none=>true
    |none=>true
  |none=>true
def dstsM(ops:List Oper)(n M:Nat):Bool:=
 (List.range n).all fun j=>match ops[j]? with
  |some o=>(List.range j).all fun i=>match ops[i]? with
   |some p=> !(sameDst p o)||ancM n M j i
   |none=>true
  |none=>true
def drawStat(ops:List Oper):Bool:=readsM ops ops.length (matM ops.length ops 0 0)&&dstsM ops ops.length (matM ops.length ops 0 0)
def actR(r:Rec):Bool:= !(r.ef.rs.isEmpty&&r.ef.kill.isEmpty)
def numR:Nat→List Rec→List (Nat×Rec)
 |_,[]=>[]
 |i,r::l=>(i,r)::numR (Nat.succ i) l
def pairsM(ρ0:Roots)(n M:Nat)(l:List (Nat×Rec)):Bool:=
 l.all fun b=> !actR b.2||l.all fun a=>
  bif Nat.blt a.1 b.1 then(ancM n M b.1 a.1||pairOK ρ0 a.2 b.2)
  else bif Nat.blt b.1 a.1 then(ancM n M a.1 b.1||pairOK ρ0 b.2 a.2)else true
def drawOKf(ops:List Oper)(ρ0:Roots)(rs:List Rec):Bool:=
 drawStat ops&&(pairsM ρ0 ops.length (matM ops.length ops 0 0) (numR 0 rs)&&rs.all fun r=>
  (r.ef.rs.all fun x=>isDataW x&&notAl ρ0 x.1)&&r.ef.kill.all fun k=>(aliasKills k ρ0).isEmpty)
def runDraw{R:Type}(all:List Oper)(ρ0:Roots):List Oper→Nat→List Rec→Regs→Regs→List Regs→Roots→(Regs→List Regs→Roots→Option R)→Option R
 |[],_,rs,_,g,sk,ρ,κ=>if drawOKf all ρ0 rs.reverse then κ g sk ρ else none
 |o::os,i,rs,gr,g,sk,ρ,κ=>
  let d:=nameOf sk.length (o.dst.getD 0)
  let put (t:Option Nat) (v:RV) (g:Regs):Regs:=match t with|some t=>(t,v)::g|none=>g
  let skip:Option R:=runDraw all ρ0 os (i+1) (⟨o,[],[],d,{rv:= .skipped}⟩::rs) (put o.dst .skipped gr) (put o.dst .skipped g) sk ρ κ
  let next (xs raws:List RV) (ef:Eff):Option R:=
   runDraw all ρ0 os (i+1) (⟨o,xs,raws,d,ef⟩::rs) (put o.dst ef.rv gr) (put o.dst ef.rv (purges ef.kill g)) (purgesAll ef.kill sk) (ef.rs++ρ) κ
  let go:Option R:=match inlined E g o with
   |some _=>none
   |none=>((comp E call (nameOf sk.length 0) d o.op ((opnds o.op).map (ev g)) ρ).bind fun ef=> .chk (!ef.new||free ρ d) (.ret ef)).runK fun ef=>
    if guards all i then match ef.rv with
     | .v .bool b=>bif (b:Bool)then next ((opnds o.op).map (ev g)) ((opnds o.op).map (ev gr)) {ef with rv:= .v .bool true}
      else next ((opnds o.op).map (ev g)) ((opnds o.op).map (ev gr)) {ef with rv:= .v .bool false}
     |_=>none
    else next ((opnds o.op).map (ev g)) ((opnds o.op).map (ev gr)) ef
  match o.guard with
  |none=>go
  |some (j,want)=>match(all[j]?).bind (·.dst)with
   |some tj=>match getR g tj with
    | .v .bool b=>bif (b:Bool)==want then go else skip
    | .skipped=>skip
    |_=>none
   |none=>none
def splitLast:List Oper→Option (List Oper×Oper)
 |[]=>none
 |o::os=>match splitLast os with
  |some (l,x)=>some (o::l,x)
  |none=>some ([],o)
def callT(o:Oper):Bool:=match o.op with
 | .call c=>match c.callee with
  | .value (.tmp _)=>true
  |_=>false
 |_=>false
def guardBelow(n:Nat)(o:Oper):Bool:=match o.guard with|some (j,_)=>Nat.blt j n|none=>true
def lastB(all:List Oper):Option (List Oper×Oper):=match splitLast all with
 |none=>none
 |some (l,o)=>bif callT o&&(o.guard.isNone&&(l.all (guardBelow l.length)&&((directs o).all (fun e=>Nat.blt e l.length)&&(List.range l.length).all (ancM all.length (matM all.length all 0 0) l.length))))then some (l,o)else none
def runReg{R:Type}(inl:Inl)(draw:Bool)(ops:List Oper)(g:Regs)(sk:List Regs)(ρ:Roots)(κ:Regs→List Regs→Roots→Option R):Option R:=
 bif draw then match lastB ops with
  |some (l,o)=>runDraw E call l ρ l 0 [] g g sk ρ fun g sk ρ=>runOps E call inl ops [o] l.length g sk ρ κ
  |none=>runDraw E call ops ρ ops 0 [] g g sk ρ κ
 else runOps E call inl ops ops 0 g sk ρ κ
def Sh.t:Sh→Ty
 | .v t| .w t=>t| .keep=> .unit
def Shape.ts(s:Shape):List Ty:=s.regs.map (·.2.t)++s.roots.map (·.2.2)
def Shape.T(s:Shape):Ty:=mkT s.ts
def rootT(bound:Nat)(ρ:Roots)(r:Nat):Option Ty:=
 if Nat.ble bound r then match getB ρ r with
  |some (.data false t _ _)=>some t
  |_=>none
 else none
def whole:RV→Option Nat
 | .wl ⟨r,[]⟩| .sv ⟨r,[]⟩=>some r
 |_=>none
def shOf(bound:Nat)(g:Regs)(ρ:Roots)(sn:List Nat)(n:Nat):Option Ty→Sh
 |some t=>if t.shared then .v t else .w t
 |none=>match getR g n with
  | .v t _=> .v t.nt
  |x=>match whole x with
   |some r=>if sn.any (Nat.beq r)then .keep else match rootT bound ρ r with
    |some t=> .w t.nt
    |none=> .keep
   |none=> .keep
def shRegs(bound:Nat)(g:Regs)(ρ:Roots):List Nat→List (Nat×Option Ty)→List (Nat×Sh)
 |_,[]=>[]
 |sn,(n,t)::l=>match whole (getR g n)with
  |some r=>(n,shOf bound g ρ sn n t)::shRegs bound g ρ (r::sn) l
  |none=>(n,shOf bound g ρ sn n t)::shRegs bound g ρ sn l
def keptNames(g:Regs):List (Nat×Sh)→List Nat
 |[]=>[]
 |(n,.keep)::l=>names (getR g n)++keptNames g l
 |_::l=>keptNames g l
def wNames(g:Regs):List (Nat×Sh)→List Nat
 |[]=>[]
 |(n,.w _)::l=>(match whole (getR g n)with|some r=>[r]|none=>[])++wNames g l
 |_::l=>wNames g l
def liveRoots(keep:Nat→Bool):Roots→List Nat→List (Nat×Bool×Ty)
 |[],_=>[]
 |(n,b)::l,sn=>if sn.any (Nat.beq n)then liveRoots keep l sn else match b with
  |some (.data re t _ _)=>if keep n then(n,re,t)::liveRoots keep l (n::sn)else liveRoots keep l (n::sn)
  |_=>liveRoots keep l (n::sn)
def rootHint:List (Nat×Option Ty)→Nat→Ty→Ty
 |[],_,t=>t.nt
 |(m,some t')::l,n,t=>bif Nat.beq m (1000000+n)then t' else rootHint l n t
 |_::l,n,t=>rootHint l n t
def mkShape(g:Regs)(dep:Nat)(ρ:Roots)(live:List (Nat×Option Ty)):Shape:=
 let rs:=shRegs (nameOf dep 0) g ρ [] (live.filter fun x=>Nat.ble x.1 999999)
 let nm:=keptNames g rs
 let ws:=(wNames g rs)
 {regs:=rs,roots:=(liveRoots (fun n=>Nat.ble (n+1) (nameOf dep 0)||(nm.any (Nat.beq n)&& !ws.any (Nat.beq n))) ρ []).map fun x=>(x.1,x.2.1,rootHint live x.1 x.2.2)}
mutual
def rvEq:RV→RV→Cm Unit
 | .rf p,.rf q| .wl p,.wl q| .sv p,.sv q=>placeEq p q
 | .vw p a n,.vw q b m=> .ask (a=b∧n=m) (placeEq p q)
 | .nl,.nl| .pn,.pn=> .ret ()
 | .fn f c,.fn f' c'| .fb f c,.fb f' c'=> .chk (Nat.beq f f') (rvsEq c c')
 |_,_=> .fail
def rvsEq:List RV→List RV→Cm Unit
 |[],[]=> .ret ()
 |x::xs,y::ys=>(rvEq x y).bind fun _=>rvsEq xs ys
 |_,_=> .fail
end
def onlyV(t:Ty):RV→Cm Dyn
 | .v t' x=> .ret ⟨t',x⟩
 | .nl=>match t with| .list _ t=> .ret ⟨.list false t,[]⟩|_=> .fail
 | .pn=>match t with| .ptr t=> .ret ⟨.ptr t,none⟩|_=> .fail
 |_=> .fail
def wholeM:RV→Option Nat
 | .wl ⟨r,[]⟩| .sv ⟨r,[]⟩=>some r
 |_=>none
def renOf(dep:Nat)(g:Regs):List (Nat×Sh)→List (Nat×Nat)
 |[]=>[]
 |(n,.w _)::l=>match wholeM (getR g n)with
  |some r=>(r,nameOf dep n+7)::renOf dep g l
  |none=>renOf dep g l
 |_::l=>renOf dep g l
def renN:List (Nat×Nat)→Nat→Nat
 |[],r=>r
 |(a,b)::l,r=>if Nat.beq a r then b else renN l r
def renP(m:List (Nat×Nat))(p:Place):Place:=⟨renN m p.r,p.π⟩
mutual
def ren(m:List (Nat×Nat)):RV→RV
 | .wl p=> .wl (renP m p)| .vw p a n=> .vw (renP m p) a n| .sv p=> .sv (renP m p)| .rf p=> .rf (renP m p)| .ap p=> .ap (renP m p)
 | .fn f c=> .fn f (renL m c)| .fb f c=> .fb f (renL m c)| .tp l=> .tp (renL m l)
 |x=>x
def renL(m:List (Nat×Nat)):List RV→List RV
 |[]=>[]
 |x::xs=>ren m x::renL m xs
end
def takeW(ρ:Roots)(t:Ty):RV→Cm (Dyn×Roots)
 | .nl=>match t with
  | .list _ t=> .ret (⟨.list true t.o,[]⟩,[])
  |_=> .fail
 | .wl p| .sv p=>match getB ρ p.r with
  |some (.data false tr y _)=>(rd tr y p.π).bind fun d=> .ret (d,[(p.r,none)])
  |_=> .fail
 | .vw ⟨r,[]⟩ 0 n=>match getB ρ r with
  |some (.data false (.list true te) l _)=> .chk (!te.isT) (.ret (⟨.list true te,((l:List te.D).take n:List te.D)⟩,[(r,none)]))
  |_=> .fail
 |_=> .fail
def newNames(dep:Nat):List (Nat×Sh)→List Nat
 |[]=>[]
 |(n,.w _)::l=>(nameOf dep n+7)::newNames dep l
 |_::l=>newNames dep l
def okRen(m:List (Nat×Nat))(ns:List Nat)(v:RV):Bool:=(names v).all fun r=>(m.any fun x=>Nat.beq x.1 r)|| !(ns.any (Nat.beq r))
def okRens(m:List (Nat×Nat))(ns:List Nat)(g:Regs):List (Nat×Sh)→Bool
 |[]=>true
 |(n,.keep)::l=>okRen m ns (getR g n)&&okRens m ns g l
 |_::l=>okRens m ns g l
def packChk(s:Shape)(dep:Nat)(g:Regs)(sk:List Regs):Bool:=
 let ns:=newNames dep s.regs
 nodup (ns++s.roots.map (·.1))&&okRens (renOf dep g s.regs) ns g s.regs&&(sk.all fun r=>r.all fun x=>okRen [] ns x.2)&&(s.roots.all fun x=>Nat.ble 32768 x.1|| !x.2.2.isList||isOwnL x.2.2)&&s.regs.all fun x=>match x.2 with| .v t=>t.shared|_=>true
def packRegs(m0 m:List (Nat×Nat))(g0 g:Regs)(ρ:Roots):List (Nat×Sh)→Cm (List Dyn×Roots)
 |[]=> .ret ([],ρ)
 |(n,.v t)::l=>(onlyV t (getR g n)).bind fun d=>(packRegs m0 m g0 g ρ l).bind fun ds=> .ret (d::ds.1,ds.2)
 |(n,.w t)::l=>(takeW ρ t (getR g n)).bind fun(d,rs)=>(packRegs m0 m g0 g (rs++ρ) l).bind fun ds=> .ret (d::ds.1,ds.2)
 |(n,.keep)::l=>(rvEq (ren m0 (getR g0 n)) (ren m (getR g n))).bind fun _=>(packRegs m0 m g0 g ρ l).bind fun ds=> .ret (⟨.unit,()⟩::ds.1,ds.2)
def packRoots(ρ:Roots):List (Nat×Bool×Ty)→Cm (List Dyn)
 |[]=> .ret []
 |(n,re,_)::l=>match getB ρ n with
  |some (.data re' t x _)=> .chk (re==re') ((packRoots ρ l).bind fun ds=> .ret (⟨t,x⟩::ds))
  |_=> .fail
def pack(s:Shape)(dep:Nat)(g0 g:Regs)(sk:List Regs)(ρ:Roots):Cm s.T.D:= .chk (packChk s dep g sk)<|
 (packRegs (renOf dep g0 s.regs) (renOf dep g s.regs) g0 g ρ s.regs).bind fun a=>(packRoots a.2 s.roots).bind fun b=>packD s.ts (a.1++b)
def unRegs(m0:List (Nat×Nat))(g0:Regs)(dep:Nat):List (Nat×Sh)→List Dyn→Regs×Roots×List Dyn
 |[],ds=>([],[],ds)
 |(n,.v _)::l,d::ds=>let r:=unRegs m0 g0 dep l ds;((n,.v d.1 d.2)::r.1,r.2)
 |(n,.w _)::l,d::ds=>
  let r:=unRegs m0 g0 dep l ds
  let nm:=nameOf dep n+7
  ((n,match d.1 with| .list _ _=> .wl ⟨nm,[]⟩|_=> .sv ⟨nm,[]⟩)::r.1,(nm,some (.data false d.1 d.2 none))::r.2.1,r.2.2)
 |(n,.keep)::l,_::ds=>let r:=unRegs m0 g0 dep l ds;((n,ren m0 (getR g0 n))::r.1,r.2)
 |_,ds=>([],[],ds)
def unRoots:List (Nat×Bool×Ty)→List Dyn→Roots
 |(n,re,_)::l,d::ds=>(n,some (.data re d.1 d.2 none))::unRoots l ds
 |_,_=>[]
def unpack(s:Shape)(g0:Regs)(sk:List Regs)(x:s.T.D):Regs×List Regs×Roots:=
 let r:=unRegs (renOf sk.length g0 s.regs) g0 sk.length s.regs (unD s.ts x)
 let ρ:=r.2.1++unRoots s.roots r.2.2
 (sweep ρ r.1,sk.map (sweep ρ),ρ)
def wvOf(t:Ty)(nm:Nat):RV:=match t with| .list _ _=> .wl ⟨nm,[]⟩|_=> .sv ⟨nm,[]⟩
def unRegsK{α:Type}(m0:List (Nat×Nat))(g0:Regs)(dep:Nat):List (Nat×Sh)→List Dyn→(Regs→Roots→List Dyn→α)→α
 |[],ds,f=>f [] [] ds
 |(n,.v _)::l,⟨t,x⟩::ds,f=>unRegsK m0 g0 dep l ds fun g ρ ds=>f ((n,.v t x)::g) ρ ds
 |(n,.w _)::l,⟨t,x⟩::ds,f=>force (nameOf dep n+7) fun nm=>
  forceRV (wvOf t nm) fun v=>unRegsK m0 g0 dep l ds fun g ρ ds=>f ((n,v)::g) ((nm,some (.data false t x none))::ρ) ds
 |(n,.keep)::l,_::ds,f=>forceRV (ren m0 (getR g0 n)) fun v=>unRegsK m0 g0 dep l ds fun g ρ ds=>f ((n,v)::g) ρ ds
 |_,ds,f=>f [] [] ds
def unRootsK{α:Type}:List (Nat×Bool×Ty)→List Dyn→(Roots→α)→α
 |(n,re,_)::l,⟨t,x⟩::ds,f=>unRootsK l ds fun ρ=>f ((n,some (.data re t x none))::ρ)
 |_,_,f=>f []
def unpackK{α:Type}(s:Shape)(g0:Regs)(sk:List Regs)(x:s.T.D)(f:Regs×List Regs×Roots→α):α:=
 unRegsK (renOf sk.length g0 s.regs) g0 sk.length s.regs (unD s.ts x) fun g ρ1 ds=>unRootsK s.roots ds fun ρ2=>
 forceRoots (ρ1++ρ2) fun ρ=>forceRegs (sweep ρ g) fun g=>forceSk (sk.map (sweep ρ)) fun sk=>f (g,sk,ρ)
mutual
def undOk:RV→RV→Bool
 | .tp l,.tp m=>undOks l m
 | .und,_=>true
 |_,.und=>false
 |_,_=>true
def undOks:List RV→List RV→Bool
 |[],[]=>true
 |x::xs,y::ys=>undOk x y&&undOks xs ys
 |_,_=>false
end
def regsSame:Regs→Regs→Bool
 |[],[]=>true
 |(_,v)::l,(_,u)::m=>undOk v u&&regsSame l m
 |_,_=>false
def skSame:List Regs→List Regs→Bool
 |[],[]=>true
 |a::l,b::m=>regsSame a b&&skSame l m
 |_,_=>false
inductive Ex where
 |normal|exit (id:Nat)|ret
abbrev Kont(R:Type):=Ex→Regs→List Regs→Roots→Option R
def iter{D R:Type}:Nat→((D→Option R)→D→Option R)→D→Option R
 |0,_,_=>none
 |n+1,F,d=>F (iter n F) d
def joinK{T R:Type}(x:Option (T ⊕ R))(f:T→Option R):Option R:=match x with
 |some (.inl d)=>f d
 |some (.inr r)=>some r
 |none=>none
def firstRegion:Code→Option Nat
 | .region id _ _=>some id
 | .seq a _=>firstRegion a
 | .block _ a| .loop a=>firstRegion a
 | .cond _ a b=>match firstRegion a with|some r=>some r|none=>firstRegion b
 |_=>none
structure Hints where
 loop:Nat→List (Nat×Option Ty)
 join:Nat→Option (List (Nat×Option Ty))
def den(inl:Inl)(k:Nat)(h:Hints){R:Type}:Code→Regs→List Regs→Roots→Kont R→Option R
 | .skip,g,sk,ρ,κ=>κ .normal g sk ρ
 | .region _ ops draw,g,sk,ρ,κ=>runReg E call inl draw ops.toList g sk ρ fun g sk ρ=>κ .normal g sk ρ
 | .seq a b,g,sk,ρ,κ=>
  match(firstRegion b).bind h.join with
  |none=>den inl k h a g sk ρ fun e g sk ρ=>match e with
   | .normal=>den inl k h b g sk ρ κ
   |e=>κ e g sk ρ
  |some live=>
   forceRegs g fun g=>forceRoots ρ fun ρ=>forceShape (mkShape g sk.length ρ live) fun s=>
   joinK (den (R:=s.T.D ⊕ R) inl k h a g sk ρ (fun e g' sk' ρ'=>match e with
    | .normal=>if skSame sk sk' then(pack s sk.length g g' sk' ρ').runK fun d=>some (.inl d)else none
    |e=>(κ e g' sk' ρ').map .inr)) fun d=>unpackK s g sk d fun u=>den inl k h b u.1 u.2.1 u.2.2 κ
 | .cond c a b,g,sk,ρ,κ=>match ev g c with
  | .v .bool x=>bif (x:Bool)then den inl k h a g sk ρ κ else den inl k h b g sk ρ κ
  |_=>none
 | .block id a,g,sk,ρ,κ=>den inl k h a g sk ρ fun e g sk ρ=>match e with
  | .exit j=>if Nat.beq j id then κ .normal g sk ρ else κ (.exit j) g sk ρ
  |e=>κ e g sk ρ
 | .loop a,g,sk,ρ,κ=>
  forceRegs g fun g=>forceRoots ρ fun ρ=>forceShape (mkShape g sk.length ρ (h.loop ((firstRegion a).getD 0))) fun s=>
  (pack s sk.length g g sk ρ).runK (iter k fun self d=>unpackK s g sk d fun u=>
   den inl k h a u.1 u.2.1 u.2.2 fun e g' sk' ρ'=>match e with
    | .normal=>if skSame sk sk' then(pack s sk.length g g' sk' ρ').runK self else none
    |e=>κ e g' sk' ρ')
 | .exit id,g,sk,ρ,κ=>κ (.exit id) g sk ρ
 | .ret,g,sk,ρ,κ=>κ .ret g sk ρ
 |_,_,_,_,_=>none
def resC(g:Regs)(ρ:Roots):List ResultVar→Cm (List RV)
 |[]=> .ret []
 | .tmp t::l=>(resC g ρ l).bind fun r=> .ret (getR g t::r)
 | .cell a t::l=>match getR g a with
  | .rf p=> .chk (placeIs E ρ t (res ρ p))<|(rdP ρ p).bind fun v=>(resC g ρ l).bind fun r=> .ret (seen (res ρ p) v::r)
  |_=> .fail
def cutV(bound:Nat)(v:RV):RV:=bif (names v).any (Nat.ble bound)then .und else v
def cut(bound:Nat):Regs→Regs
 |[]=>[]
 |(n,v)::l=>(n,cutV bound v)::cut bound l
def clr(bound:Nat):Roots→Roots
 |[]=>[]
 |(n,b)::l=>if Nat.ble bound n then clr bound l else(n,b)::clr bound l
def outRen(bound:Nat):Nat→List (Nat×Nat)→List Nat→List (Nat×Nat)
 |_,m,[]=>m
 |d,m,r::l=>if Nat.ble bound r&& !(m.any fun x=>Nat.beq x.1 r)then outRen bound (d+1) ((r,d)::m) l else outRen bound d m l
def noOut(bound:Nat):Roots→Bool
 |[]=>true
 |(_,some (.al q))::l=>Nat.ble (q.r+1) bound&&noOut bound l
 |_::l=>noOut bound l
def outRoots(m:List (Nat×Nat))(bound:Nat)(ρ:Roots):Roots:=m.map (fun x=>(x.2,getB ρ x.1))++clr bound ρ
def leaveE(bound d:Nat)(g:Regs)(ρ:Roots)(rs:List ResultVar):Cm (List RV×Roots):=
 (resC E g ρ rs).bind fun xs=>
  let m:=outRen bound d [] (namesL xs)
  .chk (Nat.ble 32768 bound&&noOut bound ρ&&nodup (m.map (·.1))&&nodup (m.map (·.2))&&m.all fun x=>Nat.ble bound x.1&&(Nat.ble 32768 x.2&&(Nat.ble (x.2+1) bound&&(getB ρ x.2).isNone)))<|
   .ret (renL m xs,outRoots m bound ρ)
def setParams:List RV→Nat→Regs
 |[],_=>[]
 |x::xs,i=>(i,x)::setParams xs (i+1)
def inlN(k:Nat)(H:Nat→Hints):Nat→Inl
 |0=>fun _ _ _ _ _ _=>none
 |m+1=>fun dst f xs sk ρ κ=>match E.body f with
  |some fn=>match fn.body with
   |some c=>
    den E call (inlN k H m) k (H f) c (setParams xs 0) sk ρ fun e g sk' ρ'=>
     let fin (_:Unit):=(leaveE E (nameOf sk.length 0) (nameOf (sk.length-1) dst+3) g ρ' fn.results.toList).runK fun(rvs,ρ3)=>
      κ (oneRV rvs) (sk'.map (cut (nameOf sk.length 0))) ρ3
     match e with
     | .ret=>fin ()
     | .normal=>fin ()
     |_=>none
   |none=>none
  |none=>none
def retS(ρ:Roots)(s:Sig)(xs:List RV):Cm s.outT.D:=
 (gatherT ρ (s.outs.map .val) xs [] []).bind fun a=>(gatherS ρ a.2.1 a.2.2 (s.outs.map .val) xs a.1).bind fun b=>
 match s.io with
 |none=>packD s.outTs b.1
 |some (_,t)=>match getB (a.2.1++ρ) 1 with
  |some (.data _ t' x _)=> .chk (t'.beq t&& !b.2.any (Nat.beq 1)) (packD s.outTs (b.1++[⟨t',x⟩]))
  |_=> .fail
end
def startE(s:Sig)(ds:List Dyn):List RV×Roots:=
 match s.io,ds with
 |some (ptr,_),v::vs=>((if ptr then .rf ⟨1,[]⟩else .wl ⟨1,[]⟩)::(outs 32768 vs).1,(1,some (.data ptr v.1 v.2 none))::(outs 32768 vs).2)
 |_,ds=>outs 32768 ds
def Sig.okIns(s:Sig):Bool:=(s.ins.all fun p=>p.t.shared|| !p.t.isList||isOwnL p.t)&&(match s.io with|some (ptr,t)=>ptr||isOwnL t|none=>true)
def runF(E:Env)(H:Nat→Hints):Nat→CallT
 |0=>fun _ _ _=>none
 |k+1=>fun f s x=>match E.body f with
  |some fn=>match fn.body with
   |some c=>
    if s.okIns then
     den E (runF E H k) (inlN E (runF E H k) k H 9) k (H f) c (setParams (startE s (unD s.inTs x)).1 0) [] (startE s (unD s.inTs x)).2 fun e g _ ρ=>
      match e with
      | .ret=>((resC E g ρ fn.results.toList).bind fun xs=>retS ρ s xs).runK some
      | .normal=>((resC E g ρ fn.results.toList).bind fun xs=>retS ρ s xs).runK some
      |_=>none
    else none
   |none=>none
  |none=>E.ext f s x
end
section
def LC(t t':Ty)(g:t.G)(g':t'.G):Prop:=
 ∀(ad:Option Addr) (p:Path) (u:Ty),tyAt t' p=some u→∀s,loc t g ad p=some s→∃s',loc t' g' ad p=some s'∧s'.ad=s.ad∧s'.t=u∧s.t.same u=true∧cl s'.t s'.g=cl s.t s.g
theorem LC.nil{t t':Ty}{g:t.G}{g':t'.G}(hs:t.same t'=true)(hc:cl t' g'=cl t g){ad:Option Addr}{u:Ty}(hu:tyAt t' []=some u){s:Spot}(h:loc t g ad []=some s):∃s',loc t' g' ad []=some s'∧s'.ad=s.ad∧s'.t=u∧s.t.same u=true∧cl s'.t s'.g=cl s.t s.g:=by
 rw[loc_nil]at h;injection h with h;subst h
 rw[tyAt_nil]at hu;injection hu with hu;subst hu
 exact⟨_,loc_nil _ _ _,rfl,rfl,hs,hc⟩
theorem convRowsL{t t':Ty}(h:t.sub t'=true)(ih:∀g:t.G,∃g' dr,ConvG t t' h g g' dr∧LC t t' g g'):∀rows:List t.G,∃(rows':List t'.G) (dr:List Nat),
  (rows.flatMap (fp t)).Perm (rows'.flatMap (fp t')++dr)∧rows'.length=rows.length∧rows'.flatMap (cl t')=rows.flatMap (cl t)∧
  (∀e:List t.D=List t'.D,rows'.map (er t')=cast e (rows.map (er t)))∧
  (∀w KS KS',(∀b,KS b→KS' b)→(∀b∈dr,KS' b)→(∀r∈rows,okG w KS t r)→∀r∈rows',okG w KS' t' r)∧
  ∀(i:Nat) (r:t.G),rows[i]? =some r→∃r':t'.G,rows'[i]? =some r'∧LC t t' r r'
 |[]=>⟨[],[],by simp,rfl,rfl,fun e=>(cast_list_nil (Ty.same_D (Ty.sub_same h)) e).symm,fun _ _ _ _ _ _=>by simp,by simp⟩
 |g::gs=>by
  obtain⟨g',d1,hg,hL⟩:=ih g
  obtain⟨gs',d2,h1,h2,h3,h4,h5,h6⟩:=convRowsL h ih gs
  refine⟨g'::gs',d1++d2, ?_,by simp[h2],by simp[h3,hg.cl], ?_, ?_, ?_⟩
  ·simp only[List.flatMap_cons];exact perm_swap4 hg.perm h1
  ·intro e
   rw[List.map_cons,List.map_cons,cast_list_cons (Ty.same_D (Ty.sub_same h)) e,hg.er,h4 e]
  ·intro w KS KS' hs hd hr r hr'
   rcases List.mem_cons.1 hr' with rfl|hr'
   ·exact hg.ok w KS KS' hs (fun b hb=>hd b (by simp[hb])) (hr g (by simp))
   ·exact h5 w KS KS' hs (fun b hb=>hd b (by simp[hb])) (fun r hr''=>hr r (by simp[hr''])) r hr'
  ·intro i r hi
   cases i with
   |zero=>simp at hi;subst hi;exact⟨g',by simp,hL⟩
   |succ i=>obtain⟨r',q1,q2⟩:=h6 i r (by simpa using hi);exact⟨r',by simpa using q1,q2⟩
theorem LC.atom{t t':Ty}{g:t.G}{g':t'.G}(hs:t.same t'=true)(hc:cl t' g'=cl t g)(h:∀a p,tyAt t' (a::p)=none):LC t t' g g':=fun ad p u hu s hl=>by
 cases p with
 |nil=>exact LC.nil hs hc hu hl
 |cons a p=>rw[h a p]at hu;cases hu
theorem convL:∀{t t':Ty} (h:t.sub t'=true) (g:t.G),∃g' dr,ConvG t t' h g g' dr∧LC t t' g g':=by
 intro t
 induction t with
 |pair a b iha ihb=>
  intro t' h g
  cases t'<;>first|(cases h;done)|skip
  rename_i c d
  have h':=h
  simp only[Ty.sub,Bool.and_eq_true]at h'
  obtain⟨g1,d1,c1,L1⟩:=iha h'.1 g.1
  obtain⟨g2,d2,c2,L2⟩:=ihb h'.2 g.2
  have C:ConvG (.pair a b) (.pair c d) h g (g1,g2) (d1++d2):=by
   refine⟨perm_swap4 c1.perm c2.perm,by simp[cl,c1.cl,c2.cl], ?_, ?_⟩
   ·rw[cast_pair (Ty.same_D (Ty.sub_same h'.1)) (Ty.same_D (Ty.sub_same h'.2))]
    simp only[er,c1.er,c2.er]
   ·intro w KS KS' hs hd hg
    exact⟨c1.ok w KS KS' hs (fun b hb=>hd b (by simp[hb])) hg.1,c2.ok w KS KS' hs (fun b hb=>hd b (by simp[hb])) hg.2⟩
  refine⟨(g1,g2),d1++d2,C,fun ad p u hu s hl=> ?_⟩
  cases p with
  |nil=>exact LC.nil (Ty.sub_same h) C.cl hu hl
  |cons st p=>
   cases st with
   |L=>exact L1 ad p u hu s hl
   |R=>
    have:=L2 (ad.map (Addr.plus · a.sz)) p u hu s hl
    rw[Ty.same_sz (Ty.sub_same h'.1)]at this
    exact this
   |I i=>cases hl
   |A i=>cases hl
 |arr n t ih=>
  intro t' h g
  cases t'<;>first|(cases h;done)|skip
  rename_i n' v
  have h':=h
  simp only[Ty.sub,Bool.and_eq_true]at h'
  obtain rfl:n=n':=Nat.eq_of_beq_eq_true h'.1
  obtain⟨rows',dr,h1,h2,h3,h4,h5,h6⟩:=convRowsL h'.2 (fun g=>ih h'.2 g) g
  have C:ConvG (.arr n t) (.arr n v) h g rows' dr:=⟨h1,h3,h4 _,fun w KS KS' hs hd hg=>⟨by rw[h2];exact hg.1,h5 w KS KS' hs hd hg.2⟩⟩
  refine⟨rows',dr,C,fun ad p u hu s hl=> ?_⟩
  cases p with
  |nil=>exact LC.nil (Ty.sub_same h) C.cl hu hl
  |cons st p=>
   cases st with
   |A i=>
    simp only[loc]at hl ⊢
    split at hl
    ·rename_i r hr
     obtain⟨r',q1,q2⟩:=h6 i r hr
     have:=q2 _ p u hu s hl
     rw[Ty.same_sz (Ty.sub_same h'.2)]at this
     rw[show(rows':List v.G)[i]? =some r' from q1]
     exact this
    ·cases hl
   |L=>cases hl
   |R=>cases hl
   |I i=>cases hl
 |list o t ih=>
  intro t' h g
  cases t'<;>first|(cases h;done)|skip
  rename_i o' v
  cases o' with
  |true=>
   have h':=h
   simp only[Ty.sub,Bool.not_true,Bool.false_or,Bool.and_eq_true]at h'
   obtain⟨rfl,hT,h'⟩:=h'
   obtain⟨rows',dr,h1,h2,h3,h4,h5,h6⟩:=convRowsL h' (fun g=>ih h' g) g.rows
   have C:ConvG (.list true t) (.list true v) h g ⟨g.ad,g.cap,rows'⟩ (if g.ad.isSome∧g.cap≠0 then dr else []):=by
    refine⟨?_,by simp[cl,h2],h4 _, ?_⟩
    ·cases hg:g.ad with
     |none=>simp[fp,hg]
     |some a=>
      by_cases hc:g.cap=0
      ·simp[fp,hg,hc]
      ·simp only[fp,hg,hc,if_false,Option.isSome_some,ne_eq,not_false_eq_true,and_self,if_true,List.cons_append]
       exact List.Perm.cons _ h1
    ·intro w KS KS' hs hd hg
     rcases hg with⟨h6,h7⟩|⟨b,rest,e1,e2,e3,e4,e5,e6⟩
     ·refine .inl ⟨h6, ?_⟩
      have:rows'.length=0:=by rw[h2,h7];rfl
      exact List.eq_nil_of_length_eq_zero this
     ·have hne:g.cap≠0:=by omega
      have hsz:v.sz=t.sz:=(Ty.same_sz (Ty.sub_same h')).symm
      refine .inr ⟨b,rest,e1,e2,⟨by simpa[h2]using e3.1,fun ht hr=>e3.2 (by simpa[ht]using hT) (List.eq_nil_of_length_eq_zero (by rw[←h2];exact congrArg List.length hr))⟩,by rw[h3];exact e4,by rw[h3,e5,hsz], ?_⟩
      refine h5 w KS KS' hs (fun b' hb'=>hd b' ?_) e6
      simp[e1,hne,hb']
   refine⟨⟨g.ad,g.cap,rows'⟩,_,C,fun ad p u hu s hl=> ?_⟩
   cases p with
   |nil=>exact LC.nil (Ty.sub_same h) C.cl hu hl
   |cons st p=>
    cases st with
    |I i=>
     simp only[loc]at hl ⊢
     split at hl
     ·rename_i r hr
      obtain⟨r',q1,q2⟩:=h6 i r hr
      have:=q2 _ p u hu s hl
      rw[Ty.same_sz (Ty.sub_same h')]at this
      rw[q1]
      exact this
     ·cases hl
    |L=>cases hl
    |R=>cases hl
    |A i=>cases hl
  |false=>
   obtain⟨g',dr,C⟩:=convG h g
   exact⟨g',dr,C,LC.atom (Ty.sub_same h) C.cl (fun a p=>by cases a<;>rfl)⟩
 |unit=>
  intro t' h g
  obtain⟨g',dr,C⟩:=convG h g
  exact⟨g',dr,C,LC.atom (Ty.sub_same h) C.cl (fun a p=>by cases t'<;>first|(cases h;done)|(cases a<;>rfl))⟩
 |bool=>
  intro t' h g
  obtain⟨g',dr,C⟩:=convG h g
  exact⟨g',dr,C,LC.atom (Ty.sub_same h) C.cl (fun a p=>by cases t'<;>first|(cases h;done)|(cases a<;>rfl))⟩
 |str=>
  intro t' h g
  obtain⟨g',dr,C⟩:=convG h g
  exact⟨g',dr,C,LC.atom (Ty.sub_same h) C.cl (fun a p=>by cases t'<;>first|(cases h;done)|(cases a<;>rfl))⟩
 |int k=>
  intro t' h g
  obtain⟨g',dr,C⟩:=convG h g
  exact⟨g',dr,C,LC.atom (Ty.sub_same h) C.cl (fun a p=>by cases t'<;>first|(cases h;done)|(cases a<;>rfl))⟩
 |gone n=>
  intro t' h g
  obtain⟨g',dr,C⟩:=convG h g
  exact⟨g',dr,C,LC.atom (Ty.sub_same h) C.cl (fun a p=>by cases t'<;>first|(cases h;done)|(cases a<;>rfl))⟩
 |ptr t ih=>
  intro t' h g
  obtain⟨g',dr,C⟩:=convG h g
  exact⟨g',dr,C,LC.atom (Ty.sub_same h) C.cl (fun a p=>by cases t'<;>first|(cases h;done)|(cases a<;>rfl))⟩
 |ti=>
  intro t' h g
  obtain⟨g',dr,C⟩:=convG h g
  exact⟨g',dr,C,LC.atom (Ty.sub_same h) C.cl (fun a p=>by cases t'<;>first|(cases h;done)|(cases a<;>rfl))⟩
end
section
structure Ent where
 n:Nat
 re:Bool
 t:Ty
 g:t.G
 ad:Option Addr
 r:Nat
 dr:List Nat:=[]
def Ent.blks(x:Ent):List Nat:=(x.ad.map (·.block)).toList++fp x.t x.g
def entRoots:List Ent→Roots
 |[]=>[]
 |x::l=>(x.n,some (.data x.re x.t (er x.t x.g) none))::entRoots l
def findE:List Ent→Nat→Option Ent
 |[],_=>none
 |x::l,n=>if Nat.beq x.n n then some x else findE l n
def entEnv(l:List Ent):GEnv:={gr:=fun n=>(findE l n).map fun x=>⟨x.ad,x.t,x.g⟩,ala:=fun _=>default,pv:=fun _=>undef,pb:=fun _=>[]}
theorem getB_ents:∀(l:List Ent) (n:Nat),getB (entRoots l) n=(findE l n).map fun x=> .data x.re x.t (er x.t x.g) none
 |[],_=>rfl
 |x::l,n=>by
  simp only[entRoots,getB,findE]
  split
  ·rfl
  ·exact getB_ents l n
theorem findE_some:∀{l:List Ent} {n:Nat} {x:Ent},findE l n=some x→x∈l∧x.n=n
 |y::l,n,x,h=>by
  simp only[findE]at h
  split at h
  ·rename_i hb
   injection h with h;subst h
   exact⟨by simp,Nat.eq_of_beq_eq_true hb⟩
  ·obtain⟨h1,h2⟩:=findE_some h
   exact⟨by simp[h1],h2⟩
theorem findE_mem:∀{l:List Ent},(l.map (·.n)).Nodup→∀x∈l,findE l x.n=some x
 |y::l,hn,x,h=>by
  simp only[List.map_cons,List.nodup_cons]at hn
  simp only[findE]
  rcases List.mem_cons.1 h with rfl|h
  ·simp[Nat.beq_refl]
  ·have hne:y.n≠x.n:=fun e=>hn.1 (List.mem_map.2 ⟨x,h,e.symm⟩)
   rw[if_neg (fun hb=>hne (Nat.eq_of_beq_eq_true hb))]
   exact findE_mem hn.2 x h
structure EntsOK (c:Ctx) (KS KS':Nat→Prop) (e:GEnv) (ρ:Roots) (w:World) (l:List Ent):Prop where
 nd:(l.map (·.n)).Nodup
 ok:∀x∈l,okG w KS' x.t x.g∧(x.re=true→∃A,x.ad=some A∧RowAt w A (cl x.t x.g))∧(x.re=false→x.ad=none)∧x.blks.Nodup∧∀b∈x.blks,b∈blk ρ e x.r∧¬KS' b
 dj:∀x∈l,∀y∈l,x.n≠y.n→∀b∈x.blks,b∉y.blks
 ks:∀b,KS b→KS' b
 ksn:∀b,KS' b→KS b∨∃m,b∈blk ρ e m∧∀A,c.pin m=some A→A.block≠b
 mv:∀x∈l,x.r≠x.n→∀A,c.pin x.r≠some A
 pin:∀x∈l,∀A,c.pin x.n=some A→x.ad=some A∧∀o,A.off≤o→o<A.off+x.t.sz→c.FT A.block o
 hdr:∀x∈l,∀hh,c.hdr x.n=some hh→∃te,∃gl:OwnL te.G,(⟨x.ad,x.t,x.g⟩:GRoot)=⟨none,.list true te,gl⟩∧hh=(gl.ad,gl.rows.length,gl.cap)
theorem blk_ents{l:List Ent}{n:Nat}:blk (entRoots l) (entEnv l) n=match findE l n with|some x=>x.blks|none=>[]:=by
 simp only[blk,getB_ents,entEnv]
 cases h:findE l n with
 |none=>simp
 |some x=>simp[Ent.blks]
section
variable {c:Ctx} {KS KS':Nat→Prop} {e:GEnv} {F F2:Fs} {ρ:Roots} {w:World} {l:List Ent}
theorem Inv.rebuild(h:Inv c KS e F ρ w)(H:EntsOK c KS KS' e ρ w l)(hF:∀p∈F2,∀t,RVok w KS' (entRoots l) (entEnv l) (getR p.1 t) (p.2.eval (.tmp t))):Inv c KS' (entEnv l) F2 (entRoots l) w:=by
 have hb:∀n b,b∈blk (entRoots l) (entEnv l) n→∃x,findE l n=some x∧x∈l∧x.n=n∧b∈x.blks:=fun n b hb=>by
  rw[blk_ents]at hb
  cases hf:findE l n with
  |none=>rw[hf]at hb;cases hb
  |some x=>rw[hf]at hb;exact⟨x,rfl,(findE_some hf).1,(findE_some hf).2,hb⟩
 refine⟨hF, ?_, ?_, ?_, ?_, ?_, ?_, ?_, ?_, ?_, ?_,h.fr⟩
 ·intro n
  simp only[RootOK,getB_ents]
  cases hf:findE l n with
  |none=>trivial
  |some x=>
   obtain⟨hx,hn⟩:=findE_some hf
   obtain⟨q1,q2,q3,_⟩:=H.ok x hx
   exact⟨x.ad,x.g,by simp[entEnv,hf],rfl,q1,q2,q3,rfl⟩
 ·intro n
  rw[blk_ents]
  cases hf:findE l n with
  |none=>simp
  |some x=>exact(H.ok x (findE_some hf).1).2.2.2.1
 ·intro n m hnm b hb1 hb2
  obtain⟨x,_,hx,hxn,hbx⟩:=hb n b hb1
  obtain⟨y,_,hy,hyn,hby⟩:=hb m b hb2
  exact H.dj x hx y hy (by rw[hxn,hyn];exact hnm) b hbx hby
 ·intro n b hb1
  obtain⟨x,_,hx,hxn,hbx⟩:=hb n b hb1
  exact((H.ok x hx).2.2.2.2 b hbx).2
 ·intro b hk
  rcases H.ksn b hk with h1|⟨m,h1,_⟩
  ·exact h.lt b h1
  ·exact h.blt m b h1
 ·intro n b hb1
  obtain⟨x,_,hx,hxn,hbx⟩:=hb n b hb1
  exact h.blt _ b ((H.ok x hx).2.2.2.2 b hbx).1
 ·intro n b hb1
  obtain⟨x,_,hx,hxn,hbx⟩:=hb n b hb1
  rcases h.may _ b ((H.ok x hx).2.2.2.2 b hbx).1 with h1|h1|⟨A,h1,h2⟩
  ·exact .inl h1
  ·exact .inr (.inl h1)
  ·by_cases hr:x.r=x.n
   ·rw[hr,hxn]at h1;exact .inr (.inr ⟨A,h1,h2⟩)
   ·exact absurd h1 (H.mv x hx hr A)
 ·intro n A hA
  refine⟨fun q hq=> ?_,fun re t x pd hd=> ?_⟩
  ·rw[getB_ents]at hq
   cases hf:findE l n with
   |none=>rw[hf]at hq;cases hq
   |some x=>rw[hf]at hq;cases hq
  ·rw[getB_ents]at hd
   cases hf:findE l n with
   |none=>rw[hf]at hd;cases hd
   |some y=>
    rw[hf]at hd;cases hd
    obtain⟨hy,hyn⟩:=findE_some hf
    obtain⟨q1,q2⟩:=H.pin y hy A (by rw[hyn];exact hA)
    exact⟨⟨y.g,by simp[entEnv,hf,q1]⟩,q2⟩
 ·intro n hh hq re t x pd hd
  rw[getB_ents]at hd
  cases hf:findE l n with
  |none=>rw[hf]at hd;cases hd
  |some y=>
   rw[hf]at hd;cases hd
   obtain⟨hy,hyn⟩:=findE_some hf
   obtain⟨te,gl,q1,q2⟩:=H.hdr y hy hh (by rw[hyn];exact hq)
   exact⟨te,gl,by simp[entEnv,hf,q1],q2⟩
 ·intro b hk
  rcases H.ksn b hk with h1|⟨m,h1,h2⟩
  ·exact h.kso b h1
  ·rcases h.may m b h1 with h3|h3|⟨A,h3,h4⟩
   ·exact .inr (.inl h3)
   ·exact .inr (.inr h3)
   ·exact absurd h4 (h2 A h3)
def Linked(e:GEnv)(ρ:Roots)(x:Ent):Prop:=hasData ρ x.r∧∃G,e.gr x.r=some G∧x.ad=G.ad∧LC G.t x.t G.g x.g
theorem placeOK_some{f:Ty→Bool}{q:Place}(h:placeOK (entRoots l) f q=true):∃x u,findE l q.r=some x∧tyAt x.t q.π=some u∧f u=true:=by
 unfold placeOK at h
 rw[getB_ents]at h
 cases hf:findE l q.r with
 |none=>rw[hf]at h;cases h
 |some x=>
  rw[hf]at h
  simp only[Option.map_some]at h
  cases hu:tyAt x.t q.π with
  |none=>rw[hu]at h;cases h
  |some u=>rw[hu]at h;exact⟨x,u,rfl,hu,h⟩
theorem rfOK_some{q:Place}(h:rfOK (entRoots l) q=true):∃x u,findE l q.r=some x∧tyAt x.t q.π=some u:=by
 unfold rfOK at h
 rw[getB_ents]at h
 cases hf:findE l q.r with
 |none=>rw[hf]at h;cases h
 |some x=>
  rw[hf]at h
  simp only[Option.map_some,Bool.and_eq_true]at h
  obtain⟨u,hu⟩:=Option.isSome_iff_exists.1 h.2
  exact⟨x,u,rfl,hu⟩
theorem linked_spot{p:Place}{n':Nat}{x:Ent}(hf:findE l n'=some x)(hr:x.r=p.r)(hL:Linked e ρ x){s:Spot}(hs:spotD e p=some s){u:Ty}(hu:tyAt x.t p.π=some u):
  hasData (entRoots l) n'∧∃s',spotD (entEnv l) ⟨n',p.π⟩=some s'∧s'.ad=s.ad∧s'.t=u∧s.t.same u=true∧cl s'.t s'.g=cl s.t s.g:=by
 obtain⟨_,G,q1,q2,q3⟩:=hL
 rw[hr]at q1
 simp only[spotD,q1,Option.bind_some]at hs
 obtain⟨s',k1,k2⟩:=q3 _ _ _ hu _ hs
 refine⟨⟨x.re,x.t,er x.t x.g,none,by rw[getB_ents,hf];rfl⟩,s', ?_,k2⟩
 simp only[spotD,entEnv,hf,Option.map_some,Option.bind_some,q2]
 exact k1
mutual
theorem rvok_tr{m:List (Nat×Nat)}(hK:∀b,KS b→KS' b):∀(v:RV) (x:Value),RVok w KS ρ e v x→(∀r∈names v,∀y,findE l (renN m r)=some y→y.r=r∧Linked e ρ y)→there (entRoots l) (ren m v)=true→RVok w KS' (entRoots l) (entEnv l) (ren m v) x
 | .und,x,h,hn,ht=>trivial
 | .skipped,x,h,hn,ht=>h
 | .v _ _,x,h,hn,ht=>⟨h.1,h.2.imp fun cs hc=>⟨RepK.mono hK (fun _ _ _=>rfl) _ _ _ hc.1,hc.2⟩⟩
 | .nl,x,h,hn,ht=>h
 | .pn,x,h,hn,ht=>h
 | .wl p,x,h,hn,ht=>by
  obtain⟨y,u,hf,hu,hown⟩:=placeOK_some (q:=renP m p) (by simpa only[ren,there]using ht)
  obtain⟨q1,q2⟩:=hn p.r (by simp[names]) y hf
  obtain⟨_,te,g,ad,h2,h3⟩:=h
  obtain⟨k0,s',k1,k2,k3,k4,k5⟩:=linked_spot hf q1 q2 h2 hu
  obtain⟨st,sg,sa⟩:=s'
  simp only at k3;subst k3
  cases st<;>first|(cases hown;done)|skip
  rename_i o te'
  cases o with
  |false=>cases hown
  |true=>
   have k5':[Value.slice sg.ad sg.rows.length sg.cap]=[Value.slice g.ad g.rows.length g.cap]:=k5
   injection k5' with k5'
   exact⟨k0,te',sg,sa,k1,by rw[h3,k5']⟩
 | .vw p lo len,x,h,hn,ht=>by
  obtain⟨y,u,hf,hu,hown⟩:=placeOK_some (q:=renP m p) (by simpa only[ren,there]using ht)
  obtain⟨q1,q2⟩:=hn p.r (by simp[names]) y hf
  obtain⟨_,te,g,ad,h2,h3,ad2,h4,h5⟩:=h
  obtain⟨k0,s',k1,k2,k3,k4,k5⟩:=linked_spot hf q1 q2 h2 hu
  obtain⟨st,sg,sa⟩:=s'
  simp only at k3;subst k3
  cases st<;>first|(cases hown;done)|skip
  rename_i o te'
  cases o with
  |false=>cases hown
  |true=>
   have k5':[Value.slice sg.ad sg.rows.length sg.cap]=[Value.slice g.ad g.rows.length g.cap]:=k5
   injection k5' with k5'
   injection k5' with j1 j2 j3
   have hsz:te'.sz=te.sz:=(Ty.same_sz (a:=te) (b:=te') k4).symm
   exact⟨k0,te',sg,sa,k1,by rw[j2];exact h3,ad2,by rw[j1,j3,hsz];exact h4,by rw[h5,j3]⟩
 | .sv p,x,h,hn,ht=>by
  obtain⟨y,u,hf,hu,hown⟩:=placeOK_some (q:=renP m p) (by simpa only[ren,there]using ht)
  obtain⟨q1,q2⟩:=hn p.r (by simp[names]) y hf
  obtain⟨_,s,h2,h3,h4⟩:=h
  obtain⟨k0,s',k1,k2,k3,k4,k5⟩:=linked_spot hf q1 q2 h2 hu
  subst k3
  refine⟨k0,s',k1,by simpa using hown, ?_⟩
  rw[h4,←k5,val_same k4]
 | .rf p,x,h,hn,ht=>by
  obtain⟨y,u,hf,hu⟩:=rfOK_some (q:=renP m p) (by simpa only[ren,there]using ht)
  obtain⟨q1,q2⟩:=hn p.r (by simp[names]) y hf
  obtain⟨s,A,h2,h3,h4⟩:=h
  have hd:hasData ρ p.r:=by rw[←q1];exact q2.1
  rw[spotOf_data hd]at h2
  obtain⟨k0,s',k1,k2,k3,k4,k5⟩:=linked_spot hf q1 q2 h2 hu
  refine⟨s',A, ?_,by rw[k2,h3],h4⟩
  exact(spotOf_data (p:=⟨renN m p.r,p.π⟩) k0).trans k1
 | .ap p,x,h,hn,ht=>by simp[ren,there]at ht
 | .fn f caps,x,h,hn,ht=>by
  obtain⟨vs,h1,h2⟩:=h
  exact⟨vs,h1,rvoks_tr hK caps vs h2 (fun r hr=>hn r (by simpa only[names]using hr)) (by simpa only[ren,there]using ht)⟩
 | .fb f caps,x,h,hn,ht=>by
  obtain⟨a,vs,h1,h2,h3,h4,h5⟩:=h
  exact⟨a,vs,h1,h2,hK _ h3,h4,rvoks_tr hK caps vs h5 (fun r hr=>hn r (by simpa only[names]using hr)) (by simpa only[ren,there]using ht)⟩
 | .tp ls,x,h,hn,ht=>by
  obtain⟨vs,h1,h2⟩:=h
  exact⟨vs,h1,rvoks_tr hK ls vs h2 (fun r hr=>hn r (by simpa only[names]using hr)) (by simpa only[ren,there]using ht)⟩
theorem rvoks_tr{m:List (Nat×Nat)}(hK:∀b,KS b→KS' b):∀(ls:List RV) (vs:List Value),RVoks w KS ρ e ls vs→(∀r∈namesL ls,∀y,findE l (renN m r)=some y→y.r=r∧Linked e ρ y)→theres (entRoots l) (renL m ls)=true→RVoks w KS' (entRoots l) (entEnv l) (renL m ls) vs
 |[],vs,h,hn,ht=>h
 |v::ls,vs,h,hn,ht=>by
  obtain⟨x,vs',h0,h1,h2⟩:=h
  simp only[renL,theres,Bool.and_eq_true]at ht
  exact⟨x,vs',h0,rvok_tr hK v x h1 (fun r hr=>hn r (by simp[namesL,hr])) ht.1,rvoks_tr hK ls vs' h2 (fun r hr=>hn r (by simp[namesL,hr])) ht.2⟩
end
mutual
theorem ren_nil:∀v:RV,ren [] v=v
 | .und| .skipped| .v _ _| .nl| .pn=>rfl
 | .wl p| .vw p _ _| .sv p| .rf p| .ap p=>by simp[ren,renP,renN]
 | .fn f c| .fb f c=>by simp[ren,renL_nil c]
 | .tp l=>by simp[ren,renL_nil l]
theorem renL_nil:∀l:List RV,renL [] l=l
 |[]=>rfl
 |v::l=>by simp[renL,ren_nil v,renL_nil l]
end
theorem getR_sweep(ρ:Roots):∀(g:Regs) (t:Nat),getR (sweep ρ g) t=if there ρ (getR g t)then getR g t else .und
 |[],t=>by
  show RV.und=if there ρ RV.und then RV.und else RV.und
  cases there ρ RV.und<;>rfl
 |(n,v)::g,t=>by
  simp only[sweep,getR]
  split
  ·rfl
  ·exact getR_sweep ρ g t
end
end
section
def Convs:List Dyn→List Dyn→Prop
 |[],[]=>True
 |d::ds,d'::ds'=>conv d.1 d'.1 d.2=some d'.2∧Convs ds ds'
 |_,_=>False
theorem packD_ok:∀(ts:List Ty) (ds:List Dyn) (d:(mkT ts).D),(packD ts ds).run=some d→Convs ds (unD ts d)∧(unD ts d).map (·.1)=ts
 |[],[],d,h=>⟨trivial,rfl⟩
 |[t],[x],d,h=>by
  simp only[packD]at h
  replace h:=Cm.run_get h;obtain⟨y,hy,h⟩:=h
  injection h with h;subst h
  exact⟨⟨hy,trivial⟩,rfl⟩
 |t::u::ts,x::ds,d,h=>by
  simp only[packD]at h
  replace h:=Cm.run_get h;obtain⟨y,hy,h⟩:=h
  replace h:=Cm.run_bind_some h;obtain⟨z,hz,h⟩:=h
  injection h with h;subst h
  obtain⟨q1,q2⟩:=packD_ok (u::ts) ds z hz
  exact⟨⟨hy,q1⟩,by simp only[unD,List.map_cons,q2]⟩
 |[],_::_,d,h=>by cases h
 |[_],[],d,h=>by cases h
 |[_],_::_::_,d,h=>by cases h
 |_::_::_,[],d,h=>by cases h
theorem Convs.split:∀{a b c:List Dyn},Convs (a++b) c→∃c1 c2,c=c1++c2∧Convs a c1∧Convs b c2
 |[],b,c,h=>⟨[],c,rfl,trivial,h⟩
 |x::a,b,[],h=>h.elim
 |x::a,b,y::c,h=>by
  obtain⟨c1,c2,rfl,h1,h2⟩:=Convs.split (a:=a) h.2
  exact⟨y::c1,c2,rfl,⟨h.1,h1⟩,h2⟩
mutual
theorem rvEq_ok:∀{x y:RV} {u:Unit},(rvEq x y).run=some u→x=y
 | .rf p,.rf q,u,h| .wl p,.wl q,u,h| .sv p,.sv q,u,h=>by
  unfold rvEq placeEq at h
  replace h:=Cm.run_chk h;obtain⟨h1,h2⟩:=h
  obtain⟨pr,pπ⟩:=p
  obtain⟨qr,qπ⟩:=q
  have e1:pr=qr:=Nat.eq_of_beq_eq_true h1
  have e2:pπ=qπ:=pathEq_ok h2
  rw[e1,e2]
 | .vw p a n,.vw q b m,u,h=>by
  unfold rvEq placeEq at h
  replace h:=Cm.run_ask h;obtain⟨⟨h3,h4⟩,h⟩:=h
  replace h:=Cm.run_chk h;obtain⟨h1,h2⟩:=h
  obtain⟨pr,pπ⟩:=p
  obtain⟨qr,qπ⟩:=q
  have e1:pr=qr:=Nat.eq_of_beq_eq_true h1
  have e2:pπ=qπ:=pathEq_ok h2
  rw[e1,e2,h3,h4]
 | .nl,.nl,u,h=>rfl
 | .pn,.pn,u,h=>rfl
 | .fn f c,.fn f' c',u,h=>by
  unfold rvEq at h
  replace h:=Cm.run_chk h;obtain⟨h1,h2⟩:=h
  rw[Nat.eq_of_beq_eq_true h1,rvsEq_ok h2]
 | .fb f c,.fb f' c',u,h=>by
  unfold rvEq at h
  replace h:=Cm.run_chk h;obtain⟨h1,h2⟩:=h
  rw[Nat.eq_of_beq_eq_true h1,rvsEq_ok h2]
 | .und,y,u,h| .skipped,y,u,h| .v _ _,y,u,h| .ap _,y,u,h| .tp _,y,u,h=>by cases y<;>cases h
 | .rf _,.und,u,h| .rf _,.skipped,u,h| .rf _,.v _ _,u,h| .rf _,.nl,u,h| .rf _,.pn,u,h| .rf _,.wl _,u,h| .rf _,.vw _ _ _,u,h| .rf _,.sv _,u,h| .rf _,.ap _,u,h| .rf _,.fn _ _,u,h| .rf _,.fb _ _,u,h| .rf _,.tp _,u,h=>by cases h
 | .wl _,.und,u,h| .wl _,.skipped,u,h| .wl _,.v _ _,u,h| .wl _,.nl,u,h| .wl _,.pn,u,h| .wl _,.rf _,u,h| .wl _,.vw _ _ _,u,h| .wl _,.sv _,u,h| .wl _,.ap _,u,h| .wl _,.fn _ _,u,h| .wl _,.fb _ _,u,h| .wl _,.tp _,u,h=>by cases h
 | .sv _,.und,u,h| .sv _,.skipped,u,h| .sv _,.v _ _,u,h| .sv _,.nl,u,h| .sv _,.pn,u,h| .sv _,.wl _,u,h| .sv _,.vw _ _ _,u,h| .sv _,.rf _,u,h| .sv _,.ap _,u,h| .sv _,.fn _ _,u,h| .sv _,.fb _ _,u,h| .sv _,.tp _,u,h=>by cases h
 | .vw _ _ _,.und,u,h| .vw _ _ _,.skipped,u,h| .vw _ _ _,.v _ _,u,h| .vw _ _ _,.nl,u,h| .vw _ _ _,.pn,u,h| .vw _ _ _,.wl _,u,h| .vw _ _ _,.rf _,u,h| .vw _ _ _,.sv _,u,h| .vw _ _ _,.ap _,u,h| .vw _ _ _,.fn _ _,u,h| .vw _ _ _,.fb _ _,u,h| .vw _ _ _,.tp _,u,h=>by cases h
 | .nl,.und,u,h| .nl,.skipped,u,h| .nl,.v _ _,u,h| .nl,.rf _,u,h| .nl,.pn,u,h| .nl,.wl _,u,h| .nl,.vw _ _ _,u,h| .nl,.sv _,u,h| .nl,.ap _,u,h| .nl,.fn _ _,u,h| .nl,.fb _ _,u,h| .nl,.tp _,u,h=>by cases h
 | .pn,.und,u,h| .pn,.skipped,u,h| .pn,.v _ _,u,h| .pn,.rf _,u,h| .pn,.nl,u,h| .pn,.wl _,u,h| .pn,.vw _ _ _,u,h| .pn,.sv _,u,h| .pn,.ap _,u,h| .pn,.fn _ _,u,h| .pn,.fb _ _,u,h| .pn,.tp _,u,h=>by cases h
 | .fn _ _,.und,u,h| .fn _ _,.skipped,u,h| .fn _ _,.v _ _,u,h| .fn _ _,.rf _,u,h| .fn _ _,.nl,u,h| .fn _ _,.wl _,u,h| .fn _ _,.vw _ _ _,u,h| .fn _ _,.sv _,u,h| .fn _ _,.ap _,u,h| .fn _ _,.pn,u,h| .fn _ _,.fb _ _,u,h| .fn _ _,.tp _,u,h=>by cases h
 | .fb _ _,.und,u,h| .fb _ _,.skipped,u,h| .fb _ _,.v _ _,u,h| .fb _ _,.rf _,u,h| .fb _ _,.nl,u,h| .fb _ _,.wl _,u,h| .fb _ _,.vw _ _ _,u,h| .fb _ _,.sv _,u,h| .fb _ _,.ap _,u,h| .fb _ _,.fn _ _,u,h| .fb _ _,.pn,u,h| .fb _ _,.tp _,u,h=>by cases h
theorem rvsEq_ok:∀{x y:List RV} {u:Unit},(rvsEq x y).run=some u→x=y
 |[],[],u,h=>rfl
 |x::xs,y::ys,u,h=>by
  unfold rvsEq at h
  replace h:=Cm.run_bind_some h;obtain⟨v,h1,h2⟩:=h
  rw[rvEq_ok h1,rvsEq_ok h2]
 |[],_::_,u,h=>by cases h
 |_::_,[],u,h=>by cases h
end
structure POK (c:Ctx) (KS:Nat→Prop) (e:GEnv) (ρ:Roots) (w:World) (x:Ent):Prop where
 ok:∀KS',(∀b,KS b→KS' b)→(∀b∈x.dr,KS' b)→okG w KS' x.t x.g
 nd:(x.blks++x.dr).Nodup
 sub:∀b∈x.blks++x.dr,b∈blk ρ e x.r
 npin:∀b∈x.dr,∀A,c.pin x.r=some A→A.block≠b
 row:x.re=true→∃A,x.ad=some A∧RowAt w A (cl x.t x.g)
 row':x.re=false→x.ad=none
section
variable {c:Ctx} {KS KS':Nat→Prop} {e:GEnv} {F F2:Fs} {ρ ρ0:Roots} {w:World} {l:List Ent}
theorem pok_of_spot(h:Inv c KS e F ρ0 w){r:Nat}{tr:Ty}{y:tr.D}{pd:Option (Path×(te:Ty)×List te.D)}(hb:getB ρ0 r=some (.data false tr y pd)){π:Path}{s:Spot}(hs:spotD e ⟨r,π⟩=some s){t':Ty}{z:t'.D}(hc:conv s.t t' (er s.t s.g)=some z)(nm:Nat):
  ∃g' dr,POK c KS e ρ0 w ⟨nm,false,t',g',none,r,dr⟩∧er t' g'=z∧s.t.same t'=true∧cl t' g'=cl s.t s.g∧LC s.t t' s.g g':=by
 obtain⟨hs',rfl⟩:=conv_some hc
 obtain⟨g',dr,C,L⟩:=convL hs' s.g
 obtain⟨ad,g,q1,q2,q3,q4,q5,q6⟩:=h.root hb
 simp only[spotD,q1,Option.bind_some]at hs
 have hL:=locG π tr g ad s hs (fun A hA=>(q4 A hA).2.1) q3
 obtain⟨rest,hpr,_⟩:=hL.perm
 have nd:=h.nd r
 rw[q6]at nd
 have nd1:=(List.nodup_append.1 nd).1
 have nd2:=(List.nodup_append.1 nd1).2.1
 have nds:=(List.nodup_append.1 (nodup_perm hpr nd2)).1
 have hmem:∀b∈fp t' g'++dr,b∈fp s.t s.g:=fun b hb=>C.perm.mem_iff.2 hb
 refine⟨g',dr,⟨fun KS' hK hd=>C.ok w KS KS' hK hd hL.ok, ?_, ?_, ?_,(fun h=>by cases h),fun _=>rfl⟩,C.er,Ty.sub_same hs',C.cl,L⟩
 ·simpa[Ent.blks]using nodup_perm C.perm nds
 ·intro b hb1
  have:b∈fp t' g'++dr:=by simpa[Ent.blks]using hb1
  rw[q6];simp[hL.sub b (hmem b this)]
 ·intro b hb1 A hA
  exact absurd hA (h.nopin hb A)
theorem pok_of_root(h:Inv c KS e F ρ0 w){r:Nat}{re:Bool}{tr:Ty}{y:tr.D}{pd:Option (Path×(te:Ty)×List te.D)}(hb:getB ρ0 r=some (.data re tr y pd)){t':Ty}{z:t'.D}(hc:conv tr t' y=some z):
  ∃g' ad dr,POK c KS e ρ0 w ⟨r,re,t',g',ad,r,dr⟩∧er t' g'=z∧tr.same t'=true∧Linked e ρ0 ⟨r,re,t',g',ad,r,dr⟩∧∃g,e.gr r=some ⟨ad,tr,g⟩∧cl t' g'=cl tr g:=by
 obtain⟨hs',rfl⟩:=conv_some hc
 obtain⟨ad,g,q1,q2,q3,q4,q5,q6⟩:=h.root hb
 subst q2
 obtain⟨g',dr,C,L⟩:=convL hs' g
 have nd:=h.nd r
 rw[q6]at nd
 have nd1:=(List.nodup_append.1 nd).1
 have nd2:=List.nodup_append.1 nd1
 have hmem:∀b∈fp t' g'++dr,b∈fp tr g:=fun b hb=>C.perm.mem_iff.2 hb
 have hpin:∀A,c.pin r=some A→ad=some A:=fun A hA=>by
  obtain⟨_,h2⟩:=h.pin r A hA
  obtain⟨⟨g2,h3⟩,_⟩:=h2 _ _ _ _ hb
  rw[q1]at h3
  injection h3 with h3
  exact congrArg GRoot.ad h3
 refine⟨g',ad,dr,⟨fun KS' hK hd=>C.ok w KS KS' hK hd q3, ?_, ?_, ?_, ?_, ?_⟩,C.er,Ty.sub_same hs',⟨⟨re,tr,_,pd,hb⟩,_,q1,rfl,L⟩,g,q1,C.cl⟩
 ·simp only[Ent.blks,List.append_assoc]
  refine List.nodup_append.2 ⟨nd2.1,nodup_perm C.perm nd2.2.1,fun a ha b hb e0=> ?_⟩
  subst e0
  exact nd2.2.2 a ha a (hmem a hb) rfl
 ·intro b hb1
  simp only[Ent.blks,List.append_assoc,List.mem_append]at hb1
  rw[q6]
  rcases hb1 with hb1|hb1
  ·simp only[List.mem_append];exact .inl (.inl hb1)
  ·have:=hmem b (List.mem_append.2 hb1);simp[this]
 ·intro b hb1 A hA e0
  have:=hpin A hA
  exact nd2.2.2 A.block (by rw[this];simp) b (hmem b (List.mem_append.2 (.inr hb1))) e0
 ·intro hre
  obtain⟨A,hA⟩:=q5 hre
  exact⟨A,hA,by show RowAt w A (cl t' g');rw[C.cl];exact(q4 A hA).2⟩
 ·intro hre
  cases had:ad with
  |none=>rfl
  |some A=>
   have:=(q4 A had).1
   have hre':re=false:=hre
   rw[hre']at this;cases this
end
end
section
theorem entRoots_app:∀a b:List Ent,entRoots (a++b)=entRoots a++entRoots b
 |[],b=>rfl
 |x::a,b=>by simp[entRoots,entRoots_app a b]
section
variable {c:Ctx} {KS KS':Nat→Prop} {e:GEnv} {F F2:Fs} {ρ ρ0:Roots} {w:World}
def RF(w:World)(KS:Nat→Prop)(ρ0:Roots)(e:GEnv)(m:List (Nat×Nat))(g:Regs)(ns:List Nat)(ents:List Ent)(n:Nat)(v:Value)(rv:RV):Prop:=
 (∃t x,rv= .v t x∧RVok w KS ρ0 e (.v t x) v)∨
 (∃x∈ents,((rv= .wl ⟨x.n,[]⟩∧x.t.isList=true)∨(rv= .sv ⟨x.n,[]⟩∧x.t.isList=false))∧v=val x.t (cl x.t x.g))∨
 (rv=ren m (getR g n)∧okRen m ns (getR g n)=true)
structure RegsP (c:Ctx) (KS:Nat→Prop) (e:GEnv) (ρ0:Roots) (w:World) (dep:Nat) (g:Regs) (a:Act) (m:List (Nat×Nat)) (ns:List Nat) (l:List (Nat×Sh)) (ρ ρ':Roots) (regs:Regs) (ents:List Ent):Prop where
 names:ents.map (·.n)=newNames dep l
 pok:∀x∈ents,POK c KS e ρ0 w x∧x.re=false∧∀A,c.pin x.r=some A→x.r=x.n
 src:∀x∈ents,x.blks++x.dr=[]∨(getB ρ x.r≠none∧getB ρ' x.r=none)
 pw:ents.Pairwise fun x y=>x.blks++x.dr=[]∨y.blks++y.dr=[]∨x.r≠y.r
 sub:∀n b,getB ρ' n=some b→getB ρ n=some b
 map:∀q∈renOf dep g l,∃x∈ents,x.n=q.2∧x.r=q.1∧Linked e ρ0 x
 regs:∀q∈regs,RF w KS ρ0 e m g ns ents q.1 (a.eval (.tmp q.1)) q.2
theorem RF.mono{m:List (Nat×Nat)}{g:Regs}{ns:List Nat}{ents ents':List Ent}(hs:∀x∈ents,x∈ents'){n:Nat}{v:Value}{rv:RV}(h:RF w KS ρ0 e m g ns ents n v rv):RF w KS ρ0 e m g ns ents' n v rv:=by
 rcases h with h|⟨x,hx,h⟩|h
 ·exact .inl h
 ·exact .inr (.inl ⟨x,hs x hx,h⟩)
 ·exact .inr (.inr h)
theorem val_list_cells{t t':Ty}(h:t.same t'=true){g:t.G}{g':t'.G}(hc:cl t' g'=cl t g):val t (cl t g)=val t' (cl t' g'):=by rw[hc,val_same h]
def KeyW(c:Ctx)(KS:Nat→Prop)(e:GEnv)(ρ0:Roots)(w:World)(g:Regs)(n dep:Nat)(d1:Dyn)(v:Value)(ρ rs:Roots):Prop:=
 ∃x:Ent,x.n=nameOf dep n+7∧x.re=false∧(⟨x.t,er x.t x.g⟩:Dyn)=d1∧POK c KS e ρ0 w x∧(∀A,c.pin x.r=some A→x.r=x.n)∧v=val x.t (cl x.t x.g)∧
     ((rs=[]∧x.blks++x.dr=[]∧wholeM (getR g n)=none)∨(∃r,rs=[(r,none)]∧x.r=r∧getB ρ r≠none∧(∀r',wholeM (getR g n)=some r'→r'=r∧Linked e ρ0 x)))
theorem packRegs_ok{g g0:Regs}{a:Act}{dep:Nat}{m0 m:List (Nat×Nat)}{ns:List Nat}(h:Inv c KS e ((g,a)::F) ρ0 w):∀(l:List (Nat×Sh)) (ρ:Roots),(∀n b,getB ρ n=some b→getB ρ0 n=some b)→∀ds ρ',(packRegs m0 m g0 g ρ l).run=some (ds,ρ')→
  ∀ds1 rest,Convs ds ds1→ds1.map (·.1)=l.map (·.2.t)→(l.all fun x=>match x.2 with| .v t=>t.shared|_=>true)=true→okRens m ns g l=true→
  ∃ents,(unRegs m0 g0 dep l (ds1++rest)).2.1=entRoots ents∧(unRegs m0 g0 dep l (ds1++rest)).2.2=rest∧RegsP c KS e ρ0 w dep g a m ns l ρ ρ' (unRegs m0 g0 dep l (ds1++rest)).1 ents
 |[],ρ,hρ,ds,ρ',hr,ds1,rest,hcv,hty,hsh,hok=>by
  injection hr with hr;cases hr
  cases ds1 with
  |cons _ _=>exact hcv.elim
  |nil=>exact⟨[],rfl,rfl,rfl,by simp,by simp,by simp,fun _ _ h=>h,by simp[renOf],by simp[unRegs]⟩
 |(n,.v t)::l,ρ,hρ,ds,ρ',hr,ds1,rest,hcv,hty,hsh,hok=>by
  simp only[packRegs]at hr
  replace hr:=Cm.run_bind_some hr;obtain⟨d,hd,hr⟩:=hr
  replace hr:=Cm.run_bind_some hr;obtain⟨⟨ds2,ρ2⟩,hr2,hr⟩:=hr
  injection hr with hr;cases hr
  cases ds1 with
  |nil=>exact hcv.elim
  |cons d1 ds1=>
   obtain⟨hc1,hcv⟩:=hcv
   simp only[List.map_cons,List.cons.injEq]at hty
   simp only[List.all_cons,Bool.and_eq_true]at hsh
   obtain⟨ents,e1,e2,R⟩:=packRegs_ok h l ρ hρ ds2 ρ2 hr2 ds1 rest hcv hty.2 hsh.2 hok
   refine⟨ents,e1,e2,⟨R.names,R.pok,R.src,R.pw,R.sub,R.map,fun q hq=> ?_⟩⟩
   simp only[unRegs,List.cons_append]at hq
   rcases List.mem_cons.1 hq with rfl|hq
   ·left
    refine⟨d1.1,d1.2,rfl, ?_⟩
    have hreg:=h.regs (g,a) (by simp) n
    have hdr:d1.1.shared=true:=by rw[hty.1];exact hsh.1
    obtain⟨hs,hcast⟩:=conv_some hc1
    unfold onlyV at hd
    split at hd
    ·rename_i t' x hv
     injection hd with hd;subst hd
     rw[hv]at hreg
     obtain⟨_,cs,k1,k2⟩:=hreg
     refine⟨hdr,cs, ?_,by rw[k2,val_same (Ty.sub_same hs)]⟩
     rw[hcast];exact repK_sub hs k1
    ·rename_i hv
     rw[hv]at hreg
     cases t<;>first|(cases hd;done)|skip
     injection hd with hd;subst hd
     have hv':a.eval (.tmp n)= .slice none 0 0:=hreg
     refine⟨hdr,[.slice none 0 0], ?_, ?_⟩
     ·rw[hcast]
      exact repK_sub hs (t:= .list false _) ⟨none,0,rfl,⟨Nat.le_refl _,fun _ _=>rfl⟩,.inl rfl⟩
     ·rw[hv',←val_same (Ty.sub_same hs)];rfl
    ·rename_i hv
     rw[hv]at hreg
     cases t<;>first|(cases hd;done)|skip
     injection hd with hd;subst hd
     have hv':a.eval (.tmp n)= .pointer none:=hreg
     refine⟨hdr,[.pointer none], ?_, ?_⟩
     ·rw[hcast]
      exact repK_sub hs (t:= .ptr _) (by rw[repK_ptr];rfl)
     ·rw[hv',←val_same (Ty.sub_same hs)];rfl
    ·cases hd
   ·exact R.regs q hq
 |(n,.keep)::l,ρ,hρ,ds,ρ',hr,ds1,rest,hcv,hty,hsh,hok=>by
  simp only[packRegs]at hr
  replace hr:=Cm.run_bind_some hr;obtain⟨u,hu,hr⟩:=hr
  replace hr:=Cm.run_bind_some hr;obtain⟨⟨ds2,ρ2⟩,hr2,hr⟩:=hr
  injection hr with hr;cases hr
  cases ds1 with
  |nil=>exact hcv.elim
  |cons d1 ds1=>
   obtain⟨hc1,hcv⟩:=hcv
   simp only[List.map_cons,List.cons.injEq]at hty
   simp only[List.all_cons,Bool.and_eq_true]at hsh
   simp only[okRens,Bool.and_eq_true]at hok
   obtain⟨ents,e1,e2,R⟩:=packRegs_ok h l ρ hρ ds2 ρ2 hr2 ds1 rest hcv hty.2 hsh.2 hok.2
   refine⟨ents,e1,e2,⟨R.names,R.pok,R.src,R.pw,R.sub,R.map,fun q hq=> ?_⟩⟩
   simp only[unRegs,List.cons_append]at hq
   rcases List.mem_cons.1 hq with rfl|hq
   ·exact .inr (.inr ⟨rvEq_ok hu,hok.1⟩)
   ·exact R.regs q hq
 |(n,.w t)::l,ρ,hρ,ds,ρ',hr,ds1,rest,hcv,hty,hsh,hok=>by
  simp only[packRegs]at hr
  replace hr:=Cm.run_bind_some hr;obtain⟨⟨d,rs⟩,hd,hr⟩:=hr
  replace hr:=Cm.run_bind_some hr;obtain⟨⟨ds2,ρ2⟩,hr2,hr⟩:=hr
  injection hr with hr;cases hr
  cases ds1 with
  |nil=>exact hcv.elim
  |cons d1 ds1=>
   obtain⟨hc1,hcv⟩:=hcv
   simp only[List.map_cons,List.cons.injEq]at hty
   simp only[List.all_cons,Bool.and_eq_true]at hsh
   have hreg:=h.regs (g,a) (by simp) n
   -- the new root, and which root goes
   have key:KeyW c KS e ρ0 w g n dep d1 (a.eval (.tmp n)) ρ rs:=by
    have place:∀{p:Place} {tr:Ty} {y:tr.D} {pd:Option (Path×(te:Ty)×List te.D)},getB ρ p.r=some (.data false tr y pd)→(rd tr y p.π).run=some d→rs=[(p.r,none)]→(∀s,spotD e p=some s→a.eval (.tmp n)=val s.t (cl s.t s.g))→(∀r',wholeM (getR g n)=some r'→p.π=[]∧r'=p.r)→KeyW c KS e ρ0 w g n dep d1 (a.eval (.tmp n)) ρ rs:=fun{p tr y pd} hb hrd hrs hval hwh=>by
     have hb0:=hρ _ _ hb
     obtain⟨s,hs,hds⟩:=rdD_ok h hb0 hrd
     subst hds
     obtain⟨pr,pπ⟩:=p
     obtain⟨g',dr,P1,P2,P3,P4,P5⟩:=pok_of_spot h hb0 hs (t':=d1.1) (z:=d1.2) hc1 (nameOf dep n+7)
     refine⟨⟨nameOf dep n+7,false,d1.1,g',none,pr,dr⟩,rfl,rfl,by rw[P2],P1,fun A hA=>absurd hA (h.nopin hb0 A), ?_,.inr ⟨pr,hrs,rfl,by rw[hb];simp,fun r' hr'=> ?_⟩⟩
     ·rw[hval s hs];exact val_list_cells P3 P4
     ·obtain⟨hπ,hrr⟩:=hwh r' hr'
      simp only at hπ hrr
      subst hπ
      refine⟨hrr,⟨false,tr,y,pd,hb0⟩, ?_⟩
      obtain⟨ad,gg,q1,q2,q3,q4,q5,q6⟩:=h.root hb0
      have hadn:ad=none:=by
       cases had:ad with
       |none=>rfl
       |some A=>have:=(q4 A had).1;cases this
      simp only[spotD,q1,Option.bind_some,loc_nil,Option.some.injEq]at hs
      subst hs
      exact⟨_,q1,hadn.symm,P5⟩
    unfold takeW at hd
    split at hd
    ·rename_i hv
     rw[hv]at hreg
     cases t<;>first|(cases hd;done)|skip
     rename_i o tt
     injection hd with hd;cases hd
     have hv':a.eval (.tmp n)= .slice none 0 0:=hreg
     obtain⟨hs,hcast⟩:=conv_some hc1
     obtain⟨g',dr,C⟩:=convG hs (⟨none,0,[]⟩:OwnL tt.o.G)
     have hdr:fp d1.1 g'++dr=[]:=by
      have:=C.perm
      have h0:fp (.list true tt.o) (⟨none,0,[]⟩:OwnL tt.o.G)=[]:=rfl
      rw[h0]at this
      exact List.nil_perm.1 this
     have hdr2:=List.append_eq_nil_iff.1 hdr
     refine⟨⟨nameOf dep n+7,false,d1.1,g',none,nameOf dep n+7,dr⟩,rfl,rfl, ?_,⟨fun KS' hK hd=>C.ok w KS KS' hK hd (.inl ⟨rfl,rfl⟩), ?_, ?_, ?_,(fun h=>by cases h),fun _=>rfl⟩,fun _ _=>rfl, ?_,.inl ⟨rfl, ?_,by rw[hv];rfl⟩⟩
     ·obtain⟨dt,dx⟩:=d1
      simp only at hcast hs ⊢
      rw[C.er,hcast];rfl
     ·simp[Ent.blks,hdr2.1,hdr2.2]
     ·intro b hb
      simp[Ent.blks,hdr2.1,hdr2.2]at hb
     ·intro b hb
      simp only[hdr2.2]at hb;cases hb
     ·rw[hv']
      show _=val d1.1 (cl d1.1 g')
      rw[C.cl,←val_same (Ty.sub_same hs)];rfl
     ·simp[Ent.blks,hdr2.1,hdr2.2]
    ·rename_i p hv
     rw[hv]at hreg
     split at hd
     ·rename_i tr y pd hb
      replace hd:=Cm.run_bind_some hd;obtain⟨d',hrd,hd⟩:=hd
      injection hd with hd;cases hd
      refine place hb hrd rfl (fun s hs=> ?_) (fun r' hr'=> ?_)
      ·obtain⟨_,te,gg,ad,h2,h3⟩:=hreg
       rw[hs]at h2;cases h2
       rw[h3];rfl
      ·rw[hv]at hr'
       obtain⟨pr,pπ⟩:=p
       cases pπ with
       |nil=>simp only[wholeM,Option.some.injEq]at hr';exact⟨rfl,hr'.symm⟩
       |cons _ _=>cases hr'
     ·cases hd
    ·rename_i p hv
     rw[hv]at hreg
     split at hd
     ·rename_i tr y pd hb
      replace hd:=Cm.run_bind_some hd;obtain⟨d',hrd,hd⟩:=hd
      injection hd with hd;cases hd
      refine place hb hrd rfl (fun s hs=> ?_) (fun r' hr'=> ?_)
      ·obtain⟨_,s2,h2,h3,h4⟩:=hreg
       rw[hs]at h2;cases h2
       exact h4
      ·rw[hv]at hr'
       obtain⟨pr,pπ⟩:=p
       cases pπ with
       |nil=>simp only[wholeM,Option.some.injEq]at hr';exact⟨rfl,hr'.symm⟩
       |cons _ _=>cases hr'
     ·cases hd
    ·rename_i r k hv
     rw[hv]at hreg
     split at hd
     ·rename_i te l' pd hb
      replace hd:=Cm.run_chk hd;obtain⟨hnT,hd⟩:=hd
      injection hd with hd;cases hd
      have hb0:=hρ _ _ hb
      obtain⟨_,te',gg,ad,h2,h3,ad2,had2,h4⟩:=hreg
      obtain⟨adr,gr,q1,q2,q3,q4,q5,q6⟩:=h.root hb0
      subst q2
      simp only[spotD,q1,Option.bind_some,loc_nil,Option.some.injEq,Spot.mk.injEq]at h2
      obtain⟨he1,he2,he3⟩:=h2
      injection he1 with _ he1
      subst he1
      cases he2
      -- the list, cut
      have q3':okG w KS (.list true te) gr:=q3
      have hax:gr.cap≠0→ad2=gr.ad:=fun hc=>by
       rcases q3' with⟨p1,p2⟩|⟨b,rest',p1,p2,_⟩
       ·exact absurd p1 hc
       ·have p1':gr.ad=some ⟨b,0,none⟩:=p1
        rw[had2 hc,p1'];simp[Addr.plus]
      let G:OwnL te.G:=⟨ad2,gr.cap,gr.rows.take k⟩
      have hGok:okG w KS (.list true te) G:=by
       rcases q3' with⟨p1,p2⟩|⟨b,rest',p1,p2,p3,p4,p5,p6⟩
       ·refine .inl ⟨p1, ?_⟩
        have p2':gr.rows=[]:=p2
        show gr.rows.take k=[]
        rw[p2'];simp
       ·refine .inr ⟨b,(gr.rows.drop k).flatMap (cl te)++rest',(hax (Nat.pos_iff_ne_zero.1 p2)).trans p1,p2, ?_, ?_, ?_, ?_⟩
        ·have:G.rows.length≤gr.rows.length:=by simp[G];omega
         exact⟨Nat.le_trans this p3.1,fun e=>by rw[e]at hnT;cases hnT⟩
        ·have e1:G.rows.flatMap (cl te)++((gr.rows.drop k).flatMap (cl te)++rest')=gr.rows.flatMap (cl te)++rest':=by
          rw[←List.append_assoc,←List.flatMap_append,List.take_append_drop]
         rw[e1];exact p4
        ·have e1:G.rows.flatMap (cl te)++((gr.rows.drop k).flatMap (cl te)++rest')=gr.rows.flatMap (cl te)++rest':=by
          rw[←List.append_assoc,←List.flatMap_append,List.take_append_drop]
         rw[e1];exact p5
        ·intro x hx;exact p6 x (List.mem_of_mem_take hx)
      have hsubl:∃L,(fp (.list true te) gr).Perm (fp (.list true te) G++L):=by
       by_cases hc:gr.cap=0
       ·refine⟨[], ?_⟩
        have e1:fp (.list true te) gr=[]:=by simp only[fp,hc];cases gr.ad<;>simp
        have e2:fp (.list true te) G=[]:=by simp only[fp,G,hc];cases ad2<;>simp
        rw[e1,e2];simp
       ·simp only[fp,G,hax hc]
        cases gr.ad with
        |none=>exact⟨[],by simp⟩
        |some A=>
         refine⟨(gr.rows.drop k).flatMap (fp te), ?_⟩
         simp only[hc,if_false,List.cons_append]
         rw[←List.flatMap_append,List.take_append_drop]
      obtain⟨L,hL⟩:=hsubl
      have nd:=h.nd r
      rw[q6]at nd
      have nd2:=(List.nodup_append.1 (List.nodup_append.1 nd).1).2.1
      have ndG:=(List.nodup_append.1 (nodup_perm hL nd2)).1
      have heG:er (.list true te) G=(er (.list true te) gr).take k:=by simp[er,G]
      obtain⟨hs',hcast⟩:=conv_some hc1
      obtain⟨g',dr,C⟩:=convG hs' G
      have hmem:∀b∈fp d1.1 g'++dr,b∈fp (.list true te) gr:=fun b hb=>hL.mem_iff.2 (List.mem_append.2 (.inl (C.perm.mem_iff.2 hb)))
      refine⟨⟨nameOf dep n+7,false,d1.1,g',none,r,dr⟩,rfl,rfl, ?_,⟨fun KS' hK hd=>C.ok w KS KS' hK hd hGok, ?_, ?_, ?_,(fun h=>by cases h),fun _=>rfl⟩,fun A hA=>absurd hA (h.nopin hb0 A), ?_,.inr ⟨r,rfl,rfl,by rw[hb];simp,fun r' hr'=>by rw[hv]at hr';cases hr'⟩⟩
      ·obtain⟨dt,dx⟩:=d1
       simp only at hcast hs' ⊢
       rw[C.er,hcast,heG]
      ·simpa[Ent.blks]using nodup_perm C.perm ndG
      ·intro b hb1
       have:b∈fp d1.1 g'++dr:=by simpa[Ent.blks]using hb1
       rw[q6];simp[hmem b this]
      ·intro b hb1 A hA;exact absurd hA (h.nopin hb0 A)
      ·rw[h4]
       show _=val d1.1 (cl d1.1 g')
       rw[C.cl,←val_same (Ty.sub_same hs')]
       have:G.rows.length=k:=by simp only[G,List.length_take];omega
       show _=Value.slice ad2 G.rows.length gr.cap
       rw[this];rfl
     ·cases hd
    ·cases hd
   obtain⟨x,x1,x2,x3,x4,x5,x6,x7⟩:=key
   have hρ1:∀n b,getB (rs++ρ) n=some b→getB ρ n=some b:=fun n b hb=>by
    rcases x7 with⟨h1,_⟩|⟨r,h1,_⟩
    ·rw[h1]at hb;exact hb
    ·rw[h1]at hb
     by_cases hn:n=r
     ·subst hn;rw[List.singleton_append,getB_cons_eq]at hb;cases hb
     ·rw[List.singleton_append,getB_cons_ne hn]at hb;exact hb
   have hok':okRens m ns g l=true:=hok
   obtain⟨ents,e1,e2,R⟩:=packRegs_ok h l (rs++ρ) (fun n b hb=>hρ n b (hρ1 n b hb)) ds2 ρ2 hr2 ds1 rest hcv hty.2 hsh.2 hok'
   have hgone:x.blks++x.dr=[]∨(getB ρ x.r≠none∧getB (rs++ρ) x.r=none):=by
    rcases x7 with⟨_,h1,_⟩|⟨r,h1,h2,h3,_⟩
    ·exact .inl h1
    ·exact .inr ⟨by rw[h2];exact h3,by rw[h1,h2,List.singleton_append,getB_cons_eq]⟩
   refine⟨x::ents, ?_,e2,⟨by simp[newNames,R.names,x1], ?_, ?_, ?_,fun n b hb=>hρ1 n b (R.sub n b hb), ?_, ?_⟩⟩
   ·simp only[List.cons_append,unRegs,entRoots,e1,x1,x2]
    rw[←x3]
   ·intro y hy
    rcases List.mem_cons.1 hy with rfl|hy
    ·exact⟨x4,x2,x5⟩
    ·exact R.pok y hy
   ·intro y hy
    rcases List.mem_cons.1 hy with rfl|hy
    ·refine hgone.imp id fun⟨h1,h2⟩=>⟨h1, ?_⟩
     cases hq:getB ρ2 y.r with
     |none=>rfl
     |some b=>rw[R.sub _ _ hq]at h2;cases h2
    ·refine(R.src y hy).imp id fun⟨h1,h2⟩=>⟨fun h0=>h1 ?_,h2⟩
     cases hq:getB (rs++ρ) y.r with
     |none=>rfl
     |some b=>rw[hρ1 _ _ hq]at h0;cases h0
   ·refine List.pairwise_cons.2 ⟨fun y hy=> ?_,R.pw⟩
    rcases hgone with h1|⟨_,h2⟩
    ·exact .inl h1
    ·rcases R.src y hy with h3|⟨h3,_⟩
     ·exact .inr (.inl h3)
     ·exact .inr (.inr fun e0=>h3 (by rw[←e0];exact h2))
   ·intro q hq
    simp only[renOf]at hq
    split at hq
    ·rename_i r hw
     rcases List.mem_cons.1 hq with rfl|hq
     ·rcases x7 with⟨_,_,h3⟩|⟨r2,_,h2,_,h4⟩
      ·rw[hw]at h3;cases h3
      ·obtain⟨h5,h6⟩:=h4 r hw
       exact⟨x,by simp,x1,by rw[h2,h5],h6⟩
     ·obtain⟨y,hy,h1⟩:=R.map q hq
      exact⟨y,by simp[hy],h1⟩
    ·obtain⟨y,hy,h1⟩:=R.map q hq
     exact⟨y,by simp[hy],h1⟩
   ·intro q hq
    simp only[unRegs,List.cons_append]at hq
    rcases List.mem_cons.1 hq with rfl|hq
    ·refine .inr (.inl ⟨x,by simp, ?_,x6⟩)
     rw[x1]
     have ht:d1.1=x.t:=by rw[←x3]
     simp only[ht]
     cases x.t<;>first|exact .inl ⟨rfl,rfl⟩|exact .inr ⟨rfl,rfl⟩
    ·exact(R.regs q hq).mono fun y hy=>by simp[hy]
end
end
end Go.Eng

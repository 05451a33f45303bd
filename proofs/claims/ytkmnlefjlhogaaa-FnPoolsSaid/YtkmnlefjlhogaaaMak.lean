/- The tables, the residual functions and lemmas of this seat: parts of the proof of the law; conditions: those that each names. -/
import Derived.Test.YtkmnlefjlhogaaaNew
set_option linter.unusedVariables false
set_option linter.unusedSimpArgs false
set_option maxRecDepth 100000
namespace Go.Proofs.Ytkmnlefjlhogaaa
open Go.Eng
theorem fresh_at(m:PInode){j:Nat}(h0:j≠0)(hj:j<20):(newI.set 0 m)[j]? =some zeroI:=by
 rw[List.getElem?_set_ne (Ne.symm h0),newI,List.getElem?_set_ne (Ne.symm h0),List.getElem?_replicate,if_pos hj]
theorem newI_len:newI.length=20:=by simp[newI]
theorem new_inode{k md u g:Int}{A D:List PAcl}(hk:k=1∨k=2)(hm:0≤md∧md≤2047)(hu:0≤u∧u≤3)(hg:0≤g∧g≤3)(hA:aclP A)(hD:aclP D)(hf:k=2∨D=[]∧intBits .and .i64 md 512=0):NewI (k,md,u,g,0,0,0,[],A,D):=
 ⟨hk,hm,hu,hg,rfl,le01 (a:=0) (by omega) (by omega),rfl,hA,hD,hf⟩
theorem nat_of{v:Int}{n:Int}(h0:0≤v∧v<n):∃u:Nat,v=(u:Int)∧(u:Int)<n:=⟨v.toNat,by omega,by omega⟩
theorem draw_ev(c:Dl01Cur)(h:curOK c):∃f c',Ev (fun k=>c_spec_l08Draw k c) (f,c')∧curOK c'∧fsP f:=by
 have:∃r:PFS×Dl01Cur,Ev (fun k=>spec_l08Draw k c) r∧(curOK r.2∧fsP r.1):=by
  refine Ev.of ?_
  simp only[spec_l08Draw]
  obtain⟨Q,c1,h1,k1,hq,hQ⟩:=quotas_ev c h
  refine EvX.bind h1 ?_
  refine EvX.bind (newFS_ev hq hQ) ?_
  obtain⟨t,c2,h2,k2,ht,_⟩:=below_ev c1 k1 9
  have ht:=ht (by omega) (by omega)
  refine EvX.bind h2 ?_
  obtain⟨o,c3,h3,k3⟩:=once_ev c2 k2 8
  refine EvX.bind h3 ?_
  refine EvX.bif (fun _=>EvX.const _ (GR.ret ⟨k3, ?_⟩)) fun _=> ?_
  ·have:=fresh_ok hq hQ t ⟨by omega,by omega⟩ 493 (by omega) (by omega)
   have e:newI.set 0 (2,493,0,0,1,0,0,[],[],[])=newI:=by unfold newI;rw[List.set_set]
   rw[e]at this;exact this
  obtain⟨md,c4,h4,k4,hmd⟩:=pick_ev c3 k3 [493,511,511,1023] (by decide) (by decide)
  refine EvX.bind h4 ?_
  have hmd':0≤md∧md≤2047:=by simp at hmd;omega
  have hl0:newI[0]? =some rootI:=rfl
  simp only[NF,newI_len,show(0:Int)<((20:Nat):Int)by decide,Int.le_refl,if_true,Int.toNat_zero,hl0,Option.bind_some]
  have hf1:=fresh_ok hq hQ t ⟨by omega,by omega⟩ md hmd'.1 hmd'.2
  obtain⟨u',c5,h5,k5,hu,_⟩:=below_ev c4 k4 3
  obtain⟨u,rfl,hu⟩:=nat_of (hu (by omega) (by omega))
  refine EvX.bind h5 ?_
  have wu:wrapK .i64 ((1:Int)+(u:Int))=((u+1:Nat):Int):=by rw[i64w (by omega) (by omega)];omega
  have wu5:wrapK .i64 (((u+1:Nat):Int)*5)=(((u+1)*5:Nat):Int):=by rw[i64w (by omega) (by omega)];omega
  have wu3:wrapK .i64 ((((u+1)*5:Nat):Int)+3)=(((u+1)*5+3:Nat):Int):=by rw[i64w (by omega) (by omega)];omega
  simp only[wu,wu5,wu3]
  obtain⟨ma,c6,h6,k6,hma⟩:=pick_ev c5 k5 [493,511,448,504,1535] (by decide) (by decide)
  refine EvX.bind h6 ?_
  obtain⟨ga,c7,h7,k7,hga,_⟩:=below_ev c6 k6 4
  have hga:=hga (by omega) (by omega)
  refine EvX.bind h7 ?_
  obtain⟨A1,c8,h8,k8,hA1⟩:=acl_draw c7 k7
  refine EvX.bind h8 ?_
  obtain⟨A2,c9,h9,k9,hA2⟩:=acl_draw c8 k8
  refine EvX.bind h9 ?_
  have hNa:NewI (2,ma,((u+1:Nat):Int),ga,0,0,0,[],A1,A2):=new_inode (.inr rfl) (by simp at hma;omega) ⟨by omega,by omega⟩ ⟨by omega,by omega⟩ hA1 hA2 (.inl rfl)
  obtain⟨r1,e1,p1⟩:=add_ok (f0:=(t,Q,newI.set 0 (2,md,0,0,1,0,0,[],[],[]),List.replicate 56 zero32)) (i:=(u+1)*5) (dir:=0) (data:=⟨#[]⟩) (name:=⟨#[97]⟩) (d:=(2,md,0,0,1,0,0,[],[],[])) (t:=⟨#[]⟩) hf1 hNa (by decide)
   (fresh_at _ (by omega) (by omega)) (List.getElem?_set_self (by rw[newI_len];omega)) rfl (by omega) (by omega) (.none rfl rfl) (by decide)
  refine EvX.bind e1 ?_
  obtain⟨o,d1,j1,m1⟩:=once_ev c9 k9 3
  refine EvX.bind j1 ?_
  refine EvX.bif (fun _=>EvX.const _ (GR.ret ⟨m1,p1.fs⟩)) fun _=> ?_
  obtain⟨v',d2,j2,m2,hv,_⟩:=below_ev d1 m1 4
  obtain⟨v,rfl,hv⟩:=nat_of (hv (by omega) (by omega))
  refine EvX.bind j2 ?_
  have wv5:wrapK .i64 ((v:Int)*5)=((v*5:Nat):Int):=by rw[i64w (by omega) (by omega)];omega
  have wv1:wrapK .i64 (((v*5:Nat):Int)+1)=((v*5+1:Nat):Int):=by rw[i64w (by omega) (by omega)];omega
  simp only[wv5,wv1]
  obtain⟨mf,d3,j3,m3,hmf⟩:=pick_ev d2 m2 [420,438,384,416,511] (by decide) (by decide)
  refine EvX.bind j3 ?_
  obtain⟨gf,d4,j4,m4,hgf,_⟩:=below_ev d3 m3 4
  have hgf:=hgf (by omega) (by omega)
  refine EvX.bind j4 ?_
  obtain⟨A3,d5,j5,m5,hA3⟩:=acl_draw d4 m4
  refine EvX.bind j5 ?_
  obtain⟨s1,d6,j6,m6,hs1⟩:=bytes_ev d5 m5 40 (by omega)
  refine EvX.bind j6 ?_
  have bits:∀m:Int,m=420∨m=438∨m=384∨m=416∨m=511→intBits .and .i64 m 512=0:=by
   intro m hm
   rcases hm with rfl|rfl|rfl|rfl|rfl<;>rfl
  have hNf:NewI (1,mf,(v:Int),gf,0,0,0,[],A3,[]):=new_inode (.inl rfl) (by simp at hmf;omega) ⟨by omega,by omega⟩ ⟨by omega,by omega⟩ hA3 acl_nil (.inr ⟨rfl,bits mf (by simpa using hmf)⟩)
  obtain⟨da,q1,q2,_,q4⟩:=p1.dir
  obtain⟨ta,q5⟩:=q4 rfl
  obtain⟨r2,e2,p2⟩:=add_ok (f0:=r1) (i:=v*5+1) (dir:=0) (data:=s1) (name:=⟨#[102]⟩) (d:=da) (t:=ta) p1.fs hNf (by omega)
   ((p1.oth _ (by omega) (by omega)).trans (fresh_at _ (by omega) (by omega))) q1 q2 (by omega) (by omega) q5 (by decide)
  refine EvX.bind e2 ?_
  obtain⟨o,d7,j7,m7⟩:=once_ev d6 m6 3
  refine EvX.bind j7 ?_
  refine EvX.bif (fun _=>EvX.const _ (GR.ret ⟨m7,p2.fs⟩)) fun _=> ?_
  have hI2:(fI r2)[(u+1)*5]? =(fI r1)[(u+1)*5]? :=p2.oth _ (by omega) (by omega)
  have hlt:(((u+1)*5:Nat):Int)<((r2.2.2.1.length:Nat):Int):=by rw[show r2.2.2.1.length=20 from p2.fs.ni];omega
  obtain⟨na,hna⟩:∃na,(fI r2)[(u+1)*5]? =some na:=⟨_,List.getElem?_eq_getElem (by rw[p2.fs.ni];omega)⟩
  simp only[Int.natCast_nonneg,hlt,if_true,Int.toNat_natCast,show r2.2.2.1[(u+1)*5]? =some na from hna,Option.bind_some]
  refine EvX.bif (fun _=>EvX.const _ (GR.ret ⟨m7,p2.fs⟩)) fun hk=> ?_
  have hk2:na.1=2:=by simpa using hk
  have hDa:Dir1 r2 na ⟨#[]⟩:=by
   rw[hI2]at hna
   rcases p1.new with h|⟨n,h,_,_,hb⟩
   ·rw[h]at hna;injection hna with hna;rw[←hna]at hk2;cases hk2
   ·rw[h]at hna;injection hna with hna;subst hna
    obtain⟨b1,b2⟩:=hb rfl
    exact .none b1 b2
  obtain⟨w',d8,j8,m8,hw,_⟩:=below_ev d7 m7 4
  obtain⟨w,rfl,hw⟩:=nat_of (hw (by omega) (by omega))
  refine EvX.bind j8 ?_
  have ww5:wrapK .i64 ((w:Int)*5)=((w*5:Nat):Int):=by rw[i64w (by omega) (by omega)];omega
  have ww2:wrapK .i64 (((w*5:Nat):Int)+2)=((w*5+2:Nat):Int):=by rw[i64w (by omega) (by omega)];omega
  simp only[ww5,ww2]
  obtain⟨mg,d9,j9,m9,hmg⟩:=pick_ev d8 m8 [420,438,384] (by decide) (by decide)
  refine EvX.bind j9 ?_
  obtain⟨gg,b1,i1,l1,hgg,_⟩:=below_ev d9 m9 4
  have hgg:=hgg (by omega) (by omega)
  refine EvX.bind i1 ?_
  obtain⟨s2,b2,i2,l2,hs2⟩:=bytes_ev b1 l1 9 (by omega)
  refine EvX.bind i2 ?_
  have hNg:NewI (1,mg,(w:Int),gg,0,0,0,[],[],[]):=new_inode (.inl rfl) (by simp at hmg;omega) ⟨by omega,by omega⟩ ⟨by omega,by omega⟩ acl_nil acl_nil (.inr ⟨rfl,bits mg (by simp at hmg;omega)⟩)
  obtain⟨r3,e3,p3⟩:=add_ok (f0:=r2) (i:=w*5+2) (dir:=(u+1)*5) (data:=s2) (name:=⟨#[103]⟩) (d:=na) (t:=⟨#[]⟩) p2.fs hNg (by omega)
   ((p2.oth _ (by omega) (by omega)).trans ((p1.oth _ (by omega) (by omega)).trans (fresh_at _ (by omega) (by omega)))) hna hk2 (by omega) (by omega) hDa (by decide)
  refine EvX.bind e3 ?_
  obtain⟨o,b3,i3,l3⟩:=once_ev b2 l2 2
  refine EvX.bind i3 ?_
  refine EvX.bif (fun _=> ?_) fun _=>EvX.const _ (GR.ret ⟨l3,p3.fs⟩)
  obtain⟨gd,b4,i4,l4,hgd,_⟩:=below_ev b3 l3 4
  have hgd:=hgd (by omega) (by omega)
  refine EvX.bind i4 ?_
  have hNd:NewI (2,493,((u+1:Nat):Int),gd,0,0,0,[],[],[]):=new_inode (.inr rfl) ⟨by omega,by omega⟩ ⟨by omega,by omega⟩ ⟨by omega,by omega⟩ acl_nil acl_nil (.inl rfl)
  obtain⟨db,s1',s2',_,s4⟩:=p3.dir
  obtain⟨tb,s5⟩:=s4 rfl
  obtain⟨r4,e4,p4⟩:=add_ok (f0:=r3) (i:=(u+1)*5+3) (dir:=(u+1)*5) (data:=⟨#[]⟩) (name:=⟨#[100]⟩) (d:=db) (t:=tb) p3.fs hNd (by decide)
   ((p3.oth _ (by omega) (by omega)).trans ((p2.oth _ (by omega) (by omega)).trans ((p1.oth _ (by omega) (by omega)).trans (fresh_at _ (by omega) (by omega))))) s1' (s2'.trans hk2) (by omega) (by omega) s5 (by decide)
  refine EvX.bind e4 ?_
  exact EvX.const _ (GR.ret ⟨l4,p4.fs⟩)
 obtain⟨r,h1,h2,h3⟩:=this
 exact⟨r.1,r.2,EvQ.run (fun k=>spec_l08Draw_run k _) h1,h2,h3⟩
end Go.Proofs.Ytkmnlefjlhogaaa

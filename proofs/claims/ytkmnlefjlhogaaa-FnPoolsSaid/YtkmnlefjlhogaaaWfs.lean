/- The tables, the residual functions and lemmas of this seat: parts of the proof of the law; conditions: those that each names. -/
import Derived.Test.YtkmnlefjlhogaaaCut
set_option linter.unusedVariables false
set_option linter.unusedSimpArgs false
set_option maxRecDepth 100000
namespace Go.Proofs.Ytkmnlefjlhogaaa
open Go.Eng
theorem used_app(a b:List PInode):usedBs (a++b)=usedBs a++usedBs b:=by simp[usedBs]
theorem used_cons(x:PInode)(l:List PInode):usedBs (x::l)=nz (xBlk x)++usedBs l:=by simp[usedBs]
theorem used_at{l:List PInode}{i:Nat}{x:PInode}(h:l[i]? =some x):usedBs l=usedBs (l.take i)++(nz (xBlk x)++usedBs (l.drop (i+1))):=by
 have:=split_at h
 rw[this,used_app,used_cons,←this]
theorem used_set{l:List PInode}{i:Nat}{x:PInode}(h:l[i]? =some x)(n:PInode):usedBs (l.set i n)=usedBs (l.take i)++(nz (xBlk n)++usedBs (l.drop (i+1))):=by
 have hi:i<l.length:=(List.getElem?_eq_some_iff.1 h).1
 rw[List.set_eq_take_append_cons_drop,if_pos hi,used_app,used_cons]
theorem used_set_same{l:List PInode}{i:Nat}{x:PInode}(h:l[i]? =some x){n:PInode}(e:nz (xBlk n)=nz (xBlk x)):usedBs (l.set i n)=usedBs l:=by
 rw[used_set h,used_at h,e]
theorem used_set_mem{l:List PInode}{i:Nat}{x:PInode}(h:l[i]? =some x){n:PInode}{b:Int}(hb:b∈usedBs (l.set i n)):b∈nz (xBlk n)∨b∈usedBs l:=by
 rw[used_set h]at hb
 rw[used_at h]
 simp only[List.mem_append]at hb ⊢
 rcases hb with hb|hb|hb
 ·exact .inr (.inl hb)
 ·exact .inl hb
 ·exact .inr (.inr (.inr hb))
theorem used_mem_set{l:List PInode}{i:Nat}{x:PInode}(h:l[i]? =some x){n:PInode}{b:Int}(hb:b∈usedBs l):b∈nz (xBlk x)∨b∈usedBs (l.set i n):=by
 rw[used_at h]at hb
 rw[used_set h]
 simp only[List.mem_append]at hb ⊢
 rcases hb with hb|hb|hb
 ·exact .inr (.inl hb)
 ·exact .inl hb
 ·exact .inr (.inr (.inr hb))
theorem used_set_nodup{l:List PInode}{i:Nat}{x:PInode}(h:l[i]? =some x){n:PInode}(hl:(usedBs l).Nodup)(hn:(nz (xBlk n)).Nodup)
  (hd:∀b∈nz (xBlk n),b∈nz (xBlk x)∨b∉usedBs l):(usedBs (l.set i n)).Nodup:=by
 rw[used_at h]at hl hd
 rw[used_set h]
 rw[List.nodup_append,List.nodup_append]at hl ⊢
 obtain⟨h1,⟨h2,h3,h4⟩,h5⟩:=hl
 refine⟨h1,⟨hn,h3,fun a ha b hb e=> ?_⟩,fun a ha b hb e=> ?_⟩
 ·subst e
  rcases hd a ha with h6|h6
  ·exact h4 a h6 a hb rfl
  ·exact h6 (by simp[hb])
 ·subst e
  rcases List.mem_append.1 hb with hb|hb
  ·rcases hd a hb with h6|h6
   ·exact h5 a ha a (by simp[h6]) rfl
   ·exact h6 (by simp[ha])
  ·exact h5 a ha a (by simp[hb]) rfl
theorem get_set{l:List PInode}{i j:Nat}{x n y:PInode}(h:l[i]? =some x)(hj:(l.set i n)[j]? =some y):y=n∧j=i∨l[j]? =some y∧j≠i:=by
 rw[List.getElem?_set]at hj
 split at hj
 ·rename_i e
  subst e
  split at hj
  ·injection hj with hj;exact .inl ⟨hj.symm,rfl⟩
  ·cases hj
 ·rename_i e;exact .inr ⟨hj,fun e'=>e e'.symm⟩
theorem wfs_set{f:PFS}(h:wfs f){i:Nat}{x n:PInode}(hx:(fI f)[i]? =some x)(hl:(xBlk n).length≤8)(ho:ownsP n)(hn:(nz (xBlk n)).Nodup)
  (hd:∀b∈nz (xBlk n),b∈nz (xBlk x)∨b∉usedBs (fI f)) (t:Int) {D:List ByteArray} (hD:D.length=56) (hz:∀s∈D,s.size=32):wfs (t,fQ f,(fI f).set i n,D) where
 nq:=h.nq
 ni:=by show((fI f).set i n).length=20;rw[List.length_set];exact h.ni
 nd:=hD
 len j y hj:=by
  rcases get_set hx hj with⟨rfl,_⟩|⟨hj,_⟩
  ·exact hl
  ·exact h.len j y hj
 own j y hj:=by
  rcases get_set hx hj with⟨rfl,_⟩|⟨hj,_⟩
  ·exact ho
  ·exact h.own j y hj
 nodup:=used_set_nodup hx h.nodup hn hd
 sz:=hz
theorem cutV_at:∀(m:Nat) (s:ByteArray),s.size≤m→∀(j:Nat) x,(cutV m s)[j]? =some x→0<x.size∧x.size≤32∧(j+1<(cutV m s).length→x.size=32)
 |0,s,hs,j,x,h=>by simp[cutV]at h
 |m+1,s,hs,j,x,h=>by
  simp only[cutV]at h ⊢
  split at h
  ·simp at h
  ·rename_i h0
   rw[if_neg h0]
   split at h
   ·rename_i h1
    rw[if_pos h1]
    cases j with
    |zero=>
     simp at h;subst h
     exact⟨by omega,h1,fun h=>by simp at h⟩
    |succ j=>simp at h
   ·rename_i h1
    rw[if_neg h1]
    cases j with
    |zero=>
     simp at h;subst h
     rw[ByteArray.size_extract]
     omega
    |succ j=>
     have hs':(s.extract 32 s.size).size≤m:=by rw[ByteArray.size_extract];omega
     obtain⟨a,b,c⟩:=cutV_at m _ hs' j x (by simpa using h)
     exact⟨a,b,fun h=>c (by simpa using h)⟩
theorem cutV_len:∀(m:Nat) (s:ByteArray),s.size≤m→(cutV m s).length*32<s.size+32
 |0,s,hs=>by simp[cutV]
 |m+1,s,hs=>by
  simp only[cutV]
  split
  ·simp
  ·split
   ·simp;omega
   ·have hs':(s.extract 32 s.size).size≤m:=by rw[ByteArray.size_extract];omega
    have:=cutV_len m _ hs'
    rw[ByteArray.size_extract]at this
    rw[List.length_cons];omega
end Go.Proofs.Ytkmnlefjlhogaaa

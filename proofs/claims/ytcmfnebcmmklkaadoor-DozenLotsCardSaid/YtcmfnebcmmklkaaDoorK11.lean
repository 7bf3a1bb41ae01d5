/- What the laws of chapter 9 share: words about rows and regions, the walks of the package dozen, and that known returns true. Part 11 of 16. -/
import Derived.Test.YtcmfnebcmmklkaaDoorK8
import Derived.Test.YtcmfnebcmmklkaaDoorK10
import Derived.WalkSpells
import Derived.Test.YtcmfnebcmmklkaaDoorK9
set_option linter.unusedVariables false
set_option linter.unusedSimpArgs false
set_option maxRecDepth 100000
set_option maxHeartbeats 8000000
namespace Go.Proofs.YtcmfnebcmmklkaaDoor.Hand
open Go.RowKit Go.Shelf Go.Proofs.YtcmfnebcmmklkaaDoorW.dQ Go.Proofs.YtcmfnebcmmklkaaDoorW.gG Go.Proofs.YtcmfnebcmmklkaaDoor.Q
def iP (od:aZ->Int) (sd:aI->aH) (os:List aZ) (ls:List aI) (s o:Nat):List aH×aH×Bool:=fE (od (dK os o)) (kZ sd ls o s ls.length)
def qP (od:aZ->Int) (sd:aI->aH) (os:List aZ) (ls:List aI) (s n:Nat):List aH:=(List.range n).map fun(o:Nat)=>af1 (od (dK os o)) (iP od sd os ls s o).2.1
def zN (od:aZ->Int) (sd:aI->aH) (os:List aZ) (ls:List aI) (s:Nat):Nat->List aH
 |0=>List.replicate ls.length ⟨0,0⟩
 |o+1=>QL (kZ sd ls o s ls.length) (iP od sd os ls s o).1 (zN od sd os ls s o) (kZ sd ls o s ls.length).length
theorem awS (od:aZ->Int) (sd:aI->aH) (os:List aZ) (ls:List aI) (s:Nat):∀ n,(zN od sd os ls s n).length=ls.length:=by
 intro n
 induction n with
 |zero=>exact List.length_replicate
 |succ n ih=>rw[zN,aEQ,ih]
theorem aaO (od:aZ->Int) (sd:aI->aH) (os:List aZ) (ls:List aI) (s n:Nat):(qP od sd os ls s n).length=n:=by simp[qP]
theorem aER (od:aZ->Int) (sd:aI->aH) (os:List aZ) (ls:List aI) (s n:Nat):qP od sd os ls s (n+1)=qP od sd os ls s n++[af1 (od (dK os n)) (iP od sd os ls s n).2.1]:=by
 unfold qP
 rw[List.range_succ,List.map_append,List.map_cons,List.map_nil]
structure RZ (od:aZ->Int) (sd:aI->aH) (os:List aZ) (ls:List aI):Prop where
 ord:∀ o:Nat,o<os.length->0<=od (dK os o)/\od (dK os o)<=144
 lot:∀ i:Nat,i<ls.length->0<=(sd (aU ls i)).f0/\(sd (aU ls i)).f0<=(sd (aU ls i)).f1/\(sd (aU ls i)).f1<=144
theorem aES {sd:aI->aH} {ls:List aI} {o:Int} {s n:Nat} {x:dR} (h:x∈kZ sd ls o s n):∃ i:Nat,i<n/\x=⟨sd (aU ls i),(i:Int),(aU ls i).f3⟩:=by
 unfold kZ at h
 obtain⟨i,h1,h2⟩:=List.mem_filterMap.1 h
 split at h2
 ·exact⟨i,List.mem_range.1 h1,(Option.some.inj h2).symm⟩
 ·cases h2
theorem RZ.lots {od:aZ->Int} {sd:aI->aH} {os:List aZ} {ls:List aI} (h:RZ od sd os ls) {o:Int} {s:Nat}:∀ x∈kZ sd ls o s ls.length,uH x:=by
 intro x hx
 obtain⟨i,hi,rfl⟩:=aES hx
 exact h.lot i hi
theorem RZ.aXY {od:aZ->Int} {sd:aI->aH} {os:List aZ} {ls:List aI} (h:RZ od sd os ls) (h8:ls.length<=8) {o s:Nat} (ho:o<os.length):avC (od (dK os o)) (kZ sd ls o s ls.length)=true:=by
 unfold avC
 have h1:=h.ord o ho
 have h2:=arE sd ls o s ls.length
 simp only[Bool.and_eq_true,decide_eq_true_iff,List.all_eq_true]
 refine⟨⟨⟨h1.1,h1.2⟩,fun x hx=>?_⟩,Nat.le_trans h2 h8⟩
 have:=h.lots x hx
 unfold uH at this
 unfold aK5
 simp only[Bool.and_eq_true,decide_eq_true_iff]
 exact⟨⟨this.1,this.2.1⟩,this.2.2⟩
theorem af2 {M:Int} {l:List dR} (h:(fE M l).2.2=true):(fE M l).1.length=l.length:=by
 unfold fE at h ⊢
 split
 ·simp
 ·rename_i hh
  rw[if_neg hh]at h
  cases h
theorem aXZ {M:Int} {l:List dR} (hM:0<=M/\M<=144) (hl:∀ x∈l,uH x):(-100000<=(fE M l).2.1.f0/\(fE M l).2.1.f0<=100000)/\(-100000<=(fE M l).2.1.f1/\(fE M l).2.1.f1<=100000):=by
 unfold fE
 split
 ·rename_i hh
  have:=au4 hM hl (Nat.le_refl _) hh
  show(-100000<=(gU M l l.length).f0/\(gU M l l.length).f0<=100000)/\(-100000<=(gU M l l.length).f1/\(gU M l l.length).f1<=100000)
  clear hM hl hh
  omega
 ·decide
abbrev rJ:aZ->Int:=fun x=>x.f0
abbrev qB:aI->aH:=fun x=>x.f1
theorem bj5 (os:List aZ) (ls:List aI) (h5:os.length<=5) (h8:ls.length<=8) (hk:RZ rJ qB os ls) (s:Nat) (hs:s<256):∀ (m o k:Nat),o+m=os.length->10*m+11<=k->
  ∃ r,vX.l0 k (s:Int) (os.length:Int) (o:Int) () () os ls (qP rJ qB os ls s o) (zN rJ qB os ls s o)=some r/\(r.2.2=true↔∀ j,o<=j->j<os.length->(iP rJ qB os ls s j).2.2=true)/\(r.2.2=true->r.1=qP rJ qB os ls s os.length/\r.2.1=zN rJ qB os ls s os.length):=by
 intro m
 induction m with
 |zero=>
  intro o k hi hk
  obtain⟨k,rfl⟩:∃ j,k=j+1:=⟨k - 1,by omega⟩
  obtain rfl:o=os.length:=by omega
  unfold vX.l0
  rw[if_neg (by omega)]
  exact⟨_,rfl,⟨fun _ j h1 h2=>absurd h2 (by omega),fun _=>rfl⟩,fun _=>⟨rfl,rfl⟩⟩
 |succ m ih=>
  intro o k hi hkk
  obtain⟨k,rfl⟩:∃ j,k=j+1:=⟨k - 1,by omega⟩
  have ho:o<os.length:=by omega
  have hlen:=arE qB ls o s ls.length
  have hst:=bj0 os ls h8 o s ho hs k (by omega)
  have hM:=hk.ord o ho
  unfold vX.l0
  rw[if_pos (by omega),hst]
  simp only[Option.bind_some]
  unfold abS.f
  rw[if_pos (hk.aXY h8 ho)]
  simp only[Option.bind_some]
  by_cases hr:(iP rJ qB os ls s o).2.2=true
  ·rw[if_pos (show(fE (dK os (o:Int)).f0 (kZ (fun x=>x.f1) ls (o:Int) s ls.length)).2.2=true from hr)]
   have hc:=af2 hr
   have hb:=aXZ (l:=kZ qB ls o s ls.length) hM hk.lots
   have h1:=bj3 os ls s (kZ qB ls o s ls.length) _ hc (Nat.le_trans hlen h8) (zN rJ qB os ls s o) (qP rJ qB os ls s o) (by
    intro x hx
    obtain⟨i,hi,rfl⟩:=aES hx
    rw[awS]
    exact⟨Int.natCast_nonneg _,Int.ofNat_lt.2 hi⟩) _ _ _ hM hb (by rw[aaO];omega) (o:Int) (os.length:Int) (by omega) (kZ qB ls o s ls.length).length 0 k (by omega) (by omega)
   rw[QL]at h1
   obtain⟨r,h2,h3,h4⟩:=ih (o+1) (k - 1 - (kZ qB ls o s ls.length).length) (by omega) (by omega)
   refine⟨r,h1.trans ?_,⟨fun h j hj1 hj2=>?_,fun h=>h3.2 fun j hj1 hj2=>h j (by omega) hj2⟩,h4⟩
   ·rw[aER,zN]at h2
    exact h2
   ·rcases Nat.eq_or_lt_of_le hj1 with rfl|hj
    ·exact hr
    ·exact h3.1 h j hj hj2
  ·rw[if_neg (show ¬ (fE (dK os (o:Int)).f0 (kZ (fun x=>x.f1) ls (o:Int) s ls.length)).2.2=true from hr)]
   exact⟨_,rfl,⟨fun h=>absurd h Bool.false_ne_true,fun h=>absurd (h o (Nat.le_refl _) ho) hr⟩,fun h=>absurd h Bool.false_ne_true⟩
theorem aX0 (os:List aZ) (ls:List aI) (h5:os.length<=5) (h8:ls.length<=8) (hk:RZ rJ qB os ls) (s:Nat) (hs:s<256) (k:Nat) (hkk:61<=k):
  ∃ r,vX.f k () () os ls (s:Int)=some r/\(r.2.2=true↔∀ j,j<os.length->(iP rJ qB os ls s j).2.2=true)/\(r.2.2=true->r.1=qP rJ qB os ls s os.length/\r.2.1=zN rJ qB os ls s os.length):=by
 obtain⟨r,h1,h2,h3⟩:=bj5 os ls h5 h8 hk s hs os.length 0 k (by omega) (by omega)
 refine⟨r,?_,⟨fun h j=>h2.1 h j (Nat.zero_le _),fun h=>h2.2 fun j _=>h j⟩,h3⟩
 unfold vX.f
 rw[if_pos (by omega),if_pos (by omega)]
 exact h1
abbrev tC:aZ->Int:=fun x=>x.f1
abbrev qQ:aI->aH:=fun x=>x.f2
theorem bj6 (os:List aZ) (ls:List aI) (h5:os.length<=5) (h8:ls.length<=8) (hk:RZ tC qQ os ls) (s:Nat) (hs:s<256):∀ (m o k:Nat),o+m=os.length->10*m+11<=k->
  ∃ r,uU.l0 k (s:Int) (os.length:Int) (o:Int) () () os ls (qP tC qQ os ls s o) (zN tC qQ os ls s o)=some r/\(r.2.2=true↔∀ j,o<=j->j<os.length->(iP tC qQ os ls s j).2.2=true)/\(r.2.2=true->r.1=qP tC qQ os ls s os.length/\r.2.1=zN tC qQ os ls s os.length):=by
 intro m
 induction m with
 |zero=>
  intro o k hi hk
  obtain⟨k,rfl⟩:∃ j,k=j+1:=⟨k - 1,by omega⟩
  obtain rfl:o=os.length:=by omega
  unfold uU.l0
  rw[if_neg (by omega)]
  exact⟨_,rfl,⟨fun _ j h1 h2=>absurd h2 (by omega),fun _=>rfl⟩,fun _=>⟨rfl,rfl⟩⟩
 |succ m ih=>
  intro o k hi hkk
  obtain⟨k,rfl⟩:∃ j,k=j+1:=⟨k - 1,by omega⟩
  have ho:o<os.length:=by omega
  have hlen:=arE qQ ls o s ls.length
  have hst:=bj2 os ls h8 o s ho hs k (by omega)
  have hM:=hk.ord o ho
  unfold uU.l0
  rw[if_pos (by omega),hst]
  simp only[Option.bind_some]
  unfold abS.f
  rw[if_pos (hk.aXY h8 ho)]
  simp only[Option.bind_some]
  by_cases hr:(iP tC qQ os ls s o).2.2=true
  ·rw[if_pos (show(fE (dK os (o:Int)).f1 (kZ (fun x=>x.f2) ls (o:Int) s ls.length)).2.2=true from hr)]
   have hc:=af2 hr
   have hb:=aXZ (l:=kZ qQ ls o s ls.length) hM hk.lots
   have h1:=bj4 os ls s (kZ qQ ls o s ls.length) _ hc (Nat.le_trans hlen h8) (zN tC qQ os ls s o) (qP tC qQ os ls s o) (by
    intro x hx
    obtain⟨i,hi,rfl⟩:=aES hx
    rw[awS]
    exact⟨Int.natCast_nonneg _,Int.ofNat_lt.2 hi⟩) _ _ _ hM hb (by rw[aaO];omega) (o:Int) (os.length:Int) (by omega) (kZ qQ ls o s ls.length).length 0 k (by omega) (by omega)
   rw[QL]at h1
   obtain⟨r,h2,h3,h4⟩:=ih (o+1) (k - 1 - (kZ qQ ls o s ls.length).length) (by omega) (by omega)
   refine⟨r,h1.trans ?_,⟨fun h j hj1 hj2=>?_,fun h=>h3.2 fun j hj1 hj2=>h j (by omega) hj2⟩,h4⟩
   ·rw[aER,zN]at h2
    exact h2
   ·rcases Nat.eq_or_lt_of_le hj1 with rfl|hj
    ·exact hr
    ·exact h3.1 h j hj hj2
  ·rw[if_neg (show ¬ (fE (dK os (o:Int)).f1 (kZ (fun x=>x.f2) ls (o:Int) s ls.length)).2.2=true from hr)]
   exact⟨_,rfl,⟨fun h=>absurd h Bool.false_ne_true,fun h=>absurd (h o (Nat.le_refl _) ho) hr⟩,fun h=>absurd h Bool.false_ne_true⟩
theorem aX1 (os:List aZ) (ls:List aI) (h5:os.length<=5) (h8:ls.length<=8) (hk:RZ tC qQ os ls) (s:Nat) (hs:s<256) (k:Nat) (hkk:61<=k):
  ∃ r,uU.f k () () os ls (s:Int)=some r/\(r.2.2=true↔∀ j,j<os.length->(iP tC qQ os ls s j).2.2=true)/\(r.2.2=true->r.1=qP tC qQ os ls s os.length/\r.2.1=zN tC qQ os ls s os.length):=by
 obtain⟨r,h1,h2,h3⟩:=bj6 os ls h5 h8 hk s hs os.length 0 k (by omega) (by omega)
 refine⟨r,?_,⟨fun h j=>h2.1 h j (Nat.zero_le _),fun h=>h2.2 fun j _=>h j⟩,h3⟩
 unfold uU.f
 rw[if_pos (by omega),if_pos (by omega)]
 exact h1
theorem FM {os:List aZ} {ls:List aI} (h:oP os ls=0):(1<=os.length/\os.length<=5)/\ls.length<=8/\(∀ x∈os,MP x=true)/\∀ x∈ls,DY os.length x=true:=by
 unfold oP at h
 split at h
 ·rename_i h1
  split at h
  ·cases h
  ·rename_i h2
   split at h
   ·cases h
   ·rename_i h3
    rw[Bool.or_eq_true,not_or,Bool.not_eq_true,Bool.not_eq_true,List.any_eq_false,List.any_eq_false]at h3
    simp only[allIn,xR,List.any_cons,List.any_nil,Bool.or_false,Bool.not_eq_true',Bool.or_eq_false_iff,decide_eq_false_iff_not]at h1
    refine⟨by omega,by omega,fun x hx=>?_,fun x hx=>?_⟩
    ·have:=h3.1 x hx
     simpa using this
    ·have:=h3.2 x hx
     simpa using this
 ·cases h
theorem aX2 {l:List aZ} {i:Nat} (h:i<l.length):dK l i∈l:=by
 unfold dK
 simp[List.getD_eq_getElem?_getD,h]
theorem aX3 {l:List aI} {i:Nat} (h:i<l.length):aU l i∈l:=by
 unfold aU
 simp[List.getD_eq_getElem?_getD,h]
theorem af4 {os:List aZ} {ls:List aI} (h:oP os ls=0):RZ rJ qB os ls/\RZ tC qQ os ls:=by
 obtain⟨_,_,h3,h4⟩:=FM h
 refine⟨⟨fun o ho=>?_,fun i hi=>?_⟩,⟨fun o ho=>?_,fun i hi=>?_⟩⟩
 ·have:=h3 _ (aX2 ho)
  simp[MP,allIn,xR]at this
  show 0<=(dK os o).f0/\(dK os o).f0<=144
  omega
 ·have:=h4 _ (aX3 hi)
  simp[DY,UE,allIn,xR]at this
  show 0<=(aU ls i).f1.f0/\(aU ls i).f1.f0<=(aU ls i).f1.f1/\(aU ls i).f1.f1<=144
  omega
 ·have:=h3 _ (aX2 ho)
  simp[MP,allIn,xR]at this
  show 0<=(dK os o).f1/\(dK os o).f1<=144
  omega
 ·have:=h4 _ (aX3 hi)
  simp[DY,UE,allIn,xR]at this
  show 0<=(aU ls i).f2.f0/\(aU ls i).f2.f0<=(aU ls i).f2.f1/\(aU ls i).f2.f1<=144
  omega
def vZ (os:List aZ) (ls:List aI) (s:Nat):Bool:=(List.range os.length).all (fun o=>(iP rJ qB os ls s o).2.2)&&(List.range os.length).all (fun o=>(iP tC qQ os ls s o).2.2)
theorem zO {n:Nat} {p:Nat->Bool}:(List.range n).all p=true↔∀ j,j<n->p j=true:=by simp
theorem bj7 {os:List aZ} {ls:List aI} (h:oP os ls=0) (s:Nat) (hs:s<256) (k:Nat) (hk:61<=k):am8.f k os ls (s:Int)=some (vZ os ls s):=by
 obtain⟨hL,hR⟩:=af4 h
 obtain⟨h5,h8,_,_⟩:=FM h
 obtain⟨r,a1,a2,a3⟩:=aX0 os ls h5.2 h8 hL s hs k hk
 obtain⟨q,b1,b2,b3⟩:=aX1 os ls h5.2 h8 hR s hs k hk
 unfold am8.f abZ.f
 simp only[Option.bind_some]
 rw[a1]
 simp only[Option.bind_some]
 unfold vZ
 by_cases hr:r.2.2=true
 ·rw[if_pos hr,b1]
  simp only[Option.bind_some]
  rw[show(List.range os.length).all (fun o=>(iP rJ qB os ls s o).2.2)=true from zO.2 (a2.1 hr),Bool.true_and]
  by_cases hq:q.2.2=true
  ·rw[if_pos hq,show(List.range os.length).all (fun o=>(iP tC qQ os ls s o).2.2)=true from zO.2 (b2.1 hq)]
  ·rw[if_neg hq,show(List.range os.length).all (fun o=>(iP tC qQ os ls s o).2.2)=false from Bool.eq_false_iff.2 fun hh=>hq (b2.2 (zO.1 hh))]
 ·rw[if_neg hr,show(List.range os.length).all (fun o=>(iP rJ qB os ls s o).2.2)=false from Bool.eq_false_iff.2 fun hh=>hr (a2.2 (zO.1 hh)),Bool.false_and]
def oG (os:List aZ) (ls:List aI):List aH×List aH×List aH×List aH×Int:=
 if oP os ls=0 then(if vZ os ls 0=true then(qP rJ qB os ls 0 os.length,zN rJ qB os ls 0 os.length,qP tC qQ os ls 0 os.length,zN tC qQ os ls 0 os.length,0)else([],[],[],[],9))else([],[],[],[],oP os ls)
theorem aX4 (os:List aZ) (ls:List aI) (k:Nat) (hk:61<=k):aaM.f k os ls=some (oG os ls):=by
 unfold aaM.f XH.f oG
 simp only[Option.bind_some]
 by_cases h:oP os ls=0
 ·rw[if_pos h,if_pos h]
  obtain⟨hL,hR⟩:=af4 h
  obtain⟨h5,h8,_,_⟩:=FM h
  obtain⟨r,a1,a2,a3⟩:=aX0 os ls h5.2 h8 hL 0 (by decide) k hk
  obtain⟨q,b1,b2,b3⟩:=aX1 os ls h5.2 h8 hR 0 (by decide) k hk
  unfold abZ.f
  simp only[Option.bind_some]
  rw[show((0:Nat):Int)=0 from rfl]at a1 b1
  rw[a1]
  simp only[Option.bind_some]
  unfold vZ
  by_cases hr:r.2.2=true
  ·rw[if_pos hr,b1]
   simp only[Option.bind_some]
   rw[show(List.range os.length).all (fun o=>(iP rJ qB os ls 0 o).2.2)=true from zO.2 (a2.1 hr),Bool.true_and]
   by_cases hq:q.2.2=true
   ·rw[if_pos hq,if_pos (show(List.range os.length).all (fun o=>(iP tC qQ os ls 0 o).2.2)=true from zO.2 (b2.1 hq)),(a3 hr).1,(a3 hr).2,(b3 hq).1,(b3 hq).2]
   ·rw[if_neg hq,if_neg (fun hh=>hq (b2.2 (zO.1 hh)))]
  ·rw[if_neg hr,show(List.range os.length).all (fun o=>(iP rJ qB os ls 0 o).2.2)=false from Bool.eq_false_iff.2 fun hh=>hr (a2.2 (zO.1 hh)),Bool.false_and,if_neg (by decide)]
 ·rw[if_neg h,if_neg h]
end Go.Proofs.YtcmfnebcmmklkaaDoor.Hand
namespace Go.Proofs.YtcmfnebcmmklkaaDoor.Hand
structure Lt where
 lo:Int
 hi:Int
 back:Bool
abbrev Iv:=Int×Int
def nK (s:Iv) (n:Int):Prop:=s.1<=n/\n<=s.2
def qR (a b:Iv):Iv:=(max a.1 b.1,min a.2 b.2)
def Lt.qU (l:Lt) (n x:Int):Int:=if l.back=true then n - x else n+x
def Lt.after (l:Lt) (s:Iv):Iv:=if l.back=true then(s.1 - l.hi,s.2 - l.lo)else(s.1+l.lo,s.2+l.hi)
def Lt.before (l:Lt) (s:Iv):Iv:=if l.back=true then(s.1+l.lo,s.2+l.hi)else(s.1 - l.hi,s.2 - l.lo)
def Lt.between (l:Lt) (f t:Iv):Iv:=if l.back=true then(f.1 - t.2,f.2 - t.1)else(t.1 - f.2,t.2 - f.1)
def Lt.Ok (l:Lt):Prop:=l.lo<=l.hi
theorem aET (a b:Iv) (n:Int):nK (qR a b) n↔nK a n/\nK b n:=by
 unfold nK qR
 simp only
 omega
theorem aX5 (l:Lt) (hl:l.Ok) (s:Iv) (hs:s.1<=s.2) (m:Int):nK (l.after s) m↔∃ n x,nK s n/\l.lo<=x/\x<=l.hi/\l.qU n x=m:=by
 unfold Lt.after Lt.qU nK
 unfold Lt.Ok at hl
 cases l.back
 ·simp only[Bool.false_eq_true,if_false]
  constructor
  ·rintro⟨h1,h2⟩
   exact⟨m - max l.lo (m - s.2),max l.lo (m - s.2),by omega,by omega,by omega,by omega⟩
  ·rintro⟨n,x,⟨h1,h2⟩,h3,h4,rfl⟩
   omega
 ·simp only[if_true]
  constructor
  ·rintro⟨h1,h2⟩
   exact⟨m+max l.lo (s.1 - m),max l.lo (s.1 - m),by omega,by omega,by omega,by omega⟩
  ·rintro⟨n,x,⟨h1,h2⟩,h3,h4,rfl⟩
   omega
theorem bj8 (l:Lt) (hl:l.Ok) (t:Iv) (ht:t.1<=t.2) (n:Int):nK (l.before t) n↔∃ x,l.lo<=x/\x<=l.hi/\nK t (l.qU n x):=by
 unfold Lt.before Lt.qU nK
 unfold Lt.Ok at hl
 cases l.back
 ·simp only[Bool.false_eq_true,if_false]
  constructor
  ·rintro⟨h1,h2⟩
   exact⟨max l.lo (t.1 - n),by omega,by omega,by omega,by omega⟩
  ·rintro⟨x,h3,h4,h1,h2⟩
   omega
 ·simp only[if_true]
  constructor
  ·rintro⟨h1,h2⟩
   exact⟨max l.lo (n - t.2),by omega,by omega,by omega,by omega⟩
  ·rintro⟨x,h3,h4,h1,h2⟩
   omega
theorem bj9 (l:Lt) (f t:Iv) (hf:f.1<=f.2) (ht:t.1<=t.2) (x:Int):nK (l.between f t) x↔∃ n,nK f n/\nK t (l.qU n x):=by
 unfold Lt.between Lt.qU nK
 cases l.back
 ·simp only[Bool.false_eq_true,if_false]
  constructor
  ·rintro⟨h1,h2⟩
   exact⟨max f.1 (t.1 - x),by omega,by omega,by omega⟩
  ·rintro⟨n,h3,h1,h2⟩
   omega
 ·simp only[if_true]
  constructor
  ·rintro⟨h1,h2⟩
   exact⟨max f.1 (t.1+x),by omega,by omega,by omega⟩
  ·rintro⟨n,h3,h1,h2⟩
   omega
def BA (M:Int):Int->List Lt->List Int->Prop
 |_,[],[]=>True
 |n,l::ls,x::xs=>l.lo<=x/\x<=l.hi/\0<=l.qU n x/\l.qU n x<=M/\BA M (l.qU n x) ls xs
 |_,_,_=>False
def endOf:Int->List Lt->List Int->Int
 |n,l::ls,x::xs=>endOf (l.qU n x) ls xs
 |n,_,_=>n
theorem aeG {M:Int}:∀ {ls:List Lt} {n:Int} {xs:List Int},BA M n ls xs->xs.length=ls.length:=by
 intro ls
 induction ls with
 |nil=>intro n xs h;cases xs with
  |nil=>rfl
  |cons x xs=>exact h.elim
 |cons l ls ih=>intro n xs h;cases xs with
  |nil=>exact h.elim
  |cons x xs=>simp only[List.length_cons];rw[ih h.2.2.2.2]
def ZG (M:Int):Iv->List Lt->Option (Iv×List Iv×Iv)
 |s,[]=>some (s,[],s)
 |s,l::ls=>
  if(qR (l.after s) (0,M)).2<(qR (l.after s) (0,M)).1 then none
  else match ZG M (qR (l.after s) (0,M)) ls with
   |none=>none
   |some (t',cs,e)=>some (qR s (l.before t'),qR (l.lo,l.hi) (l.between (qR s (l.before t')) t')::cs,e)
structure anK (M:Int) (s:Iv) (ls:List Lt) (t:Iv) (cs:List Iv) (e:Iv):Prop where
 tne:t.1<=t.2
 tin:∀ n,nK t n↔nK s n/\∃ xs,BA M n ls xs
 len:cs.length=ls.length
 cne:∀ c∈cs,c.1<=c.2
 cin:∀ (i:Nat) (h:i<cs.length) x,nK cs[i] x↔∃ n xs,nK s n/\BA M n ls xs/\xs[i]? =some x
 ene:e.1<=e.2
 ein:∀ m,nK e m↔∃ n xs,nK s n/\BA M n ls xs/\endOf n ls xs=m
theorem aMP {M:Int}:∀ {ls:List Lt} {s:Iv},(∀ l∈ls,l.Ok)->s.1<=s.2->ZG M s ls=none->∀ n xs,nK s n->¬ BA M n ls xs:=by
 intro ls
 induction ls with
 |nil=>intro s _ _ h;cases h
 |cons l ls ih=>
  intro s hl hs h n xs hn ht
  have hl0:=hl l List.mem_cons_self
  cases xs with
  |nil=>exact ht
  |cons x xs=>
   obtain⟨h1,h2,h3,h4,h5⟩:=ht
   have hin:nK (qR (l.after s) (0,M)) (l.qU n x):=(aET _ _ _).2 ⟨(aX5 l hl0 s hs _).2 ⟨n,x,hn,h1,h2,rfl⟩,h3,h4⟩
   unfold ZG at h
   have hle:(qR (l.after s) (0,M)).1<=(qR (l.after s) (0,M)).2:=Int.le_trans hin.1 hin.2
   rw[if_neg (by omega)]at h
   cases hr:ZG M (qR (l.after s) (0,M)) ls with
   |none=>exact ih (fun l h=>hl l (List.mem_cons_of_mem _ h)) hle hr _ _ hin h5
   |some r=>rw[hr]at h;cases h
theorem aMQ {M:Int}:∀ {ls:List Lt} {s:Iv} {t:Iv} {cs:List Iv} {e:Iv},(∀ l∈ls,l.Ok)->s.1<=s.2->ZG M s ls=some (t,cs,e)->anK M s ls t cs e:=by
 intro ls
 induction ls with
 |nil=>
  intro s t cs e _ hs h
  obtain⟨rfl,h2⟩:=Prod.mk.inj (Option.some.inj h)
  obtain⟨rfl,rfl⟩:=Prod.mk.inj h2
  refine⟨hs,fun n=>⟨fun h=>⟨h,[],trivial⟩,fun h=>h.1⟩,rfl,by simp,fun i h=>by simp at h,hs,fun m=>⟨fun h=>⟨m,[],h,trivial,rfl⟩,?_⟩⟩
  rintro⟨n,xs,h1,h2,h3⟩
  cases xs with
  |nil=>exact h3 ▸ h1
  |cons x xs=>exact h2.elim
 |cons l ls ih=>
  intro s t cs e hl hs h
  have hl0:=hl l List.mem_cons_self
  unfold ZG at h
  split at h
  ·cases h
  rename_i hle
  cases hr:ZG M (qR (l.after s) (0,M)) ls with
  |none=>rw[hr]at h;cases h
  |some r=>
   obtain⟨t',cs',e'⟩:=r
   rw[hr]at h
   have T:=ih (fun l h=>hl l (List.mem_cons_of_mem _ h)) (by omega) hr
   obtain⟨rfl,h2⟩:=Prod.mk.inj (Option.some.inj h)
   obtain⟨rfl,rfl⟩:=Prod.mk.inj h2
   have hs':∀ m,nK (qR (l.after s) (0,M)) m↔(∃ n x,nK s n/\l.lo<=x/\x<=l.hi/\l.qU n x=m)/\0<=m/\m<=M:=fun m=>by
    rw[aET,aX5 l hl0 s hs];rfl
   have awU:∀ n,nK (qR s (l.before t')) n↔nK s n/\∃ x,l.lo<=x/\x<=l.hi/\nK t' (l.qU n x):=fun n=>by
    rw[aET,bj8 l hl0 t' T.tne]
   have aMR:(qR s (l.before t')).1<=(qR s (l.before t')).2:=by
    have h1:nK t' t'.1:=⟨Int.le_refl _,T.tne⟩
    obtain⟨n,x,h2,h3,h4,h5⟩:=((hs' _).1 ((T.tin _).1 h1).1).1
    have:=(awU n).2 ⟨h2,x,h3,h4,by rw[h5];exact h1⟩
    exact Int.le_trans this.1 this.2
   have hx:∀ x,nK (qR (l.lo,l.hi) (l.between (qR s (l.before t')) t')) x↔(l.lo<=x/\x<=l.hi)/\∃ n,nK s n/\nK t' (l.qU n x):=fun x=>by
    rw[aET,bj9 l _ t' aMR T.tne]
    constructor
    ·rintro⟨h1,n,h2,h3⟩
     exact⟨h1,n,((awU n).1 h2).1,h3⟩
    ·rintro⟨h1,n,h2,h3⟩
     exact⟨h1,n,(awU n).2 ⟨h2,x,h1.1,h1.2,h3⟩,h3⟩
   refine⟨aMR,fun n=>?_,by simp[T.len],fun c hc=>?_,fun i hi x=>?_,T.ene,fun m=>?_⟩
   ·rw[awU]
    constructor
    ·rintro⟨h1,x,h2,h3,h4⟩
     obtain⟨h5,xs,h6⟩:=(T.tin _).1 h4
     exact⟨h1,x::xs,h2,h3,((hs' _).1 h5).2.1,((hs' _).1 h5).2.2,h6⟩
    ·rintro⟨h1,xs,h2⟩
     cases xs with
     |nil=>exact h2.elim
     |cons x xs=>
      obtain⟨h3,h4,h5,h6,h7⟩:=h2
      exact⟨h1,x,h3,h4,(T.tin _).2 ⟨(hs' _).2 ⟨⟨n,x,h1,h3,h4,rfl⟩,h5,h6⟩,xs,h7⟩⟩
   ·rcases List.mem_cons.1 hc with rfl|hc
    ·have h1:nK (qR s (l.before t')) (qR s (l.before t')).1:=⟨Int.le_refl _,aMR⟩
     obtain⟨h2,x,h3,h4,h5⟩:=(awU _).1 h1
     have:=(hx x).2 ⟨⟨h3,h4⟩,_,h2,h5⟩
     exact Int.le_trans this.1 this.2
    ·exact T.cne c hc
   ·cases i with
    |zero=>
     rw[List.getElem_cons_zero,hx]
     constructor
     ·rintro⟨⟨h1,h2⟩,n,h3,h4⟩
      obtain⟨h5,xs,h6⟩:=(T.tin _).1 h4
      exact⟨n,x::xs,h3,⟨h1,h2,((hs' _).1 h5).2.1,((hs' _).1 h5).2.2,h6⟩,rfl⟩
     ·rintro⟨n,xs,h1,h2,h3⟩
      cases xs with
      |nil=>exact h2.elim
      |cons y xs=>
       obtain rfl:y=x:=by simpa using h3
       obtain⟨h3,h4,h5,h6,h7⟩:=h2
       exact⟨⟨h3,h4⟩,n,h1,(T.tin _).2 ⟨(hs' _).2 ⟨⟨n,y,h1,h3,h4,rfl⟩,h5,h6⟩,xs,h7⟩⟩
    |succ i=>
     rw[List.getElem_cons_succ,T.cin i (by simpa using hi)]
     constructor
     ·rintro⟨n',xs,h1,h2,h3⟩
      obtain⟨⟨n,y,h4,h5,h6,rfl⟩,h7,h8⟩:=(hs' _).1 h1
      exact⟨n,y::xs,h4,⟨h5,h6,h7,h8,h2⟩,by simpa using h3⟩
     ·rintro⟨n,xs,h1,h2,h3⟩
      cases xs with
      |nil=>exact h2.elim
      |cons y xs=>
       obtain⟨h4,h5,h6,h7,h8⟩:=h2
       exact⟨l.qU n y,xs,(hs' _).2 ⟨⟨n,y,h1,h4,h5,rfl⟩,h6,h7⟩,h8,by simpa using h3⟩
   ·rw[T.ein]
    constructor
    ·rintro⟨n',xs,h1,h2,h3⟩
     obtain⟨⟨n,y,h4,h5,h6,rfl⟩,h7,h8⟩:=(hs' _).1 h1
     exact⟨n,y::xs,h4,⟨h5,h6,h7,h8,h2⟩,h3⟩
    ·rintro⟨n,xs,h1,h2,h3⟩
     cases xs with
     |nil=>exact h2.elim
     |cons y xs=>
      obtain⟨h4,h5,h6,h7,h8⟩:=h2
      exact⟨l.qU n y,xs,(hs' _).2 ⟨⟨n,y,h1,h4,h5,rfl⟩,h6,h7⟩,h8,h3⟩
theorem aMS {a b:Iv} (ha:a.1<=a.2) (hb:b.1<=b.2) (h:∀ n,nK a n↔nK b n):a=b:=by
 have h1:=(h a.1).1 ⟨Int.le_refl _,ha⟩
 have h2:=(h a.2).1 ⟨ha,Int.le_refl _⟩
 have h3:=(h b.1).2 ⟨Int.le_refl _,hb⟩
 have h4:=(h b.2).2 ⟨hb,Int.le_refl _⟩
 unfold nK at h1 h2 h3 h4
 exact Prod.ext (by omega) (by omega)
theorem aX6 {M:Int} (l:Lt) (x:Int):∀ (ls:List Lt) (xs:List Int) (n:Int),ls.length=xs.length->(BA M n (ls++[l]) (xs++[x])↔BA M n ls xs/\l.lo<=x/\x<=l.hi/\0<=l.qU (endOf n ls xs) x/\l.qU (endOf n ls xs) x<=M):=by
 intro ls
 induction ls with
 |nil=>
  intro xs n h
  obtain rfl:xs=[]:=List.length_eq_zero_iff.1 h.symm
  simp[BA,endOf]
 |cons l0 ls ih=>
  intro xs n h
  cases xs with
  |nil=>cases h
  |cons x0 xs=>
   simp only[List.cons_append,BA,endOf]
   rw[ih xs _ (by simpa using h)]
   constructor
   ·rintro⟨h1,h2,h3,h4,h5,h6⟩;exact⟨⟨h1,h2,h3,h4,h5⟩,h6⟩
   ·rintro⟨⟨h1,h2,h3,h4,h5⟩,h6⟩;exact⟨h1,h2,h3,h4,h5,h6⟩
theorem aX7 (l:Lt) (x:Int):∀ (ls:List Lt) (xs:List Int) (n:Int),ls.length=xs.length->endOf n (ls++[l]) (xs++[x])=l.qU (endOf n ls xs) x:=by
 intro ls
 induction ls with
 |nil=>
  intro xs n h
  obtain rfl:xs=[]:=List.length_eq_zero_iff.1 h.symm
  rfl
 |cons l0 ls ih=>
  intro xs n h
  cases xs with
  |nil=>cases h
  |cons x0 xs=>exact ih xs _ (by simpa using h)
theorem aEV {M:Int}:∀ {ls:List Lt} {n:Int} {xs:List Int},0<=n->n<=M->BA M n ls xs->0<=endOf n ls xs/\endOf n ls xs<=M:=by
 intro ls
 induction ls with
 |nil=>intro n xs h0 h1 h;cases xs<;>exact⟨h0,h1⟩
 |cons l ls ih=>
  intro n xs h0 h1 h
  cases xs with
  |nil=>exact h.elim
  |cons x xs=>exact ih h.2.2.1 h.2.2.2.1 h.2.2.2.2
theorem aX8 {M:Int}:∀ (aS_:List Lt) (xs:List Int) (bs:List Lt) (ys:List Int) (n:Int),aS_.length=xs.length->(BA M n (aS_++bs) (xs++ys)↔BA M n aS_ xs/\BA M (endOf n aS_ xs) bs ys):=by
 intro aS_
 induction aS_ with
 |nil=>
  intro xs bs ys n h
  obtain rfl:xs=[]:=List.length_eq_zero_iff.1 h.symm
  simp[BA,endOf]
 |cons a aS_ ih=>
  intro xs bs ys n h
  cases xs with
  |nil=>cases h
  |cons x xs=>
   simp only[List.cons_append,BA,endOf]
   rw[ih xs bs ys _ (by simpa using h)]
   constructor
   ·rintro⟨h1,h2,h3,h4,h5,h6⟩;exact⟨⟨h1,h2,h3,h4,h5⟩,h6⟩
   ·rintro⟨⟨h1,h2,h3,h4,h5⟩,h6⟩;exact⟨h1,h2,h3,h4,h5,h6⟩
def Reach (M:Int) (ls:List Lt) (i:Nat) (m:Int):Prop:=∃ xs,BA M 0 (ls.take i) xs/\endOf 0 (ls.take i) xs=m
theorem aX9 {M:Int} {ls:List Lt} {m:Int}:Reach M ls 0 m↔m=0:=by
 constructor
 ·rintro⟨xs,h1,h2⟩
  rw[List.take_zero]at h1 h2
  cases xs with
  |nil=>exact h2.symm
  |cons x xs=>exact h1.elim
 ·rintro rfl
  exact⟨[],trivial,rfl⟩
theorem aEW {M:Int} {ls:List Lt} {i:Nat} (hi:i<ls.length) {m:Int}:Reach M ls (i+1) m↔(0<=m/\m<=M)/\∃ n x,Reach M ls i n/\ls[i].lo<=x/\x<=ls[i].hi/\ls[i].qU n x=m:=by
 have ht:ls.take (i+1)=ls.take i++[ls[i]]:=by rw[List.take_succ_eq_append_getElem hi]
 have hlen:(ls.take i).length=i:=by rw[List.length_take];omega
 constructor
 ·rintro⟨xs,h1,h2⟩
  have hl:=aeG h1
  rw[ht]at h1 h2
  have hx:xs=xs.take i++[xs[i]'(by rw[hl,List.length_take];omega)]:=by
   rw[<-List.take_succ_eq_append_getElem,List.take_of_length_le (by rw[hl,List.length_take];omega)]
  have hl2:(ls.take i).length=(xs.take i).length:=by rw[List.length_take,List.length_take,hl,List.length_take];omega
  rw[hx]at h1 h2
  rw[aX6 _ _ _ _ _ hl2]at h1
  rw[aX7 _ _ _ _ _ hl2]at h2
  obtain⟨h3,h4,h5,h6,h7⟩:=h1
  rw[h2]at h6 h7
  exact⟨⟨h6,h7⟩,_,_,⟨_,h3,rfl⟩,h4,h5,h2⟩
 ·rintro⟨⟨h6,h7⟩,n,x,⟨xs,h1,h2⟩,h4,h5,h3⟩
  have hl2:(ls.take i).length=xs.length:=(aeG h1).symm
  refine⟨xs++[x],?_,?_⟩
  ·rw[ht,aX6 _ _ _ _ _ hl2,h2,h3]
   exact⟨h1,h4,h5,h6,h7⟩
  ·rw[ht,aX7 _ _ _ _ _ hl2,h2,h3]
def Fits (M:Int) (ls:List Lt) (i:Nat) (n:Int):Prop:=Reach M ls i n/\∃ ys,BA M n (ls.drop i) ys
theorem bkA {M:Int} {ls:List Lt} {n:Int}:Fits M ls ls.length n↔Reach M ls ls.length n:=by
 constructor
 ·exact fun h=>h.1
 ·intro h
  refine⟨h,[],?_⟩
  rw[List.drop_length]
  trivial
theorem bkB {M:Int} {ls:List Lt} {i:Nat} (hi:i<ls.length) {n:Int}:Fits M ls i n↔Reach M ls i n/\∃ x,ls[i].lo<=x/\x<=ls[i].hi/\0<=ls[i].qU n x/\ls[i].qU n x<=M/\Fits M ls (i+1) (ls[i].qU n x):=by
 have hd:ls.drop i=ls[i]::ls.drop (i+1):=List.drop_eq_getElem_cons hi
 constructor
 ·rintro⟨h1,ys,h2⟩
  rw[hd]at h2
  cases ys with
  |nil=>exact h2.elim
  |cons y ys=>
   obtain⟨h3,h4,h5,h6,h7⟩:=h2
   exact⟨h1,y,h3,h4,h5,h6,(aEW hi).2 ⟨⟨h5,h6⟩,n,y,h1,h3,h4,rfl⟩,ys,h7⟩
 ·rintro⟨h1,x,h3,h4,h5,h6,_,ys,h7⟩
  exact⟨h1,x::ys,by rw[hd];exact⟨h3,h4,h5,h6,h7⟩⟩
def ab5 (M:Int) (ls:List Lt) (i:Nat) (x:Int):Prop:=∃ xs,BA M 0 ls xs/\xs[i]? =some x
theorem bkC {M:Int} {ls:List Lt} {i:Nat} (hi:i<ls.length) {x:Int}:ab5 M ls i x↔(ls[i].lo<=x/\x<=ls[i].hi)/\∃ n,Reach M ls i n/\0<=ls[i].qU n x/\ls[i].qU n x<=M/\Fits M ls (i+1) (ls[i].qU n x):=by
 have hd:ls.drop i=ls[i]::ls.drop (i+1):=List.drop_eq_getElem_cons hi
 constructor
 ·rintro⟨xs,h1,h2⟩
  have hl:=aeG h1
  have hx:xs.drop i=x::xs.drop (i+1):=by
   obtain⟨h,e⟩:=List.getElem?_eq_some_iff.1 h2
   rw[List.drop_eq_getElem_cons h,e]
  rw[<-List.take_append_drop i ls,<-List.take_append_drop i xs,aX8 _ _ _ _ _ (by rw[List.length_take,List.length_take,hl]),hd,hx]at h1
  obtain⟨h3,h4,h5,h6,h7,h8⟩:=h1
  have hr:Reach M ls i (endOf 0 (ls.take i) (xs.take i)):=⟨_,h3,rfl⟩
  exact⟨⟨h4,h5⟩,_,hr,h6,h7,(aEW hi).2 ⟨⟨h6,h7⟩,_,x,hr,h4,h5,rfl⟩,_,h8⟩
 ·rintro⟨⟨h4,h5⟩,n,⟨xs,h1,rfl⟩,h6,h7,_,ys,h8⟩
  have hl2:(ls.take i).length=xs.length:=(aeG h1).symm
  refine⟨xs++x::ys,?_,?_⟩
  ·rw[<-List.take_append_drop i ls,aX8 _ _ _ _ _ hl2,hd]
   exact⟨h1,h4,h5,h6,h7,h8⟩
  ·rw[List.length_take]at hl2
   rw[List.getElem?_append_right (by omega),show i - xs.length=0 by omega]
   rfl
def UI (M:Nat) (l:Lt) (n:Int) (nx:List Bool):Nat->List Bool
 |0=>nx
 |j+1=>if 0<=l.qU n (l.lo+j)/\l.qU n (l.lo+j)<=M then(UI M l n nx j).set (l.qU n (l.lo+j)).toNat true else UI M l n nx j
def BB (M:Nat) (l:Lt) (now:List Bool):Nat->List Bool
 |0=>List.replicate (M+1) false
 |n+1=>if now.getD n false=true then UI M l n (BB M l now n) (l.hi - l.lo+1).toNat else BB M l now n
def rowB (M:Nat) (lt:Nat->Lt):Nat->List Bool
 |0=>(List.replicate (M+1) false).set 0 true
 |i+1=>BB M (lt i) (rowB M lt i) (M+1)
theorem aMT (M:Nat) (l:Lt) (n:Int) (nx:List Bool):∀ j,(UI M l n nx j).length=nx.length:=by
 intro j
 induction j with
 |zero=>rfl
 |succ j ih=>unfold UI;split<;>simp[ih]
theorem aMU (M:Nat) (l:Lt) (now:List Bool):∀ n,(BB M l now n).length=M+1:=by
 intro n
 induction n with
 |zero=>simp[BB]
 |succ n ih=>unfold BB;split<;>simp[ih,aMT]
theorem XL (M:Nat) (lt:Nat->Lt):∀ i,(rowB M lt i).length=M+1:=by
 intro i
 cases i with
 |zero=>simp[rowB]
 |succ i=>exact aMU _ _ _ _
theorem aMV (L:List Bool) (i m:Nat) (hi:i<L.length):((L.set i true).getD m false=true)↔m=i∨L.getD m false=true:=by
 rw[List.getD_eq_getElem?_getD,List.getD_eq_getElem?_getD,List.getElem?_set]
 by_cases h:i=m
 ·subst h;simp[hi]
 ·rw[if_neg h]
  constructor
  ·exact .inr
  ·rintro(h2|h2)
   ·exact absurd h2.symm h
   ·exact h2
theorem bkD (M:Nat) (l:Lt) (n:Int) (nx:List Bool) (hn:nx.length=M+1) (m:Nat):∀ j:Nat,(UI M l n nx j).getD m false=true↔nx.getD m false=true∨(m<=M/\∃ k:Nat,k<j/\l.qU n (l.lo+k)=m):=by
 intro j
 induction j with
 |zero=>exact⟨.inl,fun h=>h.elim id fun⟨_,k,h,_⟩=>absurd h (by omega)⟩
 |succ j ih=>
  unfold UI
  by_cases h:0<=l.qU n (l.lo+j)/\l.qU n (l.lo+j)<=M
  ·rw[if_pos h,aMV _ _ _ (by rw[aMT,hn];omega),ih]
   constructor
   ·rintro(h1|h1|⟨h1,k,h2,h3⟩)
    ·exact .inr ⟨by omega,j,by omega,by omega⟩
    ·exact .inl h1
    ·exact .inr ⟨h1,k,by omega,h3⟩
   ·rintro(h1|⟨h1,k,h2,h3⟩)
    ·exact .inr (.inl h1)
    ·rcases Nat.lt_or_ge k j with h4|h4
     ·exact .inr (.inr ⟨h1,k,h4,h3⟩)
     ·obtain rfl:k=j:=by omega
      exact .inl (by omega)
  ·rw[if_neg h,ih]
   constructor
   ·rintro(h1|⟨h1,k,h2,h3⟩)
    ·exact .inl h1
    ·exact .inr ⟨h1,k,by omega,h3⟩
   ·rintro(h1|⟨h1,k,h2,h3⟩)
    ·exact .inl h1
    ·rcases Nat.lt_or_ge k j with h4|h4
     ·exact .inr ⟨h1,k,h4,h3⟩
     ·obtain rfl:k=j:=by omega
      exact absurd h3 (by omega)
theorem bkE (M:Nat) (l:Lt) (hl:l.lo<=l.hi) (now:List Bool) (m:Nat):∀ n:Nat,(BB M l now n).getD m false=true↔m<=M/\∃ (i:Nat) (x:Int),i<n/\now.getD i false=true/\l.lo<=x/\x<=l.hi/\l.qU i x=m:=by
 intro n
 induction n with
 |zero=>
  constructor
  ·intro h
   unfold BB at h
   rw[List.getD_eq_getElem?_getD,List.getElem?_replicate]at h
   split at h<;>simp at h
  ·rintro⟨_,i,_,h,_⟩
   exact absurd h (by omega)
 |succ n ih=>
  unfold BB
  by_cases h:now.getD n false=true
  ·rw[if_pos h,bkD _ _ _ _ (aMU _ _ _ _),ih]
   constructor
   ·rintro(⟨h1,i,x,h2,h3⟩|⟨h1,k,h2,h3⟩)
    ·exact⟨h1,i,x,by omega,h3⟩
    ·exact⟨h1,n,l.lo+k,by omega,h,by omega,by omega,h3⟩
   ·rintro⟨h1,i,x,h2,h3,h4,h5,h6⟩
    rcases Nat.lt_or_ge i n with h7|h7
    ·exact .inl ⟨h1,i,x,h7,h3,h4,h5,h6⟩
    ·obtain rfl:i=n:=by omega
     refine .inr ⟨h1,(x - l.lo).toNat,by omega,?_⟩
     rw[show l.lo+((x - l.lo).toNat:Int)=x by omega]
     exact h6
  ·rw[if_neg h,ih]
   constructor
   ·rintro⟨h1,i,x,h2,h3⟩
    exact⟨h1,i,x,by omega,h3⟩
   ·rintro⟨h1,i,x,h2,h3,h4⟩
    rcases Nat.lt_or_ge i n with h7|h7
    ·exact⟨h1,i,x,h7,h3,h4⟩
    ·obtain rfl:i=n:=by omega
     exact absurd h3 h
theorem aMW {M:Nat} {ls:List Lt}:∀ {i:Nat},i<=ls.length->∀ {n:Int},Reach M ls i n->0<=n/\n<=M:=by
 intro i hi n h
 cases i with
 |zero=>
  have:=aX9.1 h
  omega
 |succ i=>exact((aEW (by omega)).1 h).1
theorem aiH (M:Nat) (ls:List Lt) (hl:∀ l∈ls,l.lo<=l.hi) (lt:Nat->Lt) (hlt:∀ i (h:i<ls.length),lt i=ls[i]):∀ (i:Nat),i<=ls.length->∀ m:Nat,(rowB M lt i).getD m false=true↔Reach M ls i m:=by
 intro i
 induction i with
 |zero=>
  intro _ m
  rw[aX9,rowB,aMV _ _ _ (by simp)]
  rw[List.getD_eq_getElem?_getD,List.getElem?_replicate]
  constructor
  ·rintro(h|h)
   ·subst h;rfl
   ·split at h<;>simp at h
  ·intro h;exact .inl (by omega)
 |succ i ih=>
  intro hi m
  rw[rowB,bkE M (lt i) (by rw[hlt i (by omega)];exact hl _ (List.getElem_mem _)),aEW (by omega),hlt i (by omega)]
  constructor
  ·rintro⟨h1,k,x,h2,h3,h4,h5,h6⟩
   exact⟨⟨by omega,by omega⟩,k,x,(ih (by omega) k).1 h3,h4,h5,h6⟩
  ·rintro⟨h1,n,x,h2,h3,h4,h5⟩
   have hn:=aMW (by omega) h2
   obtain⟨k,rfl⟩:∃ k:Nat,n=k:=⟨n.toNat,by omega⟩
   exact⟨by omega,k,x,by omega,(ih (by omega) k).2 h2,h3,h4,h5⟩
structure anL where
 F:List Bool
 fd:Bool
 lo:Int
 hi:Int
def zQ (M:Nat) (l:Lt) (r0 r1:List Bool) (x:Int) (n:Nat):Bool:=r0.getD n false&&decide (0<=l.qU n x/\l.qU n x<=M)&&r1.getD (l.qU n x).toNat false
def nZ (M:Nat) (l:Lt) (r0 r1:List Bool) (x:Int) (st:anL):Nat->anL
 |0=>st
 |n+1=>if zQ M l r0 r1 x n=true then⟨(nZ M l r0 r1 x st n).F.set n true,true,if(nZ M l r0 r1 x st n).fd=true then(nZ M l r0 r1 x st n).lo else x,x⟩else nZ M l r0 r1 x st n
def pO (M:Nat) (l:Lt) (r0 r1:List Bool):Nat->anL
 |0=>⟨List.replicate (M+1) false,false,0,0⟩
 |j+1=>nZ M l r0 r1 (l.lo+j) (pO M l r0 r1 j) (M+1)
theorem awV (M:Nat) (l:Lt) (r0 r1:List Bool) (x:Int) (st:anL):∀ n,(nZ M l r0 r1 x st n).F.length=st.F.length:=by
 intro n
 induction n with
 |zero=>rfl
 |succ n ih=>unfold nZ;split<;>simp[ih]
theorem awW (M:Nat) (l:Lt) (r0 r1:List Bool):∀ j,(pO M l r0 r1 j).F.length=M+1:=by
 intro j
 induction j with
 |zero=>simp[pO]
 |succ j ih=>rw[pO,awV,ih]
theorem bkF (M:Nat) (l:Lt) (r0 r1:List Bool) (x:Int) (st:anL) (hF:st.F.length=M+1):∀ n:Nat,n<=M+1->
  (∀ i:Nat,(nZ M l r0 r1 x st n).F.getD i false=true↔st.F.getD i false=true∨(i<n/\zQ M l r0 r1 x i=true))/\
  ((∀ i,i<n->¬ zQ M l r0 r1 x i=true)->(nZ M l r0 r1 x st n).fd=st.fd/\(nZ M l r0 r1 x st n).lo=st.lo/\(nZ M l r0 r1 x st n).hi=st.hi)/\
  ((∃ i,i<n/\zQ M l r0 r1 x i=true)->(nZ M l r0 r1 x st n).fd=true/\(nZ M l r0 r1 x st n).lo=(if st.fd=true then st.lo else x)/\(nZ M l r0 r1 x st n).hi=x):=by
 intro n
 induction n with
 |zero=>exact fun _=>⟨fun i=>⟨.inl,fun h=>h.elim id fun⟨h,_⟩=>absurd h (by omega)⟩,fun _=>⟨rfl,rfl,rfl⟩,fun⟨i,h,_⟩=>absurd h (by omega)⟩
 |succ n ih=>
  intro hn
  obtain⟨i1,i2,i3⟩:=ih (by omega)
  unfold nZ
  by_cases h:zQ M l r0 r1 x n=true
  ·rw[if_pos h]
   refine⟨fun i=>?_,fun hh=>absurd h (hh n (by omega)),fun _=>⟨rfl,?_,rfl⟩⟩
   ·show((nZ M l r0 r1 x st n).F.set n true).getD i false=true↔_
    rw[aMV _ _ _ (by rw[awV,hF];omega),i1]
    constructor
    ·rintro(rfl|h1|⟨h1,h2⟩)
     ·exact .inr ⟨by omega,h⟩
     ·exact .inl h1
     ·exact .inr ⟨by omega,h2⟩
    ·rintro(h1|⟨h1,h2⟩)
     ·exact .inr (.inl h1)
     ·rcases Nat.lt_or_ge i n with h4|h4
      ·exact .inr (.inr ⟨h4,h2⟩)
      ·exact .inl (by omega)
   ·show(if(nZ M l r0 r1 x st n).fd=true then(nZ M l r0 r1 x st n).lo else x)=_
    by_cases hex:∃ i,i<n/\zQ M l r0 r1 x i=true
    ·obtain⟨a,b,c⟩:=i3 hex
     rw[if_pos a,b]
    ·obtain⟨a,b,c⟩:=i2 (fun i hi hb=>hex ⟨i,hi,hb⟩)
     rw[a,b]
  ·rw[if_neg h]
   refine⟨fun i=>?_,fun hh=>i2 fun i hi=>hh i (by omega),fun⟨i,hi,hb⟩=>i3 ⟨i,?_,hb⟩⟩
   ·rw[i1]
    constructor
    ·rintro(h1|⟨h1,h2⟩)
     ·exact .inl h1
     ·exact .inr ⟨by omega,h2⟩
    ·rintro(h1|⟨h1,h2⟩)
     ·exact .inl h1
     ·rcases Nat.lt_or_ge i n with h4|h4
      ·exact .inr ⟨h4,h2⟩
      ·obtain rfl:i=n:=by omega
       exact absurd h2 h
   ·rcases Nat.lt_or_ge i n with h4|h4
    ·exact h4
    ·obtain rfl:i=n:=by omega
     exact absurd hb h
theorem aYA (M:Nat) (l:Lt) (r0 r1:List Bool):∀ j:Nat,
  (∀ i:Nat,(pO M l r0 r1 j).F.getD i false=true↔i<=M/\∃ k:Nat,k<j/\zQ M l r0 r1 (l.lo+k) i=true)/\
  ((∀ (k i:Nat),k<j->i<=M->¬ zQ M l r0 r1 (l.lo+k) i=true)->(pO M l r0 r1 j).fd=false)/\
  ((∃ (k i:Nat),k<j/\i<=M/\zQ M l r0 r1 (l.lo+k) i=true)->(pO M l r0 r1 j).fd=true/\
   (∃ a:Nat,a<j/\(pO M l r0 r1 j).lo=l.lo+a/\(∃ i,i<=M/\zQ M l r0 r1 (l.lo+a) i=true)/\∀ (k i:Nat),k<j->i<=M->zQ M l r0 r1 (l.lo+k) i=true->a<=k)/\
   (∃ a:Nat,a<j/\(pO M l r0 r1 j).hi=l.lo+a/\(∃ i,i<=M/\zQ M l r0 r1 (l.lo+a) i=true)/\∀ (k i:Nat),k<j->i<=M->zQ M l r0 r1 (l.lo+k) i=true->k<=a)):=by
 intro j
 induction j with
 |zero=>
  refine⟨fun i=>⟨fun h=>?_,fun⟨_,k,h,_⟩=>absurd h (by omega)⟩,fun _=>rfl,fun⟨k,i,h,_⟩=>absurd h (by omega)⟩
  unfold pO at h
  simp only at h
  rw[List.getD_eq_getElem?_getD,List.getElem?_replicate]at h
  split at h<;>simp at h
 |succ j ih=>
  obtain⟨i1,i2,i3⟩:=ih
  obtain⟨n1,n2,n3⟩:=bkF M l r0 r1 (l.lo+j) (pO M l r0 r1 j) (awW _ _ _ _ _) (M+1) (Nat.le_refl _)
  rw[pO]
  refine⟨fun i=>?_,fun hh=>?_,fun hex=>?_⟩
  ·rw[n1,i1]
   constructor
   ·rintro(⟨h1,k,h2,h3⟩|⟨h1,h2⟩)
    ·exact⟨h1,k,by omega,h3⟩
    ·exact⟨by omega,j,by omega,h2⟩
   ·rintro⟨h1,k,h2,h3⟩
    rcases Nat.lt_or_ge k j with h4|h4
    ·exact .inl ⟨h1,k,h4,h3⟩
    ·obtain rfl:k=j:=by omega
     exact .inr ⟨by omega,h3⟩
  ·rw[(n2 fun i hi=>hh j i (by omega) (by omega)).1]
   exact i2 fun k i hk=>hh k i (by omega)
  ·by_cases hj:∃ i,i<M+1/\zQ M l r0 r1 (l.lo+j) i=true
   ·obtain⟨a1,a2,a3⟩:=n3 hj
    obtain⟨i,hi,hb⟩:=hj
    refine⟨a1,?_,j,by omega,a3,⟨i,by omega,hb⟩,fun k i hk _ _=>by omega⟩
    by_cases hold:∃ (k i:Nat),k<j/\i<=M/\zQ M l r0 r1 (l.lo+k) i=true
    ·obtain⟨b1,⟨a,b2,b3,b4,b5⟩,_⟩:=i3 hold
     refine⟨a,by omega,?_,b4,fun k i hk hi hb=>?_⟩
     ·rw[a2,if_pos b1];exact b3
     ·rcases Nat.lt_or_ge k j with h4|h4
      ·exact b5 k i h4 hi hb
      ·omega
    ·have hf:=i2 fun k i hk hi hb=>hold ⟨k,i,hk,hi,hb⟩
     refine⟨j,by omega,?_,⟨i,by omega,hb⟩,fun k i hk hi hb=>?_⟩
     ·rw[a2,hf,if_neg (by decide)]
     ·rcases Nat.lt_or_ge k j with h4|h4
      ·exact absurd ⟨k,i,h4,hi,hb⟩ hold
      ·omega
   ·obtain⟨a1,a2,a3⟩:=n2 fun i hi hb=>hj ⟨i,hi,hb⟩
    have hold:∃ (k i:Nat),k<j/\i<=M/\zQ M l r0 r1 (l.lo+k) i=true:=by
     obtain⟨k,i,hk,hi,hb⟩:=hex
     rcases Nat.lt_or_ge k j with h4|h4
     ·exact⟨k,i,h4,hi,hb⟩
     ·obtain rfl:k=j:=by omega
      exact absurd ⟨i,by omega,hb⟩ hj
    obtain⟨b1,⟨a,b2,b3,b4,b5⟩,c,c2,c3,c4,c5⟩:=i3 hold
    rw[a1,a2,a3]
    refine⟨b1,⟨a,by omega,b3,b4,fun k i hk hi hb=>?_⟩,c,by omega,c3,c4,fun k i hk hi hb=>?_⟩
    ·rcases Nat.lt_or_ge k j with h4|h4
     ·exact b5 k i h4 hi hb
     ·obtain rfl:k=j:=by omega
      exact absurd ⟨i,by omega,hb⟩ hj
    ·rcases Nat.lt_or_ge k j with h4|h4
     ·exact c5 k i h4 hi hb
     ·obtain rfl:k=j:=by omega
      exact absurd ⟨i,by omega,hb⟩ hj
def GZ (M:Nat) (lt:Nat->Lt) (n:Nat):Nat->anL
 |0=>⟨rowB M lt n,true,0,0⟩
 |d+1=>pO M (lt (n - (d+1))) (rowB M lt (n - (d+1))) (GZ M lt n d).F ((lt (n - (d+1))).hi - (lt (n - (d+1))).lo+1).toNat
def lG (M:Nat) (lt:Nat->Lt) (n i:Nat):anL:=GZ M lt n (n - i)
theorem aiI (M:Nat) (lt:Nat->Lt) (n:Nat):lG M lt n n=⟨rowB M lt n,true,0,0⟩:=by unfold lG;rw[Nat.sub_self];rfl
theorem arG (M:Nat) (lt:Nat->Lt) {n i:Nat} (h:i<n):lG M lt n i=pO M (lt i) (rowB M lt i) (lG M lt n (i+1)).F ((lt i).hi - (lt i).lo+1).toNat:=by
 unfold lG
 rw[show n - i=(n - (i+1))+1 by omega,GZ,show n - (n - (i+1)+1)=i by omega]
theorem aMX (M:Nat) (lt:Nat->Lt) {n i:Nat} (h:i<=n):(lG M lt n i).F.length=M+1:=by
 rcases Nat.eq_or_lt_of_le h with rfl|h
 ·rw[aiI];exact XL _ _ _
 ·rw[arG M lt h,awW]
theorem aYB (M:Nat) (ls:List Lt) (hl:∀ l∈ls,l.lo<=l.hi) (lt:Nat->Lt) (hlt:∀ i (h:i<ls.length),lt i=ls[i]):∀ (d i:Nat),i+d=ls.length->∀ m:Nat,(lG M lt ls.length i).F.getD m false=true↔Fits M ls i m:=by
 intro d
 induction d with
 |zero=>
  intro i hi m
  obtain rfl:i=ls.length:=by omega
  rw[aiI,bkA]
  exact aiH M ls hl lt hlt _ (Nat.le_refl _) m
 |succ d ih=>
  intro i hi m
  have hil:i<ls.length:=by omega
  have hli:=hl _ (List.getElem_mem hil)
  rw[arG M lt hil,(aYA _ _ _ _ _).1,bkB hil,hlt i hil]
  constructor
  ·rintro⟨h1,k,h2,h3⟩
   unfold zQ at h3
   simp only[Bool.and_eq_true,decide_eq_true_iff]at h3
   obtain⟨⟨h4,h5,h6⟩,h7⟩:=h3
   refine⟨(aiH M ls hl lt hlt i (by omega) m).1 h4,_,by omega,by omega,h5,h6,?_⟩
   have:=(ih (i+1) (by omega) _).1 h7
   rw[Int.toNat_of_nonneg h5]at this
   exact this
  ·rintro⟨h1,x,h2,h3,h4,h5,h6⟩
   have hb:=aMW (by omega) h1
   refine⟨by omega,(x - ls[i].lo).toNat,by omega,?_⟩
   unfold zQ
   rw[show ls[i].lo+((x - ls[i].lo).toNat:Int)=x by omega]
   simp only[Bool.and_eq_true,decide_eq_true_iff]
   refine⟨⟨(aiH M ls hl lt hlt i (by omega) m).2 h1,h4,h5⟩,(ih (i+1) (by omega) _).2 ?_⟩
   rw[Int.toNat_of_nonneg h4]
   exact h6
theorem bkG (M:Nat) (ls:List Lt) (hl:∀ l∈ls,l.lo<=l.hi) (lt:Nat->Lt) (hlt:∀ i (h:i<ls.length),lt i=ls[i]) {i:Nat} (hi:i<ls.length) (x:Int):
  ab5 M ls i x↔(ls[i].lo<=x/\x<=ls[i].hi)/\∃ n:Nat,n<=M/\zQ M (lt i) (rowB M lt i) (lG M lt ls.length (i+1)).F x n=true:=by
 rw[bkC hi,hlt i hi]
 refine and_congr Iff.rfl ?_
 unfold zQ
 simp only[Bool.and_eq_true,decide_eq_true_iff]
 constructor
 ·rintro⟨n,h1,h2,h3,h4⟩
  have hb:=aMW (by omega) h1
  obtain⟨k,rfl⟩:∃ k:Nat,n=k:=⟨n.toNat,by omega⟩
  refine⟨k,by omega,⟨(aiH M ls hl lt hlt i (by omega) k).2 h1,h2,h3⟩,(aYB M ls hl lt hlt (ls.length - (i+1)) (i+1) (by omega) _).2 ?_⟩
  rw[Int.toNat_of_nonneg h2]
  exact h4
 ·rintro⟨k,h1,⟨h2,h3,h4⟩,h5⟩
  refine⟨k,(aiH M ls hl lt hlt i (by omega) k).1 h2,h3,h4,?_⟩
  have:=(aYB M ls hl lt hlt (ls.length - (i+1)) (i+1) (by omega) _).1 h5
  rw[Int.toNat_of_nonneg h3]at this
  exact this
theorem af5 (M:Nat) (ls:List Lt) (hl:∀ l∈ls,l.lo<=l.hi) (lt:Nat->Lt) (hlt:∀ i (h:i<ls.length),lt i=ls[i]) {i:Nat} (hi:i<ls.length):
  ((lG M lt ls.length i).fd=true↔∃ x,ab5 M ls i x)/\((lG M lt ls.length i).fd=true->ab5 M ls i (lG M lt ls.length i).lo/\ab5 M ls i (lG M lt ls.length i).hi/\∀ x,ab5 M ls i x->(lG M lt ls.length i).lo<=x/\x<=(lG M lt ls.length i).hi):=by
 have hli:=hl _ (List.getElem_mem hi)
 obtain⟨_,f2,f3⟩:=aYA M (lt i) (rowB M lt i) (lG M lt ls.length (i+1)).F ((lt i).hi - (lt i).lo+1).toNat
 have key:=bkG M ls hl lt hlt hi
 rw[arG M lt hi]
 have hex:(∃ x,ab5 M ls i x)->∃ (k n:Nat),k<((lt i).hi - (lt i).lo+1).toNat/\n<=M/\zQ M (lt i) (rowB M lt i) (lG M lt ls.length (i+1)).F ((lt i).lo+k) n=true:=by
  rintro⟨x,hx⟩
  obtain⟨h1,n,h2,h3⟩:=(key x).1 hx
  refine⟨(x - ls[i].lo).toNat,n,by rw[hlt i hi];omega,h2,?_⟩
  rw[show(lt i).lo+((x - ls[i].lo).toNat:Int)=x by rw[hlt i hi];omega]
  exact h3
 have hback:(∃ (k n:Nat),k<((lt i).hi - (lt i).lo+1).toNat/\n<=M/\zQ M (lt i) (rowB M lt i) (lG M lt ls.length (i+1)).F ((lt i).lo+k) n=true)->∃ x,ab5 M ls i x:=by
  rintro⟨k,n,h1,h2,h3⟩
  rw[hlt i hi]at h1
  exact⟨(lt i).lo+k,(key _).2 ⟨by rw[hlt i hi];omega,n,h2,h3⟩⟩
 refine⟨⟨fun h=>?_,fun h=>(f3 (hex h)).1⟩,fun h=>?_⟩
 ·refine Classical.byContradiction fun hno=>?_
  rw[f2 fun k n hk hn hb=>hno (hback ⟨k,n,hk,hn,hb⟩)]at h
  cases h
 ·have he:∃ (k n:Nat),k<((lt i).hi - (lt i).lo+1).toNat/\n<=M/\zQ M (lt i) (rowB M lt i) (lG M lt ls.length (i+1)).F ((lt i).lo+k) n=true:=by
   refine Classical.byContradiction fun hno=>?_
   rw[f2 fun k n hk hn hb=>hno ⟨k,n,hk,hn,hb⟩]at h
   cases h
  obtain⟨_,⟨a,a1,a2,⟨p,a3,a4⟩,a5⟩,⟨b,b1,b2,⟨q,b3,b4⟩,b5⟩⟩:=f3 he
  rw[a2,b2]
  have aEX:=hlt i hi
  refine⟨(key _).2 ⟨by rw[aEX]at a1 ⊢;omega,p,a3,a4⟩,(key _).2 ⟨by rw[aEX]at b1 ⊢;omega,q,b3,b4⟩,fun x hx=>?_⟩
  obtain⟨h1,n,h2,h3⟩:=(key x).1 hx
  have hk:(x - (lt i).lo).toNat<((lt i).hi - (lt i).lo+1).toNat:=by rw[aEX];omega
  have hxe:(lt i).lo+((x - (lt i).lo).toNat:Int)=x:=by rw[aEX];omega
  have c1:=a5 (x - (lt i).lo).toNat n hk h2 (by rw[hxe];exact h3)
  have c2:=b5 (x - (lt i).lo).toNat n hk h2 (by rw[hxe];exact h3)
  omega
end Go.Proofs.YtcmfnebcmmklkaaDoor.Hand
namespace Go.Proofs.YtcmfnebcmmklkaaDoor.Hand
open Go.RowKit Go.Shelf Go.Proofs.YtcmfnebcmmklkaaDoorW.dQ Go.Proofs.YtcmfnebcmmklkaaDoorW.gG Go.Proofs.YtcmfnebcmmklkaaDoor.Q
attribute [local go_sem] Oper.semAt_some run_store_func
def BC (R:pU) (cs:List gQ) (wo:Nat) (d:List Int):Bool:= !(anW R cs d wo).isEmpty
def PM (R:pU) (cs:List gQ) (most:Int) (wo:Nat):List (List Int):=(exL most cs).filter (BC R cs wo)
theorem aFC {W:World} {b:Nat} {R:pU} {A:Option Addr} {n cp:Nat} {most:Int} (h:Box W b (qH R A n cp most) 141):
  W.cell? ⟨b,0,none⟩=some (.int .i64 R.l.f0)/\W.cell? ⟨b,1,none⟩=some (.int .i64 R.l.f1)/\W.cell? ⟨b,2,none⟩=some (.int .i64 R.r.f0)/\W.cell? ⟨b,3,none⟩=some (.int .i64 R.r.f1)/\W.cell? ⟨b,4,none⟩=some (.int .i64 R.t.f0)/\W.cell? ⟨b,5,none⟩=some (.int .i64 R.t.f1)/\W.cell? ⟨b,6,none⟩=some (.int .i64 R.off)/\W.cell? ⟨b,7,none⟩=some (.slice A n cp)/\W.cell? ⟨b,8,none⟩=some (.int .i64 most):=
 ⟨h.cell 0 rfl,h.cell 1 rfl,h.cell 2 rfl,h.cell 3 rfl,h.cell 4 rfl,h.cell 5 rfl,h.cell 6 rfl,h.cell 7 rfl,h.cell 8 rfl⟩
theorem aZC (R:pU) (hR:arQ R) (cs:List gQ) (hcs:∀ x∈cs,ZI x) (h5:cs.length<=5) (most:Int) (hm:0<=most/\most<=2) (A:Option Addr) (cp wo:Nat) (hwo:wo<32) (w:World) (hr:Kd.C vC w A cs.length cs):
  Calls Tryd.prog 94 #[.agg (qH R A cs.length cp most),.int .u64 (wo:Int)] w fun e w'=>∃ v,e=.returned v/\uX w' w.heap.size v (PM R cs most wo)/\Below w.heap.size w w':=by
 obtain⟨hxl,hxa⟩:=arS hm h5
 have hres:∀ (t:Array Value) (W:World) (v:Value),t.getD 4 undef=.pointer (some ⟨w.heap.size+2,0,none⟩)->Box W (w.heap.size+2) #[v] 56->(results Tryd.f94 t).run Tryd.prog W=.ok v W:=by
  intro t W v h1 b1
  have d0:W.cell? ⟨w.heap.size+2,0,none⟩=some v:=b1.cell 0 rfl
  simp only[Array.getD_eq_getD_getElem?]at h1
  clear b1
  simp[results,Tryd.results94,go_sem,h1,d0]
 obtain⟨Wa,hWa⟩:∃ Wa,((w.alloc (.cells (qH R A cs.length cp most) 141)).alloc (.cells #[.int .u64 (wo:Int)] 135)).alloc (.cells #[.slice none 0 0] 56)=Wa:=⟨_,rfl⟩
 have hba:Below w.heap.size w Wa:=by rw[<-hWa];exact(((Below.refl _ _).alloc (Nat.le_refl _) _).alloc (by simp) _).alloc (by simp;omega) _
 have x1:Box Wa w.heap.size (qH R A cs.length cp most) 141:=by rw[<-hWa];exact((Box.new _ _ _).alloc _).alloc _
 have x2:Box Wa (w.heap.size+1) #[.int .u64 (wo:Int)] 135:=by rw[<-hWa];exact(Box.new' _ _ _ (by simp)).alloc _
 have x3:Box Wa (w.heap.size+2) #[.slice none 0 0] 56:=by rw[<-hWa];exact Box.new' _ _ _ (by simp)
 have hsz:Wa.heap.size=w.heap.size+3:=by rw[<-hWa];simp
 have hcC:Kd.C vC Wa A cs.length cs:=Kd.bJ hr hba
 unfold qH at hWa
 refine(callsIn_wide (n:=0)).1 ?_
 refine callsIn_of_wp_marks Tryd.func94 rfl trivial ?_
 simp only[Tryd.ntmps94,List.size_toArray,List.length_cons,List.length_nil,Nat.reduceAdd,Nat.reduceSub,Array.replicate_succ,Array.replicate_zero,List.push_toArray,List.append_toArray,List.nil_append,List.cons_append,qH]
 obtain⟨c0,c1,c2,c3,c4,c5,c6,c7,c8⟩:=aFC x1
 gi_wp2
 clear c0 c1 c2 c3 c4 c5 c6 c7 c8 hWa
 refine be9 (gf:=112) (first:=#[.agg (qH R A cs.length cp most)]) (lb:=#[]) rfl (enters_of Tryd.func112 (by kernel_rfl) rfl) (blW R cs (fun x hx=>(hcs x hx).1) h5 most hm A cp w.heap.size) (by rintro x args W ⟨v,rfl,_⟩;rfl) (fun X Y h hi=>h.xW hi) (fun X Y h=>iZ.of_below h)
  (fun pre W=>∃ vL,uX W w.heap.size vL (pre.filter (BC R cs wo))/\Box W (w.heap.size+2) #[vL] 56/\Box W w.heap.size (qH R A cs.length cp most) 141/\Box W (w.heap.size+1) #[.int .u64 (wo:Int)] 135/\Below w.heap.size w W)
  (fun _ _ _=>False)
  (fun pre X Y ⟨vL,h1,h2,h3,h4,h5⟩ hi=>⟨vL,h1.xW hi,hi.box h2,hi.box h3,hi.box h4,nM.below h5 hba.size (Nat.le_refl _) hi⟩)
  (fun pre X Y ⟨vL,h1,h2,h3,h4,h5⟩ st=>⟨vL,h1.step st,h2.step st,h3.step st,h4.step st,h5.trans (st.mono h5.size)⟩)
  (fun _ _ _ _ h _=>h) (fun _ _ _ _ h _=>h)
  ⟨_,uX.nil _ _,x3,x1,x2,hba⟩ ⟨hba.size,hcC⟩
  (fun x a' W=>∃ (v:Value) (bd:Nat),eH W w.heap.size v x/\Box W bd #[v] 34/\w.heap.size+2<bd/\a'={ tmps:=#[.agg (qH R A cs.length cp most),.int .u64 (wo:Int),.pointer (some ⟨w.heap.size,0,none⟩),.pointer (some ⟨w.heap.size+1,0,none⟩),.pointer (some ⟨w.heap.size+1+1,0,none⟩),.pointer (some ⟨bd,0,none⟩),.agg (qH R A cs.length cp most),.func (.func 112) #[.agg (qH R A cs.length cp most)] #[],v,undef,undef,undef,undef,undef,undef,undef,undef,undef,undef],defers:=[]})
  (fun x a' X Y ⟨v,bd,h1,h2,h3,h4⟩ hi=>⟨v,bd,h1.xW hi,hi.box h2,h3,h4⟩) ?assign ?body ?done ?stop
 case assign=>
  rintro l pre x args W K ⟨vL,h1,h2,h3,h4,h5⟩ hv hp ⟨v,rfl,ho⟩ hK
  have hb:Below W.heap.size W (W.alloc (.cells #[v] 34)):=(Below.refl _ _).alloc (Nat.le_refl _) _
  obtain⟨Av,cv,rfl⟩:=ho.slice
  gi_wp2
  exact hK _ _ (iZ.of_below hb) (qK.of_below hb) ⟨vL,h1.step hb,h2.step hb,h3.step hb,h4.step hb,h5.trans (hb.mono h5.size)⟩ (hv.step hb) ⟨_,_,ho.below' hb,Box.new _ _ _,h2.lt,rfl⟩
 case body=>
  rintro l pre x a' W hl ⟨r₀,hr0⟩ ⟨vL,h1,h2,h3,h4,h5⟩ hv hp ⟨v,bd,ho,hbd,hbd2,rfl⟩
  have hxm:x∈exL most cs:=by
   obtain⟨z,hz⟩:=hp
   rw[<-hz]
   simp
  obtain⟨aZD,hxb⟩:=hxa x hxm
  have hxn:=Lib.hid aZD
  clear aZD hxm
  have hpl:(pre.filter (BC R cs wo)).length<=1000000:=by
   have h6:=List.length_filter_le (BC R cs wo) pre
   have h7:=hp.length_le
   simp at h7
   omega
  obtain⟨Av,cv,rfl⟩:=ho.slice
  obtain⟨c0,c1,c2,c3,c4,c5,c6,c7,c8⟩:=aFC h3
  have cd:W.cell? ⟨bd,0,none⟩=some (.slice Av x.length cv):=hbd.cell 0 rfl
  have cw:W.cell? ⟨w.heap.size+1,0,none⟩=some (.int .u64 (wo:Int)):=h4.cell 0 rfl
  have hwc:=Lib.hid (aY2 _ _ _ (qH R A cs.length cp most) rfl Av none x.length cv (wo:Int) rfl rfl W)
  gi_wp2_with fail
  refine⟨trivial,rfl,?_⟩
  refine((callsIn_wide.2 hwc.out).inRound l).mono ?_
  rintro e W1 ⟨rfl,y1,y2,y3,hb1⟩
  obtain⟨b,hbe⟩:∃ b,W.heap.size=b:=⟨_,rfl⟩
  have q1:=h1.step hb1
  have q2:=h2.step hb1
  have q3:=h3.step hb1
  have q4:=h4.step hb1
  have q5:=h5.trans (hb1.mono h5.size)
  have qv:=hv.step hb1
  have qo:=ho.below' hb1
  have qd:=hbd.step hb1
  have kk:=iZ.of_below hb1
  have ff:=qK.of_below (s:=Wa.heap.size) hb1
  have hlW:=iZ.of_below hb1 l _ hr0 rfl
  have hsz1:=hb1.size
  rw[hbe]at y1 y2 y3
  rw[hbe]
  clear hwc c0 c1 c2 c3 c4 c5 c6 c7 c8 cd cw hb1 h1 h2 h3 h4 h5 hv ho hbd
  have hiv:acB w.heap.size R A cs cp most Av cv x wo b (b+2) (b+1) W1:=⟨qv,y1,y3,y2,by
   have:=(Kd.dB qo.R).2.2
   exact this⟩
  gi_wp2
  refine bfA (r₀:=r₀) hlW (gf:=107) (first:=#[]) (lb:=#[.pointer (some ⟨b,0,none⟩),.pointer (some ⟨b+2,0,none⟩),.pointer (some ⟨b+1,0,none⟩)]) rfl (enters_of Tryd.func107 (by kernel_rfl) rfl) (aY7 R hR cs hcs (by omega) most A cp w.heap.size x hxn.out hxb Av cv wo hwo b (b+2) (b+1)) (by rintro z args W rfl;rfl) (fun X Y h hi=>h.xW hi) (fun X Y h=>iZ.of_below h)
   (fun pre2 X=>pre2=[]/\uX X w.heap.size vL (pre.filter (BC R cs wo))/\Box X (w.heap.size+2) #[vL] 56/\Box X w.heap.size (qH R A cs.length cp most) 141/\Box X (w.heap.size+1) #[.int .u64 (wo:Int)] 135/\Below w.heap.size w X/\Box X bd #[.slice Av x.length cv] 34/\eH X w.heap.size (.slice Av x.length cv) x/\iZ W X/\qK Wa.heap.size W X)
   (fun c pre2 X=>c=.exit 2/\pre2≠[]/\XQ w.heap.size A cs X/\(∃ vL',uX X w.heap.size vL' (pre.filter (BC R cs wo)++[x])/\Box X (w.heap.size+2) #[vL'] 56)/\Box X w.heap.size (qH R A cs.length cp most) 141/\Box X (w.heap.size+1) #[.int .u64 (wo:Int)] 135/\Below w.heap.size w X/\iZ W X/\qK Wa.heap.size W X)
   (fun pre2 X Y ⟨h0,h1,h2,h3,h4,h5,h6,h7,h8,h9⟩ hi=>⟨h0,h1.xW hi,hi.box h2,hi.box h3,hi.box h4,nM.below h5 q5.size (Nat.le_refl _) hi,hi.box h6,h7.xW hi,h8.xW hi hsz1,h9.xW hi⟩)
   (fun pre2 X Y ⟨h0,h1,h2,h3,h4,h5,h6,h7,h8,h9⟩ st=>⟨h0,h1.step st,h2.step st,h3.step st,h4.step st,h5.trans (st.mono h5.size),h6.step st,h7.below' st,h8.trans (iZ.of_below st),h9.trans (qK.of_below st)⟩)
   (fun c pre2 X Y ⟨h0,hn,hx,⟨vL',h1,h2⟩,h3,h4,h5,h8,h9⟩ hi=>⟨h0,hn,hx.xW hi,⟨vL',h1.xW hi,hi.box h2⟩,hi.box h3,hi.box h4,nM.below h5 q5.size (Nat.le_refl _) hi,h8.xW hi hsz1,h9.xW hi⟩)
   (fun c pre2 X Y ⟨h0,hn,hx,⟨vL',h1,h2⟩,h3,h4,h5,h8,h9⟩ st=>⟨h0,hn,hx.step st,⟨vL',h1.step st,h2.step st⟩,h3.step st,h4.step st,h5.trans (st.mono h5.size),h8.trans (iZ.of_below st),h9.trans (qK.of_below st)⟩)
   ⟨rfl,q1,q2,q3,q4,q5,qd,qo,kk,ff⟩ hiv
   (fun z a' X=>a'={ tmps:=#[.agg (qH R A cs.length cp most),.int .u64 (wo:Int),.pointer (some ⟨w.heap.size,0,none⟩),.pointer (some ⟨w.heap.size+1,0,none⟩),.pointer (some ⟨w.heap.size+1+1,0,none⟩),.pointer (some ⟨bd,0,none⟩),.agg (qH R A cs.length cp most),.func (.func 112) #[.agg (qH R A cs.length cp most)] #[],.slice Av x.length cv,.agg (qH R A cs.length cp most),.slice Av x.length cv,.int .u64 (wo:Int),.func (.func 107) #[] #[.pointer (some ⟨b,0,none⟩),.pointer (some ⟨b+2,0,none⟩),.pointer (some ⟨b+1,0,none⟩)],vWt z,undef,undef,undef,undef,undef],defers:=[]})
   (fun z a' X Y h hi=>h) ?assign2 ?body2 ?done2 ?stop2
  case assign2=>
   rintro l2 pre2 z args X K hI hv2 hp2 rfl hK
   gi_wp2
   exact hK _ _ (iZ.refl _) hI hv2 (by simp[qH])
  case body2=>
   rintro l2 pre2 z a' X hl2 hr2 ⟨h0,h1,h2,h3,h4,h5,h6,h7,h8,h9⟩ hv2 hp2 rfl
   obtain⟨AL,kL,rfl⟩:=h1.slice
   have cL:X.cell? ⟨w.heap.size+1+1,0,none⟩=some (.slice AL (pre.filter (BC R cs wo)).length kL):=h2.cell 0 rfl
   have cd:X.cell? ⟨bd,0,none⟩=some (.slice Av x.length cv):=h6.cell 0 rfl
   have hXs:=h5.size
   obtain⟨v',W',hrun,hrows,hg,hrow⟩:=bl8 h1 hXs h7 hpl
   have hrow2:∀ k,(Value.slice AL (pre.filter (BC R cs wo)).length kL).ownBlock=some k->∃ cells,X.heap[k]? =some (.cells cells 34 (0,0)):=fun k hk=>(hrow k hk).2
   have g2:=h2.aiT hg hrow2 (by decide)
   have g3:=h3.aiT hg hrow2 (by decide)
   have g4:=h4.aiT hg hrow2 (by decide)
   have g5:=Below.grown h5 hg hXs (fun k hk=>(hrow k hk).1)
   have g8:=h8.aiT hg hrow2
   have g9:=h9.aiT hg hrow2
   obtain⟨A',k',rfl⟩:=hrows.slice
   have gc:W'.cell? ⟨w.heap.size+1+1,0,none⟩=some (.slice AL (pre.filter (BC R cs wo)).length kL):=g2.cell 0 rfl
   have gf:W'.frozen? ⟨w.heap.size+1+1,0,none⟩=false:=g2.frozen 0
   have hXl:w.heap.size+1+1<X.heap.size:=h2.lt
   gi_wp2_with (gi_at_builtin;refine aKS _ rfl (.tmp 14) (.tmp 16) 56 rfl _ _ _ _ rfl rfl hrun ?_)
   have hle:(pre.filter (BC R cs wo)++[x]).length=(pre.filter (BC R cs wo)).length+1:=by simp
   have k2:=g2.set 0 (.slice A' (pre.filter (BC R cs wo)++[x]).length k')
   have k1:=hrows.set g2 (by decide) 0 (.slice A' (pre.filter (BC R cs wo)++[x]).length k')
   have k5:=g5.setCell (p:=⟨w.heap.size+2,0,none⟩) (by simp) (.slice A' (pre.filter (BC R cs wo)++[x]).length k')
   rw[hle]at k1 k2 k5
   refine⟨(iZ.aiT (iZ.refl _) hg hrow2).trans (iZ.setCell _ _ _),rfl,by simp,⟨k5.size,Kd.bJ hr k5⟩,⟨_,k1,k2⟩,g3.other (by omega) 0 _,g4.other (by omega) 0 _,k5,g8.trans (iZ.setCell _ _ _),g9.bmD (by omega) _⟩
  case done2=>
   rintro X ⟨h0,h1,h2,h3,h4,h5,h6,h7,h8,h9⟩ hv2
   have hng:BC R cs wo x=false:=by unfold BC;rw[h0];rfl
   have hfe:Hid ((pre++[x]).filter (BC R cs wo)=pre.filter (BC R cs wo)):=Lib.hid (by rw[List.filter_append];simp[hng])
   gi_wp2
   exact⟨h8,h9,hv2.1,vL,by rw[hfe.out];exact h1,h2,h3,h4,h5⟩
  case stop2=>
   rintro c pre2 X hpr ⟨rfl,hn,hx,⟨vL',h1,h2⟩,h3,h4,h5,h8,h9⟩
   have hng:BC R cs wo x=true:=by
    unfold BC
    obtain⟨z,hz⟩:=hpr
    cases hw:anW R cs x wo with
    |nil=>
     rw[hw]at hz
     exact absurd (List.append_eq_nil_iff.1 hz).1 hn
    |cons _ _=>rfl
   have hfe:Hid ((pre++[x]).filter (BC R cs wo)=pre.filter (BC R cs wo)++[x]):=Lib.hid (by rw[List.filter_append];simp[hng])
   gi_wp2
   exact⟨h8,h9,hx,vL',by rw[hfe.out];exact h1,h2,h3,h4,h5⟩
 case stop=>exact fun D c pre W _ _ h _=>h.elim
 case done=>
  rintro D W hD ⟨vL,h1,h2,h3,h4,h5⟩ hv hK
  obtain⟨AL,kL,rfl⟩:=h1.slice
  have cL:W.cell? ⟨w.heap.size+1+1,0,none⟩=some (.slice AL ((exL most cs).filter (BC R cs wo)).length kL):=h2.cell 0 rfl
  have fL:W.frozen? ⟨w.heap.size+1+1,0,none⟩=false:=h2.frozen 0
  have hD2:w.heap.size+2<D:=by omega
  gi_wp2
  have g1:=h2.set 0 (.slice AL ((exL most cs).filter (BC R cs wo)).length kL)
  have g2:=h1.set h2 (by decide) 0 (.slice AL ((exL most cs).filter (BC R cs wo)).length kL)
  refine aDW (B:=w.heap.size+3) (T:=D+1) _ _ (Marks.cons (T:=w.heap.size+3) (Marks.nil _ _ _) (by omega) (by omega) (by omega) ((Below.heap_setCell W ⟨w.heap.size+2,0,none⟩ _ D (by simp;omega)).trans hK)) (fun W' hi=>⟨_,hres _ W' _ rfl (hi.box g1),?_⟩)
  exact⟨_,rfl,g2.xW hi,nM.below (h5.setCell (p:=⟨w.heap.size+2,0,none⟩) (by simp) _) (by omega) (Nat.le_refl _) hi⟩
theorem arT {R:pU} {cs:List gQ} {most:Int} (h:BX R cs most=0):arQ R/\(∀ x∈cs,ZI x)/\cs.length<=5/\0<cs.length/\(0<=most/\most<=2):=by
 unfold BX at h
 split at h
 ·rename_i h1
  split at h
  ·cases h
  ·rename_i h2
   split at h
   ·cases h
   ·rename_i h3
    split at h
    ·rename_i h4
     simp only[Bool.and_eq_true,agB,UE,aLR,decide_eq_true_eq]at h1
     simp only[Bool.or_eq_true,decide_eq_true_eq,List.any_eq_true,not_or,not_exists,not_and,Bool.not_eq_true']at h3
     obtain⟨⟨⟨l1,l2⟩,l3⟩,l4⟩:=h1
     have a1:∀ a b x:Int,allIn a b [x]=true->a<=x/\x<=b:=by
      intro a b x hx
      simpa[aXB]using hx
     refine⟨?_,fun x hx=>?_,by omega,by omega,a1 _ _ _ h4⟩
     ·have:=a1 _ _ _ l4
      unfold arQ
      omega
     ·have hx2:=h3.2 x hx
      simp only[Bool.not_eq_false,aiQ,Bool.and_eq_true,aLR]at hx2
      have:=a1 _ _ _ hx2.2
      have hx3:=hx2.1
      unfold ZI aaP
      simp only[Bool.and_eq_true,decide_eq_true_eq]at hx3
      omega
    ·cases h
 ·cases h
theorem aFE {W:World} {b:Nat} {t:TypeId} {a0 a1 a2 a3 a4 a5 a6 a7 a8:Value} (h:Box W b #[a0,a1,a2,a3,a4,a5,a6,a7,a8] t):
  W.cell? ⟨b,0,none⟩=some a0/\W.cell? ⟨b,1,none⟩=some a1/\W.cell? ⟨b,2,none⟩=some a2/\W.cell? ⟨b,3,none⟩=some a3/\W.cell? ⟨b,4,none⟩=some a4/\W.cell? ⟨b,5,none⟩=some a5/\W.cell? ⟨b,6,none⟩=some a6/\W.cell? ⟨b,7,none⟩=some a7/\W.cell? ⟨b,8,none⟩=some a8/\∀ i,W.frozen? ⟨b,i,none⟩=false:=
 ⟨h.cell 0 rfl,h.cell 1 rfl,h.cell 2 rfl,h.cell 3 rfl,h.cell 4 rfl,h.cell 5 rfl,h.cell 6 rfl,h.cell 7 rfl,h.cell 8 rfl,fun i=>h.frozen i⟩
def SE (W:World) (b:Nat) (a0 a1 a2 a3 a4 a5 a6 a7 a8:Value):World:=
 ((((((((W.setCell ⟨b,0,none⟩ a0).setCell ⟨b,1,none⟩ a1).setCell ⟨b,2,none⟩ a2).setCell ⟨b,3,none⟩ a3).setCell ⟨b,4,none⟩ a4).setCell ⟨b,5,none⟩ a5).setCell ⟨b,6,none⟩ a6).setCell ⟨b,7,none⟩ a7).setCell ⟨b,8,none⟩ a8
theorem Box.SE {W:World} {b:Nat} {t:TypeId} {b0 b1 b2 b3 b4 b5 b6 b7 b8:Value} (h:Box W b #[b0,b1,b2,b3,b4,b5,b6,b7,b8] t) (a0 a1 a2 a3 a4 a5 a6 a7 a8:Value):Box (SE W b a0 a1 a2 a3 a4 a5 a6 a7 a8) b #[a0,a1,a2,a3,a4,a5,a6,a7,a8] t:=by
 have k0:Box _ b #[a0,b1,b2,b3,b4,b5,b6,b7,b8] t:=h.set 0 a0
 have k1:Box _ b #[a0,a1,b2,b3,b4,b5,b6,b7,b8] t:=k0.set 1 a1
 have k2:Box _ b #[a0,a1,a2,b3,b4,b5,b6,b7,b8] t:=k1.set 2 a2
 have k3:Box _ b #[a0,a1,a2,a3,b4,b5,b6,b7,b8] t:=k2.set 3 a3
 have k4:Box _ b #[a0,a1,a2,a3,a4,b5,b6,b7,b8] t:=k3.set 4 a4
 have k5:Box _ b #[a0,a1,a2,a3,a4,a5,b6,b7,b8] t:=k4.set 5 a5
 have k6:Box _ b #[a0,a1,a2,a3,a4,a5,a6,b7,b8] t:=k5.set 6 a6
 have k7:Box _ b #[a0,a1,a2,a3,a4,a5,a6,a7,b8] t:=k6.set 7 a7
 have k8:Box _ b #[a0,a1,a2,a3,a4,a5,a6,a7,a8] t:=k7.set 8 a8
 exact k8
theorem Below.SE {w W:World} {n₀ b:Nat} (h:Below n₀ w W) (hb:n₀<=b) (a0 a1 a2 a3 a4 a5 a6 a7 a8:Value):Below n₀ w (SE W b a0 a1 a2 a3 a4 a5 a6 a7 a8):=
 ((((((((h.setCell (p:=⟨b,0,none⟩) hb a0).setCell (p:=⟨b,1,none⟩) hb a1).setCell (p:=⟨b,2,none⟩) hb a2).setCell (p:=⟨b,3,none⟩) hb a3).setCell (p:=⟨b,4,none⟩) hb a4).setCell (p:=⟨b,5,none⟩) hb a5).setCell (p:=⟨b,6,none⟩) hb a6).setCell (p:=⟨b,7,none⟩) hb a7).setCell (p:=⟨b,8,none⟩) hb a8
theorem uX.SE {W:World} {n₀ b:Nat} {t:TypeId} {v:Value} {xs:List (List Int)} {b0 b1 b2 b3 b4 b5 b6 b7 b8:Value} (h:uX W n₀ v xs) (hb:Box W b #[b0,b1,b2,b3,b4,b5,b6,b7,b8] t) (ht:t≠34/\t≠3) (a0 a1 a2 a3 a4 a5 a6 a7 a8:Value):uX (Hand.SE W b a0 a1 a2 a3 a4 a5 a6 a7 a8) n₀ v xs:=by
 have h0:=h.set hb ht 0 a0
 have k0:Box _ b #[a0,b1,b2,b3,b4,b5,b6,b7,b8] t:=hb.set 0 a0
 have h1:=h0.set k0 ht 1 a1
 have k1:Box _ b #[a0,a1,b2,b3,b4,b5,b6,b7,b8] t:=k0.set 1 a1
 have h2:=h1.set k1 ht 2 a2
 have k2:Box _ b #[a0,a1,a2,b3,b4,b5,b6,b7,b8] t:=k1.set 2 a2
 have h3:=h2.set k2 ht 3 a3
 have k3:Box _ b #[a0,a1,a2,a3,b4,b5,b6,b7,b8] t:=k2.set 3 a3
 have h4:=h3.set k3 ht 4 a4
 have k4:Box _ b #[a0,a1,a2,a3,a4,b5,b6,b7,b8] t:=k3.set 4 a4
 have h5:=h4.set k4 ht 5 a5
 have k5:Box _ b #[a0,a1,a2,a3,a4,a5,b6,b7,b8] t:=k4.set 5 a5
 have h6:=h5.set k5 ht 6 a6
 have k6:Box _ b #[a0,a1,a2,a3,a4,a5,a6,b7,b8] t:=k5.set 6 a6
 have h7:=h6.set k6 ht 7 a7
 have k7:Box _ b #[a0,a1,a2,a3,a4,a5,a6,a7,b8] t:=k6.set 7 a7
 have h8:=h7.set k7 ht 8 a8
 exact h8
def xZ (R:pU) (cs:List gQ) (most:Int):Int:=if BX R cs most=0 then(if PM R cs most 0=[]then 9 else 0)else BX R cs most
def wL (R:pU) (cs:List gQ) (most:Int):List (List Int):=if BX R cs most=0 then PM R cs most 0 else[]
theorem aFF (w:World) (a:Option Addr) (n c:Nat):(binOp .eql 56 (.slice a n c) (.slice none 0 0)).run Tryd.prog w=.ok (.bool a.isNone) w:=Lib.run_eql_slice_nil w 56 34 a n c 0 0 Tryd.underlying56
theorem aFG (w:World) (a:Option Addr) (n c:Nat):(binOp .neq 56 (.slice a n c) (.slice none 0 0)).run Tryd.prog w=.ok (.bool (!a.isNone)) w:=run_neq_slice_nil_any w 56 34 a n c 0 0 Tryd.underlying56
theorem aFH (w:World) (a:Option Addr) (n c:Nat):(binOp .eql 34 (.slice a n c) (.slice none 0 0)).run Tryd.prog w=.ok (.bool a.isNone) w:=Lib.run_eql_slice_nil w 34 3 a n c 0 0 Tryd.underlying34
attribute [local go_sem] aFF aFG aFH
theorem aNI (t:Array Value) (W:World) (b:Nat) (v1 v2 a0 a1 a2 a3 a4 a5 a6 a7 a8:Value) (h6:t.getD 6 undef=.pointer (some ⟨b,0,none⟩)) (h7:t.getD 7 undef=v1) (h8:t.getD 8 undef=v2) (hb:Box W b #[a0,a1,a2,a3,a4,a5,a6,a7,a8] 141):
  (results Tryd.f80 t).run Tryd.prog W=.ok (.tuple #[.agg #[a0,a1,a2,a3,a4,a5,a6,a7,a8],v1,v2]) W:=by
 obtain⟨c0,c1,c2,c3,c4,c5,c6,c7,c8,_⟩:=aFE hb
 simp only[Array.getD_eq_getD_getElem?]at h6 h7 h8
 clear hb
 simp[results,Tryd.results80,go_sem,h6,h7,h8,c0,c1,c2,c3,c4,c5,c6,c7,c8]
theorem aFI (R:pU) (cs:List gQ) (most:Int) (A:Option Addr) (cp:Nat) (w:World) (hr:Kd.C vC w A cs.length cs):
  Calls Tryd.prog 80 #[aeI R,.slice A cs.length cp,.int .i64 most] w fun e w'=>∃ v,e=.returned (.tuple #[XO R A cs.length cp most (BX R cs most),v,.int .i64 (xZ R cs most)])/\uX w' w.heap.size v (wL R cs most)/\Below w.heap.size w w':=by
 by_cases h0:BX R cs most=0
 ·obtain⟨hR,hcs,h5,_,hm⟩:=arT h0
  have hE:Hid (xZ R cs most=if PM R cs most 0=[]then 9 else 0):=Lib.hid (if_pos h0)
  have hL:Hid (wL R cs most=PM R cs most 0):=Lib.hid (if_pos h0)
  have hns:=fun w (hr:Kd.C vC w A cs.length cs)=>aM9 R cs most A cp w hr
  rw[h0]at hns
  have Hns:=Lib.hid hns
  have h00:=Lib.hid h0
  clear hns h0
  go_enter Tryd.func80,Tryd.ntmps80
  go_wp2_with fail
  refine(Hns.out _ (Kd.bJ hr (((Below.refl _ _).alloc (Nat.le_refl _) _).alloc (by simp) _))).mono ?_
  rintro e w1 ⟨rfl,hb1⟩
  have hB1:Below w.heap.size w w1:=(((Below.refl _ _).alloc (Nat.le_refl _) _).alloc (by simp) _).trans (hb1.mono (by simp;omega))
  have bx1:Box w1 (w.heap.size+1) _ 141:=(Box.new' _ _ _ (by simp)).step hb1
  obtain⟨c0,c1,c2,c3,c4,c5,c6,c7,c8,hf⟩:=aFE bx1
  have e0:XO R A cs.length cp most 0=.agg (qH R A cs.length cp most):=if_pos rfl
  unfold qH at e0
  rw[e0]
  clear hb1 e0
  have hls:=Lib.hid (fun w (hr:Kd.C vC w A cs.length cs)=>aZC R hR cs hcs h5 most hm A cp 0 (by decide) w hr)
  unfold qH at hls
  go_wp2_with fail
  have k1:=bx1.SE (.int .i64 R.l.f0) (.int .i64 R.l.f1) (.int .i64 R.r.f0) (.int .i64 R.r.f1) (.int .i64 R.t.f0) (.int .i64 R.t.f1) (.int .i64 R.off) (.slice A cs.length cp) (.int .i64 most)
  have hB2:=Below.SE hB1 (b:=w.heap.size+1) (by omega) (.int .i64 R.l.f0) (.int .i64 R.l.f1) (.int .i64 R.r.f0) (.int .i64 R.r.f1) (.int .i64 R.t.f0) (.int .i64 R.t.f1) (.int .i64 R.off) (.slice A cs.length cp) (.int .i64 most)
  change Calls _ _ _ (SE w1 (w.heap.size+1) (.int .i64 R.l.f0) (.int .i64 R.l.f1) (.int .i64 R.r.f0) (.int .i64 R.r.f1) (.int .i64 R.t.f0) (.int .i64 R.t.f1) (.int .i64 R.off) (.slice A cs.length cp) (.int .i64 most)) _
  obtain⟨w2,hw2⟩:∃ w2,SE w1 (w.heap.size+1) (.int .i64 R.l.f0) (.int .i64 R.l.f1) (.int .i64 R.r.f0) (.int .i64 R.r.f1) (.int .i64 R.t.f0) (.int .i64 R.t.f1) (.int .i64 R.off) (.slice A cs.length cp) (.int .i64 most)=w2:=⟨_,rfl⟩
  rw[hw2]at k1 hB2 ⊢
  clear hw2 c0 c1 c2 c3 c4 c5 c6 c7 c8 hf bx1 hB1
  refine(hls.out w2 (Kd.bJ hr hB2)).mono ?_
  rintro e w3 ⟨v,rfl,hrows,hb3⟩
  have k3:=k1.step hb3
  have hB3:=hB2.trans (hb3.mono hB2.size)
  have hrow3:uX w3 w.heap.size v (PM R cs most 0):=⟨Kd.eF hrows.1 hB2.size,hrows.2⟩
  clear hb3 hrows k1 hB2 hls Hns
  obtain⟨c0,c1,c2,c3,c4,c5,c6,c7,c8,hf⟩:=aFE k3
  have hB4:=Below.SE hB3 (b:=w.heap.size+1) (by omega) (.int .i64 R.l.f0) (.int .i64 R.l.f1) (.int .i64 R.r.f0) (.int .i64 R.r.f1) (.int .i64 R.t.f0) (.int .i64 R.t.f1) (.int .i64 R.off) (.slice A cs.length cp) (.int .i64 most)
  have k4:=k3.SE (.int .i64 R.l.f0) (.int .i64 R.l.f1) (.int .i64 R.r.f0) (.int .i64 R.r.f1) (.int .i64 R.t.f0) (.int .i64 R.t.f1) (.int .i64 R.off) (.slice A cs.length cp) (.int .i64 most)
  have hrow4:=uX.SE hrow3 k3 (by decide) (.int .i64 R.l.f0) (.int .i64 R.l.f1) (.int .i64 R.r.f0) (.int .i64 R.r.f1) (.int .i64 R.t.f0) (.int .i64 R.t.f1) (.int .i64 R.off) (.slice A cs.length cp) (.int .i64 most)
  have e0:Hid (XO R A cs.length cp most (BX R cs most)=.agg (qH R A cs.length cp most)):=Lib.hid (by rw[h00.out];exact if_pos rfl)
  by_cases hl:PM R cs most 0=[]
  ·have hE9:Hid (xZ R cs most=9):=Lib.hid (by rw[hE.out,if_pos hl])
   obtain rfl:=hrow3.2 hl
   clear hrow3 k3 hB3 hl
   go_wp2
   refine bodyPost_ret (v:=.tuple #[.agg (qH R A cs.length cp most),.slice none 0 0,.int .i64 9]) ?_ rfl ?_
   ·exact aNI _ _ _ _ _ _ _ _ _ _ _ _ _ _ rfl rfl rfl k4
   ·exact⟨_,by rw[e0.out,hE9.out],by rw[hL.out];exact hrow4,hB4⟩
  ·have hE9:Hid (xZ R cs most=0):=Lib.hid (by rw[hE.out,if_neg hl])
   obtain⟨g,cv,rfl⟩:∃ g c,v=.slice (some ⟨g,0,none⟩) (PM R cs most 0).length c:=by
    obtain⟨inner,ho⟩:=Kd.amG hrow3.1
    obtain⟨g,c,h,_⟩:=afR ho (List.length_pos_iff.2 hl)
    exact⟨g,c,h⟩
   clear hrow3 k3 hB3 hl
   go_wp2
   refine bodyPost_ret (v:=.tuple #[.agg (qH R A cs.length cp most),.slice (some ⟨g,0,none⟩) (PM R cs most 0).length cv,.int .i64 0]) ?_ rfl ?_
   ·exact aNI _ _ _ _ _ _ _ _ _ _ _ _ _ _ rfl rfl rfl k4
   ·exact⟨_,by rw[e0.out,hE9.out],by rw[hL.out];exact hrow4,hB4⟩
 ·obtain⟨er,her⟩:∃ er,BX R cs most=er:=⟨_,rfl⟩
  have hE:Hid (xZ R cs most=er):=Lib.hid (by rw[<-her];exact if_neg h0)
  have hL:Hid (wL R cs most=[]):=Lib.hid (if_neg h0)
  have hns:=fun w (hr:Kd.C vC w A cs.length cs)=>aM9 R cs most A cp w hr
  rw[her]at hns h0 ⊢
  have e0:XO R A cs.length cp most er=.agg #[.int .i64 0,.int .i64 0,.int .i64 0,.int .i64 0,.int .i64 0,.int .i64 0,.int .i64 0,.slice none 0 0,.int .i64 0]:=if_neg h0
  rw[e0]at hns ⊢
  have Hns:=Lib.hid hns
  clear hns her e0
  have hne:(er !=0)=true:=by simp[h0]
  have h00:=Lib.hid h0
  clear h0
  go_enter Tryd.func80,Tryd.ntmps80
  go_wp2_with fail
  refine(Hns.out _ (Kd.bJ hr (((Below.refl _ _).alloc (Nat.le_refl _) _).alloc (by simp) _))).mono ?_
  rintro e w1 ⟨rfl,hb1⟩
  have hB1:Below w.heap.size w w1:=(((Below.refl _ _).alloc (Nat.le_refl _) _).alloc (by simp) _).trans (hb1.mono (by simp;omega))
  have bx1:Box w1 (w.heap.size+1) _ 141:=(Box.new' _ _ _ (by simp)).step hb1
  obtain⟨c0,c1,c2,c3,c4,c5,c6,c7,c8,hf⟩:=aFE bx1
  have k1:=(bx1.SE (.int .i64 0) (.int .i64 0) (.int .i64 0) (.int .i64 0) (.int .i64 0) (.int .i64 0) (.int .i64 0) (.slice none 0 0) (.int .i64 0)).SE (.int .i64 0) (.int .i64 0) (.int .i64 0) (.int .i64 0) (.int .i64 0) (.int .i64 0) (.int .i64 0) (.slice none 0 0) (.int .i64 0)
  have hB2:=Below.SE (Below.SE hB1 (b:=w.heap.size+1) (by omega) (.int .i64 0) (.int .i64 0) (.int .i64 0) (.int .i64 0) (.int .i64 0) (.int .i64 0) (.int .i64 0) (.slice none 0 0) (.int .i64 0)) (b:=w.heap.size+1) (by omega) (.int .i64 0) (.int .i64 0) (.int .i64 0) (.int .i64 0) (.int .i64 0) (.int .i64 0) (.int .i64 0) (.slice none 0 0) (.int .i64 0)
  clear hb1 bx1 hB1
  go_wp2
  refine bodyPost_ret (v:=.tuple #[.agg #[.int .i64 0,.int .i64 0,.int .i64 0,.int .i64 0,.int .i64 0,.int .i64 0,.int .i64 0,.slice none 0 0,.int .i64 0],.slice none 0 0,.int .i64 er]) ?_ rfl ?_
  ·exact aNI _ _ _ _ _ _ _ _ _ _ _ _ _ _ rfl rfl rfl k1
  ·exact⟨_,by rw[hE.out],by rw[hL.out];exact uX.nil _ _,hB2⟩
attribute [local go_sem] aFF aFG aFH
theorem aFJ (R:pU) (A:Option Addr) (n cp:Nat) (most e:Int):∃ a0 a1 a2 a3 a4 a5 a6 a7 a8:Int,∃ (B:Option Addr) (m k:Nat),XO R A n cp most e=.agg #[.int .i64 a0,.int .i64 a1,.int .i64 a2,.int .i64 a3,.int .i64 a4,.int .i64 a5,.int .i64 a6,.slice B m k,.int .i64 a8]:=by
 unfold XO
 split
 ·exact⟨_,_,_,_,_,_,_,0,_,_,_,_,rfl⟩
 ·exact⟨_,_,_,_,_,_,_,0,_,_,_,_,rfl⟩
theorem bmF (R:pU) (cs:List gQ) (most:Int) (A:Option Addr) (cp:Nat) (w:World) (hr:Kd.C vC w A cs.length cs):
  Calls Tryd.prog 35 #[aeI R,.slice A cs.length cp,.int .i64 most] w fun e w'=>∃ v,e=.returned (.tuple #[v,.int .i64 (xZ R cs most)])/\uX w' w.heap.size v (wL R cs most)/\Below w.heap.size w w':=by
 have hs:=Lib.hid (fun w (hr:Kd.C vC w A cs.length cs)=>aFI R cs most A cp w hr)
 go_enter Tryd.func35,Tryd.ntmps35
 go_wp2_with fail
 have hb0:Below w.heap.size w (w.alloc (Obj.cells #[Value.int IntKind.i64 R.l.f0,Value.int IntKind.i64 R.l.f1,Value.int IntKind.i64 R.r.f0,Value.int IntKind.i64 R.r.f1,Value.int IntKind.i64 R.t.f0,Value.int IntKind.i64 R.t.f1,Value.int IntKind.i64 R.off] 53)):=(Below.refl _ _).alloc (Nat.le_refl _) _
 refine(hs.out _ (Kd.bJ hr hb0)).mono ?_
 rintro e w1 ⟨v,rfl,hrows,hb1⟩
 have hB1:Below w.heap.size w w1:=hb0.trans (hb1.mono hb0.size)
 have hr1:uX w1 w.heap.size v (wL R cs most):=⟨Kd.eF hrows.1 hb0.size,hrows.2⟩
 obtain⟨a0,a1,a2,a3,a4,a5,a6,a7,a8,B,m,k,hsv⟩:=aFJ R A cs.length cp most (BX R cs most)
 rw[hsv]
 obtain⟨Av,cv,rfl⟩:=hr1.slice
 clear hb1 hrows hb0 hsv hs
 go_wp2
 refine bodyPost_ret (v:=.tuple #[.slice Av (wL R cs most).length cv,.int .i64 (xZ R cs most)]) (by simp[results,Tryd.results35,go_sem]) rfl ?_
 exact⟨_,rfl,hr1.step ((Below.refl _ _).alloc (Nat.le_refl _) _),hB1.alloc hB1.size _⟩
def agF (R:pU) (cs:List gQ) (most:Int) (s:Nat):Bool:= !(PM R cs most s).isEmpty
theorem bmG (R:pU) (hR:arQ R) (cs:List gQ) (hcs:∀ x∈cs,ZI x) (h5:cs.length<=5) (most:Int) (hm:0<=most/\most<=2) (A:Option Addr) (cp b s:Nat) (hs:s<32) (w:World) (hr:Kd.C vC w A cs.length cs) (hb:Box w b (qH R A cs.length cp most) 141):
  Calls Tryd.prog 93 #[.int .u64 (s:Int),.pointer (some ⟨b,0,none⟩)] w fun e w'=>e=.returned (.bool (agF R cs most s))/\Below w.heap.size w w':=by
 obtain⟨c0,c1,c2,c3,c4,c5,c6,c7,c8⟩:=aFC hb
 have hls:=Lib.hid (aZC R hR cs hcs h5 most hm A cp s hs w hr)
 unfold qH at hls
 go_enter Tryd.func93,Tryd.ntmps93
 go_wp2_with fail
 refine hls.out.mono ?_
 rintro e w1 ⟨v,rfl,hrows,hb1⟩
 by_cases hl:PM R cs most s=[]
 ·have hE:agF R cs most s=false:=by unfold agF;rw[hl];rfl
  obtain rfl:=hrows.2 hl
  clear hrows hl
  go_wp2
  go_ret
  exact⟨by rw[hE];rfl,hb1⟩
 ·have hE:agF R cs most s=true:=by
   unfold agF
   cases hq:PM R cs most s with
   |nil=>exact absurd hq hl
   |cons _ _=>rfl
  obtain⟨g,cv,rfl⟩:∃ g c,v=.slice (some ⟨g,0,none⟩) (PM R cs most s).length c:=by
   obtain⟨inner,ho⟩:=Kd.amG hrows.1
   obtain⟨g,c,h,_⟩:=afR ho (List.length_pos_iff.2 hl)
   exact⟨g,c,h⟩
  clear hrows hl
  go_wp2
  go_ret
  exact⟨by rw[hE];rfl,hb1⟩
attribute [local go_sem] aFF aFG aFH
theorem eH.nil (W:World) (n₀:Nat):eH W n₀ (.slice none 0 0) []:=World.ownsRow_nil _ _ _ _
def aiV (R:pU) (cs:List gQ) (most:Int):Option (List Int):=pR (agF R cs most) iQ (2^cs.length)
def arU (R:pU) (cs:List gQ) (most:Int):Int:=if BX R cs most=0 then(if(aiV R cs most).getD []=[]then 6 else 0)else BX R cs most
def arV (R:pU) (cs:List gQ) (most:Int):List Int:=if BX R cs most=0 then(aiV R cs most).getD []else[]
theorem bmH (R:pU) (cs:List gQ) (most:Int) (A:Option Addr) (cp:Nat) (w:World) (hT:lZ w) (hr:Kd.C vC w A cs.length cs):
  Calls Tryd.prog 45 #[aeI R,.slice A cs.length cp,.int .i64 most] w fun e w'=>∃ v,e=.returned (.tuple #[v,.int .i64 (arU R cs most)])/\eH w' w.heap.size v (arV R cs most)/\Below w.heap.size w w':=by
 have hb0:Below w.heap.size w (w.alloc (Obj.cells #[Value.int IntKind.i64 R.l.f0,Value.int IntKind.i64 R.l.f1,Value.int IntKind.i64 R.r.f0,Value.int IntKind.i64 R.r.f1,Value.int IntKind.i64 R.t.f0,Value.int IntKind.i64 R.t.f1,Value.int IntKind.i64 R.off] 53)):=(Below.refl _ _).alloc (Nat.le_refl _) _
 have hns:=fun w (hr:Kd.C vC w A cs.length cs)=>aM9 R cs most A cp w hr
 by_cases h0:BX R cs most=0
 ·obtain⟨hR,hcs,h5,_,hm⟩:=arT h0
  have hE:Hid (arU R cs most=if(aiV R cs most).getD []=[]then 6 else 0):=Lib.hid (if_pos h0)
  have hL:Hid (arV R cs most=(aiV R cs most).getD []):=Lib.hid (if_pos h0)
  rw[h0]at hns
  have e0:XO R A cs.length cp most 0=.agg (qH R A cs.length cp most):=if_pos rfl
  unfold qH at e0
  rw[e0]at hns
  have Hns:=Lib.hid hns
  have h00:=Lib.hid h0
  clear hns h0 e0
  go_enter Tryd.func45,Tryd.ntmps45
  go_wp2_with fail
  refine(Hns.out _ (Kd.bJ hr hb0)).mono ?_
  rintro e w1 ⟨rfl,hb1⟩
  have hB1:Below w.heap.size w w1:=hb0.trans (hb1.mono hb0.size)
  have hsz:=hB1.size
  clear hb1 hb0 Hns
  go_wp2_with fail
  obtain⟨w2,hw2⟩:∃ w2,w1.alloc (Obj.cells #[Value.int IntKind.i64 R.l.f0,Value.int IntKind.i64 R.l.f1,Value.int IntKind.i64 R.r.f0,Value.int IntKind.i64 R.r.f1,Value.int IntKind.i64 R.t.f0,Value.int IntKind.i64 R.t.f1,Value.int IntKind.i64 R.off,Value.slice A cs.length cp,Value.int IntKind.i64 most] 141)=w2:=⟨_,rfl⟩
  have hB2:Below w.heap.size w w2:=by rw[<-hw2];exact hB1.alloc hsz _
  have hbx:Box w2 w1.heap.size (qH R A cs.length cp most) 141:=by rw[<-hw2];exact Box.new _ _ _
  rw[hw2]
  clear hw2 hB1
  have hp2:2^cs.length<=32:=Nat.le_trans (Nat.pow_le_pow_right (by decide) h5) (by decide)
  refine(blF cs.length (by omega) (agF R cs most) w1.heap.size w2 (hT.below hB2) (fun s hs W hW=>bmG R hR cs hcs h5 most hm A cp w1.heap.size s (by omega) W (Kd.bJ hr (hB2.trans (hW.mono hB2.size))) (hbx.step hW))).mono ?_
  rintro e w3 ⟨v,rfl,hown,hnil,hb3⟩
  have hB3:Below w.heap.size w w3:=hB2.trans (hb3.mono hB2.size)
  have ho3:=hown.lower hB2.size
  obtain⟨bs,hbs⟩:∃ bs,(pR (agF R cs most) iQ (2^cs.length)).isSome=bs:=⟨_,rfl⟩
  have hmk:pR (agF R cs most) iQ (2^cs.length)=aiV R cs most:=rfl
  rw[hbs]
  rw[hmk]at ho3 hnil
  clear hbs hmk hown hb3 hbx hT
  by_cases hl:(aiV R cs most).getD []=[]
  ·have hE9:Hid (arU R cs most=6):=Lib.hid (by rw[hE.out,if_pos hl])
   obtain rfl:=hnil hl
   have BF:eH w3 w.heap.size (.slice none 0 0) (arV R cs most):=by rw[hL.out,hl];exact eH.nil _ _
   clear ho3 hnil hl
   go_wp2
   refine bodyPost_ret (v:=.tuple #[.slice none 0 0,.int .i64 6]) (by simp[results,Tryd.results45,go_sem]) rfl ?_
   exact⟨_,by rw[hE9.out],BF,hB3⟩
  ·have hE9:Hid (arU R cs most=0):=Lib.hid (by rw[hE.out,if_neg hl])
   obtain⟨g,cv,rfl,_⟩:=afR ho3 (List.length_pos_iff.2 hl)
   have BF:eH w3 w.heap.size (.slice (some ⟨g,0,none⟩) ((aiV R cs most).getD []).length cv) (arV R cs most):=by rw[hL.out];exact ho3
   clear ho3 hnil hl
   go_wp2
   refine bodyPost_ret (v:=.tuple #[.slice (some ⟨g,0,none⟩) ((aiV R cs most).getD []).length cv,.int .i64 0]) (by simp[results,Tryd.results45,go_sem]) rfl ?_
   exact⟨_,by rw[hE9.out],BF,hB3⟩
 ·obtain⟨er,her⟩:∃ er,BX R cs most=er:=⟨_,rfl⟩
  have hE:Hid (arU R cs most=er):=Lib.hid (by rw[<-her];exact if_neg h0)
  have hL:Hid (arV R cs most=[]):=Lib.hid (if_neg h0)
  rw[her]at hns h0
  have e0:XO R A cs.length cp most er=.agg #[.int .i64 0,.int .i64 0,.int .i64 0,.int .i64 0,.int .i64 0,.int .i64 0,.int .i64 0,.slice none 0 0,.int .i64 0]:=if_neg h0
  rw[e0]at hns
  have Hns:=Lib.hid hns
  clear hns her e0
  have hne:(er !=0)=true:=by simp[h0]
  have h00:=Lib.hid h0
  clear h0
  go_enter Tryd.func45,Tryd.ntmps45
  go_wp2_with fail
  refine(Hns.out _ (Kd.bJ hr hb0)).mono ?_
  rintro e w1 ⟨rfl,hb1⟩
  have hB1:Below w.heap.size w w1:=hb0.trans (hb1.mono hb0.size)
  clear hb1 hb0
  go_wp2
  refine bodyPost_ret (v:=.tuple #[.slice none 0 0,.int .i64 er]) (by simp[results,Tryd.results45,go_sem]) rfl ?_
  exact⟨_,by rw[hE.out],by rw[hL.out];exact eH.nil _ _,hB1.alloc hB1.size _⟩
end Go.Proofs.YtcmfnebcmmklkaaDoor.Hand

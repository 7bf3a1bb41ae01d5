/- What DozenWeighs reaches beyond the shared texts, and its card. Part 5 of 6. -/
import Derived.Test.YtcmfnebcmmklkaaDoorPb1
import Derived.Test.YtcmfnebcmmklkaaDoorM12
import Derived.Test.YtcmfnebcmmklkaaDoorM1
import Derived.Test.YtcmfnebcmmklkaaDoorM11
import Derived.Test.YtcmfnebcmmklkaaDoorPb2
import Derived.Test.YtcmfnebcmmklkaaDoorPb3
import Derived.Test.YtcmfnebcmmklkaaDoorM15
import Derived.Test.YtcmfnebcmmklkaaDoorM3
import Derived.ChangeKeys
import Derived.Test.YtcmfnebcmmklkaaDoorM13
import Derived.Test.YtcmfnebcmmklkaaDoorPb4
set_option linter.unusedVariables false
set_option linter.unusedSimpArgs false
set_option maxRecDepth 100000
set_option maxHeartbeats 8000000
namespace Go.Proofs.YtcmfnebcmmklkaaDoor.Hand
open Go.RowKit Go.Shelf Go.Proofs.YtcmfnebcmmklkaaDoorW.dQ Go.Proofs.YtcmfnebcmmklkaaDoorW.gG Go.Proofs.YtcmfnebcmmklkaaDoor.Q
def cr (x:gQ):Cr:=⟨x.f0,x.f1,x.f2⟩
theorem aG1 {l:List gQ} {i:Nat} (h:i<l.length):DC l i=l[i]:=by
 unfold DC
 simp[List.getD_eq_getElem?_getD,h]
theorem bAH {α β:Type} (f:Int->List α) (g:α->β) (l:List Int):(l.flatMap f).map g=l.flatMap fun n=>(f n).map g:=by
 rw[List.map_flatMap]
theorem bAI (d:List Int) (n:Int) (X:List (List Int)):(X.map fun e=>n::e).map (fun e=>d++e)=X.map fun e=>(d++[n])++e:=by
 rw[List.map_map]
 congr 1
 funext e
 simp
theorem bGL (most:Int) (cs:List gQ):∀ (k:Nat) (d:List Int) (sum up:Int),d.length+k=cs.length->XP most cs k d sum up=(exP most ((cs.drop d.length).map cr) sum up).map fun e=>d++e:=by
 intro k
 induction k with
 |zero=>
  intro d sum up h
  rw[List.drop_eq_nil_of_le (by omega),List.map_nil,exP,XP]
  split<;>simp
 |succ k ih=>
  intro d sum up h
  have hd:d.length<cs.length:=by omega
  rw[List.drop_eq_getElem_cons hd,List.map_cons,exP,XP,aG1 hd,bAH,aoS,aoT]
  refine byO fun n hn=>?_
  rw[aoS]
  split
  ·rw[bAI,ih (d++[n]) _ _ (by simp;omega),List.length_append]
   rfl
  ·rfl
theorem bxP (most:Int) (cs:List gQ):exL most cs=exP most (cs.map cr) 0 0:=by
 unfold exL
 rw[bGL most cs cs.length [] 0 0 (by simp)]
 simp
theorem aG2 (a b:Int):(NC a b).length=(b - a+1).toNat:=by
 unfold NC
 simp
theorem aYZ {α:Type} (f:Int->List α) (B:Nat):∀ l:List Int,(∀ n∈l,(f n).length<=B)->(l.flatMap f).length<=l.length*B:=by
 intro l
 induction l with
 |nil=>intro _;simp
 |cons x l ih=>
  intro h
  rw[List.flatMap_cons,List.length_append,List.length_cons,Nat.add_mul,Nat.one_mul]
  have h1:=h x List.mem_cons_self
  have h2:=ih (fun n hn=>h n (List.mem_cons_of_mem _ hn))
  omega
theorem bAJ {most:Int} (hm:most<=2):∀ (cs:List Cr) (sum up:Int),(exR most cs sum up).length<=5^cs.length:=by
 intro cs
 induction cs with
 |nil=>
  intro sum up
  rw[exR]
  split
  ·exact Nat.zero_le _
  ·split<;>simp
 |cons c cs ih=>
  intro sum up
  rw[exR]
  split
  ·exact Nat.zero_le _
  ·have h1:=aYZ (fun n=>if 0<=c.L - n/\0<=c.R+n then(exR most cs (sum+n) (up+max 0 n)).map fun d=>n::d else[]) (5^cs.length) (NC (-most) most) (fun n _=>by
    split
    ·rw[List.length_map];exact ih _ _
    ·exact Nat.zero_le _)
   rw[aG2]at h1
   have h2:(most - -most+1).toNat*5^cs.length<=5*5^cs.length:=Nat.mul_le_mul_right _ (by omega)
   rw[List.length_cons,Nat.pow_succ,Nat.mul_comm (5^cs.length) 5]
   omega
theorem bAK (d:List Int) (n:Int):(d++[n]).sum=d.sum+n:=by simp
theorem bAL (d:List Int) (n:Int):ups (d++[n])=ups d+max 0 n:=by
 unfold ups
 rw[List.map_append,List.sum_append]
 simp
theorem bAM (d:List Int) {i:Nat} (h:i<d.length):(d.take (i+1)).sum=(d.take i).sum+d[i]:=by rw[List.take_succ_eq_append_getElem h,bAK]
theorem bAN (d:List Int) {i:Nat} (h:i<d.length):ups (d.take (i+1))=ups (d.take i)+max 0 d[i]:=by rw[List.take_succ_eq_append_getElem h,bAL]
def Sm2 (d:List Int):Prop:=∀ x∈d,-2<=x/\x<=2
theorem a5H {d:List Int} (hd:Sm2 d):∀ i,i<=d.length->(-(2*(i:Int))<=(d.take i).sum/\(d.take i).sum<=2*i)/\0<=ups (d.take i)/\ups (d.take i)<=2*i:=by
 intro i
 induction i with
 |zero=>intro _;rw[List.take_zero];exact⟨⟨Int.le_refl _,Int.le_refl _⟩,Int.le_refl _,Int.le_refl _⟩
 |succ i ih=>
  intro h
  have h1:=ih (by omega)
  have h2:=hd _ (List.getElem_mem (show i<d.length by omega))
  rw[bAM d (by omega),bAN d (by omega)]
  omega
def akC (most:Int) (cs:List gQ) (d:List Int):List (List Int):=(exR most ((cs.drop d.length).map cr) d.sum (ups d)).map fun e=>d++e
def akI (most:Int) (cs:List gQ) (d:List Int) (n:Int):List (List Int):=(NC (-most) (n - 1)).flatMap fun n=>if 0<=(DC cs d.length).f0 - n/\0<=(DC cs d.length).f1+n then akC most cs (d++[n])else[]
theorem bGM (most:Int) (cs:List gQ) (d:List Int):akI most cs d (-most)=[]:=by
 unfold akI
 rw[aE5 (by omega)]
 rfl
theorem bGN (most:Int) (cs:List gQ) (d:List Int) {n:Int} (h: -most<=n):akI most cs d (n+1)=akI most cs d n++(if 0<=(DC cs d.length).f0 - n/\0<=(DC cs d.length).f1+n then akC most cs (d++[n])else[]):=by
 unfold akI
 rw[show n+1 - 1=n by omega,aNB h,List.flatMap_append]
 simp
theorem bGO (most:Int) (cs:List gQ) (d:List Int) (hd:d.length<cs.length) (hu:ups d<=most):akI most cs d (most+1)=akC most cs d:=by
 unfold akI akC
 rw[List.drop_eq_getElem_cons hd,List.map_cons,exR,if_neg (by omega),bAH,aG1 hd,show most+1 - 1=most by omega]
 refine byO fun n hn=>?_
 show(if 0<=cs[d.length].f0 - n/\0<=cs[d.length].f1+n then _ else _)=List.map _ (if 0<=cs[d.length].f0 - n/\0<=cs[d.length].f1+n then _ else _)
 split
 ·rw[bAI,List.length_append,bAK,bAL]
  rfl
 ·rfl
theorem bAO {most:Int} (hm:most<=2) (cs:List gQ) (d:List Int) (h5:cs.length<=5):(akC most cs d).length<=3125:=by
 unfold akC
 rw[List.length_map]
 refine Nat.le_trans (bAJ hm _ _ _) ?_
 rw[List.length_map,List.length_drop]
 exact Nat.pow_le_pow_right (by decide) (show cs.length - d.length<=5 by omega)
theorem bGP {most:Int} (hm:0<=most/\most<=2) (cs:List gQ) (d:List Int) (h5:cs.length<=5) {n:Int} (hn:n<=most+1):(akI most cs d n).length<=5*3125:=by
 unfold akI
 have h1:=aYZ (fun n=>if 0<=(DC cs d.length).f0 - n/\0<=(DC cs d.length).f1+n then akC most cs (d++[n])else[]) 3125 (NC (-most) (n - 1)) (fun n _=>by
  split
  ·exact bAO hm.2 cs _ h5
  ·exact Nat.zero_le _)
 rw[aG2]at h1
 have h2:(n - 1 - -most+1).toNat*3125<=5*3125:=Nat.mul_le_mul_right _ (by omega)
 exact Nat.le_trans h1 h2
theorem bAP (cs:List gQ) (most:Int) (d:List Int) (hd:d.length<=5) (hs:Sm2 d):∀ m i k:Nat,i+m=d.length->m<k->
  aaN.l0 k cs most d (d.take i).sum (ups (d.take i)) (i:Int)=aaN.l0 (k - m) cs most d d.sum (ups d) (d.length:Int):=by
 intro m
 induction m with
 |zero=>
  intro i k hi hk
  obtain rfl:i=d.length:=by omega
  rw[List.take_length,Nat.sub_zero]
 |succ m ih=>
  intro i k hi hk
  obtain⟨k,rfl⟩:∃ j,k=j+1:=⟨k - 1,by omega⟩
  have hid:i<d.length:=by omega
  have hn:=ih (i+1) k (by omega) (by omega)
  have hx:=hs _ (List.getElem_mem hid)
  have h1:=a5H hs i (by omega)
  have e1:wrap64 ((d.take i).sum+d[i])=(d.take (i+1)).sum:=by rw[bAM d hid,jF (by omega) (by omega)]
  have e2:wrap64 (ups (d.take i)+mx 0 d[i])=ups (d.take (i+1)):=by rw[bAN d hid,aoS,jF (by omega) (by omega)]
  conv=>lhs;unfold aaN.l0
  rw[if_pos (by omega),if_pos (by omega),YJ hid,e1,e2,yN (by omega),hn,show k+1 - (m+1)=k - m by omega]
theorem bGQ {most:Int} (hm:0<=most/\most<=2) {cs:List gQ} (h5:cs.length<=5) (hcs:∀ x∈cs,aaP x) (d:List Int) (hd:d.length<cs.length) (F:Nat)
  (ih:∀ n:Int,-2<=n->n<=2->∀ k,F<=k->aaN.f k cs most (d++[n])=some (akC most cs (d++[n]))):∀ (m:Nat) (n:Int) (k:Nat),n+m=most+1-> -most<=n->F+m<k->
  aaN.l1 k cs most d (akI most cs d n) n ((DC cs (d.length:Int)).f0) ((DC cs (d.length:Int)).f1) ((DC cs (d.length:Int)).f2)=some (akI most cs d (most+1)):=by
 have hok:=hcs _ (List.getElem_mem hd)
 unfold aaP at hok
 intro m
 induction m with
 |zero=>
  intro n k hn hn2 hk
  obtain⟨k,rfl⟩:∃ j,k=j+1:=⟨k - 1,by omega⟩
  obtain rfl:n=most+1:=by omega
  unfold aaN.l1
  rw[if_neg (by omega)]
 |succ m ihm=>
  intro n k hn hn2 hk
  obtain⟨k,rfl⟩:∃ j,k=j+1:=⟨k - 1,by omega⟩
  have hnx:=ihm (n+1) k (by omega) (by omega) (by omega)
  rw[bGN most cs d hn2]at hnx
  have hf:=ih n (by omega) (by omega) k (by omega)
  have hl:=bAO hm.2 cs (d++[n]) h5
  have hlp:=bGP hm cs d h5 (n:=n) (by omega)
  rw[aG1 hd]at hnx ⊢
  have w1:wrap64 (cs[d.length].f0 - n)=cs[d.length].f0 - n:=jF (by omega) (by omega)
  have w2:wrap64 (cs[d.length].f1+n)=cs[d.length].f1+n:=jF (by omega) (by omega)
  have w3:wrap64 (n+1)=n+1:=jF (by omega) (by omega)
  unfold aaN.l1
  rw[if_pos (by omega),w1,w2,w3]
  by_cases c1:0<=cs[d.length].f0 - n
  ·rw[if_pos c1]
   by_cases c2:0<=cs[d.length].f1+n
   ·rw[if_pos ⟨c1,c2⟩]at hnx
    rw[if_pos c2]
    simp only[Option.bind_some,List.length_nil,List.nil_append]
    rw[if_pos (by omega),if_pos (by omega),hf]
    simp only[Option.bind_some]
    rw[if_pos (by omega)]
    exact hnx
   ·rw[if_neg (fun h=>c2 h.2),List.append_nil]at hnx
    rw[if_neg c2]
    exact hnx
  ·rw[if_neg (fun h=>c1 h.1),List.append_nil]at hnx
   rw[if_neg c1]
   exact hnx
theorem bGS {most:Int} (hm:0<=most/\most<=2) {cs:List gQ} (h5:cs.length<=5) (hcs:∀ x∈cs,aaP x):∀ (j:Nat) (d:List Int),d.length+j=cs.length->Sm2 d->∀ k,20*j+10<=k->aaN.f k cs most d=some (akC most cs d):=by
 intro j
 induction j with
 |zero=>
  intro d hd hs k hk
  obtain⟨k,rfl⟩:∃ j,k=j+1:=⟨k - 1,by omega⟩
  have hl:=bAP cs most d (by omega) hs d.length 0 k (by omega) (by omega)
  have h1:=a5H hs d.length (Nat.le_refl _)
  rw[List.take_length]at h1
  rw[aaN.f]
  refine hl.trans ?_
  obtain⟨q,hq⟩:∃ q,k - d.length=q+1:=⟨k - d.length - 1,by omega⟩
  rw[hq,aaN.l0,if_neg (by omega)]
  unfold akC
  rw[List.drop_eq_nil_of_le (by omega),List.map_nil,exR]
  by_cases c1:most<ups d
  ·rw[if_pos c1,if_pos c1]
   rfl
  ·rw[if_neg c1,if_neg (show ¬ ups d>most by omega),if_pos (by omega)]
   by_cases c2:d.sum=0
   ·rw[if_pos c2,if_pos c2]
    simp
   ·rw[if_neg c2,if_neg c2]
    rfl
 |succ j ih=>
  intro d hd hs k hk
  obtain⟨k,rfl⟩:∃ j,k=j+1:=⟨k - 1,by omega⟩
  have hl:=bAP cs most d (by omega) hs d.length 0 k (by omega) (by omega)
  have h1:=a5H hs d.length (Nat.le_refl _)
  rw[List.take_length]at h1
  have hd2:d.length<cs.length:=by omega
  rw[aaN.f]
  refine hl.trans ?_
  obtain⟨q,hq⟩:∃ q,k - d.length=q+1:=⟨k - d.length - 1,by omega⟩
  rw[hq,aaN.l0,if_neg (by omega)]
  by_cases c1:most<ups d
  ·rw[if_pos (show ups d>most by omega)]
   unfold akC
   rw[bE2 most _ _ _ c1]
   rfl
  ·rw[if_neg (show ¬ ups d>most by omega),if_neg (by omega),if_pos (by omega),if_pos (by omega),jF (x:= -most) (by omega) (by omega)]
   have hx:=bGQ hm h5 hcs d hd2 (20*j+10) (fun n h1 h2 k hk=>ih (d++[n]) (by simp;omega) (by
    intro x hx
    rcases List.mem_append.1 hx with hx|hx
    ·exact hs x hx
    ·obtain rfl:=List.mem_singleton.1 hx
     exact⟨h1,h2⟩) k hk) (2*most+1).toNat (-most) q (by omega) (by omega) (by omega)
   rw[bGM,bGO most cs d hd2 (by omega)]at hx
   exact hx
theorem bGT {most:Int} (hm:0<=most/\most<=2) {cs:List gQ} (h5:cs.length<=5) (hcs:∀ x∈cs,aaP x) (k:Nat) (hk:110<=k):aaN.f k cs most []=some (exL most cs):=by
 rw[bGS hm h5 hcs cs.length [] (by simp) (fun x hx=>by cases hx) k (by omega),bxP]
 unfold akC
 congr 1
 rw[bDD hm.1 _ (by
  intro c hc
  obtain⟨x,hx,rfl⟩:=List.mem_map.1 hc
  exact⟨(hcs x hx).1.1,(hcs x hx).2.1⟩) _ _ hm.1]
 show List.map (fun e=>[]++e) (exR most (List.map cr (List.drop 0 cs)) 0 0)=_
 rw[List.drop_zero]
 simp
def aj8 (R:pU) (a b:Int) (n:Int):List aaL:=(NC R.t.f0 (n - 1)).map fun c=>⟨a,b,c⟩
def aj0 (R:pU) (a:Int) (n:Int):List aaL:=(NC R.r.f0 (n - 1)).flatMap fun b=>aj8 R a b (R.t.f1+1)
def alK (R:pU) (n:Int):List aaL:=(NC R.l.f0 (n - 1)).flatMap fun a=>aj0 R a (R.r.f1+1)
def aeS (R:pU):List aaL:=alK R (R.l.f1+1)
structure ajT (R:pU):Prop where
 ok:arQ R
 nl:R.l.f1 - R.l.f0<8
 nr:R.r.f1 - R.r.f0<8
 nt:R.t.f1 - R.t.f0<8
theorem bIQ (R:pU) (a b:Int):aj8 R a b R.t.f0=[]:=by unfold aj8;rw[aE5 (by omega)];rfl
theorem bIR (R:pU) (a:Int):aj0 R a R.r.f0=[]:=by unfold aj0;rw[aE5 (by omega)];rfl
theorem bIS (R:pU):alK R R.l.f0=[]:=by unfold alK;rw[aE5 (by omega)];rfl
theorem bIT (R:pU) (a b:Int) {n:Int} (h:R.t.f0<=n):aj8 R a b (n+1)=aj8 R a b n++[⟨a,b,n⟩]:=by
 unfold aj8
 rw[show n+1 - 1=n by omega,aNB h,List.map_append]
 rfl
theorem bIU (R:pU) (a:Int) {n:Int} (h:R.r.f0<=n):aj0 R a (n+1)=aj0 R a n++aj8 R a n (R.t.f1+1):=by
 unfold aj0
 rw[show n+1 - 1=n by omega,aNB h,List.flatMap_append]
 simp
theorem bIV (R:pU) {n:Int} (h:R.l.f0<=n):alK R (n+1)=alK R n++aj0 R n (R.r.f1+1):=by
 unfold alK
 rw[show n+1 - 1=n by omega,aNB h,List.flatMap_append]
 simp
theorem bBC {R:pU} (h:ajT R) (a b:Int) {n:Int} (hn:n<=R.t.f1+1):(aj8 R a b n).length<=8:=by
 unfold aj8
 rw[List.length_map,aG2]
 have:=h.nt
 omega
theorem bBD {R:pU} (h:ajT R) (a:Int) {n:Int} (hn:n<=R.r.f1+1):(aj0 R a n).length<=64:=by
 unfold aj0
 have h1:=aYZ (fun b=>aj8 R a b (R.t.f1+1)) 8 (NC R.r.f0 (n - 1)) (fun b _=>bBC h a b (Int.le_refl _))
 rw[aG2]at h1
 have:=h.nr
 omega
theorem a0B {R:pU} (h:ajT R) {n:Int} (hn:n<=R.l.f1+1):(alK R n).length<=512:=by
 unfold alK
 have h1:=aYZ (fun a=>aj0 R a (R.r.f1+1)) 64 (NC R.l.f0 (n - 1)) (fun a _=>bBD h a (Int.le_refl _))
 rw[aG2]at h1
 have:=h.nl
 omega
theorem bIW {R:pU} (h:ajT R) (X:List aaL) (hX:X.length<=100000) (a b:Int):∀ (m:Nat) (n:Int) (k:Nat),n+m=R.t.f1+1->R.t.f0<=n->m<k->
  ac7.l2 k (X++aj8 R a b n) a b n R.l.f0 R.l.f1 R.r.f0 R.r.f1 R.t.f0 R.t.f1 R.off=ac7.l1 (k - 1 - m) (X++aj8 R a b (R.t.f1+1)) a (wrap64 (b+1)) R.l.f0 R.l.f1 R.r.f0 R.r.f1 R.t.f0 R.t.f1 R.off:=by
 have hk:=h.ok
 unfold arQ at hk
 intro m
 induction m with
 |zero=>
  intro n k hn hn2 hk
  obtain⟨k,rfl⟩:∃ j,k=j+1:=⟨k - 1,by omega⟩
  obtain rfl:n=R.t.f1+1:=by omega
  conv=>lhs;unfold ac7.l2
  rw[if_neg (by omega)]
  rfl
 |succ m ih=>
  intro n k hn hn2 hkk
  obtain⟨k,rfl⟩:∃ j,k=j+1:=⟨k - 1,by omega⟩
  have hl:=bBC h a b (n:=n) (by omega)
  have hx:=ih (n+1) k (by omega) (by omega) (by omega)
  rw[bIT R a b hn2,<-List.append_assoc]at hx
  conv=>lhs;unfold ac7.l2
  rw[if_pos (by omega),if_pos (by rw[List.length_append];omega),jF (x:=n+1) (by omega) (by omega),hx,show k+1 - 1 - (m+1)=k - 1 - m by omega]
theorem bIX {R:pU} (h:ajT R) (X:List aaL) (hX:X.length<=10000) (a:Int):∀ (m:Nat) (n:Int) (k:Nat),n+m=R.r.f1+1->R.r.f0<=n->10*m+10<k->
  ∃ q,k<=q+1+10*m/\ac7.l1 k (X++aj0 R a n) a n R.l.f0 R.l.f1 R.r.f0 R.r.f1 R.t.f0 R.t.f1 R.off=ac7.l0 q (X++aj0 R a (R.r.f1+1)) (wrap64 (a+1)) R.l.f0 R.l.f1 R.r.f0 R.r.f1 R.t.f0 R.t.f1 R.off:=by
 have hk:=h.ok
 have hnt:=h.nt
 unfold arQ at hk
 intro m
 induction m with
 |zero=>
  intro n k hn hn2 hk
  obtain⟨k,rfl⟩:∃ j,k=j+1:=⟨k - 1,by omega⟩
  obtain rfl:n=R.r.f1+1:=by omega
  refine⟨k,by omega,?_⟩
  conv=>lhs;unfold ac7.l1
  rw[if_neg (by omega)]
 |succ m ih=>
  intro n k hn hn2 hkk
  obtain⟨k,rfl⟩:∃ j,k=j+1:=⟨k - 1,by omega⟩
  have hl:=bBD h a (n:=n) (by omega)
  have h2:=bIW h (X++aj0 R a n) (by rw[List.length_append];omega) a n (R.t.f1+1 - R.t.f0).toNat R.t.f0 k (by omega) (Int.le_refl _) (by omega)
  rw[bIQ,List.append_nil,List.append_assoc,<-bIU R a hn2,jF (x:=n+1) (by omega) (by omega)]at h2
  obtain⟨q,hq,hx⟩:=ih (n+1) (k - 1 - (R.t.f1+1 - R.t.f0).toNat) (by omega) (by omega) (by omega)
  refine⟨q,by omega,?_⟩
  conv=>lhs;unfold ac7.l1
  rw[if_pos (by omega)]
  exact h2.trans hx
theorem bIY {R:pU} (h:ajT R):∀ (m:Nat) (n:Int) (k:Nat),n+m=R.l.f1+1->R.l.f0<=n->100*m+100<k->
  ac7.l0 k (alK R n) n R.l.f0 R.l.f1 R.r.f0 R.r.f1 R.t.f0 R.t.f1 R.off=some (aeS R):=by
 have hk:=h.ok
 have hnr:=h.nr
 unfold arQ at hk
 intro m
 induction m with
 |zero=>
  intro n k hn hn2 hk
  obtain⟨k,rfl⟩:∃ j,k=j+1:=⟨k - 1,by omega⟩
  obtain rfl:n=R.l.f1+1:=by omega
  unfold ac7.l0
  rw[if_neg (by omega)]
  rfl
 |succ m ih=>
  intro n k hn hn2 hkk
  obtain⟨k,rfl⟩:∃ j,k=j+1:=⟨k - 1,by omega⟩
  have hl:=a0B h (n:=n) (by omega)
  obtain⟨q,hq,h2⟩:=bIX h (alK R n) (by omega) n (R.r.f1+1 - R.r.f0).toNat R.r.f0 k (by omega) (Int.le_refl _) (by omega)
  rw[bIR,List.append_nil,<-bIV R hn2,jF (x:=n+1) (by omega) (by omega)]at h2
  have hx:=ih (n+1) q (by omega) (by omega) (by omega)
  unfold ac7.l0
  rw[if_pos (by omega)]
  exact h2.trans hx
theorem bIZ {R:pU} (h:ajT R) (k:Nat) (hk:1000<=k):ac7.f k R.l.f0 R.l.f1 R.r.f0 R.r.f1 R.t.f0 R.t.f1 R.off=some (aeS R):=by
 have hok:=h.ok
 have hnl:=h.nl
 unfold arQ at hok
 have:=bIY h (R.l.f1+1 - R.l.f0).toNat R.l.f0 k (by omega) (Int.le_refl _) (by omega)
 rw[bIS]at this
 exact this
theorem a0C {R:pU} {x:aaL}:x∈aeS R↔(R.l.f0<=x.f0/\x.f0<=R.l.f1)/\(R.r.f0<=x.f1/\x.f1<=R.r.f1)/\R.t.f0<=x.f2/\x.f2<=R.t.f1:=by
 unfold aeS alK aj0 aj8
 simp only[List.mem_flatMap,List.mem_map,blH,Int.add_sub_cancel]
 constructor
 ·rintro⟨a,h1,b,h2,c,h3,rfl⟩
  exact⟨h1,h2,h3⟩
 ·rintro⟨h1,h2,h3⟩
  exact⟨x.f0,h1,x.f1,h2,x.f2,h3,rfl⟩
def bZU (R:pU) (cs:List gQ) (t:Nat) (d:List Int) (x:aaL) (n:Nat):Bool:=(List.range n).all fun i=> !t.testBit i||decide (-R.off<=x.f2 - axG x.f0 x.f1 (DC cs i) (d.getD i 0)/\x.f2 - axG x.f0 x.f1 (DC cs i) (d.getD i 0)<=R.off)
theorem getD_at {d:List Int} {i:Nat} (h:i<d.length):d.getD i 0=d[i]:=by simp[List.getD_eq_getElem?_getD,h]
theorem bBE {a b A B:Int} (ha:0<=a/\a<=A) (hb: -B<=b/\b<=B) (hB:0<=B): -(A*B)<=a*b/\a*b<=A*B:=by
 have h1:a*b<=a*B:=Int.mul_le_mul_of_nonneg_left hb.2 ha.1
 have h2:a*B<=A*B:=Int.mul_le_mul_of_nonneg_right ha.2 hB
 have h3:a*(-B)<=a*b:=Int.mul_le_mul_of_nonneg_left hb.1 ha.1
 rw[Int.mul_neg]at h3
 omega
theorem bI0 {R:pU} (h:ajT R) {cs:List gQ} (h5:cs.length<=5) (hcs:∀ x∈cs,ZI x) (t:Nat) (ht:t<256) (d:List Int) (hd:d.length=cs.length) (hs:Sm2 d) (x:aaL) (hx:x∈aeS R):∀ m i k:Nat,i+m=cs.length->m<k->
  afV.l0 k cs (t:Int) d (i:Int) R.l.f0 R.l.f1 R.r.f0 R.r.f1 R.t.f0 R.t.f1 R.off x.f0 x.f1 x.f2=some ((List.range' i m).all fun i=> !t.testBit i||decide (-R.off<=x.f2 - axG x.f0 x.f1 (DC cs i) (d.getD i 0)/\x.f2 - axG x.f0 x.f1 (DC cs i) (d.getD i 0)<=R.off)):=by
 have hk:=h.ok
 unfold arQ at hk
 have hxm:=a0C.1 hx
 intro m
 induction m with
 |zero=>
  intro i k hi hk
  obtain⟨k,rfl⟩:∃ j,k=j+1:=⟨k - 1,by omega⟩
  unfold afV.l0
  rw[if_neg (by omega)]
  rfl
 |succ m ih=>
  intro i k hi hkk
  obtain⟨k,rfl⟩:∃ j,k=j+1:=⟨k - 1,by omega⟩
  have hic:i<cs.length:=by omega
  have hid:i<d.length:=by omega
  obtain⟨hb,hw0⟩:=aoV t ht i (by omega)
  have hn:=ih (i+1) k (by omega) (by omega)
  have hc:=hcs _ (List.getElem_mem hic)
  unfold ZI aaP at hc
  have hsm:=hs _ (List.getElem_mem hid)
  have m1:=bBE (a:=x.f0) (b:=cs[i].f0 - d[i]) (A:=60) (B:=26) (by omega) (by omega) (by decide)
  have m2:=bBE (a:=x.f1) (b:=cs[i].f1+d[i]) (A:=60) (B:=26) (by omega) (by omega) (by decide)
  generalize hp:x.f0*(cs[i].f0 - d[i])=p at m1
  generalize hq:x.f1*(cs[i].f1+d[i])=q at m2
  unfold afV.l0
  rw[if_pos (by omega),if_pos (by omega),if_pos (by omega),if_pos hw0,yN (by omega),hn,List.range'_succ,List.all_cons,aG1 hic,YJ hid,getD_at hid]
  rw[jF (x:=cs[i].f0 - d[i]) (by omega) (by omega),jF (x:=cs[i].f1+d[i]) (by omega) (by omega),hp,hq,jF (x:=p) (by omega) (by omega),jF (x:=q) (by omega) (by omega),jF (x:=x.f2+p) (by omega) (by omega),jF (x:=x.f2+p+q) (by omega) (by omega),jF (x:=x.f2+p+q - cs[i].f2) (by omega) (by omega),jF (x:=cs[i].f2 - (x.f2+p+q)) (by omega) (by omega),aoS]
  have hr:axG x.f0 x.f1 cs[i] d[i]=cs[i].f2 - p - q:=by unfold axG;rw[hp,hq]
  rw[hr]
  by_cases ht:t.testBit i=true
  ·rw[if_pos (hb.2 ht),ht,Bool.not_true,Bool.false_or]
   by_cases hle: -R.off<=x.f2 - (cs[i].f2 - p - q)/\x.f2 - (cs[i].f2 - p - q)<=R.off
   ·rw[if_neg (by omega),decide_eq_true hle,Bool.true_and]
   ·rw[if_pos (by omega),decide_eq_false hle,Bool.false_and]
  ·rw[if_neg (fun hh=>ht (hb.1 hh)),Bool.eq_false_iff.2 ht,Bool.not_false,Bool.true_or,Bool.true_and]
theorem bI1 {R:pU} (h:ajT R) {cs:List gQ} (h5:cs.length<=5) (hcs:∀ x∈cs,ZI x) (t:Nat) (ht:t<256) (d:List Int) (hd:d.length=cs.length) (hs:Sm2 d) (x:aaL) (hx:x∈aeS R) (k:Nat) (hk:6<=k):
  afV.f k R.l.f0 R.l.f1 R.r.f0 R.r.f1 R.t.f0 R.t.f1 R.off cs (t:Int) d x.f0 x.f1 x.f2=some (bZU R cs t d x cs.length):=by
 unfold afV.f bZU
 rw[List.range_eq_range']
 exact bI0 h h5 hcs t ht d hd hs x hx cs.length 0 k (by omega) (by omega)
def agS (R:pU) (cs:List gQ) (t:Nat) (d:List Int):Bool:=(aeS R).any fun x=>bZU R cs t d x cs.length
def trL (R:pU) (cs:List gQ) (t:Nat) (xs:List (List Int)):List (List Int):=xs.filter (agS R cs t)
def trW (R:pU) (cs:List gQ) (t:Nat) (xs:List (List Int)):List aaL:=xs.flatMap fun d=>(aeS R).filter fun x=>bZU R cs t d x cs.length
theorem bI2 {l:List aaL} {i:Nat} (h:i<l.length):acP l i=l[i]:=by
 unfold acP
 simp[List.getD_eq_getElem?_getD,h]
theorem aOO {l:List (List Int)} {i:Nat} (h:i<l.length):AP l i=l[i]:=by
 unfold AP
 simp[List.getD_eq_getElem?_getD,h]
theorem bI3 {R:pU} (h:ajT R) {cs:List gQ} (h5:cs.length<=5) (hcs:∀ x∈cs,ZI x) (t:Nat) (ht:t<256) (xs:List (List Int)) (hxl:xs.length<=3125) (out:List (List Int)) (hol:out.length<=3125) (W:List aaL) (hwl:W.length<=3125*512) (o:Nat) (ho:o<xs.length) (hd:xs[o].length=cs.length) (hs:Sm2 xs[o]):∀ m j k:Nat,j+m=(aeS R).length->m+10<k->
  abB.l1 k cs (t:Int) xs (aeS R) out (W++((aeS R).take j).filter fun x=>bZU R cs t xs[o] x cs.length) (o:Int) (((aeS R).take j).any fun x=>bZU R cs t xs[o] x cs.length) (j:Int) R.l.f0 R.l.f1 R.r.f0 R.r.f1 R.t.f0 R.t.f1 R.off=
  abB.l0 (k - 1 - m) cs (t:Int) xs (aeS R) (out++(if agS R cs t xs[o]=true then[xs[o]]else[])) (W++(aeS R).filter fun x=>bZU R cs t xs[o] x cs.length) ((o+1:Nat):Int) R.l.f0 R.l.f1 R.r.f0 R.r.f1 R.t.f0 R.t.f1 R.off:=by
 have htl:(aeS R).length<=512:=a0B h (Int.le_refl _)
 intro m
 induction m with
 |zero=>
  intro j k hj hk
  obtain⟨k,rfl⟩:∃ q,k=q+1:=⟨k - 1,by omega⟩
  obtain rfl:j=(aeS R).length:=by omega
  rw[List.take_length]
  conv=>lhs;unfold abB.l1
  rw[if_neg (by omega),yN (by omega),aOO ho]
  by_cases hg:((aeS R).any fun x=>bZU R cs t xs[o] x cs.length)=true
  ·rw[if_pos hg,if_pos (by omega),if_pos (by omega),if_pos (by omega),if_pos (show agS R cs t xs[o]=true from hg)]
   rfl
  ·rw[if_neg hg,if_neg (show ¬ agS R cs t xs[o]=true from hg),List.append_nil]
   rfl
 |succ m ih=>
  intro j k hj hk
  obtain⟨k,rfl⟩:∃ q,k=q+1:=⟨k - 1,by omega⟩
  have hjl:j<(aeS R).length:=by omega
  have hn:=ih (j+1) k (by omega) (by omega)
  have hag:=bI1 h h5 hcs t ht xs[o] hd hs _ (List.getElem_mem hjl) k (by omega)
  have hfl:(((aeS R).take j).filter fun x=>bZU R cs t xs[o] x cs.length).length<=512:=Nat.le_trans (List.length_filter_le _ _) (by rw[List.length_take];omega)
  rw[List.take_succ_eq_append_getElem hjl,List.filter_append,List.any_append]at hn
  conv=>lhs;unfold abB.l1
  rw[if_pos (by omega),if_pos (by omega),if_pos (by omega),if_pos (by omega),aOO ho,bI2 hjl,hag,yN (by omega),show k+1 - 1 - (m+1)=k - 1 - m by omega,<-hn]
  simp only[Option.bind_some]
  by_cases hb:bZU R cs t xs[o] (aeS R)[j] cs.length=true
  ·rw[if_pos hb,if_pos (by rw[List.length_append];omega)]
   simp[hb]
  ·rw[if_neg hb]
   have hb':=Bool.eq_false_iff.2 hb
   simp[hb']
theorem bD8 {R:pU} (h:ajT R) (cs:List gQ) (t:Nat):∀ xs:List (List Int),(trW R cs t xs).length<=xs.length*512:=by
 have htl:(aeS R).length<=512:=a0B h (Int.le_refl _)
 intro xs
 induction xs with
 |nil=>exact Nat.zero_le _
 |cons x xs ih=>
  unfold trW at ih ⊢
  rw[List.flatMap_cons,List.length_append,List.length_cons]
  have:=List.length_filter_le (fun y=>bZU R cs t x y cs.length) (aeS R)
  omega
theorem bI4 {R:pU} (h:ajT R) {cs:List gQ} (h5:cs.length<=5) (hcs:∀ x∈cs,ZI x) (t:Nat) (ht:t<256) (xs:List (List Int)) (hxl:xs.length<=3125) (hxs:∀ d∈xs,d.length=cs.length/\Sm2 d):∀ m o k:Nat,o+m=xs.length->600*m+600<k->
  abB.l0 k cs (t:Int) xs (aeS R) (trL R cs t (xs.take o)) (trW R cs t (xs.take o)) (o:Int) R.l.f0 R.l.f1 R.r.f0 R.r.f1 R.t.f0 R.t.f1 R.off=some (trL R cs t xs,trW R cs t xs):=by
 have htl:(aeS R).length<=512:=a0B h (Int.le_refl _)
 intro m
 induction m with
 |zero=>
  intro o k ho hk
  obtain⟨k,rfl⟩:∃ q,k=q+1:=⟨k - 1,by omega⟩
  obtain rfl:o=xs.length:=by omega
  unfold abB.l0
  rw[if_neg (by omega),List.take_length]
 |succ m ih=>
  intro o k ho hk
  obtain⟨k,rfl⟩:∃ q,k=q+1:=⟨k - 1,by omega⟩
  have hol:o<xs.length:=by omega
  obtain⟨hd,hs⟩:=hxs _ (List.getElem_mem hol)
  have hwl:=bD8 h cs t (xs.take o)
  rw[List.length_take]at hwl
  have ht1:(trL R cs t (xs.take o)).length<=3125:=by
   unfold trL
   have:=List.length_filter_le (agS R cs t) (xs.take o)
   rw[List.length_take]at this
   omega
  have ht2:(trW R cs t (xs.take o)).length<=3125*512:=Nat.le_trans hwl (Nat.mul_le_mul_right _ (by omega))
  have hl1:=bI3 h h5 hcs t ht xs hxl (trL R cs t (xs.take o)) ht1 (trW R cs t (xs.take o)) ht2 o hol hd hs (aeS R).length 0 k (by omega) (by omega)
  have hn:=ih (o+1) (k - 1 - (aeS R).length) (by omega) (by omega)
  rw[List.take_succ_eq_append_getElem hol]at hn
  have e1:trL R cs t (xs.take o++[xs[o]])=trL R cs t (xs.take o)++(if agS R cs t xs[o]=true then[xs[o]]else[]):=by
   unfold trL
   rw[List.filter_append]
   congr 1
   by_cases hh:agS R cs t xs[o]=true
   ·simp[hh]
   ·simp[hh]
  have e2:trW R cs t (xs.take o++[xs[o]])=trW R cs t (xs.take o)++(aeS R).filter fun x=>bZU R cs t xs[o] x cs.length:=by
   unfold trW
   rw[List.flatMap_append]
   simp
  rw[e1,e2]at hn
  rw[List.take_zero,List.filter_nil,List.append_nil,List.any_nil]at hl1
  unfold abB.l0
  rw[if_pos (by omega)]
  exact hl1.trans hn
theorem bI5 (most:Int):∀ (cs:List Cr) (sum up:Int) (d:List Int),d∈exP most cs sum up->d.length=cs.length/\∀ x∈d,-most<=x/\x<=most:=by
 intro cs
 induction cs with
 |nil=>
  intro sum up d hd
  rw[exP]at hd
  split at hd
  ·obtain rfl:=List.mem_singleton.1 hd
   exact⟨rfl,fun x hx=>by cases hx⟩
  ·cases hd
 |cons c cs ih=>
  intro sum up d hd
  rw[exP]at hd
  obtain⟨n,hn,hd⟩:=List.mem_flatMap.1 hd
  have hn:=blH.1 hn
  split at hd
  ·obtain⟨e,he,rfl⟩:=List.mem_map.1 hd
   obtain⟨h1,h2⟩:=ih _ _ _ he
   refine⟨by rw[List.length_cons,List.length_cons,h1],fun x hx=>?_⟩
   rcases List.mem_cons.1 hx with rfl|hx
   ·omega
   ·exact h2 x hx
  ·cases hd
theorem bBF {most:Int} (hm:0<=most/\most<=2) {cs:List gQ} (h5:cs.length<=5) (hcs:∀ x∈cs,aaP x):(exL most cs).length<=3125/\∀ d∈exL most cs,d.length=cs.length/\Sm2 d:=by
 rw[bxP]
 refine⟨?_,fun d hd=>?_⟩
 ·rw[bDD hm.1 _ (by
   intro c hc
   obtain⟨x,hx,rfl⟩:=List.mem_map.1 hc
   exact⟨(hcs x hx).1.1,(hcs x hx).2.1⟩) _ _ hm.1]
  refine Nat.le_trans (bAJ hm.2 _ _ _) ?_
  rw[List.length_map]
  exact Nat.pow_le_pow_right (by decide) h5
 ·obtain⟨h1,h2⟩:=bI5 most _ _ _ d hd
  refine⟨by rw[h1,List.length_map],fun x hx=>?_⟩
  have:=h2 x hx
  omega
theorem bD9 {R:pU} (h:ajT R) {most:Int} (hm:0<=most/\most<=2) {cs:List gQ} (h5:cs.length<=5) (hcs:∀ x∈cs,ZI x) (t:Nat) (ht:t<256) (k:Nat) (hk:1900000<=k):
  abB.f k R.l.f0 R.l.f1 R.r.f0 R.r.f1 R.t.f0 R.t.f1 R.off cs most (t:Int)=some (trL R cs t (exL most cs),trW R cs t (exL most cs)):=by
 have hcr:∀ x∈cs,aaP x:=fun x hx=>(hcs x hx).1
 obtain⟨h1,h2⟩:=bBF hm h5 hcr
 unfold abB.f
 rw[bGT hm h5 hcr k (by omega)]
 simp only[Option.bind_some]
 rw[bIZ h k (by omega)]
 simp only[Option.bind_some]
 exact bI4 h h5 hcs t ht (exL most cs) h1 h2 (exL most cs).length 0 k (by omega) (by omega)
theorem bjW (R:pU) (a b c:Int) (cs:List gQ) (d:List Int) (wo:Nat):∀ n,(EG R a b cs d wo n).f0<=c/\c<=(EG R a b cs d wo n).f1↔(R.t.f0<=c/\c<=R.t.f1)/\∀ i,i<n->wo.testBit i=false-> -R.off<=c - axG a b (DC cs i) (d.getD i 0)/\c - axG a b (DC cs i) (d.getD i 0)<=R.off:=by
 intro n
 induction n with
 |zero=>exact⟨fun h=>⟨h,fun i hi=>by omega⟩,fun h=>h.1⟩
 |succ n ih=>
  rw[EG]
  by_cases hw:wo.testBit n=true
  ·rw[if_pos hw,ih]
   refine⟨fun h=>⟨h.1,fun i hi hb=>?_⟩,fun h=>⟨h.1,fun i hi=>h.2 i (by omega)⟩⟩
   by_cases e:i=n
   ·subst e;rw[hw]at hb;cases hb
   ·exact h.2 i (by omega) hb
  ·rw[if_neg hw]
   unfold QG
   simp only[aoS,aoT]
   constructor
   ·intro h
    have h1:=ih.1 (by omega)
    refine⟨h1.1,fun i hi hb=>?_⟩
    by_cases e:i=n
    ·subst e;omega
    ·exact h1.2 i (by omega) hb
   ·intro h
    have h1:=ih.2 ⟨h.1,fun i hi=>h.2 i (by omega)⟩
    have h2:=h.2 n (by omega) (Bool.eq_false_iff.2 hw)
    omega
theorem a3C {R:pU} {cs:List gQ} {d:List Int} {wo:Nat} {x:Int×Int×aH}:x∈anW R cs d wo↔(R.l.f0<=x.1/\x.1<=R.l.f1)/\(R.r.f0<=x.2.1/\x.2.1<=R.r.f1)/\x.2.2=EG R x.1 x.2.1 cs d wo cs.length/\x.2.2.f0<=x.2.2.f1:=by
 unfold anW UL PL
 simp only[List.mem_flatMap,blH,Int.add_sub_cancel]
 constructor
 ·rintro⟨a,h1,b,h2,h3⟩
  unfold anV at h3
  split at h3
  ·rename_i hle
   obtain rfl:=List.mem_singleton.1 h3
   exact⟨h1,h2,rfl,hle⟩
  ·cases h3
 ·rintro⟨h1,h2,h3,h4⟩
  refine⟨x.1,h1,x.2.1,h2,?_⟩
  unfold anV
  rw[<-h3,if_pos h4]
  obtain⟨a,b,c⟩:=x
  exact List.mem_singleton.2 rfl
theorem blO (R:pU) (cs:List gQ) (t:Nat) (d:List Int) (x:aaL) (n:Nat):bZU R cs t d x n=true↔∀ i,i<n->t.testBit i=true-> -R.off<=x.f2 - axG x.f0 x.f1 (DC cs i) (d.getD i 0)/\x.f2 - axG x.f0 x.f1 (DC cs i) (d.getD i 0)<=R.off:=by
 unfold bZU
 rw[zO]
 constructor
 ·intro h i hi hb
  have:=h i hi
  rw[hb,Bool.not_true,Bool.false_or]at this
  exact of_decide_eq_true this
 ·intro h i hi
  cases hb:t.testBit i
  ·rfl
  ·rw[Bool.not_true,Bool.false_or]
   exact decide_eq_true (h i hi hb)
theorem bI6 {R:pU} {cs:List gQ} {s t:Nat} (hst:∀ i,i<cs.length->t.testBit i= !s.testBit i) (d:List Int):BC R cs s d=agS R cs t d:=by
 unfold BC agS
 rw[Bool.eq_iff_iff,Bool.not_eq_true',List.any_eq_true]
 have hne:(anW R cs d s).isEmpty=false↔∃ y,y∈anW R cs d s:=by
  cases hw:anW R cs d s with
  |nil=>simp
  |cons y ys=>simp
 rw[hne]
 constructor
 ·rintro⟨y,hy⟩
  obtain⟨h1,h2,h3,h4⟩:=a3C.1 hy
  have h5:=(bjW R y.1 y.2.1 y.2.2.f0 cs d s cs.length).1 (by rw[<-h3];exact⟨Int.le_refl _,h4⟩)
  refine⟨⟨y.1,y.2.1,y.2.2.f0⟩,a0C.2 ⟨h1,h2,h5.1⟩,(blO _ _ _ _ _ _).2 fun i hi hb=>?_⟩
  refine h5.2 i hi ?_
  rw[hst i hi]at hb
  simpa using hb
 ·rintro⟨x,hx,hag⟩
  obtain⟨h1,h2,h3⟩:=a0C.1 hx
  have h5:=(bjW R x.f0 x.f1 x.f2 cs d s cs.length).2 ⟨h3,fun i hi hb=>(blO _ _ _ _ _ _).1 hag i hi (by rw[hst i hi,hb];rfl)⟩
  exact⟨(x.f0,x.f1,EG R x.f0 x.f1 cs d s cs.length),a3C.2 ⟨h1,h2,rfl,Int.le_trans h5.1 h5.2⟩⟩
theorem bEA {R:pU} {cs:List gQ} {most:Int} {s t:Nat} (hst:∀ i,i<cs.length->t.testBit i= !s.testBit i):trL R cs t (exL most cs)=PM R cs most s:=by
 unfold trL PM
 congr 1
 funext d
 exact(bI6 hst d).symm
theorem bJ4 (a b:Int):aeW.f a b=some (agB ⟨a,b⟩):=by
 unfold aeW.f
 rw[aAZ]
 simp only[Option.bind_some,decide_eq_true_iff]
 unfold agB
 by_cases h:0<=a/\a<=b/\b<=60
 ·have h1:UE a b 60=true:=by
   simp[UE,allIn,xR]
   omega
  rw[if_pos h,h1,jF (by omega) (by omega),Bool.true_and]
 ·have h1:UE a b 60=false:=by
   rw[Bool.eq_false_iff]
   intro hh
   simp[UE,allIn,xR]at hh
   omega
  rw[if_neg h,h1,Bool.false_and]
theorem bB0 (x:gQ):aiQ x=true↔(0<=x.f0/\x.f0<=24)/\(0<=x.f1/\x.f1<=24)/\0<=x.f2/\x.f2<=5000:=by
 simp[aiQ,allIn,xR]
 try omega
theorem bJ5 (cs:List gQ) (most:Int) (h5:cs.length<=5):∀ m i k:Nat,i+m=cs.length->m<k->
  aaU.l0 k cs most (i:Int)=some (if(cs.drop i).all (fun x=>aiQ x)=true then(if cs.length=0 then 2 else if 0<=most/\most<=2 then 0 else 3)else 2):=by
 intro m
 induction m with
 |zero=>
  intro i k hi hk
  obtain⟨k,rfl⟩:∃ j,k=j+1:=⟨k - 1,by omega⟩
  rw[aaU.l0,if_neg (by omega),List.drop_eq_nil_of_le (by omega),List.all_nil,if_pos rfl,PQ]
  simp only[Option.bind_some,decide_eq_true_iff]
  by_cases h0:cs.length=0
  ·rw[if_pos (by omega),if_pos h0]
  ·rw[if_neg (by omega),if_neg h0]
   split<;>rfl
 |succ m ih=>
  intro i k hi hk
  obtain⟨k,rfl⟩:∃ j,k=j+1:=⟨k - 1,by omega⟩
  have hl:i<cs.length:=by omega
  have hn:=ih (i+1) k (by omega) (by omega)
  have hb:=bB0 cs[i]
  rw[aaU.l0,if_pos (by omega),if_pos (by omega),aG1 hl,yN (by omega),hn,List.drop_eq_getElem_cons hl,List.all_cons]
  simp only[PQ,Option.bind_some,decide_eq_true_iff]
  by_cases h1:0<=cs[i].f0/\cs[i].f0<=24
  ·rw[if_pos h1]
   by_cases h2:0<=cs[i].f1/\cs[i].f1<=24
   ·rw[if_pos h2]
    by_cases h3:0<=cs[i].f2/\cs[i].f2<=5000
    ·rw[if_pos h3,hb.2 ⟨h1,h2,h3⟩,Bool.true_and]
    ·rw[if_neg h3,Bool.eq_false_iff.2 (fun hh=>h3 (hb.1 hh).2.2),Bool.false_and,if_neg Bool.false_ne_true]
   ·rw[if_neg h2,Bool.eq_false_iff.2 (fun hh=>h2 (hb.1 hh).2.1),Bool.false_and,if_neg Bool.false_ne_true]
  ·rw[if_neg h1,Bool.eq_false_iff.2 (fun hh=>h1 (hb.1 hh).1),Bool.false_and,if_neg Bool.false_ne_true]
theorem bJ6 (cs:List gQ) (most:Int) (k:Nat) (hk:8<=k):aaU.j0 k cs most false=some (if 5<cs.length then 5 else if(decide (cs.length=0)||cs.any (fun x=> !aiQ x))=true then 2 else if allIn 0 2 [most]=true then 0 else 3):=by
 obtain⟨k,rfl⟩:∃ j,k=j+1:=⟨k - 1,by omega⟩
 rw[aaU.j0,if_neg Bool.false_ne_true]
 by_cases h5:5<cs.length
 ·rw[if_pos (by omega),if_pos h5]
 ·rw[if_neg (by omega),if_neg h5,alW]
  have:=bJ5 cs most (by omega) cs.length 0 k (by omega) (by omega)
  rw[List.drop_zero]at this
  refine this.trans ?_
  have hm:allIn 0 2 [most]=decide (0<=most/\most<=2):=by
   rw[Bool.eq_iff_iff,decide_eq_true_iff]
   simp[allIn,xR]
   try omega
  rw[hm]
  congr 1
  by_cases h0:cs.length=0
  ·rw[if_pos h0,decide_eq_true h0,Bool.true_or,if_pos rfl]
   split<;>rfl
  ·rw[if_neg h0,decide_eq_false h0,Bool.false_or]
   cases cs.all (fun x=>aiQ x)
   ·rfl
   ·simp only[if_true,Bool.not_true,Bool.false_eq_true,if_false,decide_eq_true_iff]
theorem bJ7 (a b c d e f g:Int) (cs:List gQ) (most:Int) (k:Nat) (hk:9<=k):aaU.f k a b c d e f g cs most=some (BX (IE a b c d e f g) cs most):=by
 have hj:∀ j,9<=j->aaU.j0 j cs most true=some 4:=by
  intro j hj
  obtain⟨j,rfl⟩:∃ i,j=i+1:=⟨j - 1,by omega⟩
  rw[aaU.j0,if_pos rfl]
 unfold aaU.f BX IE
 simp only[bJ4,Option.bind_some,PQ]
 have hg:allIn 0 20 [g]=decide (0<=g/\g<=20):=by
  rw[Bool.eq_iff_iff,decide_eq_true_iff]
  simp[allIn,xR]
  try omega
 rw[hg]
 by_cases h1:agB ⟨a,b⟩=true
 ·rw[if_pos h1,h1,Bool.true_and]
  by_cases h2:agB ⟨c,d⟩=true
  ·rw[if_pos h2,h2,Bool.true_and]
   by_cases h3:agB ⟨e,f⟩=true
   ·rw[if_pos h3,h3,Bool.true_and]
    by_cases h4:0<=g/\g<=20
    ·rw[decide_eq_true h4,if_pos rfl,Bool.not_true]
     exact bJ6 cs most k (by omega)
    ·rw[decide_eq_false h4,if_neg Bool.false_ne_true,Bool.not_false]
     exact hj k hk
   ·rw[if_neg h3,Bool.eq_false_iff.2 h3,Bool.false_and,if_neg Bool.false_ne_true]
    exact hj k hk
  ·rw[if_neg h2,Bool.eq_false_iff.2 h2,Bool.false_and,Bool.false_and,if_neg Bool.false_ne_true]
   exact hj k hk
 ·rw[if_neg h1,Bool.eq_false_iff.2 h1,Bool.false_and,Bool.false_and,Bool.false_and,if_neg Bool.false_ne_true]
  exact hj k hk
theorem bJ8 {R:pU} {cs:List gQ} {most:Int} (h:BX R cs most=0):ajT R/\(1<=cs.length/\cs.length<=5)/\(∀ x∈cs,ZI x)/\0<=most/\most<=2:=by
 unfold BX at h
 split at h
 ·rename_i h1
  split at h
  ·cases h
  ·rename_i h2
   split at h
   ·cases h
   ·rename_i h3
    split at h
    ·rename_i h4
     simp[agB,UE,allIn,xR]at h1
     simp[allIn,xR]at h4
     rw[alW,Bool.or_eq_true,not_or,decide_eq_true_iff,Bool.not_eq_true',Bool.not_eq_false,List.all_eq_true]at h3
     refine⟨⟨?_,by omega,by omega,by omega⟩,by omega,fun x hx=>?_,by omega⟩
     ·unfold arQ
      omega
     ·have:=(bB0 x).1 (h3.2 x hx)
      unfold ZI aaP
      omega
    ·cases h
 ·cases h
theorem bJ9 (cs:List gQ) (h:cs.length<=1000):∀ m i k:Nat,i+m=cs.length->m<k->aiS.l0 k cs cs (i:Int)=some true:=by
 intro m
 induction m with
 |zero=>
  intro i k hi hk
  obtain⟨k,rfl⟩:∃ j,k=j+1:=⟨k - 1,by omega⟩
  rw[aiS.l0,if_neg (by omega)]
 |succ m ih=>
  intro i k hi hk
  obtain⟨k,rfl⟩:∃ j,k=j+1:=⟨k - 1,by omega⟩
  rw[aiS.l0,if_pos (by omega),if_pos (by omega),if_pos (by omega),if_neg (by simp),yN (by omega)]
  exact ih (i+1) k (by omega) (by omega)
theorem bKA (cs:List gQ) (h:cs.length<=1000) (k:Nat) (hk:cs.length<k):aiS.f k cs cs=some true:=by
 unfold aiS.f
 rw[if_pos rfl]
 exact bJ9 cs h cs.length 0 k (by omega) (by omega)
theorem bED (cs:List gQ) (h:cs.length<=1000):aAE.f cs=some cs:=by
 unfold aAE.f
 simp only[Option.bind_some,List.length_nil,List.nil_append]
 rw[if_pos (by omega)]
end Go.Proofs.YtcmfnebcmmklkaaDoor.Hand
namespace Go.Proofs.YtcmfnebcmmklkaaDoor.Q
open Go.RowKit Go.Proofs.YtcmfnebcmmklkaaDoorW.dQ Go.Proofs.YtcmfnebcmmklkaaDoorW.oU Go.Proofs.YtcmfnebcmmklkaaDoorW.gG
attribute [local go_sem] uA uB uC uD uM uN uO uP
mutual
def bZW.l0:Nat->List (gQ)->Int->List Int->Bool->Int->Int->Int->Int->Int->Int->Int->Int->Int->Option (List Int)
 |0,_,_,_,_,_,_,_,_,_,_,_,_,_=>none
 |k+1,x1,x2,x7,x8,x9,x10,boQ,boR,boS,boT,boU,bo9,bpA=>if x10<=x9 then((oW.f k x10 (x1.length:Int)).bind fun aq7=>(if x8=true then((adI.f k aq7 x7).bind fun a0U=>(bZW.j1 k x1 x2 x7 x8 x9 x10 aq7 (!a0U) boQ boR boS boT boU bo9 bpA))else(bZW.j1 k x1 x2 x7 x8 x9 x10 aq7 false boQ boR boS boT boU bo9 bpA)))else(some x7)
def bZW.j1:Nat->List (gQ)->Int->List Int->Bool->Int->Int->List Int->Bool->Int->Int->Int->Int->Int->Int->Int->Option (List Int)
 |0,_,_,_,_,_,_,_,_,_,_,_,_,_,_,_=>none
 |k+1,x1,x2,x7,x8,x9,x10,x11,x35,boQ,boR,boS,boT,boU,bo9,bpA=>if x35=true then(bZW.l0 k x1 x2 x7 x8 x9 (wrap64 (x10+1)) boQ boR boS boT boU bo9 bpA)else((abB.f k boQ boR boS boT boU bo9 bpA x1 x2 (wrap64 (x9 - x10))).bind fun bKP=>(if(bKP.1.length:Int)>0 then(bZW.l0 k x1 x2 x11 true x9 (wrap64 (x10+1)) boQ boR boS boT boU bo9 bpA)else(bZW.l0 k x1 x2 x7 x8 x9 (wrap64 (x10+1)) boQ boR boS boT boU bo9 bpA)))
end
def bZW.f (k:Nat) (bV:Int) (bU:Int) (iL:Int) (iO:Int) (kV:Int) (lW:Int) (rW:Int) (l1:List (gQ)) (a2:Int):Option (List Int):=if 0<=(IntKind.u64.wrap ((l1.length:Int)))then(bZW.l0 k l1 a2 (([]:List Int)) false (wrap64 ((shl .i64 1 (IntKind.u64.wrap ((l1.length:Int)))) - 1)) 0 bV bU iL iO kV lW rW)else(none)
end Go.Proofs.YtcmfnebcmmklkaaDoor.Q
namespace Go.Proofs.YtcmfnebcmmklkaaDoor.Hand
open Go.RowKit Go.Shelf Go.Proofs.YtcmfnebcmmklkaaDoorW.dQ Go.Proofs.YtcmfnebcmmklkaaDoorW.gG Go.Proofs.YtcmfnebcmmklkaaDoor.Q
theorem bY2 {R:pU} (h:ajT R) {most:Int} (hm:0<=most/\most<=2) {cs:List gQ} (h5:cs.length<=5) (hcs:∀ x∈cs,ZI x):∀ m s k:Nat,s+m=2^cs.length->2*m+1900010<k->
  bZW.l0 k cs most ((pR (agF R cs most) iQ s).getD []) (pR (agF R cs most) iQ s).isSome ((2^cs.length - 1:Nat):Int) (s:Int) R.l.f0 R.l.f1 R.r.f0 R.r.f1 R.t.f0 R.t.f1 R.off=some ((pR (agF R cs most) iQ (2^cs.length)).getD []):=by
 have hp:2^cs.length<=2^5:=Nat.pow_le_pow_right (by decide) h5
 have hp0:0<2^cs.length:=Nat.two_pow_pos _
 intro m
 induction m with
 |zero=>
  intro s k hs hk
  obtain⟨k,rfl⟩:∃ j,k=j+1:=⟨k - 1,by omega⟩
  obtain rfl:s=2^cs.length:=by omega
  rw[bZW.l0,if_neg (by omega)]
 |succ m ih=>
  intro s k hs hk
  obtain⟨k,rfl⟩:∃ j,k=j+1+1:=⟨k - 2,by omega⟩
  have hs2:s<2^cs.length:=by omega
  have hn:=ih (s+1) k (by omega) (by omega)
  have hnum:=aQQ (n:=cs.length) (by omega) hs2 (k+1) (by omega)
  have htr:=bD9 h hm h5 hcs (2^cs.length - 1 - s) (by omega) k (by omega)
  rw[bEA (bqO hs2)]at htr
  have hsub:wrap64 (((2^cs.length - 1:Nat):Int) - (s:Int))=((2^cs.length - 1 - s:Nat):Int):=by rw[jF (by omega) (by omega)];omega
  obtain⟨f1,f2⟩:=a4U (agF R cs most) s
  have hfew:=bqN (iQ s) ((pR (agF R cs most) iQ s).getD []) (aBH s) f1 (aBG s) f2 (k+1) (by omega)
  rw[bZW.l0,if_pos (by omega),hnum]
  simp only[Option.bind_some]
  rw[pR]at hn
  have hgo:∀ (b:List Int) (f:Bool),bZW.j1 (k+1) cs most b f ((2^cs.length - 1:Nat):Int) (s:Int) (iQ s) false R.l.f0 R.l.f1 R.r.f0 R.r.f1 R.t.f0 R.t.f1 R.off=if agF R cs most s=true then bZW.l0 k cs most (iQ s) true ((2^cs.length - 1:Nat):Int) ((s+1:Nat):Int) R.l.f0 R.l.f1 R.r.f0 R.r.f1 R.t.f0 R.t.f1 R.off else bZW.l0 k cs most b f ((2^cs.length - 1:Nat):Int) ((s+1:Nat):Int) R.l.f0 R.l.f1 R.r.f0 R.r.f1 R.t.f0 R.t.f1 R.off:=by
   intro b f
   rw[bZW.j1,if_neg (by decide),hsub,htr,yN (by omega)]
   simp only[Option.bind_some]
   unfold agF
   cases hl:PM R cs most s with
   |nil=>rfl
   |cons x xs=>
    rw[if_pos (by simp),if_pos (by simp)]
  cases hf:pR (agF R cs most) iQ s with
  |none=>
   rw[hf]at hn
   simp only[Option.isSome_none,Bool.false_eq_true,if_false,Option.getD_none]at hn ⊢
   rw[hgo]
   by_cases hi:agF R cs most s=true
   ·rw[if_pos hi]at hn ⊢
    exact hn
   ·rw[if_neg hi]at hn ⊢
    exact hn
  |some b=>
   rw[hf]at hn hfew
   simp only[Option.isSome_some,if_true,Option.getD_some]at hn hfew ⊢
   rw[hfew]
   simp only[Option.bind_some]
   by_cases hb:ab6 (iQ s) b=true
   ·rw[hb,show(!true)=false from rfl,hgo]
    by_cases hi:agF R cs most s=true
    ·rw[if_pos ⟨hb,hi⟩]at hn
     rw[if_pos hi]
     exact hn
    ·rw[if_neg (fun hh=>hi hh.2)]at hn
     rw[if_neg hi]
     exact hn
   ·rw[if_neg (fun hh=>hb hh.1)]at hn
    rw[Bool.eq_false_iff.2 hb,show(!false)=true from rfl,bZW.j1,if_pos rfl,yN (by omega)]
    exact hn
theorem bO2:∀ n:Nat,n<=8->0<=IntKind.u64.wrap (n:Int)/\wrap64 ((shl .i64 1 (IntKind.u64.wrap (n:Int))) - 1)=((2^n - 1:Nat):Int):=by decide+kernel
theorem bY3 {R:pU} (h:ajT R) {most:Int} (hm:0<=most/\most<=2) {cs:List gQ} (h5:cs.length<=5) (hcs:∀ x∈cs,ZI x) (k:Nat) (hk:1900100<=k):
  bZW.f k R.l.f0 R.l.f1 R.r.f0 R.r.f1 R.t.f0 R.t.f1 R.off cs most=some ((aiV R cs most).getD []):=by
 obtain⟨z1,z2⟩:=bO2 cs.length (by omega)
 have hp:2^cs.length<=2^5:=Nat.pow_le_pow_right (by decide) h5
 unfold bZW.f
 rw[if_pos z1,z2]
 exact bY2 h hm h5 hcs (2^cs.length) 0 k (by omega) (by omega)
end Go.Proofs.YtcmfnebcmmklkaaDoor.Hand
namespace Go.Proofs.YtcmfnebcmmklkaaDoor.Hand
open Go.RowKit Go.Shelf Go.Proofs.YtcmfnebcmmklkaaDoorW.dQ Go.Proofs.YtcmfnebcmmklkaaDoorW.oU Go.Proofs.YtcmfnebcmmklkaaDoorW.gG Go.Proofs.YtcmfnebcmmklkaaDoor.Q
attribute [local go_sem] Oper.semAt_some run_store_func blI blJ uC uD
def a0V (s:aH×aH×aH) (x:aaL):aH×aH×aH:=mJ s (x.f0,x.f1,⟨x.f2,x.f2⟩)
def n99:aH×aH×aH:=(⟨99,0⟩,⟨99,0⟩,⟨99,0⟩)
def bpB (xs:List aaL):aH×aH×aH:=xs.foldl a0V n99
structure a0W (b:Nat) (p:Addr) (s:aH) (x:Int) (W:World):Prop where
 g1:W.cell? ⟨b,1,none⟩=some (.int .i64 s.f1)
 g2:W.cell? p=some (.int .i64 x)
theorem CE.bO3 {W:World} {b c:Nat} {s:aH×aH×aH} (h:CE W b s) (hne:c<b) (u v:Value):CE ((W.setCell ⟨c,0,none⟩ u).setCell ⟨c,1,none⟩ v) b s:=
 ⟨(h.x1.other (b':=c) (by omega) 0 _).other (b':=c) (by omega) 1 _,(h.x2.other (b':=c) (by omega) 0 _).other (b':=c) (by omega) 1 _,(h.x3.other (b':=c) (by omega) 0 _).other (b':=c) (by omega) 1 _⟩
theorem CE.bKQ {W:World} {b c:Nat} {s:aH×aH×aH} (h:CE W b s) (hne:b+1+1<c) (u v:Value):CE ((W.setCell ⟨c,0,none⟩ u).setCell ⟨c,1,none⟩ v) b s:=
 ⟨(h.x1.other (b':=c) (by omega) 0 _).other (b':=c) (by omega) 1 _,(h.x2.other (b':=c) (by omega) 0 _).other (b':=c) (by omega) 1 _,(h.x3.other (b':=c) (by omega) 0 _).other (b':=c) (by omega) 1 _⟩
theorem bY4 (t:Array Value) (W:World) (b:Nat) (s:aH×aH×aH) (h2:t.getD 2 undef=.pointer (some ⟨b,0,none⟩)) (h3:t.getD 3 undef=.pointer (some ⟨b+1,0,none⟩)) (h4:t.getD 4 undef=.pointer (some ⟨b+1+1,0,none⟩)) (hb:CE W b s):
  (results Tryd.f48 t).run Tryd.prog W=.ok (.tuple #[vS s.1,vS s.2.1,vS s.2.2]) W:=by
 obtain⟨c0,c1,c2,c3,c4,c5⟩:=hb.reg
 simp only[Array.getD_eq_getD_getElem?]at h2 h3 h4
 clear hb
 simp[results,Tryd.results48,go_sem,h2,h3,h4,c0,c1,c2,c3,c4,c5]
theorem bY5 (xs:List aaL) (A:Option Addr) (cp:Nat) (w:World) (hr:Kd.C ajW w A xs.length xs) (hx:xs.length<=100000000):
  Calls Tryd.prog 48 #[.slice A xs.length cp] w fun e w'=>e=.returned (.tuple #[vS (bpB xs).1,vS (bpB xs).2.1,vS (bpB xs).2.2])/\Below w.heap.size w w':=by
 obtain⟨Wa,hWa⟩:∃ Wa,((w.alloc (.cells #[.int .i64 0,.int .i64 0] 42)).alloc (.cells #[.int .i64 0,.int .i64 0] 42)).alloc (.cells #[.int .i64 0,.int .i64 0] 42)=Wa:=⟨_,rfl⟩
 have hba:Below w.heap.size w Wa:=by rw[<-hWa];exact(((Below.refl _ _).alloc (Nat.le_refl _) _).alloc (by simp) _).alloc (by simp;omega) _
 have htr:CE Wa w.heap.size zero3:=by
  rw[<-hWa]
  exact⟨((Box.new w _ _).alloc _).alloc _,(Box.new' _ _ _ (by simp)).alloc _,Box.new' _ _ _ (by simp)⟩
 have hsa:Wa.heap.size=w.heap.size+1+1+1:=by rw[<-hWa];simp
 have hWd:=Lib.hid hWa
 clear hWa
 refine(callsIn_wide (n:=0)).1 ?_
 refine callsIn_of_wp Tryd.func48 rfl trivial ?_
 simp only[Tryd.ntmps48,List.size_toArray,List.length_cons,List.length_nil,Nat.reduceAdd,Nat.reduceSub,Array.replicate_succ,Array.replicate_zero,List.push_toArray,List.append_toArray,List.nil_append,List.cons_append]
 gi_wp2_with fail
 rw[hWd.out]
 obtain⟨Wb,hWb⟩:∃ Wb,((Wa.alloc (.cells #[.int .i64 99,.int .i64 0] 42)).alloc (.cells #[.int .i64 99,.int .i64 0] 42)).alloc (.cells #[.int .i64 99,.int .i64 0] 42)=Wb:=⟨_,rfl⟩
 rw[hWb]
 have hbb:Below Wa.heap.size Wa Wb:=by rw[<-hWb];exact(((Below.refl _ _).alloc (Nat.le_refl _) _).alloc (by simp) _).alloc (by simp;omega) _
 have htb:CE Wb Wa.heap.size n99:=by
  rw[<-hWb]
  exact⟨((Box.new Wa _ _).alloc _).alloc _,(Box.new' _ _ _ (by simp)).alloc _,Box.new' _ _ _ (by simp)⟩
 have bO4:=htr.step hbb
 have hB:=hba.trans (hbb.mono hba.size)
 obtain⟨b,hb⟩:∃ b,w.heap.size+1+1+1=b:=⟨_,rfl⟩
 rw[hsa,hb]at htb
 have hbw:w.heap.size+3=b:=by omega
 rw[hb]
 clear hWb hbb htr hba hsa hWd hb
 gi_loopw [8] (fun iv wr=>∃ i:Nat,i<=xs.length/\iv=.int .i64 i/\CE wr b ((xs.take i).foldl a0V n99)/\CE wr w.heap.size zero3/\Below w.heap.size w wr) (fun iv _=>xs.length - (intOf iv).toNat)
 case atStart=>exact⟨0,Nat.zero_le _,rfl,htb,bO4,hB⟩
 case round=>
  clear htb bO4 hB
  obtain⟨i,hi,rfl,ht,ht0,hB⟩:=hrel
  by_cases hlt:i<xs.length
  ·obtain⟨x,hxe⟩:∃ x,acP xs (i:Int)=x:=⟨_,rfl⟩
   obtain⟨ad,hA,_⟩:=a1G (Kd.bJ hr hB) (i:Int) (by omega) (by omega)
   subst hA
   have hg:Hid (∀ W,Below w.heap.size w W->W.cell? (ad.add (i*3))=some (.int .i64 x.f0)/\W.cell? ⟨(ad.add (i*3)).block,(ad.add (i*3)).off+1,none⟩=some (.int .i64 x.f1)/\W.cell? ⟨(ad.add (i*3)).block,(ad.add (i*3)).off+2,none⟩=some (.int .i64 x.f2)):=Lib.hid (fun W hW=>by
    obtain⟨ad',hA',h1⟩:=a1G (Kd.bJ hr hW) (i:Int) (by omega) (by omega)
    obtain rfl:=Option.some.inj hA'
    rw[Int.toNat_natCast,hxe]at h1
    exact h1)
   have hst:Hid ((xs.take (i+1)).foldl a0V n99=a0V ((xs.take i).foldl a0V n99) x):=Lib.hid (by
    rw[List.take_succ_eq_append_getElem hlt,List.foldl_append,<-hxe]
    unfold acP
    simp[List.getD_eq_getElem?_getD,hlt])
   obtain⟨acc,hac⟩:∃ acc,(xs.take i).foldl a0V n99=acc:=⟨_,rfl⟩
   rw[hac]at ht hst
   clear hac hxe
   have hil:(i:Int)<(xs.length:Int):=by omega
   have hdl:decide ((i:Int)<(xs.length:Int))=true:=decide_eq_true hil
   have hw1:Hid (wrap64 ((i:Int)+1)=(i:Int)+1):=Lib.hid (by unfold wrap64;omega)
   gi_wp2
   have hd0:=ht.step ((Below.refl _ _).drew)
   have he0:=ht0.step ((Below.refl _ _).drew)
   have hb0:Below w.heap.size w wr.drew:=hB.trans (((Below.refl _ _).drew).mono hB.size)
   have hC0:a0W (b) (ad.add (i*3)) acc.1 x.f0 wr.drew:=⟨hd0.x1.cell 1 rfl,(hg.out _ hb0).1⟩
   refine aaF 19 [(0,true),(2,true),(3,true),(4,true),(5,true),(6,true),(8,true),(9,true),(10,true),(11,true),(12,true),(13,true),(14,true),(15,true),(1,false),(7,true),(16,true),(17,false),(18,true)] (a0W (b) (ad.add (i*3)) acc.1 x.f0) (rZ.of (by kernel_rfl)) rfl (by kernel_rfl) hC0 ?_
   obtain⟨D0,hD0⟩:∃ D,wr.drew=D:=⟨_,rfl⟩
   rw[hD0]at hd0 he0 hb0 hC0 ⊢
   clear hD0 ht hB ht0
   iterate 14 (apply FD rfl (fun _=>rfl) (by assumption);focus(intro K hK w' hw';obtain⟨g1,g2⟩:=hw';go_simp;exact hK))
   have k0:=hd0.x1.cell 0 rfl
   have k1:=hd0.x1.cell 1 rfl
   refine uG rfl ?_
   gi_wp2
   first|refine⟨hC0,?_⟩|skip
   iterate 2 (apply FD rfl (fun _=>rfl) (by assumption);focus(intro K hK w' hw';obtain⟨g1,g2⟩:=hw';go_simp;exact hK))
   have f0:∀ j,D0.frozen? ⟨b,j,none⟩=false:=fun j=>hd0.x1.frozen j
   have f0':=(hd0.x1.set 0 (.int .i64 (⟨mn acc.1.f0 x.f0,mx acc.1.f1 x.f0⟩:aH).f0)).frozen 1
   have bO5:a0W (b) (ad.add (i*3)) acc.1 x.f0 (D0.setCell ⟨b,0,none⟩ (.int .i64 (⟨mn acc.1.f0 x.f0,mx acc.1.f1 x.f0⟩:aH).f0)):=⟨(hd0.x1.set 0 _).cell 1 rfl,(hg.out _ (hb0.setCell (p:=⟨b,0,none⟩) (by simp only;omega) _)).1⟩
   refine uG rfl ?_
   gi_wp2
   first|refine⟨bO5,?_⟩|skip
   (apply FD rfl (fun _=>rfl) (by assumption);focus(intro K hK w' hw';obtain⟨g1,g2⟩:=hw';go_simp;exact hK))
   show wpListIn _ _ _ _ _ _ _ _
   try simp only[List.drop_succ_cons,List.drop_zero]
   gi_wp2
   rw[yZ]
   have ht1:=hd0.aGJ (⟨mn acc.1.f0 x.f0,mx acc.1.f1 x.f0⟩:aH)
   have h01:=(he0.bKQ (c:=b) (by omega) (.int .i64 (⟨mn acc.1.f0 x.f0,mx acc.1.f1 x.f0⟩:aH).f0) (.int .i64 (⟨mn acc.1.f0 x.f0,mx acc.1.f1 x.f0⟩:aH).f1))
   have hB1:=Below.two hb0 (b:=b) (by omega) (.int .i64 (⟨mn acc.1.f0 x.f0,mx acc.1.f1 x.f0⟩:aH).f0) (.int .i64 (⟨mn acc.1.f0 x.f0,mx acc.1.f1 x.f0⟩:aH).f1)
   obtain⟨V1,hV1⟩:∃ V,(D0.setCell ⟨b,0,none⟩ (.int .i64 (⟨mn acc.1.f0 x.f0,mx acc.1.f1 x.f0⟩:aH).f0)).setCell ⟨b,1,none⟩ (.int .i64 (⟨mn acc.1.f0 x.f0,mx acc.1.f1 x.f0⟩:aH).f1)=V:=⟨_,rfl⟩
   rw[hV1]at ht1 h01 hB1
   have bKR:=hV1
   simp only at bKR
   rw[bKR]
   clear hV1 bKR hd0 he0 hb0 hC0 bO5 f0 f0' k0 k1
   gi_wp2
   have hd1:=ht1.step ((Below.refl _ _).drew)
   have he1:=h01.step ((Below.refl _ _).drew)
   have hb1:Below w.heap.size w V1.drew:=hB1.trans (((Below.refl _ _).drew).mono hB1.size)
   have uQ:a0W (b+1) ⟨(ad.add (i*3)).block,(ad.add (i*3)).off+1,none⟩ acc.2.1 x.f1 V1.drew:=⟨hd1.x2.cell 1 rfl,(hg.out _ hb1).2.1⟩
   refine aaF 19 [(0,true),(2,true),(3,true),(4,true),(5,true),(6,true),(8,true),(9,true),(10,true),(11,true),(12,true),(13,true),(14,true),(15,true),(1,false),(7,true),(16,true),(17,false),(18,true)] (a0W (b+1) ⟨(ad.add (i*3)).block,(ad.add (i*3)).off+1,none⟩ acc.2.1 x.f1) (rZ.of (by kernel_rfl)) rfl (by kernel_rfl) uQ ?_
   obtain⟨D1,hD1⟩:∃ D,V1.drew=D:=⟨_,rfl⟩
   rw[hD1]at hd1 he1 hb1 uQ ⊢
   clear hD1 ht1 hB1 h01
   iterate 14 (apply FD rfl (fun _=>rfl) (by assumption);focus(intro K hK w' hw';obtain⟨g1,g2⟩:=hw';go_simp;exact hK))
   have k0:=hd1.x2.cell 0 rfl
   have k1:=hd1.x2.cell 1 rfl
   refine uG rfl ?_
   gi_wp2
   first|refine⟨uQ,?_⟩|skip
   iterate 2 (apply FD rfl (fun _=>rfl) (by assumption);focus(intro K hK w' hw';obtain⟨g1,g2⟩:=hw';go_simp;exact hK))
   have f1:∀ j,D1.frozen? ⟨b+1,j,none⟩=false:=fun j=>hd1.x2.frozen j
   have f1':=(hd1.x2.set 0 (.int .i64 (⟨mn acc.2.1.f0 x.f1,mx acc.2.1.f1 x.f1⟩:aH).f0)).frozen 1
   have bO6:a0W (b+1) ⟨(ad.add (i*3)).block,(ad.add (i*3)).off+1,none⟩ acc.2.1 x.f1 (D1.setCell ⟨b+1,0,none⟩ (.int .i64 (⟨mn acc.2.1.f0 x.f1,mx acc.2.1.f1 x.f1⟩:aH).f0)):=⟨(hd1.x2.set 0 _).cell 1 rfl,(hg.out _ (hb1.setCell (p:=⟨b+1,0,none⟩) (by simp only;omega) _)).2.1⟩
   refine uG rfl ?_
   gi_wp2
   first|refine⟨bO6,?_⟩|skip
   (apply FD rfl (fun _=>rfl) (by assumption);focus(intro K hK w' hw';obtain⟨g1,g2⟩:=hw';go_simp;exact hK))
   show wpListIn _ _ _ _ _ _ _ _
   try simp only[List.drop_succ_cons,List.drop_zero]
   gi_wp2
   rw[yZ]
   have ht2:=hd1.aGK (⟨mn acc.2.1.f0 x.f1,mx acc.2.1.f1 x.f1⟩:aH)
   have h02:=(he1.bKQ (c:=b+1) (by omega) (.int .i64 (⟨mn acc.2.1.f0 x.f1,mx acc.2.1.f1 x.f1⟩:aH).f0) (.int .i64 (⟨mn acc.2.1.f0 x.f1,mx acc.2.1.f1 x.f1⟩:aH).f1))
   have hB2:=Below.two hb1 (b:=b+1) (by omega) (.int .i64 (⟨mn acc.2.1.f0 x.f1,mx acc.2.1.f1 x.f1⟩:aH).f0) (.int .i64 (⟨mn acc.2.1.f0 x.f1,mx acc.2.1.f1 x.f1⟩:aH).f1)
   obtain⟨V2,hV2⟩:∃ V,(D1.setCell ⟨b+1,0,none⟩ (.int .i64 (⟨mn acc.2.1.f0 x.f1,mx acc.2.1.f1 x.f1⟩:aH).f0)).setCell ⟨b+1,1,none⟩ (.int .i64 (⟨mn acc.2.1.f0 x.f1,mx acc.2.1.f1 x.f1⟩:aH).f1)=V:=⟨_,rfl⟩
   rw[hV2]at ht2 h02 hB2
   have bKS:=hV2
   simp only at bKS
   rw[bKS]
   clear hV2 bKS hd1 he1 hb1 uQ bO6 f1 f1' k0 k1
   gi_wp2
   have hd2:=ht2.step ((Below.refl _ _).drew)
   have he2:=h02.step ((Below.refl _ _).drew)
   have hb2:Below w.heap.size w V2.drew:=hB2.trans (((Below.refl _ _).drew).mono hB2.size)
   have hC2:a0W (b+1+1) ⟨(ad.add (i*3)).block,(ad.add (i*3)).off+2,none⟩ acc.2.2 x.f2 V2.drew:=⟨hd2.x3.cell 1 rfl,(hg.out _ hb2).2.2⟩
   refine aaF 19 [(0,true),(2,true),(3,true),(4,true),(5,true),(6,true),(8,true),(9,true),(10,true),(11,true),(12,true),(13,true),(14,true),(15,true),(1,false),(7,true),(16,true),(17,false),(18,true)] (a0W (b+1+1) ⟨(ad.add (i*3)).block,(ad.add (i*3)).off+2,none⟩ acc.2.2 x.f2) (rZ.of (by kernel_rfl)) rfl (by kernel_rfl) hC2 ?_
   obtain⟨D2,hD2⟩:∃ D,V2.drew=D:=⟨_,rfl⟩
   rw[hD2]at hd2 he2 hb2 hC2 ⊢
   clear hD2 ht2 hB2 h02
   iterate 14 (apply FD rfl (fun _=>rfl) (by assumption);focus(intro K hK w' hw';obtain⟨g1,g2⟩:=hw';go_simp;exact hK))
   have k0:=hd2.x3.cell 0 rfl
   have k1:=hd2.x3.cell 1 rfl
   refine uG rfl ?_
   gi_wp2
   first|refine⟨hC2,?_⟩|skip
   iterate 2 (apply FD rfl (fun _=>rfl) (by assumption);focus(intro K hK w' hw';obtain⟨g1,g2⟩:=hw';go_simp;exact hK))
   have f2:∀ j,D2.frozen? ⟨b+1+1,j,none⟩=false:=fun j=>hd2.x3.frozen j
   have f2':=(hd2.x3.set 0 (.int .i64 (⟨mn acc.2.2.f0 x.f2,mx acc.2.2.f1 x.f2⟩:aH).f0)).frozen 1
   have bO7:a0W (b+1+1) ⟨(ad.add (i*3)).block,(ad.add (i*3)).off+2,none⟩ acc.2.2 x.f2 (D2.setCell ⟨b+1+1,0,none⟩ (.int .i64 (⟨mn acc.2.2.f0 x.f2,mx acc.2.2.f1 x.f2⟩:aH).f0)):=⟨(hd2.x3.set 0 _).cell 1 rfl,(hg.out _ (hb2.setCell (p:=⟨b+1+1,0,none⟩) (by simp only;omega) _)).2.2⟩
   refine uG rfl ?_
   gi_wp2
   first|refine⟨bO7,?_⟩|skip
   (apply FD rfl (fun _=>rfl) (by assumption);focus(intro K hK w' hw';obtain⟨g1,g2⟩:=hw';go_simp;exact hK))
   show wpListIn _ _ _ _ _ _ _ _
   try simp only[List.drop_succ_cons,List.drop_zero]
   gi_wp2
   rw[yZ]
   have ht3:=hd2.aGL (⟨mn acc.2.2.f0 x.f2,mx acc.2.2.f1 x.f2⟩:aH)
   have h03:=(he2.bKQ (c:=b+1+1) (by omega) (.int .i64 (⟨mn acc.2.2.f0 x.f2,mx acc.2.2.f1 x.f2⟩:aH).f0) (.int .i64 (⟨mn acc.2.2.f0 x.f2,mx acc.2.2.f1 x.f2⟩:aH).f1))
   have hB3:=Below.two hb2 (b:=b+1+1) (by omega) (.int .i64 (⟨mn acc.2.2.f0 x.f2,mx acc.2.2.f1 x.f2⟩:aH).f0) (.int .i64 (⟨mn acc.2.2.f0 x.f2,mx acc.2.2.f1 x.f2⟩:aH).f1)
   obtain⟨V3,hV3⟩:∃ V,(D2.setCell ⟨b+1+1,0,none⟩ (.int .i64 (⟨mn acc.2.2.f0 x.f2,mx acc.2.2.f1 x.f2⟩:aH).f0)).setCell ⟨b+1+1,1,none⟩ (.int .i64 (⟨mn acc.2.2.f0 x.f2,mx acc.2.2.f1 x.f2⟩:aH).f1)=V:=⟨_,rfl⟩
   rw[hV3]at ht3 h03 hB3
   have bKU:=hV3
   simp only at bKU
   rw[bKU]
   clear hV3 bKU hd2 he2 hb2 hC2 bO7 f2 f2' k0 k1
   gi_wp2
   refine⟨⟨i+1,hlt,by simp,by rw[hst.out];exact ht3,h03,hB3⟩,?_⟩
   simp[intOf]
   omega
  ·obtain rfl:i=xs.length:=by omega
   have hil:¬ ((xs.length:Int)<(xs.length:Int)):=Int.lt_irrefl _
   rw[List.take_length]at ht
   have hre:Hid (xs.foldl a0V n99=bpB xs):=Lib.hid rfl
   obtain⟨acc,hac⟩:∃ acc,xs.foldl a0V n99=acc:=⟨_,rfl⟩
   rw[hac]at ht hre
   clear hac
   gi_wp2_with fail
   clear hil
   have htd:=ht.step ((Below.refl _ _).drew)
   have hed:=ht0.step ((Below.refl _ _).drew)
   have hbd:Below w.heap.size w wr.drew:=hB.trans (((Below.refl _ _).drew).mono hB.size)
   have hC:ayV b acc wr.drew:=htd.reg
   refine aaF 5 [(0,true),(1,true),(2,true),(3,false),(4,false)] (ayV b acc) (rZ.of (by kernel_rfl)) rfl (by kernel_rfl) hC ?_
   iterate 3 (apply FD rfl (fun _=>rfl) (by assumption);focus(intro K hK w' hw';obtain⟨g0,g1,g2,g3,g4,g5⟩:=hw';go_simp;exact hK))
   obtain⟨D,hD⟩:∃ D,wr.drew=D:=⟨_,rfl⟩
   rw[hD]at htd hed hbd hC ⊢
   clear hD ht ht0 hB
   obtain⟨f0,f1,f2⟩:=hed.frz
   obtain⟨z0,z1,z2,z3,z4,z5⟩:=hed.reg
   have t1:=hed.aGJ acc.1
   have c1:=htd.bO3 (c:=w.heap.size) (by omega) (.int .i64 acc.1.f0) (.int .i64 acc.1.f1)
   have b1:=Below.two hbd (b:=w.heap.size) (by omega) (.int .i64 acc.1.f0) (.int .i64 acc.1.f1)
   have t2:=t1.aGK acc.2.1
   have c2:=c1.bO3 (c:=w.heap.size+1) (by omega) (.int .i64 acc.2.1.f0) (.int .i64 acc.2.1.f1)
   have b2:=Below.two b1 (b:=w.heap.size+1) (by omega) (.int .i64 acc.2.1.f0) (.int .i64 acc.2.1.f1)
   have t3:=t2.aGL acc.2.2
   have b3:=Below.two b2 (b:=w.heap.size+1+1) (by omega) (.int .i64 acc.2.2.f0) (.int .i64 acc.2.2.f1)
   have C1:=c1.reg
   have C2:=c2.reg
   clear c1 c2 htd hed hbd b1 b2
   refine uG rfl ?_
   gi_wp2
   first|refine⟨C1,?_⟩|skip
   refine uG rfl ?_
   gi_wp2
   first|refine⟨C2,?_⟩|skip
   show wpListIn _ _ _ _ _ _ _ _
   try simp only[List.drop_succ_cons,List.drop_zero]
   gi_wp2
   rw[yZ]
   gi_wp2
   exact bodyPost_ret (bY4 _ _ w.heap.size acc rfl rfl rfl t3) rfl ⟨by rw[hre.out],b3⟩
end Go.Proofs.YtcmfnebcmmklkaaDoor.Hand
namespace Go.Proofs.YtcmfnebcmmklkaaDoor.Hand
open Go.RowKit Go.Shelf Go.Proofs.YtcmfnebcmmklkaaDoorW.dQ Go.Proofs.YtcmfnebcmmklkaaDoorW.gG Go.Proofs.YtcmfnebcmmklkaaDoor.Q
def ivS (s:aH):Iv:=(s.f0,s.f1)
theorem bpC (s:Iv) (x:Int) (l:List Int):ajZ s (x::l)=ajZ (min s.1 x,max s.2 x) l:=rfl
theorem bKW:∀ (L:List (Int×Int×aH)) (s:aH×aH×aH),ivS (L.foldl mJ s).1=ajZ (ivS s.1) (L.map fun x=>x.1)
 |[],_=>rfl
 |x::L,s=>by
  rw[List.foldl_cons,bKW L,List.map_cons,bpC]
  unfold mJ aOR ivS
  simp only[aoT,aoS]
theorem bKX:∀ (L:List (Int×Int×aH)) (s:aH×aH×aH),ivS (L.foldl mJ s).2.1=ajZ (ivS s.2.1) (L.map fun x=>x.2.1)
 |[],_=>rfl
 |x::L,s=>by
  rw[List.foldl_cons,bKX L,List.map_cons,bpC]
  unfold mJ aOR ivS
  simp only[aoT,aoS]
theorem bKY:∀ (L:List (Int×Int×aH)) (s:aH×aH×aH),(∀ x∈L,x.2.2.f0<=x.2.2.f1)->ivS (L.foldl mJ s).2.2=ajZ (ivS s.2.2) (L.flatMap fun x=>[x.2.2.f0,x.2.2.f1])
 |[],_,_=>rfl
 |x::L,s,h=>by
  have h1:=h x List.mem_cons_self
  rw[List.foldl_cons,bKY L _ (fun y hy=>h y (List.mem_cons_of_mem _ hy)),List.flatMap_cons]
  show _=ajZ _ (x.2.2.f0::x.2.2.f1::_)
  rw[bpC,bpC]
  unfold mJ aOR ivS
  simp only[aoT,aoS]
  congr 1
  exact Prod.ext (by simp only;omega) (by simp only;omega)
theorem bY7 (xs:List aaL) (s:aH×aH×aH):xs.foldl a0V s=(xs.map fun x=>(x.f0,x.f1,(⟨x.f2,x.f2⟩:aH))).foldl mJ s:=by
 rw[List.foldl_map]
 rfl
theorem bO9:∀ (l:List Int) (s:Iv),ajZ s (l.flatMap fun x=>[x,x])=ajZ s l
 |[],_=>rfl
 |x::l,s=>by
  rw[List.flatMap_cons]
  show ajZ s (x::x::(l.flatMap fun x=>[x,x]))=_
  rw[bpC,bpC,bpC,bO9 l]
  congr 1
  exact Prod.ext (by simp only;omega) (by simp only;omega)
theorem bKZ {a b:aH} (h:ivS a=ivS b):a=b:=by
 cases a
 cases b
 cases h
 rfl
theorem bK0 {R:pU} {cs:List gQ} {xs:List (List Int)} {x:Int×Int×aH}:x∈ajF R cs xs↔∃ d∈xs,x∈anW R cs d 0:=by
 unfold ajF
 exact List.mem_flatMap
theorem bPA {R:pU} {cs:List gQ} {t:Nat} {xs:List (List Int)} {x:aaL}:x∈trW R cs t xs↔∃ d∈xs,x∈aeS R/\bZU R cs t d x cs.length=true:=by
 unfold trW
 simp only[List.mem_flatMap,List.mem_filter]
theorem bY8 {R:pU} {cs:List gQ} {t:Nat} (hst:∀ i,i<cs.length->t.testBit i= !Nat.testBit 0 i) {most:Int} {x:aaL} (h:x∈trW R cs t (exL most cs)):
  ∃ y∈ajF R cs (PM R cs most 0),y.1=x.f0/\y.2.1=x.f1/\y.2.2.f0<=x.f2/\x.f2<=y.2.2.f1:=by
 obtain⟨d,hd,hx,hag⟩:=bPA.1 h
 obtain⟨h1,h2,h3⟩:=a0C.1 hx
 have h5:=(bjW R x.f0 x.f1 x.f2 cs d 0 cs.length).2 ⟨h3,fun i hi hb=>(blO _ _ _ _ _ _).1 hag i hi (by rw[hst i hi,hb];rfl)⟩
 have hm:(x.f0,x.f1,EG R x.f0 x.f1 cs d 0 cs.length)∈anW R cs d 0:=a3C.2 ⟨h1,h2,rfl,Int.le_trans h5.1 h5.2⟩
 refine⟨_,bK0.2 ⟨d,?_,hm⟩,rfl,rfl,h5⟩
 refine List.mem_filter.2 ⟨hd,?_⟩
 unfold BC
 cases hw:anW R cs d 0 with
 |nil=>rw[hw]at hm;cases hm
 |cons y ys=>rfl
theorem bY9 {R:pU} {cs:List gQ} {t:Nat} (hst:∀ i,i<cs.length->t.testBit i= !Nat.testBit 0 i) {most:Int} {y:Int×Int×aH} (h:y∈ajF R cs (PM R cs most 0)):
  ((R.l.f0<=y.1/\y.1<=R.l.f1)/\(R.r.f0<=y.2.1/\y.2.1<=R.r.f1))/\y.2.2.f0<=y.2.2.f1/\∀ c,y.2.2.f0<=c->c<=y.2.2.f1->(R.t.f0<=c/\c<=R.t.f1)/\(⟨y.1,y.2.1,c⟩:aaL)∈trW R cs t (exL most cs):=by
 obtain⟨d,hd,hy⟩:=bK0.1 h
 obtain⟨h1,h2,h3,h4⟩:=a3C.1 hy
 refine⟨⟨h1,h2⟩,h4,fun c c1 c2=>?_⟩
 have h5:=(bjW R y.1 y.2.1 c cs d 0 cs.length).1 (by rw[<-h3];exact⟨c1,c2⟩)
 refine⟨h5.1,bPA.2 ⟨d,(List.mem_filter.1 hd).1,a0C.2 ⟨h1,h2,h5.1⟩,(blO _ _ _ _ _ _).2 fun i hi hb=>?_⟩⟩
 refine h5.2 i hi ?_
 rw[hst i hi]at hb
 simp
theorem bZA {R:pU} (hR:arQ R) {cs:List gQ} {t:Nat} (hst:∀ i,i<cs.length->t.testBit i= !Nat.testBit 0 i) {most:Int} (hne:PM R cs most 0≠[]):
  (ajF R cs (PM R cs most 0)).foldl mJ tX=bpB (trW R cs t (exL most cs)):=by
 unfold arQ at hR
 have hn:ajF R cs (PM R cs most 0)≠[]:=by
  obtain⟨d,hd⟩:=List.exists_mem_of_ne_nil _ hne
  have hg:=(List.mem_filter.1 hd).2
  unfold BC at hg
  cases hw:anW R cs d 0 with
  |nil=>rw[hw]at hg;cases hg
  |cons y ys=>exact List.ne_nil_of_mem (bK0.2 ⟨d,hd,by rw[hw];exact List.mem_cons_self⟩)
 obtain⟨L,hL⟩:∃ L,ajF R cs (PM R cs most 0)=L:=⟨_,rfl⟩
 obtain⟨K,hK⟩:∃ K,trW R cs t (exL most cs)=K:=⟨_,rfl⟩
 have f1:∀ x∈K,∃ y∈L,y.1=x.f0/\y.2.1=x.f1/\y.2.2.f0<=x.f2/\x.f2<=y.2.2.f1:=fun x hx=>by
  rw[<-hK]at hx
  rw[<-hL]
  exact bY8 hst hx
 have f2:∀ y∈L,((R.l.f0<=y.1/\y.1<=R.l.f1)/\(R.r.f0<=y.2.1/\y.2.1<=R.r.f1))/\y.2.2.f0<=y.2.2.f1/\∀ c,y.2.2.f0<=c->c<=y.2.2.f1->(R.t.f0<=c/\c<=R.t.f1)/\(⟨y.1,y.2.1,c⟩:aaL)∈K:=fun y hy=>by
  rw[<-hL]at hy
  rw[<-hK]
  exact bY9 hst hy
 rw[hL]at hn ⊢
 rw[hK]
 clear hL hK
 unfold bpB
 rw[bY7]
 have hle:∀ x∈(K.map fun x=>(x.f0,x.f1,(⟨x.f2,x.f2⟩:aH))),x.2.2.f0<=x.2.2.f1:=by
  intro x hx
  obtain⟨z,_,rfl⟩:=List.mem_map.1 hx
  exact Int.le_refl _
 refine Prod.ext (bKZ ?_) (Prod.ext (bKZ ?_) (bKZ ?_))
 ·rw[bKW,bKW,List.map_map]
  refine bKV (by simpa using hn) ?_ ?_ ?_ ?_
  ·intro x hx
   obtain⟨y,hy,rfl⟩:=List.mem_map.1 hx
   have:=(f2 y hy).1
   show y.1<=61/\ -1<=y.1
   omega
  ·intro x hx
   obtain⟨z,hz,rfl⟩:=List.mem_map.1 hx
   obtain⟨y,hy,h1,_⟩:=f1 z hz
   have:=(f2 y hy).1
   show z.f0<=99/\0<=z.f0
   omega
  ·intro x hx
   obtain⟨z,hz,rfl⟩:=List.mem_map.1 hx
   obtain⟨y,hy,h1,_⟩:=f1 z hz
   have hm:y.1∈L.map fun x=>x.1:=List.mem_map.2 ⟨y,hy,rfl⟩
   exact⟨_,hm,_,hm,Int.le_of_eq h1,Int.le_of_eq h1.symm⟩
  ·intro x hx
   obtain⟨y,hy,rfl⟩:=List.mem_map.1 hx
   exact List.mem_map.2 ⟨_,((f2 y hy).2.2 _ (Int.le_refl _) (f2 y hy).2.1).2,rfl⟩
 ·rw[bKX,bKX,List.map_map]
  refine bKV (by simpa using hn) ?_ ?_ ?_ ?_
  ·intro x hx
   obtain⟨y,hy,rfl⟩:=List.mem_map.1 hx
   have:=(f2 y hy).1
   show y.2.1<=61/\ -1<=y.2.1
   omega
  ·intro x hx
   obtain⟨z,hz,rfl⟩:=List.mem_map.1 hx
   obtain⟨y,hy,_,h1,_⟩:=f1 z hz
   have:=(f2 y hy).1
   show z.f1<=99/\0<=z.f1
   omega
  ·intro x hx
   obtain⟨z,hz,rfl⟩:=List.mem_map.1 hx
   obtain⟨y,hy,_,h1,_⟩:=f1 z hz
   have hm:y.2.1∈L.map fun x=>x.2.1:=List.mem_map.2 ⟨y,hy,rfl⟩
   exact⟨_,hm,_,hm,Int.le_of_eq h1,Int.le_of_eq h1.symm⟩
  ·intro x hx
   obtain⟨y,hy,rfl⟩:=List.mem_map.1 hx
   exact List.mem_map.2 ⟨_,((f2 y hy).2.2 _ (Int.le_refl _) (f2 y hy).2.1).2,rfl⟩
 ·rw[bKY L _ (fun y hy=>(f2 y hy).2.1),bKY _ _ hle,List.flatMap_map]
  have e:(K.flatMap fun a=>[a.f2,a.f2])=(K.map fun x=>x.f2).flatMap fun x=>[x,x]:=by rw[List.flatMap_map]
  show _=ajZ _ (K.flatMap fun a=>[a.f2,a.f2])
  rw[e,bO9]
  refine bKV ?_ ?_ ?_ ?_ ?_
  ·obtain⟨y,hy⟩:=List.exists_mem_of_ne_nil _ hn
   exact List.ne_nil_of_mem (List.mem_flatMap.2 ⟨y,hy,List.mem_cons_self⟩)
  ·intro x hx
   obtain⟨y,hy,hx⟩:=List.mem_flatMap.1 hx
   obtain⟨_,h1,h2⟩:=f2 y hy
   show x<=61/\ -1<=x
   simp only[List.mem_cons,List.not_mem_nil,or_false]at hx
   rcases hx with rfl|rfl
   ·have:=(h2 _ (Int.le_refl _) h1).1;omega
   ·have:=(h2 _ h1 (Int.le_refl _)).1;omega
  ·intro x hx
   obtain⟨z,hz,rfl⟩:=List.mem_map.1 hx
   obtain⟨y,hy,_,_,h1,h3⟩:=f1 z hz
   have:=((f2 y hy).2.2 _ h1 h3).1
   show z.f2<=99/\0<=z.f2
   omega
  ·intro x hx
   obtain⟨z,hz,rfl⟩:=List.mem_map.1 hx
   obtain⟨y,hy,_,_,h1,h3⟩:=f1 z hz
   exact⟨_,List.mem_flatMap.2 ⟨y,hy,List.mem_cons_self⟩,_,List.mem_flatMap.2 ⟨y,hy,List.mem_cons_of_mem _ List.mem_cons_self⟩,h1,h3⟩
  ·intro x hx
   obtain⟨y,hy,hx⟩:=List.mem_flatMap.1 hx
   obtain⟨_,h1,h2⟩:=f2 y hy
   simp only[List.mem_cons,List.not_mem_nil,or_false]at hx
   rcases hx with rfl|rfl
   ·exact List.mem_map.2 ⟨_,(h2 _ (Int.le_refl _) h1).2,rfl⟩
   ·exact List.mem_map.2 ⟨_,(h2 _ h1 (Int.le_refl _)).2,rfl⟩
theorem bPB (is:Nat->Bool) (f:Nat->List Int):∀ k b,pR is f k=some b->∃ s,s<k/\is s=true/\b=f s
 |0,b,h=>by cases h
 |k+1,b,h=>by
  unfold pR at h
  split at h
  ·split at h
   ·rename_i hi
    exact⟨k,by omega,hi,(Option.some.inj h).symm⟩
   ·cases h
  ·rename_i c hc
   split at h
   ·rename_i hi
    exact⟨k,by omega,hi.2,(Option.some.inj h).symm⟩
   ·obtain⟨s,h1,h2,h3⟩:=bPB is f k c hc
    exact⟨s,by omega,h2,(Option.some.inj h).symm.trans h3⟩
theorem bPC (is:Nat->Bool) (f:Nat->List Int):∀ k s,s<k->is s=true->∃ b,pR is f k=some b
 |0,s,h,_=>absurd h (by omega)
 |k+1,s,h,hi=>by
  unfold pR
  split
  ·rename_i hn
   by_cases e:s=k
   ·subst e;rw[if_pos hi];exact⟨_,rfl⟩
   ·obtain⟨b,hb⟩:=bPC is f k s (by omega) hi
    rw[hn]at hb;cases hb
  ·split<;>exact⟨_,rfl⟩
theorem bZB (a:List Int):ab6 a []=false:=by
 unfold ab6
 cases a with
 |nil=>rfl
 |cons x a=>rw[if_neg (by simp)];simp
theorem bPD (is:Nat->Bool) (f:Nat->List Int) (h0:is 0=true) (hf:f 0=[]):∀ k,pR is f (k+1)=some []
 |0=>by unfold pR;simp[pR,h0,hf]
 |k+1=>by
  rw[pR,bPD is f h0 hf k]
  simp only[bZB,Bool.false_eq_true,false_and,if_false]
theorem bZC:∀ s,s<32->iQ s=[]->s=0:=by decide+kernel
theorem bZD {most:Int} (hm:0<=most) {cs:List gQ} (hcs:∀ x∈cs,aaP x):exL most cs≠[]:=by
 rw[bxP]
 have h1:∀ l:List gQ,(∀ x∈l,aaP x)->bKO (l.map cr) (List.replicate l.length 0)/\(List.replicate l.length (0:Int)).sum=0/\ups (List.replicate l.length 0)=0:=by
  intro l
  induction l with
  |nil=>intro _;exact⟨trivial,rfl,rfl⟩
  |cons x l ih=>
   intro hx
   obtain⟨i1,i2,i3⟩:=ih (fun y hy=>hx y (List.mem_cons_of_mem _ hy))
   have hk:=hx x List.mem_cons_self
   unfold aaP at hk
   rw[List.length_cons,List.replicate_succ]
   refine⟨⟨?_,?_,i1⟩,by rw[List.sum_cons,i2];rfl,by rw[bB7,i3];rfl⟩<;>(unfold cr;simp only;omega)
 obtain⟨i1,i2,i3⟩:=h1 cs hcs
 exact List.ne_nil_of_mem ((bY0 hm (Int.le_refl _) (Int.le_refl _) hm).2 ⟨i1,by rw[i2];rfl,by rw[i3];omega⟩)
theorem bZE {R:pU} (hR:arQ R) (cs:List gQ) (d:List Int) {s:Nat} (hs:∀ i,i<cs.length->s.testBit i=true):BC R cs s d=true:=by
 unfold arQ at hR
 have ht:∀ n,n<=cs.length->EG R R.l.f0 R.r.f0 cs d s n=R.t:=by
  intro n
  induction n with
  |zero=>intro _;rfl
  |succ n ih=>intro h;rw[EG,if_pos (hs n (by omega)),ih (by omega)]
 have hm:(R.l.f0,R.r.f0,R.t)∈anW R cs d s:=a3C.2 ⟨⟨Int.le_refl _,hR.1.2.1⟩,⟨Int.le_refl _,hR.2.1.2.1⟩,(ht _ (Nat.le_refl _)).symm,hR.2.2.1.2.1⟩
 unfold BC
 cases hw:anW R cs d s with
 |nil=>rw[hw]at hm;cases hm
 |cons y ys=>rfl
theorem bZF {R:pU} (hR:arQ R) {most:Int} (hm:0<=most) {cs:List gQ} (h5:cs.length<=5) (hcs:∀ x∈cs,aaP x) (hn:PM R cs most 0=[]):(aiV R cs most).getD []≠[]:=by
 have hp:2^cs.length<=2^5:=Nat.pow_le_pow_right (by decide) h5
 have hp0:0<2^cs.length:=Nat.two_pow_pos _
 have ha:agF R cs most (2^cs.length - 1)=true:=by
  obtain⟨d,hd⟩:=List.exists_mem_of_ne_nil _ (bZD hm hcs)
  have hg:=bZE hR cs d (s:=2^cs.length - 1) (fun i hi=>by rw[ao9 i hi];simp)
  have hmem:d∈PM R cs most (2^cs.length - 1):=List.mem_filter.2 ⟨hd,hg⟩
  unfold agF
  cases hl:PM R cs most (2^cs.length - 1)with
  |nil=>rw[hl]at hmem;cases hmem
  |cons y ys=>rfl
 obtain⟨b,hb⟩:=bPC (agF R cs most) iQ (2^cs.length) _ (by omega) ha
 obtain⟨s,h1,h2,h3⟩:=bPB _ _ _ _ hb
 unfold aiV
 rw[hb,Option.getD_some]
 intro he
 have hs0:=bZC s (by omega) (h3.symm.trans he)
 subst hs0
 unfold agF at h2
 rw[hn]at h2
 cases h2
theorem bZG {R:pU} {most:Int} {cs:List gQ} (hn:PM R cs most 0≠[]):(aiV R cs most).getD []=[]:=by
 have hp0:0<2^cs.length:=Nat.two_pow_pos _
 have h0:agF R cs most 0=true:=by
  unfold agF
  cases hl:PM R cs most 0 with
  |nil=>exact absurd hl hn
  |cons y ys=>rfl
 unfold aiV
 obtain⟨k,hk⟩:∃ k,2^cs.length=k+1:=⟨2^cs.length - 1,by omega⟩
 rw[hk,bPD _ _ h0 (by decide+kernel) k]
 rfl
theorem bZH:∀ n:Nat,n<=8->wrap64 (wrap64 ((2:Int)^n) - 1)=((2^n - 1:Nat):Int):=by decide+kernel
end Go.Proofs.YtcmfnebcmmklkaaDoor.Hand

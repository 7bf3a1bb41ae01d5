/- What DozenCrates reaches beyond the shared texts, and its card. Part 4 of 7. -/
import Derived.Test.YtcmfnebcmmklkaaDoorPa1
import Derived.Test.YtcmfnebcmmklkaaDoorM12
import Derived.Test.YtcmfnebcmmklkaaDoorM1
import Derived.Test.YtcmfnebcmmklkaaDoorM11
import Derived.Test.YtcmfnebcmmklkaaDoorPa2
import Derived.Test.YtcmfnebcmmklkaaDoorPa3
import Derived.Test.YtcmfnebcmmklkaaDoorM3
import Derived.Test.YtcmfnebcmmklkaaDoorM5
set_option linter.unusedVariables false
set_option linter.unusedSimpArgs false
set_option maxRecDepth 100000
set_option maxHeartbeats 8000000
namespace Go.Proofs.YtcmfnebcmmklkaaDoor.Hand
open Go.RowKit Go.Shelf Go.Proofs.YtcmfnebcmmklkaaDoorW.dQ Go.Proofs.YtcmfnebcmmklkaaDoorW.gG Go.Proofs.YtcmfnebcmmklkaaDoor.Q
def cr (x:gQ):Cr:=⟨x.f0,x.f1,x.f2⟩
theorem aG1 {l:List gQ} {i:Nat} (h:i<l.length):DC l i=l[i]:=by
 unfold DC
 simp[List.getD_eq_getElem?_getD,h]
theorem bAH {α β:Type} (f:Int->List α) (g:α->β) (l:List Int):(l.flatMap f).map g=l.flatMap fun n=>(f n).map g:=by
 rw[List.map_flatMap]
theorem bAI (d:List Int) (n:Int) (X:List (List Int)):(X.map fun e=>n::e).map (fun e=>d++e)=X.map fun e=>(d++[n])++e:=by
 rw[List.map_map]
 congr 1
 funext e
 simp
theorem bGL (most:Int) (cs:List gQ):∀ (k:Nat) (d:List Int) (sum up:Int),d.length+k=cs.length->XP most cs k d sum up=(exP most ((cs.drop d.length).map cr) sum up).map fun e=>d++e:=by
 intro k
 induction k with
 |zero=>
  intro d sum up h
  rw[List.drop_eq_nil_of_le (by omega),List.map_nil,exP,XP]
  split<;>simp
 |succ k ih=>
  intro d sum up h
  have hd:d.length<cs.length:=by omega
  rw[List.drop_eq_getElem_cons hd,List.map_cons,exP,XP,aG1 hd,bAH,aoS,aoT]
  refine byO fun n hn=>?_
  rw[aoS]
  split
  ·rw[bAI,ih (d++[n]) _ _ (by simp;omega),List.length_append]
   rfl
  ·rfl
theorem bxP (most:Int) (cs:List gQ):exL most cs=exP most (cs.map cr) 0 0:=by
 unfold exL
 rw[bGL most cs cs.length [] 0 0 (by simp)]
 simp
theorem aG2 (a b:Int):(NC a b).length=(b - a+1).toNat:=by
 unfold NC
 simp
theorem aYZ {α:Type} (f:Int->List α) (B:Nat):∀ l:List Int,(∀ n∈l,(f n).length<=B)->(l.flatMap f).length<=l.length*B:=by
 intro l
 induction l with
 |nil=>intro _;simp
 |cons x l ih=>
  intro h
  rw[List.flatMap_cons,List.length_append,List.length_cons,Nat.add_mul,Nat.one_mul]
  have h1:=h x List.mem_cons_self
  have h2:=ih (fun n hn=>h n (List.mem_cons_of_mem _ hn))
  omega
theorem bAJ {most:Int} (hm:most<=2):∀ (cs:List Cr) (sum up:Int),(exR most cs sum up).length<=5^cs.length:=by
 intro cs
 induction cs with
 |nil=>
  intro sum up
  rw[exR]
  split
  ·exact Nat.zero_le _
  ·split<;>simp
 |cons c cs ih=>
  intro sum up
  rw[exR]
  split
  ·exact Nat.zero_le _
  ·have h1:=aYZ (fun n=>if 0<=c.L - n/\0<=c.R+n then(exR most cs (sum+n) (up+max 0 n)).map fun d=>n::d else[]) (5^cs.length) (NC (-most) most) (fun n _=>by
    split
    ·rw[List.length_map];exact ih _ _
    ·exact Nat.zero_le _)
   rw[aG2]at h1
   have h2:(most - -most+1).toNat*5^cs.length<=5*5^cs.length:=Nat.mul_le_mul_right _ (by omega)
   rw[List.length_cons,Nat.pow_succ,Nat.mul_comm (5^cs.length) 5]
   omega
theorem bAK (d:List Int) (n:Int):(d++[n]).sum=d.sum+n:=by simp
theorem bAL (d:List Int) (n:Int):ups (d++[n])=ups d+max 0 n:=by
 unfold ups
 rw[List.map_append,List.sum_append]
 simp
theorem bAM (d:List Int) {i:Nat} (h:i<d.length):(d.take (i+1)).sum=(d.take i).sum+d[i]:=by rw[List.take_succ_eq_append_getElem h,bAK]
theorem bAN (d:List Int) {i:Nat} (h:i<d.length):ups (d.take (i+1))=ups (d.take i)+max 0 d[i]:=by rw[List.take_succ_eq_append_getElem h,bAL]
def Sm2 (d:List Int):Prop:=∀ x∈d,-2<=x/\x<=2
theorem a5H {d:List Int} (hd:Sm2 d):∀ i,i<=d.length->(-(2*(i:Int))<=(d.take i).sum/\(d.take i).sum<=2*i)/\0<=ups (d.take i)/\ups (d.take i)<=2*i:=by
 intro i
 induction i with
 |zero=>intro _;rw[List.take_zero];exact⟨⟨Int.le_refl _,Int.le_refl _⟩,Int.le_refl _,Int.le_refl _⟩
 |succ i ih=>
  intro h
  have h1:=ih (by omega)
  have h2:=hd _ (List.getElem_mem (show i<d.length by omega))
  rw[bAM d (by omega),bAN d (by omega)]
  omega
def akC (most:Int) (cs:List gQ) (d:List Int):List (List Int):=(exR most ((cs.drop d.length).map cr) d.sum (ups d)).map fun e=>d++e
def akI (most:Int) (cs:List gQ) (d:List Int) (n:Int):List (List Int):=(NC (-most) (n - 1)).flatMap fun n=>if 0<=(DC cs d.length).f0 - n/\0<=(DC cs d.length).f1+n then akC most cs (d++[n])else[]
theorem bGM (most:Int) (cs:List gQ) (d:List Int):akI most cs d (-most)=[]:=by
 unfold akI
 rw[aE5 (by omega)]
 rfl
theorem bGN (most:Int) (cs:List gQ) (d:List Int) {n:Int} (h: -most<=n):akI most cs d (n+1)=akI most cs d n++(if 0<=(DC cs d.length).f0 - n/\0<=(DC cs d.length).f1+n then akC most cs (d++[n])else[]):=by
 unfold akI
 rw[show n+1 - 1=n by omega,aNB h,List.flatMap_append]
 simp
theorem bGO (most:Int) (cs:List gQ) (d:List Int) (hd:d.length<cs.length) (hu:ups d<=most):akI most cs d (most+1)=akC most cs d:=by
 unfold akI akC
 rw[List.drop_eq_getElem_cons hd,List.map_cons,exR,if_neg (by omega),bAH,aG1 hd,show most+1 - 1=most by omega]
 refine byO fun n hn=>?_
 show(if 0<=cs[d.length].f0 - n/\0<=cs[d.length].f1+n then _ else _)=List.map _ (if 0<=cs[d.length].f0 - n/\0<=cs[d.length].f1+n then _ else _)
 split
 ·rw[bAI,List.length_append,bAK,bAL]
  rfl
 ·rfl
theorem bAO {most:Int} (hm:most<=2) (cs:List gQ) (d:List Int) (h5:cs.length<=5):(akC most cs d).length<=3125:=by
 unfold akC
 rw[List.length_map]
 refine Nat.le_trans (bAJ hm _ _ _) ?_
 rw[List.length_map,List.length_drop]
 exact Nat.pow_le_pow_right (by decide) (show cs.length - d.length<=5 by omega)
theorem bGP {most:Int} (hm:0<=most/\most<=2) (cs:List gQ) (d:List Int) (h5:cs.length<=5) {n:Int} (hn:n<=most+1):(akI most cs d n).length<=5*3125:=by
 unfold akI
 have h1:=aYZ (fun n=>if 0<=(DC cs d.length).f0 - n/\0<=(DC cs d.length).f1+n then akC most cs (d++[n])else[]) 3125 (NC (-most) (n - 1)) (fun n _=>by
  split
  ·exact bAO hm.2 cs _ h5
  ·exact Nat.zero_le _)
 rw[aG2]at h1
 have h2:(n - 1 - -most+1).toNat*3125<=5*3125:=Nat.mul_le_mul_right _ (by omega)
 exact Nat.le_trans h1 h2
theorem bAP (cs:List gQ) (most:Int) (d:List Int) (hd:d.length<=5) (hs:Sm2 d):∀ m i k:Nat,i+m=d.length->m<k->
  aaN.l0 k cs most d (d.take i).sum (ups (d.take i)) (i:Int)=aaN.l0 (k - m) cs most d d.sum (ups d) (d.length:Int):=by
 intro m
 induction m with
 |zero=>
  intro i k hi hk
  obtain rfl:i=d.length:=by omega
  rw[List.take_length,Nat.sub_zero]
 |succ m ih=>
  intro i k hi hk
  obtain⟨k,rfl⟩:∃ j,k=j+1:=⟨k - 1,by omega⟩
  have hid:i<d.length:=by omega
  have hn:=ih (i+1) k (by omega) (by omega)
  have hx:=hs _ (List.getElem_mem hid)
  have h1:=a5H hs i (by omega)
  have e1:wrap64 ((d.take i).sum+d[i])=(d.take (i+1)).sum:=by rw[bAM d hid,jF (by omega) (by omega)]
  have e2:wrap64 (ups (d.take i)+mx 0 d[i])=ups (d.take (i+1)):=by rw[bAN d hid,aoS,jF (by omega) (by omega)]
  conv=>lhs;unfold aaN.l0
  rw[if_pos (by omega),if_pos (by omega),YJ hid,e1,e2,yN (by omega),hn,show k+1 - (m+1)=k - m by omega]
theorem bGQ {most:Int} (hm:0<=most/\most<=2) {cs:List gQ} (h5:cs.length<=5) (hcs:∀ x∈cs,aaP x) (d:List Int) (hd:d.length<cs.length) (F:Nat)
  (ih:∀ n:Int,-2<=n->n<=2->∀ k,F<=k->aaN.f k cs most (d++[n])=some (akC most cs (d++[n]))):∀ (m:Nat) (n:Int) (k:Nat),n+m=most+1-> -most<=n->F+m<k->
  aaN.l1 k cs most d (akI most cs d n) n ((DC cs (d.length:Int)).f0) ((DC cs (d.length:Int)).f1) ((DC cs (d.length:Int)).f2)=some (akI most cs d (most+1)):=by
 have hok:=hcs _ (List.getElem_mem hd)
 unfold aaP at hok
 intro m
 induction m with
 |zero=>
  intro n k hn hn2 hk
  obtain⟨k,rfl⟩:∃ j,k=j+1:=⟨k - 1,by omega⟩
  obtain rfl:n=most+1:=by omega
  unfold aaN.l1
  rw[if_neg (by omega)]
 |succ m ihm=>
  intro n k hn hn2 hk
  obtain⟨k,rfl⟩:∃ j,k=j+1:=⟨k - 1,by omega⟩
  have hnx:=ihm (n+1) k (by omega) (by omega) (by omega)
  rw[bGN most cs d hn2]at hnx
  have hf:=ih n (by omega) (by omega) k (by omega)
  have hl:=bAO hm.2 cs (d++[n]) h5
  have hlp:=bGP hm cs d h5 (n:=n) (by omega)
  rw[aG1 hd]at hnx ⊢
  have w1:wrap64 (cs[d.length].f0 - n)=cs[d.length].f0 - n:=jF (by omega) (by omega)
  have w2:wrap64 (cs[d.length].f1+n)=cs[d.length].f1+n:=jF (by omega) (by omega)
  have w3:wrap64 (n+1)=n+1:=jF (by omega) (by omega)
  unfold aaN.l1
  rw[if_pos (by omega),w1,w2,w3]
  by_cases c1:0<=cs[d.length].f0 - n
  ·rw[if_pos c1]
   by_cases c2:0<=cs[d.length].f1+n
   ·rw[if_pos ⟨c1,c2⟩]at hnx
    rw[if_pos c2]
    simp only[Option.bind_some,List.length_nil,List.nil_append]
    rw[if_pos (by omega),if_pos (by omega),hf]
    simp only[Option.bind_some]
    rw[if_pos (by omega)]
    exact hnx
   ·rw[if_neg (fun h=>c2 h.2),List.append_nil]at hnx
    rw[if_neg c2]
    exact hnx
  ·rw[if_neg (fun h=>c1 h.1),List.append_nil]at hnx
   rw[if_neg c1]
   exact hnx
theorem bGS {most:Int} (hm:0<=most/\most<=2) {cs:List gQ} (h5:cs.length<=5) (hcs:∀ x∈cs,aaP x):∀ (j:Nat) (d:List Int),d.length+j=cs.length->Sm2 d->∀ k,20*j+10<=k->aaN.f k cs most d=some (akC most cs d):=by
 intro j
 induction j with
 |zero=>
  intro d hd hs k hk
  obtain⟨k,rfl⟩:∃ j,k=j+1:=⟨k - 1,by omega⟩
  have hl:=bAP cs most d (by omega) hs d.length 0 k (by omega) (by omega)
  have h1:=a5H hs d.length (Nat.le_refl _)
  rw[List.take_length]at h1
  rw[aaN.f]
  refine hl.trans ?_
  obtain⟨q,hq⟩:∃ q,k - d.length=q+1:=⟨k - d.length - 1,by omega⟩
  rw[hq,aaN.l0,if_neg (by omega)]
  unfold akC
  rw[List.drop_eq_nil_of_le (by omega),List.map_nil,exR]
  by_cases c1:most<ups d
  ·rw[if_pos c1,if_pos c1]
   rfl
  ·rw[if_neg c1,if_neg (show ¬ ups d>most by omega),if_pos (by omega)]
   by_cases c2:d.sum=0
   ·rw[if_pos c2,if_pos c2]
    simp
   ·rw[if_neg c2,if_neg c2]
    rfl
 |succ j ih=>
  intro d hd hs k hk
  obtain⟨k,rfl⟩:∃ j,k=j+1:=⟨k - 1,by omega⟩
  have hl:=bAP cs most d (by omega) hs d.length 0 k (by omega) (by omega)
  have h1:=a5H hs d.length (Nat.le_refl _)
  rw[List.take_length]at h1
  have hd2:d.length<cs.length:=by omega
  rw[aaN.f]
  refine hl.trans ?_
  obtain⟨q,hq⟩:∃ q,k - d.length=q+1:=⟨k - d.length - 1,by omega⟩
  rw[hq,aaN.l0,if_neg (by omega)]
  by_cases c1:most<ups d
  ·rw[if_pos (show ups d>most by omega)]
   unfold akC
   rw[bE2 most _ _ _ c1]
   rfl
  ·rw[if_neg (show ¬ ups d>most by omega),if_neg (by omega),if_pos (by omega),if_pos (by omega),jF (x:= -most) (by omega) (by omega)]
   have hx:=bGQ hm h5 hcs d hd2 (20*j+10) (fun n h1 h2 k hk=>ih (d++[n]) (by simp;omega) (by
    intro x hx
    rcases List.mem_append.1 hx with hx|hx
    ·exact hs x hx
    ·obtain rfl:=List.mem_singleton.1 hx
     exact⟨h1,h2⟩) k hk) (2*most+1).toNat (-most) q (by omega) (by omega) (by omega)
   rw[bGM,bGO most cs d hd2 (by omega)]at hx
   exact hx
theorem bGT {most:Int} (hm:0<=most/\most<=2) {cs:List gQ} (h5:cs.length<=5) (hcs:∀ x∈cs,aaP x) (k:Nat) (hk:110<=k):aaN.f k cs most []=some (exL most cs):=by
 rw[bGS hm h5 hcs cs.length [] (by simp) (fun x hx=>by cases hx) k (by omega),bxP]
 unfold akC
 congr 1
 rw[bDD hm.1 _ (by
  intro c hc
  obtain⟨x,hx,rfl⟩:=List.mem_map.1 hc
  exact⟨(hcs x hx).1.1,(hcs x hx).2.1⟩) _ _ hm.1]
 show List.map (fun e=>[]++e) (exR most (List.map cr (List.drop 0 cs)) 0 0)=_
 rw[List.drop_zero]
 simp
def aj8 (R:pU) (a b:Int) (n:Int):List aaL:=(NC R.t.f0 (n - 1)).map fun c=>⟨a,b,c⟩
def aj0 (R:pU) (a:Int) (n:Int):List aaL:=(NC R.r.f0 (n - 1)).flatMap fun b=>aj8 R a b (R.t.f1+1)
def alK (R:pU) (n:Int):List aaL:=(NC R.l.f0 (n - 1)).flatMap fun a=>aj0 R a (R.r.f1+1)
def aeS (R:pU):List aaL:=alK R (R.l.f1+1)
structure ajT (R:pU):Prop where
 ok:arQ R
 nl:R.l.f1 - R.l.f0<8
 nr:R.r.f1 - R.r.f0<8
 nt:R.t.f1 - R.t.f0<8
theorem bIQ (R:pU) (a b:Int):aj8 R a b R.t.f0=[]:=by unfold aj8;rw[aE5 (by omega)];rfl
theorem bIR (R:pU) (a:Int):aj0 R a R.r.f0=[]:=by unfold aj0;rw[aE5 (by omega)];rfl
theorem bIS (R:pU):alK R R.l.f0=[]:=by unfold alK;rw[aE5 (by omega)];rfl
theorem bIT (R:pU) (a b:Int) {n:Int} (h:R.t.f0<=n):aj8 R a b (n+1)=aj8 R a b n++[⟨a,b,n⟩]:=by
 unfold aj8
 rw[show n+1 - 1=n by omega,aNB h,List.map_append]
 rfl
theorem bIU (R:pU) (a:Int) {n:Int} (h:R.r.f0<=n):aj0 R a (n+1)=aj0 R a n++aj8 R a n (R.t.f1+1):=by
 unfold aj0
 rw[show n+1 - 1=n by omega,aNB h,List.flatMap_append]
 simp
theorem bIV (R:pU) {n:Int} (h:R.l.f0<=n):alK R (n+1)=alK R n++aj0 R n (R.r.f1+1):=by
 unfold alK
 rw[show n+1 - 1=n by omega,aNB h,List.flatMap_append]
 simp
theorem bBC {R:pU} (h:ajT R) (a b:Int) {n:Int} (hn:n<=R.t.f1+1):(aj8 R a b n).length<=8:=by
 unfold aj8
 rw[List.length_map,aG2]
 have:=h.nt
 omega
theorem bBD {R:pU} (h:ajT R) (a:Int) {n:Int} (hn:n<=R.r.f1+1):(aj0 R a n).length<=64:=by
 unfold aj0
 have h1:=aYZ (fun b=>aj8 R a b (R.t.f1+1)) 8 (NC R.r.f0 (n - 1)) (fun b _=>bBC h a b (Int.le_refl _))
 rw[aG2]at h1
 have:=h.nr
 omega
theorem a0B {R:pU} (h:ajT R) {n:Int} (hn:n<=R.l.f1+1):(alK R n).length<=512:=by
 unfold alK
 have h1:=aYZ (fun a=>aj0 R a (R.r.f1+1)) 64 (NC R.l.f0 (n - 1)) (fun a _=>bBD h a (Int.le_refl _))
 rw[aG2]at h1
 have:=h.nl
 omega
theorem bIW {R:pU} (h:ajT R) (X:List aaL) (hX:X.length<=100000) (a b:Int):∀ (m:Nat) (n:Int) (k:Nat),n+m=R.t.f1+1->R.t.f0<=n->m<k->
  ac7.l2 k (X++aj8 R a b n) a b n R.l.f0 R.l.f1 R.r.f0 R.r.f1 R.t.f0 R.t.f1 R.off=ac7.l1 (k - 1 - m) (X++aj8 R a b (R.t.f1+1)) a (wrap64 (b+1)) R.l.f0 R.l.f1 R.r.f0 R.r.f1 R.t.f0 R.t.f1 R.off:=by
 have hk:=h.ok
 unfold arQ at hk
 intro m
 induction m with
 |zero=>
  intro n k hn hn2 hk
  obtain⟨k,rfl⟩:∃ j,k=j+1:=⟨k - 1,by omega⟩
  obtain rfl:n=R.t.f1+1:=by omega
  conv=>lhs;unfold ac7.l2
  rw[if_neg (by omega)]
  rfl
 |succ m ih=>
  intro n k hn hn2 hkk
  obtain⟨k,rfl⟩:∃ j,k=j+1:=⟨k - 1,by omega⟩
  have hl:=bBC h a b (n:=n) (by omega)
  have hx:=ih (n+1) k (by omega) (by omega) (by omega)
  rw[bIT R a b hn2,<-List.append_assoc]at hx
  conv=>lhs;unfold ac7.l2
  rw[if_pos (by omega),if_pos (by rw[List.length_append];omega),jF (x:=n+1) (by omega) (by omega),hx,show k+1 - 1 - (m+1)=k - 1 - m by omega]
theorem bIX {R:pU} (h:ajT R) (X:List aaL) (hX:X.length<=10000) (a:Int):∀ (m:Nat) (n:Int) (k:Nat),n+m=R.r.f1+1->R.r.f0<=n->10*m+10<k->
  ∃ q,k<=q+1+10*m/\ac7.l1 k (X++aj0 R a n) a n R.l.f0 R.l.f1 R.r.f0 R.r.f1 R.t.f0 R.t.f1 R.off=ac7.l0 q (X++aj0 R a (R.r.f1+1)) (wrap64 (a+1)) R.l.f0 R.l.f1 R.r.f0 R.r.f1 R.t.f0 R.t.f1 R.off:=by
 have hk:=h.ok
 have hnt:=h.nt
 unfold arQ at hk
 intro m
 induction m with
 |zero=>
  intro n k hn hn2 hk
  obtain⟨k,rfl⟩:∃ j,k=j+1:=⟨k - 1,by omega⟩
  obtain rfl:n=R.r.f1+1:=by omega
  refine⟨k,by omega,?_⟩
  conv=>lhs;unfold ac7.l1
  rw[if_neg (by omega)]
 |succ m ih=>
  intro n k hn hn2 hkk
  obtain⟨k,rfl⟩:∃ j,k=j+1:=⟨k - 1,by omega⟩
  have hl:=bBD h a (n:=n) (by omega)
  have h2:=bIW h (X++aj0 R a n) (by rw[List.length_append];omega) a n (R.t.f1+1 - R.t.f0).toNat R.t.f0 k (by omega) (Int.le_refl _) (by omega)
  rw[bIQ,List.append_nil,List.append_assoc,<-bIU R a hn2,jF (x:=n+1) (by omega) (by omega)]at h2
  obtain⟨q,hq,hx⟩:=ih (n+1) (k - 1 - (R.t.f1+1 - R.t.f0).toNat) (by omega) (by omega) (by omega)
  refine⟨q,by omega,?_⟩
  conv=>lhs;unfold ac7.l1
  rw[if_pos (by omega)]
  exact h2.trans hx
theorem bIY {R:pU} (h:ajT R):∀ (m:Nat) (n:Int) (k:Nat),n+m=R.l.f1+1->R.l.f0<=n->100*m+100<k->
  ac7.l0 k (alK R n) n R.l.f0 R.l.f1 R.r.f0 R.r.f1 R.t.f0 R.t.f1 R.off=some (aeS R):=by
 have hk:=h.ok
 have hnr:=h.nr
 unfold arQ at hk
 intro m
 induction m with
 |zero=>
  intro n k hn hn2 hk
  obtain⟨k,rfl⟩:∃ j,k=j+1:=⟨k - 1,by omega⟩
  obtain rfl:n=R.l.f1+1:=by omega
  unfold ac7.l0
  rw[if_neg (by omega)]
  rfl
 |succ m ih=>
  intro n k hn hn2 hkk
  obtain⟨k,rfl⟩:∃ j,k=j+1:=⟨k - 1,by omega⟩
  have hl:=a0B h (n:=n) (by omega)
  obtain⟨q,hq,h2⟩:=bIX h (alK R n) (by omega) n (R.r.f1+1 - R.r.f0).toNat R.r.f0 k (by omega) (Int.le_refl _) (by omega)
  rw[bIR,List.append_nil,<-bIV R hn2,jF (x:=n+1) (by omega) (by omega)]at h2
  have hx:=ih (n+1) q (by omega) (by omega) (by omega)
  unfold ac7.l0
  rw[if_pos (by omega)]
  exact h2.trans hx
theorem bIZ {R:pU} (h:ajT R) (k:Nat) (hk:1000<=k):ac7.f k R.l.f0 R.l.f1 R.r.f0 R.r.f1 R.t.f0 R.t.f1 R.off=some (aeS R):=by
 have hok:=h.ok
 have hnl:=h.nl
 unfold arQ at hok
 have:=bIY h (R.l.f1+1 - R.l.f0).toNat R.l.f0 k (by omega) (Int.le_refl _) (by omega)
 rw[bIS]at this
 exact this
theorem a0C {R:pU} {x:aaL}:x∈aeS R↔(R.l.f0<=x.f0/\x.f0<=R.l.f1)/\(R.r.f0<=x.f1/\x.f1<=R.r.f1)/\R.t.f0<=x.f2/\x.f2<=R.t.f1:=by
 unfold aeS alK aj0 aj8
 simp only[List.mem_flatMap,List.mem_map,blH,Int.add_sub_cancel]
 constructor
 ·rintro⟨a,h1,b,h2,c,h3,rfl⟩
  exact⟨h1,h2,h3⟩
 ·rintro⟨h1,h2,h3⟩
  exact⟨x.f0,h1,x.f1,h2,x.f2,h3,rfl⟩
def bZU (R:pU) (cs:List gQ) (t:Nat) (d:List Int) (x:aaL) (n:Nat):Bool:=(List.range n).all fun i=> !t.testBit i||decide (-R.off<=x.f2 - axG x.f0 x.f1 (DC cs i) (d.getD i 0)/\x.f2 - axG x.f0 x.f1 (DC cs i) (d.getD i 0)<=R.off)
theorem getD_at {d:List Int} {i:Nat} (h:i<d.length):d.getD i 0=d[i]:=by simp[List.getD_eq_getElem?_getD,h]
theorem bBE {a b A B:Int} (ha:0<=a/\a<=A) (hb: -B<=b/\b<=B) (hB:0<=B): -(A*B)<=a*b/\a*b<=A*B:=by
 have h1:a*b<=a*B:=Int.mul_le_mul_of_nonneg_left hb.2 ha.1
 have h2:a*B<=A*B:=Int.mul_le_mul_of_nonneg_right ha.2 hB
 have h3:a*(-B)<=a*b:=Int.mul_le_mul_of_nonneg_left hb.1 ha.1
 rw[Int.mul_neg]at h3
 omega
theorem bI0 {R:pU} (h:ajT R) {cs:List gQ} (h5:cs.length<=5) (hcs:∀ x∈cs,ZI x) (t:Nat) (ht:t<256) (d:List Int) (hd:d.length=cs.length) (hs:Sm2 d) (x:aaL) (hx:x∈aeS R):∀ m i k:Nat,i+m=cs.length->m<k->
  afV.l0 k cs (t:Int) d (i:Int) R.l.f0 R.l.f1 R.r.f0 R.r.f1 R.t.f0 R.t.f1 R.off x.f0 x.f1 x.f2=some ((List.range' i m).all fun i=> !t.testBit i||decide (-R.off<=x.f2 - axG x.f0 x.f1 (DC cs i) (d.getD i 0)/\x.f2 - axG x.f0 x.f1 (DC cs i) (d.getD i 0)<=R.off)):=by
 have hk:=h.ok
 unfold arQ at hk
 have hxm:=a0C.1 hx
 intro m
 induction m with
 |zero=>
  intro i k hi hk
  obtain⟨k,rfl⟩:∃ j,k=j+1:=⟨k - 1,by omega⟩
  unfold afV.l0
  rw[if_neg (by omega)]
  rfl
 |succ m ih=>
  intro i k hi hkk
  obtain⟨k,rfl⟩:∃ j,k=j+1:=⟨k - 1,by omega⟩
  have hic:i<cs.length:=by omega
  have hid:i<d.length:=by omega
  obtain⟨hb,hw0⟩:=aoV t ht i (by omega)
  have hn:=ih (i+1) k (by omega) (by omega)
  have hc:=hcs _ (List.getElem_mem hic)
  unfold ZI aaP at hc
  have hsm:=hs _ (List.getElem_mem hid)
  have m1:=bBE (a:=x.f0) (b:=cs[i].f0 - d[i]) (A:=60) (B:=26) (by omega) (by omega) (by decide)
  have m2:=bBE (a:=x.f1) (b:=cs[i].f1+d[i]) (A:=60) (B:=26) (by omega) (by omega) (by decide)
  generalize hp:x.f0*(cs[i].f0 - d[i])=p at m1
  generalize hq:x.f1*(cs[i].f1+d[i])=q at m2
  unfold afV.l0
  rw[if_pos (by omega),if_pos (by omega),if_pos (by omega),if_pos hw0,yN (by omega),hn,List.range'_succ,List.all_cons,aG1 hic,YJ hid,getD_at hid]
  rw[jF (x:=cs[i].f0 - d[i]) (by omega) (by omega),jF (x:=cs[i].f1+d[i]) (by omega) (by omega),hp,hq,jF (x:=p) (by omega) (by omega),jF (x:=q) (by omega) (by omega),jF (x:=x.f2+p) (by omega) (by omega),jF (x:=x.f2+p+q) (by omega) (by omega),jF (x:=x.f2+p+q - cs[i].f2) (by omega) (by omega),jF (x:=cs[i].f2 - (x.f2+p+q)) (by omega) (by omega),aoS]
  have hr:axG x.f0 x.f1 cs[i] d[i]=cs[i].f2 - p - q:=by unfold axG;rw[hp,hq]
  rw[hr]
  by_cases ht:t.testBit i=true
  ·rw[if_pos (hb.2 ht),ht,Bool.not_true,Bool.false_or]
   by_cases hle: -R.off<=x.f2 - (cs[i].f2 - p - q)/\x.f2 - (cs[i].f2 - p - q)<=R.off
   ·rw[if_neg (by omega),decide_eq_true hle,Bool.true_and]
   ·rw[if_pos (by omega),decide_eq_false hle,Bool.false_and]
  ·rw[if_neg (fun hh=>ht (hb.1 hh)),Bool.eq_false_iff.2 ht,Bool.not_false,Bool.true_or,Bool.true_and]
theorem bI1 {R:pU} (h:ajT R) {cs:List gQ} (h5:cs.length<=5) (hcs:∀ x∈cs,ZI x) (t:Nat) (ht:t<256) (d:List Int) (hd:d.length=cs.length) (hs:Sm2 d) (x:aaL) (hx:x∈aeS R) (k:Nat) (hk:6<=k):
  afV.f k R.l.f0 R.l.f1 R.r.f0 R.r.f1 R.t.f0 R.t.f1 R.off cs (t:Int) d x.f0 x.f1 x.f2=some (bZU R cs t d x cs.length):=by
 unfold afV.f bZU
 rw[List.range_eq_range']
 exact bI0 h h5 hcs t ht d hd hs x hx cs.length 0 k (by omega) (by omega)
def agS (R:pU) (cs:List gQ) (t:Nat) (d:List Int):Bool:=(aeS R).any fun x=>bZU R cs t d x cs.length
def trL (R:pU) (cs:List gQ) (t:Nat) (xs:List (List Int)):List (List Int):=xs.filter (agS R cs t)
def trW (R:pU) (cs:List gQ) (t:Nat) (xs:List (List Int)):List aaL:=xs.flatMap fun d=>(aeS R).filter fun x=>bZU R cs t d x cs.length
theorem bI2 {l:List aaL} {i:Nat} (h:i<l.length):acP l i=l[i]:=by
 unfold acP
 simp[List.getD_eq_getElem?_getD,h]
theorem aOO {l:List (List Int)} {i:Nat} (h:i<l.length):AP l i=l[i]:=by
 unfold AP
 simp[List.getD_eq_getElem?_getD,h]
theorem bI3 {R:pU} (h:ajT R) {cs:List gQ} (h5:cs.length<=5) (hcs:∀ x∈cs,ZI x) (t:Nat) (ht:t<256) (xs:List (List Int)) (hxl:xs.length<=3125) (out:List (List Int)) (hol:out.length<=3125) (W:List aaL) (hwl:W.length<=3125*512) (o:Nat) (ho:o<xs.length) (hd:xs[o].length=cs.length) (hs:Sm2 xs[o]):∀ m j k:Nat,j+m=(aeS R).length->m+10<k->
  abB.l1 k cs (t:Int) xs (aeS R) out (W++((aeS R).take j).filter fun x=>bZU R cs t xs[o] x cs.length) (o:Int) (((aeS R).take j).any fun x=>bZU R cs t xs[o] x cs.length) (j:Int) R.l.f0 R.l.f1 R.r.f0 R.r.f1 R.t.f0 R.t.f1 R.off=
  abB.l0 (k - 1 - m) cs (t:Int) xs (aeS R) (out++(if agS R cs t xs[o]=true then[xs[o]]else[])) (W++(aeS R).filter fun x=>bZU R cs t xs[o] x cs.length) ((o+1:Nat):Int) R.l.f0 R.l.f1 R.r.f0 R.r.f1 R.t.f0 R.t.f1 R.off:=by
 have htl:(aeS R).length<=512:=a0B h (Int.le_refl _)
 intro m
 induction m with
 |zero=>
  intro j k hj hk
  obtain⟨k,rfl⟩:∃ q,k=q+1:=⟨k - 1,by omega⟩
  obtain rfl:j=(aeS R).length:=by omega
  rw[List.take_length]
  conv=>lhs;unfold abB.l1
  rw[if_neg (by omega),yN (by omega),aOO ho]
  by_cases hg:((aeS R).any fun x=>bZU R cs t xs[o] x cs.length)=true
  ·rw[if_pos hg,if_pos (by omega),if_pos (by omega),if_pos (by omega),if_pos (show agS R cs t xs[o]=true from hg)]
   rfl
  ·rw[if_neg hg,if_neg (show ¬ agS R cs t xs[o]=true from hg),List.append_nil]
   rfl
 |succ m ih=>
  intro j k hj hk
  obtain⟨k,rfl⟩:∃ q,k=q+1:=⟨k - 1,by omega⟩
  have hjl:j<(aeS R).length:=by omega
  have hn:=ih (j+1) k (by omega) (by omega)
  have hag:=bI1 h h5 hcs t ht xs[o] hd hs _ (List.getElem_mem hjl) k (by omega)
  have hfl:(((aeS R).take j).filter fun x=>bZU R cs t xs[o] x cs.length).length<=512:=Nat.le_trans (List.length_filter_le _ _) (by rw[List.length_take];omega)
  rw[List.take_succ_eq_append_getElem hjl,List.filter_append,List.any_append]at hn
  conv=>lhs;unfold abB.l1
  rw[if_pos (by omega),if_pos (by omega),if_pos (by omega),if_pos (by omega),aOO ho,bI2 hjl,hag,yN (by omega),show k+1 - 1 - (m+1)=k - 1 - m by omega,<-hn]
  simp only[Option.bind_some]
  by_cases hb:bZU R cs t xs[o] (aeS R)[j] cs.length=true
  ·rw[if_pos hb,if_pos (by rw[List.length_append];omega)]
   simp[hb]
  ·rw[if_neg hb]
   have hb':=Bool.eq_false_iff.2 hb
   simp[hb']
theorem bD8 {R:pU} (h:ajT R) (cs:List gQ) (t:Nat):∀ xs:List (List Int),(trW R cs t xs).length<=xs.length*512:=by
 have htl:(aeS R).length<=512:=a0B h (Int.le_refl _)
 intro xs
 induction xs with
 |nil=>exact Nat.zero_le _
 |cons x xs ih=>
  unfold trW at ih ⊢
  rw[List.flatMap_cons,List.length_append,List.length_cons]
  have:=List.length_filter_le (fun y=>bZU R cs t x y cs.length) (aeS R)
  omega
theorem bI4 {R:pU} (h:ajT R) {cs:List gQ} (h5:cs.length<=5) (hcs:∀ x∈cs,ZI x) (t:Nat) (ht:t<256) (xs:List (List Int)) (hxl:xs.length<=3125) (hxs:∀ d∈xs,d.length=cs.length/\Sm2 d):∀ m o k:Nat,o+m=xs.length->600*m+600<k->
  abB.l0 k cs (t:Int) xs (aeS R) (trL R cs t (xs.take o)) (trW R cs t (xs.take o)) (o:Int) R.l.f0 R.l.f1 R.r.f0 R.r.f1 R.t.f0 R.t.f1 R.off=some (trL R cs t xs,trW R cs t xs):=by
 have htl:(aeS R).length<=512:=a0B h (Int.le_refl _)
 intro m
 induction m with
 |zero=>
  intro o k ho hk
  obtain⟨k,rfl⟩:∃ q,k=q+1:=⟨k - 1,by omega⟩
  obtain rfl:o=xs.length:=by omega
  unfold abB.l0
  rw[if_neg (by omega),List.take_length]
 |succ m ih=>
  intro o k ho hk
  obtain⟨k,rfl⟩:∃ q,k=q+1:=⟨k - 1,by omega⟩
  have hol:o<xs.length:=by omega
  obtain⟨hd,hs⟩:=hxs _ (List.getElem_mem hol)
  have hwl:=bD8 h cs t (xs.take o)
  rw[List.length_take]at hwl
  have ht1:(trL R cs t (xs.take o)).length<=3125:=by
   unfold trL
   have:=List.length_filter_le (agS R cs t) (xs.take o)
   rw[List.length_take]at this
   omega
  have ht2:(trW R cs t (xs.take o)).length<=3125*512:=Nat.le_trans hwl (Nat.mul_le_mul_right _ (by omega))
  have hl1:=bI3 h h5 hcs t ht xs hxl (trL R cs t (xs.take o)) ht1 (trW R cs t (xs.take o)) ht2 o hol hd hs (aeS R).length 0 k (by omega) (by omega)
  have hn:=ih (o+1) (k - 1 - (aeS R).length) (by omega) (by omega)
  rw[List.take_succ_eq_append_getElem hol]at hn
  have e1:trL R cs t (xs.take o++[xs[o]])=trL R cs t (xs.take o)++(if agS R cs t xs[o]=true then[xs[o]]else[]):=by
   unfold trL
   rw[List.filter_append]
   congr 1
   by_cases hh:agS R cs t xs[o]=true
   ·simp[hh]
   ·simp[hh]
  have e2:trW R cs t (xs.take o++[xs[o]])=trW R cs t (xs.take o)++(aeS R).filter fun x=>bZU R cs t xs[o] x cs.length:=by
   unfold trW
   rw[List.flatMap_append]
   simp
  rw[e1,e2]at hn
  rw[List.take_zero,List.filter_nil,List.append_nil,List.any_nil]at hl1
  unfold abB.l0
  rw[if_pos (by omega)]
  exact hl1.trans hn
theorem bI5 (most:Int):∀ (cs:List Cr) (sum up:Int) (d:List Int),d∈exP most cs sum up->d.length=cs.length/\∀ x∈d,-most<=x/\x<=most:=by
 intro cs
 induction cs with
 |nil=>
  intro sum up d hd
  rw[exP]at hd
  split at hd
  ·obtain rfl:=List.mem_singleton.1 hd
   exact⟨rfl,fun x hx=>by cases hx⟩
  ·cases hd
 |cons c cs ih=>
  intro sum up d hd
  rw[exP]at hd
  obtain⟨n,hn,hd⟩:=List.mem_flatMap.1 hd
  have hn:=blH.1 hn
  split at hd
  ·obtain⟨e,he,rfl⟩:=List.mem_map.1 hd
   obtain⟨h1,h2⟩:=ih _ _ _ he
   refine⟨by rw[List.length_cons,List.length_cons,h1],fun x hx=>?_⟩
   rcases List.mem_cons.1 hx with rfl|hx
   ·omega
   ·exact h2 x hx
  ·cases hd
theorem bBF {most:Int} (hm:0<=most/\most<=2) {cs:List gQ} (h5:cs.length<=5) (hcs:∀ x∈cs,aaP x):(exL most cs).length<=3125/\∀ d∈exL most cs,d.length=cs.length/\Sm2 d:=by
 rw[bxP]
 refine⟨?_,fun d hd=>?_⟩
 ·rw[bDD hm.1 _ (by
   intro c hc
   obtain⟨x,hx,rfl⟩:=List.mem_map.1 hc
   exact⟨(hcs x hx).1.1,(hcs x hx).2.1⟩) _ _ hm.1]
  refine Nat.le_trans (bAJ hm.2 _ _ _) ?_
  rw[List.length_map]
  exact Nat.pow_le_pow_right (by decide) h5
 ·obtain⟨h1,h2⟩:=bI5 most _ _ _ d hd
  refine⟨by rw[h1,List.length_map],fun x hx=>?_⟩
  have:=h2 x hx
  omega
theorem bD9 {R:pU} (h:ajT R) {most:Int} (hm:0<=most/\most<=2) {cs:List gQ} (h5:cs.length<=5) (hcs:∀ x∈cs,ZI x) (t:Nat) (ht:t<256) (k:Nat) (hk:1900000<=k):
  abB.f k R.l.f0 R.l.f1 R.r.f0 R.r.f1 R.t.f0 R.t.f1 R.off cs most (t:Int)=some (trL R cs t (exL most cs),trW R cs t (exL most cs)):=by
 have hcr:∀ x∈cs,aaP x:=fun x hx=>(hcs x hx).1
 obtain⟨h1,h2⟩:=bBF hm h5 hcr
 unfold abB.f
 rw[bGT hm h5 hcr k (by omega)]
 simp only[Option.bind_some]
 rw[bIZ h k (by omega)]
 simp only[Option.bind_some]
 exact bI4 h h5 hcs t ht (exL most cs) h1 h2 (exL most cs).length 0 k (by omega) (by omega)
theorem bjW (R:pU) (a b c:Int) (cs:List gQ) (d:List Int) (wo:Nat):∀ n,(EG R a b cs d wo n).f0<=c/\c<=(EG R a b cs d wo n).f1↔(R.t.f0<=c/\c<=R.t.f1)/\∀ i,i<n->wo.testBit i=false-> -R.off<=c - axG a b (DC cs i) (d.getD i 0)/\c - axG a b (DC cs i) (d.getD i 0)<=R.off:=by
 intro n
 induction n with
 |zero=>exact⟨fun h=>⟨h,fun i hi=>by omega⟩,fun h=>h.1⟩
 |succ n ih=>
  rw[EG]
  by_cases hw:wo.testBit n=true
  ·rw[if_pos hw,ih]
   refine⟨fun h=>⟨h.1,fun i hi hb=>?_⟩,fun h=>⟨h.1,fun i hi=>h.2 i (by omega)⟩⟩
   by_cases e:i=n
   ·subst e;rw[hw]at hb;cases hb
   ·exact h.2 i (by omega) hb
  ·rw[if_neg hw]
   unfold QG
   simp only[aoS,aoT]
   constructor
   ·intro h
    have h1:=ih.1 (by omega)
    refine⟨h1.1,fun i hi hb=>?_⟩
    by_cases e:i=n
    ·subst e;omega
    ·exact h1.2 i (by omega) hb
   ·intro h
    have h1:=ih.2 ⟨h.1,fun i hi=>h.2 i (by omega)⟩
    have h2:=h.2 n (by omega) (Bool.eq_false_iff.2 hw)
    omega
theorem a3C {R:pU} {cs:List gQ} {d:List Int} {wo:Nat} {x:Int×Int×aH}:x∈anW R cs d wo↔(R.l.f0<=x.1/\x.1<=R.l.f1)/\(R.r.f0<=x.2.1/\x.2.1<=R.r.f1)/\x.2.2=EG R x.1 x.2.1 cs d wo cs.length/\x.2.2.f0<=x.2.2.f1:=by
 unfold anW UL PL
 simp only[List.mem_flatMap,blH,Int.add_sub_cancel]
 constructor
 ·rintro⟨a,h1,b,h2,h3⟩
  unfold anV at h3
  split at h3
  ·rename_i hle
   obtain rfl:=List.mem_singleton.1 h3
   exact⟨h1,h2,rfl,hle⟩
  ·cases h3
 ·rintro⟨h1,h2,h3,h4⟩
  refine⟨x.1,h1,x.2.1,h2,?_⟩
  unfold anV
  rw[<-h3,if_pos h4]
  obtain⟨a,b,c⟩:=x
  exact List.mem_singleton.2 rfl
theorem blO (R:pU) (cs:List gQ) (t:Nat) (d:List Int) (x:aaL) (n:Nat):bZU R cs t d x n=true↔∀ i,i<n->t.testBit i=true-> -R.off<=x.f2 - axG x.f0 x.f1 (DC cs i) (d.getD i 0)/\x.f2 - axG x.f0 x.f1 (DC cs i) (d.getD i 0)<=R.off:=by
 unfold bZU
 rw[zO]
 constructor
 ·intro h i hi hb
  have:=h i hi
  rw[hb,Bool.not_true,Bool.false_or]at this
  exact of_decide_eq_true this
 ·intro h i hi
  cases hb:t.testBit i
  ·rfl
  ·rw[Bool.not_true,Bool.false_or]
   exact decide_eq_true (h i hi hb)
theorem bI6 {R:pU} {cs:List gQ} {s t:Nat} (hst:∀ i,i<cs.length->t.testBit i= !s.testBit i) (d:List Int):BC R cs s d=agS R cs t d:=by
 unfold BC agS
 rw[Bool.eq_iff_iff,Bool.not_eq_true',List.any_eq_true]
 have hne:(anW R cs d s).isEmpty=false↔∃ y,y∈anW R cs d s:=by
  cases hw:anW R cs d s with
  |nil=>simp
  |cons y ys=>simp
 rw[hne]
 constructor
 ·rintro⟨y,hy⟩
  obtain⟨h1,h2,h3,h4⟩:=a3C.1 hy
  have h5:=(bjW R y.1 y.2.1 y.2.2.f0 cs d s cs.length).1 (by rw[<-h3];exact⟨Int.le_refl _,h4⟩)
  refine⟨⟨y.1,y.2.1,y.2.2.f0⟩,a0C.2 ⟨h1,h2,h5.1⟩,(blO _ _ _ _ _ _).2 fun i hi hb=>?_⟩
  refine h5.2 i hi ?_
  rw[hst i hi]at hb
  simpa using hb
 ·rintro⟨x,hx,hag⟩
  obtain⟨h1,h2,h3⟩:=a0C.1 hx
  have h5:=(bjW R x.f0 x.f1 x.f2 cs d s cs.length).2 ⟨h3,fun i hi hb=>(blO _ _ _ _ _ _).1 hag i hi (by rw[hst i hi,hb];rfl)⟩
  exact⟨(x.f0,x.f1,EG R x.f0 x.f1 cs d s cs.length),a3C.2 ⟨h1,h2,rfl,Int.le_trans h5.1 h5.2⟩⟩
theorem bEA {R:pU} {cs:List gQ} {most:Int} {s t:Nat} (hst:∀ i,i<cs.length->t.testBit i= !s.testBit i):trL R cs t (exL most cs)=PM R cs most s:=by
 unfold trL PM
 congr 1
 funext d
 exact(bI6 hst d).symm
end Go.Proofs.YtcmfnebcmmklkaaDoor.Hand
namespace Go.Proofs.YtcmfnebcmmklkaaDoor.Q
open Go.RowKit Go.Proofs.YtcmfnebcmmklkaaDoorW.dQ Go.Proofs.YtcmfnebcmmklkaaDoorW.oU Go.Proofs.YtcmfnebcmmklkaaDoorW.gG
attribute [local go_sem] uA uB uC uD uM uN uO uP   -- for this text's walks alone
mutual
def aaU.j0:Nat->List (gQ)->Int->Bool->Option (Int)
  |0,_,_,_=>none
  |k+1,x1,x2,x29=>if x29=true then(some 4)else(if(x1.length:Int)>5 then(some 5)else(aaU.l0 k x1 x2 0))
def aaU.l0:Nat->List (gQ)->Int->Int->Option (Int)
  |0,_,_,_=>none
  |k+1,x1,x2,x7=>if x7<(x1.length:Int)then(if 0<=x7 then((qX.f ((DC x1 x7).f0) 0 24).bind fun a0D=>(if a0D=true then((qX.f ((DC x1 x7).f1) 0 24).bind fun as1=>(if as1=true then((qX.f ((DC x1 x7).f2) 0 5000).bind fun akF=>(if akF=true then(aaU.l0 k x1 x2 (wrap64 (x7+1)))else(some 2)))else(some 2)))else(some 2)))else(none))else(if(x1.length:Int)=0 then(some 2)else((qX.f x2 0 2).bind fun a0E=>(if a0E=true then(some 0)else(some 3))))
end
def aaU.f (k:Nat) (bV:Int) (bU:Int) (iL:Int) (iO:Int) (kV:Int) (lW:Int) (rW:Int) (l1:List (gQ)) (a2:Int):Option (Int):=(aeW.f bV bU).bind fun aEU=>(if aEU=true then((aeW.f iL iO).bind fun aoR=>(if aoR=true then((aeW.f kV lW).bind fun aj2=>(if aj2=true then((qX.f rW 0 20).bind fun aiN=>(aaU.j0 k l1 a2 (!aiN)))else(aaU.j0 k l1 a2 true)))else(aaU.j0 k l1 a2 true)))else(aaU.j0 k l1 a2 true))
theorem aaU.calls (k:Nat) (bV:Int) (bU:Int) (iL:Int) (iO:Int) (kV:Int) (lW:Int) (rW:Int) (A1:Option Addr) (c1:Nat) (l1:List (gQ)) (a2:Int) (r:Int) (w:World) (hr1:Kd.C vC w A1 l1.length l1) (hc1:l1.length<=c1) (h:aaU.f k bV bU iL iO kV lW rW l1 a2=some r):
    Calls Tryd.prog 39 #[.agg #[.int .i64 bV,.int .i64 bU,.int .i64 iL,.int .i64 iO,.int .i64 kV,.int .i64 lW,.int .i64 rW],.slice A1 l1.length c1,.int .i64 a2] w fun e w'=>e=.returned (.int .i64 r)/\Below w.heap.size w w':=by
 have aPM:=Tryd.underlying53
 have QY:=Tryd.underlying42
 have HR1:=aA.mk hr1
 have HC1:=aA.mk hc1
 clear hr1 hc1
 have HB:=aA.mk (Below.refl w.heap.size w)
 have H:((aeW.f bV bU).bind fun aEU=>(if aEU=true then((aeW.f iL iO).bind fun aoR=>(if aoR=true then((aeW.f kV lW).bind fun aj2=>(if aj2=true then((qX.f rW 0 20).bind fun aiN=>(aaU.j0 k l1 a2 (!aiN)))else(aaU.j0 k l1 a2 true)))else(aaU.j0 k l1 a2 true)))else(aaU.j0 k l1 a2 true)))=some r:=h
 clear h
 have HC4:=aA.mk H
 clear H
 go_enter Tryd.func39,Tryd.ntmps39
 go_upto_region 1 with(first|((with_reducible refine dU (N:=3) rfl ?_);refine eX 3 #[.int .i64 bV,.int .i64 bU,.int .i64 iL,.int .i64 iO,.int .i64 kV,.int .i64 lW,.int .i64 rW] 53 ?_;intro bBU hg w5 hbox hb;have dF:=aA.mk (hbox);have bUP:=gw hg HB;have bUQ:=gw hg HB;replace HB:=bs HB hb;clear hb hbox hg))
 (try simp only[Act.put,List.setIfInBounds_toArray,List.set_cons_zero,List.set_cons_succ])
 go_cut [29] (fun v29 wc=>∃ (kq:Nat) (a0J:Bool),v29=.bool a0J/\aA (aaU.j0 kq l1 a2 a0J=some r)/\aA (kq<=k)/\aA (wc.heap[bBU]? =some (.cells #[.int .i64 bV,.int .i64 bU,.int .i64 iL,.int .i64 iO,.int .i64 kV,.int .i64 lW,.int .i64 rW] 53 (0,0)))/\aA (Below w.heap.size w wc))
 case first=>
  have H:=HC4.out
  clear HC4
  replace H:=Option.bind_eq_some_iff.mp H
  obtain⟨aEU,A60,H⟩:=H
  replace H:(if aEU=true then((aeW.f iL iO).bind fun aoR=>(if aoR=true then((aeW.f kV lW).bind fun aj2=>(if aj2=true then((qX.f rW 0 20).bind fun aiN=>(aaU.j0 k l1 a2 (!aiN)))else(aaU.j0 k l1 a2 true)))else(aaU.j0 k l1 a2 true)))else(aaU.j0 k l1 a2 true))=some r:=H
  have A6:=aA.mk A60
  clear A60
  by_cases c7:aEU=true
  ·subst c7
   replace H:((aeW.f iL iO).bind fun aoR=>(if aoR=true then((aeW.f kV lW).bind fun aj2=>(if aj2=true then((qX.f rW 0 20).bind fun aiN=>(aaU.j0 k l1 a2 (!aiN)))else(aaU.j0 k l1 a2 true)))else(aaU.j0 k l1 a2 true)))=some r:=by rw[if_pos rfl]at H;exact H
   replace H:=Option.bind_eq_some_iff.mp H
   obtain⟨aoR,DZ,H⟩:=H
   replace H:(if aoR=true then((aeW.f kV lW).bind fun aj2=>(if aj2=true then((qX.f rW 0 20).bind fun aiN=>(aaU.j0 k l1 a2 (!aiN)))else(aaU.j0 k l1 a2 true)))else(aaU.j0 k l1 a2 true))=some r:=H
   have A8:=aA.mk DZ
   clear DZ
   by_cases c9:aoR=true
   ·subst c9
    replace H:((aeW.f kV lW).bind fun aj2=>(if aj2=true then((qX.f rW 0 20).bind fun aiN=>(aaU.j0 k l1 a2 (!aiN)))else(aaU.j0 k l1 a2 true)))=some r:=by rw[if_pos rfl]at H;exact H
    replace H:=Option.bind_eq_some_iff.mp H
    obtain⟨aj2,alX,H⟩:=H
    replace H:(if aj2=true then((qX.f rW 0 20).bind fun aiN=>(aaU.j0 k l1 a2 (!aiN)))else(aaU.j0 k l1 a2 true))=some r:=H
    have A10:=aA.mk alX
    clear alX
    by_cases c11:aj2=true
    ·subst c11
     replace H:((qX.f rW 0 20).bind fun aiN=>(aaU.j0 k l1 a2 (!aiN)))=some r:=by rw[if_pos rfl]at H;exact H
     replace H:=Option.bind_eq_some_iff.mp H
     obtain⟨aiN,adJ,H⟩:=H
     replace H:(aaU.j0 k l1 a2 (!aiN))=some r:=H
     have A12:=aA.mk adJ
     clear adJ
     have H':=aA.mk H
     clear H
     obtain⟨aqB,aqC⟩:=bZ dF (.int .i64 bV) (.int .i64 bU)
     have bLO:=kd dF 2 (.int .i64 iL)
     have bLP:=kd dF 3 (.int .i64 iO)
     have bUR:=kd dF 4 (.int .i64 kV)
     have bUS:=kd dF 5 (.int .i64 lW)
     have bUT:=kd dF 6 (.int .i64 rW)
     have aCZ:=aX dF.out 0
     have aC0:=aX dF.out 1
     have bLQ:=aX dF.out 2
     have bLR:=aX dF.out 3
     have bUU:=aX dF.out 4
     have bUV:=aX dF.out 5
     have bUW:=aX dF.out 6
     go_wp2_with (first|((with_reducible refine gJ (f:=85) rfl ?_);refine cE 10 Tryd.func85 #[.agg #[.int .i64 bV,.int .i64 bU]] ?_;(with_reducible refine(aeW.calls bV bU true _ A6.out).mono ?_);rintro e rU ⟨rfl,hb⟩;refine⟨_,rfl,?_⟩;replace dF:=bb dF hb;replace HB:=bs HB hb;(try clear hb);obtain⟨bmZ,bm0⟩:=bZ dF (.int .i64 bV) (.int .i64 bU);have bHA:=kd dF 2 (.int .i64 iL);have bHB:=kd dF 3 (.int .i64 iO);have bHC:=kd dF 4 (.int .i64 kV);have bHD:=kd dF 5 (.int .i64 lW);have bHE:=kd dF 6 (.int .i64 rW);have bHF:=aX dF.out 0;have bHG:=aX dF.out 1;have bHH:=aX dF.out 2;have bHI:=aX dF.out 3;have bHJ:=aX dF.out 4;have bHK:=aX dF.out 5;have bHL:=aX dF.out 6)|(go_at_call 85;(with_reducible refine(aeW.calls iL iO true _ A8.out).mono ?_);rintro e w16 ⟨rfl,hb⟩;replace dF:=bb dF hb;replace HB:=bs HB hb;(try clear hb);obtain⟨avH,avI⟩:=bZ dF (.int .i64 bV) (.int .i64 bU);have bUX:=kd dF 2 (.int .i64 iL);have bUY:=kd dF 3 (.int .i64 iO);have bUZ:=kd dF 4 (.int .i64 kV);have bU0:=kd dF 5 (.int .i64 lW);have bU1:=kd dF 6 (.int .i64 rW);have bgP:=aX dF.out 0;have bgQ:=aX dF.out 1;have bU2:=aX dF.out 2;have bU3:=aX dF.out 3;have bU4:=aX dF.out 4;have bU5:=aX dF.out 5;have bU6:=aX dF.out 6)|(go_at_call 85;(with_reducible refine(aeW.calls kV lW true _ A10.out).mono ?_);rintro e BM ⟨rfl,hb⟩;replace dF:=bb dF hb;replace HB:=bs HB hb;(try clear hb);obtain⟨aXH,aXI⟩:=bZ dF (.int .i64 bV) (.int .i64 bU);have bHP:=kd dF 2 (.int .i64 iL);have bHQ:=kd dF 3 (.int .i64 iO);have bHR:=kd dF 4 (.int .i64 kV);have bHS:=kd dF 5 (.int .i64 lW);have bHT:=kd dF 6 (.int .i64 rW);have bC4:=aX dF.out 0;have bC5:=aX dF.out 1;have bHU:=aX dF.out 2;have bHV:=aX dF.out 3;have bHW:=aX dF.out 4;have bHX:=aX dF.out 5;have bHY:=aX dF.out 6)|(go_at_call 32;(with_reducible refine(qX.calls rW 0 20 aiN _ A12.out).mono ?_);rintro e w' ⟨rfl,⟨nd,rfl⟩⟩))
     go_meet
     case rel=>exact⟨_,(!aiN),(by first|rfl|(simp;done)|(simp[*];done)),H',⟨by first|omega|exact Nat.le_refl _⟩,⟨b_ dF⟩,⟨Bq HB⟩⟩
    replace c11:=Bool.eq_false_iff.mpr c11
    subst c11
    replace H:(aaU.j0 k l1 a2 true)=some r:=by rw[if_neg (show ¬ (false=true) by decide)]at H;exact H
    have H':=aA.mk H
    clear H
    obtain⟨aqD,aqE⟩:=bZ dF (.int .i64 bV) (.int .i64 bU)
    have bU7:=kd dF 2 (.int .i64 iL)
    have bU8:=kd dF 3 (.int .i64 iO)
    have bU9:=kd dF 4 (.int .i64 kV)
    have bVA:=kd dF 5 (.int .i64 lW)
    have bVB:=kd dF 6 (.int .i64 rW)
    have aT9:=aX dF.out 0
    have aUA:=aX dF.out 1
    have bVC:=aX dF.out 2
    have bVD:=aX dF.out 3
    have bVE:=aX dF.out 4
    have bVF:=aX dF.out 5
    have bVG:=aX dF.out 6
    go_wp2_with (first|((with_reducible refine gJ (f:=85) rfl ?_);refine cE 10 Tryd.func85 #[.agg #[.int .i64 bV,.int .i64 bU]] ?_;(with_reducible refine(aeW.calls bV bU true _ A6.out).mono ?_);rintro e BR ⟨rfl,hb⟩;refine⟨_,rfl,?_⟩;replace dF:=bb dF hb;replace HB:=bs HB hb;(try clear hb);obtain⟨aFN,aFO⟩:=bZ dF (.int .i64 bV) (.int .i64 bU);have bHZ:=kd dF 2 (.int .i64 iL);have bH0:=kd dF 3 (.int .i64 iO);have bH1:=kd dF 4 (.int .i64 kV);have bH2:=kd dF 5 (.int .i64 lW);have bH3:=kd dF 6 (.int .i64 rW);have aQ3:=aX dF.out 0;have aQ4:=aX dF.out 1;have bH4:=aX dF.out 2;have bH5:=aX dF.out 3;have bH6:=aX dF.out 4;have bH7:=aX dF.out 5;have bH8:=aX dF.out 6)|(go_at_call 85;(with_reducible refine(aeW.calls iL iO true _ A8.out).mono ?_);rintro e EZ ⟨rfl,hb⟩;replace dF:=bb dF hb;replace HB:=bs HB hb;(try clear hb);obtain⟨bgT,bgU⟩:=bZ dF (.int .i64 bV) (.int .i64 bU);have bD6:=kd dF 2 (.int .i64 iL);have bN2:=kd dF 3 (.int .i64 iO);have bN3:=kd dF 4 (.int .i64 kV);have bN4:=kd dF 5 (.int .i64 lW);have bN5:=kd dF 6 (.int .i64 rW);have bgV:=aX dF.out 0;have bgW:=aX dF.out 1;have bD7:=aX dF.out 2;have bN6:=aX dF.out 3;have bN7:=aX dF.out 4;have bN8:=aX dF.out 5;have bN9:=aX dF.out 6)|(go_at_call 85;(with_reducible refine(aeW.calls kV lW false _ A10.out).mono ?_);rintro e AV ⟨rfl,hb⟩;replace dF:=bb dF hb;replace HB:=bs HB hb;(try clear hb)))
    go_meet
    case rel=>exact⟨_,(true),(by first|rfl|(simp;done)|(simp[*];done)),H',⟨by first|omega|exact Nat.le_refl _⟩,⟨b_ dF⟩,⟨Bq HB⟩⟩
   replace c9:=Bool.eq_false_iff.mpr c9
   subst c9
   replace H:(aaU.j0 k l1 a2 true)=some r:=by rw[if_neg (show ¬ (false=true) by decide)]at H;exact H
   have H':=aA.mk H
   clear H
   obtain⟨aq2,aq3⟩:=bZ dF (.int .i64 bV) (.int .i64 bU)
   have bVH:=kd dF 2 (.int .i64 iL)
   have bVI:=kd dF 3 (.int .i64 iO)
   have bVJ:=kd dF 4 (.int .i64 kV)
   have bVK:=kd dF 5 (.int .i64 lW)
   have bVL:=kd dF 6 (.int .i64 rW)
   have aEE:=aX dF.out 0
   have aEF:=aX dF.out 1
   have bVM:=aX dF.out 2
   have bVN:=aX dF.out 3
   have bVO:=aX dF.out 4
   have bVP:=aX dF.out 5
   have bVQ:=aX dF.out 6
   go_wp2_with (first|((with_reducible refine gJ (f:=85) rfl ?_);refine cE 10 Tryd.func85 #[.agg #[.int .i64 bV,.int .i64 bU]] ?_;(with_reducible refine(aeW.calls bV bU true _ A6.out).mono ?_);rintro e wF ⟨rfl,hb⟩;refine⟨_,rfl,?_⟩;replace dF:=bb dF hb;replace HB:=bs HB hb;(try clear hb);obtain⟨aRS,aRT⟩:=bZ dF (.int .i64 bV) (.int .i64 bU);have bVR:=kd dF 2 (.int .i64 iL);have bVS:=kd dF 3 (.int .i64 iO);have bVT:=kd dF 4 (.int .i64 kV);have bVU:=kd dF 5 (.int .i64 lW);have bVV:=kd dF 6 (.int .i64 rW);have aRU:=aX dF.out 0;have aRV:=aX dF.out 1;have bVW:=aX dF.out 2;have bVX:=aX dF.out 3;have bVY:=aX dF.out 4;have bVZ:=aX dF.out 5;have bV0:=aX dF.out 6)|(go_at_call 85;(with_reducible refine(aeW.calls iL iO false _ A8.out).mono ?_);rintro e EK ⟨rfl,hb⟩;replace dF:=bb dF hb;replace HB:=bs HB hb;(try clear hb)))
   go_meet
   case rel=>exact⟨_,(true),(by first|rfl|(simp;done)|(simp[*];done)),H',⟨by first|omega|exact Nat.le_refl _⟩,⟨b_ dF⟩,⟨Bq HB⟩⟩
  replace c7:=Bool.eq_false_iff.mpr c7
  subst c7
  replace H:(aaU.j0 k l1 a2 true)=some r:=by rw[if_neg (show ¬ (false=true) by decide)]at H;exact H
  have H':=aA.mk H
  clear H
  obtain⟨aZS,aZT⟩:=bZ dF (.int .i64 bV) (.int .i64 bU)
  have bGG:=kd dF 2 (.int .i64 iL)
  have bV1:=kd dF 3 (.int .i64 iO)
  have bV2:=kd dF 4 (.int .i64 kV)
  have bV3:=kd dF 5 (.int .i64 lW)
  have bV4:=kd dF 6 (.int .i64 rW)
  have aZU:=aX dF.out 0
  have aZV:=aX dF.out 1
  have bGH:=aX dF.out 2
  have bV5:=aX dF.out 3
  have bV6:=aX dF.out 4
  have bV7:=aX dF.out 5
  have bV8:=aX dF.out 6
  go_wp2_with (first|((with_reducible refine gJ (f:=85) rfl ?_);refine cE 10 Tryd.func85 #[.agg #[.int .i64 bV,.int .i64 bU]] ?_;(with_reducible refine(aeW.calls bV bU false _ A6.out).mono ?_);rintro e yA ⟨rfl,hb⟩;refine⟨_,rfl,?_⟩;replace dF:=bb dF hb;replace HB:=bs HB hb;(try clear hb)))
  go_meet
  case rel=>exact⟨_,(true),(by first|rfl|(simp;done)|(simp[*];done)),H',⟨by first|omega|exact Nat.le_refl _⟩,⟨b_ dF⟩,⟨Bq HB⟩⟩
 case rest=>
  clear HC4
  try clear c1
  obtain⟨kq,a0J,rfl,HA,HJ3,dF,HB⟩:=hcut
  rcases kq with _|kj3
  ·exact absurd HA.out (by simp[aaU.j0])
  have H:=HA.out
  clear HA
  simp only[aaU.j0]at H
  by_cases c32:a0J=true
  ·subst c32
   replace H:(some 4)=some r:=by rw[if_pos rfl]at H;exact H
   obtain rfl:=Option.some.inj H
   go_wp2
   go_ret
   exact eR HB
  replace c32:=Bool.eq_false_iff.mpr c32
  subst c32
  replace H:(if(l1.length:Int)>5 then(some 5)else(aaU.l0 kj3 l1 a2 0))=some r:=by rw[if_neg (show ¬ (false=true) by decide)]at H;exact H
  by_cases OH:(l1.length:Int)>5
  ·rw[if_pos OH]at H
   have adK:decide (5<(l1.length:Int))=true:=decide_eq_true OH
   have aQX:decide (5<l1.length)=true:=decide_eq_true (by omega)
   clear OH
   obtain rfl:=Option.some.inj H
   go_wp2
   go_ret
   exact eR HB
  rw[if_neg OH]at H
  have adK:decide (5<(l1.length:Int))=false:=decide_eq_false OH
  have aQX:decide (5<l1.length)=false:=decide_eq_false (by omega)
  clear OH
  have H':=aA.mk H
  clear H
  go_wp2
  go_loopg [7] kj3 (fun kq v7 w'=>∃ (aaS:Int),v7=.int .i64 aaS/\aA (aaU.l0 kq l1 a2 aaS=some r)/\aA (kq<=kj3)/\aA (w'.heap[bBU]? =some (.cells #[.int .i64 bV,.int .i64 bU,.int .i64 iL,.int .i64 iO,.int .i64 kV,.int .i64 lW,.int .i64 rW] 53 (0,0)))/\aA (Below w.heap.size w w'))
  case atStart=>exact⟨(0),(by first|rfl|(simp;done)|(simp[*];done)),H',⟨Nat.le_refl _⟩,⟨b_ dF⟩,⟨Bq HB⟩⟩
  case round=>
   clear H'
   try clear c32
   try clear OH
   try clear adK
   try clear aQX
   obtain⟨aaS,rfl,HA,mY,dF,HB⟩:=hrel
   rcases gk with _|k2
   ·exact absurd HA.out (by simp[aaU.l0])
   have H:=HA.out
   clear HA
   simp only[aaU.l0]at H
   by_cases c34:aaS<(l1.length:Int)
   ·rw[if_pos c34]at H
    have bsA:decide (aaS<(l1.length:Int))=true:=decide_eq_true c34
    clear c34
    by_cases c35:0<=aaS
    ·rw[if_pos c35]at H
     have bqX:decide (0<=aaS)=true:=decide_eq_true c35
     clear c35
     replace H:=Option.bind_eq_some_iff.mp H
     obtain⟨a0D,bBW,H⟩:=H
     replace H:(if a0D=true then((qX.f ((DC l1 aaS).f1) 0 24).bind fun as1=>(if as1=true then((qX.f ((DC l1 aaS).f2) 0 5000).bind fun akF=>(if akF=true then(aaU.l0 k2 l1 a2 (wrap64 (aaS+1)))else(some 2)))else(some 2)))else(some 2))=some r:=H
     have A36:=aA.mk bBW
     clear bBW
     by_cases c37:a0D=true
     ·subst c37
      replace H:((qX.f ((DC l1 aaS).f1) 0 24).bind fun as1=>(if as1=true then((qX.f ((DC l1 aaS).f2) 0 5000).bind fun akF=>(if akF=true then(aaU.l0 k2 l1 a2 (wrap64 (aaS+1)))else(some 2)))else(some 2)))=some r:=by rw[if_pos rfl]at H;exact H
      replace H:=Option.bind_eq_some_iff.mp H
      obtain⟨as1,bBX,H⟩:=H
      replace H:(if as1=true then((qX.f ((DC l1 aaS).f2) 0 5000).bind fun akF=>(if akF=true then(aaU.l0 k2 l1 a2 (wrap64 (aaS+1)))else(some 2)))else(some 2))=some r:=H
      have A38:=aA.mk bBX
      clear bBX
      by_cases c39:as1=true
      ·subst c39
       replace H:((qX.f ((DC l1 aaS).f2) 0 5000).bind fun akF=>(if akF=true then(aaU.l0 k2 l1 a2 (wrap64 (aaS+1)))else(some 2)))=some r:=by rw[if_pos rfl]at H;exact H
       replace H:=Option.bind_eq_some_iff.mp H
       obtain⟨akF,a5I,H⟩:=H
       replace H:(if akF=true then(aaU.l0 k2 l1 a2 (wrap64 (aaS+1)))else(some 2))=some r:=H
       have vG:=aA.mk a5I
       clear a5I
       by_cases c41:akF=true
       ·subst c41
        replace H:(aaU.l0 k2 l1 a2 (wrap64 (aaS+1)))=some r:=by rw[if_pos rfl]at H;exact H
        have H':=aA.mk H
        clear H
        have ajU:0<=(aaS:Int):=od
        have ajV:aaS<(l1.length:Int):=od
        obtain⟨as8,ay7,al6,amB,amJ⟩:=aIW HR1.out aaS ajU ajV
        cases ay7
        replace al6:=xs HB al6
        replace amB:=xs HB amB
        replace amJ:=xs HB amJ
        replace ajU:=eq_true ajU
        replace ajV:=eq_true ajV
        go_wp2_with (first|((with_reducible refine gJ (f:=32) rfl ?_);refine cE 44 Tryd.func32 #[.int .i64 ((DC l1 aaS).f0),.int .i64 0,.int .i64 24] ?_;(with_reducible refine(qX.calls ((DC l1 aaS).f0) 0 24 true _ A36.out).mono ?_);rintro e w' ⟨rfl,⟨nd,rfl⟩⟩;refine⟨_,rfl,?_⟩;have amQ:0<=(aaS:Int):=od;have amU:aaS<(l1.length:Int):=od;obtain⟨aOY,aOZ,atE,atZ,au5⟩:=aIW HR1.out aaS amQ amU;obtain rfl:as8=aOY:=(by injection aOZ);replace atE:=xs HB atE;replace atZ:=xs HB atZ;replace au5:=xs HB au5;replace amQ:=eq_true amQ;replace amU:=eq_true amU)|(go_at_call 32;(with_reducible refine(qX.calls ((DC l1 aaS).f1) 0 24 true _ A38.out).mono ?_);rintro e w' ⟨rfl,⟨nd,rfl⟩⟩;have ay9:0<=(aaS:Int):=od;have azB:aaS<(l1.length:Int):=od;obtain⟨bnM,bnN,aO0,aO1,aO2⟩:=aIW HR1.out aaS ay9 azB;obtain rfl:as8=bnM:=(by injection bnN);replace aO0:=xs HB aO0;replace aO1:=xs HB aO1;replace aO2:=xs HB aO2;replace ay9:=eq_true ay9;replace azB:=eq_true azB)|(go_at_call 32;(with_reducible refine(qX.calls ((DC l1 aaS).f2) 0 5000 true _ vG.out).mono ?_);rintro e w' ⟨rfl,⟨nd,rfl⟩⟩))
        go_roundg k2
        case measure=>have:=HJ3.out;have:=mY.out;omega
        case rel=>exact⟨(wrap64 (aaS+1)),(by first|rfl|(simp;done)|(simp[*];done)),H',⟨by have:=HJ3.out;have:=mY.out;omega⟩,⟨b_ dF⟩,⟨Bq HB⟩⟩
       replace c41:=Bool.eq_false_iff.mpr c41
       subst c41
       replace H:(some 2)=some r:=by rw[if_neg (show ¬ (false=true) by decide)]at H;exact H
       obtain rfl:=Option.some.inj H
       have ajU:0<=(aaS:Int):=od
       have ajV:aaS<(l1.length:Int):=od
       obtain⟨as8,ay7,al6,amB,amJ⟩:=aIW HR1.out aaS ajU ajV
       cases ay7
       replace al6:=xs HB al6
       replace amB:=xs HB amB
       replace amJ:=xs HB amJ
       replace ajU:=eq_true ajU
       replace ajV:=eq_true ajV
       go_wp2_with (first|((with_reducible refine gJ (f:=32) rfl ?_);refine cE 44 Tryd.func32 #[.int .i64 ((DC l1 aaS).f0),.int .i64 0,.int .i64 24] ?_;(with_reducible refine(qX.calls ((DC l1 aaS).f0) 0 24 true _ A36.out).mono ?_);rintro e w' ⟨rfl,⟨nd,rfl⟩⟩;refine⟨_,rfl,?_⟩;have amQ:0<=(aaS:Int):=od;have amU:aaS<(l1.length:Int):=od;obtain⟨aOY,aOZ,atE,atZ,au5⟩:=aIW HR1.out aaS amQ amU;obtain rfl:as8=aOY:=(by injection aOZ);replace atE:=xs HB atE;replace atZ:=xs HB atZ;replace au5:=xs HB au5;replace amQ:=eq_true amQ;replace amU:=eq_true amU)|(go_at_call 32;(with_reducible refine(qX.calls ((DC l1 aaS).f1) 0 24 true _ A38.out).mono ?_);rintro e w' ⟨rfl,⟨nd,rfl⟩⟩;have ay9:0<=(aaS:Int):=od;have azB:aaS<(l1.length:Int):=od;obtain⟨bnM,bnN,aO0,aO1,aO2⟩:=aIW HR1.out aaS ay9 azB;obtain rfl:as8=bnM:=(by injection bnN);replace aO0:=xs HB aO0;replace aO1:=xs HB aO1;replace aO2:=xs HB aO2;replace ay9:=eq_true ay9;replace azB:=eq_true azB)|(go_at_call 32;(with_reducible refine(qX.calls ((DC l1 aaS).f2) 0 5000 false _ vG.out).mono ?_);rintro e w' ⟨rfl,⟨nd,rfl⟩⟩))
       go_ret
       exact eR HB
      replace c39:=Bool.eq_false_iff.mpr c39
      subst c39
      replace H:(some 2)=some r:=by rw[if_neg (show ¬ (false=true) by decide)]at H;exact H
      obtain rfl:=Option.some.inj H
      have ajU:0<=(aaS:Int):=od
      have ajV:aaS<(l1.length:Int):=od
      obtain⟨as8,ay7,al6,amB,amJ⟩:=aIW HR1.out aaS ajU ajV
      cases ay7
      replace al6:=xs HB al6
      replace amB:=xs HB amB
      replace amJ:=xs HB amJ
      replace ajU:=eq_true ajU
      replace ajV:=eq_true ajV
      go_wp2_with (first|((with_reducible refine gJ (f:=32) rfl ?_);refine cE 44 Tryd.func32 #[.int .i64 ((DC l1 aaS).f0),.int .i64 0,.int .i64 24] ?_;(with_reducible refine(qX.calls ((DC l1 aaS).f0) 0 24 true _ A36.out).mono ?_);rintro e w' ⟨rfl,⟨nd,rfl⟩⟩;refine⟨_,rfl,?_⟩;have amQ:0<=(aaS:Int):=od;have amU:aaS<(l1.length:Int):=od;obtain⟨aOY,aOZ,atE,atZ,au5⟩:=aIW HR1.out aaS amQ amU;obtain rfl:as8=aOY:=(by injection aOZ);replace atE:=xs HB atE;replace atZ:=xs HB atZ;replace au5:=xs HB au5;replace amQ:=eq_true amQ;replace amU:=eq_true amU)|(go_at_call 32;(with_reducible refine(qX.calls ((DC l1 aaS).f1) 0 24 false _ A38.out).mono ?_);rintro e w' ⟨rfl,⟨nd,rfl⟩⟩))
      go_ret
      exact eR HB
     replace c37:=Bool.eq_false_iff.mpr c37
     subst c37
     replace H:(some 2)=some r:=by rw[if_neg (show ¬ (false=true) by decide)]at H;exact H
     obtain rfl:=Option.some.inj H
     have ajU:0<=(aaS:Int):=od
     have ajV:aaS<(l1.length:Int):=od
     obtain⟨as8,ay7,al6,amB,amJ⟩:=aIW HR1.out aaS ajU ajV
     cases ay7
     replace al6:=xs HB al6
     replace amB:=xs HB amB
     replace amJ:=xs HB amJ
     replace ajU:=eq_true ajU
     replace ajV:=eq_true ajV
     go_wp2_with (first|((with_reducible refine gJ (f:=32) rfl ?_);refine cE 44 Tryd.func32 #[.int .i64 ((DC l1 aaS).f0),.int .i64 0,.int .i64 24] ?_;(with_reducible refine(qX.calls ((DC l1 aaS).f0) 0 24 false _ A36.out).mono ?_);rintro e w' ⟨rfl,⟨nd,rfl⟩⟩;refine⟨_,rfl,?_⟩))
     go_ret
     exact eR HB
    rw[if_neg c35]at H
    exact absurd H (by simp)
   rw[if_neg c34]at H
   have bsA:decide (aaS<(l1.length:Int))=false:=decide_eq_false c34
   clear c34
   by_cases c42:(l1.length:Int)=0
   ·rw[if_pos c42]at H
    have bhA:((l1.length:Int)==0)=true:=beq_iff_eq.mpr c42
    have bJ3:((l1.length:Int)!=0)=false:=bne_eq_false_iff_eq.mpr c42
    clear c42
    obtain rfl:=Option.some.inj H
    go_wp2
    go_ret
    exact eR HB
   rw[if_neg c42]at H
   have bhA:((l1.length:Int)==0)=false:=beq_eq_false_iff_ne.mpr c42
   have bJ3:((l1.length:Int)!=0)=true:=bne_iff_ne.mpr c42
   have bV9:¬ (l1=[]):=fun h_=>c42 (by rw[h_];rfl)
   replace H:=Option.bind_eq_some_iff.mp H
   obtain⟨a0E,bBY,H⟩:=H
   replace H:(if a0E=true then(some 0)else(some 3))=some r:=H
   have A43:=aA.mk bBY
   clear bBY
   by_cases c44:a0E=true
   ·subst c44
    replace H:(some 0)=some r:=by rw[if_pos rfl]at H;exact H
    obtain rfl:=Option.some.inj H
    go_wp2_with (first|((with_reducible refine gJ (f:=32) rfl ?_);refine cE 68 Tryd.func32 #[.int .i64 a2,.int .i64 0,.int .i64 2] ?_;(with_reducible refine(qX.calls a2 0 2 true _ A43.out).mono ?_);rintro e w' ⟨rfl,⟨nd,rfl⟩⟩;refine⟨_,rfl,?_⟩))
    go_ret
    exact eR HB
   replace c44:=Bool.eq_false_iff.mpr c44
   subst c44
   replace H:(some 3)=some r:=by rw[if_neg (show ¬ (false=true) by decide)]at H;exact H
   obtain rfl:=Option.some.inj H
   go_wp2_with (first|((with_reducible refine gJ (f:=32) rfl ?_);refine cE 68 Tryd.func32 #[.int .i64 a2,.int .i64 0,.int .i64 2] ?_;(with_reducible refine(qX.calls a2 0 2 false _ A43.out).mono ?_);rintro e w' ⟨rfl,⟨nd,rfl⟩⟩;refine⟨_,rfl,?_⟩))
   go_ret
   exact eR HB
end Go.Proofs.YtcmfnebcmmklkaaDoor.Q

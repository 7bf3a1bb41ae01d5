/- What DozenCrates reaches beyond the shared texts, and its card. Part 6 of 7. -/
import Derived.Test.YtcmfnebcmmklkaaDoorPa4
import Derived.Test.YtcmfnebcmmklkaaDoorPa1
import Derived.Test.YtcmfnebcmmklkaaDoorM15
import Derived.Test.YtcmfnebcmmklkaaDoorPa5
import Derived.ChangeKeys
import Derived.Test.YtcmfnebcmmklkaaDoorM10
import Derived.Test.YtcmfnebcmmklkaaDoorPa3
import Derived.Test.YtcmfnebcmmklkaaDoorM3
import Derived.Test.YtcmfnebcmmklkaaDoorM5
set_option linter.unusedVariables false
set_option linter.unusedSimpArgs false
set_option maxRecDepth 100000
set_option maxHeartbeats 8000000
namespace Go.Proofs.YtcmfnebcmmklkaaDoor.Hand
open Go.RowKit Go.Shelf Go.Proofs.YtcmfnebcmmklkaaDoorW.dQ Go.Proofs.YtcmfnebcmmklkaaDoorW.gG Go.Proofs.YtcmfnebcmmklkaaDoor.Q
theorem bJ4 (a b:Int):aeW.f a b=some (agB ⟨a,b⟩):=by
 unfold aeW.f
 rw[aAZ]
 simp only[Option.bind_some,decide_eq_true_iff]
 unfold agB
 by_cases h:0<=a/\a<=b/\b<=60
 ·have h1:UE a b 60=true:=by
   simp[UE,allIn,xR]
   omega
  rw[if_pos h,h1,jF (by omega) (by omega),Bool.true_and]
 ·have h1:UE a b 60=false:=by
   rw[Bool.eq_false_iff]
   intro hh
   simp[UE,allIn,xR]at hh
   omega
  rw[if_neg h,h1,Bool.false_and]
theorem bB0 (x:gQ):aiQ x=true↔(0<=x.f0/\x.f0<=24)/\(0<=x.f1/\x.f1<=24)/\0<=x.f2/\x.f2<=5000:=by
 simp[aiQ,allIn,xR]
 try omega
theorem bJ5 (cs:List gQ) (most:Int) (h5:cs.length<=5):∀ m i k:Nat,i+m=cs.length->m<k->
  aaU.l0 k cs most (i:Int)=some (if(cs.drop i).all (fun x=>aiQ x)=true then(if cs.length=0 then 2 else if 0<=most/\most<=2 then 0 else 3)else 2):=by
 intro m
 induction m with
 |zero=>
  intro i k hi hk
  obtain⟨k,rfl⟩:∃ j,k=j+1:=⟨k - 1,by omega⟩
  rw[aaU.l0,if_neg (by omega),List.drop_eq_nil_of_le (by omega),List.all_nil,if_pos rfl,PQ]
  simp only[Option.bind_some,decide_eq_true_iff]
  by_cases h0:cs.length=0
  ·rw[if_pos (by omega),if_pos h0]
  ·rw[if_neg (by omega),if_neg h0]
   split<;>rfl
 |succ m ih=>
  intro i k hi hk
  obtain⟨k,rfl⟩:∃ j,k=j+1:=⟨k - 1,by omega⟩
  have hl:i<cs.length:=by omega
  have hn:=ih (i+1) k (by omega) (by omega)
  have hb:=bB0 cs[i]
  rw[aaU.l0,if_pos (by omega),if_pos (by omega),aG1 hl,yN (by omega),hn,List.drop_eq_getElem_cons hl,List.all_cons]
  simp only[PQ,Option.bind_some,decide_eq_true_iff]
  by_cases h1:0<=cs[i].f0/\cs[i].f0<=24
  ·rw[if_pos h1]
   by_cases h2:0<=cs[i].f1/\cs[i].f1<=24
   ·rw[if_pos h2]
    by_cases h3:0<=cs[i].f2/\cs[i].f2<=5000
    ·rw[if_pos h3,hb.2 ⟨h1,h2,h3⟩,Bool.true_and]
    ·rw[if_neg h3,Bool.eq_false_iff.2 (fun hh=>h3 (hb.1 hh).2.2),Bool.false_and,if_neg Bool.false_ne_true]
   ·rw[if_neg h2,Bool.eq_false_iff.2 (fun hh=>h2 (hb.1 hh).2.1),Bool.false_and,if_neg Bool.false_ne_true]
  ·rw[if_neg h1,Bool.eq_false_iff.2 (fun hh=>h1 (hb.1 hh).1),Bool.false_and,if_neg Bool.false_ne_true]
theorem bJ6 (cs:List gQ) (most:Int) (k:Nat) (hk:8<=k):aaU.j0 k cs most false=some (if 5<cs.length then 5 else if(decide (cs.length=0)||cs.any (fun x=> !aiQ x))=true then 2 else if allIn 0 2 [most]=true then 0 else 3):=by
 obtain⟨k,rfl⟩:∃ j,k=j+1:=⟨k - 1,by omega⟩
 rw[aaU.j0,if_neg Bool.false_ne_true]
 by_cases h5:5<cs.length
 ·rw[if_pos (by omega),if_pos h5]
 ·rw[if_neg (by omega),if_neg h5,alW]
  have:=bJ5 cs most (by omega) cs.length 0 k (by omega) (by omega)
  rw[List.drop_zero]at this
  refine this.trans ?_
  have hm:allIn 0 2 [most]=decide (0<=most/\most<=2):=by
   rw[Bool.eq_iff_iff,decide_eq_true_iff]
   simp[allIn,xR]
   try omega
  rw[hm]
  congr 1
  by_cases h0:cs.length=0
  ·rw[if_pos h0,decide_eq_true h0,Bool.true_or,if_pos rfl]
   split<;>rfl
  ·rw[if_neg h0,decide_eq_false h0,Bool.false_or]
   cases cs.all (fun x=>aiQ x)
   ·rfl
   ·simp only[if_true,Bool.not_true,Bool.false_eq_true,if_false,decide_eq_true_iff]
theorem bJ7 (a b c d e f g:Int) (cs:List gQ) (most:Int) (k:Nat) (hk:9<=k):aaU.f k a b c d e f g cs most=some (BX (IE a b c d e f g) cs most):=by
 have hj:∀ j,9<=j->aaU.j0 j cs most true=some 4:=by
  intro j hj
  obtain⟨j,rfl⟩:∃ i,j=i+1:=⟨j - 1,by omega⟩
  rw[aaU.j0,if_pos rfl]
 unfold aaU.f BX IE
 simp only[bJ4,Option.bind_some,PQ]
 have hg:allIn 0 20 [g]=decide (0<=g/\g<=20):=by
  rw[Bool.eq_iff_iff,decide_eq_true_iff]
  simp[allIn,xR]
  try omega
 rw[hg]
 by_cases h1:agB ⟨a,b⟩=true
 ·rw[if_pos h1,h1,Bool.true_and]
  by_cases h2:agB ⟨c,d⟩=true
  ·rw[if_pos h2,h2,Bool.true_and]
   by_cases h3:agB ⟨e,f⟩=true
   ·rw[if_pos h3,h3,Bool.true_and]
    by_cases h4:0<=g/\g<=20
    ·rw[decide_eq_true h4,if_pos rfl,Bool.not_true]
     exact bJ6 cs most k (by omega)
    ·rw[decide_eq_false h4,if_neg Bool.false_ne_true,Bool.not_false]
     exact hj k hk
   ·rw[if_neg h3,Bool.eq_false_iff.2 h3,Bool.false_and,if_neg Bool.false_ne_true]
    exact hj k hk
  ·rw[if_neg h2,Bool.eq_false_iff.2 h2,Bool.false_and,Bool.false_and,if_neg Bool.false_ne_true]
   exact hj k hk
 ·rw[if_neg h1,Bool.eq_false_iff.2 h1,Bool.false_and,Bool.false_and,Bool.false_and,if_neg Bool.false_ne_true]
  exact hj k hk
theorem bJ8 {R:pU} {cs:List gQ} {most:Int} (h:BX R cs most=0):ajT R/\(1<=cs.length/\cs.length<=5)/\(∀ x∈cs,ZI x)/\0<=most/\most<=2:=by
 unfold BX at h
 split at h
 ·rename_i h1
  split at h
  ·cases h
  ·rename_i h2
   split at h
   ·cases h
   ·rename_i h3
    split at h
    ·rename_i h4
     simp[agB,UE,allIn,xR]at h1
     simp[allIn,xR]at h4
     rw[alW,Bool.or_eq_true,not_or,decide_eq_true_iff,Bool.not_eq_true',Bool.not_eq_false,List.all_eq_true]at h3
     refine⟨⟨?_,by omega,by omega,by omega⟩,by omega,fun x hx=>?_,by omega⟩
     ·unfold arQ
      omega
     ·have:=(bB0 x).1 (h3.2 x hx)
      unfold ZI aaP
      omega
    ·cases h
 ·cases h
theorem bJ9 (cs:List gQ) (h:cs.length<=1000):∀ m i k:Nat,i+m=cs.length->m<k->aiS.l0 k cs cs (i:Int)=some true:=by
 intro m
 induction m with
 |zero=>
  intro i k hi hk
  obtain⟨k,rfl⟩:∃ j,k=j+1:=⟨k - 1,by omega⟩
  rw[aiS.l0,if_neg (by omega)]
 |succ m ih=>
  intro i k hi hk
  obtain⟨k,rfl⟩:∃ j,k=j+1:=⟨k - 1,by omega⟩
  rw[aiS.l0,if_pos (by omega),if_pos (by omega),if_pos (by omega),if_neg (by simp),yN (by omega)]
  exact ih (i+1) k (by omega) (by omega)
theorem bKA (cs:List gQ) (h:cs.length<=1000) (k:Nat) (hk:cs.length<k):aiS.f k cs cs=some true:=by
 unfold aiS.f
 rw[if_pos rfl]
 exact bJ9 cs h cs.length 0 k (by omega) (by omega)
theorem bED (cs:List gQ) (h:cs.length<=1000):aAE.f cs=some cs:=by
 unfold aAE.f
 simp only[Option.bind_some,List.length_nil,List.nil_append]
 rw[if_pos (by omega)]
theorem bWA (xs:List (List Int)) (h:xs.length<=5000) (hx:∀ d∈xs,d.length<=5):∀ m i k:Nat,i+m=xs.length->m+20<k->ZH.l0 k xs xs (i:Int)=some true:=by
 intro m
 induction m with
 |zero=>
  intro i k hi hk
  obtain⟨k,rfl⟩:∃ j,k=j+1:=⟨k - 1,by omega⟩
  rw[ZH.l0,if_neg (by omega)]
 |succ m ih=>
  intro i k hi hk
  obtain⟨k,rfl⟩:∃ j,k=j+1:=⟨k - 1,by omega⟩
  have hl:i<xs.length:=by omega
  have h5:=hx _ (List.getElem_mem hl)
  rw[ZH.l0,if_pos (by omega),if_pos (by omega),if_pos (by omega),aOO hl,asQ _ (by omega) k (by omega),yN (by omega)]
  simp only[Option.bind_some,if_true]
  exact ih (i+1) k (by omega) (by omega)
theorem bWB (xs:List (List Int)) (h:xs.length<=5000) (hx:∀ d∈xs,d.length<=5) (k:Nat) (hk:xs.length+20<k):ZH.f k xs xs=some true:=by
 unfold ZH.f
 rw[if_pos rfl]
 exact bWA xs h hx xs.length 0 k (by omega) (by omega)
def aq5 (xs:List (List Int)) (c:Nat):Nat:=xs.countP (agM c)
theorem bWC {d:List Int} {c:Nat} (h:c<d.length):agM c d=true↔rd d (c:Int)≠0:=by
 unfold agM
 rw[YJ h,getD_at h]
 simp
theorem bWD (xs:List (List Int)) (h:xs.length<=5000) (n c:Nat) (hc:c<n) (hn:n<=5) (hx:∀ d∈xs,d.length=n) (u v:List Int) (hu:u.length<=10) (hv:v.length<=10):∀ m i k:Nat,i+m=xs.length->m<k->
  ag6.l1 k xs (n:Int) u v (c:Int) ((aq5 (xs.take i) c:Nat):Int) (i:Int)=ag6.l0 (k - 1 - m) xs (n:Int) (u++if aq5 xs c=xs.length then[(c:Int)]else[]) (v++if 0<aq5 xs c then[(c:Int)]else[]) ((c+1:Nat):Int):=by
 intro m
 induction m with
 |zero=>
  intro i k hi hk
  obtain⟨k,rfl⟩:∃ j,k=j+1:=⟨k - 1,by omega⟩
  obtain rfl:i=xs.length:=by omega
  rw[List.take_length,ag6.l1,if_neg (by omega),yN (by omega)]
  show _=ag6.l0 k _ _ _ _ _
  by_cases h1:aq5 xs c=xs.length
  ·rw[if_pos (by omega),if_pos h1,if_pos (by omega)]
   simp only[Option.bind_some]
   by_cases h2:0<aq5 xs c
   ·rw[if_pos (by omega),if_pos h2,if_pos (by omega)]
   ·rw[if_neg (by omega),if_neg h2,List.append_nil]
  ·rw[if_neg (by omega),if_neg h1,List.append_nil]
   by_cases h2:0<aq5 xs c
   ·rw[if_pos (by omega),if_pos h2,if_pos (by omega)]
   ·rw[if_neg (by omega),if_neg h2,List.append_nil]
 |succ m ih=>
  intro i k hi hk
  obtain⟨k,rfl⟩:∃ j,k=j+1:=⟨k - 1,by omega⟩
  have hl:i<xs.length:=by omega
  have hd:=hx _ (List.getElem_mem hl)
  have hn':=ih (i+1) k (by omega) (by omega)
  have hle:aq5 (xs.take i) c<=i:=Nat.le_trans List.countP_le_length (by rw[List.length_take];omega)
  have hat:=bWC (d:=xs[i]) (c:=c) (by omega)
  have hsn:aq5 (xs.take (i+1)) c=aq5 (xs.take i) c+if agM c xs[i]=true then 1 else 0:=by
   unfold aq5
   rw[List.take_succ_eq_append_getElem hl,List.countP_append,List.countP_cons,List.countP_nil,Nat.zero_add]
  rw[hsn]at hn'
  rw[ag6.l1,if_pos (by omega),if_pos (by omega),if_pos (by omega),aOO hl,if_pos (by omega),yN (by omega),show k+1 - 1 - (m+1)=k - 1 - m by omega,<-hn']
  by_cases h0:rd xs[i] (c:Int)=0
  ·rw[if_pos h0,if_neg (fun hh=>(hat.1 hh) h0)]
   rfl
  ·rw[if_neg h0,if_pos (hat.2 h0),yN (by omega)]
theorem bWE (xs:List (List Int)) (h:xs.length<=5000) (n:Nat) (hn:n<=5) (hx:∀ d∈xs,d.length=n) (hne:0<xs.length):∀ m c k:Nat,c+m=n->m*(xs.length+2)<k->
  ag6.l0 k xs (n:Int) (QR xs c) (UT xs c) (c:Int)=some (QR xs n,UT xs n):=by
 have e1:∀ c,(xs.any fun d=> !agM c d)=decide (aq5 xs c≠xs.length):=by
  intro c
  rw[Bool.eq_iff_iff,decide_eq_true_iff,List.any_eq_true]
  unfold aq5
  rw[Ne,List.countP_eq_length]
  constructor
  ·rintro⟨d,h1,h2⟩ hh
   rw[hh d h1]at h2
   cases h2
  ·intro hh
   refine Classical.byContradiction fun hno=>hh fun d hd=>?_
   cases hq:agM c d
   ·exact absurd ⟨d,hd,by rw[hq];rfl⟩ hno
   ·rfl
 have e2:∀ c,xs.any (agM c)=decide (0<aq5 xs c):=by
  intro c
  rw[Bool.eq_iff_iff,decide_eq_true_iff,List.any_eq_true]
  unfold aq5
  rw[List.countP_pos_iff]
 have s1:∀ c,QR xs (c+1)=QR xs c++if aq5 xs c=xs.length then[(c:Int)]else[]:=by
  intro c
  unfold QR
  rw[List.range_succ,List.filter_append,List.map_append]
  congr 1
  have:=e1 c
  by_cases hh:aq5 xs c=xs.length
  ·rw[if_pos hh]
   rw[decide_eq_false (by simpa using hh)]at this
   simp[this]
  ·rw[if_neg hh]
   rw[decide_eq_true hh]at this
   simp[this]
 have s2:∀ c,UT xs (c+1)=UT xs c++if 0<aq5 xs c then[(c:Int)]else[]:=by
  intro c
  unfold UT
  rw[List.range_succ,List.filter_append,List.map_append]
  congr 1
  have:=e2 c
  by_cases hh:0<aq5 xs c
  ·rw[if_pos hh]
   rw[decide_eq_true hh]at this
   simp[this]
  ·rw[if_neg hh]
   rw[decide_eq_false hh]at this
   simp[this]
 have b1:∀ c,(QR xs c).length<=c:=by
  intro c
  unfold QR
  rw[List.length_map]
  exact Nat.le_trans (List.length_filter_le _ _) (by simp)
 have b2:∀ c,(UT xs c).length<=c:=by
  intro c
  unfold UT
  rw[List.length_map]
  exact Nat.le_trans (List.length_filter_le _ _) (by simp)
 intro m
 induction m with
 |zero=>
  intro c k hc hk
  obtain⟨k,rfl⟩:∃ j,k=j+1:=⟨k - 1,by omega⟩
  obtain rfl:c=n:=by omega
  rw[ag6.l0,if_neg (by omega)]
 |succ m ih=>
  intro c k hc hk
  obtain⟨k,rfl⟩:∃ j,k=j+1:=⟨k - 1,by omega⟩
  rw[Nat.add_mul,Nat.one_mul]at hk
  have c1:=b1 c
  have c2:=b2 c
  have hl:=bWD xs h n c (by omega) hn hx (QR xs c) (UT xs c) (by omega) (by omega) xs.length 0 k (by omega) (by omega)
  have hnx:=ih (c+1) (k - 1 - xs.length) (by omega) (by omega)
  rw[s1,s2]at hnx
  rw[ag6.l0,if_pos (by omega)]
  exact hl.trans hnx
theorem bWF (xs:List (List Int)) (h:xs.length<=5000) (n:Nat) (hn:n<=5) (hx:∀ d∈xs,d.length=n) (hne:0<xs.length) (k:Nat) (hk:30000<=k):ag6.f k xs (n:Int)=some (QR xs n,UT xs n):=by
 have hb:n*(xs.length+2)<=5*(xs.length+2):=Nat.mul_le_mul_right _ hn
 exact bWE xs h n hn hx hne n 0 k (by omega) (by omega)
end Go.Proofs.YtcmfnebcmmklkaaDoor.Hand
namespace Go.Proofs.YtcmfnebcmmklkaaDoor.Hand
open Go.RowKit Go.Shelf Go.Maps Go.Proofs.YtcmfnebcmmklkaaDoorW.dQ Go.Proofs.YtcmfnebcmmklkaaDoorW.gG Go.Proofs.YtcmfnebcmmklkaaDoor.Q
theorem bWG:∀ (ys L:List Lit),(∀ y∈ys,WideAt.IsKeyLit y)->(ys.foldl addKey L).length<=L.length+ys.length/\((ys.foldl addKey L).length=L.length+ys.length↔ys.Pairwise (·≠·)/\∀ y∈ys,y ∉ L):=by
 intro ys
 induction ys with
 |nil=>intro L _;simp
 |cons y ys ih=>
  intro L hk
  have hy:=hk y List.mem_cons_self
  have hany:(L.any fun z=>z.sameKey y)=true↔y∈L:=by
   rw[List.any_eq_true]
   constructor
   ·rintro⟨z,h1,h2⟩
    rw[<-(WideAt.sameKey_iff hy).1 h2]
    exact h1
   ·intro h
    exact⟨y,h,WideAt.sameKey_self hy⟩
  rw[List.foldl_cons]
  by_cases hL:y∈L
  ·have e:addKey L y=L:=by unfold addKey;rw[if_pos (hany.2 hL)]
   obtain⟨h1,h2⟩:=ih L (fun z hz=>hk z (List.mem_cons_of_mem _ hz))
   rw[e,List.length_cons]
   refine⟨by omega,⟨fun h=>by omega,fun h=>absurd hL (h.2 y List.mem_cons_self)⟩⟩
  ·have e:addKey L y=L++[y]:=by unfold addKey;rw[if_neg (fun h=>hL (hany.1 h))]
   obtain⟨h1,h2⟩:=ih (L++[y]) (fun z hz=>hk z (List.mem_cons_of_mem _ hz))
   rw[e]
   rw[List.length_append,List.length_singleton]at h1 h2
   rw[List.length_cons]
   refine⟨by omega,?_⟩
   rw[show L.length+(ys.length+1)=L.length+1+ys.length by omega,h2,List.pairwise_cons]
   constructor
   ·rintro⟨a,b⟩
    refine⟨⟨fun z hz he=>b z hz (by rw[<-he];simp),a⟩,fun z hz=>?_⟩
    rcases List.mem_cons.1 hz with rfl|hz
    ·exact hL
    ·exact fun h=>b z hz (List.mem_append_left _ h)
   ·rintro⟨⟨a,b⟩,c⟩
    refine⟨b,fun z hz h=>?_⟩
    rcases List.mem_append.1 h with h|h
    ·exact c z (List.mem_cons_of_mem _ hz) h
    ·exact a z hz (List.mem_singleton.1 h).symm
theorem bWH {a b:List Int} (ha:a.length=5) (hb:b.length=5) (ka:∀ x∈a,Sm x) (kb:∀ x∈b,Sm x) (h:aoH a=aoH b):a=b:=by
 obtain⟨a0,a1,a2,a3,a4,rfl⟩:=five ha
 obtain⟨b0,b1,b2,b3,b4,rfl⟩:=five hb
 unfold aoH at h
 have h2:=keyBytes_inj (l:=[Lit.int .i64 a0,Lit.int .i64 a1,Lit.int .i64 a2,Lit.int .i64 a3,Lit.int .i64 a4]) (l':=[Lit.int .i64 b0,Lit.int .i64 b1,Lit.int .i64 b2,Lit.int .i64 b3,Lit.int .i64 b4])
  ⟨rfl,rfl,rfl,rfl,rfl,trivial⟩
  (by
   intro x hx
   simp only[List.mem_cons,List.not_mem_nil,or_false]at hx
   rcases hx with rfl|rfl|rfl|rfl|rfl<;>exact(ka _ (by simp)).wf)
  (by
   intro x hx
   simp only[List.mem_cons,List.not_mem_nil,or_false]at hx
   rcases hx with rfl|rfl|rfl|rfl|rfl<;>exact(kb _ (by simp)).wf)
  (Lit.string.inj h)
 simp only[List.cons.injEq,Lit.int.injEq,true_and,and_true]at h2
 obtain⟨e0,e1,e2,e3,e4⟩:=h2
 rw[e0,e1,e2,e3,e4]
theorem bOA (d:List Int):∀ (cs:List Int) (v:List Int),v.length=5->(∀ c∈cs,0<=c)->∀ j:Nat,j<5->(cs.foldl (fun v c=>v.set c.toNat (d.getD c.toNat 0)) v).getD j 0=if(j:Int)∈cs then d.getD j 0 else v.getD j 0:=by
 intro cs
 induction cs with
 |nil=>intro v _ _ j _;simp
 |cons c cs ih=>
  intro v hv hc j hj
  have h0:=hc c List.mem_cons_self
  rw[List.foldl_cons,ih _ (by rw[List.length_set];exact hv) (fun x hx=>hc x (List.mem_cons_of_mem _ hx)) j hj]
  by_cases h1:(j:Int)∈cs
  ·rw[if_pos h1,if_pos (List.mem_cons_of_mem _ h1)]
  ·rw[if_neg h1]
   by_cases h2:(j:Int)=c
   ·subst h2
    rw[if_pos List.mem_cons_self,Int.toNat_natCast]
    simp[List.getD_eq_getElem?_getD,List.getElem?_set,hv,hj]
   ·rw[if_neg (fun hh=>(List.mem_cons.1 hh).elim h2 h1)]
    have:c.toNat≠j:=by omega
    simp[List.getD_eq_getElem?_getD,List.getElem?_set,this]
theorem bWI {d e cs:List Int} (hc:∀ c∈cs,0<=c/\c<5):QO d cs=QO e cs↔∀ c∈cs,d.getD c.toNat 0=e.getD c.toNat 0:=by
 have hd:=bOA d cs [0,0,0,0,0] rfl (fun c h=>(hc c h).1)
 have he:=bOA e cs [0,0,0,0,0] rfl (fun c h=>(hc c h).1)
 constructor
 ·intro h c hcs
  have h0:=hc c hcs
  have h1:=hd c.toNat (by omega)
  have h2:=he c.toNat (by omega)
  rw[if_pos (by rw[Int.toNat_of_nonneg h0.1];exact hcs)]at h1 h2
  rw[<-h1,<-h2]
  exact congrArg (fun l=>l.getD c.toNat 0) h
 ·intro h
  have l1:=aOI d cs
  have l2:=aOI e cs
  refine List.ext_getElem (by rw[l1,l2]) fun j h1 h2=>?_
  have a1:=hd j (by omega)
  have a2:=he j (by omega)
  have b1:(QO d cs).getD j 0=(QO d cs)[j]:=by simp[List.getD_eq_getElem?_getD,h1]
  have b2:(QO e cs).getD j 0=(QO e cs)[j]:=by simp[List.getD_eq_getElem?_getD,h2]
  rw[<-b1,<-b2]
  refine a1.trans (Eq.trans ?_ a2.symm)
  by_cases hj:(j:Int)∈cs
  ·rw[if_pos hj,if_pos hj]
   have:=h _ hj
   rwa [Int.toNat_natCast]at this
  ·rw[if_neg hj,if_neg hj]
def a3I (xs:List (List Int)) (l:List Int) (i k:Nat):Bool:=l.all fun c=>rd (AP xs i) c==rd (AP xs k) c
def tlB (xs:List (List Int)) (l:List Int):Bool:=(List.range' 0 xs.length).all fun i=>(List.range' 0 i).all fun k=> !a3I xs l i k
theorem bWJ (xs:List (List Int)) (hxl:xs.length<=3125) (n:Nat) (hx:∀ d∈xs,d.length=n) (l:List Int) (hl8:l.length<=8) (hl:∀ c∈l,0<=c/\c<n) (i kk:Nat) (hi:i<xs.length) (hk:kk<i):∀ m j k:Nat,j+m=l.length->m<k->
  aeT.l2 k xs l (i:Int) (kk:Int) ((l.take j).all fun c=>rd (AP xs i) c==rd (AP xs kk) c) (j:Int)=if a3I xs l i kk=true then some false else aeT.l1 (k - 1 - m) xs l (i:Int) ((kk+1:Nat):Int):=by
 intro m
 induction m with
 |zero=>
  intro j k hj hkk
  obtain⟨k,rfl⟩:∃ q,k=q+1:=⟨k - 1,by omega⟩
  obtain rfl:j=l.length:=by omega
  rw[List.take_length,aeT.l2,if_neg (by omega),yN (by omega)]
  rfl
 |succ m ih=>
  intro j k hj hkk
  obtain⟨k,rfl⟩:∃ q,k=q+1:=⟨k - 1,by omega⟩
  have hjl:j<l.length:=by omega
  have hc:=hl _ (List.getElem_mem hjl)
  have hn:=ih (j+1) k (by omega) (by omega)
  have d1:=hx _ (List.getElem_mem hi)
  have d2:=hx _ (List.getElem_mem (show kk<xs.length by omega))
  rw[List.take_succ_eq_append_getElem hjl,List.all_append,List.all_cons,List.all_nil,Bool.and_true]at hn
  rw[aeT.l2,if_pos (by omega),yN (by omega),show k+1 - 1 - (m+1)=k - 1 - m by omega,<-hn]
  by_cases hs:((l.take j).all fun c=>rd (AP xs i) c==rd (AP xs kk) c)=true
  ·rw[if_pos hs,if_pos (by omega),if_pos (by omega),if_pos (by omega),YJ hjl,if_pos hc.1,if_pos (by rw[aOO hi,d1];exact hc.2),if_pos (by omega),if_pos (by omega),if_pos (by rw[aOO (show kk<xs.length by omega),d2];exact hc.2),hs,Bool.true_and]
  ·rw[if_neg hs,Bool.eq_false_iff.2 hs,Bool.false_and]
theorem bWK (xs:List (List Int)) (hxl:xs.length<=3125) (n:Nat) (hx:∀ d∈xs,d.length=n) (l:List Int) (hl8:l.length<=8) (hl:∀ c∈l,0<=c/\c<n) (i:Nat) (hi:i<xs.length):∀ m kk k:Nat,kk+m=i->10*m+10<k->
  ∃ q,k<=q+10*m+10/\aeT.l1 k xs l (i:Int) (kk:Int)=if((List.range' kk m).all fun k=> !a3I xs l i k)=true then aeT.l0 q xs l ((i+1:Nat):Int)else some false:=by
 intro m
 induction m with
 |zero=>
  intro kk k hk hkk
  obtain⟨k,rfl⟩:∃ q,k=q+1:=⟨k - 1,by omega⟩
  refine⟨k,by omega,?_⟩
  rw[aeT.l1,if_neg (by omega),yN (by omega)]
  rfl
 |succ m ih=>
  intro kk k hk hkk
  obtain⟨k,rfl⟩:∃ q,k=q+1:=⟨k - 1,by omega⟩
  obtain⟨q,hq,hn⟩:=ih (kk+1) (k - 1 - l.length) (by omega) (by omega)
  have h2:=bWJ xs hxl n hx l hl8 hl i kk hi (by omega) l.length 0 k (by omega) (by omega)
  refine⟨q,by omega,?_⟩
  rw[aeT.l1,if_pos (by omega)]
  refine h2.trans ?_
  rw[List.range'_succ,List.all_cons]
  by_cases hs:a3I xs l i kk=true
  ·rw[if_pos hs,hs,Bool.not_true,Bool.false_and,if_neg Bool.false_ne_true]
  ·rw[if_neg hs,Bool.eq_false_iff.2 hs,Bool.not_false,Bool.true_and]
   exact hn
theorem bWL (xs:List (List Int)) (hxl:xs.length<=3125) (n:Nat) (hx:∀ d∈xs,d.length=n) (l:List Int) (hl8:l.length<=8) (hl:∀ c∈l,0<=c/\c<n):∀ m i k:Nat,i+m=xs.length->40000*m+10<k->
  aeT.l0 k xs l (i:Int)=some ((List.range' i m).all fun i=>(List.range' 0 i).all fun k=> !a3I xs l i k):=by
 intro m
 induction m with
 |zero=>
  intro i k hi hk
  obtain⟨k,rfl⟩:∃ q,k=q+1:=⟨k - 1,by omega⟩
  rw[aeT.l0,if_neg (by omega)]
  rfl
 |succ m ih=>
  intro i k hi hk
  obtain⟨k,rfl⟩:∃ q,k=q+1:=⟨k - 1,by omega⟩
  obtain⟨q,hq,h1⟩:=bWK xs hxl n hx l hl8 hl i (by omega) i 0 k (by omega) (by omega)
  have hn:=ih (i+1) q (by omega) (by omega)
  rw[aeT.l0,if_pos (by omega)]
  refine h1.trans ?_
  rw[List.range'_succ,List.all_cons]
  by_cases hs:((List.range' 0 i).all fun k=> !a3I xs l i k)=true
  ·rw[if_pos hs,hs,Bool.true_and]
   exact hn
  ·rw[if_neg hs,Bool.eq_false_iff.2 hs,Bool.false_and]
theorem bWM (xs:List (List Int)) (hxl:xs.length<=3125) (n:Nat) (hx:∀ d∈xs,d.length=n) (l:List Int) (hl8:l.length<=8) (hl:∀ c∈l,0<=c/\c<n) (k:Nat) (hk:130000000<=k):aeT.f k xs l=some (tlB xs l):=
 bWL xs hxl n hx l hl8 hl xs.length 0 k (by omega) (by omega)
theorem bWN (xs:List (List Int)) (hxl:xs.length<=3125) (n:Nat) (hx:∀ d∈xs,d.length=n) (l:List Int) (hl8:l.length<=8) (hl:∀ c∈l,0<=c/\c<n) (hn:n<=5) (s:Nat) (hls:l=iQ s) (hsm:∀ d∈xs,Sm2 d):ayM xs s=tlB xs l:=by
 have hsd:∀ d∈xs,∀ i,Sm (d.getD i 0):=by
  intro d hd i
  by_cases hi:i<d.length
  ·rw[getD_at hi]
   exact hsm d hd _ (List.getElem_mem hi)
  ·rw[List.getD_eq_getElem?_getD,List.getElem?_eq_none (by omega)]
   exact⟨by decide,by decide⟩
 have hk:∀ y∈aOJ xs l xs.length,WideAt.IsKeyLit y:=by
  intro y hy
  unfold aOJ at hy
  obtain⟨d,_,rfl⟩:=List.mem_map.1 hy
  exact trivial
 have hlen:(aOJ xs l xs.length).length=xs.length:=by unfold aOJ;rw[List.length_map,List.take_length]
 have h1:=(bWG (aOJ xs l xs.length) [] hk).2
 have hcs:∀ c∈l,0<=c/\c<5:=fun c hc=>by
  have:=hl c hc
  omega
 unfold ayM
 rw[<-hls]
 unfold Sv
 rw[size_setOf _ _ hk,Bool.eq_iff_iff,decide_eq_true_iff,Int.ofNat_inj]
 rw[List.length_nil,Nat.zero_add,hlen]at h1
 rw[h1]
 unfold tlB
 simp only[List.all_eq_true,List.mem_range'_1,Nat.zero_le,true_and,Nat.zero_add,Bool.not_eq_true']
 unfold aOJ
 rw[List.take_length,List.pairwise_map,List.pairwise_iff_getElem]
 have key:∀ (i k:Nat) (hi:i<xs.length) (hkx:k<xs.length),a3I xs l i k=true↔aoH (QO xs[k] l)=aoH (QO xs[i] l):=by
  intro i k hi hkx
  have d1:=hx _ (List.getElem_mem hi)
  have d2:=hx _ (List.getElem_mem hkx)
  have hv:aoH (QO xs[k] l)=aoH (QO xs[i] l)↔QO xs[k] l=QO xs[i] l:=
   ⟨fun h=>bWH (aOI _ _) (aOI _ _) (bn5 _ (hsd _ (List.getElem_mem hkx)) _) (bn5 _ (hsd _ (List.getElem_mem hi)) _) h,fun h=>by rw[h]⟩
  rw[hv,bWI hcs]
  unfold a3I
  rw[List.all_eq_true]
  have hr:∀ c∈l,(rd (AP xs i) c==rd (AP xs k) c)=true↔xs[k].getD c.toNat 0=xs[i].getD c.toNat 0:=by
   intro c hc
   have h0:=hl c hc
   rw[beq_iff_eq,aOO hi,aOO hkx]
   unfold rd
   exact⟨fun h=>h.symm,fun h=>h.symm⟩
  exact⟨fun h c hc=>(hr c hc).1 (h c hc),fun h c hc=>(hr c hc).2 (h c hc)⟩
 constructor
 ·rintro⟨h,_⟩ i hi k hkx
  have:=h k i (by omega) hi hkx
  rw[Bool.eq_false_iff]
  exact fun hh=>this ((key i k hi (by omega)).1 hh)
 ·intro h
  refine⟨fun i j hi hj hij he=>?_,fun y _ hy=>by cases hy⟩
  have:=h j hj i hij
  rw[(key j i hj hi).2 he]at this
  cases this
theorem bWO:∀ n:Nat,n<=8->0<=IntKind.u64.wrap (n:Int)/\shl .i64 1 (IntKind.u64.wrap (n:Int))=((2^n:Nat):Int):=by decide+kernel
theorem bWP (xs:List (List Int)) (hxl:xs.length<=3125) (n:Nat) (hn:n<=5) (hx:∀ d∈xs,d.length=n) (hsm:∀ d∈xs,Sm2 d):∀ m s k:Nat,s+m=2^n->m+130000000<k->
  aeF.l0 k xs (n:Int) ((pR (ayM xs) iQ s).getD []) (pR (ayM xs) iQ s).isSome (s:Int)=some ((pR (ayM xs) iQ (2^n)).getD []):=by
 have hp:2^n<=2^5:=Nat.pow_le_pow_right (by decide) hn
 obtain⟨z1,z2⟩:=bWO n (by omega)
 intro m
 induction m with
 |zero=>
  intro s k hs hk
  obtain⟨k,rfl⟩:∃ j,k=j+1:=⟨k - 1,by omega⟩
  obtain rfl:s=2^n:=by omega
  rw[aeF.l0,if_pos z1,z2,if_neg (by omega)]
 |succ m ih=>
  intro s k hs hk
  obtain⟨k,rfl⟩:∃ j,k=j+1:=⟨k - 1,by omega⟩
  have hs2:s<2^n:=by omega
  have hnx:=ih (s+1) k (by omega) (by omega)
  have hnum:=aQQ (show n<=8 by omega) hs2 k (by omega)
  have hil:∀ c∈iQ s,0<=c/\c<(n:Int):=fun c hc=>a0P hn hs2 hc
  have ht:=bWM xs hxl n hx (iQ s) (aBH s) hil k (by omega)
  rw[<-bWN xs hxl n hx (iQ s) (aBH s) hil hn s rfl hsm]at ht
  obtain⟨f1,f2⟩:=a4U (ayM xs) s
  have hfew:=bqN (iQ s) ((pR (ayM xs) iQ s).getD []) (aBH s) f1 (aBG s) f2 k (by omega)
  rw[aeF.l0,if_pos z1,z2,if_pos (by omega),hnum,yN (by omega)]
  simp only[Option.bind_some]
  rw[hfew,ht]
  simp only[Option.bind_some]
  rw[pR]at hnx
  cases hf:pR (ayM xs) iQ s with
  |none=>
   rw[hf]at hnx
   simp only[Option.isSome_none,Bool.false_eq_true,if_false]at hnx ⊢
   by_cases hi:ayM xs s=true
   ·rw[if_pos hi]at hnx ⊢
    exact hnx
   ·rw[if_neg hi]at hnx ⊢
    exact hnx
  |some b=>
   rw[hf]at hnx
   simp only[Option.isSome_some,if_true,Option.getD_some]at hnx ⊢
   by_cases hb:ab6 (iQ s) b=true
   ·rw[if_pos hb]
    by_cases hi:ayM xs s=true
    ·rw[if_pos ⟨hb,hi⟩]at hnx
     rw[if_pos hi]
     exact hnx
    ·rw[if_neg (fun hh=>hi hh.2)]at hnx
     rw[if_neg hi]
     exact hnx
   ·rw[if_neg (fun hh=>hb hh.1)]at hnx
    rw[if_neg hb]
    exact hnx
theorem bWQ (xs:List (List Int)) (hxl:xs.length<=3125) (n:Nat) (hn:n<=5) (hx:∀ d∈xs,d.length=n) (hsm:∀ d∈xs,Sm2 d) (k:Nat) (hk:140000000<=k):aeF.f k xs (n:Int)=some ((pR (ayM xs) iQ (2^n)).getD []):=by
 have hp:2^n<=2^5:=Nat.pow_le_pow_right (by decide) hn
 exact bWP xs hxl n hn hx hsm (2^n) 0 k (Nat.zero_add _) (by omega)
end Go.Proofs.YtcmfnebcmmklkaaDoor.Hand
namespace Go.Proofs.YtcmfnebcmmklkaaDoor.Q
open Go.RowKit Go.Proofs.YtcmfnebcmmklkaaDoorW.dQ Go.Proofs.YtcmfnebcmmklkaaDoorW.oU Go.Proofs.YtcmfnebcmmklkaaDoorW.gG
attribute [local go_sem] uA uB uC uD uM uN uO uP
def bZV.j0:Nat->List (gQ)->List (List Int)->Int->List Int->List Int->Int->List Int->Int->Int->List (List Int)->Option (Bool)
 |0,_,_,_,_,_,_,_,_,_,_=>none
 |k+1,x1,x8,x9,x10,x11,x12,GG,x14,x15,x16=>if x15=0 then((ag6.f k x16 (x1.length:Int)).bind fun bOB=>(if x9=0 then((ZH.f k x8 x16).bind fun YO=>(if YO=true then(if x12=0 then((oD.f k x10 bOB.1).bind fun zG=>(if zG=true then((oD.f k x11 bOB.2).bind fun aAM=>(if aAM=true then(if x14=0 then((aeF.f k x16 (x1.length:Int)).bind fun aoY=>((oD.f k GG aoY).bind fun yO=>(if yO=true then((oN.f).bind fun _=>(some true))else(some false))))else(some false))else(some false)))else(some false)))else(some false))else(some false)))else(some false)))else(if x9=x15 then(if x12=x15 then(if x14=x15 then(if(wrap64 ((wrap64 ((wrap64 ((x8.length:Int)+(x10.length:Int)))+(x11.length:Int)))+(GG.length:Int)))=0 then((oN.f).bind fun _=>(some true))else(some false))else(some false))else(some false))else(some false))
def bZV.f (k:Nat) (bV:Int) (bU:Int) (iL:Int) (iO:Int) (kV:Int) (lW:Int) (rW:Int) (l1:List (gQ)) (a2:Int):Option (Bool):=if(l1.length:Int)>12 then((oN.f).bind fun _=>(some true))else((aAE.f l1).bind fun GH=>((asC.f bV bU iL iO kV lW rW GH a2).bind fun apE=>((aGQ.f bV bU iL iO kV lW rW GH a2).bind fun aiR=>((aGO.f bV bU iL iO kV lW rW GH a2).bind fun ajL=>((aiS.f k GH l1).bind fun aAN=>(if aAN=true then((aaU.f k bV bU iL iO kV lW rW l1 a2).bind fun afN=>(if afN=0 then(if 0<=(IntKind.u64.wrap ((l1.length:Int)))then((abB.f k bV bU iL iO kV lW rW l1 a2 (wrap64 ((shl .i64 1 (IntKind.u64.wrap ((l1.length:Int)))) - 1))).bind fun afW=>(if(afW.1.length:Int)=0 then(bZV.j0 k l1 apE.1 apE.2 aiR.1 aiR.2.1 aiR.2.2 ajL.1 ajL.2 9 afW.1)else(bZV.j0 k l1 apE.1 apE.2 aiR.1 aiR.2.1 aiR.2.2 ajL.1 ajL.2 afN afW.1)))else(none))else(bZV.j0 k l1 apE.1 apE.2 aiR.1 aiR.2.1 aiR.2.2 ajL.1 ajL.2 afN (([]:List (List Int))))))else(some false)))))))
end Go.Proofs.YtcmfnebcmmklkaaDoor.Q
namespace Go.Proofs.YtcmfnebcmmklkaaDoor.Hand
open Go.RowKit Go.Shelf Go.Proofs.YtcmfnebcmmklkaaDoorW.dQ Go.Proofs.YtcmfnebcmmklkaaDoorW.gG Go.Proofs.YtcmfnebcmmklkaaDoor.Q
theorem bOC (cs:List gQ) (c:Int) (hc:c≠0) (xs:List (List Int)) (k:Nat):bZV.j0 (k+1) cs [] c [] [] c [] c c xs=some true:=by
 rw[bZV.j0]
 rw[if_neg hc,if_pos rfl,if_pos rfl,if_pos rfl,if_pos (by decide+kernel)]
 rfl
theorem bWR:∀ n:Nat,n<=8->0<=IntKind.u64.wrap (n:Int)/\wrap64 ((shl .i64 1 (IntKind.u64.wrap (n:Int))) - 1)=((2^n - 1:Nat):Int):=by decide+kernel
theorem bWS (a b c d e f g:Int) (cs:List gQ) (most:Int) (k:Nat) (hk:200000000<=k):bZV.f k a b c d e f g cs most=some true:=by
 unfold bZV.f
 by_cases hbig:(cs.length:Int)>12
 ·rw[if_pos hbig]
  rfl
 ·rw[if_neg hbig,bED cs (by omega)]
  obtain⟨k,rfl⟩:∃ j,k=j+1:=⟨k - 1,by omega⟩
  simp only[Option.bind_some]
  unfold asC.f aGQ.f aGO.f
  simp only[Option.bind_some]
  rw[bKA cs (by omega) (k+1) (by omega)]
  simp only[Option.bind_some,if_true]
  rw[bJ7 a b c d e f g cs most (k+1) (by omega)]
  simp only[Option.bind_some]
  obtain⟨R,hR⟩:∃ R,IE a b c d e f g=R:=⟨_,rfl⟩
  rw[hR]
  by_cases h0:BX R cs most=0
  ·obtain⟨hn,h5,hcs,hm⟩:=bJ8 h0
   obtain⟨z1,z2⟩:=bWR cs.length (by omega)
   have htr:=bD9 hn hm h5.2 hcs (2^cs.length - 1) (asX (by omega)) (k+1) (by omega)
   rw[bEA (s:=0) ao9,<-hR]at htr
   rw[if_pos h0,if_pos z1,z2]
   rw[show abB.f (k+1) a b c d e f g cs most _=_ from htr]
   simp only[Option.bind_some]
   rw[hR]
   have hcr:∀ x∈cs,aaP x:=fun x hx=>(hcs x hx).1
   obtain⟨l1,l2⟩:=bBF hm h5.2 hcr
   have hsl:wL R cs most=PM R cs most 0:=by unfold wL;rw[if_pos h0]
   have m1:(PM R cs most 0).length<=3125:=by
    unfold PM
    exact Nat.le_trans (List.length_filter_le _ _) l1
   have m2:∀ d∈PM R cs most 0,d.length=cs.length/\Sm2 d:=fun d hd=>l2 d (List.mem_filter.1 hd).1
   by_cases hnil:PM R cs most 0=[]
   ·have hE:xZ R cs most=9:=by unfold xZ;rw[if_pos h0,if_pos hnil]
    have hS:aGE R cs most=[]:=by unfold aGE;rw[hE,if_neg (by decide)]
    have hP:aGF R cs most=[]:=by unfold aGF;rw[hE,if_neg (by decide)]
    have hO:ayO R cs most=[]:=by unfold ayO;rw[hE,if_neg (by decide)]
    rw[if_pos (by rw[hnil];rfl),hsl,hnil,hE,hS,hP,hO]
    exact bOC cs 9 (by decide) _ k
   ·have hE:xZ R cs most=0:=by unfold xZ;rw[if_pos h0,if_neg hnil]
    have hS:aGE R cs most=QR (PM R cs most 0) cs.length:=by unfold aGE;rw[if_pos hE,hsl]
    have hP:aGF R cs most=UT (PM R cs most 0) cs.length:=by unfold aGF;rw[if_pos hE,hsl]
    have hO:ayO R cs most=(pR (ayM (PM R cs most 0)) iQ (2^cs.length)).getD []:=by unfold ayO;rw[if_pos hE,hsl]
    have hpos:0<(PM R cs most 0).length:=List.length_pos_iff.2 hnil
    have q1:(QR (PM R cs most 0) cs.length).length<=cs.length:=by
     unfold QR
     rw[List.length_map]
     exact Nat.le_trans (List.length_filter_le _ _) (by simp)
    have q2:(UT (PM R cs most 0) cs.length).length<=cs.length:=by
     unfold UT
     rw[List.length_map]
     exact Nat.le_trans (List.length_filter_le _ _) (by simp)
    have q3:=(a4U (ayM (PM R cs most 0)) (2^cs.length)).1
    rw[if_neg (by omega),hsl,hE,hS,hP,hO,h0]
    rw[bZV.j0]
    rw[if_pos rfl,bWF (PM R cs most 0) (by omega) cs.length h5.2 (fun d hd=>(m2 d hd).1) hpos k (by omega)]
    simp only[Option.bind_some,if_true]
    rw[bWB (PM R cs most 0) (by omega) (fun d hd=>by rw[(m2 d hd).1];exact h5.2) k (by omega)]
    simp only[Option.bind_some,if_true]
    rw[asQ _ (by omega) k (by omega),asQ _ (by omega) k (by omega)]
    simp only[Option.bind_some,if_true]
    rw[bWQ (PM R cs most 0) m1 cs.length h5.2 (fun d hd=>(m2 d hd).1) (fun d hd=>(m2 d hd).2) k (by omega)]
    simp only[Option.bind_some]
    rw[asQ _ (by omega) k (by omega)]
    rfl
  ·have hE:xZ R cs most=BX R cs most:=by unfold xZ;rw[if_neg h0]
   have hL:wL R cs most=[]:=by unfold wL;rw[if_neg h0]
   have hS:aGE R cs most=[]:=by unfold aGE;rw[hE,if_neg h0]
   have hP:aGF R cs most=[]:=by unfold aGF;rw[hE,if_neg h0]
   have hO:ayO R cs most=[]:=by unfold ayO;rw[hE,if_neg h0]
   rw[if_neg h0,hL,hE,hS,hP,hO]
   exact bOC cs _ h0 _ k
end Go.Proofs.YtcmfnebcmmklkaaDoor.Hand

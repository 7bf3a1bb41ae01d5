/- DozenLots: the law returns true for every input; each argument reads behind the call as it read before (for worlds in which the two tables of the library hold what its initialisers lay). Part 5 of 5. -/
import Derived.Test.YtcmfnebcmmklkaaDoorLc3
import Derived.Test.YtcmfnebcmmklkaaDoorLc4
import Derived.Test.YtcmfnebcmmklkaaDoorCards
import Derived.Test.YtcmfnebcmmklkaaDoorTie
import Derived.Test.YtcmfnebcmmklkaaDoorLc1
set_option linter.unusedVariables false
set_option linter.unusedSimpArgs false
set_option maxRecDepth 100000
set_option maxHeartbeats 8000000
namespace Go.Proofs.YtcmfnebcmmklkaaDoor.Hand
open Go.RowKit Go.Shelf Go.Proofs.YtcmfnebcmmklkaaDoorW.dQ Go.Proofs.YtcmfnebcmmklkaaDoorW.gG Go.Proofs.YtcmfnebcmmklkaaDoor.Q
theorem yN {n:Nat} (h:n<=10000):wrap64 ((n:Int)+1)=((n+1:Nat):Int):=by rw[jF (by omega) (by omega)];simp
theorem PQ (a b c:Int):qX.f a b c=some (decide (b<=a/\a<=c)):=by
 unfold qX.f
 split
 ·rename_i h
  congr 1
  rw[Bool.eq_iff_iff,decide_eq_true_iff,decide_eq_true_iff]
  omega
 ·rename_i h
  rw[decide_eq_false (by omega)]
theorem aAZ (a b c:Int):IA.f a b c=some (decide (0<=a/\a<=b/\b<=c)):=by
 unfold IA.f
 rw[PQ]
 simp only[Option.bind_some,decide_eq_true_iff]
 split
 ·rename_i h
  congr 1
  rw[Bool.eq_iff_iff,decide_eq_true_iff,decide_eq_true_iff]
  omega
 ·rename_i h
  rw[decide_eq_false (by omega)]
theorem aA0 (x:aZ):MP x=true↔(0<=x.f0/\x.f0<=144)/\0<=x.f1/\x.f1<=144:=by
 simp[MP,allIn,xR]
 try omega
theorem aA1 (n:Nat) (x:aI):DY n x=true↔(0<=x.f0/\x.f0<=(n:Int) - 1)/\(0<=x.f1.f0/\x.f1.f0<=x.f1.f1/\x.f1.f1<=144)/\0<=x.f2.f0/\x.f2.f0<=x.f2.f1/\x.f2.f1<=144:=by
 simp[DY,UE,allIn,xR]
 try omega
theorem aA2 {l:List aZ} {i:Nat} (h:i<l.length):dK l i=l[i]:=by
 unfold dK
 simp[List.getD_eq_getElem?_getD,h]
theorem aA3 {l:List aI} {i:Nat} (h:i<l.length):aU l i=l[i]:=by
 unfold aU
 simp[List.getD_eq_getElem?_getD,h]
theorem aA4 (os:List aZ) (ls:List aI) (h5:os.length<=5) (h8:ls.length<=8):∀ m i k:Nat,i+m=ls.length->m<k->
  jH.l1 k (i:Int) os ls=some (if(ls.drop i).all (fun x=>DY os.length x)=true then 0 else 2):=by
 intro m
 induction m with
 |zero=>
  intro i k hi hk
  obtain⟨k,rfl⟩:∃ j,k=j+1:=⟨k - 1,by omega⟩
  unfold jH.l1
  rw[if_neg (by omega),List.drop_eq_nil_of_le (by omega)]
  rfl
 |succ m ih=>
  intro i k hi hk
  obtain⟨k,rfl⟩:∃ j,k=j+1:=⟨k - 1,by omega⟩
  have hl:i<ls.length:=by omega
  have hn:=ih (i+1) k (by omega) (by omega)
  have hb:=aA1 os.length ls[i]
  have hw:wrap64 ((os.length:Int) - 1)=os.length - 1:=jF (by omega) (by omega)
  unfold jH.l1
  rw[if_pos (by omega),if_pos (by omega),List.drop_eq_getElem_cons hl,List.all_cons,aA3 hl,hw,PQ,yN (by omega),hn]
  simp only[Option.bind_some,decide_eq_true_iff,aAZ]
  by_cases h1:0<=ls[i].f0/\ls[i].f0<=(os.length:Int) - 1
  ·rw[if_pos h1]
   by_cases h2:0<=ls[i].f1.f0/\ls[i].f1.f0<=ls[i].f1.f1/\ls[i].f1.f1<=144
   ·rw[if_pos h2]
    by_cases h3:0<=ls[i].f2.f0/\ls[i].f2.f0<=ls[i].f2.f1/\ls[i].f2.f1<=144
    ·rw[if_pos h3,hb.2 ⟨h1,h2,h3⟩,Bool.true_and]
    ·rw[if_neg h3,Bool.eq_false_iff.2 (fun hh=>h3 (hb.1 hh).2.2),Bool.false_and,if_neg Bool.false_ne_true]
   ·rw[if_neg h2,Bool.eq_false_iff.2 (fun hh=>h2 (hb.1 hh).2.1),Bool.false_and,if_neg Bool.false_ne_true]
  ·rw[if_neg h1,Bool.eq_false_iff.2 (fun hh=>h1 (hb.1 hh).1),Bool.false_and,if_neg Bool.false_ne_true]
theorem aA5 (os:List aZ) (ls:List aI) (h5:os.length<=5) (h8:ls.length<=8):∀ m i k:Nat,i+m=os.length->m+9<k->
  jH.l0 k (i:Int) os ls=some (if((os.drop i).all (fun x=>MP x)&&ls.all (fun x=>DY os.length x))=true then 0 else 2):=by
 intro m
 induction m with
 |zero=>
  intro i k hi hk
  obtain⟨k,rfl⟩:∃ j,k=j+1:=⟨k - 1,by omega⟩
  unfold jH.l0
  rw[if_neg (by omega),List.drop_eq_nil_of_le (by omega)]
  exact aA4 os ls h5 h8 ls.length 0 k (by omega) (by omega)
 |succ m ih=>
  intro i k hi hk
  obtain⟨k,rfl⟩:∃ j,k=j+1:=⟨k - 1,by omega⟩
  have hl:i<os.length:=by omega
  have hn:=ih (i+1) k (by omega) (by omega)
  have hb:=aA0 os[i]
  unfold jH.l0
  rw[if_pos (by omega),if_pos (by omega),List.drop_eq_getElem_cons hl,List.all_cons,aA2 hl,PQ,yN (by omega),hn]
  simp only[Option.bind_some,decide_eq_true_iff,PQ]
  by_cases h1:0<=os[i].f0/\os[i].f0<=144
  ·rw[if_pos h1]
   by_cases h2:0<=os[i].f1/\os[i].f1<=144
   ·rw[if_pos h2,hb.2 ⟨h1,h2⟩,Bool.true_and]
   ·rw[if_neg h2,Bool.eq_false_iff.2 (fun hh=>h2 (hb.1 hh).2),Bool.false_and,Bool.false_and,if_neg Bool.false_ne_true]
  ·rw[if_neg h1,Bool.eq_false_iff.2 (fun hh=>h1 (hb.1 hh).1),Bool.false_and,Bool.false_and,if_neg Bool.false_ne_true]
theorem alW {α:Type} (p:α->Bool) (l:List α):l.any (fun x=> !p x)= !l.all p:=by
 rw[List.all_eq_not_any_not,Bool.not_not]
theorem aA6 (os:List aZ) (ls:List aI) (k:Nat) (hk:15<=k):jH.f k os ls=some (oP os ls):=by
 unfold jH.f oP
 rw[PQ]
 simp only[Option.bind_some,decide_eq_true_iff]
 have ha:allIn 1 5 [(os.length:Int)]=true↔1<=(os.length:Int)/\(os.length:Int)<=5:=by
  simp[allIn,xR]
  try omega
 by_cases h1:1<=(os.length:Int)/\(os.length:Int)<=5
 ·rw[if_pos h1,if_pos (ha.2 h1)]
  by_cases h2:8<ls.length
  ·rw[if_pos (by omega),if_pos h2]
  ·rw[if_neg (by omega),if_neg h2,alW,alW]
   have:=aA5 os ls (by omega) (by omega) os.length 0 k (by omega) (by omega)
   rw[List.drop_zero]at this
   refine this.trans ?_
   congr 1
   cases os.all (fun x=>MP x)<;>cases ls.all (fun x=>DY os.length x)<;>rfl
 ·rw[if_neg h1,if_neg (fun h=>h1 (ha.1 h))]
theorem aA7 (os:List aZ) (ls:List aI) (h:ls.length<=1000):∀ m i k:Nat,i+m=ls.length->m<k->kJ.l1 k (i:Int) os ls os ls=some true:=by
 intro m
 induction m with
 |zero=>
  intro i k hi hk
  obtain⟨k,rfl⟩:∃ j,k=j+1:=⟨k - 1,by omega⟩
  unfold kJ.l1
  rw[if_neg (by omega)]
 |succ m ih=>
  intro i k hi hk
  obtain⟨k,rfl⟩:∃ j,k=j+1:=⟨k - 1,by omega⟩
  unfold kJ.l1
  rw[if_pos (by omega),if_pos (by omega),if_pos (by omega),if_neg (by simp),yN (by omega)]
  exact ih (i+1) k (by omega) (by omega)
theorem aA8 (os:List aZ) (ls:List aI) (h:ls.length<=1000) (ho:os.length<=1000):∀ m i k:Nat,i+m=os.length->m+ls.length+1<k->kJ.l0 k (i:Int) os ls os ls=some true:=by
 intro m
 induction m with
 |zero=>
  intro i k hi hk
  obtain⟨k,rfl⟩:∃ j,k=j+1:=⟨k - 1,by omega⟩
  unfold kJ.l0
  rw[if_neg (by omega)]
  exact aA7 os ls h ls.length 0 k (by omega) (by omega)
 |succ m ih=>
  intro i k hi hk
  obtain⟨k,rfl⟩:∃ j,k=j+1:=⟨k - 1,by omega⟩
  unfold kJ.l0
  rw[if_pos (by omega),if_pos (by omega),if_pos (by omega),if_neg (by simp),yN (by omega)]
  exact ih (i+1) k (by omega) (by omega)
theorem aA9 (os:List aZ) (ls:List aI) (h:ls.length<=1000) (ho:os.length<=1000) (k:Nat) (hk:os.length+ls.length+2<k):kJ.f k os ls os ls=some true:=by
 obtain⟨k,rfl⟩:∃ j,k=j+1:=⟨k - 1,by omega⟩
 rw[kJ.f,if_pos rfl,kJ.j0,if_neg (by simp)]
 exact aA8 os ls h ho os.length 0 k (by omega) (by omega)
theorem btD (l:List aH) (h:l.length<=1000):∀ m i k:Nat,i+m=l.length->m<k->mD.l0 k l l (i:Int)=some true:=by
 intro m
 induction m with
 |zero=>
  intro i k hi hk
  obtain⟨k,rfl⟩:∃ j,k=j+1:=⟨k - 1,by omega⟩
  unfold mD.l0
  rw[if_neg (by omega)]
 |succ m ih=>
  intro i k hi hk
  obtain⟨k,rfl⟩:∃ j,k=j+1:=⟨k - 1,by omega⟩
  unfold mD.l0
  rw[if_pos (by omega),if_pos (by omega),if_pos (by omega),if_neg (by simp),yN (by omega)]
  exact ih (i+1) k (by omega) (by omega)
theorem aHS (l:List aH) (h:l.length<=1000) (k:Nat) (hk:l.length<k):mD.f k l l=some true:=by
 unfold mD.f
 rw[if_pos rfl]
 exact btD l h l.length 0 k (by omega) (by omega)
theorem aBA (l:List Int) (h:l.length<=1000):∀ m i k:Nat,i+m=l.length->2*m+1<k->oJ.l0 k l l (i:Int)=some 0:=by
 intro m
 induction m with
 |zero=>
  intro i k hi hk
  obtain⟨k,rfl⟩:∃ j,k=j+2:=⟨k - 2,by omega⟩
  rw[oJ.l0,if_neg (by omega),oJ.j1,if_neg (by simp),Int.sub_self,jF (by omega) (by omega)]
 |succ m ih=>
  intro i k hi hk
  obtain⟨k,rfl⟩:∃ j,k=j+2:=⟨k - 2,by omega⟩
  rw[oJ.l0,if_pos (by omega),oJ.j1,if_pos (by simp;omega),if_pos (by omega),if_pos (by omega),if_pos (by omega),if_pos rfl,yN (by omega)]
  exact ih (i+1) k (by omega) (by omega)
theorem asQ (l:List Int) (h:l.length<=1000) (k:Nat) (hk:2*l.length+1<k):oD.f k l l=some true:=by
 unfold oD.f oJ.f
 rw[show(0:Int)=((0:Nat):Int)from rfl,aBA l h l.length 0 k (by omega) (by omega)]
 rfl
def wK (p q:List aH):Nat->List Int
 |0=>[]
 |i+1=>if(bM p i).f1=0/\(bM q i).f1=0 then wK p q i++[(i:Int)]else wK p q i
def mK (p q:List aH):Nat->List Int
 |0=>[]
 |i+1=>if(bM p i).f0=0/\(bM q i).f0=0 then mK p q i++[(i:Int)]else mK p q i
theorem aHT (p q:List aH):∀ i,(wK p q i).length<=i
 |0=>Nat.le_refl _
 |i+1=>by
  have:=aHT p q i
  unfold wK
  split
  ·simp;omega
  ·omega
theorem aHU (p q:List aH):∀ i,(mK p q i).length<=i
 |0=>Nat.le_refl _
 |i+1=>by
  have:=aHU p q i
  unfold mK
  split
  ·simp;omega
  ·omega
def Bd (p:List aH):Prop:=∀ i:Nat,i<p.length->(0<=(bM p i).f0/\(bM p i).f0<=1000)/\0<=(bM p i).f1/\(bM p i).f1<=1000
theorem a7K {a b:Int} (ha:0<=a/\a<=1000) (hb:0<=b/\b<=1000):wrap64 (a+b)=0↔a=0/\b=0:=by
 rw[jF (by omega) (by omega)]
 omega
theorem a7L (p q:List aH) (hp:Bd p) (hq:Bd q) (e:q.length=p.length) (h5:p.length<=1000) (er:Int):∀ m i k:Nat,i+m=p.length->m<k->
  vO.l0 k (wK p q i) (mK p q i) er p q (p.length:Int) (i:Int)=some (wK p q p.length,mK p q p.length,er):=by
 intro m
 induction m with
 |zero=>
  intro i k hi hk
  obtain⟨k,rfl⟩:∃ j,k=j+1:=⟨k - 1,by omega⟩
  obtain rfl:i=p.length:=by omega
  unfold vO.l0
  rw[if_neg (by omega)]
 |succ m ih=>
  intro i k hi hk
  obtain⟨k,rfl⟩:∃ j,k=j+1:=⟨k - 1,by omega⟩
  have b1:=hp i (by omega)
  have b2:=hq i (by omega)
  have z1:=a7K b1.2 b2.2
  have z0:=a7K b1.1 b2.1
  have l1:=aHT p q i
  have l2:=aHU p q i
  have hn:=ih (i+1) k (by omega) (by omega)
  rw[wK,mK]at hn
  unfold vO.l0
  rw[if_pos (by omega),if_pos (by omega),if_pos (by omega),if_pos (by omega),yN (by omega)]
  by_cases c1:(bM p i).f1=0/\(bM q i).f1=0
  ·rw[if_pos c1]at hn
   rw[if_pos (z1.2 c1),if_pos (by omega)]
   simp only[Option.bind_some]
   by_cases c2:(bM p i).f0=0/\(bM q i).f0=0
   ·rw[if_pos c2]at hn
    rw[if_pos (z0.2 c2),if_pos (by omega)]
    exact hn
   ·rw[if_neg c2]at hn
    rw[if_neg (fun h=>c2 (z0.1 h))]
    exact hn
  ·rw[if_neg c1]at hn
   rw[if_neg (fun h=>c1 (z1.1 h))]
   by_cases c2:(bM p i).f0=0/\(bM q i).f0=0
   ·rw[if_pos c2]at hn
    rw[if_pos (z0.2 c2),if_pos (by omega)]
    exact hn
   ·rw[if_neg c2]at hn
    rw[if_neg (fun h=>c2 (z0.1 h))]
    exact hn
theorem aBW {r:Bool} {os:List aZ} {ls:List aI} (h:oP os ls=0) (hok:∀ j,j<os.length->(iP (fZ r) (fJ r) os ls 0 j).2.2=true):Bd (qP (fZ r) (fJ r) os ls 0 os.length):=by
 intro i hi
 rw[aaO]at hi
 have hk:=ZR h r
 have hM:=hk.ord i hi
 have hr:=hok i hi
 obtain⟨M,hMe⟩:∃ M:Nat,fZ r (dK os i)=M:=⟨(fZ r (dK os i)).toNat,(Int.toNat_of_nonneg hM.1).symm⟩
 have hend:=aBU (M:=M) (hk.lots (o:=(i:Int)) (s:=0)) (by unfold iP at hr;rw[hMe]at hr;exact hr)
 have e:bM (qP (fZ r) (fJ r) os ls 0 os.length) (i:Int)=af1 (M:Int) (fE (M:Int) (kZ (fJ r) ls i 0 ls.length)).2.1:=by
  unfold bM qP
  rw[Int.toNat_natCast]
  simp only[List.getD_eq_getElem?_getD,List.getElem?_map,List.getElem?_range hi,Option.map_some,Option.getD_some]
  unfold iP
  rw[hMe]
 rw[e]
 unfold af1
 simp only
 omega
theorem btE (os:List aZ) (ls:List aI) (p q c1 c2:List aH) (hp:Bd p) (hq:Bd q) (e:q.length=p.length) (h5:p.length<=10) (h1:c1.length<=20) (h2:c2.length<=20)
  (hc1:∀ k,63<=k->lY.f k os ls false=some c1) (hc2:∀ k,63<=k->lY.f k os ls true=some c2):∀ m i k:Nat,i+m=p.length->2*m+64<k->
  dL.l0 k p q 0 c1 c2 0 (wK p q p.length) (mK p q p.length) 0 p q (wK p q i) (mK p q i) (i:Int) os ls=some true:=by
 intro m
 induction m with
 |zero=>
  intro i k hi hk
  obtain⟨k,rfl⟩:∃ j,k=j+1:=⟨k - 1,by omega⟩
  obtain rfl:i=p.length:=by omega
  have l1:=aHT p q p.length
  have l2:=aHU p q p.length
  unfold dL.l0
  rw[if_neg (by omega),if_pos rfl,aHS p (by omega) k (by omega),aHS q (by omega) k (by omega),hc1 k (by omega),hc2 k (by omega)]
  simp only[Option.bind_some,if_true]
  rw[aHS c1 (by omega) k (by omega),aHS c2 (by omega) k (by omega),asQ _ (by omega) k (by omega),asQ _ (by omega) k (by omega)]
  rfl
 |succ m ih=>
  intro i k hi hk
  obtain⟨k,rfl⟩:∃ j,k=j+2:=⟨k - 2,by omega⟩
  have l1:=aHT p q i
  have l2:=aHU p q i
  have hn:=ih (i+1) k (by omega) (by omega)
  rw[wK,mK]at hn
  have fin:∀ b:Bool,(b=true↔(bM p i).f1=0/\(bM q i).f1=0)->dL.j4 (k+1) p q 0 c1 c2 0 (wK p q p.length) (mK p q p.length) 0 p q (wK p q i) (mK p q i) (i:Int) b os ls=some true:=by
   intro b hb
   unfold dL.j4
   by_cases c1:(bM p i).f1=0/\(bM q i).f1=0
   ·rw[if_pos c1]at hn
    rw[if_pos (hb.2 c1),if_pos (by omega)]
    simp only[Option.bind_some]
    rw[if_pos (by omega),if_pos (by omega),yN (by omega)]
    by_cases c2:(bM p i).f0=0
    ·rw[if_pos c2,if_pos (by omega)]
     by_cases c3:(bM q i).f0=0
     ·rw[if_pos ⟨c2,c3⟩]at hn
      rw[if_pos c3,if_pos (by omega)]
      exact hn
     ·rw[if_neg (fun h=>c3 h.2)]at hn
      rw[if_neg c3]
      exact hn
    ·rw[if_neg (fun h=>c2 h.1)]at hn
     rw[if_neg c2]
     exact hn
   ·rw[if_neg c1]at hn
    rw[if_neg (fun h=>c1 (hb.1 h)),if_pos (by omega),if_pos (by omega),yN (by omega)]
    by_cases c2:(bM p i).f0=0
    ·rw[if_pos c2,if_pos (by omega)]
     by_cases c3:(bM q i).f0=0
     ·rw[if_pos ⟨c2,c3⟩]at hn
      rw[if_pos c3,if_pos (by omega)]
      exact hn
     ·rw[if_neg (fun h=>c3 h.2)]at hn
      rw[if_neg c3]
      exact hn
    ·rw[if_neg (fun h=>c2 h.1)]at hn
     rw[if_neg c2]
     exact hn
  unfold dL.l0
  rw[if_pos (by omega),if_pos (by omega)]
  by_cases c1:(bM p i).f1=0
  ·rw[if_pos c1,if_pos (by omega)]
   exact fin _ (by rw[beq_iff_eq];exact⟨fun h=>⟨c1,h⟩,fun h=>h.2⟩)
  ·rw[if_neg c1]
   exact fin _ ⟨fun h=>absurd h Bool.false_ne_true,fun h=>absurd h.1 c1⟩
theorem a7M (os:List aZ) (ls:List aI) (c:Int) (hc:c≠0) (k:Nat):dL.j2 (k+1) [] [] c [] [] c [] [] c c os ls=some true:=by
 rw[dL.j2]
 rw[if_neg hc,if_pos rfl,if_pos rfl,if_pos rfl,if_pos (by decide+kernel)]
 rfl
theorem btF (os:List aZ) (ls:List aI) (k:Nat) (hk:800<=k):dL.f k os ls=some true:=by
 have hop:aaM.f k os ls=some (oG os ls):=aX4 os ls k (by omega)
 have hl:UR.f k os ls=some ((oG os ls).1,(oG os ls).2.2.1,(oG os ls).2.2.2.2):=by unfold UR.f;rw[hop];rfl
 have hc:XX.f k os ls=some ((oG os ls).2.1,(oG os ls).2.2.2.1,(oG os ls).2.2.2.2):=by unfold XX.f;rw[hop];rfl
 have hbad:∀ c:Int,oG os ls=([],[],[],[],c)->vO.f k os ls=some ([],[],c):=by
  intro c h
  unfold vO.f
  rw[hl,h]
  exact a7L [] [] (fun i hi=>absurd hi (Nat.not_lt_zero _)) (fun i hi=>absurd hi (Nat.not_lt_zero _)) rfl (Nat.zero_le _) c 0 0 k rfl (by omega)
 unfold dL.f OQ.f
 by_cases hbig:(os.length:Int)>10
 ·rw[if_pos hbig]
  rfl
 ·rw[if_neg hbig]
  simp only[Option.bind_some,decide_eq_true_iff]
  by_cases hbig2:(ls.length:Int)>20
  ·rw[if_pos hbig2]
   rfl
  ·rw[if_neg hbig2]
   have hcopy:nV.f os ls=some (os,ls):=by
    unfold nV.f
    simp only[Option.bind_some,List.length_nil,List.nil_append]
    rw[if_pos (by omega),if_pos (by omega)]
   obtain⟨k,rfl⟩:∃ j,k=j+3:=⟨k - 3,by omega⟩
   rw[hcopy]
   simp only[Option.bind_some]
   unfold XH.f
   simp only[Option.bind_some]
   rw[hl,hc]
   simp only[Option.bind_some]
   have hsame:=aA9 os ls (by omega) (by omega) (k+3) (by omega)
   have hck:=aA6 os ls
   have hne:(oP os ls !=oP os ls)=false:=by simp
   by_cases h0:oP os ls=0
   ·obtain⟨h5,h8,_,_⟩:=FM h0
    have hall:=alS os ls h8
    have aHJ:=aAW h0 (asX h8) ao9 (k+2) (by omega)
    by_cases ht:vZ os ls 0=true
    ·have he:oG os ls=(qP rJ qB os ls 0 os.length,zN rJ qB os ls 0 os.length,qP tC qQ os ls 0 os.length,zN tC qQ os ls 0 os.length,0):=by unfold oG;rw[if_pos h0,if_pos ht]
     have hts:=ht
     unfold vZ at hts
     rw[Bool.and_eq_true,zO,zO]at hts
     have okL:∀ j,j<os.length->(iP (fZ false) (fJ false) os ls 0 j).2.2=true:=by rw[aaZ,aa1];exact hts.1
     have okR:∀ j,j<os.length->(iP (fZ true) (fJ true) os ls 0 j).2.2=true:=by rw[aa0,aa2];exact hts.2
     have bp:=aBW h0 okL
     have bq:=aBW h0 okR
     have fp:=aBV h0 false okL
     have fq:=aBV h0 true okR
     have gp:=a7H h0 false okL
     have gq:=a7H h0 true okR
     rw[aaZ,aa1]at bp fp gp
     rw[aa0,aa2]at bq fq gq
     have lp:=aaO rJ qB os ls 0 os.length
     have lq:=aaO tC qQ os ls 0 os.length
     have mp:=awS rJ qB os ls 0 os.length
     have mq:=awS tC qQ os ls 0 os.length
     have hw:vO.f (k+3) os ls=some (wK (qP rJ qB os ls 0 os.length) (qP tC qQ os ls 0 os.length) (qP rJ qB os ls 0 os.length).length,mK (qP rJ qB os ls 0 os.length) (qP tC qQ os ls 0 os.length) (qP rJ qB os ls 0 os.length).length,0):=by
      unfold vO.f
      rw[hl,he]
      exact a7L _ _ bp bq (by rw[lp,lq]) (by omega) 0 _ 0 (k+3) (Nat.zero_add _) (by omega)
     rw[hw,he]
     simp only[Option.bind_some]
     rw[hsame]
     simp only[Option.bind_some,if_true]
     rw[hck (k+3) (by omega)]
     simp only[Option.bind_some]
     rw[hne]
     rw[dL.j0]
     rw[if_neg Bool.false_ne_true,hck (k+2) (by omega)]
     simp only[Option.bind_some]
     rw[if_pos h0,hall]
     simp only[Option.bind_some]
     rw[aHJ,ht]
     simp only[Option.bind_some]
     rw[dL.j1]
     rw[if_neg (by decide),h0]
     rw[dL.j2]
     rw[if_pos rfl,fp k (by omega),fq k (by omega)]
     simp only[Option.bind_some]
     exact btE os ls _ _ _ _ bp bq (by rw[lp,lq]) (by omega) (by omega) (by omega) gp gq _ 0 k (Nat.zero_add _) (by omega)
    ·have he:oG os ls=([],[],[],[],9):=by unfold oG;rw[if_pos h0,if_neg ht]
     rw[hbad 9 he,he]
     simp only[Option.bind_some]
     rw[hsame]
     simp only[Option.bind_some,if_true]
     rw[hck (k+3) (by omega)]
     simp only[Option.bind_some]
     rw[hne]
     rw[dL.j0]
     rw[if_neg Bool.false_ne_true,hck (k+2) (by omega)]
     simp only[Option.bind_some]
     rw[if_pos h0,hall]
     simp only[Option.bind_some]
     rw[aHJ,Bool.eq_false_iff.2 ht]
     simp only[Option.bind_some]
     rw[dL.j1]
     rw[if_pos (by decide)]
     exact a7M os ls 9 (by decide) k
   ·have he:oG os ls=([],[],[],[],oP os ls):=by unfold oG;rw[if_neg h0]
    rw[hbad _ he,he]
    simp only[Option.bind_some]
    rw[hsame]
    simp only[Option.bind_some,if_true]
    rw[hck (k+3) (by omega)]
    simp only[Option.bind_some]
    rw[hne]
    rw[dL.j0]
    rw[if_neg Bool.false_ne_true,hck (k+2) (by omega)]
    simp only[Option.bind_some]
    rw[if_neg h0]
    rw[dL.j1]
    rw[if_neg Bool.false_ne_true]
    exact a7M os ls _ h0 k
theorem bxC {w:World} (os:List aZ) (A:Option Addr) (c:Nat) (hc:os.length<=c) (hr:Kd.C iJ w A os.length os) (ls:List aI) (B:Option Addr) (c2:Nat) (hc2:ls.length<=c2) (hr2:Kd.C iE w B ls.length ls) (hT:lZ w):
  Calls Tryd.prog 3 #[.agg #[.slice A os.length c,.slice B ls.length c2]] w fun e w'=>e=.returned (.bool true)/\Below w.heap.size w w':=
 dL.calls 800 A c os B c2 ls true w hT hr hc hr2 hc2 (btF os ls 800 (Nat.le_refl _))
end Go.Proofs.YtcmfnebcmmklkaaDoor.Hand
namespace Go.Proofs.YtcmfnebcmmklkaaDoor.dozenLots
open Go.ChangeShapes Go.WideShapes Go.ChangeAt Go.RowKit Go.Proofs.YtcmfnebcmmklkaaDoor.Hand
theorem contract (H:Type) (enc:TypeId×Value->H) (W:World) (base:Nat) (args:Array Value) (ds gs:List (DataW H)) (before:List MemPlace)
  (hval:∀ (j:Nat) t v,Tryd.f3.params[j]? =some t->args[j]? =some v->Value.okWide Tryd.prog W .any base t v)
  (hW:DataW.Whole enc Tryd.prog Tryd.f3.params.toList Rows.dozenLotsSpec.vars false W args.toList ds gs before) (hL:laidMetH Tryd.prog Rows.dozenLotsRow.laid W):
  Calls Tryd.prog 3 args W fun e W'=>∃ v,e=.returned v/\Rows.dozenLotsSpec.post enc Tryd.prog Tryd.f3 false true false false W args v W':=by
 have hT:lZ W:=azI hL
 have hW':=hW
 obtain⟨p,q,hA0,hV,rfl,hfz,hnd⟩:=hW
 have hA:DataW.TrodAll enc Tryd.prog W 0 (fun _=>true) true Tryd.f3.params.toList args.toList ds p:=hA0
 rw[Tryd.params3]at hA hval
 obtain⟨v0,vs0,d0,ds0,p0,q0,hargs,rfl,rfl,k0,r0⟩:=trodAll_cons hA
 obtain⟨rfl,rfl,rfl⟩:=trodAll_nil r0
 obtain rfl:args=#[v0]:=by cases args;simp_all
 obtain⟨rfl,rfl⟩:=trodVars_none hV
 have lt0:∀ x∈p0,x.block<W.heap.size:=by obtain⟨m,hm⟩:=k0;exact DataW.trod_lt m _ _ _ hm
 obtain⟨A0,l0,c0,B0,q0,e0,rfl,⟨hc0,hr0⟩,hd0,hs0⟩:=azH (hval 0 25 v0 rfl rfl) k0
 clear hA0 hval
 refine(bxC l0 A0 c0 hc0 hr0 q0 B0 e0 hd0 hs0 hT).mono fun e' W' ⟨he,bel⟩=>?_
 subst he
 exact⟨_,rfl,_,_,_,[],_,[],hW',trodAll_mk1 (shut_bool Tryd.underlying4 _),(trodAll_cons_mk (Below.trod laidOut (by kernel_rfl) (of_decide_eq_true (by kernel_rfl)) k0 bel lt0) trodAll_mk0),rfl,bel.frame _,fun h=>by cases h⟩
def aBO:Obj->Obj
 |.cells _ t frozen=>.cells (Lib.deBruijn32tab.map fun(n:Nat)=>Value.int .u8 n).toArray t frozen
 |o=>o
def aBP:Obj->Obj
 |.cells _ t frozen=>.cells (Lib.deBruijn64tab.map fun(n:Nat)=>Value.int .u8 n).toArray t frozen
 |o=>o
noncomputable def laidWorld (os:Os):World:={ World.holding Tryd.prog os ⟨#[],#[],[]⟩with heap:=((World.holding Tryd.prog os ⟨#[],#[],[]⟩).heap.modify 0 aBO).modify 1 aBP}
theorem laid_met (os:Os):laidMet Tryd.prog Rows.dozenLotsRow.laid ((laidWorld os).forCall (fun _ _=>0) ⟨#[],#[.agg #[.slice none 0 0,.slice none 0 0]],[]⟩).memory:=
 laidMet_of_run' 8 (by kernel_rfl) (by kernel_rfl)
theorem reads (os:Os) {H:Type} (enc:TypeId×Value->H):∃ places,DataW.whole enc Tryd.prog ((laidWorld os).forCall (fun _ _=>0) ⟨#[],#[.agg #[.slice none 0 0,.slice none 0 0]],[]⟩).memory Tryd.f3.params.toList Rows.dozenLotsSpec.vars false (#[.agg #[.slice none 0 0,.slice none 0 0]]:Array Value).toList 8=some ([.agg [.nil,.nil]],[],places):=
 ⟨[],by kernel_rfl⟩
theorem lifted (os:Os) (started:os.Started) (H:Type) (enc:TypeId×Value->H) (F:Stop.Interp):
  ReturnsInHanded {} Tryd.checked os 3 .any ((OpenSpec.ofChange Rows.dozenLotsSpec).preRow enc Tryd.prog Tryd.f3 Rows.dozenLotsRow.domain false Rows.dozenLotsRow.laid) (((OpenSpec.ofChange Rows.dozenLotsSpec).at F).post enc Tryd.prog Tryd.f3 false true false false):=by
 obtain⟨places,hx⟩:=reads os enc
 refine returnsInHanded_of_row (C:=Tryd.checked) (s:=OpenSpec.ofChange Rows.dozenLotsSpec) own started (by kernel_rfl) Tryd.func3
  (witness_row_at (enc:=enc) (C:=Tryd.checked) false (laidWorld os) #[.agg #[.slice none 0 0,.slice none 0 0]] rfl (by kernel_rfl) (by kernel_rfl) (by kernel_rfl)
   (OpenSpec.preRow_of_cond 8 hx (by kernel_rfl) (fun k hk=>by cases hk) (by kernel_rfl) (laid_met os))) ?_
 intro W base args ds gs before hval hW _ _ _ hL _ _
 exact contract H enc W base args ds gs before hval hW hL
theorem said:Rows.DozenLotsSaid:=
 OpenClaim.holds_of_cond 3 Tryd.f3 rfl rfl rfl rfl rfl rfl rfl ⟨rfl,rfl,rfl,rfl,rfl⟩ rfl rfl rfl rfl rfl (by kernel_rfl) Tryd.func3 (by kernel_rfl)
  (of_decide_eq_true (by kernel_rfl)) (by unfold Func.isWrapper;first|(rw[if_pos (by decide+kernel)];kernel_rfl)|(rw[if_neg (by decide+kernel)];exact⟨rfl,rfl⟩))
  (fun os started H enc _ F=>by rw[OpenClaim.pre_eq_preRow];exact lifted os started H enc F)
theorem plain (f:FuncId) (fn:Func) (hf:Tryd.pinned.checked.prog.funcNamed "smalto/smaltolaw09.DozenLots" =some f) (hfn:Tryd.pinned.checked.prog.funcs[f]? =some fn):
  false=Tryd.pinned.checked.prog.looks []/\∀ (j:Nat) t,fn.params[j]? =some t->Tryd.pinned.checked.prog.wantsStandIn t=false:=by
 obtain rfl:f=3:=Option.some.inj ((show Tryd.prog.funcNamed "smalto/smaltolaw09.DozenLots" =some 3 by kernel_rfl).symm.trans hf) |>.symm
 obtain rfl:fn=Tryd.f3:=(Option.some.inj (Tryd.func3.symm.trans hfn)).symm
 refine⟨by kernel_rfl,fun j t ht=>?_⟩
 rw[Tryd.params3]at ht
 have hm:=Array.mem_of_getElem? ht
 simp only[List.mem_toArray,List.mem_cons,List.not_mem_nil,or_false]at hm
 subst hm
 ·exact(show Tryd.prog.wantsStandIn 25=false by kernel_rfl)
theorem card:Rows.DozenLotsCardSaid:=
 Claim7.holds_tied_plain_at .later [] _ _ _ _ said (fun _ h=>by cases h) (by kernel_rfl) (fun _ h=>by cases h) dozenLots_row_tie rfl ⟨rfl,rfl⟩ (by kernel_rfl) rfl plain (by kernel_rfl)
end Go.Proofs.YtcmfnebcmmklkaaDoor.dozenLots
namespace Go.Proofs.YtcmfnebcmmklkaaDoor
theorem dozenLots_card:Rows.DozenLotsCardSaid:=dozenLots.card
end Go.Proofs.YtcmfnebcmmklkaaDoor

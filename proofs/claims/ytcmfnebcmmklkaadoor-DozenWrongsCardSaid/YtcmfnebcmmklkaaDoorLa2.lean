/- What DozenWrongs reaches beyond the shared texts, and its card. Part 2 of 3. -/
import Derived.Test.YtcmfnebcmmklkaaDoorLa1
import Derived.Test.YtcmfnebcmmklkaaDoorK2
import Derived.Test.YtcmfnebcmmklkaaDoorK14
import Derived.Test.YtcmfnebcmmklkaaDoorK7
import Derived.Test.YtcmfnebcmmklkaaDoorK3
import Derived.Test.YtcmfnebcmmklkaaDoorK12
import Derived.Test.YtcmfnebcmmklkaaDoorK15
set_option linter.unusedVariables false
set_option linter.unusedSimpArgs false
set_option maxRecDepth 100000
set_option maxHeartbeats 8000000
namespace Go.Proofs.YtcmfnebcmmklkaaDoor.Hand
open Go.RowKit Go.Shelf Go.Proofs.YtcmfnebcmmklkaaDoorW.dQ Go.Proofs.YtcmfnebcmmklkaaDoorW.gG Go.Proofs.YtcmfnebcmmklkaaDoor.Q
theorem YI {M:Nat} {lt lt':Nat->Lt}:∀ i,(∀ j,j<i->lt j=lt' j)->rowB M lt i=rowB M lt' i
 |0,_=>rfl
 |i+1,h=>by rw[rowB,rowB,YI i (fun j hj=>h j (by omega)),h i (by omega)]
theorem alO {M:Nat} {lt lt':Nat->Lt} {n:Nat} (h:∀ j,j<n->lt j=lt' j):∀ d,d<=n->GZ M lt n d=GZ M lt' n d
 |0,_=>by rw[GZ,GZ,YI n h]
 |d+1,hd=>by rw[GZ,GZ,alO h d (by omega),h _ (by omega),YI _ (fun j hj=>h j (by omega))]
theorem alP {M:Nat} {lt lt':Nat->Lt} {n:Nat} (h:∀ j,j<n->lt j=lt' j) (i:Nat):lG M lt n i=lG M lt' n i:=alO h _ (by omega)
def lU (ls:List aI) (o:Int) (t n:Nat):List Int:=(List.range n).filterMap fun(i:Nat)=>if(aU ls i).f0=o/\t.testBit i=true then some (i:Int)else none
theorem alQ (ls:List aI) (o:Int) (t n:Nat):lU ls o t (n+1)=lU ls o t n++(if(aU ls n).f0=o/\t.testBit n=true then[(n:Int)]else[]):=by
 unfold lU
 rw[List.range_succ,List.filterMap_append]
 congr 1
 simp only[List.filterMap_cons,List.filterMap_nil]
 by_cases h:(aU ls n).f0=o/\t.testBit n=true
 ·rw[if_pos h,if_pos h]
 ·rw[if_neg h,if_neg h]
theorem alR (ls:List aI) (o:Int) (t n:Nat):(lU ls o t n).length<=n:=by
 unfold lU
 exact Nat.le_trans (List.length_filterMap_le _ _) (by simp)
theorem aAQ {ls:List aI} {o:Int} {t n:Nat} {x:Int} (h:x∈lU ls o t n):0<=x/\x<n:=by
 unfold lU at h
 obtain⟨i,h1,h2⟩:=List.mem_filterMap.1 h
 split at h2
 ·have:=List.mem_range.1 h1
  obtain rfl:=Option.some.inj h2
  omega
 ·cases h2
theorem aaY (sd:aI->aH) (ls:List aI) (o:Int) {s t:Nat}:∀ n,(∀ i,i<n->t.testBit i= !s.testBit i)->kZ sd ls o s n=(lU ls o t n).map fun(i:Int)=>⟨sd (aU ls i),i,(aU ls i).f3⟩
 |0,_=>rfl
 |n+1,h=>by
  rw[awR,alQ,List.map_append,aaY sd ls o n (fun i hi=>h i (by omega))]
  congr 1
  have hb:=h n (by omega)
  by_cases h1:(aU ls n).f0=o/\s.testBit n=false
  ·rw[if_pos h1,if_pos ⟨h1.1,by rw[hb,h1.2];rfl⟩]
   rfl
  ·rw[if_neg h1,if_neg (fun hh=>h1 ⟨hh.1,by have:=hh.2;rw[hb]at this;simpa using this⟩)]
   rfl
theorem YJ {l:List Int} {i:Nat} (h:i<l.length):rd l (i:Int)=l[i]:=by
 unfold rd
 rw[Int.toNat_natCast]
 simp[List.getD_eq_getElem?_getD,h]
theorem aAR (r:Bool) (ls:List aI) (o:Int) {s t:Nat} (h:∀ i,i<ls.length->t.testBit i= !s.testBit i):∀ i,i<(lU ls o t ls.length).length->dO r ls (lU ls o t ls.length) i=ltK (kZ (fJ r) ls o s ls.length) i:=by
 intro i hi
 have e:=aaY (fJ r) ls o ls.length h
 unfold ltK dO
 rw[QS (by rw[e,List.length_map];exact hi),YJ hi]
 simp only[e,List.getElem_map]
 rfl
theorem adB {r:Bool} {os:List aZ} {ls:List aI} (hk:RZ (fZ r) (fJ r) os ls) (h8:ls.length<=8) {s t:Nat} (h:∀ i,i<ls.length->t.testBit i= !s.testBit i) {o:Nat} (ho:o<os.length):
  ∃ L,sJ.f os ls (o:Int) (lU ls o t ls.length) r=some (L,(iP (fZ r) (fJ r) os ls s o).1,(iP (fZ r) (fJ r) os ls s o).2.2)/\
   ((iP (fZ r) (fJ r) os ls s o).2.2=true->(L.length:Int)=fZ r (dK os o)+1/\∀ m:Nat,L.getD m false=true↔(iP (fZ r) (fJ r) os ls s o).2.1.f0<=m/\m<=(iP (fZ r) (fJ r) os ls s o).2.1.f1):=by
 have e:=aaY (fJ r) ls o ls.length h
 have hlt:=aAR r ls o h
 have hlen:=alR ls o t ls.length
 have hM:=hk.ord o ho
 have hll:(kZ (fJ r) ls o s ls.length).length=(lU ls o t ls.length).length:=by rw[e,List.length_map]
 have adC:=hk.lots (o:=(o:Int)) (s:=s)
 obtain⟨M,hMe⟩:∃ M:Nat,fZ r (dK os o)=M:=⟨(fZ r (dK os o)).toNat,(Int.toNat_of_nonneg hM.1).symm⟩
 have hb:SY os ls (o:Int) (lU ls o t ls.length) r=true:=by
  unfold SY
  simp only[Bool.and_eq_true,decide_eq_true_iff,List.all_eq_true]
  refine⟨⟨⟨⟨⟨by omega,by omega⟩,hM.1⟩,hM.2⟩,by omega⟩,fun i hi=>?_⟩
  have hi':=List.mem_range.1 hi
  have hm:=aAQ (List.getElem_mem hi')
  have hl:=hk.lot ((lU ls o t ls.length)[i]).toNat (by omega)
  rw[Int.toNat_of_nonneg hm.1]at hl
  unfold dO ltOf
  rw[YJ hi']
  exact⟨⟨⟨⟨hm.1,hm.2⟩,hl.1⟩,hl.2.1⟩,hl.2.2⟩
 have hok:qY M (dO r ls (lU ls o t ls.length)) (lU ls o t ls.length).length=(iP (fZ r) (fJ r) os ls s o).2.2:=by
  unfold iP
  rw[hMe,<-azN adC]
  unfold qY acX
  rw[hll]
  congr 1
  funext i
  rw[alP hlt i]
 unfold sJ.f
 rw[if_pos hb,hMe,Int.toNat_natCast,hok]
 by_cases hr:(iP (fZ r) (fJ r) os ls s o).2.2=true
 ·have hr2:(fE (M:Int) (kZ (fJ r) ls o s ls.length)).2.2=true:=by unfold iP at hr;rw[hMe]at hr;exact hr
  rw[if_pos hr,if_pos hr]
  refine⟨rowB M (dO r ls (lU ls o t ls.length)) (lU ls o t ls.length).length,?_,fun _=>⟨by rw[XL];rfl,fun m=>?_⟩⟩
  ·congr 2
   congr 1
   have hc:=af2 hr2
   have ec:(iP (fZ r) (fJ r) os ls s o).1=(fE (M:Int) (kZ (fJ r) ls o s ls.length)).1:=by unfold iP;rw[hMe]
   rw[ec]
   refine List.ext_getElem (by rw[acY,hc,hll]) fun i h1 h2=>?_
   rw[acY]at h1
   have h3:=azP adC hr2 (i:=i) (by omega)
   have h4:bM (fE (M:Int) (kZ (fJ r) ls o s ls.length)).1 (i:Int)=(fE (M:Int) (kZ (fJ r) ls o s ls.length)).1[i]:=by
    unfold bM
    rw[Int.toNat_natCast]
    simp[List.getD_eq_getElem?_getD,h2]
   rw[<-h4,h3,<-alP (by rw[hll];exact hlt) i,hll]
   simp[lM]
  ·have h3:=azO adC hr2 m
   rw[<-YI _ (by rw[hll];exact hlt),hll]at h3
   unfold iP
   rw[hMe]
   exact h3
 ·have hr':=Bool.eq_false_iff.2 hr
  rw[if_neg hr,if_neg hr]
  refine⟨[],?_,fun hh=>absurd hh hr⟩
  congr 2
  congr 1
  unfold iP at hr ⊢
  unfold fE at hr ⊢
  split
  ·rename_i h1
   rw[if_pos h1]at hr
   exact absurd rfl hr
  ·rfl
theorem aoV:∀ s:Nat,s<256->∀ i:Nat,i<8->(Go.bits .and .i64 (shr .i64 (s:Int) (IntKind.u64.wrap (i:Int))) 1=1↔s.testBit i=true)/\0<=IntKind.u64.wrap (i:Int):=by decide+kernel
theorem aAS (os:List aZ) (ls:List aI) (h8:ls.length<=8) (o:Int) (t:Nat) (ht:t<256):∀ (m i k:Nat),i+m=ls.length->m<k->
  qI.l0 k o (t:Int) (lU ls o t i) (i:Int) os ls=some (lU ls o t ls.length):=by
 intro m
 induction m with
 |zero=>
  intro i k hi hk
  obtain⟨k,rfl⟩:∃ j,k=j+1:=⟨k - 1,by omega⟩
  obtain rfl:i=ls.length:=by omega
  unfold qI.l0
  rw[if_neg (by omega)]
 |succ m ih=>
  intro i k hi hk
  obtain⟨k,rfl⟩:∃ j,k=j+1:=⟨k - 1,by omega⟩
  obtain⟨hb,hw0⟩:=aoV t ht i (by omega)
  have hw:wrap64 ((i:Int)+1)=((i+1:Nat):Int):=by rw[jF (by omega) (by omega)];simp
  have hn:=ih (i+1) k (by omega) (by omega)
  have hl:=alR ls o t i
  rw[alQ]at hn
  unfold qI.l0
  rw[if_pos (by omega),if_pos (by omega),hw]
  by_cases h1:(aU ls i).f0=o
  ·rw[if_pos h1,if_pos hw0]
   by_cases h2:Go.bits .and .i64 (shr .i64 (t:Int) (IntKind.u64.wrap (i:Int))) 1=1
   ·rw[if_pos h2,if_pos (by omega)]
    rw[if_pos ⟨h1,hb.1 h2⟩]at hn
    exact hn
   ·rw[if_neg h2]
    rw[if_neg (fun hh=>h2 (hb.2 hh.2)),List.append_nil]at hn
    exact hn
  ·rw[if_neg h1]
   rw[if_neg (fun hh=>h1 hh.1),List.append_nil]at hn
   exact hn
theorem adD (os:List aZ) (ls:List aI) (h8:ls.length<=8) (o:Int) (t:Nat) (ht:t<256) (k:Nat) (hk:9<=k):qI.f k os ls o (t:Int)=some (lU ls o t ls.length):=aAS os ls h8 o t ht ls.length 0 k (by omega) (by omega)
theorem aAT:∀ n:Nat,n<=8->0<=IntKind.u64.wrap (n:Int)/\wrap64 ((shl .i64 1 (IntKind.u64.wrap (n:Int))) - 1)=((2^n - 1:Nat):Int):=by decide+kernel
theorem alS (os:List aZ) (ls:List aI) (h8:ls.length<=8):pY.f os ls=some ((2^ls.length - 1:Nat):Int):=by
 obtain⟨h1,h2⟩:=aAT ls.length h8
 unfold pY.f
 rw[if_pos h1,h2]
theorem aaZ:fZ false=rJ:=by funext x;rfl
theorem aa0:fZ true=tC:=by funext x;rfl
theorem aa1:fJ false=qB:=by funext x;rfl
theorem aa2:fJ true=qQ:=by funext x;rfl
theorem ZR {os:List aZ} {ls:List aI} (h:oP os ls=0):∀ r,RZ (fZ r) (fJ r) os ls:=by
 intro r
 cases r
 ·rw[aaZ,aa1];exact(af4 h).1
 ·rw[aa0,aa2];exact(af4 h).2
theorem aAU {os:List aZ} {ls:List aI} (h:oP os ls=0) {s t:Nat} (ht:t<256) (hst:∀ i,i<ls.length->t.testBit i= !s.testBit i):∀ (m o k:Nat),o+m=os.length->4*m+13<=k->
  eG.l0 k (t:Int) (o:Int) os ls=some ((List.range' o m).all fun j=>(iP rJ qB os ls s j).2.2&&(iP tC qQ os ls s j).2.2):=by
 obtain⟨h5,h8,_,_⟩:=FM h
 intro m
 induction m with
 |zero=>
  intro o k ho hk
  obtain⟨k,rfl⟩:∃ i,k=i+1:=⟨k - 1,by omega⟩
  unfold eG.l0
  rw[if_neg (by omega)]
  rfl
 |succ m ih=>
  intro o k ho hk
  obtain⟨k,rfl⟩:∃ i,k=i+4:=⟨k - 4,by omega⟩
  have hw:wrap64 ((o:Int)+1)=((o+1:Nat):Int):=by rw[jF (by omega) (by omega)];simp
  have hi:=ih (o+1) k (by omega) (by omega)
  obtain⟨L,e1,e2⟩:=adB (r:=false) (ZR h false) h8 hst (o:=o) (by omega)
  obtain⟨L',e1',e2'⟩:=adB (r:=true) (ZR h true) h8 hst (o:=o) (by omega)
  rw[aaZ,aa1]at e1
  rw[aa0,aa2]at e1'
  rw[eG.l0,if_pos (by omega),eG.l1,if_pos (by decide),adD os ls h8 o t ht (k+2) (by omega)]
  simp only[Option.bind_some]
  rw[show((0:Int)==1)=false from rfl,e1]
  simp only[Option.bind_some]
  rw[List.range'_succ,List.all_cons]
  by_cases hl:(iP rJ qB os ls s o).2.2=true
  ·rw[if_pos hl,show wrap64 (0+1)=1 from by rw[jF (by omega) (by omega)];rfl,eG.l1,if_pos (by decide),adD os ls h8 o t ht (k+1) (by omega)]
   simp only[Option.bind_some]
   rw[show((1:Int)==1)=true from rfl,e1']
   simp only[Option.bind_some]
   by_cases hr:(iP tC qQ os ls s o).2.2=true
   ·rw[if_pos hr,show wrap64 (1+1)=2 from by rw[jF (by omega) (by omega)];rfl,eG.l1,if_neg (by decide),hw,hi,hl,hr]
    rfl
   ·rw[if_neg hr,Bool.eq_false_iff.2 hr,Bool.and_false,Bool.false_and]
  ·rw[if_neg hl,Bool.eq_false_iff.2 hl,Bool.false_and,Bool.false_and]
theorem aAV {n:Nat} (p q:Nat->Bool):((List.range' 0 n).all fun j=>p j&&q j)=((List.range n).all p&&(List.range n).all q):=by
 rw[<-List.range_eq_range']
 rw[Bool.eq_iff_iff,Bool.and_eq_true,zO,zO,zO]
 simp only[Bool.and_eq_true]
 exact⟨fun h=>⟨fun j hj=>(h j hj).1,fun j hj=>(h j hj).2⟩,fun h j hj=>⟨h.1 j hj,h.2 j hj⟩⟩
theorem aAW {os:List aZ} {ls:List aI} (h:oP os ls=0) {s t:Nat} (ht:t<256) (hst:∀ i,i<ls.length->t.testBit i= !s.testBit i) (k:Nat) (hk:33<=k):eG.f k os ls (t:Int)=some (vZ os ls s):=by
 obtain⟨h5,h8,_,_⟩:=FM h
 unfold eG.f
 refine(aAU h ht hst os.length 0 k (by omega) (by omega)).trans ?_
 rw[aAV]
 rfl
end Go.Proofs.YtcmfnebcmmklkaaDoor.Hand
namespace Go.Proofs.YtcmfnebcmmklkaaDoor.Q
open Go.RowKit Go.Proofs.YtcmfnebcmmklkaaDoorW.dQ Go.Proofs.YtcmfnebcmmklkaaDoorW.oU Go.Proofs.YtcmfnebcmmklkaaDoorW.gG
attribute [local go_sem] uA uB uC uD uM uN uO uP   -- for this text's walks alone
def nV.f (aG:List (aZ)) (aC:List (aI)):Option ((List (aZ))×(List (aI))):=(some (([]:List (aZ)):List (aZ))).bind fun sK=>(if sK.length+aG.length<8796093022208 then((some (([]:List (aI)):List (aI))).bind fun nO=>(if nO.length+aC.length<2932031007402 then(some ((sK++aG),(nO++aC)))else(none)))else(none))
def nV.T1:Bool×List (List Nat×List Nat):=(true,[([],[]),([],[]),([1],[1]),([0,2],[0,2]),([],[]),([],[]),([5],[5]),([4,6,3],[4,6]),([3,7],[3,7]),([8,7,0,1,2,3,4,5,6,7,8],[8])])
def nV.B1:List Nat:=[0,0,2,7,0,0,32,127,255,511]
theorem nV.afJ:qW .any (opsOf Tryd.f16 1)=nV.T1:=by kernel_rfl
theorem nV.afK:CZ nV.T1.2 nV.B1=true:=by kernel_rfl
theorem nV.calls (aQ:Option Addr) (aK:Nat) (aG:List (aZ)) (aT:Option Addr) (aJ:Nat) (aC:List (aI)) (r1:List (aZ)) (r2:List (aI)) (w:World) (jI:Kd.C iJ w aQ aG.length aG) (jU:aG.length<=aK) (jE:Kd.C iE w aT aC.length aC) (jS:aC.length<=aJ) (h:nV.f aG aC=some (r1,r2)):
    Calls Tryd.prog 16 #[.agg #[.slice aQ aG.length aK,.slice aT aC.length aJ]] w fun e w'=>∃ iG nC:Value,e=.returned (.agg #[iG,nC])/\Kd.R iJ 89 w' w.heap.size (fun _=>True) iG r1/\Kd.R iE 91 w' w.heap.size (fun _=>True) nC r2/\Below w.heap.size w w':=by
 have zH:=Tryd.underlying25
 have eU:=aA.mk jI
 have fK:=aA.mk jU
 clear jI jU
 have fB:=aA.mk jE
 have fM:=aA.mk jS
 clear jE jS
 have HB:=aA.mk (Below.refl w.heap.size w)
 have H:((some (([]:List (aZ)):List (aZ))).bind fun sK=>(if sK.length+aG.length<8796093022208 then((some (([]:List (aI)):List (aI))).bind fun nO=>(if nO.length+aC.length<2932031007402 then(some ((sK++aG),(nO++aC)))else(none)))else(none)))=some (r1,r2):=h
 clear h
 obtain⟨sK,TA⟩:∃ y_:List (aZ),y_=(([]:List (aZ))):=⟨_,rfl⟩
 replace H:(if sK.length+aG.length<8796093022208 then((some (([]:List (aI)):List (aI))).bind fun nO=>(if nO.length+aC.length<2932031007402 then(some ((sK++aG),(nO++aC)))else(none)))else(none))=some (r1,r2):=by first|(rw[TA];with_reducible exact H)|(have dJ:=(Option.bind_some _ _).symm.trans H;rw[TA];with_reducible exact dJ)|(have dJ:=(Option.bind_some _ _).symm.trans H;with_reducible exact dJ)|with_reducible exact H|(rw[TA];exact H)|exact H
 have YK:=aA.mk TA
 clear TA
 by_cases c2:sK.length+aG.length<8796093022208
 ·rw[if_pos c2]at H
  have adE:=aA.mk c2
  clear c2
  obtain⟨yE,TB⟩:∃ y_:List (aZ),y_=(sK++aG):=⟨_,rfl⟩
  replace H:((some (([]:List (aI)):List (aI))).bind fun nO=>(if nO.length+aC.length<2932031007402 then(some (yE,(nO++aC)))else(none)))=some (r1,r2):=by first|(rw[TB];with_reducible exact H)|(have dJ:=(Option.bind_some _ _).symm.trans H;rw[TB];with_reducible exact dJ)|(have dJ:=(Option.bind_some _ _).symm.trans H;with_reducible exact dJ)|with_reducible exact H|(rw[TB];exact H)|exact H
  have adF:=aA.mk TB
  clear TB
  obtain⟨nO,TC⟩:∃ y_:List (aI),y_=(([]:List (aI))):=⟨_,rfl⟩
  replace H:(if nO.length+aC.length<2932031007402 then(some (yE,(nO++aC)))else(none))=some (r1,r2):=by first|(rw[TC];with_reducible exact H)|(have dJ:=(Option.bind_some _ _).symm.trans H;rw[TC];with_reducible exact dJ)|(have dJ:=(Option.bind_some _ _).symm.trans H;with_reducible exact dJ)|with_reducible exact H|(rw[TC];exact H)|exact H
  have OD:=aA.mk TC
  clear TC
  by_cases c3:nO.length+aC.length<2932031007402
  ·rw[if_pos c3]at H
   have aAX:=aA.mk c3
   clear c3
   obtain⟨YL,TD⟩:∃ y_:List (aI),y_=(nO++aC):=⟨_,rfl⟩
   replace H:(some (yE,YL))=some (r1,r2):=by first|(rw[TD];with_reducible exact H)|(have dJ:=(Option.bind_some _ _).symm.trans H;rw[TD];with_reducible exact dJ)|(have dJ:=(Option.bind_some _ _).symm.trans H;with_reducible exact dJ)|with_reducible exact H|(rw[TD];exact H)|exact H
   have aAY:=aA.mk TD
   clear TD
   simp only[Option.some.injEq,Prod.mk.injEq]at H
   obtain⟨rfl,rfl⟩:=H
   go_enter Tryd.func16,Tryd.ntmps16
   try go_wp2_with (first|((with_reducible refine dU (N:=1) rfl ?_);refine eX 1 #[.slice aQ aG.length aK,.slice aT aC.length aJ] 25 ?_;intro uJ hg w4 hbox hb;have dD:=aA.mk (hbox);have a4K:=gw hg HB;have a4L:=gw hg HB;replace HB:=bs HB hb;clear hb hbox hg)|((with_reducible refine dU (N:=2) rfl ?_);refine eX 2 #[.slice none 0 0,.slice none 0 0] 25 ?_;intro oQ hg w5 hbox hb;have eQ:=aA.mk (hbox);have a4M:=gw hg HB;have a4N:=gw hg HB;have OE:=nl hg dD;have alT:=ng hg dD;replace dD:=bb dD hb;replace HB:=bs HB hb;clear hb hbox hg))
   have aV:=aA.mk (gI dD.out)
   have aW:=aA.mk (gI eQ.out)
   have aY:=aA.mk (sW HB.out)
   clear dD eQ HB
   have dD:=aV
   have eQ:=aW
   have HB:=aY
   clear aV aW aY
   refine xP (n:=10) (S:=fun w'=>w'.cell? ⟨uJ,0,none⟩=some (.slice aQ aG.length aK)/\w'.cell? ⟨uJ,1,none⟩=some (.slice aT aC.length aJ)) (ds:=[]) (bl 10 0) (by kernel_rfl) rfl rfl ⟨kc dD 0,kc dD 1⟩ (fun hHeld=>?_);refine yS nV.afJ nV.afK (fun aN jG=>?_)
   generalize w5.drew=w6 at dD eQ HB hHeld ⊢
   refine pS 1 4 10 2 aN ?_
   refine pS 5 8 10 34 aN ?_
   refine tq 2 (some 5) (bl 10 38) aN jG hHeld (h:=?_)
   refine tq 6 (some 9) (bl 10 102) aN jG hHeld (h:=?_)
   refine atD (σ:=Value×Value×Value) 3 (bl 10 127) (fun s_=>[(3,s_.1),(6,s_.2.1),(7,s_.2.2)]) (fun s_ w'=>(w'.cell? ⟨uJ,0,none⟩=some (.slice aQ aG.length aK)/\w'.cell? ⟨uJ,1,none⟩=some (.slice aT aC.length aJ))/\(Kd.R iJ 89 w' w.heap.size (fun _=>True) s_.2.1 yE)/\(Kd.R iE 91 w' w.heap.size (fun _=>True) s_.2.2 nO)/\(w'.heap[uJ]? =some (.cells #[.slice aQ aG.length aK,.slice aT aC.length aJ] 25 (0,0)))/\(w'.heap[oQ]? =some (.cells #[.slice none 0 0,.slice none 0 0] 25 (0,0)))/\(Below w.heap.size w w')) ?_ ?_
   rotate_left
   ·intro QF
    refine ae6 (i:=0) (j:=4) (Ni:=some 3) (Nj:=some 7) (bl 10 103) (bl 10 118) rfl rfl rfl rfl (ae7 aN.out (by kernel_rfl)) (by decide) (by decide) (fun K hK=>?_) (fun K hK=>?_)
    ·skip
     refine Kd.QA iJ _ 89 ?hg (N:=3) ?hd (xs:=([]:List (aZ))) (inner:=[]) (ok:=fun _=>True) (lS:=fun _=>True) ?hr ?hp (fun _ hk=>hk) trivial (Below.refl _ _) (Nat.le_refl _) (by simp) ?_;(case hd=>rfl);(case hg=>rfl);(case hr=>first|(go_simp;done)|(go_simp;rfl));(case hp=>exact(gX.none _ _))
     intro v222 w7 sN hb mF mG
     clear mF mG
     (first|rw[<-YK.out]at sN|(simp only[Int.reduceToNat]at sN;rw[<-YK.out]at sN))
     have aV:=aA.mk (Kd.eF sN (dH (Bq HB)))
     have aW:=bb dD hb
     have aY:=bb eQ hb
     have bI:=bs HB hb
     clear dD eQ HB
     have oH:=aV
     have dD:=aW
     have eQ:=aY
     have HB:=bI
     clear aV aW aY bI hb sN
     refine hK.out _ _ ⟨kc dD 0,kc dD 1⟩ (fun hHeld=>?_)
     clear hK K
     refine nq 3 ?_
     refine ae6 (i:=3) (j:=4) (Ni:=some 6) (Nj:=some 7) (bl 10 111) (bl 10 119) rfl rfl rfl rfl (ae7 aN.out (by kernel_rfl)) (by decide) (by decide) (fun K hK=>?_) (fun K hK=>?_)
     ·skip
      refine Kd.ZX iJ (w0:=w) w.heap.size (by rfl) (.tmp 3) (.tmp 5) 22 89 (.agg #[(.int .i64 0),(.int .i64 0)]) 16 rfl Tryd.underlying22 ae9 rfl (by decide) (by omega) v222 sK aG _ _ _ (fun _=>True) (fun _=>False) rfl rfl ?aO ?aR (fun _ _ h=>h) (fun _ h=>h.elim) ?aF ?aB ?aS ?aL ?_
      (case aR=>repeat(first|exact(Kd.bJ eU.out HB.out)|(with_reducible refine Kd.jZ ?_ _)|(with_reducible refine Kd.kD ?_ _)|(with_reducible refine Kd.kC ?_)))
      (case aB=>exact(Bq HB))
      (case aF=>exact(fun _ _=>trivial))
      (case aO=>exact(R_ oH))
      (case aS=>exact(dH (Bq HB)))
      (case aL=>have:=adE.out;omega)
      intro BI w9 ho hb hg hat
      rw[<-adF.out]at ho
      have aV:=aA.mk (oM (g:=uJ) (o:=.cells #[.slice aQ aG.length aK,.slice aT aC.length aJ] 25 (0,0)) (b_ dD) hg (Kd.mW oH.out dD.out (by decide)))
      have aW:=aA.mk (oM (g:=oQ) (o:=.cells #[.slice none 0 0,.slice none 0 0] 25 (0,0)) (b_ eQ) hg (Kd.mW oH.out eQ.out (by decide)))
      have aY:=aA.mk (hb)
      have bI:=aA.mk (ho)
      clear dD eQ HB oH
      have dD:=aV
      have eQ:=aW
      have HB:=aY
      have oO:=bI
      clear aV aW aY bI ho hb hg hat
      refine hK.out _ _ ⟨kc dD 0,kc dD 1⟩ (fun hHeld=>?_)
      clear hK K
      refine nq 6 ?_
      refine lI (i:=4) (N:=some 7) (bl 10 127) rfl rfl (lJ aN.out (by kernel_rfl)) (by decide) (fun K hK=>?_)
      refine Kd.QA iE _ 91 ?hg (N:=7) ?hd (xs:=([]:List (aI))) (inner:=[]) (ok:=fun _=>True) (lS:=fun _=>True) ?hr ?hp (fun _ hk=>hk) trivial (Below.refl _ _) (Nat.le_refl _) (by simp) ?_;(case hd=>rfl);(case hg=>rfl);(case hr=>first|(go_simp;done)|(go_simp;rfl));(case hp=>exact(gX.none _ _))
      intro v228 w10 ER hb mF mG
      clear mF mG
      (first|rw[<-OD.out]at ER|(simp only[Int.reduceToNat]at ER;rw[<-OD.out]at ER))
      have aV:=RB oO hb
      have aW:=aA.mk (Kd.eF ER (dH (Bq HB)))
      have aY:=bb dD hb
      have bI:=bb eQ hb
      have cO:=bs HB hb
      clear oO dD eQ HB
      have oO:=aV
      have mV:=aW
      have dD:=aY
      have eQ:=bI
      have HB:=cO
      clear aV aW aY bI cO hb ER
      refine hK.out _ _ ⟨kc dD 0,kc dD 1⟩ (fun hHeld=>?_)
      clear hK K
      refine nq 7 ?_
      exact MH (by simp only[CY,Act.put,List.setIfInBounds_toArray,List.set_cons_zero,List.set_cons_succ]) (QF (v222,BI,v228) _ ⟨hHeld,(R_ oO),(R_ mV),(b_ dD),(b_ eQ),(Bq HB)⟩)
     skip
     refine Kd.QA iE _ 91 ?hg (N:=7) ?hd (xs:=([]:List (aI))) (inner:=[]) (ok:=fun _=>True) (lS:=fun _=>True) ?hr ?hp (fun _ hk=>hk) trivial (Below.refl _ _) (Nat.le_refl _) (by simp) ?_;(case hd=>rfl);(case hg=>rfl);(case hr=>first|(go_simp;done)|(go_simp;rfl));(case hp=>exact(gX.none _ _))
     intro v228 w9 sO hb mF mG
     clear mF mG
     (first|rw[<-OD.out]at sO|(simp only[Int.reduceToNat]at sO;rw[<-OD.out]at sO))
     have aV:=RB oH hb
     have aW:=aA.mk (Kd.eF sO (dH (Bq HB)))
     have aY:=bb dD hb
     have bI:=bb eQ hb
     have cO:=bs HB hb
     clear oH dD eQ HB
     have oH:=aV
     have mV:=aW
     have dD:=aY
     have eQ:=bI
     have HB:=cO
     clear aV aW aY bI cO hb sO
     refine hK.out _ _ ⟨kc dD 0,kc dD 1⟩ (fun hHeld=>?_)
     clear hK K
     refine nq 7 ?_
     refine lI (i:=3) (N:=some 6) (bl 10 127) rfl rfl (lJ aN.out (by kernel_rfl)) (by decide) (fun K hK=>?_)
     refine Kd.ZX iJ (w0:=w) w.heap.size (by rfl) (.tmp 3) (.tmp 5) 22 89 (.agg #[(.int .i64 0),(.int .i64 0)]) 16 rfl Tryd.underlying22 ae9 rfl (by decide) (by omega) v222 sK aG _ _ _ (fun _=>True) (fun _=>False) rfl rfl ?aO ?aR (fun _ _ h=>h) (fun _ h=>h.elim) ?aF ?aB ?aS ?aL ?_
     (case aR=>repeat(first|exact(Kd.bJ eU.out HB.out)|(with_reducible refine Kd.jZ ?_ _)|(with_reducible refine Kd.kD ?_ _)|(with_reducible refine Kd.kC ?_)))
     (case aB=>exact(Bq HB))
     (case aF=>exact(fun _ _=>trivial))
     (case aO=>exact(R_ oH))
     (case aS=>exact(dH (Bq HB)))
     (case aL=>have:=adE.out;omega)
     intro BI vK ho hb hg hat
     rw[<-adF.out]at ho
     have aV:=aA.mk (oM (g:=uJ) (o:=.cells #[.slice aQ aG.length aK,.slice aT aC.length aJ] 25 (0,0)) (b_ dD) hg (Kd.mW oH.out dD.out (by decide)))
     have aW:=aA.mk (oM (g:=oQ) (o:=.cells #[.slice none 0 0,.slice none 0 0] 25 (0,0)) (b_ eQ) hg (Kd.mW oH.out eQ.out (by decide)))
     have aY:=aA.mk (Kd.mO (R_ mV) (Kd.mM (R_ oH)) (by decide) hg)
     have bI:=aA.mk (hb)
     have cO:=aA.mk (ho)
     clear dD eQ mV HB oH
     have dD:=aV
     have eQ:=aW
     have mV:=aY
     have HB:=bI
     have oO:=cO
     clear aV aW aY bI cO ho hb hg hat
     refine hK.out _ _ ⟨kc dD 0,kc dD 1⟩ (fun hHeld=>?_)
     clear hK K
     refine nq 6 ?_
     exact MH (by simp only[CY,Act.put,List.setIfInBounds_toArray,List.set_cons_zero,List.set_cons_succ]) (QF (v222,BI,v228) _ ⟨hHeld,(R_ oO),(R_ mV),(b_ dD),(b_ eQ),(Bq HB)⟩)
    skip
    refine Kd.QA iE _ 91 ?hg (N:=7) ?hd (xs:=([]:List (aI))) (inner:=[]) (ok:=fun _=>True) (lS:=fun _=>True) ?hr ?hp (fun _ hk=>hk) trivial (Below.refl _ _) (Nat.le_refl _) (by simp) ?_;(case hd=>rfl);(case hg=>rfl);(case hr=>first|(go_simp;done)|(go_simp;rfl));(case hp=>exact(gX.none _ _))
    intro v228 w7 sN hb mF mG
    clear mF mG
    (first|rw[<-OD.out]at sN|(simp only[Int.reduceToNat]at sN;rw[<-OD.out]at sN))
    have aV:=aA.mk (Kd.eF sN (dH (Bq HB)))
    have aW:=bb dD hb
    have aY:=bb eQ hb
    have bI:=bs HB hb
    clear dD eQ HB
    have mV:=aV
    have dD:=aW
    have eQ:=aY
    have HB:=bI
    clear aV aW aY bI hb sN
    refine hK.out _ _ ⟨kc dD 0,kc dD 1⟩ (fun hHeld=>?_)
    clear hK K
    refine nq 7 ?_
    refine lI (i:=0) (N:=some 3) (bl 10 119) rfl rfl (lJ aN.out (by kernel_rfl)) (by decide) (fun K hK=>?_)
    refine Kd.QA iJ _ 89 ?hg (N:=3) ?hd (xs:=([]:List (aZ))) (inner:=[]) (ok:=fun _=>True) (lS:=fun _=>True) ?hr ?hp (fun _ hk=>hk) trivial (Below.refl _ _) (Nat.le_refl _) (by simp) ?_;(case hd=>rfl);(case hg=>rfl);(case hr=>first|(go_simp;done)|(go_simp;rfl));(case hp=>exact(gX.none _ _))
    intro v222 w9 sO hb mF mG
    clear mF mG
    (first|rw[<-YK.out]at sO|(simp only[Int.reduceToNat]at sO;rw[<-YK.out]at sO))
    have aV:=RB mV hb
    have aW:=aA.mk (Kd.eF sO (dH (Bq HB)))
    have aY:=bb dD hb
    have bI:=bb eQ hb
    have cO:=bs HB hb
    clear mV dD eQ HB
    have mV:=aV
    have oH:=aW
    have dD:=aY
    have eQ:=bI
    have HB:=cO
    clear aV aW aY bI cO hb sO
    refine hK.out _ _ ⟨kc dD 0,kc dD 1⟩ (fun hHeld=>?_)
    clear hK K
    refine nq 3 ?_
    refine lI (i:=3) (N:=some 6) (bl 10 127) rfl rfl (lJ aN.out (by kernel_rfl)) (by decide) (fun K hK=>?_)
    refine Kd.ZX iJ (w0:=w) w.heap.size (by rfl) (.tmp 3) (.tmp 5) 22 89 (.agg #[(.int .i64 0),(.int .i64 0)]) 16 rfl Tryd.underlying22 ae9 rfl (by decide) (by omega) v222 sK aG _ _ _ (fun _=>True) (fun _=>False) rfl rfl ?aO ?aR (fun _ _ h=>h) (fun _ h=>h.elim) ?aF ?aB ?aS ?aL ?_
    (case aR=>repeat(first|exact(Kd.bJ eU.out HB.out)|(with_reducible refine Kd.jZ ?_ _)|(with_reducible refine Kd.kD ?_ _)|(with_reducible refine Kd.kC ?_)))
    (case aB=>exact(Bq HB))
    (case aF=>exact(fun _ _=>trivial))
    (case aO=>exact(R_ oH))
    (case aS=>exact(dH (Bq HB)))
    (case aL=>have:=adE.out;omega)
    intro BI vK ho hb hg hat
    rw[<-adF.out]at ho
    have aV:=aA.mk (oM (g:=uJ) (o:=.cells #[.slice aQ aG.length aK,.slice aT aC.length aJ] 25 (0,0)) (b_ dD) hg (Kd.mW oH.out dD.out (by decide)))
    have aW:=aA.mk (oM (g:=oQ) (o:=.cells #[.slice none 0 0,.slice none 0 0] 25 (0,0)) (b_ eQ) hg (Kd.mW oH.out eQ.out (by decide)))
    have aY:=aA.mk (Kd.mO (R_ mV) (Kd.mM (R_ oH)) (by decide) hg)
    have bI:=aA.mk (hb)
    have cO:=aA.mk (ho)
    clear dD eQ mV HB oH
    have dD:=aV
    have eQ:=aW
    have mV:=aY
    have HB:=bI
    have oO:=cO
    clear aV aW aY bI cO ho hb hg hat
    refine hK.out _ _ ⟨kc dD 0,kc dD 1⟩ (fun hHeld=>?_)
    clear hK K
    refine nq 6 ?_
    exact MH (by simp only[CY,Act.put,List.setIfInBounds_toArray,List.set_cons_zero,List.set_cons_succ]) (QF (v222,BI,v228) _ ⟨hHeld,(R_ oO),(R_ mV),(b_ dD),(b_ eQ),(Bq HB)⟩)
   rintro⟨v222,BI,v228⟩ w12 ⟨hS_,WW,WX,WY,WZ,XA⟩
   have aV:aA (Kd.R iJ 89 w12 w.heap.size (fun _=>True) BI yE):=⟨WW⟩
   have aW:aA (Kd.R iE 91 w12 w.heap.size (fun _=>True) v228 nO):=⟨WX⟩
   have aY:aA (w12.heap[uJ]? =some (.cells #[.slice aQ aG.length aK,.slice aT aC.length aJ] 25 (0,0))):=⟨WY⟩
   have bI:aA (w12.heap[oQ]? =some (.cells #[.slice none 0 0,.slice none 0 0] 25 (0,0))):=⟨WZ⟩
   have cO:aA (Below w.heap.size w w12):=⟨XA⟩
   clear dD eQ HB WW WX WY WZ XA
   have oO:=aV
   have mV:=aW
   have dD:=aY
   have eQ:=bI
   have HB:=cO
   clear aV aW aY bI cO
   have hHeld:w12.cell? ⟨uJ,0,none⟩=some (.slice aQ aG.length aK)/\w12.cell? ⟨uJ,1,none⟩=some (.slice aT aC.length aJ):=hS_
   refine MH (a':=?_) ?_ ?_
   rotate_left
   ·simp only[CY,Act.put,List.setIfInBounds_toArray,List.set_cons_zero,List.set_cons_succ]
    rfl
   refine lI (i:=7) (N:=some 10) (bl 10 255) rfl rfl (lJ aN.out (by kernel_rfl)) (by decide) (fun K hK=>?_)
   refine Kd.ZX iE (w0:=w) w.heap.size (by rfl) (.tmp 7) (.tmp 9) 23 91 (.agg #[(.int .i64 0),(.int .i64 0),(.int .i64 0),(.int .i64 0),(.int .i64 0),(.bool false)]) 48 rfl Tryd.underlying23 aCU rfl (by decide) (by omega) v228 nO aC _ _ _ (fun _=>True) (fun _=>False) rfl rfl ?aO ?aR (fun _ _ h=>h) (fun _ h=>h.elim) ?aF ?aB ?aS ?aL ?_
   (case aR=>repeat(first|exact(Kd.bJ fB.out HB.out)|(with_reducible refine Kd.jZ ?_ _)|(with_reducible refine Kd.kD ?_ _)|(with_reducible refine Kd.kC ?_)))
   (case aB=>exact(Bq HB))
   (case aF=>exact(fun _ _=>trivial))
   (case aO=>exact(R_ mV))
   (case aS=>exact(dH (Bq HB)))
   (case aL=>have:=aAX.out;omega)
   intro wO tV ho hb hg hat
   rw[<-aAY.out]at ho
   have aV:=aA.mk (oM (g:=uJ) (o:=.cells #[.slice aQ aG.length aK,.slice aT aC.length aJ] 25 (0,0)) (b_ dD) hg (Kd.mW mV.out dD.out (by decide)))
   have aW:=aA.mk (oM (g:=oQ) (o:=.cells #[.slice none 0 0,.slice none 0 0] 25 (0,0)) (b_ eQ) hg (Kd.mW mV.out eQ.out (by decide)))
   have aY:=aA.mk (Kd.mO (R_ oO) (Kd.mM (R_ mV)) (by decide) hg)
   have bI:=aA.mk (hb)
   have cO:=aA.mk (ho)
   clear dD eQ oO HB mV
   have dD:=aV
   have eQ:=aW
   have oO:=aY
   have HB:=bI
   have TE:=cO
   clear aV aW aY bI cO ho hb hg hat
   obtain⟨XE,XF,alU⟩:=Kd.dA TE.out
   (first|subst alU|(injection alU with kG pF kH;have pG:=kG.symm;have pI:=kH.symm;clear kG pF kH;subst pG;subst pI))
   obtain⟨VY,VZ,alV⟩:=Kd.dA oO.out
   (first|subst alV|(injection alV with kG pF kH;have pG:=kG.symm;have pI:=kH.symm;clear kG pF kH;subst pG;subst pI))
   refine hK.out _ _ ⟨kc dD 0,kc dD 1⟩ (fun hHeld=>?_)
   clear hK K
   refine nq 10 ?_
   refine pS 8 11 10 511 aN ?_
   refine lI (i:=9) (N:=none) (bl 10 1023) rfl rfl (lJ aN.out (by kernel_rfl)) (by decide) (fun K hK=>?_)
   have aKC:tV.cell? ⟨oQ,0,none⟩=some (.slice none 0 0):=kc eQ 0
   have aKD:=aX eQ.out 0
   have aKE:=OE.out
   have aKF:=alT.out
   have a4O:tV.cell? ⟨oQ,1,none⟩=some (.slice none 0 0):=kc eQ 1
   have a4P:=aX eQ.out 1
   have a4Q:=OE.out
   have a4R:=alT.out
   refine ahB (w1:=?_) (by rfl) rfl ?_ ?_
   rotate_left
   ·go_simp
    rfl
   refine hK.out _ _ ⟨((cell_far (p:=⟨oQ,_,none⟩) OE.out _).trans (((cell_far (p:=⟨oQ,_,none⟩) OE.out _).trans (hHeld.1)))),((cell_far (p:=⟨oQ,_,none⟩) OE.out _).trans (((cell_far (p:=⟨oQ,_,none⟩) OE.out _).trans (hHeld.2))))⟩ (fun hHeld=>?_)
   clear hK K
   refine xQ (yR aN.out (by kernel_rfl)) ?_
   try go_wp2
   refine bodyPost_ret (results_cell_row rfl _ _ oQ 25 #[.slice VY yE.length VZ,.slice XE YL.length XF] (0,0) _ rfl (by exact dE (cs:=#[.slice VY yE.length VZ,.slice none 0 0]) (dE (cs:=#[.slice none 0 0,.slice none 0 0]) (b_ eQ) 0 _ rfl) 1 _ rfl) Tryd.underlying25 rfl (by kernel_rfl)) rfl ?_
   exact⟨_,_,by first|rfl|(simp[iU,iV]<;>rfl)|(simp[*,iU,iV]<;>rfl),by(with_reducible repeat(first|apply Kd.fQ|apply Kd.fU|apply Kd.dG));exact Kd.bQ (Kd.bK (p:=⟨oQ,1,none⟩) (Kd.bK (p:=⟨oQ,0,none⟩) (Kd.gB oO.out eQ.out (by decide)) (fun _ hk=>hk.2) (.slice VY yE.length VZ)) (fun _ hk=>hk.2) (.slice XE YL.length XF)) (fun _ hk=>trivial),by(with_reducible repeat(first|apply Kd.fQ|apply Kd.fU|apply Kd.dG));exact Kd.bQ (Kd.bK (p:=⟨oQ,1,none⟩) (Kd.bK (p:=⟨oQ,0,none⟩) (Kd.gB TE.out eQ.out (by decide)) (fun _ hk=>hk.2) (.slice VY yE.length VZ)) (fun _ hk=>hk.2) (.slice XE YL.length XF)) (fun _ hk=>trivial),Bq HB⟩
  rw[if_neg c3]at H
  exact absurd H (by simp)
 rw[if_neg c2]at H
 exact absurd H (by simp)
end Go.Proofs.YtcmfnebcmmklkaaDoor.Q
namespace Go.Proofs.YtcmfnebcmmklkaaDoor.Hand
open Go.RowKit Go.Shelf Go.Proofs.YtcmfnebcmmklkaaDoorW.dQ Go.Proofs.YtcmfnebcmmklkaaDoorW.gG Go.Proofs.YtcmfnebcmmklkaaDoor.Q
theorem yN {n:Nat} (h:n<=10000):wrap64 ((n:Int)+1)=((n+1:Nat):Int):=by rw[jF (by omega) (by omega)];simp
theorem PQ (a b c:Int):qX.f a b c=some (decide (b<=a/\a<=c)):=by
 unfold qX.f
 split
 ·rename_i h
  congr 1
  rw[Bool.eq_iff_iff,decide_eq_true_iff,decide_eq_true_iff]
  omega
 ·rename_i h
  rw[decide_eq_false (by omega)]
theorem aAZ (a b c:Int):IA.f a b c=some (decide (0<=a/\a<=b/\b<=c)):=by
 unfold IA.f
 rw[PQ]
 simp only[Option.bind_some,decide_eq_true_iff]
 split
 ·rename_i h
  congr 1
  rw[Bool.eq_iff_iff,decide_eq_true_iff,decide_eq_true_iff]
  omega
 ·rename_i h
  rw[decide_eq_false (by omega)]
theorem aA0 (x:aZ):MP x=true↔(0<=x.f0/\x.f0<=144)/\0<=x.f1/\x.f1<=144:=by
 simp[MP,allIn,xR]
 try omega
theorem aA1 (n:Nat) (x:aI):DY n x=true↔(0<=x.f0/\x.f0<=(n:Int) - 1)/\(0<=x.f1.f0/\x.f1.f0<=x.f1.f1/\x.f1.f1<=144)/\0<=x.f2.f0/\x.f2.f0<=x.f2.f1/\x.f2.f1<=144:=by
 simp[DY,UE,allIn,xR]
 try omega
theorem aA2 {l:List aZ} {i:Nat} (h:i<l.length):dK l i=l[i]:=by
 unfold dK
 simp[List.getD_eq_getElem?_getD,h]
theorem aA3 {l:List aI} {i:Nat} (h:i<l.length):aU l i=l[i]:=by
 unfold aU
 simp[List.getD_eq_getElem?_getD,h]
theorem aA4 (os:List aZ) (ls:List aI) (h5:os.length<=5) (h8:ls.length<=8):∀ m i k:Nat,i+m=ls.length->m<k->
  jH.l1 k (i:Int) os ls=some (if(ls.drop i).all (fun x=>DY os.length x)=true then 0 else 2):=by
 intro m
 induction m with
 |zero=>
  intro i k hi hk
  obtain⟨k,rfl⟩:∃ j,k=j+1:=⟨k - 1,by omega⟩
  unfold jH.l1
  rw[if_neg (by omega),List.drop_eq_nil_of_le (by omega)]
  rfl
 |succ m ih=>
  intro i k hi hk
  obtain⟨k,rfl⟩:∃ j,k=j+1:=⟨k - 1,by omega⟩
  have hl:i<ls.length:=by omega
  have hn:=ih (i+1) k (by omega) (by omega)
  have hb:=aA1 os.length ls[i]
  have hw:wrap64 ((os.length:Int) - 1)=os.length - 1:=jF (by omega) (by omega)
  unfold jH.l1
  rw[if_pos (by omega),if_pos (by omega),List.drop_eq_getElem_cons hl,List.all_cons,aA3 hl,hw,PQ,yN (by omega),hn]
  simp only[Option.bind_some,decide_eq_true_iff,aAZ]
  by_cases h1:0<=ls[i].f0/\ls[i].f0<=(os.length:Int) - 1
  ·rw[if_pos h1]
   by_cases h2:0<=ls[i].f1.f0/\ls[i].f1.f0<=ls[i].f1.f1/\ls[i].f1.f1<=144
   ·rw[if_pos h2]
    by_cases h3:0<=ls[i].f2.f0/\ls[i].f2.f0<=ls[i].f2.f1/\ls[i].f2.f1<=144
    ·rw[if_pos h3,hb.2 ⟨h1,h2,h3⟩,Bool.true_and]
    ·rw[if_neg h3,Bool.eq_false_iff.2 (fun hh=>h3 (hb.1 hh).2.2),Bool.false_and,if_neg Bool.false_ne_true]
   ·rw[if_neg h2,Bool.eq_false_iff.2 (fun hh=>h2 (hb.1 hh).2.1),Bool.false_and,if_neg Bool.false_ne_true]
  ·rw[if_neg h1,Bool.eq_false_iff.2 (fun hh=>h1 (hb.1 hh).1),Bool.false_and,if_neg Bool.false_ne_true]
theorem aA5 (os:List aZ) (ls:List aI) (h5:os.length<=5) (h8:ls.length<=8):∀ m i k:Nat,i+m=os.length->m+9<k->
  jH.l0 k (i:Int) os ls=some (if((os.drop i).all (fun x=>MP x)&&ls.all (fun x=>DY os.length x))=true then 0 else 2):=by
 intro m
 induction m with
 |zero=>
  intro i k hi hk
  obtain⟨k,rfl⟩:∃ j,k=j+1:=⟨k - 1,by omega⟩
  unfold jH.l0
  rw[if_neg (by omega),List.drop_eq_nil_of_le (by omega)]
  exact aA4 os ls h5 h8 ls.length 0 k (by omega) (by omega)
 |succ m ih=>
  intro i k hi hk
  obtain⟨k,rfl⟩:∃ j,k=j+1:=⟨k - 1,by omega⟩
  have hl:i<os.length:=by omega
  have hn:=ih (i+1) k (by omega) (by omega)
  have hb:=aA0 os[i]
  unfold jH.l0
  rw[if_pos (by omega),if_pos (by omega),List.drop_eq_getElem_cons hl,List.all_cons,aA2 hl,PQ,yN (by omega),hn]
  simp only[Option.bind_some,decide_eq_true_iff,PQ]
  by_cases h1:0<=os[i].f0/\os[i].f0<=144
  ·rw[if_pos h1]
   by_cases h2:0<=os[i].f1/\os[i].f1<=144
   ·rw[if_pos h2,hb.2 ⟨h1,h2⟩,Bool.true_and]
   ·rw[if_neg h2,Bool.eq_false_iff.2 (fun hh=>h2 (hb.1 hh).2),Bool.false_and,Bool.false_and,if_neg Bool.false_ne_true]
  ·rw[if_neg h1,Bool.eq_false_iff.2 (fun hh=>h1 (hb.1 hh).1),Bool.false_and,Bool.false_and,if_neg Bool.false_ne_true]
theorem alW {α:Type} (p:α->Bool) (l:List α):l.any (fun x=> !p x)= !l.all p:=by
 rw[List.all_eq_not_any_not,Bool.not_not]
theorem aA6 (os:List aZ) (ls:List aI) (k:Nat) (hk:15<=k):jH.f k os ls=some (oP os ls):=by
 unfold jH.f oP
 rw[PQ]
 simp only[Option.bind_some,decide_eq_true_iff]
 have ha:allIn 1 5 [(os.length:Int)]=true↔1<=(os.length:Int)/\(os.length:Int)<=5:=by
  simp[allIn,xR]
  try omega
 by_cases h1:1<=(os.length:Int)/\(os.length:Int)<=5
 ·rw[if_pos h1,if_pos (ha.2 h1)]
  by_cases h2:8<ls.length
  ·rw[if_pos (by omega),if_pos h2]
  ·rw[if_neg (by omega),if_neg h2,alW,alW]
   have:=aA5 os ls (by omega) (by omega) os.length 0 k (by omega) (by omega)
   rw[List.drop_zero]at this
   refine this.trans ?_
   congr 1
   cases os.all (fun x=>MP x)<;>cases ls.all (fun x=>DY os.length x)<;>rfl
 ·rw[if_neg h1,if_neg (fun h=>h1 (ha.1 h))]
theorem aA7 (os:List aZ) (ls:List aI) (h:ls.length<=1000):∀ m i k:Nat,i+m=ls.length->m<k->kJ.l1 k (i:Int) os ls os ls=some true:=by
 intro m
 induction m with
 |zero=>
  intro i k hi hk
  obtain⟨k,rfl⟩:∃ j,k=j+1:=⟨k - 1,by omega⟩
  unfold kJ.l1
  rw[if_neg (by omega)]
 |succ m ih=>
  intro i k hi hk
  obtain⟨k,rfl⟩:∃ j,k=j+1:=⟨k - 1,by omega⟩
  unfold kJ.l1
  rw[if_pos (by omega),if_pos (by omega),if_pos (by omega),if_neg (by simp),yN (by omega)]
  exact ih (i+1) k (by omega) (by omega)
theorem aA8 (os:List aZ) (ls:List aI) (h:ls.length<=1000) (ho:os.length<=1000):∀ m i k:Nat,i+m=os.length->m+ls.length+1<k->kJ.l0 k (i:Int) os ls os ls=some true:=by
 intro m
 induction m with
 |zero=>
  intro i k hi hk
  obtain⟨k,rfl⟩:∃ j,k=j+1:=⟨k - 1,by omega⟩
  unfold kJ.l0
  rw[if_neg (by omega)]
  exact aA7 os ls h ls.length 0 k (by omega) (by omega)
 |succ m ih=>
  intro i k hi hk
  obtain⟨k,rfl⟩:∃ j,k=j+1:=⟨k - 1,by omega⟩
  unfold kJ.l0
  rw[if_pos (by omega),if_pos (by omega),if_pos (by omega),if_neg (by simp),yN (by omega)]
  exact ih (i+1) k (by omega) (by omega)
theorem aA9 (os:List aZ) (ls:List aI) (h:ls.length<=1000) (ho:os.length<=1000) (k:Nat) (hk:os.length+ls.length+2<k):kJ.f k os ls os ls=some true:=by
 obtain⟨k,rfl⟩:∃ j,k=j+1:=⟨k - 1,by omega⟩
 rw[kJ.f,if_pos rfl,kJ.j0,if_neg (by simp)]
 exact aA8 os ls h ho os.length 0 k (by omega) (by omega)
theorem aBA (l:List Int) (h:l.length<=1000):∀ m i k:Nat,i+m=l.length->2*m+1<k->oJ.l0 k l l (i:Int)=some 0:=by
 intro m
 induction m with
 |zero=>
  intro i k hi hk
  obtain⟨k,rfl⟩:∃ j,k=j+2:=⟨k - 2,by omega⟩
  rw[oJ.l0,if_neg (by omega),oJ.j1,if_neg (by simp),Int.sub_self,jF (by omega) (by omega)]
 |succ m ih=>
  intro i k hi hk
  obtain⟨k,rfl⟩:∃ j,k=j+2:=⟨k - 2,by omega⟩
  rw[oJ.l0,if_pos (by omega),oJ.j1,if_pos (by simp;omega),if_pos (by omega),if_pos (by omega),if_pos (by omega),if_pos rfl,yN (by omega)]
  exact ih (i+1) k (by omega) (by omega)
theorem asQ (l:List Int) (h:l.length<=1000) (k:Nat) (hk:2*l.length+1<k):oD.f k l l=some true:=by
 unfold oD.f oJ.f
 rw[show(0:Int)=((0:Nat):Int)from rfl,aBA l h l.length 0 k (by omega) (by omega)]
 rfl
end Go.Proofs.YtcmfnebcmmklkaaDoor.Hand
namespace Go.Proofs.YtcmfnebcmmklkaaDoor.Q
open Go.RowKit Go.Proofs.YtcmfnebcmmklkaaDoorW.dQ Go.Proofs.YtcmfnebcmmklkaaDoorW.oU Go.Proofs.YtcmfnebcmmklkaaDoorW.gG
attribute [local go_sem] uA uB uC uD uM uN uO uP   -- for this text's walks alone
theorem aQH (d:Nat) (w:World) (x0 y0:Int) (x1 y1:Int) (x2 y2:Int):
  (Op.equalIn (d+2) 109 (.agg #[.int .i64 x0,.int .i64 x1,.int .i64 x2]) (.agg #[.int .i64 y0,.int .i64 y1,.int .i64 y2])).run Tryd.prog w=.ok (x0==y0&&(x1==y1&&(x2==y2))) w:=by
 refine atJ Tryd.underlying109 (by kernel_rfl) ?_
 refine ae8 (by rfl) (by go_simp;rfl) (by go_simp;rfl) (by go_simp) ?_
 refine ae8 (by rfl) (by go_simp;rfl) (by go_simp;rfl) (by go_simp) ?_
 exact atI (by rfl) (by go_simp;rfl) (by go_simp;rfl) (by go_simp)
attribute [local go_sem] uA uB uC uD uM uN uO uP   -- for this text's walks alone
attribute [local go_sem high] aQH
def oW.l0:Nat->Int->Int->List Int->Int->Option (List Int)
  |0,_,_,_,_=>none
  |k+1,x0,x1,x5,x6=>if x6<x1 then(if 0<=(IntKind.u64.wrap (x6))then(if(Go.bits .and .i64 (shr .i64 x0 (IntKind.u64.wrap (x6))) 1)=1 then(if x5.length<17592186044416 then(oW.l0 k x0 x1 (x5++[x6]) (wrap64 (x6+1)))else(none))else(oW.l0 k x0 x1 x5 (wrap64 (x6+1))))else(none))else(some x5)
def oW.f (k:Nat) (a0:Int) (a1:Int):Option (List Int):=oW.l0 k a0 a1 (([]:List Int)) 0
theorem oW.calls (k:Nat) (a0:Int) (a1:Int) (r:List Int) (w:World) (h:oW.f k a0 a1=some r):
    Calls Tryd.prog 76 #[.int .i64 a0,.int .i64 a1] w fun e w'=>∃ iG:Value,e=.returned (iG)/\Kd.R (Kd.int .i64) 3 w' w.heap.size (fun _=>True) iG r/\Below w.heap.size w w':=by
 have HB:=aA.mk (Below.refl w.heap.size w)
 have H:(oW.l0 k a0 a1 (([]:List Int)) 0)=some r:=h
 clear h
 obtain⟨aBB,adG⟩:∃ y_:List Int,y_=(([]:List Int)):=⟨_,rfl⟩
 replace H:(oW.l0 k a0 a1 aBB 0)=some r:=by first|(rw[adG];with_reducible exact H)|(have dJ:=(Option.bind_some _ _).symm.trans H;rw[adG];with_reducible exact dJ)|(have dJ:=(Option.bind_some _ _).symm.trans H;with_reducible exact dJ)|with_reducible exact H|(rw[adG];exact H)|exact H
 have aBC:=aA.mk adG
 clear adG
 have H':=aA.mk H
 clear H
 go_enter Tryd.func76,Tryd.ntmps76
 go_wp2_with (first|((with_reducible refine dU (N:=7) rfl ?_);refine Kd.YX (Kd.int .i64) _ 3 ?hg (N:=7) ?hd (xs:=([]:List Int)) (inner:=[]) (ok:=fun _=>True) (lS:=fun _=>True) ?hr ?hp (fun _ hk=>hk) trivial (Below.refl _ _) (Nat.le_refl _) (by simp) ?_;(case hd=>rfl);(case hg=>rfl);(case hr=>first|(go_simp;done)|(go_simp;rfl));(case hp=>exact(gX.none _ _));intro bqI w3 BF hb mF mG;clear mF mG;(first|rw[<-aBC.out]at BF|(simp only[Int.reduceToNat]at BF;rw[<-aBC.out]at BF));have aQI:=aA.mk (Kd.eF BF (dH (Bq HB)));replace HB:=bs HB hb;clear hb BF))
 go_loopg [5,6] k (fun kq v5 v6 w'=>∃ (bC:List Int) (dZ:Int),v6=.int .i64 dZ/\aA (oW.l0 kq a0 a1 bC dZ=some r)/\aA (kq<=k)/\aA (Kd.R (Kd.int .i64) 3 w' w.heap.size (fun _=>True) v5 bC)/\aA (Below w.heap.size w w'))
 case atStart=>exact⟨(aBB),(0),(by first|rfl|(simp;done)|(simp[*];done)),H',⟨Nat.le_refl _⟩,⟨R_ aQI⟩,⟨Bq HB⟩⟩
 case round=>
  clear H'
  obtain⟨bC,dZ,rfl,HA,fV,bP,HB⟩:=hrel
  rcases gk with _|k1
  ·exact absurd HA.out (by simp[oW.l0])
  have H:=HA.out
  clear HA
  simp only[oW.l0]at H
  by_cases c5:dZ<a1
  ·rw[if_pos c5]at H
   have ad8:decide (dZ<a1)=true:=decide_eq_true c5
   clear c5
   obtain⟨TF,aBD⟩:∃ j_:Int,(IntKind.u64.wrap (dZ))=j_:=⟨_,rfl⟩
   replace H:(if 0<=(TF)then(if(Go.bits .and .i64 (shr .i64 a0 (TF)) 1)=1 then(if bC.length<17592186044416 then(oW.l0 k1 a0 a1 (bC++[dZ]) (wrap64 (dZ+1)))else(none))else(oW.l0 k1 a0 a1 bC (wrap64 (dZ+1))))else(none))=some r:=by first|(rw[aBD]at H;exact H)|(simp only[aBD]at H ⊢;exact H)
   by_cases c7:0<=(TF)
   ·rw[if_pos c7]at H
    have afF:=eq_true c7
    have bqJ:decide (0<=(TF))=true:=decide_eq_true c7
    clear c7
    obtain⟨TG,agQ⟩:∃ j_:Int,(shr .i64 a0 (TF))=j_:=⟨_,rfl⟩
    replace H:(if(Go.bits .and .i64 (TG) 1)=1 then(if bC.length<17592186044416 then(oW.l0 k1 a0 a1 (bC++[dZ]) (wrap64 (dZ+1)))else(none))else(oW.l0 k1 a0 a1 bC (wrap64 (dZ+1))))=some r:=by first|(rw[agQ]at H;exact H)|(simp only[agQ]at H ⊢;exact H)
    have bqK:(a0 / 2^min (TF).toNat 64)=TG:=agQ
    have bqL:(TF)<=64->(a0 / 2^(TF).toNat)=TG:=aCP agQ
    by_cases c9:(Go.bits .and .i64 (TG) 1)=1
    ·rw[if_pos c9]at H
     have QC:((Go.bits .and .i64 (TG) 1)==1)=true:=beq_iff_eq.mpr c9
     have afH:((Go.bits .and .i64 (TG) 1)!=1)=false:=bne_eq_false_iff_eq.mpr c9
     clear c9
     by_cases c10:bC.length<17592186044416
     ·rw[if_pos c10]at H
      have aQJ:=aA.mk c10
      clear c10
      obtain⟨aBE,adH⟩:∃ y_:List Int,y_=(bC++[dZ]):=⟨_,rfl⟩
      replace H:(oW.l0 k1 a0 a1 aBE (wrap64 (dZ+1)))=some r:=by first|(rw[adH];with_reducible exact H)|(have dJ:=(Option.bind_some _ _).symm.trans H;rw[adH];with_reducible exact dJ)|(have dJ:=(Option.bind_some _ _).symm.trans H;with_reducible exact dJ)|with_reducible exact H|(rw[adH];exact H)|exact H
      have aQK:=aA.mk adH
      clear adH
      have H':=aA.mk H
      clear H
      go_wp2_with (first|((with_reducible refine VC (b:=.append) (xs:=#[.tmp 19,.tmp 21]) rfl ?_);at_builtin;refine Kd.WR (Kd.int .i64) (w0:=w) w.heap.size rfl (.tmp 19) (.tmp 21) 34 3 (.int .i64 0) 8 rfl Tryd.underlying34 info3 rfl (by decide) (by omega) u5 bC dZ [.int .i64 dZ] (fun _=>True) (fun _=>False) rfl rfl ?aP (fun _ hk=>hk.elim) ?aF ?aO ?aB ?aS ?aL ?_;(case aP=>exact rfl);(case aB=>exact(Bq HB));(case aF=>exact(fun _ _=>trivial));(case aO=>exact(R_ bP));(case aS=>exact(dH (Bq HB)));(case aL=>have:=aQJ.out;omega);intro bqM vK ho hb hg hat;rw[<-aQK.out]at ho;have aV:=aA.mk (hb);have aW:=aA.mk (ho);clear HB;clear bP;have HB:=aV;have aQL:=aW;clear aV aW;clear ho hb hg hat))
      go_roundg k1
      case measure=>have:=fV.out;omega
      case rel=>exact⟨(aBE),(wrap64 (dZ+1)),(by first|rfl|(simp;done)|(simp[*];done)),H',⟨by have:=fV.out;omega⟩,⟨R_ aQL⟩,⟨Bq HB⟩⟩
     rw[if_neg c10]at H
     exact absurd H (by simp)
    rw[if_neg c9]at H
    have QC:((Go.bits .and .i64 (TG) 1)==1)=false:=beq_eq_false_iff_ne.mpr c9
    have afH:((Go.bits .and .i64 (TG) 1)!=1)=true:=bne_iff_ne.mpr c9
    have H':=aA.mk H
    clear H
    go_wp2
    go_roundg k1
    case measure=>have:=fV.out;omega
    case rel=>exact⟨(bC),(wrap64 (dZ+1)),(by first|rfl|(simp;done)|(simp[*];done)),H',⟨by have:=fV.out;omega⟩,⟨R_ bP⟩,⟨Bq HB⟩⟩
   rw[if_neg c7]at H
   exact absurd H (by simp)
  rw[if_neg c5]at H
  have ad8:decide (dZ<a1)=false:=decide_eq_false c5
  clear c5
  obtain rfl:=Option.some.inj H
  go_wp2
  go_ret
  exact⟨_,by first|rfl|(simp[iU,iV]<;>rfl)|(simp[*,iU,iV]<;>rfl),R_ bP,Bq HB⟩
def adI.f (k:Nat) (l0:List Int) (l1:List Int):Option (Bool):=if(l0.length:Int)=(l1.length:Int)then((oJ.f k l0 l1).bind fun asR=>(some (decide (asR<0))))else(some (decide ((l0.length:Int)<(l1.length:Int))))
theorem adI.calls (k:Nat) (A0:Option Addr) (c0:Nat) (l0:List Int) (A1:Option Addr) (c1:Nat) (l1:List Int) (r:Bool) (w:World) (hr0:Kd.C (Kd.int .i64) w A0 l0.length l0) (hc0:l0.length<=c0) (hr1:Kd.C (Kd.int .i64) w A1 l1.length l1) (hc1:l1.length<=c1) (h:adI.f k l0 l1=some r):
    Calls Tryd.prog 77 #[.slice A0 l0.length c0,.slice A1 l1.length c1] w fun e w'=>e=.returned (.bool r)/\iI w w':=by
 have HR0:=aA.mk hr0
 have HC0:=aA.mk hc0
 clear hr0 hc0
 have HR1:=aA.mk hr1
 have HC1:=aA.mk hc1
 clear hr1 hc1
 have H:(if(l0.length:Int)=(l1.length:Int)then((oJ.f k l0 l1).bind fun asR=>(some (decide (asR<0))))else(some (decide ((l0.length:Int)<(l1.length:Int)))))=some r:=h
 clear h
 by_cases c3:(l0.length:Int)=(l1.length:Int)
 ·rw[if_pos c3]at H
  have WU:((l0.length:Int)==(l1.length:Int))=true:=beq_iff_eq.mpr c3
  have aaA:((l0.length:Int)!=(l1.length:Int))=false:=bne_eq_false_iff_eq.mpr c3
  have amR:(l0.length==l1.length)=true:=by first|simpa using c3|(simp at c3 ⊢;omega)
  clear c3
  replace H:=Option.bind_eq_some_iff.mp H
  obtain⟨asR,vG,H⟩:=H
  replace H:(some (decide (asR<0)))=some r:=H
  have A4:=aA.mk vG
  clear vG
  obtain rfl:=Option.some.inj H
  go_enter Tryd.func77,Tryd.ntmps77
  go_wp2_with (first|((with_reducible refine gJ (f:=72) rfl ?_);refine cE 17 Tryd.func72 #[.slice A0 l0.length c0,.slice A1 l1.length c1] ?_;refine(oJ.calls k _ _ l0 _ _ l1 asR _ (by repeat(first|exact HR0.out|(with_reducible refine Kd.jZ ?_ _)|(with_reducible refine Kd.kD ?_ _)|(with_reducible refine Kd.kC ?_))) HC0.out (by repeat(first|exact HR1.out|(with_reducible refine Kd.jZ ?_ _)|(with_reducible refine Kd.kD ?_ _)|(with_reducible refine Kd.kC ?_))) HC1.out A4.out).mono ?_;rintro e w' ⟨rfl,⟨nd,rfl⟩⟩;refine⟨_,rfl,?_⟩))
  go_ret
  exact⟨by first|rfl|(simp;done)|(simp[*];done),by repeat(first|exact iI.refl _|apply iI.step)⟩
 rw[if_neg c3]at H
 have WU:((l0.length:Int)==(l1.length:Int))=false:=beq_eq_false_iff_ne.mpr c3
 have aaA:((l0.length:Int)!=(l1.length:Int))=true:=bne_iff_ne.mpr c3
 have amR:(l0.length==l1.length)=false:=by first|simpa using c3|(simp at c3 ⊢;omega)
 obtain rfl:=Option.some.inj H
 go_enter Tryd.func77,Tryd.ntmps77
 go_wp2
 go_ret
 exact⟨by first|rfl|(simp;done)|(simp[*];done),by repeat(first|exact iI.refl _|apply iI.step)⟩
attribute [local go_sem] uA uB uC uD uM uN uO uP
def jT.l0:Nat->List Int->Bool->Int->List (aZ)->List (aI)->Option (List Int)
 |0,_,_,_,_,_=>none
 |k+1,x3,x4,x5,yI,xX=>(pY.f yI xX).bind fun t152=>(if x5<=t152 then((oW.f k x5 (xX.length:Int)).bind fun t153=>(if x4=true then((adI.f k t153 x3).bind fun t156=>(if t156=true then((pY.f yI xX).bind fun t157=>((eG.f k yI xX (wrap64 (t157 - x5))).bind fun t158=>(if t158=true then(jT.l0 k t153 true (wrap64 (x5+1)) yI xX)else(jT.l0 k x3 x4 (wrap64 (x5+1)) yI xX))))else(jT.l0 k x3 x4 (wrap64 (x5+1)) yI xX)))else((pY.f yI xX).bind fun t159=>((eG.f k yI xX (wrap64 (t159 - x5))).bind fun t160=>(if t160=true then(jT.l0 k t153 true (wrap64 (x5+1)) yI xX)else(jT.l0 k x3 x4 (wrap64 (x5+1)) yI xX))))))else(some x3))
def jT.f (k:Nat) (aG:List (aZ)) (aC:List (aI)):Option (List Int):=jT.l0 k (([]:List Int)) false 0 aG aC
def jT.T6:Bool×List (List Nat×List Nat):=(true,[([],[]),([0],[0]),([1],[1]),([2],[2]),([2],[2]),([3,4,2,2],[2,3,4]),([2,5],[2,5]),([6,5],[6]),([7],[7]),([7],[7]),([9,7,7],[7,9]),([7],[7]),([10,11,7],[7,10,11]),([8,12,10,7],[7,8,12]),([7,13],[7,13])])
def jT.B6:List Nat:=[0,1,3,7,7,31,63,127,255,255,767,255,3839,8191,16383]
theorem jT.tab6:qW .any (opsOf Tryd.f30 6)=jT.T6:=by kernel_rfl
theorem jT.amZ:CZ jT.T6.2 jT.B6=true:=by kernel_rfl
attribute [local go_sem] uA uB uC uD uM uN uO uP
def dW.j0:Nat->List Int->Int->Int->List Int->Option (Bool)
 |0,_,_,_,_=>none
 |k+1,x4,x5,x6,x7=>if x6=0 then(if x5=0 then((oD.f k x4 x7).bind fun t183=>(if t183=true then((oN.f).bind fun _=>(some true))else(some false)))else(some false))else(if x5=x6 then(if(x4.length:Int)=0 then((oN.f).bind fun _=>(some true))else(some false))else(some false))
def dW.f (k:Nat) (aG:List (aZ)) (aC:List (aI)):Option (Bool):=(OQ.f aG aC).bind fun t162=>(if t162=true then((oN.f).bind fun _=>(some true))else((nV.f aG aC).bind fun PR=>((aaW.f PR.1 PR.2).bind fun wE=>((kJ.f k PR.1 PR.2 aG aC).bind fun t175=>(if t175=true then((jH.f k aG aC).bind fun t176=>(if t176=0 then((jT.f k aG aC).bind fun t180=>(if(t180.length:Int)=0 then(dW.j0 k wE.1 wE.2 6 t180)else(dW.j0 k wE.1 wE.2 t176 t180)))else(dW.j0 k wE.1 wE.2 t176 (([]:List Int)))))else(some false))))))
end Go.Proofs.YtcmfnebcmmklkaaDoor.Q
namespace Go.Proofs.YtcmfnebcmmklkaaDoor.Hand
open Go.RowKit Go.Shelf Go.Proofs.YtcmfnebcmmklkaaDoorW.dQ Go.Proofs.YtcmfnebcmmklkaaDoorW.gG Go.Proofs.YtcmfnebcmmklkaaDoor.Q
def PS (s:Nat) (i:Nat):List Int:=((List.range i).filter fun j=>s.testBit j).map Int.ofNat
theorem aQM (s i:Nat):PS s (i+1)=PS s i++(if s.testBit i=true then[(i:Int)]else[]):=by
 unfold PS
 rw[List.range_succ,List.filter_append,List.map_append]
 congr 1
 cases h:s.testBit i<;>simp[h]
theorem aQN (s i:Nat):(PS s i).length<=i:=by
 unfold PS
 rw[List.length_map]
 exact Nat.le_trans (List.length_filter_le _ _) (by simp)
theorem aQO {s n:Nat} (hn:n<=8) (hs:s<2^n):PS s n=iQ s:=by
 unfold PS iQ bitsOf
 congr 1
 have h8:List.range 8=List.range n++List.range' n (8 - n):=by
  rw[List.range_eq_range',List.range_eq_range',show(8:Nat)=n+(8 - n) by omega,<-List.range'_append_1]
  simp
 rw[h8,List.filter_append]
 have h7:(List.range' n (8 - n)).filter (fun i=>s.testBit i)=[]:=by
  rw[List.filter_eq_nil_iff]
  intro i hi
  rw[List.mem_range'_1]at hi
  rw[Nat.testBit_lt_two_pow (Nat.lt_of_lt_of_le hs (Nat.pow_le_pow_right (by decide) hi.1))]
  exact Bool.false_ne_true
 rw[h7,List.append_nil]
theorem aQP (n:Nat) (hn:n<=8) (s:Nat) (hs:s<256):∀ m i k:Nat,i+m=n->m<k->oW.l0 k (s:Int) (n:Int) (PS s i) (i:Int)=some (PS s n):=by
 intro m
 induction m with
 |zero=>
  intro i k hi hk
  obtain⟨k,rfl⟩:∃ j,k=j+1:=⟨k - 1,by omega⟩
  obtain rfl:i=n:=by omega
  unfold oW.l0
  rw[if_neg (by omega)]
 |succ m ih=>
  intro i k hi hk
  obtain⟨k,rfl⟩:∃ j,k=j+1:=⟨k - 1,by omega⟩
  obtain⟨hb,hw⟩:=aoV s hs i (by omega)
  have hl:=aQN s i
  have hn':=ih (i+1) k (by omega) (by omega)
  rw[aQM]at hn'
  unfold oW.l0
  rw[if_pos (by omega),if_pos hw,yN (by omega)]
  by_cases ht:s.testBit i=true
  ·rw[if_pos ht]at hn'
   rw[if_pos (hb.2 ht),if_pos (by omega)]
   exact hn'
  ·rw[if_neg ht,List.append_nil]at hn'
   rw[if_neg (fun h=>ht (hb.1 h))]
   exact hn'
theorem aQQ {n:Nat} (hn:n<=8) {s:Nat} (hs:s<2^n) (k:Nat) (hk:9<=k):oW.f k (s:Int) (n:Int)=some (iQ s):=by
 have h8:2^n<=2^8:=Nat.pow_le_pow_right (by decide) hn
 rw[<-aQO hn hs]
 exact aQP n hn s (by omega) n 0 k (by omega) (by omega)
def OG:List Int->List Int->Int
 |x::xs,y::ys=>if x=y then OG xs ys else x - y
 |xs,ys=>(xs.length:Int) - ys.length
theorem aBF (xs ys:List Int) (h:xs=[]∨ys=[]):OG xs ys=(xs.length:Int) - ys.length:=by
 cases xs with
 |nil=>rfl
 |cons x xs=>cases ys with
  |nil=>rfl
  |cons y ys=>rcases h with h|h<;>cases h
theorem aQR (a b:List Int) (ha:a.length<=1000) (hb:b.length<=1000) (ha2:∀ x∈a,-1000<=x/\x<=1000) (hb2:∀ x∈b,-1000<=x/\x<=1000):∀ n i k:Nat,i+n=a.length->i<=b.length->2*n+1<k->oJ.l0 k a b i=some (OG (a.drop i) (b.drop i)):=by
 intro n
 induction n with
 |zero=>
  intro i k h hib hk
  obtain⟨k,rfl⟩:∃ j,k=j+2:=⟨k - 2,by omega⟩
  rw[oJ.l0,if_neg (by omega),oJ.j1,if_neg (by simp),jF (by omega) (by omega),aBF _ _ (.inl (List.drop_eq_nil_of_le (by omega)))]
  rw[List.length_drop,List.length_drop]
  congr 1
  omega
 |succ n ih=>
  intro i k h hib hk
  obtain⟨k,rfl⟩:∃ j,k=j+2:=⟨k - 2,by omega⟩
  have h1:i<a.length:=by omega
  rw[oJ.l0,if_pos (by omega),oJ.j1]
  by_cases h2:i<b.length
  ·rw[if_pos (by simp;omega),if_pos (by omega),if_pos (by omega),if_pos (by omega),List.drop_eq_getElem_cons h1,List.drop_eq_getElem_cons h2,OG,YJ h1,YJ h2,yN (by omega)]
   have e1:=ha2 _ (List.getElem_mem h1)
   have e2:=hb2 _ (List.getElem_mem h2)
   rw[jF (x:=a[i] - b[i]) (by omega) (by omega),ih (i+1) k (by omega) (by omega) (by omega)]
   split<;>rfl
  ·rw[if_neg (by simp;omega),jF (by omega) (by omega),aBF _ _ (.inr (List.drop_eq_nil_of_le (by omega)))]
   rw[List.length_drop,List.length_drop]
   congr 1
   omega
theorem aQS (a b:List Int) (ha:a.length<=1000) (hb:b.length<=1000) (ha2:∀ x∈a,-1000<=x/\x<=1000) (hb2:∀ x∈b,-1000<=x/\x<=1000) (k:Nat) (hk:2*a.length+2<=k):oJ.f k a b=some (OG a b):=
 aQR a b ha hb ha2 hb2 a.length 0 k (by omega) (by omega) (by omega)
theorem a4S:∀ a b:List Int,a.length=b.length->(OG a b<0↔lexB a b=true)
 |[],[],_=>by simp[OG,lexB]
 |[],_::_,h=>by simp at h
 |_::_,[],h=>by simp at h
 |x::a,y::b,h=>by
  simp only[OG,lexB]
  by_cases hxy:x=y
  ·rw[if_pos hxy,if_pos hxy]
   exact a4S a b (by simpa using h)
  ·rw[if_neg hxy,if_neg hxy,decide_eq_true_iff]
   omega
theorem aQT (s:Nat):∀ x∈iQ s,0<=x/\x<8:=by
 intro x hx
 obtain⟨i,hi,rfl⟩:=List.mem_map.1 hx
 have:=List.mem_range.1 (List.mem_filter.1 hi).1
 simp only[Int.ofNat_eq_natCast]
 omega
theorem aBG (s:Nat):∀ x∈iQ s,-1000<=x/\x<=1000:=fun x hx=>by
 have:=aQT s x hx
 omega
theorem aBH (s:Nat):(iQ s).length<=8:=by
 unfold iQ bitsOf
 rw[List.length_map]
 exact Nat.le_trans (List.length_filter_le _ _) (by simp)
theorem bqN (a b:List Int) (ha:a.length<=8) (hb:b.length<=8) (ha2:∀ x∈a,-1000<=x/\x<=1000) (hb2:∀ x∈b,-1000<=x/\x<=1000) (k:Nat) (hk:18<=k):adI.f k a b=some (ab6 a b):=by
 unfold adI.f ab6
 by_cases h:a.length=b.length
 ·rw[if_pos (by omega),if_pos h,aQS a b (by omega) (by omega) ha2 hb2 k (by omega)]
  simp only[Option.bind_some]
  congr 1
  rw[Bool.eq_iff_iff,decide_eq_true_iff]
  exact a4S a b h
 ·rw[if_neg (by omega),if_neg h]
  congr 1
  rw[Bool.eq_iff_iff,decide_eq_true_iff,decide_eq_true_iff]
  omega
theorem a4T (is:Nat->Bool) (f:Nat->List Int):∀ k b,pR is f k=some b->∃ s,s<k/\b=f s
 |0,b,h=>by cases h
 |k+1,b,h=>by
  unfold pR at h
  split at h
  ·split at h
   ·exact⟨k,by omega,(Option.some.inj h).symm⟩
   ·cases h
  ·rename_i c hc
   split at h
   ·exact⟨k,by omega,(Option.some.inj h).symm⟩
   ·obtain⟨s,h1,h2⟩:=a4T is f k c hc
    exact⟨s,by omega,(Option.some.inj h).symm.trans h2⟩
theorem a4U (is:Nat->Bool) (k:Nat):((pR is iQ k).getD []).length<=8/\∀ x∈(pR is iQ k).getD [],-1000<=x/\x<=1000:=by
 cases h:pR is iQ k with
 |none=>exact⟨Nat.zero_le _,fun x hx=>by cases hx⟩
 |some b=>
  obtain⟨s,_,rfl⟩:=a4T _ _ _ _ h
  exact⟨aBH s,aBG s⟩
theorem bqO {n s:Nat} (hs:s<2^n):∀ i,i<n->(2^n - 1 - s).testBit i= !s.testBit i:=by
 intro i hi
 rw[show 2^n - 1 - s=2^n - (s+1) by omega,Nat.testBit_two_pow_sub_succ hs]
 simp[hi]
theorem bqP {os:List aZ} {ls:List aI} (h:oP os ls=0):∀ m s k:Nat,s+m=2^ls.length->m+40<k->
  jT.l0 k ((pR (vZ os ls) iQ s).getD []) (pR (vZ os ls) iQ s).isSome (s:Int) os ls=some ((pR (vZ os ls) iQ (2^ls.length)).getD []):=by
 obtain⟨h5,h8,_,_⟩:=FM h
 have hp:2^ls.length<=2^8:=Nat.pow_le_pow_right (by decide) h8
 have hp0:0<2^ls.length:=Nat.two_pow_pos _
 have hall:=alS os ls h8
 intro m
 induction m with
 |zero=>
  intro s k hs hk
  obtain⟨k,rfl⟩:∃ j,k=j+1:=⟨k - 1,by omega⟩
  obtain rfl:s=2^ls.length:=by omega
  unfold jT.l0
  rw[hall]
  simp only[Option.bind_some]
  rw[if_neg (by omega)]
 |succ m ih=>
  intro s k hs hk
  obtain⟨k,rfl⟩:∃ j,k=j+1:=⟨k - 1,by omega⟩
  have hs2:s<2^ls.length:=by omega
  have hn:=ih (s+1) k (by omega) (by omega)
  have hnum:=aQQ h8 hs2 k (by omega)
  have ht:=aAW h (t:=2^ls.length - 1 - s) (by omega) (bqO hs2) k (by omega)
  have hsub:wrap64 (((2^ls.length - 1:Nat):Int) - (s:Int))=((2^ls.length - 1 - s:Nat):Int):=by rw[jF (by omega) (by omega)];omega
  obtain⟨f1,f2⟩:=a4U (vZ os ls) s
  have hfew:=bqN (iQ s) ((pR (vZ os ls) iQ s).getD []) (aBH s) f1 (aBG s) f2 k (by omega)
  unfold jT.l0
  rw[hall]
  simp only[Option.bind_some]
  rw[if_pos (by omega),hnum,hsub,ht,yN (by omega)]
  simp only[Option.bind_some]
  rw[hfew]
  simp only[Option.bind_some]
  rw[pR]at hn
  cases hf:pR (vZ os ls) iQ s with
  |none=>
   rw[hf]at hn
   simp only[Option.isSome_none,Bool.false_eq_true,if_false]at hn ⊢
   by_cases hi:vZ os ls s=true
   ·rw[if_pos hi]at hn ⊢
    exact hn
   ·rw[if_neg hi]at hn ⊢
    exact hn
  |some b=>
   rw[hf]at hn
   simp only[Option.isSome_some,if_true,Option.getD_some]at hn ⊢
   by_cases hb:ab6 (iQ s) b=true
   ·rw[if_pos hb]
    by_cases hi:vZ os ls s=true
    ·rw[if_pos ⟨hb,hi⟩]at hn
     rw[if_pos hi]
     exact hn
    ·rw[if_neg (fun hh=>hi hh.2)]at hn
     rw[if_neg hi]
     exact hn
   ·rw[if_neg (fun hh=>hb hh.1)]at hn
    rw[if_neg hb]
    exact hn
theorem bqQ {os:List aZ} {ls:List aI} (h:oP os ls=0) (k:Nat) (hk:300<=k):jT.f k os ls=some ((ZJ (vZ os ls) ls).getD []):=by
 obtain⟨h5,h8,_,_⟩:=FM h
 have hp:2^ls.length<=2^8:=Nat.pow_le_pow_right (by decide) h8
 exact bqP h (2^ls.length) 0 k (Nat.zero_add _) (by omega)
theorem aQU (os:List aZ) (ls:List aI) (h1:os.length<=10) (h2:ls.length<=20):nV.f os ls=some (os,ls):=by
 unfold nV.f
 simp only[Option.bind_some,List.length_nil,List.nil_append]
 rw[if_pos (by omega),if_pos (by omega)]
theorem bqR (os:List aZ) (ls:List aI) (k:Nat) (hk:400<=k):dW.f k os ls=some true:=by
 unfold dW.f OQ.f
 by_cases hbig:(os.length:Int)>10
 ·rw[if_pos hbig]
  rfl
 ·rw[if_neg hbig]
  simp only[Option.bind_some,decide_eq_true_iff]
  by_cases hbig2:(ls.length:Int)>20
  ·rw[if_pos hbig2]
   rfl
  ·rw[if_neg hbig2,aQU os ls (by omega) (by omega)]
   obtain⟨k,rfl⟩:∃ j,k=j+1:=⟨k - 1,by omega⟩
   have hsame:=aA9 os ls (by omega) (by omega) (k+1) (by omega)
   have hck:=aA6 os ls (k+1) (by omega)
   simp only[Option.bind_some]
   unfold aaW.f
   simp only[Option.bind_some]
   rw[hsame]
   simp only[Option.bind_some,if_true]
   rw[hck]
   simp only[Option.bind_some]
   by_cases h0:oP os ls=0
   ·rw[if_pos h0,bqQ h0 (k+1) (by omega)]
    simp only[Option.bind_some]
    have hl:aeK (vZ os ls) os ls=(ZJ (vZ os ls) ls).getD []:=by unfold aeK;rw[if_pos h0]
    have hlen:=(a4U (vZ os ls) (2^ls.length)).1
    by_cases hnil:(ZJ (vZ os ls) ls).getD []=[]
    ·have he:aaQ (vZ os ls) os ls=6:=by unfold aaQ;rw[if_pos h0,if_pos hnil]
     rw[if_pos (by rw[hnil];rfl),hl,he,hnil]
     rw[dW.j0]
     rw[if_neg (by decide),if_pos rfl,if_pos (by rfl)]
     rfl
    ·have he:aaQ (vZ os ls) os ls=0:=by unfold aaQ;rw[if_pos h0,if_neg hnil]
     rw[if_neg (fun hh=>hnil (List.length_eq_zero_iff.1 (by omega))),hl,he,h0]
     rw[dW.j0]
     rw[if_pos rfl,if_pos rfl,asQ _ (by unfold ZJ;omega) k (by unfold ZJ;omega)]
     rfl
   ·have hl:aeK (vZ os ls) os ls=[]:=by unfold aeK;rw[if_neg h0]
    have he:aaQ (vZ os ls) os ls=oP os ls:=by unfold aaQ;rw[if_neg h0]
    rw[if_neg h0,hl,he]
    rw[dW.j0]
    rw[if_neg h0,if_pos rfl,if_pos (by rfl)]
    rfl
end Go.Proofs.YtcmfnebcmmklkaaDoor.Hand

/- What DozenWeighs reaches beyond the shared texts, and its card. Part 2 of 6. -/
import Derived.Test.YtcmfnebcmmklkaaDoorM3
set_option linter.unusedVariables false
set_option linter.unusedSimpArgs false
set_option maxRecDepth 100000
set_option maxHeartbeats 8000000
namespace Go.Proofs.YtcmfnebcmmklkaaDoor.Q
open Go.RowKit Go.Proofs.YtcmfnebcmmklkaaDoorW.dQ Go.Proofs.YtcmfnebcmmklkaaDoorW.oU Go.Proofs.YtcmfnebcmmklkaaDoorW.gG
attribute [local go_sem] uA uB uC uD uM uN uO uP   -- for this text's walks alone
mutual
def aaN.l0:Nat->List (gQ)->Int->List Int->Int->Int->Int->Option ((List (List Int)))
  |0,_,_,_,_,_,_=>none
  |k+1,x0,x1,x2,x7,x8,x9=>if x9<(x2.length:Int)then(if 0<=x9 then(aaN.l0 k x0 x1 x2 (wrap64 (x7+(rd x2 x9))) (wrap64 (x8+(mx 0 (rd x2 x9)))) (wrap64 (x9+1)))else(none))else(if x8>x1 then(some ([]:List (List Int)))else(if(x2.length:Int)=(x0.length:Int)then(if x7=0 then(some (([x2]:List (List Int))))else(some ([]:List (List Int))))else(if 0<=(x2.length:Int)then(if(x2.length:Int)<(x0.length:Int)then(aaN.l1 k x0 x1 x2 (([]:List (List Int))) (wrap64 (-x1)) ((DC x0 (x2.length:Int)).f0) ((DC x0 (x2.length:Int)).f1) ((DC x0 (x2.length:Int)).f2))else(none))else(none))))
def aaN.l1:Nat->List (gQ)->Int->List Int->List (List Int)->Int->Int->Int->Int->Option ((List (List Int)))
  |0,_,_,_,_,_,_,_,_=>none
  |k+1,x0,x1,x2,x10,x12,aV9,aWC,a4A=>if x12<=x1 then(if(wrap64 (aV9 - x12))≥0 then(if(wrap64 (aWC+x12))≥0 then((some (([]:List Int):List Int)).bind fun arF=>(if arF.length+x2.length<17592186044416 then((some (arF++x2:List Int)).bind fun akH=>(if akH.length<17592186044416 then((aaN.f k x0 x1 (akH++[x12])).bind fun aiM=>(if x10.length+aiM.length<5864062014805 then(aaN.l1 k x0 x1 x2 (x10++aiM) (wrap64 (x12+1)) aV9 aWC a4A)else(none)))else(none)))else(none)))else(aaN.l1 k x0 x1 x2 x10 (wrap64 (x12+1)) aV9 aWC a4A))else(aaN.l1 k x0 x1 x2 x10 (wrap64 (x12+1)) aV9 aWC a4A))else(some x10)
def aaN.f:Nat->List (gQ)->Int->List Int->Option ((List (List Int)))
  |0,_,_,_=>none
  |k+1,l0,a1,l2=>aaN.l0 k l0 a1 l2 0 0 0
end
def aaN.T5:Bool×List (List Nat×List Nat):=(true,[([],[]),([],[]),([],[]),([1,2],[1,2]),([3],[3]),([0,4],[0,4]),([],[]),([],[]),([],[]),([7,8],[7,8]),([9],[9]),([10],[10]),([6,11],[6,11]),([5,0,1,2,3,4,5],[0,5]),([12,13,0,1,2,3,4,5,6,7,8,9,10,11,12,13],[6,12])])
def aaN.B5:List Nat:=[0,0,0,6,14,31,0,0,0,384,896,1920,4032,63,16383]
theorem aaN.aQZ:qW .any (opsOf Tryd.f86 5)=aaN.T5:=by kernel_rfl
theorem aaN.aQ0:CZ aaN.T5.2 aaN.B5=true:=by kernel_rfl
def aaN.T12:Bool×List (List Nat×List Nat):=(true,[([],[]),([],[]),([],[]),([2],[2]),([1,3],[1,3]),([4],[4]),([],[]),([0,0,6],[0]),([6,5,7,0,1,2,3,4,5,6,7],[5,6])])
def aaN.B12:List Nat:=[0,0,0,4,14,30,0,65,255]
theorem aaN.bgJ:qW .any (opsOf Tryd.f86 12)=aaN.T12:=by kernel_rfl
theorem aaN.bgK:CZ aaN.T12.2 aaN.B12=true:=by kernel_rfl
theorem aaN.calls (k:Nat):∀ (A0:Option Addr) (c0:Nat) (l0:List (gQ)) (a1:Int) (P2_:Nat->Prop) (A2:Option Addr) (c2:Nat) (l2:List Int) (r:List (List Int)) (w:World) (hr0:Kd.C vC w A0 l0.length l0) (hc0:l0.length<=c0) (hs2:Kd.V (Kd.int .i64) 3 w w.heap.size (fun k_=>P2_ k_) (.slice A2 l2.length c2) l2) (h:aaN.f k l0 a1 l2=some r),
    Calls Tryd.prog 86 #[.slice A0 l0.length c0,.int .i64 a1,.slice A2 l2.length c2] w fun e w'=>∃ iG:Value,e=.returned (iG)/\Kd.N (Kd.slice 3 (Kd.int .i64)) 34 w' w.heap.size (fun k_=>(P2_ k_∨w.heap.size<=k_)) iG r/\Below w.heap.size w w':=by
 induction k using Nat.strongRecOn with
 |_ k ih=>
 intro A0 c0 l0 a1 P2_ A2 c2 l2 r w hr0 hc0 hs2 h
 cases k with
 |zero=>exact absurd h (by simp[aaN.f])
 |succ k=>
 simp only[aaN.f]at h
 have bDC:=Tryd.underlying109
 have HR0:=aA.mk hr0
 have HC0:=aA.mk hc0
 clear hr0 hc0
 have HO2:=aA.mk (show Kd.V (Kd.int .i64) 3 w w.heap.size (fun k_=>(P2_ k_∨w.heap.size<=k_)) (.slice A2 l2.length c2) l2 from Kd.aj9 hs2 (fun k_ hk=>.inl hk))
 have HB:=aA.mk (Below.refl w.heap.size w)
 have H:(aaN.l0 k l0 a1 l2 0 0 0)=some r:=h
 clear h
 have H':=aA.mk H
 clear H
 go_enter Tryd.func86,Tryd.ntmps86
 go_wp2
 go_loopg [7,8,9] k (fun kq v7 v8 v9 w'=>∃ (XU:Int) (uY:Int) (yF:Int),v7=.int .i64 XU/\v8=.int .i64 uY/\v9=.int .i64 yF/\aA (aaN.l0 kq l0 a1 l2 XU uY yF=some r)/\aA (kq<=k)/\aA (Kd.V (Kd.int .i64) 3 w' w.heap.size (fun k_=>(P2_ k_∨w.heap.size<=k_)) (.slice A2 l2.length c2) l2)/\aA (Below w.heap.size w w'))
 case atStart=>exact⟨(0),(0),(0),(by first|rfl|(simp;done)|(simp[*];done)),(by first|rfl|(simp;done)|(simp[*];done)),(by first|rfl|(simp;done)|(simp[*];done)),H',⟨Nat.le_refl _⟩,⟨by(with_reducible repeat(first|apply Kd.agL|apply Kd.agN|apply Kd.afU));exact HO2.out⟩,⟨Bq HB⟩⟩
 case round=>
  clear H'
  try clear c2
  obtain⟨XU,uY,yF,rfl,rfl,rfl,HA,fV,SK,HB⟩:=hrel
  rcases gk with _|k1
  ·exact absurd HA.out (by simp[aaN.l0])
  have H:=HA.out
  clear HA
  simp only[aaN.l0]at H
  by_cases c4:yF<(l2.length:Int)
  ·rw[if_pos c4]at H
   have yH:decide (yF<(l2.length:Int))=true:=decide_eq_true c4
   clear c4
   by_cases c5:0<=yF
   ·rw[if_pos c5]at H
    have ad8:decide (0<=yF)=true:=decide_eq_true c5
    clear c5
    obtain⟨TF,aBD⟩:∃ j_:Int,(mx 0 (rd l2 yF))=j_:=⟨_,rfl⟩
    replace H:(aaN.l0 k1 l0 a1 l2 (wrap64 (XU+(rd l2 yF))) (wrap64 (uY+(TF))) (wrap64 (yF+1)))=some r:=by first|(rw[aBD]at H;exact H)|(simp only[aBD]at H ⊢;exact H)
    have bD4:(if 0<(rd l2 yF)then(rd l2 yF)else 0)=TF:=aBD
    have H':=aA.mk H
    clear H
    try go_wp2
    have aV:=aA.mk (Kd.afU SK.out)
    have aW:=aA.mk (sW HB.out)
    clear SK HB
    have SK:=aV
    have HB:=aW
    clear aV aW
    have a4B:0<=(yF:Int):=od
    have a4C:yF<(l2.length:Int):=od
    obtain⟨a4D,bF5,bAB⟩:=Kd.BL (Kd.aPF SK.out).2.2 yF a4B a4C
    cases bF5
    replace a4B:=eq_true a4B
    replace a4C:=eq_true a4C
    have a4E:0<=(yF:Int):=od
    have a4F:yF<(l2.length:Int):=od
    obtain⟨bF6,bF7,bAC⟩:=Kd.BL (Kd.aPF SK.out).2.2 yF a4E a4F
    obtain rfl:a4D=bF6:=(by injection bF7)
    replace a4E:=eq_true a4E
    replace a4F:=eq_true a4F
    refine xP (n:=15) (S:=fun w'=>w'.cell? (a4D.add (yF).toNat)=some (.int .i64 (rd l2 yF))/\w'.cell? (a4D.add (yF).toNat)=some (.int .i64 (rd l2 yF))) (ds:=[]) (bl 15 0) (by kernel_rfl) rfl rfl ⟨bAB,bAC⟩ (fun hHeld=>?_);refine yS aaN.aQZ aaN.aQ0 (fun aN jG=>?_)
    generalize wr.drew=w7 at SK HB bAB bAC hHeld ⊢
    refine pS 0 19 15 1 aN ?_
    refine pS 1 20 15 3 aN ?_
    refine pS 2 21 15 7 aN ?_
    refine pS 3 22 15 15 aN ?_
    refine pS 6 25 15 79 aN ?_
    refine pS 7 26 15 207 aN ?_
    refine pS 8 27 15 463 aN ?_
    refine pS 9 28 15 975 aN ?_
    refine tq 4 (some 23) (bl 15 991) aN jG hHeld (h:=?_)
    refine pS 5 24 15 1023 aN ?_
    refine pS 13 7 15 9215 aN ?_
    refine tq 10 (some 29) (bl 15 10239) aN jG hHeld (h:=?_)
    refine pS 11 30 15 12287 aN ?_
    refine pS 12 31 15 16383 aN ?_
    refine pS 14 8 15 32767 aN ?_
    refine xQ (yR aN.out (by kernel_rfl)) ?_
    try go_wp2
    go_roundg k1
    case measure=>have:=fV.out;omega
    case rel=>exact⟨(wrap64 (XU+(rd l2 yF))),(wrap64 (uY+(TF))),(wrap64 (yF+1)),(by first|rfl|(simp;done)|(simp[*];done)),(by first|rfl|(simp;done)|(simp only[<-aBD]<;>(first|rfl|simp))|(simp[*];done)),(by first|rfl|(simp;done)|(simp[*];done)),H',⟨by have:=fV.out;omega⟩,⟨by(with_reducible repeat(first|apply Kd.agL|apply Kd.agN|apply Kd.afU));exact SK.out⟩,⟨Bq HB⟩⟩
   rw[if_neg c5]at H
   exact absurd H (by simp)
  rw[if_neg c4]at H
  have yH:decide (yF<(l2.length:Int))=false:=decide_eq_false c4
  clear c4
  by_cases c8:uY>a1
  ·rw[if_pos c8]at H
   have aDL:decide (a1<uY)=true:=decide_eq_true c8
   clear c8
   obtain rfl:=Option.some.inj H
   go_wp2
   go_ret
   exact⟨_,by first|rfl|(simp[iU,iV]<;>rfl)|(simp[*,iU,iV]<;>rfl),by first|exact Kd.TP _ _ _ _ _|exact Kd.TQ _ _ _ _ _|exact Kd.TR _ _ _ _ _|exact Kd.TM _ _ _ _ _|exact Kd.xI _ _ _ _ _,Bq HB⟩
  rw[if_neg c8]at H
  have aDL:decide (a1<uY)=false:=decide_eq_false c8
  clear c8
  by_cases c9:(l2.length:Int)=(l0.length:Int)
  ·rw[if_pos c9]at H
   have QC:((l2.length:Int)==(l0.length:Int))=true:=beq_iff_eq.mpr c9
   have afH:((l2.length:Int)!=(l0.length:Int))=false:=bne_eq_false_iff_eq.mpr c9
   have bAD:(l2.length==l0.length)=true:=by first|simpa using c9|(simp at c9 ⊢;omega)
   clear c9
   by_cases c10:XU=0
   ·rw[if_pos c10]at H
    have anN:(XU==0)=true:=beq_iff_eq.mpr c10
    have bkN:(XU !=0)=false:=bne_eq_false_iff_eq.mpr c10
    clear c10
    obtain⟨bF8,aGH⟩:∃ y_:List (List Int),y_=(([l2]:List (List Int))):=⟨_,rfl⟩
    replace H:(some bF8)=some r:=by first|(rw[aGH];with_reducible exact H)|(have dJ:=(Option.bind_some _ _).symm.trans H;rw[aGH];with_reducible exact dJ)|(have dJ:=(Option.bind_some _ _).symm.trans H;with_reducible exact dJ)|with_reducible exact H|(rw[aGH];exact H)|exact H
    have bAE:=aA.mk aGH
    clear aGH
    obtain rfl:=Option.some.inj H
    go_wp2_with (first|((with_reducible refine dU (N:=43) rfl ?_);refine Kd.bxX (Kd.slice 3 (Kd.int .i64)) _ 34 ?hg (N':=43) ?hd (xs:=([l2]:List (List Int))) (inner:=[.slice A2 l2.length c2]) (ok:=(fun k_=>(P2_ k_∨w.heap.size<=k_))) (lS:=(fun k_=>(P2_ k_∨w.heap.size<=k_))) ?hr ?hp (fun _ hk=>hk) ((show ∀ k_,wr.heap.size<=k_->(fun k_=>(P2_ k_∨w.heap.size<=k_)) k_ from fun k_ hk=>(.inr (Nat.le_trans (dH (Bq HB)) hk))) _ (Nat.le_refl _)) (Below.refl _ _) (Nat.le_refl _) (by simp) ?_;(case hd=>rfl);(case hg=>rfl);(case hr=>first|(go_simp;done)|(go_simp;rfl));(case hp=>exact(gX.one (show Kd.FK (Kd.slice 3 (Kd.int .i64)) _ _ l2 [.slice A2 l2.length c2]from(Kd.bCR (Kd.aPF (Kd.aj9 (ok':=(fun k_=>(P2_ k_∨w.heap.size<=k_))) (SK.out) (fun k_ hk=>hk))).2.1 (Kd.V_F (Kd.aj9 (ok':=(fun k_=>(P2_ k_∨w.heap.size<=k_))) (SK.out) (fun k_ hk=>hk))))) (gX.none _ _)));intro bRZ vK aj7 hb mF mG;clear mF mG;(first|rw[<-bAE.out]at aj7|(simp only[Int.reduceToNat]at aj7;rw[<-bAE.out]at aj7));have bF9:=aA.mk (Kd.apI aj7 (dH (Bq HB)));replace SK:=aA.mk (Kd.aPK (by(with_reducible repeat(first|apply Kd.agL|apply Kd.agN|apply Kd.afU));exact SK.out) (Kd.arD aj7) hb);replace HB:=bs HB hb;clear hb aj7))
    go_ret
    exact⟨_,by first|rfl|(simp[iU,iV]<;>rfl)|(simp[*,iU,iV]<;>rfl),by(with_reducible repeat(first|apply Kd.aaJ|apply Kd.aaK|apply Kd.RD));exact bF9.out,Bq HB⟩
   rw[if_neg c10]at H
   have anN:(XU==0)=false:=beq_eq_false_iff_ne.mpr c10
   have bkN:(XU !=0)=true:=bne_iff_ne.mpr c10
   obtain rfl:=Option.some.inj H
   go_wp2
   go_ret
   exact⟨_,by first|rfl|(simp[iU,iV]<;>rfl)|(simp[*,iU,iV]<;>rfl),by first|exact Kd.TP _ _ _ _ _|exact Kd.TQ _ _ _ _ _|exact Kd.TR _ _ _ _ _|exact Kd.TM _ _ _ _ _|exact Kd.xI _ _ _ _ _,Bq HB⟩
  rw[if_neg c9]at H
  have QC:((l2.length:Int)==(l0.length:Int))=false:=beq_eq_false_iff_ne.mpr c9
  have afH:((l2.length:Int)!=(l0.length:Int))=true:=bne_iff_ne.mpr c9
  have bAD:(l2.length==l0.length)=false:=by first|simpa using c9|(simp at c9 ⊢;omega)
  obtain⟨aWG,aGI⟩:∃ y_:List (List Int),y_=(([]:List (List Int))):=⟨_,rfl⟩
  replace H:(if 0<=(l2.length:Int)then(if(l2.length:Int)<(l0.length:Int)then(aaN.l1 k1 l0 a1 l2 aWG (wrap64 (-a1)) ((DC l0 (l2.length:Int)).f0) ((DC l0 (l2.length:Int)).f1) ((DC l0 (l2.length:Int)).f2))else(none))else(none))=some r:=by first|(rw[aGI];with_reducible exact H)|(have dJ:=(Option.bind_some _ _).symm.trans H;rw[aGI];with_reducible exact dJ)|(have dJ:=(Option.bind_some _ _).symm.trans H;with_reducible exact dJ)|with_reducible exact H|(rw[aGI];exact H)|exact H
  have aW3:=aA.mk aGI
  clear aGI
  by_cases c13:0<=(l2.length:Int)
  ·rw[if_pos c13]at H
   have aNZ:decide (0<=(l2.length:Int))=true:=decide_eq_true c13
   have aN0:decide (0<=l2.length)=true:=decide_eq_true (by omega)
   clear c13
   by_cases c14:(l2.length:Int)<(l0.length:Int)
   ·rw[if_pos c14]at H
    have aFM:decide ((l2.length:Int)<(l0.length:Int))=true:=decide_eq_true c14
    have brX:decide (l2.length<l0.length)=true:=decide_eq_true (Int.ofNat_lt.mp c14)
    clear c14
    have H':=aA.mk H
    clear H
    try go_wp2
    have aV:=aA.mk (Kd.afU SK.out)
    have aW:=aA.mk (sW HB.out)
    clear SK HB
    have SK:=aV
    have HB:=aW
    clear aV aW
    have aXW:0<=((l2.length:Int):Int):=od
    have aYC:(l2.length:Int)<(l0.length:Int):=od
    obtain⟨ajQ,bGA,aBY,aDU,aD2⟩:=aIW HR0.out (l2.length:Int) aXW aYC
    have afX:=aD2
    have agC:=aDU
    have agD:=aBY
    cases bGA
    replace aBY:=xs HB aBY
    replace aDU:=xs HB aDU
    replace aD2:=xs HB aD2
    (try simp only[Go.IntWalk.toNatUp]at aBY)
    (try simp only[Go.IntWalk.toNatUp]at aDU)
    (try simp only[Go.IntWalk.toNatUp]at aD2)
    replace aXW:=eq_true aXW
    replace aYC:=eq_true aYC
    refine xP (n:=9) (S:=fun w'=>w'.cell? (ajQ.add (l2.length*3))=some (.int .i64 ((DC l0 (l2.length:Int)).f0))/\w'.cell? ⟨(ajQ.add (l2.length*3)).block,(ajQ.add (l2.length*3)).off+1,none⟩=some (.int .i64 ((DC l0 (l2.length:Int)).f1))/\w'.cell? ⟨(ajQ.add (l2.length*3)).block,(ajQ.add (l2.length*3)).off+2,none⟩=some (.int .i64 ((DC l0 (l2.length:Int)).f2))) (ds:=[]) (bl 9 0) (by kernel_rfl) rfl rfl ⟨((HB.out.cell (World.block_lt_of_cell? w _ agD)).trans agD),((HB.out.cell (World.block_lt_of_cell? w _ agC)).trans agC),((HB.out.cell (World.block_lt_of_cell? w _ afX)).trans afX)⟩ (fun hHeld=>?_);refine yS aaN.bgJ aaN.bgK (fun aN jG=>?_)
    generalize wr.drew=vY at SK HB aBY aDU aD2 hHeld ⊢
    refine pS 1 45 9 2 aN ?_
    refine pS 2 46 9 6 aN ?_
    refine pS 3 47 9 14 aN ?_
    refine pS 4 48 9 30 aN ?_
    refine tq 5 (some 49) (bl 9 62) aN jG hHeld (h:=?_)
    refine atD (σ:=Value×Nat) 2 (bl 9 127) (fun s_=>[(44,s_.1),(11,.pointer (some ⟨s_.2,0,none⟩))]) (fun s_ w'=>(w'.cell? (ajQ.add (l2.length*3))=some (.int .i64 ((DC l0 (l2.length:Int)).f0))/\w'.cell? ⟨(ajQ.add (l2.length*3)).block,(ajQ.add (l2.length*3)).off+1,none⟩=some (.int .i64 ((DC l0 (l2.length:Int)).f1))/\w'.cell? ⟨(ajQ.add (l2.length*3)).block,(ajQ.add (l2.length*3)).off+2,none⟩=some (.int .i64 ((DC l0 (l2.length:Int)).f2)))/\(Kd.N (Kd.slice 3 (Kd.int .i64)) 34 w' w.heap.size (fun k_=>(P2_ k_∨w.heap.size<=k_)/\k_≠s_.2) s_.1 aWG)/\(Kd.V (Kd.int .i64) 3 w' w.heap.size (fun k_=>(P2_ k_∨w.heap.size<=k_)/\some k_≠(s_.1:Value).ownBlock/\k_≠s_.2) (.slice A2 l2.length c2) l2)/\(w'.heap[s_.2]? =some (.cells #[.int .i64 0,.int .i64 0,.int .i64 0] 109 (0,0)))/\(w.heap.size<=s_.2)/\(w.heap.size<=s_.2)/\(Below w.heap.size w w')) ?_ ?_
    rotate_left
    ·intro QF
     refine ae6 (i:=0) (j:=6) (Ni:=some 44) (Nj:=some 11) (bl 9 63) (bl 9 126) rfl rfl rfl rfl (ae7 aN.out (by kernel_rfl)) (by decide) (by decide) (fun K hK=>?_) (fun K hK=>?_)
     ·skip
      refine Kd.bCN (Kd.slice 3 (Kd.int .i64)) _ 34 ?hg (N':=44) ?hd (xs:=([]:List (List Int))) (inner:=[]) (ok:=(fun k_=>(P2_ k_∨w.heap.size<=k_))) (lS:=(fun k_=>(P2_ k_∨w.heap.size<=k_))) ?hr ?hp (fun _ hk=>hk) ((show ∀ k_,vY.heap.size<=k_->(fun k_=>(P2_ k_∨w.heap.size<=k_)) k_ from fun k_ hk=>(.inr (Nat.le_trans (dH (Bq HB)) hk))) _ (Nat.le_refl _)) (Below.refl _ _) (Nat.le_refl _) (by simp) ?_;(case hd=>rfl);(case hg=>rfl);(case hr=>first|(go_simp;done)|(go_simp;rfl));(case hp=>exact(gX.none _ _))
      intro aD7 w16 aD8 hb mF mG
      clear mF mG
      (first|rw[<-aW3.out]at aD8|(simp only[Int.reduceToNat]at aD8;rw[<-aW3.out]at aD8))
      have aV:=aA.mk (Kd.aPK (by(with_reducible repeat(first|apply Kd.agL|apply Kd.agN|apply Kd.afU));exact SK.out) (Kd.arD aD8) hb)
      have aW:=aA.mk (Kd.apI aD8 (dH (Bq HB)))
      have aY:=bs HB hb
      clear SK HB
      have SK:=aV
      have arH:=aW
      have HB:=aY
      clear aV aW aY hb aD8
      refine hK.out _ _ ⟨((HB.out.cell (World.block_lt_of_cell? w _ agD)).trans agD),((HB.out.cell (World.block_lt_of_cell? w _ agC)).trans agC),((HB.out.cell (World.block_lt_of_cell? w _ afX)).trans afX)⟩ (fun hHeld=>?_)
      clear hK K
      refine nq 44 ?_
      refine lI (i:=6) (N:=some 11) (bl 9 127) rfl rfl (lJ aN.out (by kernel_rfl)) (by decide) (fun K hK=>?_)
      refine aTG ?hg (N:=11) ?hd (cs:=#[.int .i64 0,.int .i64 0,.int .i64 0]) (t:=109) ?hr ?_;(case hd=>rfl);(case hg=>rfl);(case hr=>first|(go_simp;done)|(go_simp;rfl))
      intro abC hg BM hbox hb
      have aV:=aA.mk (Kd.a1F (Kd.bCQ (by(with_reducible repeat(first|apply Kd.agL|apply Kd.agN|apply Kd.afU));exact SK.out) abC (Nat.le_of_eq hg.symm)) hb)
      have aW:=aA.mk (Kd.apD (Kd.bLE (by(with_reducible repeat(first|apply Kd.aaJ|apply Kd.aaK|apply Kd.RD));exact arH.out) abC (Nat.le_of_eq hg.symm)) hb)
      have aY:=bs HB hb
      have bI:=aA.mk (hbox)
      have cO:=gw hg HB
      have gY:=gw hg HB
      clear SK arH HB
      have SK:=aV
      have arH:=aW
      have HB:=aY
      have ab4:=bI
      have ac3:=cO
      have aYQ:=gY
      clear aV aW aY bI cO gY hb hbox hg
      refine hK.out _ _ ⟨((HB.out.cell (World.block_lt_of_cell? w _ agD)).trans agD),((HB.out.cell (World.block_lt_of_cell? w _ agC)).trans agC),((HB.out.cell (World.block_lt_of_cell? w _ afX)).trans afX)⟩ (fun hHeld=>?_)
      clear hK K
      refine nq 11 ?_
      exact MH (by simp only[CY,Act.put,List.setIfInBounds_toArray,List.set_cons_zero,List.set_cons_succ]) (QF (aD7,abC) _ ⟨hHeld,(by(with_reducible repeat(first|apply Kd.aaJ|apply Kd.aaK|apply Kd.RD));exact arH.out),(by(with_reducible repeat(first|apply Kd.agL|apply Kd.agN|apply Kd.afU));exact Kd.aj9 SK.out (fun _ hk=>⟨hk.1.1,⟨hk.1.2,hk.2⟩⟩)),(b_ ab4),ac3.out,aYQ.out,(Bq HB)⟩)
     skip
     refine aTG ?hg (N:=11) ?hd (cs:=#[.int .i64 0,.int .i64 0,.int .i64 0]) (t:=109) ?hr ?_;(case hd=>rfl);(case hg=>rfl);(case hr=>first|(go_simp;done)|(go_simp;rfl))
     intro abC hg w16 hbox hb
     have aV:=aA.mk (Kd.a1F (Kd.bCQ (by(with_reducible repeat(first|apply Kd.agL|apply Kd.agN|apply Kd.afU));exact SK.out) abC (Nat.le_of_eq hg.symm)) hb)
     have aW:=bs HB hb
     have aY:=aA.mk (hbox)
     have bI:=gw hg HB
     have cO:=gw hg HB
     clear SK HB
     have SK:=aV
     have HB:=aW
     have ab4:=aY
     have ac3:=bI
     have aYQ:=cO
     clear aV aW aY bI cO hb hbox hg
     refine hK.out _ _ ⟨((HB.out.cell (World.block_lt_of_cell? w _ agD)).trans agD),((HB.out.cell (World.block_lt_of_cell? w _ agC)).trans agC),((HB.out.cell (World.block_lt_of_cell? w _ afX)).trans afX)⟩ (fun hHeld=>?_)
     clear hK K
     refine nq 11 ?_
     refine lI (i:=0) (N:=some 44) (bl 9 127) rfl rfl (lJ aN.out (by kernel_rfl)) (by decide) (fun K hK=>?_)
     refine Kd.bCN (Kd.slice 3 (Kd.int .i64)) _ 34 ?hg (N':=44) ?hd (xs:=([]:List (List Int))) (inner:=[]) (ok:=(fun k_=>(P2_ k_∨w.heap.size<=k_)/\k_≠abC)) (lS:=(fun k_=>(P2_ k_∨w.heap.size<=k_)/\k_≠abC)) ?hr ?hp (fun _ hk=>hk) ((show ∀ k_,w16.heap.size<=k_->(fun k_=>(P2_ k_∨w.heap.size<=k_)/\k_≠abC) k_ from fun k_ hk=>⟨(.inr (Nat.le_trans (dH (Bq HB)) hk)),Kd.aIM (g:=abC) (o:=.cells #[.int .i64 0,.int .i64 0,.int .i64 0] 109 (0,0)) (b_ ab4) k_ hk⟩) _ (Nat.le_refl _)) (Below.refl _ _) (Nat.le_refl _) (by simp) ?_;(case hd=>rfl);(case hg=>rfl);(case hr=>first|(go_simp;done)|(go_simp;rfl));(case hp=>exact(gX.none _ _))
     intro aD7 uS aEI hb mF mG
     clear mF mG
     (first|rw[<-aW3.out]at aEI|(simp only[Int.reduceToNat]at aEI;rw[<-aW3.out]at aEI))
     have aV:=aA.mk (Kd.aPK (by(with_reducible repeat(first|apply Kd.agL|apply Kd.agN|apply Kd.afU));exact SK.out) (Kd.arD aEI) hb)
     have aW:=aA.mk (Kd.apI aEI (dH (Bq HB)))
     have aY:=bb ab4 hb
     have bI:=bs HB hb
     clear SK ab4 HB
     have SK:=aV
     have arH:=aW
     have ab4:=aY
     have HB:=bI
     clear aV aW aY bI hb aEI
     refine hK.out _ _ ⟨((HB.out.cell (World.block_lt_of_cell? w _ agD)).trans agD),((HB.out.cell (World.block_lt_of_cell? w _ agC)).trans agC),((HB.out.cell (World.block_lt_of_cell? w _ afX)).trans afX)⟩ (fun hHeld=>?_)
     clear hK K
     refine nq 44 ?_
     exact MH (by simp only[CY,Act.put,List.setIfInBounds_toArray,List.set_cons_zero,List.set_cons_succ]) (QF (aD7,abC) _ ⟨hHeld,(by(with_reducible repeat(first|apply Kd.aaJ|apply Kd.aaK|apply Kd.RD));exact arH.out),(by(with_reducible repeat(first|apply Kd.agL|apply Kd.agN|apply Kd.afU));exact Kd.aj9 SK.out (fun _ hk=>⟨hk.1.1,⟨hk.2,hk.1.2⟩⟩)),(b_ ab4),ac3.out,aYQ.out,(Bq HB)⟩)
    rintro⟨aD7,abC⟩ xU ⟨hS_,WW,WX,WY,WZ,XA,h5_⟩
    have aV:aA (Kd.N (Kd.slice 3 (Kd.int .i64)) 34 xU w.heap.size (fun k_=>(P2_ k_∨w.heap.size<=k_)/\k_≠abC) aD7 aWG):=⟨WW⟩
    have aW:aA (Kd.V (Kd.int .i64) 3 xU w.heap.size (fun k_=>(P2_ k_∨w.heap.size<=k_)/\some k_≠(aD7:Value).ownBlock/\k_≠abC) (.slice A2 l2.length c2) l2):=⟨WX⟩
    have aY:aA (xU.heap[abC]? =some (.cells #[.int .i64 0,.int .i64 0,.int .i64 0] 109 (0,0))):=⟨WY⟩
    have bI:aA (w.heap.size<=abC):=⟨WZ⟩
    have cO:aA (w.heap.size<=abC):=⟨XA⟩
    have gY:aA (Below w.heap.size w xU):=⟨h5_⟩
    clear SK HB WW WX WY WZ XA h5_
    have arH:=aV
    have SK:=aW
    have ab4:=aY
    have ac3:=bI
    have aYQ:=cO
    have HB:=gY
    clear aV aW aY bI cO gY
    have hHeld:xU.cell? (ajQ.add (l2.length*3))=some (.int .i64 ((DC l0 (l2.length:Int)).f0))/\xU.cell? ⟨(ajQ.add (l2.length*3)).block,(ajQ.add (l2.length*3)).off+1,none⟩=some (.int .i64 ((DC l0 (l2.length:Int)).f1))/\xU.cell? ⟨(ajQ.add (l2.length*3)).block,(ajQ.add (l2.length*3)).off+2,none⟩=some (.int .i64 ((DC l0 (l2.length:Int)).f2)):=hS_
    refine MH (a':=?_) ?_ ?_
    rotate_left
    ·simp only[CY,Act.put,List.setIfInBounds_toArray,List.set_cons_zero,List.set_cons_succ]
     rfl
    refine pS 7 10 9 255 aN ?_
    refine lI (i:=8) (N:=none) (bl 9 511) rfl rfl (lJ aN.out (by kernel_rfl)) (by decide) (fun K hK=>?_)
    have bR0:xU.cell? ⟨abC,0,none⟩=some (.int .i64 0):=kc ab4 0
    have bR3:=aX ab4.out 0
    have bR4:xU.cell? ⟨abC,1,none⟩=some (.int .i64 0):=kc ab4 1
    have bR5:=aX ab4.out 1
    have bR6:xU.cell? ⟨abC,2,none⟩=some (.int .i64 0):=kc ab4 2
    have bR7:=aX ab4.out 2
    refine ahB (w1:=?_) (by rfl) rfl ?_ ?_
    rotate_left
    ·go_simp
     rfl
    refine hK.out _ _ ⟨((cell_far (p:=⟨abC,_,none⟩) (by first|exact Nat.ne_of_lt (Nat.lt_of_lt_of_le (by have:=World.block_lt_of_cell? _ _ agD;first|rwa [add_block]at this|exact this) ac3.out)|(rw[add_block];exact Nat.ne_of_lt (Nat.lt_of_lt_of_le (by have:=World.block_lt_of_cell? _ _ agD;first|rwa [add_block]at this|exact this) ac3.out))|(show(Addr.add _ _).block≠_;rw[add_block];exact Nat.ne_of_lt (Nat.lt_of_lt_of_le (by have:=World.block_lt_of_cell? _ _ agD;first|rwa [add_block]at this|exact this) ac3.out))|(dsimp only;exact Nat.ne_of_lt (Nat.lt_of_lt_of_le (by have:=World.block_lt_of_cell? _ _ agD;first|rwa [add_block]at this|exact this) ac3.out))) _).trans (((cell_far (p:=⟨abC,_,none⟩) (by first|exact Nat.ne_of_lt (Nat.lt_of_lt_of_le (by have:=World.block_lt_of_cell? _ _ agD;first|rwa [add_block]at this|exact this) ac3.out)|(rw[add_block];exact Nat.ne_of_lt (Nat.lt_of_lt_of_le (by have:=World.block_lt_of_cell? _ _ agD;first|rwa [add_block]at this|exact this) ac3.out))|(show(Addr.add _ _).block≠_;rw[add_block];exact Nat.ne_of_lt (Nat.lt_of_lt_of_le (by have:=World.block_lt_of_cell? _ _ agD;first|rwa [add_block]at this|exact this) ac3.out))|(dsimp only;exact Nat.ne_of_lt (Nat.lt_of_lt_of_le (by have:=World.block_lt_of_cell? _ _ agD;first|rwa [add_block]at this|exact this) ac3.out))) _).trans (((cell_far (p:=⟨abC,_,none⟩) (by first|exact Nat.ne_of_lt (Nat.lt_of_lt_of_le (by have:=World.block_lt_of_cell? _ _ agD;first|rwa [add_block]at this|exact this) ac3.out)|(rw[add_block];exact Nat.ne_of_lt (Nat.lt_of_lt_of_le (by have:=World.block_lt_of_cell? _ _ agD;first|rwa [add_block]at this|exact this) ac3.out))|(show(Addr.add _ _).block≠_;rw[add_block];exact Nat.ne_of_lt (Nat.lt_of_lt_of_le (by have:=World.block_lt_of_cell? _ _ agD;first|rwa [add_block]at this|exact this) ac3.out))|(dsimp only;exact Nat.ne_of_lt (Nat.lt_of_lt_of_le (by have:=World.block_lt_of_cell? _ _ agD;first|rwa [add_block]at this|exact this) ac3.out))) _).trans (hHeld.1)))))),((cell_far (p:=⟨abC,_,none⟩) (by first|exact Nat.ne_of_lt (Nat.lt_of_lt_of_le (by have:=World.block_lt_of_cell? _ _ agC;first|rwa [add_block]at this|exact this) ac3.out)|(rw[add_block];exact Nat.ne_of_lt (Nat.lt_of_lt_of_le (by have:=World.block_lt_of_cell? _ _ agC;first|rwa [add_block]at this|exact this) ac3.out))|(show(Addr.add _ _).block≠_;rw[add_block];exact Nat.ne_of_lt (Nat.lt_of_lt_of_le (by have:=World.block_lt_of_cell? _ _ agC;first|rwa [add_block]at this|exact this) ac3.out))|(dsimp only;exact Nat.ne_of_lt (Nat.lt_of_lt_of_le (by have:=World.block_lt_of_cell? _ _ agC;first|rwa [add_block]at this|exact this) ac3.out))) _).trans (((cell_far (p:=⟨abC,_,none⟩) (by first|exact Nat.ne_of_lt (Nat.lt_of_lt_of_le (by have:=World.block_lt_of_cell? _ _ agC;first|rwa [add_block]at this|exact this) ac3.out)|(rw[add_block];exact Nat.ne_of_lt (Nat.lt_of_lt_of_le (by have:=World.block_lt_of_cell? _ _ agC;first|rwa [add_block]at this|exact this) ac3.out))|(show(Addr.add _ _).block≠_;rw[add_block];exact Nat.ne_of_lt (Nat.lt_of_lt_of_le (by have:=World.block_lt_of_cell? _ _ agC;first|rwa [add_block]at this|exact this) ac3.out))|(dsimp only;exact Nat.ne_of_lt (Nat.lt_of_lt_of_le (by have:=World.block_lt_of_cell? _ _ agC;first|rwa [add_block]at this|exact this) ac3.out))) _).trans (((cell_far (p:=⟨abC,_,none⟩) (by first|exact Nat.ne_of_lt (Nat.lt_of_lt_of_le (by have:=World.block_lt_of_cell? _ _ agC;first|rwa [add_block]at this|exact this) ac3.out)|(rw[add_block];exact Nat.ne_of_lt (Nat.lt_of_lt_of_le (by have:=World.block_lt_of_cell? _ _ agC;first|rwa [add_block]at this|exact this) ac3.out))|(show(Addr.add _ _).block≠_;rw[add_block];exact Nat.ne_of_lt (Nat.lt_of_lt_of_le (by have:=World.block_lt_of_cell? _ _ agC;first|rwa [add_block]at this|exact this) ac3.out))|(dsimp only;exact Nat.ne_of_lt (Nat.lt_of_lt_of_le (by have:=World.block_lt_of_cell? _ _ agC;first|rwa [add_block]at this|exact this) ac3.out))) _).trans (hHeld.2.1)))))),((cell_far (p:=⟨abC,_,none⟩) (by first|exact Nat.ne_of_lt (Nat.lt_of_lt_of_le (by have:=World.block_lt_of_cell? _ _ afX;first|rwa [add_block]at this|exact this) ac3.out)|(rw[add_block];exact Nat.ne_of_lt (Nat.lt_of_lt_of_le (by have:=World.block_lt_of_cell? _ _ afX;first|rwa [add_block]at this|exact this) ac3.out))|(show(Addr.add _ _).block≠_;rw[add_block];exact Nat.ne_of_lt (Nat.lt_of_lt_of_le (by have:=World.block_lt_of_cell? _ _ afX;first|rwa [add_block]at this|exact this) ac3.out))|(dsimp only;exact Nat.ne_of_lt (Nat.lt_of_lt_of_le (by have:=World.block_lt_of_cell? _ _ afX;first|rwa [add_block]at this|exact this) ac3.out))) _).trans (((cell_far (p:=⟨abC,_,none⟩) (by first|exact Nat.ne_of_lt (Nat.lt_of_lt_of_le (by have:=World.block_lt_of_cell? _ _ afX;first|rwa [add_block]at this|exact this) ac3.out)|(rw[add_block];exact Nat.ne_of_lt (Nat.lt_of_lt_of_le (by have:=World.block_lt_of_cell? _ _ afX;first|rwa [add_block]at this|exact this) ac3.out))|(show(Addr.add _ _).block≠_;rw[add_block];exact Nat.ne_of_lt (Nat.lt_of_lt_of_le (by have:=World.block_lt_of_cell? _ _ afX;first|rwa [add_block]at this|exact this) ac3.out))|(dsimp only;exact Nat.ne_of_lt (Nat.lt_of_lt_of_le (by have:=World.block_lt_of_cell? _ _ afX;first|rwa [add_block]at this|exact this) ac3.out))) _).trans (((cell_far (p:=⟨abC,_,none⟩) (by first|exact Nat.ne_of_lt (Nat.lt_of_lt_of_le (by have:=World.block_lt_of_cell? _ _ afX;first|rwa [add_block]at this|exact this) ac3.out)|(rw[add_block];exact Nat.ne_of_lt (Nat.lt_of_lt_of_le (by have:=World.block_lt_of_cell? _ _ afX;first|rwa [add_block]at this|exact this) ac3.out))|(show(Addr.add _ _).block≠_;rw[add_block];exact Nat.ne_of_lt (Nat.lt_of_lt_of_le (by have:=World.block_lt_of_cell? _ _ afX;first|rwa [add_block]at this|exact this) ac3.out))|(dsimp only;exact Nat.ne_of_lt (Nat.lt_of_lt_of_le (by have:=World.block_lt_of_cell? _ _ afX;first|rwa [add_block]at this|exact this) ac3.out))) _).trans (hHeld.2.2))))))⟩ (fun hHeld=>?_)
    clear hK K
    refine xQ (yR aN.out (by kernel_rfl)) ?_
    try go_wp2
    go_loopg [10,12] k1 (fun kq v10 v12 w'=>∃ (zA:List (List Int)) (jR:Int),v12=.int .i64 jR/\aA (aaN.l1 kq l0 a1 l2 zA jR ((DC l0 (l2.length:Int)).f0) ((DC l0 (l2.length:Int)).f1) ((DC l0 (l2.length:Int)).f2)=some r)/\aA (kq<=k1)/\aA (Kd.V (Kd.int .i64) 3 w' w.heap.size (fun k_=>(P2_ k_∨w.heap.size<=k_)/\some k_≠(v10:Value).ownBlock/\k_≠abC) (.slice A2 l2.length c2) l2)/\aA (Kd.N (Kd.slice 3 (Kd.int .i64)) 34 w' w.heap.size (fun k_=>(P2_ k_∨w.heap.size<=k_)/\k_≠abC) v10 zA)/\aA (w'.heap[abC]? =some (.cells #[.int .i64 ((DC l0 (l2.length:Int)).f0),.int .i64 ((DC l0 (l2.length:Int)).f1),.int .i64 ((DC l0 (l2.length:Int)).f2)] 109 (0,0)))/\aA (Below w.heap.size w w'))
    case atStart=>exact⟨(aWG),(wrap64 (-a1)),(by first|rfl|(simp;done)|(simp[*];done)),H',⟨Nat.le_refl _⟩,⟨by(with_reducible repeat(first|apply Kd.agL|apply Kd.agN|apply Kd.afU));exact Kd.aj9 (Kd.brP (p:=⟨abC,2,none⟩) (Kd.brP (p:=⟨abC,1,none⟩) (Kd.brP (p:=⟨abC,0,none⟩) (Kd.aj9 SK.out (fun k_ hk=>(⟨hk,hk.2.2⟩:_/\k_≠abC))) (fun _ hk=>hk.2) (.int .i64 ((DC l0 (l2.length:Int)).f0))) (fun _ hk=>hk.2) (.int .i64 ((DC l0 (l2.length:Int)).f1))) (fun _ hk=>hk.2) (.int .i64 ((DC l0 (l2.length:Int)).f2))) (fun _ hk=>⟨hk.1.1,⟨hk.1.2.1,hk.1.2.2⟩⟩)⟩,⟨by(with_reducible repeat(first|apply Kd.aaJ|apply Kd.aaK|apply Kd.RD));exact Kd.ac8 (Kd.bq3 (p:=⟨abC,2,none⟩) (Kd.bq3 (p:=⟨abC,1,none⟩) (Kd.bq3 (p:=⟨abC,0,none⟩) (Kd.ac8 arH.out (fun k_ hk=>(⟨hk,hk.2⟩:_/\k_≠abC))) (fun _ hk=>hk.2) (.int .i64 ((DC l0 (l2.length:Int)).f0))) (fun _ hk=>hk.2) (.int .i64 ((DC l0 (l2.length:Int)).f1))) (fun _ hk=>hk.2) (.int .i64 ((DC l0 (l2.length:Int)).f2))) (fun _ hk=>⟨hk.1.1,hk.1.2⟩)⟩,⟨by exact dE (cs:=#[.int .i64 ((DC l0 (l2.length:Int)).f0),.int .i64 ((DC l0 (l2.length:Int)).f1),.int .i64 0]) (dE (cs:=#[.int .i64 ((DC l0 (l2.length:Int)).f0),.int .i64 0,.int .i64 0]) (dE (cs:=#[.int .i64 0,.int .i64 0,.int .i64 0]) (b_ ab4) 0 _ rfl) 1 _ rfl) 2 _ rfl⟩,⟨Bq HB⟩⟩
    case round=>
     clear H'
     try clear c2
     try clear c4
     try clear yH
     try clear c8
     try clear aDL
     try clear c9
     try clear QC
     try clear afH
     try clear bAD
     try clear c13
     try clear aNZ
     try clear aN0
     try clear c14
     try clear aFM
     try clear brX
     try clear aBY
     try clear aDU
     try clear aD2
     try clear aXW
     try clear aYC
     obtain⟨zA,jR,rfl,HA,mY,SK,DV,ab4,HB⟩:=hrel
     rcases gk with _|k2
     ·exact absurd HA.out (by simp[aaN.l1])
     have H:=HA.out
     clear HA
     simp only[aaN.l1]at H
     by_cases c23:jR<=a1
     ·rw[if_pos c23]at H
      have aqO:decide (jR<=a1)=true:=decide_eq_true c23
      clear c23
      by_cases c24:(wrap64 (((DC l0 (l2.length:Int)).f0) - jR))≥0
      ·rw[if_pos c24]at H
       have auO:decide (0<=(wrap64 (((DC l0 (l2.length:Int)).f0) - jR)))=true:=decide_eq_true c24
       clear c24
       by_cases c25:(wrap64 (((DC l0 (l2.length:Int)).f1)+jR))≥0
       ·rw[if_pos c25]at H
        have aUS:decide (0<=(wrap64 (((DC l0 (l2.length:Int)).f1)+jR)))=true:=decide_eq_true c25
        clear c25
        obtain⟨arF,aGM⟩:∃ y_:List Int,y_=(([]:List Int)):=⟨_,rfl⟩
        replace H:(if arF.length+l2.length<17592186044416 then((some (arF++l2:List Int)).bind fun akH=>(if akH.length<17592186044416 then((aaN.f k2 l0 a1 (akH++[jR])).bind fun aiM=>(if zA.length+aiM.length<5864062014805 then(aaN.l1 k2 l0 a1 l2 (zA++aiM) (wrap64 (jR+1)) ((DC l0 (l2.length:Int)).f0) ((DC l0 (l2.length:Int)).f1) ((DC l0 (l2.length:Int)).f2))else(none)))else(none)))else(none))=some r:=by first|(rw[aGM];with_reducible exact H)|(have dJ:=(Option.bind_some _ _).symm.trans H;rw[aGM];with_reducible exact dJ)|(have dJ:=(Option.bind_some _ _).symm.trans H;with_reducible exact dJ)|with_reducible exact H|(rw[aGM];exact H)|exact H
        have bAF:=aA.mk aGM
        clear aGM
        by_cases c26:arF.length+l2.length<17592186044416
        ·rw[if_pos c26]at H
         have bGB:=aA.mk c26
         clear c26
         obtain⟨akH,aGN⟩:∃ y_:List Int,y_=(arF++l2):=⟨_,rfl⟩
         replace H:(if akH.length<17592186044416 then((aaN.f k2 l0 a1 (akH++[jR])).bind fun aiM=>(if zA.length+aiM.length<5864062014805 then(aaN.l1 k2 l0 a1 l2 (zA++aiM) (wrap64 (jR+1)) ((DC l0 (l2.length:Int)).f0) ((DC l0 (l2.length:Int)).f1) ((DC l0 (l2.length:Int)).f2))else(none)))else(none))=some r:=by first|(rw[aGN];with_reducible exact H)|(have dJ:=(Option.bind_some _ _).symm.trans H;rw[aGN];with_reducible exact dJ)|(have dJ:=(Option.bind_some _ _).symm.trans H;with_reducible exact dJ)|with_reducible exact H|(rw[aGN];exact H)|exact H
         have bGC:=aA.mk aGN
         clear aGN
         by_cases FC:akH.length<17592186044416
         ·rw[if_pos FC]at H
          have bGD:=aA.mk FC
          clear FC
          obtain⟨aGV,aGW⟩:∃ y_:List Int,y_=(akH++[jR]):=⟨_,rfl⟩
          replace H:((aaN.f k2 l0 a1 aGV).bind fun aiM=>(if zA.length+aiM.length<5864062014805 then(aaN.l1 k2 l0 a1 l2 (zA++aiM) (wrap64 (jR+1)) ((DC l0 (l2.length:Int)).f0) ((DC l0 (l2.length:Int)).f1) ((DC l0 (l2.length:Int)).f2))else(none)))=some r:=by first|(rw[aGW];with_reducible exact H)|(have dJ:=(Option.bind_some _ _).symm.trans H;rw[aGW];with_reducible exact dJ)|(have dJ:=(Option.bind_some _ _).symm.trans H;with_reducible exact dJ)|with_reducible exact H|(rw[aGW];exact H)|exact H
          have bGE:=aA.mk aGW
          clear aGW
          replace H:=Option.bind_eq_some_iff.mp H
          obtain⟨aiM,aUU,H⟩:=H
          replace H:(if zA.length+aiM.length<5864062014805 then(aaN.l1 k2 l0 a1 l2 (zA++aiM) (wrap64 (jR+1)) ((DC l0 (l2.length:Int)).f0) ((DC l0 (l2.length:Int)).f1) ((DC l0 (l2.length:Int)).f2))else(none))=some r:=H
          have A28:=aA.mk aUU
          clear aUU
          by_cases c29:zA.length+aiM.length<5864062014805
          ·rw[if_pos c29]at H
           have bdT:=aA.mk c29
           clear c29
           obtain⟨bAG,aGY⟩:∃ y_:List (List Int),y_=(zA++aiM):=⟨_,rfl⟩
           replace H:(aaN.l1 k2 l0 a1 l2 bAG (wrap64 (jR+1)) ((DC l0 (l2.length:Int)).f0) ((DC l0 (l2.length:Int)).f1) ((DC l0 (l2.length:Int)).f2))=some r:=by first|(rw[aGY];with_reducible exact H)|(have dJ:=(Option.bind_some _ _).symm.trans H;rw[aGY];with_reducible exact dJ)|(have dJ:=(Option.bind_some _ _).symm.trans H;with_reducible exact dJ)|with_reducible exact H|(rw[aGY];exact H)|exact H
           have bGF:=aA.mk aGY
           clear aGY
           have H':=aA.mk H
           clear H
           obtain⟨aZS,aZT⟩:=bZ ab4 (.int .i64 ((DC l0 (l2.length:Int)).f0)) (.int .i64 ((DC l0 (l2.length:Int)).f1))
           have bGG:=kd ab4 2 (.int .i64 ((DC l0 (l2.length:Int)).f2))
           have aZU:=aX ab4.out 0
           have aZV:=aX ab4.out 1
           have bGH:=aX ab4.out 2
           go_wp2_with (first|((with_reducible refine dU (N:=72) rfl ?_);refine Kd.YX (Kd.int .i64) _ 3 ?hg (N:=72) ?hd (xs:=([]:List Int)) (inner:=[]) (ok:=fun _=>True) (lS:=fun _=>True) ?hr ?hp (fun _ hk=>hk) trivial (Below.refl _ _) (Nat.le_refl _) (by simp) ?_;(case hd=>rfl);(case hg=>rfl);(case hr=>first|(go_simp;done)|(go_simp;rfl));(case hp=>exact(gX.none _ _));intro bGI yA asU hb mF mG;clear mF mG;(first|rw[<-bAF.out]at asU|(simp only[Int.reduceToNat]at asU;rw[<-bAF.out]at asU));have a4G:=aA.mk (Kd.eF (Kd.brY (M:=fun k_=>(w.heap.size<=k_)) asU (dH (Bq HB)) (fun k_ h_=>h_)) (dH (Bq HB)));replace SK:=aA.mk (Kd.aPK (by(with_reducible repeat(first|apply Kd.agL|apply Kd.agN|apply Kd.afU));exact SK.out) (Kd.fF asU) hb);replace DV:=aA.mk (Kd.apL (by(with_reducible repeat(first|apply Kd.aaJ|apply Kd.aaK|apply Kd.RD));exact DV.out) (Kd.fF asU) hb);replace ab4:=aA.mk (fC (g:=abC) (o:=.cells #[.int .i64 ((DC l0 (l2.length:Int)).f0),.int .i64 ((DC l0 (l2.length:Int)).f1),.int .i64 ((DC l0 (l2.length:Int)).f2)] 109 (0,0)) (b_ ab4) hb);replace HB:=bs HB hb;clear hb asU)|((with_reducible refine VC (b:=.append) (xs:=#[.tmp 72,.tmp 73]) rfl ?_);at_builtin;refine Kd.a9S (Kd.int .i64) (w0:=w) w.heap.size rfl (.tmp 72) (.tmp 73) 34 3 (.int .i64 0) 8 rfl Tryd.underlying34 info3 rfl (by decide) (by omega) bGI arF l2 _ _ _ (fun k_=>(w.heap.size<=k_)) (fun _=>False) rfl rfl ?aO ?aR (fun _ _ h=>h) (fun _ h=>h.elim) ?aF ?aB ?aS ?aL ?_;(case aR=>repeat(first|exact(Kd.aPF SK.out).2.2|(with_reducible refine Kd.jZ ?_ _)|(with_reducible refine Kd.kD ?_ _)|(with_reducible refine Kd.kC ?_)));(case aB=>exact(Bq HB));(case aF=>exact(fun k_ hk=>(Nat.le_trans (dH (Bq HB)) hk)));(case aO=>exact(Kd.bQ (R_ a4G) (fun _ hk=>hk.1)));(case aS=>exact(dH (Bq HB)));(case aL=>have:=bGB.out;omega);intro bGJ NY ho hb hg hat;rw[<-bGC.out]at ho;have aV:=aA.mk (Kd.aPH (ok:=(fun k_=>(P2_ k_∨w.heap.size<=k_)/\some k_≠(u10:Value).ownBlock/\k_≠abC)) (by(with_reducible repeat(first|apply Kd.agL|apply Kd.agN|apply Kd.afU));exact SK.out) hg hat);have aW:=aA.mk (Kd.aFD (ok:=(fun k_=>(P2_ k_∨w.heap.size<=k_)/\k_≠abC)) (by(with_reducible repeat(first|apply Kd.aaJ|apply Kd.aaK|apply Kd.RD));exact DV.out) hg hat);have aY:=aA.mk (oM (g:=abC) (o:=.cells #[.int .i64 ((DC l0 (l2.length:Int)).f0),.int .i64 ((DC l0 (l2.length:Int)).f1),.int .i64 ((DC l0 (l2.length:Int)).f2)] 109 (0,0)) (b_ ab4) hg (Kd.mW a4G.out ab4.out (by decide)));have bI:=aA.mk (hb);have cO:=aA.mk (ho);clear SK;clear DV;clear ab4;clear HB;clear a4G;have SK:=aV;have DV:=aW;have ab4:=aY;have HB:=bI;have a4H:=cO;clear aV aW aY bI cO;clear ho hb hg hat)|((with_reducible refine VC (b:=.append) (xs:=#[.tmp 74,.tmp 76]) rfl ?_);at_builtin;refine Kd.WR (Kd.int .i64) (w0:=w) w.heap.size rfl (.tmp 74) (.tmp 76) 34 3 (.int .i64 0) 8 rfl Tryd.underlying34 info3 rfl (by decide) (by omega) bGJ akH jR [.int .i64 jR] (fun k_=>(w.heap.size<=k_)) (fun _=>False) rfl rfl ?aP (fun _ hk=>hk.elim) ?aF ?aO ?aB ?aS ?aL ?_;(case aP=>exact rfl);(case aB=>exact(Bq HB));(case aF=>exact(fun k_ hk=>(Nat.le_trans (dH (Bq HB)) hk)));(case aO=>exact(R_ a4H));(case aS=>exact(dH (Bq HB)));(case aL=>have:=bGD.out;omega);intro bR8 MN ho hb hg hat;rw[<-bGE.out]at ho;have aV:=aA.mk (Kd.aPH (ok:=(fun k_=>(P2_ k_∨w.heap.size<=k_)/\some k_≠(u10:Value).ownBlock/\k_≠abC)) (by(with_reducible repeat(first|apply Kd.agL|apply Kd.agN|apply Kd.afU));exact SK.out) hg hat);have aW:=aA.mk (Kd.aFD (ok:=(fun k_=>(P2_ k_∨w.heap.size<=k_)/\k_≠abC)) (by(with_reducible repeat(first|apply Kd.aaJ|apply Kd.aaK|apply Kd.RD));exact DV.out) hg hat);have aY:=aA.mk (oM (g:=abC) (o:=.cells #[.int .i64 ((DC l0 (l2.length:Int)).f0),.int .i64 ((DC l0 (l2.length:Int)).f1),.int .i64 ((DC l0 (l2.length:Int)).f2)] 109 (0,0)) (b_ ab4) hg (Kd.mW a4H.out ab4.out (by decide)));have bI:=aA.mk (hb);have cO:=aA.mk (ho);clear SK;clear DV;clear ab4;clear HB;clear a4H;have SK:=aV;have DV:=aW;have ab4:=aY;have HB:=bI;have aoP:=cO;clear aV aW aY bI cO;clear ho hb hg hat;obtain⟨aoC,aoJ,rfl⟩:=Kd.dA aoP.out)|((with_reducible refine gJ (f:=86) rfl ?_);refine cE 78 Tryd.func86 #[.slice (some ajQ) l0.length c0,.int .i64 a1,.slice aoC aGV.length aoJ] ?_;refine(ih k2 (by have:=fV.out;have:=mY.out;omega) _ _ l0 a1 (fun k_=>some k_=(.slice aoC aGV.length aoJ:Value).ownBlock) _ _ aGV aiM _ (Kd.bJ HR0.out (Bq HB)) HC0.out (Kd.R_V (Kd.bEQ rfl (Kd.gB (Kd.a1B (aoP.out) (Kd.az4 DV.out) (by decide)) ab4.out (by decide)))) A28.out).mono ?_;rintro e xK ⟨bR9,rfl,ho0,hb⟩;refine⟨_,rfl,?_⟩;have aG0:=aA.mk (Kd.apI (Kd.ac8 (ok':=fun k_=>(P2_ k_∨w.heap.size<=k_)/\some k_≠(u10:Value).ownBlock/\k_≠abC) ho0 (fun k_ hk_=>⟨Or.elim hk_ (fun hs_=>(.inr (((Kd.gB (Kd.a1B (aoP.out) (Kd.az4 DV.out) (by decide)) ab4.out (by decide)).1 k_ hs_.symm).1.1))) (fun hn_=>(.inr (Nat.le_trans (dH (Bq HB)) hn_))),Or.elim hk_ (fun hs_=>((Kd.gB (Kd.a1B (aoP.out) (Kd.az4 DV.out) (by decide)) ab4.out (by decide)).1 k_ hs_.symm).1.2) (fun hn_=>(Kd.fresh' (Kd.aE9 (by(with_reducible repeat(first|apply Kd.aaJ|apply Kd.aaK|apply Kd.RD));exact DV.out)) k_ hn_)),Or.elim hk_ (fun hs_=>((Kd.gB (Kd.a1B (aoP.out) (Kd.az4 DV.out) (by decide)) ab4.out (by decide)).1 k_ hs_.symm).2) (fun hn_=>(Kd.aIM (g:=abC) (o:=.cells #[.int .i64 ((DC l0 (l2.length:Int)).f0),.int .i64 ((DC l0 (l2.length:Int)).f1),.int .i64 ((DC l0 (l2.length:Int)).f2)] 109 (0,0)) (b_ ab4) k_ hn_))⟩)) (dH (Bq HB)));replace SK:=aA.mk (Kd.aPK (by(with_reducible repeat(first|apply Kd.agL|apply Kd.agN|apply Kd.afU));exact SK.out) (Kd.arD ho0) hb);replace DV:=aA.mk (Kd.apL (by(with_reducible repeat(first|apply Kd.aaJ|apply Kd.aaK|apply Kd.RD));exact DV.out) (Kd.arD ho0) hb);replace aoP:=RB aoP hb;replace ab4:=aA.mk (fC (g:=abC) (o:=.cells #[.int .i64 ((DC l0 (l2.length:Int)).f0),.int .i64 ((DC l0 (l2.length:Int)).f1),.int .i64 ((DC l0 (l2.length:Int)).f2)] 109 (0,0)) (b_ ab4) hb);replace HB:=bs HB hb;(try clear hb);(try clear ho0);obtain⟨a5D,a5E,a5F⟩:=Kd.aj3 aG0.out;subst a5F)|((with_reducible refine VC (b:=.append) (xs:=#[.tmp 69,.tmp 78]) rfl ?_);at_builtin;refine Kd.bLK (Kd.slice 3 (Kd.int .i64)) (w0:=w) w.heap.size rfl (.tmp 69) (.tmp 78) 56 34 (.slice none 0 0) 24 rfl Tryd.underlying56 ba1 rfl (by decide) (by omega) u10 zA aiM _ _ _ (fun k_=>(P2_ k_∨w.heap.size<=k_)/\k_≠abC) (fun k_=>((fun k_=>(P2_ k_∨w.heap.size<=k_)/\k_≠abC)) k_/\some k_≠(u10:Value).ownBlock) rfl rfl ?aO ?aR (fun _ hk=>hk) ?aF ?aB ?aS ?aL ?_;(case aR=>exact(by skip;exact Kd.N_F (Kd.ac8 (ok':=(fun k_=>((fun k_=>(P2_ k_∨w.heap.size<=k_)/\k_≠abC)) k_/\some k_≠(u10:Value).ownBlock)) (aG0.out) (fun k_ hk=>⟨⟨hk.1,hk.2.2⟩,hk.2.1⟩))));(case aB=>exact(Bq HB));(case aF=>exact(fun k_ hk=>⟨(.inr (Nat.le_trans (dH (Bq HB)) hk)),Kd.aIM (g:=abC) (o:=.cells #[.int .i64 ((DC l0 (l2.length:Int)).f0),.int .i64 ((DC l0 (l2.length:Int)).f1),.int .i64 ((DC l0 (l2.length:Int)).f2)] 109 (0,0)) (b_ ab4) k_ hk⟩));(case aO=>exact(by(with_reducible repeat(first|apply Kd.aaJ|apply Kd.aaK|apply Kd.RD));exact Kd.ac8 DV.out (fun _ hk=>⟨hk.1.1.1,hk.1.1.2⟩)));(case aS=>exact(dH (Bq HB)));(case aL=>have:=bdT.out;omega);intro bSA BO ho hb hg hat;rw[<-bGF.out]at ho;have aV:=aA.mk (Kd.aPH (ok:=(fun k_=>(P2_ k_∨w.heap.size<=k_)/\some k_≠(.slice aoC aGV.length aoJ:Value).ownBlock/\some k_≠(.slice a5D aiM.length a5E:Value).ownBlock/\k_≠abC)) (by(with_reducible repeat(first|apply Kd.agL|apply Kd.agN|apply Kd.afU));exact Kd.aj9 SK.out (fun _ hk=>⟨⟨hk.1.1.1,⟨hk.1.2,⟨hk.2,hk.1.1.2.2⟩⟩⟩,hk.1.1.2.1⟩)) hg hat);have aW:=aA.mk (oM (g:=abC) (o:=.cells #[.int .i64 ((DC l0 (l2.length:Int)).f0),.int .i64 ((DC l0 (l2.length:Int)).f1),.int .i64 ((DC l0 (l2.length:Int)).f2)] 109 (0,0)) (b_ ab4) hg (Kd.bCK DV.out ab4.out (by decide)));have aY:=aA.mk (Kd.mO (R_ aoP) (Kd.az4 (by(with_reducible repeat(first|apply Kd.aaJ|apply Kd.aaK|apply Kd.RD));exact DV.out)) (by decide) hg);have bI:=aA.mk (Kd.aFD (ok:=(fun k_=>(P2_ k_∨w.heap.size<=k_)/\k_≠abC)) (by(with_reducible repeat(first|apply Kd.aaJ|apply Kd.aaK|apply Kd.RD));exact Kd.ac8 aG0.out (fun _ hk=>⟨⟨hk.1,hk.2.2⟩,hk.2.1⟩)) hg hat);have cO:=aA.mk (hb);have gY:=aA.mk (ho);clear SK;clear ab4;clear aoP;clear aG0;clear HB;clear DV;have SK:=aV;have ab4:=aW;have aoP:=aY;have aG0:=bI;have HB:=cO;have bGK:=gY;clear aV aW aY bI cO gY;clear ho hb hg hat))
           go_roundg k2
           case measure=>have:=fV.out;have:=mY.out;omega
           case rel=>exact⟨(bAG),(wrap64 (jR+1)),(by first|rfl|(simp;done)|(simp[*];done)),H',⟨by have:=fV.out;have:=mY.out;omega⟩,⟨by(with_reducible repeat(first|apply Kd.agL|apply Kd.agN|apply Kd.afU));exact Kd.aj9 SK.out (fun _ hk=>⟨hk.1.1,⟨hk.2,hk.1.2.2.2⟩⟩)⟩,⟨by(with_reducible repeat(first|apply Kd.aaJ|apply Kd.aaK|apply Kd.RD));exact bGK.out⟩,⟨b_ ab4⟩,⟨Bq HB⟩⟩
          rw[if_neg c29]at H
          exact absurd H (by simp)
         rw[if_neg FC]at H
         exact absurd H (by simp)
        rw[if_neg c26]at H
        exact absurd H (by simp)
       rw[if_neg c25]at H
       have aUS:decide (0<=(wrap64 (((DC l0 (l2.length:Int)).f1)+jR)))=false:=decide_eq_false c25
       clear c25
       have H':=aA.mk H
       clear H
       obtain⟨aXN,aXO⟩:=bZ ab4 (.int .i64 ((DC l0 (l2.length:Int)).f0)) (.int .i64 ((DC l0 (l2.length:Int)).f1))
       have bSB:=kd ab4 2 (.int .i64 ((DC l0 (l2.length:Int)).f2))
       have bSC:=aX ab4.out 0
       have bSD:=aX ab4.out 1
       have bSE:=aX ab4.out 2
       go_wp2
       go_roundg k2
       case measure=>have:=fV.out;have:=mY.out;omega
       case rel=>exact⟨(zA),(wrap64 (jR+1)),(by first|rfl|(simp;done)|(simp[*];done)),H',⟨by have:=fV.out;have:=mY.out;omega⟩,⟨by(with_reducible repeat(first|apply Kd.agL|apply Kd.agN|apply Kd.afU));exact SK.out⟩,⟨by(with_reducible repeat(first|apply Kd.aaJ|apply Kd.aaK|apply Kd.RD));exact DV.out⟩,⟨b_ ab4⟩,⟨Bq HB⟩⟩
      rw[if_neg c24]at H
      have auO:decide (0<=(wrap64 (((DC l0 (l2.length:Int)).f0) - jR)))=false:=decide_eq_false c24
      clear c24
      have H':=aA.mk H
      clear H
      obtain⟨bg6,bg7⟩:=bZ ab4 (.int .i64 ((DC l0 (l2.length:Int)).f0)) (.int .i64 ((DC l0 (l2.length:Int)).f1))
      have bSF:=kd ab4 2 (.int .i64 ((DC l0 (l2.length:Int)).f2))
      have bg8:=aX ab4.out 0
      have bg9:=aX ab4.out 1
      have bSG:=aX ab4.out 2
      go_wp2
      go_roundg k2
      case measure=>have:=fV.out;have:=mY.out;omega
      case rel=>exact⟨(zA),(wrap64 (jR+1)),(by first|rfl|(simp;done)|(simp[*];done)),H',⟨by have:=fV.out;have:=mY.out;omega⟩,⟨by(with_reducible repeat(first|apply Kd.agL|apply Kd.agN|apply Kd.afU));exact SK.out⟩,⟨by(with_reducible repeat(first|apply Kd.aaJ|apply Kd.aaK|apply Kd.RD));exact DV.out⟩,⟨b_ ab4⟩,⟨Bq HB⟩⟩
     rw[if_neg c23]at H
     have aqO:decide (jR<=a1)=false:=decide_eq_false c23
     clear c23
     obtain rfl:=Option.some.inj H
     go_wp2
     go_ret
     exact⟨_,by first|rfl|(simp[iU,iV]<;>rfl)|(simp[*,iU,iV]<;>rfl),by(with_reducible repeat(first|apply Kd.aaJ|apply Kd.aaK|apply Kd.RD));exact Kd.ac8 DV.out (fun _ hk=>hk.1),Bq HB⟩
   rw[if_neg c14]at H
   exact absurd H (by simp)
  rw[if_neg c13]at H
  exact absurd H (by simp)
end Go.Proofs.YtcmfnebcmmklkaaDoor.Q

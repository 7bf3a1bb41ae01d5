/- What DozenWeighs reaches beyond the shared texts, and its card. Part 3 of 6. -/
import Derived.Test.YtcmfnebcmmklkaaDoorM3
import Derived.Test.YtcmfnebcmmklkaaDoorPb2
set_option linter.unusedVariables false
set_option linter.unusedSimpArgs false
set_option maxRecDepth 100000
set_option maxHeartbeats 8000000
namespace Go.Proofs.YtcmfnebcmmklkaaDoor.Q
open Go.RowKit Go.Proofs.YtcmfnebcmmklkaaDoorW.dQ Go.Proofs.YtcmfnebcmmklkaaDoorW.oU Go.Proofs.YtcmfnebcmmklkaaDoorW.gG
attribute [local go_sem] uA uB uC uD uM uN uO uP   -- for this text's walks alone
mutual
def ac7.l0:Nat->List (aaL)->Int->Int->Int->Int->Int->Int->Int->Int->Option ((List (aaL)))
  |0,_,_,_,_,_,_,_,_,_=>none
  |k+1,x3,x4,av8,arN,arO,arP,arR,ar6,av9=>if x4<=arN then(ac7.l1 k x3 x4 arO av8 arN arO arP arR ar6 av9)else(some x3)
def ac7.l1:Nat->List (aaL)->Int->Int->Int->Int->Int->Int->Int->Int->Int->Option ((List (aaL)))
  |0,_,_,_,_,_,_,_,_,_,_=>none
  |k+1,x3,x4,x5,av8,arN,arO,arP,arR,ar6,av9=>if x5<=arP then(ac7.l2 k x3 x4 x5 arR av8 arN arO arP arR ar6 av9)else(ac7.l0 k x3 (wrap64 (x4+1)) av8 arN arO arP arR ar6 av9)
def ac7.l2:Nat->List (aaL)->Int->Int->Int->Int->Int->Int->Int->Int->Int->Int->Option ((List (aaL)))
  |0,_,_,_,_,_,_,_,_,_,_,_=>none
  |k+1,x3,x4,x5,x6,av8,arN,arO,arP,arR,ar6,av9=>if x6<=ar6 then(if x3.length<5864062014805 then(ac7.l2 k (x3++[(⟨x4,x5,x6⟩:aaL)]) x4 x5 (wrap64 (x6+1)) av8 arN arO arP arR ar6 av9)else(none))else(ac7.l1 k x3 x4 (wrap64 (x5+1)) av8 arN arO arP arR ar6 av9)
end
def ac7.f (k:Nat) (bV:Int) (bU:Int) (iL:Int) (iO:Int) (kV:Int) (lW:Int) (rW:Int):Option ((List (aaL))):=ac7.l0 k (([]:List (aaL))) bV bV bU iL iO kV lW rW
theorem ac7.calls (k:Nat) (bV:Int) (bU:Int) (iL:Int) (iO:Int) (kV:Int) (lW:Int) (rW:Int) (r:List (aaL)) (w:World) (h:ac7.f k bV bU iL iO kV lW rW=some r):
    Calls Tryd.prog 87 #[.agg #[.int .i64 bV,.int .i64 bU,.int .i64 iL,.int .i64 iO,.int .i64 kV,.int .i64 lW,.int .i64 rW]] w fun e w'=>∃ iG:Value,e=.returned (iG)/\Kd.R ajW 154 w' w.heap.size (fun _=>True) iG r/\Below w.heap.size w w':=by
 have aPM:=Tryd.underlying53
 have bAQ:=Tryd.underlying154
 have HB:=aA.mk (Below.refl w.heap.size w)
 have H:(ac7.l0 k (([]:List (aaL))) bV bV bU iL iO kV lW rW)=some r:=h
 clear h
 obtain⟨bAR,aG3⟩:∃ y_:List (aaL),y_=(([]:List (aaL))):=⟨_,rfl⟩
 replace H:(ac7.l0 k bAR bV bV bU iL iO kV lW rW)=some r:=by first|(rw[aG3];with_reducible exact H)|(have dJ:=(Option.bind_some _ _).symm.trans H;rw[aG3];with_reducible exact dJ)|(have dJ:=(Option.bind_some _ _).symm.trans H;with_reducible exact dJ)|with_reducible exact H|(rw[aG3];exact H)|exact H
 have bAS:=aA.mk aG3
 clear aG3
 have H':=aA.mk H
 clear H
 go_enter Tryd.func87,Tryd.ntmps87
 go_wp2_with (first|((with_reducible refine dU (N:=1) rfl ?_);refine eX 1 #[.int .i64 bV,.int .i64 bU,.int .i64 iL,.int .i64 iO,.int .i64 kV,.int .i64 lW,.int .i64 rW] 53 ?_;intro aY0 hg w2 hbox hb;have dL:=aA.mk (hbox);have bSH:=gw hg HB;have bSI:=gw hg HB;replace HB:=bs HB hb;clear hb hbox hg)|((with_reducible refine dU (N:=7) rfl ?_);refine Kd.YX ajW _ 154 ?hg (N:=7) ?hd (xs:=([]:List (aaL))) (inner:=[]) (ok:=fun _=>True) (lS:=fun _=>True) ?hr ?hp (fun _ hk=>hk) trivial (Below.refl _ _) (Nat.le_refl _) (by simp) ?_;(case hd=>rfl);(case hg=>rfl);(case hr=>first|(go_simp;done)|(go_simp;rfl));(case hp=>exact(gX.none _ _));intro bSJ w3 BF hb mF mG;clear mF mG;(first|rw[<-bAS.out]at BF|(simp only[Int.reduceToNat]at BF;rw[<-bAS.out]at BF));have bGU:=aA.mk (Kd.eF BF (dH (Bq HB)));replace dL:=bb dL hb;replace HB:=bs HB hb;clear hb BF;obtain⟨ah0,ah1⟩:=bZ dL (.int .i64 bV) (.int .i64 bU);have beM:=kd dL 2 (.int .i64 iL);have beN:=kd dL 3 (.int .i64 iO);have beO:=kd dL 4 (.int .i64 kV);have beP:=kd dL 5 (.int .i64 lW);have bGV:=kd dL 6 (.int .i64 rW);have auT:=aX dL.out 0;have auU:=aX dL.out 1;have beQ:=aX dL.out 2;have beR:=aX dL.out 3;have beS:=aX dL.out 4;have beT:=aX dL.out 5;have bGW:=aX dL.out 6))
 go_loopg [3,4] k (fun kq v3 v4 w'=>∃ (iY:List (aaL)) (aa3:Int),v4=.int .i64 aa3/\aA (ac7.l0 kq iY aa3 bV bU iL iO kV lW rW=some r)/\aA (kq<=k)/\aA (Kd.R ajW 154 w' w.heap.size (fun _=>True) v3 iY)/\aA (w'.heap[aY0]? =some (.cells #[.int .i64 bV,.int .i64 bU,.int .i64 iL,.int .i64 iO,.int .i64 kV,.int .i64 lW,.int .i64 rW] 53 (0,0)))/\aA (Below w.heap.size w w'))
 case atStart=>exact⟨(bAR),(bV),(by first|rfl|(simp;done)|(simp[*];done)),H',⟨Nat.le_refl _⟩,⟨R_ bGU⟩,⟨b_ dL⟩,⟨Bq HB⟩⟩
 case round=>
  clear H'
  try clear ah0
  try clear ah1
  try clear beM
  try clear beN
  try clear beO
  try clear beP
  try clear bGV
  try clear auT
  try clear auU
  try clear beQ
  try clear beR
  try clear beS
  try clear beT
  try clear bGW
  obtain⟨iY,aa3,rfl,HA,fV,gZ,dL,HB⟩:=hrel
  rcases gk with _|k1
  ·exact absurd HA.out (by simp[ac7.l0])
  have H:=HA.out
  clear HA
  simp only[ac7.l0]at H
  by_cases c6:aa3<=bU
  ·rw[if_pos c6]at H
   have zJ:decide (aa3<=bU)=true:=decide_eq_true c6
   clear c6
   have H':=aA.mk H
   clear H
   obtain⟨bm7,bm8⟩:=bZ dL (.int .i64 bV) (.int .i64 bU)
   have bGX:=kd dL 2 (.int .i64 iL)
   have bGY:=kd dL 3 (.int .i64 iO)
   have bGZ:=kd dL 4 (.int .i64 kV)
   have bG0:=kd dL 5 (.int .i64 lW)
   have bG1:=kd dL 6 (.int .i64 rW)
   have bm9:=aX dL.out 0
   have bnA:=aX dL.out 1
   have bG2:=aX dL.out 2
   have bG3:=aX dL.out 3
   have bG4:=aX dL.out 4
   have bG5:=aX dL.out 5
   have bG6:=aX dL.out 6
   go_wp2
   go_loopg [3,5] k1 (fun kq v3 v5 w'=>∃ (aG8:List (aaL)) (qE:Int),v5=.int .i64 qE/\aA (ac7.l1 kq aG8 aa3 qE bV bU iL iO kV lW rW=some r)/\aA (kq<=k1)/\aA (Kd.R ajW 154 w' w.heap.size (fun _=>True) v3 aG8)/\aA (w'.heap[aY0]? =some (.cells #[.int .i64 bV,.int .i64 bU,.int .i64 iL,.int .i64 iO,.int .i64 kV,.int .i64 lW,.int .i64 rW] 53 (0,0)))/\aA (Below w.heap.size w w'))
   case atStart=>exact⟨(iY),(iL),(by first|rfl|(simp;done)|(simp[*];done)),H',⟨Nat.le_refl _⟩,⟨R_ gZ⟩,⟨b_ dL⟩,⟨Bq HB⟩⟩
   case round=>
    clear H'
    try clear c6
    try clear zJ
    try clear bm7
    try clear bm8
    try clear bGX
    try clear bGY
    try clear bGZ
    try clear bG0
    try clear bG1
    try clear bm9
    try clear bnA
    try clear bG2
    try clear bG3
    try clear bG4
    try clear bG5
    try clear bG6
    obtain⟨aG8,qE,rfl,HA,mY,gZ,dL,HB⟩:=hrel
    rcases gk with _|k2
    ·exact absurd HA.out (by simp[ac7.l1])
    have H:=HA.out
    clear HA
    simp only[ac7.l1]at H
    by_cases c8:qE<=iO
    ·rw[if_pos c8]at H
     have aDL:decide (qE<=iO)=true:=decide_eq_true c8
     clear c8
     have H':=aA.mk H
     clear H
     obtain⟨aM2,aM3⟩:=bZ dL (.int .i64 bV) (.int .i64 bU)
     have aYH:=kd dL 2 (.int .i64 iL)
     have aYI:=kd dL 3 (.int .i64 iO)
     have bC6:=kd dL 4 (.int .i64 kV)
     have bC7:=kd dL 5 (.int .i64 lW)
     have bC8:=kd dL 6 (.int .i64 rW)
     have aYJ:=aX dL.out 0
     have aYK:=aX dL.out 1
     have aYL:=aX dL.out 2
     have aYM:=aX dL.out 3
     have bC9:=aX dL.out 4
     have bDA:=aX dL.out 5
     have bDB:=aX dL.out 6
     go_wp2
     go_loopg [3,6] k2 (fun kq v3 v6 w'=>∃ (awC:List (aaL)) (nN:Int),v6=.int .i64 nN/\aA (ac7.l2 kq awC aa3 qE nN bV bU iL iO kV lW rW=some r)/\aA (kq<=k2)/\aA (Kd.R ajW 154 w' w.heap.size (fun _=>True) v3 awC)/\aA (w'.heap[aY0]? =some (.cells #[.int .i64 bV,.int .i64 bU,.int .i64 iL,.int .i64 iO,.int .i64 kV,.int .i64 lW,.int .i64 rW] 53 (0,0)))/\aA (Below w.heap.size w w'))
     case atStart=>exact⟨(aG8),(kV),(by first|rfl|(simp;done)|(simp[*];done)),H',⟨Nat.le_refl _⟩,⟨R_ gZ⟩,⟨b_ dL⟩,⟨Bq HB⟩⟩
     case round=>
      clear H'
      try clear c8
      try clear aDL
      try clear aM2
      try clear aM3
      try clear aYH
      try clear aYI
      try clear bC6
      try clear bC7
      try clear bC8
      try clear aYJ
      try clear aYK
      try clear aYL
      try clear aYM
      try clear bC9
      try clear bDA
      try clear bDB
      obtain⟨awC,nN,rfl,HA,HK3,gZ,dL,HB⟩:=hrel
      rcases gk with _|k3
      ·exact absurd HA.out (by simp[ac7.l2])
      have H:=HA.out
      clear HA
      simp only[ac7.l2]at H
      by_cases c10:nN<=lW
      ·rw[if_pos c10]at H
       have anN:decide (nN<=lW)=true:=decide_eq_true c10
       clear c10
       by_cases c11:awC.length<5864062014805
       ·rw[if_pos c11]at H
        have bG7:=aA.mk c11
        clear c11
        obtain⟨bAT,aG9⟩:∃ y_:List (aaL),y_=(awC++[(⟨aa3,qE,nN⟩:aaL)]):=⟨_,rfl⟩
        replace H:(ac7.l2 k3 bAT aa3 qE (wrap64 (nN+1)) bV bU iL iO kV lW rW)=some r:=by first|(rw[aG9];with_reducible exact H)|(have dJ:=(Option.bind_some _ _).symm.trans H;rw[aG9];with_reducible exact dJ)|(have dJ:=(Option.bind_some _ _).symm.trans H;with_reducible exact dJ)|with_reducible exact H|(rw[aG9];exact H)|exact H
        have bG8:=aA.mk aG9
        clear aG9
        have H':=aA.mk H
        clear H
        obtain⟨ad6,ad7⟩:=bZ dL (.int .i64 bV) (.int .i64 bU)
        have bSK:=kd dL 2 (.int .i64 iL)
        have bSL:=kd dL 3 (.int .i64 iO)
        have bSM:=kd dL 4 (.int .i64 kV)
        have bSN:=kd dL 5 (.int .i64 lW)
        have bSO:=kd dL 6 (.int .i64 rW)
        have amK:=aX dL.out 0
        have amL:=aX dL.out 1
        have bSP:=aX dL.out 2
        have bSQ:=aX dL.out 3
        have bSR:=aX dL.out 4
        have bSS:=aX dL.out 5
        have bST:=aX dL.out 6
        go_wp2_with (first|((with_reducible refine VC (b:=.append) (xs:=#[.tmp 38,.tmp 43]) rfl ?_);at_builtin;refine Kd.WR ajW (w0:=w) w.heap.size rfl (.tmp 38) (.tmp 43) 63 154 (.agg #[(.int .i64 0),(.int .i64 0),(.int .i64 0)]) 24 rfl Tryd.underlying63 bCS rfl (by decide) (by omega) u3 awC (⟨aa3,qE,nN⟩:aaL) [.int .i64 aa3,.int .i64 qE,.int .i64 nN] (fun _=>True) (fun _=>False) rfl rfl ?aP (fun _ hk=>hk.elim) ?aF ?aO ?aB ?aS ?aL ?_;(case aP=>exact bCT _ _ _ (⟨aa3,qE,nN⟩:aaL));(case aB=>exact(Bq HB));(case aF=>exact(fun _ _=>trivial));(case aO=>exact(R_ gZ));(case aS=>exact(dH (Bq HB)));(case aL=>have:=bG7.out;omega);intro bSU tV ho hb hg hat;rw[<-bG8.out]at ho;have aV:=aA.mk (oM (g:=aY0) (o:=.cells #[.int .i64 bV,.int .i64 bU,.int .i64 iL,.int .i64 iO,.int .i64 kV,.int .i64 lW,.int .i64 rW] 53 (0,0)) (b_ dL) hg (Kd.mW gZ.out dL.out (by decide)));have aW:=aA.mk (hb);have aY:=aA.mk (ho);clear dL;clear HB;clear gZ;have dL:=aV;have HB:=aW;have bG9:=aY;clear aV aW aY;clear ho hb hg hat))
        go_roundg k3
        case measure=>have:=fV.out;have:=mY.out;have:=HK3.out;omega
        case rel=>exact⟨(bAT),(wrap64 (nN+1)),(by first|rfl|(simp;done)|(simp[*];done)),H',⟨by have:=fV.out;have:=mY.out;have:=HK3.out;omega⟩,⟨R_ bG9⟩,⟨b_ dL⟩,⟨Bq HB⟩⟩
       rw[if_neg c11]at H
       exact absurd H (by simp)
      rw[if_neg c10]at H
      have anN:decide (nN<=lW)=false:=decide_eq_false c10
      clear c10
      have H':=aA.mk H
      clear H
      obtain⟨aT5,aT6⟩:=bZ dL (.int .i64 bV) (.int .i64 bU)
      have bSV:=kd dL 2 (.int .i64 iL)
      have bSW:=kd dL 3 (.int .i64 iO)
      have bSX:=kd dL 4 (.int .i64 kV)
      have bSY:=kd dL 5 (.int .i64 lW)
      have bSZ:=kd dL 6 (.int .i64 rW)
      have bb8:=aX dL.out 0
      have bb9:=aX dL.out 1
      have bS0:=aX dL.out 2
      have bS3:=aX dL.out 3
      have bS4:=aX dL.out 4
      have bS5:=aX dL.out 5
      have bS6:=aX dL.out 6
      go_wp2
      go_roundg k3
      case measure=>have:=fV.out;have:=mY.out;have:=HK3.out;omega
      case rel=>exact⟨(awC),(wrap64 (qE+1)),(by first|rfl|(simp;done)|(simp[*];done)),H',⟨by have:=fV.out;have:=mY.out;have:=HK3.out;omega⟩,⟨R_ gZ⟩,⟨b_ dL⟩,⟨Bq HB⟩⟩
    rw[if_neg c8]at H
    have aDL:decide (qE<=iO)=false:=decide_eq_false c8
    clear c8
    have H':=aA.mk H
    clear H
    obtain⟨bmZ,bm0⟩:=bZ dL (.int .i64 bV) (.int .i64 bU)
    have bHA:=kd dL 2 (.int .i64 iL)
    have bHB:=kd dL 3 (.int .i64 iO)
    have bHC:=kd dL 4 (.int .i64 kV)
    have bHD:=kd dL 5 (.int .i64 lW)
    have bHE:=kd dL 6 (.int .i64 rW)
    have bHF:=aX dL.out 0
    have bHG:=aX dL.out 1
    have bHH:=aX dL.out 2
    have bHI:=aX dL.out 3
    have bHJ:=aX dL.out 4
    have bHK:=aX dL.out 5
    have bHL:=aX dL.out 6
    go_wp2
    go_roundg k2
    case measure=>have:=fV.out;have:=mY.out;omega
    case rel=>exact⟨(aG8),(wrap64 (aa3+1)),(by first|rfl|(simp;done)|(simp[*];done)),H',⟨by have:=fV.out;have:=mY.out;omega⟩,⟨R_ gZ⟩,⟨b_ dL⟩,⟨Bq HB⟩⟩
  rw[if_neg c6]at H
  have zJ:decide (aa3<=bU)=false:=decide_eq_false c6
  clear c6
  obtain rfl:=Option.some.inj H
  obtain⟨ahN,ahO⟩:=bZ dL (.int .i64 bV) (.int .i64 bU)
  have bS7:=kd dL 2 (.int .i64 iL)
  have bS8:=kd dL 3 (.int .i64 iO)
  have bS9:=kd dL 4 (.int .i64 kV)
  have bTA:=kd dL 5 (.int .i64 lW)
  have bTB:=kd dL 6 (.int .i64 rW)
  have auD:=aX dL.out 0
  have auE:=aX dL.out 1
  have bTC:=aX dL.out 2
  have bTD:=aX dL.out 3
  have bTE:=aX dL.out 4
  have bTF:=aX dL.out 5
  have bTG:=aX dL.out 6
  go_wp2
  go_ret
  exact⟨_,by first|rfl|(simp[iU,iV]<;>rfl)|(simp[*,iU,iV]<;>rfl),R_ gZ,Bq HB⟩
def afV.l0:Nat->List (gQ)->Int->List Int->Int->Int->Int->Int->Int->Int->Int->Int->Int->Int->Int->Option (Bool)
  |0,_,_,_,_,_,_,_,_,_,_,_,_,_,_=>none
  |k+1,x1,x2,x3,x11,bAU,bAV,bAW,bAX,bAY,bAZ,a5P,aY1,aY9,aZA=>if x11<(x1.length:Int)then(if 0<=x11 then(if x11<(x3.length:Int)then(if 0<=(IntKind.u64.wrap (x11))then(if(Go.bits .and .i64 (shr .i64 x2 (IntKind.u64.wrap (x11))) 1)=1 then(if(mx (wrap64 ((wrap64 ((wrap64 (aZA+(wrap64 (aY1*(wrap64 (((DC x1 x11).f0) - (rd x3 x11)))))))+(wrap64 (aY9*(wrap64 (((DC x1 x11).f1)+(rd x3 x11))))))) - ((DC x1 x11).f2))) (wrap64 (((DC x1 x11).f2) - (wrap64 ((wrap64 (aZA+(wrap64 (aY1*(wrap64 (((DC x1 x11).f0) - (rd x3 x11)))))))+(wrap64 (aY9*(wrap64 (((DC x1 x11).f1)+(rd x3 x11))))))))))>a5P then(some false)else(afV.l0 k x1 x2 x3 (wrap64 (x11+1)) bAU bAV bAW bAX bAY bAZ a5P aY1 aY9 aZA))else(afV.l0 k x1 x2 x3 (wrap64 (x11+1)) bAU bAV bAW bAX bAY bAZ a5P aY1 aY9 aZA))else(none))else(none))else(none))else(some true)
def afV.f (k:Nat) (bV:Int) (bU:Int) (iL:Int) (iO:Int) (kV:Int) (lW:Int) (rW:Int) (l1:List (gQ)) (a2:Int) (l3:List Int) (aeL:Int) (aeQ:Int) (aeR:Int):Option (Bool):=afV.l0 k l1 a2 l3 0 bV bU iL iO kV lW rW aeL aeQ aeR
theorem afV.calls (k:Nat) (bV:Int) (bU:Int) (iL:Int) (iO:Int) (kV:Int) (lW:Int) (rW:Int) (A1:Option Addr) (c1:Nat) (l1:List (gQ)) (a2:Int) (A3:Option Addr) (c3:Nat) (l3:List Int) (aeL:Int) (aeQ:Int) (aeR:Int) (r:Bool) (w:World) (hr1:Kd.C vC w A1 l1.length l1) (hc1:l1.length<=c1) (hr3:Kd.C (Kd.int .i64) w A3 l3.length l3) (hc3:l3.length<=c3) (h:afV.f k bV bU iL iO kV lW rW l1 a2 l3 aeL aeQ aeR=some r):
    Calls Tryd.prog 88 #[.agg #[.int .i64 bV,.int .i64 bU,.int .i64 iL,.int .i64 iO,.int .i64 kV,.int .i64 lW,.int .i64 rW],.slice A1 l1.length c1,.int .i64 a2,.slice A3 l3.length c3,.agg #[.int .i64 aeL,.int .i64 aeQ,.int .i64 aeR]] w fun e w'=>e=.returned (.bool r)/\Below w.heap.size w w':=by
 have aPM:=Tryd.underlying53
 have bAQ:=Tryd.underlying154
 have HR1:=aA.mk hr1
 have HC1:=aA.mk hc1
 clear hr1 hc1
 have HR3:=aA.mk hr3
 have HC3:=aA.mk hc3
 clear hr3 hc3
 have HB:=aA.mk (Below.refl w.heap.size w)
 have H:(afV.l0 k l1 a2 l3 0 bV bU iL iO kV lW rW aeL aeQ aeR)=some r:=h
 clear h
 have H':=aA.mk H
 clear H
 go_enter Tryd.func88,Tryd.ntmps88
 go_wp2_with (first|((with_reducible refine dU (N:=5) rfl ?_);(try(refine xJ (by rfl) ?_;dsimp only));refine eX 5 #[.int .i64 bV,.int .i64 bU,.int .i64 iL,.int .i64 iO,.int .i64 kV,.int .i64 lW,.int .i64 rW] 53 ?_;intro a6M hg w6 hbox hb;have ac2:=aA.mk (hbox);have bA0:=gw hg HB;have bA1:=gw hg HB;replace HB:=bs HB hb;clear hb hbox hg)|((with_reducible refine dU (N:=9) rfl ?_);(try(refine xJ (by rfl) ?_;dsimp only));refine eX 9 #[.int .i64 aeL,.int .i64 aeQ,.int .i64 aeR] 154 ?_;intro a6P hg w7 hbox hb;have agR:=aA.mk (hbox);have bA2:=gw hg HB;have bA3:=gw hg HB;have aHA:=nl hg ac2;have aHD:=ng hg ac2;replace ac2:=bb ac2 hb;replace HB:=bs HB hb;clear hb hbox hg))
 repeat(go_quiet (first|((with_reducible refine dU (N:=5) rfl ?_);(try(refine xJ (by rfl) ?_;dsimp only));refine eX 5 #[.int .i64 bV,.int .i64 bU,.int .i64 iL,.int .i64 iO,.int .i64 kV,.int .i64 lW,.int .i64 rW] 53 ?_;intro a6M hg w6 hbox hb;have ac2:=aA.mk (hbox);have bA0:=gw hg HB;have bA1:=gw hg HB;replace HB:=bs HB hb;clear hb hbox hg)|((with_reducible refine dU (N:=9) rfl ?_);(try(refine xJ (by rfl) ?_;dsimp only));refine eX 9 #[.int .i64 aeL,.int .i64 aeQ,.int .i64 aeR] 154 ?_;intro a6P hg w7 hbox hb;have agR:=aA.mk (hbox);have bA2:=gw hg HB;have bA3:=gw hg HB;have aHA:=nl hg ac2;have aHD:=ng hg ac2;replace ac2:=bb ac2 hb;replace HB:=bs HB hb;clear hb hbox hg));try go_wp2_with (first|((with_reducible refine dU (N:=5) rfl ?_);(try(refine xJ (by rfl) ?_;dsimp only));refine eX 5 #[.int .i64 bV,.int .i64 bU,.int .i64 iL,.int .i64 iO,.int .i64 kV,.int .i64 lW,.int .i64 rW] 53 ?_;intro a6M hg w6 hbox hb;have ac2:=aA.mk (hbox);have bA0:=gw hg HB;have bA1:=gw hg HB;replace HB:=bs HB hb;clear hb hbox hg)|((with_reducible refine dU (N:=9) rfl ?_);(try(refine xJ (by rfl) ?_;dsimp only));refine eX 9 #[.int .i64 aeL,.int .i64 aeQ,.int .i64 aeR] 154 ?_;intro a6P hg w7 hbox hb;have agR:=aA.mk (hbox);have bA2:=gw hg HB;have bA3:=gw hg HB;have aHA:=nl hg ac2;have aHD:=ng hg ac2;replace ac2:=bb ac2 hb;replace HB:=bs HB hb;clear hb hbox hg)))
 go_loopg [11] k (fun kq v11 w'=>∃ (tH:Int),v11=.int .i64 tH/\aA (afV.l0 kq l1 a2 l3 tH bV bU iL iO kV lW rW aeL aeQ aeR=some r)/\aA (kq<=k)/\aA (w'.heap[a6M]? =some (.cells #[.int .i64 bV,.int .i64 bU,.int .i64 iL,.int .i64 iO,.int .i64 kV,.int .i64 lW,.int .i64 rW] 53 (0,0)))/\aA (w'.heap[a6P]? =some (.cells #[.int .i64 aeL,.int .i64 aeQ,.int .i64 aeR] 154 (0,0)))/\aA (Below w.heap.size w w'))
 case atStart=>exact⟨(0),(by first|rfl|(simp;done)|(simp[*];done)),H',⟨Nat.le_refl _⟩,⟨b_ ac2⟩,⟨b_ agR⟩,⟨Bq HB⟩⟩
 case round=>
  clear H'
  try clear c1
  try clear c3
  obtain⟨tH,rfl,HA,fV,ac2,agR,HB⟩:=hrel
  rcases gk with _|k1
  ·exact absurd HA.out (by simp[afV.l0])
  have H:=HA.out
  clear HA
  simp only[afV.l0]at H
  by_cases c8:tH<(l1.length:Int)
  ·rw[if_pos c8]at H
   have aDL:decide (tH<(l1.length:Int))=true:=decide_eq_true c8
   clear c8
   by_cases c9:0<=tH
   ·rw[if_pos c9]at H
    have QC:decide (0<=tH)=true:=decide_eq_true c9
    clear c9
    by_cases c10:tH<(l3.length:Int)
    ·rw[if_pos c10]at H
     have anN:decide (tH<(l3.length:Int))=true:=decide_eq_true c10
     clear c10
     obtain⟨ar8,a7O⟩:∃ j_:Int,(IntKind.u64.wrap (tH))=j_:=⟨_,rfl⟩
     replace H:(if 0<=(ar8)then(if(Go.bits .and .i64 (shr .i64 a2 (ar8)) 1)=1 then(if(mx (wrap64 ((wrap64 ((wrap64 (aeR+(wrap64 (aeL*(wrap64 (((DC l1 tH).f0) - (rd l3 tH)))))))+(wrap64 (aeQ*(wrap64 (((DC l1 tH).f1)+(rd l3 tH))))))) - ((DC l1 tH).f2))) (wrap64 (((DC l1 tH).f2) - (wrap64 ((wrap64 (aeR+(wrap64 (aeL*(wrap64 (((DC l1 tH).f0) - (rd l3 tH)))))))+(wrap64 (aeQ*(wrap64 (((DC l1 tH).f1)+(rd l3 tH))))))))))>rW then(some false)else(afV.l0 k1 l1 a2 l3 (wrap64 (tH+1)) bV bU iL iO kV lW rW aeL aeQ aeR))else(afV.l0 k1 l1 a2 l3 (wrap64 (tH+1)) bV bU iL iO kV lW rW aeL aeQ aeR))else(none))=some r:=by first|(rw[a7O]at H;exact H)|(simp only[a7O]at H ⊢;exact H)
     by_cases c12:0<=(ar8)
     ·rw[if_pos c12]at H
      have bD5:=eq_true c12
      have bHM:decide (0<=(ar8))=true:=decide_eq_true c12
      clear c12
      obtain⟨YN,aRF⟩:∃ j_:Int,(shr .i64 a2 (ar8))=j_:=⟨_,rfl⟩
      replace H:(if(Go.bits .and .i64 (YN) 1)=1 then(if(mx (wrap64 ((wrap64 ((wrap64 (aeR+(wrap64 (aeL*(wrap64 (((DC l1 tH).f0) - (rd l3 tH)))))))+(wrap64 (aeQ*(wrap64 (((DC l1 tH).f1)+(rd l3 tH))))))) - ((DC l1 tH).f2))) (wrap64 (((DC l1 tH).f2) - (wrap64 ((wrap64 (aeR+(wrap64 (aeL*(wrap64 (((DC l1 tH).f0) - (rd l3 tH)))))))+(wrap64 (aeQ*(wrap64 (((DC l1 tH).f1)+(rd l3 tH))))))))))>rW then(some false)else(afV.l0 k1 l1 a2 l3 (wrap64 (tH+1)) bV bU iL iO kV lW rW aeL aeQ aeR))else(afV.l0 k1 l1 a2 l3 (wrap64 (tH+1)) bV bU iL iO kV lW rW aeL aeQ aeR))=some r:=by first|(rw[aRF]at H;exact H)|(simp only[aRF]at H ⊢;exact H)
      have bTH:(a2 / 2^min (ar8).toNat 64)=YN:=aRF
      have bTI:(ar8)<=64->(a2 / 2^(ar8).toNat)=YN:=aCP aRF
      by_cases c14:(Go.bits .and .i64 (YN) 1)=1
      ·rw[if_pos c14]at H
       have aFM:((Go.bits .and .i64 (YN) 1)==1)=true:=beq_iff_eq.mpr c14
       have brX:((Go.bits .and .i64 (YN) 1)!=1)=false:=bne_eq_false_iff_eq.mpr c14
       clear c14
       obtain⟨ae2,aBZ⟩:∃ j_:Int,(mx (wrap64 ((wrap64 ((wrap64 (aeR+(wrap64 (aeL*(wrap64 (((DC l1 tH).f0) - (rd l3 tH)))))))+(wrap64 (aeQ*(wrap64 (((DC l1 tH).f1)+(rd l3 tH))))))) - ((DC l1 tH).f2))) (wrap64 (((DC l1 tH).f2) - (wrap64 ((wrap64 (aeR+(wrap64 (aeL*(wrap64 (((DC l1 tH).f0) - (rd l3 tH)))))))+(wrap64 (aeQ*(wrap64 (((DC l1 tH).f1)+(rd l3 tH))))))))))=j_:=⟨_,rfl⟩
       replace H:(if(ae2)>rW then(some false)else(afV.l0 k1 l1 a2 l3 (wrap64 (tH+1)) bV bU iL iO kV lW rW aeL aeQ aeR))=some r:=by first|(rw[aBZ]at H;exact H)|(simp only[aBZ]at H ⊢;exact H)
       have a6A:(if(wrap64 ((wrap64 ((wrap64 (aeR+(wrap64 (aeL*(wrap64 (((DC l1 tH).f0) - (rd l3 tH)))))))+(wrap64 (aeQ*(wrap64 (((DC l1 tH).f1)+(rd l3 tH))))))) - ((DC l1 tH).f2)))<(wrap64 (((DC l1 tH).f2) - (wrap64 ((wrap64 (aeR+(wrap64 (aeL*(wrap64 (((DC l1 tH).f0) - (rd l3 tH)))))))+(wrap64 (aeQ*(wrap64 (((DC l1 tH).f1)+(rd l3 tH)))))))))then(wrap64 (((DC l1 tH).f2) - (wrap64 ((wrap64 (aeR+(wrap64 (aeL*(wrap64 (((DC l1 tH).f0) - (rd l3 tH)))))))+(wrap64 (aeQ*(wrap64 (((DC l1 tH).f1)+(rd l3 tH)))))))))else(wrap64 ((wrap64 ((wrap64 (aeR+(wrap64 (aeL*(wrap64 (((DC l1 tH).f0) - (rd l3 tH)))))))+(wrap64 (aeQ*(wrap64 (((DC l1 tH).f1)+(rd l3 tH))))))) - ((DC l1 tH).f2))))=ae2:=aBZ
       by_cases c16:(ae2)>rW
       ·rw[if_pos c16]at H
        have aNJ:decide (rW<(ae2))=true:=decide_eq_true c16
        clear c16
        obtain rfl:=Option.some.inj H
        have aJZ:=aHD.out
        have aJ0:=aHA.out
        obtain⟨OW,OX⟩:=bZ agR (.int .i64 aeL) (.int .i64 aeQ)
        have bHN:=kd agR 2 (.int .i64 aeR)
        have afD:=aX agR.out 0
        have afE:=aX agR.out 1
        have bHO:=aX agR.out 2
        have akJ:0<=(tH:Int):=od
        have akK:tH<(l1.length:Int):=od
        obtain⟨aqF,aHE,asI,asJ,asK⟩:=aIW HR1.out tH akJ akK
        cases aHE
        replace asI:=xs HB asI
        replace asJ:=xs HB asJ
        replace asK:=xs HB asK
        replace akJ:=eq_true akJ
        replace akK:=eq_true akK
        have akL:0<=(tH:Int):=od
        have ak8:tH<(l3.length:Int):=od
        obtain⟨aHF,aHL,asL⟩:=Kd.BL HR3.out tH akL ak8
        cases aHL
        replace asL:=xs HB asL
        replace akL:=eq_true akL
        replace ak8:=eq_true ak8
        have ak9:0<=(tH:Int):=od
        have alC:tH<(l1.length:Int):=od
        obtain⟨aHO,aHP,asM,asN,asO⟩:=aIW HR1.out tH ak9 alC
        obtain rfl:aqF=aHO:=(by injection aHP)
        replace asM:=xs HB asM
        replace asN:=xs HB asN
        replace asO:=xs HB asO
        replace ak9:=eq_true ak9
        replace alC:=eq_true alC
        have alE:0<=(tH:Int):=od
        have alF:tH<(l3.length:Int):=od
        obtain⟨aHZ,aH0,asP⟩:=Kd.BL HR3.out tH alE alF
        obtain rfl:aHF=aHZ:=(by injection aH0)
        replace asP:=xs HB asP
        replace alE:=eq_true alE
        replace alF:=eq_true alF
        have awL:0<=(tH:Int):=od
        have awM:tH<(l1.length:Int):=od
        obtain⟨baE,baM,aH1,aH2,aH3⟩:=aIW HR1.out tH awL awM
        obtain rfl:aqF=baE:=(by injection baM)
        replace aH1:=xs HB aH1
        replace aH2:=xs HB aH2
        replace aH3:=xs HB aH3
        replace awL:=eq_true awL
        replace awM:=eq_true awM
        have awT:0<=(tH:Int):=od
        have axB:tH<(l1.length:Int):=od
        obtain⟨baN,bdS,aH4,aH5,aH6⟩:=aIW HR1.out tH awT axB
        obtain rfl:aqF=baN:=(by injection bdS)
        replace aH4:=xs HB aH4
        replace aH5:=xs HB aH5
        replace aH6:=xs HB aH6
        replace awT:=eq_true awT
        replace axB:=eq_true axB
        obtain⟨aXH,aXI⟩:=bZ ac2 (.int .i64 bV) (.int .i64 bU)
        have bHP:=kd ac2 2 (.int .i64 iL)
        have bHQ:=kd ac2 3 (.int .i64 iO)
        have bHR:=kd ac2 4 (.int .i64 kV)
        have bHS:=kd ac2 5 (.int .i64 lW)
        have bHT:=kd ac2 6 (.int .i64 rW)
        have bC4:=aX ac2.out 0
        have bC5:=aX ac2.out 1
        have bHU:=aX ac2.out 2
        have bHV:=aX ac2.out 3
        have bHW:=aX ac2.out 4
        have bHX:=aX ac2.out 5
        have bHY:=aX ac2.out 6
        go_wp2
        repeat(go_quiet (fail);try go_wp2)
        go_ret
        exact⟨by first|rfl|(simp[iU,iV]<;>rfl)|(simp only[<-a7O,<-aRF,<-aBZ];first|rfl|(simp[iU,iV]<;>rfl))|(simp[*,iU,iV]<;>rfl),Bq HB⟩
       rw[if_neg c16]at H
       have aNJ:decide (rW<(ae2))=false:=decide_eq_false c16
       clear c16
       have H':=aA.mk H
       clear H
       have bcA:=aHD.out
       have bcB:=aHA.out
       obtain⟨bcC,bcD⟩:=bZ agR (.int .i64 aeL) (.int .i64 aeQ)
       have bcE:=kd agR 2 (.int .i64 aeR)
       have bcG:=aX agR.out 0
       have bcH:=aX agR.out 1
       have bcI:=aX agR.out 2
       have akJ:0<=(tH:Int):=od
       have akK:tH<(l1.length:Int):=od
       obtain⟨aqF,aHE,asI,asJ,asK⟩:=aIW HR1.out tH akJ akK
       cases aHE
       replace asI:=xs HB asI
       replace asJ:=xs HB asJ
       replace asK:=xs HB asK
       replace akJ:=eq_true akJ
       replace akK:=eq_true akK
       have akL:0<=(tH:Int):=od
       have ak8:tH<(l3.length:Int):=od
       obtain⟨aHF,aHL,asL⟩:=Kd.BL HR3.out tH akL ak8
       cases aHL
       replace asL:=xs HB asL
       replace akL:=eq_true akL
       replace ak8:=eq_true ak8
       have ak9:0<=(tH:Int):=od
       have alC:tH<(l1.length:Int):=od
       obtain⟨aHO,aHP,asM,asN,asO⟩:=aIW HR1.out tH ak9 alC
       obtain rfl:aqF=aHO:=(by injection aHP)
       replace asM:=xs HB asM
       replace asN:=xs HB asN
       replace asO:=xs HB asO
       replace ak9:=eq_true ak9
       replace alC:=eq_true alC
       have alE:0<=(tH:Int):=od
       have alF:tH<(l3.length:Int):=od
       obtain⟨aHZ,aH0,asP⟩:=Kd.BL HR3.out tH alE alF
       obtain rfl:aHF=aHZ:=(by injection aH0)
       replace asP:=xs HB asP
       replace alE:=eq_true alE
       replace alF:=eq_true alF
       have awL:0<=(tH:Int):=od
       have awM:tH<(l1.length:Int):=od
       obtain⟨baE,baM,aH1,aH2,aH3⟩:=aIW HR1.out tH awL awM
       obtain rfl:aqF=baE:=(by injection baM)
       replace aH1:=xs HB aH1
       replace aH2:=xs HB aH2
       replace aH3:=xs HB aH3
       replace awL:=eq_true awL
       replace awM:=eq_true awM
       have awT:0<=(tH:Int):=od
       have axB:tH<(l1.length:Int):=od
       obtain⟨baN,bdS,aH4,aH5,aH6⟩:=aIW HR1.out tH awT axB
       obtain rfl:aqF=baN:=(by injection bdS)
       replace aH4:=xs HB aH4
       replace aH5:=xs HB aH5
       replace aH6:=xs HB aH6
       replace awT:=eq_true awT
       replace axB:=eq_true axB
       obtain⟨aFN,aFO⟩:=bZ ac2 (.int .i64 bV) (.int .i64 bU)
       have bHZ:=kd ac2 2 (.int .i64 iL)
       have bH0:=kd ac2 3 (.int .i64 iO)
       have bH1:=kd ac2 4 (.int .i64 kV)
       have bH2:=kd ac2 5 (.int .i64 lW)
       have bH3:=kd ac2 6 (.int .i64 rW)
       have aQ3:=aX ac2.out 0
       have aQ4:=aX ac2.out 1
       have bH4:=aX ac2.out 2
       have bH5:=aX ac2.out 3
       have bH6:=aX ac2.out 4
       have bH7:=aX ac2.out 5
       have bH8:=aX ac2.out 6
       go_wp2
       repeat(go_quiet (fail);try go_wp2)
       go_roundg k1
       case measure=>have:=fV.out;omega
       case rel=>exact⟨(wrap64 (tH+1)),(by first|rfl|(simp;done)|(simp[*];done)),H',⟨by have:=fV.out;omega⟩,⟨b_ ac2⟩,⟨b_ agR⟩,⟨Bq HB⟩⟩
      rw[if_neg c14]at H
      have aFM:((Go.bits .and .i64 (YN) 1)==1)=false:=beq_eq_false_iff_ne.mpr c14
      have brX:((Go.bits .and .i64 (YN) 1)!=1)=true:=bne_iff_ne.mpr c14
      have H':=aA.mk H
      clear H
      have bgR:=aHD.out
      have bgS:=aHA.out
      obtain⟨bgT,bgU⟩:=bZ agR (.int .i64 aeL) (.int .i64 aeQ)
      have bD6:=kd agR 2 (.int .i64 aeR)
      have bgV:=aX agR.out 0
      have bgW:=aX agR.out 1
      have bD7:=aX agR.out 2
      have akJ:0<=(tH:Int):=od
      have akK:tH<(l1.length:Int):=od
      obtain⟨aqF,aHE,asI,asJ,asK⟩:=aIW HR1.out tH akJ akK
      cases aHE
      replace asI:=xs HB asI
      replace asJ:=xs HB asJ
      replace asK:=xs HB asK
      replace akJ:=eq_true akJ
      replace akK:=eq_true akK
      have akL:0<=(tH:Int):=od
      have ak8:tH<(l3.length:Int):=od
      obtain⟨aHF,aHL,asL⟩:=Kd.BL HR3.out tH akL ak8
      cases aHL
      replace asL:=xs HB asL
      replace akL:=eq_true akL
      replace ak8:=eq_true ak8
      have ak9:0<=(tH:Int):=od
      have alC:tH<(l1.length:Int):=od
      obtain⟨aHO,aHP,asM,asN,asO⟩:=aIW HR1.out tH ak9 alC
      obtain rfl:aqF=aHO:=(by injection aHP)
      replace asM:=xs HB asM
      replace asN:=xs HB asN
      replace asO:=xs HB asO
      replace ak9:=eq_true ak9
      replace alC:=eq_true alC
      have alE:0<=(tH:Int):=od
      have alF:tH<(l3.length:Int):=od
      obtain⟨aHZ,aH0,asP⟩:=Kd.BL HR3.out tH alE alF
      obtain rfl:aHF=aHZ:=(by injection aH0)
      replace asP:=xs HB asP
      replace alE:=eq_true alE
      replace alF:=eq_true alF
      go_wp2
      repeat(go_quiet (fail);try go_wp2)
      go_roundg k1
      case measure=>have:=fV.out;omega
      case rel=>exact⟨(wrap64 (tH+1)),(by first|rfl|(simp;done)|(simp[*];done)),H',⟨by have:=fV.out;omega⟩,⟨b_ ac2⟩,⟨b_ agR⟩,⟨Bq HB⟩⟩
     rw[if_neg c12]at H
     exact absurd H (by simp)
    rw[if_neg c10]at H
    exact absurd H (by simp)
   rw[if_neg c9]at H
   exact absurd H (by simp)
  rw[if_neg c8]at H
  have aDL:decide (tH<(l1.length:Int))=false:=decide_eq_false c8
  clear c8
  obtain rfl:=Option.some.inj H
  go_wp2
  repeat(go_quiet (fail);try go_wp2)
  go_ret
  exact eR HB
attribute [local go_sem] uA uB uC uD uM uN uO uP   -- for this text's walks alone
mutual
def abB.l0:Nat->List (gQ)->Int->List (List Int)->List (aaL)->List (List Int)->List (aaL)->Int->Int->Int->Int->Int->Int->Int->Int->Option ((List (List Int))×(List (aaL)))
  |0,_,_,_,_,_,_,_,_,_,_,_,_,_,_=>none
  |k+1,x1,x3,x10,x11,x12,GG,x14,axD,axH,axI,ayD,ayE,ayN,ayP=>if x14<(x10.length:Int)then(abB.l1 k x1 x3 x10 x11 x12 GG x14 false 0 axD axH axI ayD ayE ayN ayP)else(some (x12,GG))
def abB.l1:Nat->List (gQ)->Int->List (List Int)->List (aaL)->List (List Int)->List (aaL)->Int->Bool->Int->Int->Int->Int->Int->Int->Int->Int->Option ((List (List Int))×(List (aaL)))
  |0,_,_,_,_,_,_,_,_,_,_,_,_,_,_,_,_=>none
  |k+1,x1,x3,x10,x11,x12,GG,x14,x15,x16,axD,axH,axI,ayD,ayE,ayN,ayP=>if x16<(x11.length:Int)then(if 0<=x14 then(if x14<(x10.length:Int)then(if 0<=x16 then((afV.f k axD axH axI ayD ayE ayN ayP x1 x3 (AP x10 x14) ((acP x11 x16).f0) ((acP x11 x16).f1) ((acP x11 x16).f2)).bind fun aZK=>(if aZK=true then(if GG.length<5864062014805 then(abB.l1 k x1 x3 x10 x11 x12 (GG++[(⟨(acP x11 x16).f0,(acP x11 x16).f1,(acP x11 x16).f2⟩:aaL)]) x14 true (wrap64 (x16+1)) axD axH axI ayD ayE ayN ayP)else(none))else(abB.l1 k x1 x3 x10 x11 x12 GG x14 x15 (wrap64 (x16+1)) axD axH axI ayD ayE ayN ayP)))else(none))else(none))else(none))else(if x15=true then(if 0<=x14 then(if x14<(x10.length:Int)then(if x12.length<5864062014805 then(abB.l0 k x1 x3 x10 x11 (x12++[AP x10 x14]) GG (wrap64 (x14+1)) axD axH axI ayD ayE ayN ayP)else(none))else(none))else(none))else(abB.l0 k x1 x3 x10 x11 x12 GG (wrap64 (x14+1)) axD axH axI ayD ayE ayN ayP))
end
def abB.f (k:Nat) (bV:Int) (bU:Int) (iL:Int) (iO:Int) (kV:Int) (lW:Int) (rW:Int) (l1:List (gQ)) (a2:Int) (a3:Int):Option ((List (List Int))×(List (aaL))):=(aaN.f k l1 a2 ([]:List Int)).bind fun acA=>((ac7.f k bV bU iL iO kV lW rW).bind fun wK=>(abB.l0 k l1 a3 acA wK (([]:List (List Int))) (([]:List (aaL))) 0 bV bU iL iO kV lW rW))
def abB.T10:Bool×List (List Nat×List Nat):=(true,[([],[]),([],[]),([],[]),([],[]),([],[]),([3,4],[3,4]),([5],[5]),([],[]),([],[]),([7,8],[7,8]),([9],[9]),([0,1,2,6,10],[0,1,2,6,10])])
def abB.B10:List Nat:=[0,0,0,0,0,24,56,0,0,384,896,2047]
theorem abB.bsV:qW .any (opsOf Tryd.f40 10)=abB.T10:=by kernel_rfl
theorem abB.bsW:CZ abB.T10.2 abB.B10=true:=by kernel_rfl
theorem abB.calls (k:Nat) (bV:Int) (bU:Int) (iL:Int) (iO:Int) (kV:Int) (lW:Int) (rW:Int) (A1:Option Addr) (c1:Nat) (l1:List (gQ)) (a2:Int) (a3:Int) (r1:List (List Int)) (r2:List (aaL)) (w:World) (hr1:Kd.C vC w A1 l1.length l1) (hc1:l1.length<=c1) (h:abB.f k bV bU iL iO kV lW rW l1 a2 a3=some (r1,r2)):
    Calls Tryd.prog 40 #[.agg #[.int .i64 bV,.int .i64 bU,.int .i64 iL,.int .i64 iO,.int .i64 kV,.int .i64 lW,.int .i64 rW],.slice A1 l1.length c1,.int .i64 a2,.int .i64 a3] w fun e w'=>∃ iG nC:Value,e=.returned (.tuple #[iG,nC])/\Kd.N (Kd.slice 3 (Kd.int .i64)) 34 w' w.heap.size (fun k_=>(w.heap.size<=k_)/\some k_≠(nC:Value).ownBlock) iG r1/\Kd.R ajW 154 w' w.heap.size (fun k_=>(w.heap.size<=k_)) nC r2/\Below w.heap.size w w':=by
 have aPM:=Tryd.underlying53
 have bAQ:=Tryd.underlying154
 have HR1:=aA.mk hr1
 have HC1:=aA.mk hc1
 clear hr1 hc1
 have HB:=aA.mk (Below.refl w.heap.size w)
 have H:((aaN.f k l1 a2 ([]:List Int)).bind fun acA=>((ac7.f k bV bU iL iO kV lW rW).bind fun wK=>(abB.l0 k l1 a3 acA wK (([]:List (List Int))) (([]:List (aaL))) 0 bV bU iL iO kV lW rW)))=some (r1,r2):=h
 clear h
 replace H:=Option.bind_eq_some_iff.mp H
 obtain⟨acA,A50,H⟩:=H
 replace H:((ac7.f k bV bU iL iO kV lW rW).bind fun wK=>(abB.l0 k l1 a3 acA wK (([]:List (List Int))) (([]:List (aaL))) 0 bV bU iL iO kV lW rW))=some (r1,r2):=H
 have A5:=aA.mk A50
 clear A50
 replace H:=Option.bind_eq_some_iff.mp H
 obtain⟨wK,A60,H⟩:=H
 replace H:(abB.l0 k l1 a3 acA wK (([]:List (List Int))) (([]:List (aaL))) 0 bV bU iL iO kV lW rW)=some (r1,r2):=H
 have A6:=aA.mk A60
 clear A60
 obtain⟨bfH,aH7⟩:∃ y_:List (List Int),y_=(([]:List (List Int))):=⟨_,rfl⟩
 replace H:(abB.l0 k l1 a3 acA wK bfH (([]:List (aaL))) 0 bV bU iL iO kV lW rW)=some (r1,r2):=by first|(rw[aH7];with_reducible exact H)|(have dJ:=(Option.bind_some _ _).symm.trans H;rw[aH7];with_reducible exact dJ)|(have dJ:=(Option.bind_some _ _).symm.trans H;with_reducible exact dJ)|with_reducible exact H|(rw[aH7];exact H)|exact H
 have bA4:=aA.mk aH7
 clear aH7
 obtain⟨bA5,aIK⟩:∃ y_:List (aaL),y_=(([]:List (aaL))):=⟨_,rfl⟩
 replace H:(abB.l0 k l1 a3 acA wK bfH bA5 0 bV bU iL iO kV lW rW)=some (r1,r2):=by first|(rw[aIK];with_reducible exact H)|(have dJ:=(Option.bind_some _ _).symm.trans H;rw[aIK];with_reducible exact dJ)|(have dJ:=(Option.bind_some _ _).symm.trans H;with_reducible exact dJ)|with_reducible exact H|(rw[aIK];exact H)|exact H
 have bA6:=aA.mk aIK
 clear aIK
 have H':=aA.mk H
 clear H
 go_enter Tryd.func40,Tryd.ntmps40
 try go_wp2_with (first|((with_reducible refine dU (N:=4) rfl ?_);refine eX 4 #[.int .i64 bV,.int .i64 bU,.int .i64 iL,.int .i64 iO,.int .i64 kV,.int .i64 lW,.int .i64 rW] 53 ?_;intro acV hg w7 hbox hb;have dW:=aA.mk (hbox);have bTJ:=gw hg HB;have bTK:=gw hg HB;replace HB:=bs HB hb;clear hb hbox hg))
 have aV:=aA.mk (gI dW.out)
 have aW:=aA.mk (sW HB.out)
 clear dW HB
 have dW:=aV
 have HB:=aW
 clear aV aW
 refine xP (n:=7) (S:=fun w'=>w'.cell? ⟨acV,0,none⟩=some (.int .i64 bV)/\w'.cell? ⟨acV,1,none⟩=some (.int .i64 bU)/\w'.cell? ⟨acV,2,none⟩=some (.int .i64 iL)/\w'.cell? ⟨acV,3,none⟩=some (.int .i64 iO)/\w'.cell? ⟨acV,4,none⟩=some (.int .i64 kV)/\w'.cell? ⟨acV,5,none⟩=some (.int .i64 lW)/\w'.cell? ⟨acV,6,none⟩=some (.int .i64 rW)) (ds:=[]) (bl 7 0) (by kernel_rfl) rfl rfl ⟨kc dW 0,kc dW 1,kc dW 2,kc dW 3,kc dW 4,kc dW 5,kc dW 6⟩ (fun hHeld=>?_)
 generalize w7.drew=w8 at dW HB hHeld ⊢
 refine ap1 (i:=0) (N:=some 17) (v:=?_) (a':=?_) (bl 7 1) rfl rfl (by kernel_rfl) (fun _ _ _ h=>h) (Or.inl ⟨by rfl,?_⟩) ?_ ?_
 rotate_left
 ·intro w'
  go_simp
  with_reducible rfl
 rotate_left
 ·simp only[Act.put,List.setIfInBounds_toArray,List.set_cons_zero,List.set_cons_succ,wQ,yQ]
  rfl
 refine ap1 (i:=1) (N:=some 18) (v:=?_) (a':=?_) (bl 7 3) rfl rfl (by kernel_rfl) (fun _ _ _ h=>h) (Or.inl ⟨by rfl,?_⟩) ?_ ?_
 rotate_left
 ·intro w'
  go_simp
  with_reducible rfl
 rotate_left
 ·simp only[Act.put,List.setIfInBounds_toArray,List.set_cons_zero,List.set_cons_succ,wQ,yQ]
  rfl
 refine amE (i:=3) (N:=some 20) (v:=?_) (a':=?_) (bl 7 11) rfl rfl (by kernel_rfl) (fun _ _ _ h=>h) (Or.inl ⟨by rfl,?_⟩) hHeld ?_ ?_
 rotate_left
 ·rintro w' ⟨s0,s1,s2,s3,s4,s5,s6⟩
  go_simp
  with_reducible rfl
 rotate_left
 ·simp only[Act.put,List.setIfInBounds_toArray,List.set_cons_zero,List.set_cons_succ,wQ,yQ]
  rfl
 refine lI (i:=2) (N:=some 19) (bl 7 15) rfl rfl (by kernel_rfl) (by decide) (fun K hK=>?_)
 refine rD Tryd.func86 (by kernel_rfl) rfl #[.slice A1 l1.length c1,.int .i64 a2,.slice none 0 0] (by rfl) rfl rfl (by(try simp only[List.map_toArray,List.map_cons,List.map_nil]);first|done|rfl|(simp only[List.length_drop,List.length_take];rfl)) ?_
 refine(aaN.calls k _ _ l1 a2 (fun k_=>False) _ _ ([]:List Int) acA _ ?jK ?jL ?jM A5.out).mono ?_
 (case jK=>exact Kd.bJ HR1.out (Bq HB))
 (case jL=>exact HC1.out)
 (case jM=>exact Kd.TR _ _ _ _ _)
 rintro e w9 ⟨aIL,rfl,ho0,hb⟩
 refine⟨_,rfl,?_⟩
 have aV:=aA.mk (Kd.apI (Kd.ac8 (ok':=fun k_=>(w.heap.size<=k_)/\k_≠acV) ho0 (fun k_ hk_=>⟨Or.elim hk_ (fun hs_=>(hs_).elim) (fun hn_=>(Nat.le_trans (dH (Bq HB)) hn_)),Or.elim hk_ (fun hs_=>(hs_).elim) (fun hn_=>(Kd.aIM (g:=acV) (o:=.cells #[.int .i64 bV,.int .i64 bU,.int .i64 iL,.int .i64 iO,.int .i64 kV,.int .i64 lW,.int .i64 rW] 53 (0,0)) (b_ dW) k_ hn_))⟩)) (dH (Bq HB)))
 have aW:=bb dW hb
 have aY:=bs HB hb
 clear dW HB
 have aqM:=aV
 have dW:=aW
 have HB:=aY
 clear aV aW aY
 (try clear hb)
 (try clear hb2)
 (try clear hk)
 (try clear hi)
 (try clear ho0)
 refine hK.out _ _ ⟨kc dW 0,kc dW 1,kc dW 2,kc dW 3,kc dW 4,kc dW 5,kc dW 6⟩ (fun hHeld=>?_)
 clear hK K
 refine nq 19 ?_
 refine lI (i:=4) (N:=some 21) (bl 7 31) rfl rfl (by kernel_rfl) (by decide) (fun K hK=>?_)
 refine rD Tryd.func87 (by kernel_rfl) rfl #[.agg #[.int .i64 bV,.int .i64 bU,.int .i64 iL,.int .i64 iO,.int .i64 kV,.int .i64 lW,.int .i64 rW]] (by rfl) rfl rfl (by(try simp only[List.map_toArray,List.map_cons,List.map_nil]);first|done|rfl|(simp only[List.length_drop,List.length_take];rfl)) ?_
 with_reducible refine(ac7.calls k bV bU iL iO kV lW rW wK _ A6.out).mono ?_
 rintro e w10 ⟨alG,rfl,ho0,hb⟩
 refine⟨_,rfl,?_⟩
 have aV:=aA.mk (Kd.apL (by(with_reducible repeat(first|apply Kd.aaJ|apply Kd.aaK|apply Kd.RD));exact aqM.out) (Kd.fF ho0) hb)
 have aW:=aA.mk (Kd.eF (Kd.brY (M:=fun k_=>(w.heap.size<=k_)) ho0 (dH (Bq HB)) (fun k_ h_=>h_)) (dH (Bq HB)))
 have aY:=bb dW hb
 have bI:=bs HB hb
 clear aqM dW HB
 have aqM:=aV
 have ayQ:=aW
 have dW:=aY
 have HB:=bI
 clear aV aW aY bI
 (try clear hb)
 (try clear hb2)
 (try clear hk)
 (try clear hi)
 (try clear ho0)
 refine hK.out _ _ ⟨kc dW 0,kc dW 1,kc dW 2,kc dW 3,kc dW 4,kc dW 5,kc dW 6⟩ (fun hHeld=>?_)
 clear hK K
 refine nq 21 ?_
 refine ap1 (i:=5) (N:=some 10) (v:=?_) (a':=?_) (bl 7 63) rfl rfl (by kernel_rfl) (fun _ _ _ h=>h) (Or.inl ⟨by rfl,?_⟩) ?_ ?_
 rotate_left
 ·intro w'
  go_simp
  with_reducible rfl
 rotate_left
 ·simp only[Act.put,List.setIfInBounds_toArray,List.set_cons_zero,List.set_cons_succ,wQ,yQ]
  rfl
 refine ap1 (i:=6) (N:=some 11) (v:=?_) (a':=?_) (bl 7 127) rfl rfl (by kernel_rfl) (fun _ _ _ h=>h) (Or.inl ⟨by rfl,?_⟩) ?_ ?_
 rotate_left
 ·intro w'
  go_simp
  with_reducible rfl
 rotate_left
 ·simp only[Act.put,List.setIfInBounds_toArray,List.set_cons_zero,List.set_cons_succ,wQ,yQ]
  rfl
 refine xQ (by kernel_rfl) ?_
 try go_wp2_with (first|((with_reducible refine dU (N:=22) rfl ?_);refine Kd.bxX (Kd.slice 3 (Kd.int .i64)) _ 34 ?hg (N':=22) ?hd (xs:=([]:List (List Int))) (inner:=[]) (ok:=(fun k_=>(w.heap.size<=k_)/\some k_≠(aIL:Value).ownBlock/\some k_≠(alG:Value).ownBlock/\k_≠acV)) (lS:=(fun k_=>(w.heap.size<=k_)/\some k_≠(aIL:Value).ownBlock/\some k_≠(alG:Value).ownBlock/\k_≠acV)) ?hr ?hp (fun _ hk=>hk) ((show ∀ k_,w10.heap.size<=k_->(fun k_=>(w.heap.size<=k_)/\some k_≠(aIL:Value).ownBlock/\some k_≠(alG:Value).ownBlock/\k_≠acV) k_ from fun k_ hk=>⟨(Nat.le_trans (dH (Bq HB)) hk),Kd.fresh' (Kd.aE9 (by(with_reducible repeat(first|apply Kd.aaJ|apply Kd.aaK|apply Kd.RD));exact aqM.out)) k_ hk,Kd.fresh' (Kd.dY (R_ ayQ)) k_ hk,Kd.aIM (g:=acV) (o:=.cells #[.int .i64 bV,.int .i64 bU,.int .i64 iL,.int .i64 iO,.int .i64 kV,.int .i64 lW,.int .i64 rW] 53 (0,0)) (b_ dW) k_ hk⟩) _ (Nat.le_refl _)) (Below.refl _ _) (Nat.le_refl _) (by simp) ?_;(case hd=>rfl);(case hg=>rfl);(case hr=>first|(go_simp;done)|(go_simp;rfl));(case hp=>exact(gX.none _ _));intro bTL vK aj7 hb mF mG;clear mF mG;(first|rw[<-bA4.out]at aj7|(simp only[Int.reduceToNat]at aj7;rw[<-bA4.out]at aj7));have bf4:=aA.mk (Kd.apI aj7 (dH (Bq HB)));replace aqM:=aA.mk (Kd.apL (by(with_reducible repeat(first|apply Kd.aaJ|apply Kd.aaK|apply Kd.RD));exact aqM.out) (Kd.arD aj7) hb);replace ayQ:=RB ayQ hb;replace dW:=bb dW hb;replace HB:=bs HB hb;clear hb aj7)|((with_reducible refine dU (N:=23) rfl ?_);refine Kd.YX ajW _ 154 ?hg (N:=23) ?hd (xs:=([]:List (aaL))) (inner:=[]) (ok:=fun _=>True) (lS:=fun _=>True) ?hr ?hp (fun _ hk=>hk) trivial (Below.refl _ _) (Nat.le_refl _) (by simp) ?_;(case hd=>rfl);(case hg=>rfl);(case hr=>first|(go_simp;done)|(go_simp;rfl));(case hp=>exact(gX.none _ _));intro bTM tV asT hb mF mG;clear mF mG;(first|rw[<-bA6.out]at asT|(simp only[Int.reduceToNat]at asT;rw[<-bA6.out]at asT));have bH9:=aA.mk (Kd.eF (Kd.fG (Kd.brY (M:=fun k_=>(w.heap.size<=k_)) asT (dH (Bq HB)) (fun k_ h_=>h_)) (Kd.dY (R_ ayQ))) (dH (Bq HB)));replace aqM:=aA.mk (Kd.apL (by(with_reducible repeat(first|apply Kd.aaJ|apply Kd.aaK|apply Kd.RD));exact aqM.out) (Kd.fF asT) hb);replace ayQ:=aA.mk (Kd.gW (R_ ayQ) (Kd.fF asT) hb);replace bf4:=aA.mk (Kd.apL (by(with_reducible repeat(first|apply Kd.aaJ|apply Kd.aaK|apply Kd.RD));exact bf4.out) (Kd.fF asT) hb);replace dW:=bb dW hb;replace HB:=bs HB hb;clear hb asT))
 go_loopg [12,13,14] k (fun kq v12 v13 v14 w'=>∃ (ajI:List (List Int)) (aZR:List (aaL)) (acC:Int),v14=.int .i64 acC/\aA (abB.l0 kq l1 a3 acA wK ajI aZR acC bV bU iL iO kV lW rW=some (r1,r2))/\aA (kq<=k)/\aA (Kd.N (Kd.slice 3 (Kd.int .i64)) 34 w' w.heap.size (fun k_=>(w.heap.size<=k_)/\some k_≠(alG:Value).ownBlock/\some k_≠(v12:Value).ownBlock/\some k_≠(v13:Value).ownBlock/\k_≠acV) aIL acA)/\aA (Kd.R ajW 154 w' w.heap.size (fun k_=>(w.heap.size<=k_)/\some k_≠(v13:Value).ownBlock) alG wK)/\aA (Kd.N (Kd.slice 3 (Kd.int .i64)) 34 w' w.heap.size (fun k_=>(w.heap.size<=k_)/\some k_≠(aIL:Value).ownBlock/\some k_≠(alG:Value).ownBlock/\some k_≠(v13:Value).ownBlock/\k_≠acV) v12 ajI)/\aA (Kd.R ajW 154 w' w.heap.size (fun k_=>(w.heap.size<=k_)/\some k_≠(alG:Value).ownBlock) v13 aZR)/\aA (w'.heap[acV]? =some (.cells #[.int .i64 bV,.int .i64 bU,.int .i64 iL,.int .i64 iO,.int .i64 kV,.int .i64 lW,.int .i64 rW] 53 (0,0)))/\aA (Below w.heap.size w w'))
 case atStart=>exact⟨(bfH),(bA5),(0),(by first|rfl|(simp;done)|(simp[*];done)),H',⟨Nat.le_refl _⟩,⟨by(with_reducible repeat(first|apply Kd.aaJ|apply Kd.aaK|apply Kd.RD));exact Kd.ac8 aqM.out (fun _ hk=>⟨hk.1.1.1.1,⟨hk.1.1.2,⟨hk.1.2,⟨hk.2,hk.1.1.1.2⟩⟩⟩⟩)⟩,⟨Kd.bQ (R_ ayQ) (fun _ hk=>⟨hk.1.1,hk.2⟩)⟩,⟨by(with_reducible repeat(first|apply Kd.aaJ|apply Kd.aaK|apply Kd.RD));exact Kd.ac8 bf4.out (fun _ hk=>⟨hk.1.1,⟨hk.1.2.1,⟨hk.1.2.2.1,⟨hk.2,hk.1.2.2.2⟩⟩⟩⟩)⟩,⟨Kd.bQ (R_ bH9) (fun _ hk=>⟨hk.1.1,hk.2⟩)⟩,⟨b_ dW⟩,⟨Bq HB⟩⟩
 case round=>
  clear H'
  try clear c1
  obtain⟨ajI,aZR,acC,rfl,HA,fV,DV,fH,iF,acD,dW,HB⟩:=hrel
  rcases gk with _|k1
  ·exact absurd HA.out (by simp[abB.l0])
  have H:=HA.out
  clear HA
  simp only[abB.l0]at H
  by_cases c15:acC<(acA.length:Int)
  ·rw[if_pos c15]at H
   have bf5:decide (acC<(acA.length:Int))=true:=decide_eq_true c15
   clear c15
   have H':=aA.mk H
   clear H
   obtain⟨VL,VM,YH⟩:=Kd.aj3 DV.out
   subst YH
   go_wp2
   go_loopg [13,15,16] k1 (fun kq v13 v15 v16 w'=>∃ (apA:List (aaL)) (aDK:Bool) (aaI:Int),v15=.bool aDK/\v16=.int .i64 aaI/\aA (abB.l1 kq l1 a3 acA wK ajI apA acC aDK aaI bV bU iL iO kV lW rW=some (r1,r2))/\aA (kq<=k1)/\aA (Kd.N (Kd.slice 3 (Kd.int .i64)) 34 w' w.heap.size (fun k_=>(w.heap.size<=k_)/\some k_≠(alG:Value).ownBlock/\some k_≠(u12:Value).ownBlock/\some k_≠(v13:Value).ownBlock/\k_≠acV) (.slice VL acA.length VM) acA)/\aA (Kd.R ajW 154 w' w.heap.size (fun k_=>(w.heap.size<=k_)/\some k_≠(v13:Value).ownBlock) alG wK)/\aA (Kd.N (Kd.slice 3 (Kd.int .i64)) 34 w' w.heap.size (fun k_=>(w.heap.size<=k_)/\some k_≠((.slice VL acA.length VM):Value).ownBlock/\some k_≠(alG:Value).ownBlock/\some k_≠(v13:Value).ownBlock/\k_≠acV) u12 ajI)/\aA (Kd.R ajW 154 w' w.heap.size (fun k_=>(w.heap.size<=k_)/\some k_≠(alG:Value).ownBlock) v13 apA)/\aA (w'.heap[acV]? =some (.cells #[.int .i64 bV,.int .i64 bU,.int .i64 iL,.int .i64 iO,.int .i64 kV,.int .i64 lW,.int .i64 rW] 53 (0,0)))/\aA (Below w.heap.size w w'))
   case atStart=>exact⟨(aZR),(false),(0),(by first|rfl|(simp;done)|(simp[*];done)),(by first|rfl|(simp;done)|(simp[*];done)),H',⟨Nat.le_refl _⟩,⟨by(with_reducible repeat(first|apply Kd.aaJ|apply Kd.aaK|apply Kd.RD));exact DV.out⟩,⟨R_ fH⟩,⟨by(with_reducible repeat(first|apply Kd.aaJ|apply Kd.aaK|apply Kd.RD));exact iF.out⟩,⟨R_ acD⟩,⟨b_ dW⟩,⟨Bq HB⟩⟩
   case round=>
    clear H'
    try clear c15
    try clear bf5
    obtain⟨apA,aDK,aaI,rfl,rfl,HA,mY,DV,fH,iF,acD,dW,HB⟩:=hrel
    rcases gk with _|k2
    ·exact absurd HA.out (by simp[abB.l1])
    have H:=HA.out
    clear HA
    simp only[abB.l1]at H
    by_cases c17:aaI<(wK.length:Int)
    ·rw[if_pos c17]at H
     have bmQ:decide (aaI<(wK.length:Int))=true:=decide_eq_true c17
     clear c17
     by_cases c18:0<=acC
     ·rw[if_pos c18]at H
      have aWE:decide (0<=acC)=true:=decide_eq_true c18
      clear c18
      by_cases c19:acC<(acA.length:Int)
      ·rw[if_pos c19]at H
       have bm1:decide (acC<(acA.length:Int))=true:=decide_eq_true c19
       clear c19
       by_cases c20:0<=aaI
       ·rw[if_pos c20]at H
        have arX:decide (0<=aaI)=true:=decide_eq_true c20
        clear c20
        replace H:=Option.bind_eq_some_iff.mp H
        obtain⟨aZK,auF,H⟩:=H
        replace H:(if aZK=true then(if apA.length<5864062014805 then(abB.l1 k2 l1 a3 acA wK ajI (apA++[(⟨(acP wK aaI).f0,(acP wK aaI).f1,(acP wK aaI).f2⟩:aaL)]) acC true (wrap64 (aaI+1)) bV bU iL iO kV lW rW)else(none))else(abB.l1 k2 l1 a3 acA wK ajI apA acC aDK (wrap64 (aaI+1)) bV bU iL iO kV lW rW))=some (r1,r2):=H
        have A21:=aA.mk auF
        clear auF
        by_cases OY:aZK=true
        ·subst OY
         replace H:(if apA.length<5864062014805 then(abB.l1 k2 l1 a3 acA wK ajI (apA++[(⟨(acP wK aaI).f0,(acP wK aaI).f1,(acP wK aaI).f2⟩:aaL)]) acC true (wrap64 (aaI+1)) bV bU iL iO kV lW rW)else(none))=some (r1,r2):=by rw[if_pos rfl]at H;exact H
         by_cases c23:apA.length<5864062014805
         ·rw[if_pos c23]at H
          have bIA:=aA.mk c23
          clear c23
          obtain⟨bA7,aKW⟩:∃ y_:List (aaL),y_=(apA++[(⟨(acP wK aaI).f0,(acP wK aaI).f1,(acP wK aaI).f2⟩:aaL)]):=⟨_,rfl⟩
          replace H:(abB.l1 k2 l1 a3 acA wK ajI bA7 acC true (wrap64 (aaI+1)) bV bU iL iO kV lW rW)=some (r1,r2):=by first|(rw[aKW];with_reducible exact H)|(have dJ:=(Option.bind_some _ _).symm.trans H;rw[aKW];with_reducible exact dJ)|(have dJ:=(Option.bind_some _ _).symm.trans H;with_reducible exact dJ)|with_reducible exact H|(rw[aKW];exact H)|exact H
          have bIB:=aA.mk aKW
          clear aKW
          have H':=aA.mk H
          clear H
          obtain⟨qM,qC,rfl⟩:=Kd.dA fH.out
          try go_wp2
          have aV:=aA.mk (Kd.RD DV.out)
          have aW:=aA.mk (Kd.dG fH.out)
          have aY:=aA.mk (Kd.RD iF.out)
          have bI:=aA.mk (Kd.dG acD.out)
          have cO:=aA.mk (gI dW.out)
          have gY:=aA.mk (sW HB.out)
          clear DV fH iF acD dW HB
          have DV:=aV
          have fH:=aW
          have iF:=aY
          have acD:=bI
          have dW:=cO
          have HB:=gY
          clear aV aW aY bI cO gY
          have aqW:0<=(acC:Int):=od
          have aqY:acC<(acA.length:Int):=od
          obtain⟨aKY,aK1,aLJ,bf7,ayR,aLK,aLL⟩:=atL (Kd.aeJ DV.out).2.2 acC aqW aqY
          cases bf7
          obtain⟨bIC,bf8,bgB,aLQ⟩:=Kd.bq8 DV.out [] acC aqW (by first|exact aqY|exact od|(have e_:=(Kd.aeJ DV.out).1;omega))
          obtain⟨bID,bIE,rfl,ayS,ayT⟩:=Kd.brQ bgB
          have aqZ:=aLQ 0 _ rfl
          rw[Nat.add_zero,show((Kd.slice 3 (Kd.int .i64))).sz=1 from rfl,Nat.mul_one]at aqZ
          replace aqZ:=Option.some.inj (aqZ.symm.trans ayR)
          injection aqZ with asV aMO asW
          rw[asV]at ayT
          rw[asW]at ayS
          have akD:=aA.mk (show Kd.V (Kd.int .i64) 3 _ w.heap.size _ _ (AP acA acC)from Kd.brB ayS ayT)
          clear asV aMO asW ayT ayS aLQ bf8
          have ajS:=aA.mk aLL
          have bgE:=aA.mk aLK
          clear aLL aLK
          replace aqW:=eq_true aqW
          replace aqY:=eq_true aqY
          have ayU:0<=(aaI:Int):=od
          have ayZ:aaI<(wK.length:Int):=od
          obtain⟨ajR,bgF,aNA,aNE,aNF⟩:=a1G (Kd.dB fH.out).2.2 aaI ayU ayZ
          cases bgF
          replace ayU:=eq_true ayU
          replace ayZ:=eq_true ayZ
          refine xP (n:=12) (S:=fun w'=>w'.cell? ⟨acV,0,none⟩=some (.int .i64 bV)/\w'.cell? ⟨acV,1,none⟩=some (.int .i64 bU)/\w'.cell? ⟨acV,2,none⟩=some (.int .i64 iL)/\w'.cell? ⟨acV,3,none⟩=some (.int .i64 iO)/\w'.cell? ⟨acV,4,none⟩=some (.int .i64 kV)/\w'.cell? ⟨acV,5,none⟩=some (.int .i64 lW)/\w'.cell? ⟨acV,6,none⟩=some (.int .i64 rW)/\w'.cell? (aKY.add (acC).toNat)=some (.slice aK1 (AP acA acC).length aLJ)/\w'.cell? (ajR.add ((aaI).toNat*3))=some (.int .i64 ((acP wK aaI).f0))/\w'.cell? ⟨(ajR.add ((aaI).toNat*3)).block,(ajR.add ((aaI).toNat*3)).off+1,none⟩=some (.int .i64 ((acP wK aaI).f1))/\w'.cell? ⟨(ajR.add ((aaI).toNat*3)).block,(ajR.add ((aaI).toNat*3)).off+2,none⟩=some (.int .i64 ((acP wK aaI).f2))) (ds:=[]) (bl 12 0) (by kernel_rfl) rfl rfl ⟨kc dW 0,kc dW 1,kc dW 2,kc dW 3,kc dW 4,kc dW 5,kc dW 6,ayR,aNA,aNE,aNF⟩ (fun hHeld=>?_);refine yS abB.bsV abB.bsW (fun aN jG=>?_)
          generalize wr.drew=AV at DV fH iF acD dW HB akD ajS ayR aNA aNE aNF hHeld ⊢
          refine pS 1 37 12 2 aN ?_
          refine pS 2 38 12 6 aN ?_
          refine pS 3 39 12 14 aN ?_
          refine pS 4 40 12 30 aN ?_
          refine pS 5 41 12 62 aN ?_
          refine pS 7 43 12 190 aN ?_
          refine pS 8 44 12 446 aN ?_
          refine pS 9 45 12 958 aN ?_
          refine tq 0 (some 36) (bl 12 959) aN jG hHeld (h:=?_)
          refine tq 6 (some 42) (bl 12 1023) aN jG hHeld (h:=?_)
          refine tq 10 (some 46) (bl 12 2047) aN jG hHeld (h:=?_)
          refine lI (i:=11) (N:=some 47) (bl 12 4095) rfl rfl (lJ aN.out (by kernel_rfl)) (by decide) (fun K hK=>?_)
          refine rD Tryd.func88 (by kernel_rfl) rfl #[.agg #[.int .i64 bV,.int .i64 bU,.int .i64 iL,.int .i64 iO,.int .i64 kV,.int .i64 lW,.int .i64 rW],.slice A1 l1.length c1,.int .i64 a3,.slice aK1 (AP acA acC).length aLJ,.agg #[.int .i64 ((acP wK aaI).f0),.int .i64 ((acP wK aaI).f1),.int .i64 ((acP wK aaI).f2)]] (by rfl) rfl rfl (by(try simp only[List.map_toArray,List.map_cons,List.map_nil]);first|done|rfl|(simp only[List.length_drop,List.length_take];rfl)) ?_
          with_reducible refine(afV.calls k2 bV bU iL iO kV lW rW _ _ l1 a3 _ _ (AP acA acC) ((acP wK aaI).f0) ((acP wK aaI).f1) ((acP wK aaI).f2) true _ ?jK ?jL ?jM ?jO A21.out).mono ?_
          (case jK=>exact Kd.bJ HR1.out (Bq HB))
          (case jL=>exact HC1.out)
          (case jM=>repeat(first|exact(by repeat(first|(with_reducible exact ajS.out)|(with_reducible refine Kd.jZ ?_ _)|(with_reducible refine Kd.kD ?_ _)|(with_reducible refine Kd.kC ?_)|exact ajS.out))|(with_reducible refine Kd.jZ ?_ _)|(with_reducible refine Kd.kD ?_ _)|(with_reducible refine Kd.kC ?_)))
          (case jO=>exact bgE.out)
          rintro e xN ⟨rfl,hb⟩
          have bgG:=(hb.cell (World.block_lt_of_cell? _ _ (hHeld.2.2.2.2.2.2.2.1))).trans (hHeld.2.2.2.2.2.2.2.1)
          have bgI:=(hb.cell (World.block_lt_of_cell? _ _ (hHeld.2.2.2.2.2.2.2.2.1))).trans (hHeld.2.2.2.2.2.2.2.2.1)
          have bgL:=(hb.cell (World.block_lt_of_cell? _ _ (hHeld.2.2.2.2.2.2.2.2.2.1))).trans (hHeld.2.2.2.2.2.2.2.2.2.1)
          have bhW:=(hb.cell (World.block_lt_of_cell? _ _ (hHeld.2.2.2.2.2.2.2.2.2.2))).trans (hHeld.2.2.2.2.2.2.2.2.2.2)
          refine⟨_,rfl,?_⟩
          have aV:=aA.mk (Kd.apD (by(with_reducible repeat(first|apply Kd.aaJ|apply Kd.aaK|apply Kd.RD));exact DV.out) hb)
          have aW:=RB fH hb
          have aY:=aA.mk (Kd.apD (by(with_reducible repeat(first|apply Kd.aaJ|apply Kd.aaK|apply Kd.RD));exact iF.out) hb)
          have bI:=RB acD hb
          have cO:=aA.mk (Kd.a1F (by(with_reducible repeat(first|apply Kd.agL|apply Kd.agN|apply Kd.afU));exact akD.out) hb)
          have gY:=bb dW hb
          have kR:=aA.mk (Kd.bJ (by repeat(first|(with_reducible exact ajS.out)|(with_reducible refine Kd.jZ ?_ _)|(with_reducible refine Kd.kD ?_ _)|(with_reducible refine Kd.kC ?_)|exact ajS.out)) hb)
          have nD:=bs HB hb
          clear DV fH iF acD akD dW ajS HB
          have DV:=aV
          have fH:=aW
          have iF:=aY
          have acD:=bI
          have akD:=cO
          have dW:=gY
          have ajS:=kR
          have HB:=nD
          clear aV aW aY bI cO gY kR nD
          (try clear hb)
          (try clear hb2)
          (try clear hk)
          (try clear hi)
          refine hK.out _ _ ⟨kc dW 0,kc dW 1,kc dW 2,kc dW 3,kc dW 4,kc dW 5,kc dW 6,bgG,bgI,bgL,bhW⟩ (fun hHeld=>?_)
          clear hK K
          refine nq 47 ?_
          refine xQ (yR aN.out (by kernel_rfl)) ?_
          have bhX:0<=(aaI:Int):=od
          have bi1:aaI<(wK.length:Int):=od
          obtain⟨bIF,bIG,bTN,bTO,bTP⟩:=a1G (Kd.dB fH.out).2.2 aaI bhX bi1
          obtain rfl:ajR=bIF:=(by injection bIG)
          replace bhX:=eq_true bhX
          replace bi1:=eq_true bi1
          try go_wp2_with (first|((with_reducible refine VC (b:=.append) (xs:=#[.tmp 48,.tmp 53]) rfl ?_);at_builtin;refine Kd.WR ajW (w0:=w) w.heap.size rfl (.tmp 48) (.tmp 53) 63 154 (.agg #[(.int .i64 0),(.int .i64 0),(.int .i64 0)]) 24 rfl Tryd.underlying63 bCS rfl (by decide) (by omega) u13 apA (⟨(acP wK aaI).f0,(acP wK aaI).f1,(acP wK aaI).f2⟩:aaL) [.int .i64 ((acP wK aaI).f0),.int .i64 ((acP wK aaI).f1),.int .i64 ((acP wK aaI).f2)] (fun k_=>(w.heap.size<=k_)/\some k_≠(.slice (some ajR) wK.length qC:Value).ownBlock) (fun _=>False) rfl rfl ?aP (fun _ hk=>hk.elim) ?aF ?aO ?aB ?aS ?aL ?_;(case aP=>exact bCT _ _ _ (⟨(acP wK aaI).f0,(acP wK aaI).f1,(acP wK aaI).f2⟩:aaL));(case aB=>exact(Bq HB));(case aF=>exact(fun k_ hk=>⟨(Nat.le_trans (dH (Bq HB)) hk),Kd.fresh' (Kd.dY (R_ fH)) k_ hk⟩));(case aO=>exact(R_ acD));(case aS=>exact(dH (Bq HB)));(case aL=>have:=bIA.out;omega);intro bTQ wF ho hb hg hat;rw[<-bIB.out]at ho;have aV:=aA.mk (Kd.aFD (ok:=(fun k_=>(w.heap.size<=k_)/\some k_≠(.slice (some ajR) wK.length qC:Value).ownBlock/\some k_≠(u12:Value).ownBlock/\k_≠acV)) (by(with_reducible repeat(first|apply Kd.aaJ|apply Kd.aaK|apply Kd.RD));exact Kd.ac8 DV.out (fun _ hk=>⟨⟨hk.1,⟨hk.2.1,⟨hk.2.2.1,hk.2.2.2.2⟩⟩⟩,hk.2.2.2.1⟩)) hg hat);have aW:=aA.mk (Kd.GI (ok:=(fun k_=>(w.heap.size<=k_))) (R_ fH) hg hat);have aY:=aA.mk (Kd.aFD (ok:=(fun k_=>(w.heap.size<=k_)/\some k_≠(.slice (some aKY) acA.length VM:Value).ownBlock/\some k_≠(.slice (some ajR) wK.length qC:Value).ownBlock/\k_≠acV)) (by(with_reducible repeat(first|apply Kd.aaJ|apply Kd.aaK|apply Kd.RD));exact Kd.ac8 iF.out (fun _ hk=>⟨⟨hk.1,⟨hk.2.1,⟨hk.2.2.1,hk.2.2.2.2⟩⟩⟩,hk.2.2.2.1⟩)) hg hat);have bI:=aA.mk (oM (g:=acV) (o:=.cells #[.int .i64 bV,.int .i64 bU,.int .i64 iL,.int .i64 iO,.int .i64 kV,.int .i64 lW,.int .i64 rW] 53 (0,0)) (b_ dW) hg (Kd.mW acD.out dW.out (by decide)));have cO:=aA.mk (Kd.aPH (ok:=(fun k_=>(w.heap.size<=k_)/\some k_≠(.slice (some aKY) acA.length VM:Value).ownBlock/\some k_≠(.slice (some ajR) wK.length qC:Value).ownBlock/\some k_≠(u12:Value).ownBlock/\k_≠acV)) (by(with_reducible repeat(first|apply Kd.agL|apply Kd.agN|apply Kd.afU));exact Kd.aj9 akD.out (fun _ hk=>⟨⟨hk.1.1,⟨hk.2,⟨hk.1.2.1,⟨hk.1.2.2.1,hk.1.2.2.2.2⟩⟩⟩⟩,hk.1.2.2.2.1⟩)) hg hat);have gY:=aA.mk (hb);have kR:=aA.mk (ho);clear DV;clear fH;clear iF;clear dW;clear akD;clear HB;clear acD;have DV:=aV;have fH:=aW;have iF:=aY;have dW:=bI;have akD:=cO;have HB:=gY;have bIH:=kR;clear aV aW aY bI cO gY kR;clear ho hb hg hat))
          go_roundg k2
          case measure=>have:=fV.out;have:=mY.out;omega
          case rel=>exact⟨(bA7),(true),(wrap64 (aaI+1)),(by first|rfl|(simp;done)|(simp[*];done)),(by first|rfl|(simp;done)|(simp[*];done)),H',⟨by have:=fV.out;have:=mY.out;omega⟩,⟨by(with_reducible repeat(first|apply Kd.aaJ|apply Kd.aaK|apply Kd.RD));exact Kd.ac8 DV.out (fun _ hk=>⟨hk.1.1,⟨hk.1.2.1,⟨hk.1.2.2.1,⟨hk.2,hk.1.2.2.2⟩⟩⟩⟩)⟩,⟨R_ fH⟩,⟨by(with_reducible repeat(first|apply Kd.aaJ|apply Kd.aaK|apply Kd.RD));exact Kd.ac8 iF.out (fun _ hk=>⟨hk.1.1,⟨hk.1.2.1,⟨hk.1.2.2.1,⟨hk.2,hk.1.2.2.2⟩⟩⟩⟩)⟩,⟨R_ bIH⟩,⟨b_ dW⟩,⟨Bq HB⟩⟩
         rw[if_neg c23]at H
         exact absurd H (by simp)
        replace OY:=Bool.eq_false_iff.mpr OY
        subst OY
        replace H:(abB.l1 k2 l1 a3 acA wK ajI apA acC aDK (wrap64 (aaI+1)) bV bU iL iO kV lW rW)=some (r1,r2):=by rw[if_neg (show ¬ (false=true) by decide)]at H;exact H
        have H':=aA.mk H
        clear H
        obtain⟨ED,EE,rfl⟩:=Kd.dA fH.out
        try go_wp2
        have aV:=aA.mk (Kd.RD DV.out)
        have aW:=aA.mk (Kd.dG fH.out)
        have aY:=aA.mk (Kd.RD iF.out)
        have bI:=aA.mk (Kd.dG acD.out)
        have cO:=aA.mk (gI dW.out)
        have gY:=aA.mk (sW HB.out)
        clear DV fH iF acD dW HB
        have DV:=aV
        have fH:=aW
        have iF:=aY
        have acD:=bI
        have dW:=cO
        have HB:=gY
        clear aV aW aY bI cO gY
        have aqW:0<=(acC:Int):=od
        have aqY:acC<(acA.length:Int):=od
        obtain⟨aKY,aK1,aLJ,bf7,ayR,aLK,aLL⟩:=atL (Kd.aeJ DV.out).2.2 acC aqW aqY
        cases bf7
        obtain⟨bIC,bf8,bgB,aLQ⟩:=Kd.bq8 DV.out [] acC aqW (by first|exact aqY|exact od|(have e_:=(Kd.aeJ DV.out).1;omega))
        obtain⟨bID,bIE,rfl,ayS,ayT⟩:=Kd.brQ bgB
        have aqZ:=aLQ 0 _ rfl
        rw[Nat.add_zero,show((Kd.slice 3 (Kd.int .i64))).sz=1 from rfl,Nat.mul_one]at aqZ
        replace aqZ:=Option.some.inj (aqZ.symm.trans ayR)
        injection aqZ with asV aMO asW
        rw[asV]at ayT
        rw[asW]at ayS
        have akD:=aA.mk (show Kd.V (Kd.int .i64) 3 _ w.heap.size _ _ (AP acA acC)from Kd.brB ayS ayT)
        clear asV aMO asW ayT ayS aLQ bf8
        have ajS:=aA.mk aLL
        have bgE:=aA.mk aLK
        clear aLL aLK
        replace aqW:=eq_true aqW
        replace aqY:=eq_true aqY
        have ayU:0<=(aaI:Int):=od
        have ayZ:aaI<(wK.length:Int):=od
        obtain⟨ajR,bgF,aNA,aNE,aNF⟩:=a1G (Kd.dB fH.out).2.2 aaI ayU ayZ
        cases bgF
        replace ayU:=eq_true ayU
        replace ayZ:=eq_true ayZ
        refine xP (n:=12) (S:=fun w'=>w'.cell? ⟨acV,0,none⟩=some (.int .i64 bV)/\w'.cell? ⟨acV,1,none⟩=some (.int .i64 bU)/\w'.cell? ⟨acV,2,none⟩=some (.int .i64 iL)/\w'.cell? ⟨acV,3,none⟩=some (.int .i64 iO)/\w'.cell? ⟨acV,4,none⟩=some (.int .i64 kV)/\w'.cell? ⟨acV,5,none⟩=some (.int .i64 lW)/\w'.cell? ⟨acV,6,none⟩=some (.int .i64 rW)/\w'.cell? (aKY.add (acC).toNat)=some (.slice aK1 (AP acA acC).length aLJ)/\w'.cell? (ajR.add ((aaI).toNat*3))=some (.int .i64 ((acP wK aaI).f0))/\w'.cell? ⟨(ajR.add ((aaI).toNat*3)).block,(ajR.add ((aaI).toNat*3)).off+1,none⟩=some (.int .i64 ((acP wK aaI).f1))/\w'.cell? ⟨(ajR.add ((aaI).toNat*3)).block,(ajR.add ((aaI).toNat*3)).off+2,none⟩=some (.int .i64 ((acP wK aaI).f2))) (ds:=[]) (bl 12 0) (by kernel_rfl) rfl rfl ⟨kc dW 0,kc dW 1,kc dW 2,kc dW 3,kc dW 4,kc dW 5,kc dW 6,ayR,aNA,aNE,aNF⟩ (fun hHeld=>?_);refine yS abB.bsV abB.bsW (fun aN jG=>?_)
        generalize wr.drew=EK at DV fH iF acD dW HB akD ajS ayR aNA aNE aNF hHeld ⊢
        refine pS 1 37 12 2 aN ?_
        refine pS 2 38 12 6 aN ?_
        refine pS 3 39 12 14 aN ?_
        refine pS 4 40 12 30 aN ?_
        refine pS 5 41 12 62 aN ?_
        refine pS 7 43 12 190 aN ?_
        refine pS 8 44 12 446 aN ?_
        refine pS 9 45 12 958 aN ?_
        refine tq 0 (some 36) (bl 12 959) aN jG hHeld (h:=?_)
        refine tq 6 (some 42) (bl 12 1023) aN jG hHeld (h:=?_)
        refine tq 10 (some 46) (bl 12 2047) aN jG hHeld (h:=?_)
        refine lI (i:=11) (N:=some 47) (bl 12 4095) rfl rfl (lJ aN.out (by kernel_rfl)) (by decide) (fun K hK=>?_)
        refine rD Tryd.func88 (by kernel_rfl) rfl #[.agg #[.int .i64 bV,.int .i64 bU,.int .i64 iL,.int .i64 iO,.int .i64 kV,.int .i64 lW,.int .i64 rW],.slice A1 l1.length c1,.int .i64 a3,.slice aK1 (AP acA acC).length aLJ,.agg #[.int .i64 ((acP wK aaI).f0),.int .i64 ((acP wK aaI).f1),.int .i64 ((acP wK aaI).f2)]] (by rfl) rfl rfl (by(try simp only[List.map_toArray,List.map_cons,List.map_nil]);first|done|rfl|(simp only[List.length_drop,List.length_take];rfl)) ?_
        with_reducible refine(afV.calls k2 bV bU iL iO kV lW rW _ _ l1 a3 _ _ (AP acA acC) ((acP wK aaI).f0) ((acP wK aaI).f1) ((acP wK aaI).f2) false _ ?jK ?jL ?jM ?jO A21.out).mono ?_
        (case jK=>exact Kd.bJ HR1.out (Bq HB))
        (case jL=>exact HC1.out)
        (case jM=>repeat(first|exact(by repeat(first|(with_reducible exact ajS.out)|(with_reducible refine Kd.jZ ?_ _)|(with_reducible refine Kd.kD ?_ _)|(with_reducible refine Kd.kC ?_)|exact ajS.out))|(with_reducible refine Kd.jZ ?_ _)|(with_reducible refine Kd.kD ?_ _)|(with_reducible refine Kd.kC ?_)))
        (case jO=>exact bgE.out)
        rintro e uF ⟨rfl,hb⟩
        have bgG:=(hb.cell (World.block_lt_of_cell? _ _ (hHeld.2.2.2.2.2.2.2.1))).trans (hHeld.2.2.2.2.2.2.2.1)
        have bgI:=(hb.cell (World.block_lt_of_cell? _ _ (hHeld.2.2.2.2.2.2.2.2.1))).trans (hHeld.2.2.2.2.2.2.2.2.1)
        have bgL:=(hb.cell (World.block_lt_of_cell? _ _ (hHeld.2.2.2.2.2.2.2.2.2.1))).trans (hHeld.2.2.2.2.2.2.2.2.2.1)
        have bhW:=(hb.cell (World.block_lt_of_cell? _ _ (hHeld.2.2.2.2.2.2.2.2.2.2))).trans (hHeld.2.2.2.2.2.2.2.2.2.2)
        refine⟨_,rfl,?_⟩
        have aV:=aA.mk (Kd.apD (by(with_reducible repeat(first|apply Kd.aaJ|apply Kd.aaK|apply Kd.RD));exact DV.out) hb)
        have aW:=RB fH hb
        have aY:=aA.mk (Kd.apD (by(with_reducible repeat(first|apply Kd.aaJ|apply Kd.aaK|apply Kd.RD));exact iF.out) hb)
        have bI:=RB acD hb
        have cO:=aA.mk (Kd.a1F (by(with_reducible repeat(first|apply Kd.agL|apply Kd.agN|apply Kd.afU));exact akD.out) hb)
        have gY:=bb dW hb
        have kR:=aA.mk (Kd.bJ (by repeat(first|(with_reducible exact ajS.out)|(with_reducible refine Kd.jZ ?_ _)|(with_reducible refine Kd.kD ?_ _)|(with_reducible refine Kd.kC ?_)|exact ajS.out)) hb)
        have nD:=bs HB hb
        clear DV fH iF acD akD dW ajS HB
        have DV:=aV
        have fH:=aW
        have iF:=aY
        have acD:=bI
        have akD:=cO
        have dW:=gY
        have ajS:=kR
        have HB:=nD
        clear aV aW aY bI cO gY kR nD
        (try clear hb)
        (try clear hb2)
        (try clear hk)
        (try clear hi)
        refine hK.out _ _ ⟨kc dW 0,kc dW 1,kc dW 2,kc dW 3,kc dW 4,kc dW 5,kc dW 6,bgG,bgI,bgL,bhW⟩ (fun hHeld=>?_)
        clear hK K
        refine nq 47 ?_
        refine xQ (yR aN.out (by kernel_rfl)) ?_
        try go_wp2
        go_roundg k2
        case measure=>have:=fV.out;have:=mY.out;omega
        case rel=>exact⟨(apA),(aDK),(wrap64 (aaI+1)),(by first|rfl|(simp;done)|(simp[*];done)),(by first|rfl|(simp;done)|(simp[*];done)),H',⟨by have:=fV.out;have:=mY.out;omega⟩,⟨by(with_reducible repeat(first|apply Kd.aaJ|apply Kd.aaK|apply Kd.RD));exact DV.out⟩,⟨R_ fH⟩,⟨by(with_reducible repeat(first|apply Kd.aaJ|apply Kd.aaK|apply Kd.RD));exact iF.out⟩,⟨R_ acD⟩,⟨b_ dW⟩,⟨Bq HB⟩⟩
       rw[if_neg c20]at H
       exact absurd H (by simp)
      rw[if_neg c19]at H
      exact absurd H (by simp)
     rw[if_neg c18]at H
     exact absurd H (by simp)
    rw[if_neg c17]at H
    have bmQ:decide (aaI<(wK.length:Int))=false:=decide_eq_false c17
    clear c17
    by_cases c31:aDK=true
    ·subst c31
     replace H:(if 0<=acC then(if acC<(acA.length:Int)then(if ajI.length<5864062014805 then(abB.l0 k2 l1 a3 acA wK (ajI++[AP acA acC]) apA (wrap64 (acC+1)) bV bU iL iO kV lW rW)else(none))else(none))else(none))=some (r1,r2):=by rw[if_pos rfl]at H;exact H
     by_cases c32:0<=acC
     ·rw[if_pos c32]at H
      have bTR:decide (0<=acC)=true:=decide_eq_true c32
      clear c32
      by_cases OH:acC<(acA.length:Int)
      ·rw[if_pos OH]at H
       have adK:decide (acC<(acA.length:Int))=true:=decide_eq_true OH
       clear OH
       by_cases c34:ajI.length<5864062014805
       ·rw[if_pos c34]at H
        have aQ6:=aA.mk c34
        clear c34
        obtain⟨bA8,aNH⟩:∃ y_:List (List Int),y_=(ajI++[AP acA acC]):=⟨_,rfl⟩
        replace H:(abB.l0 k2 l1 a3 acA wK bA8 apA (wrap64 (acC+1)) bV bU iL iO kV lW rW)=some (r1,r2):=by first|(rw[aNH];with_reducible exact H)|(have dJ:=(Option.bind_some _ _).symm.trans H;rw[aNH];with_reducible exact dJ)|(have dJ:=(Option.bind_some _ _).symm.trans H;with_reducible exact dJ)|with_reducible exact H|(rw[aNH];exact H)|exact H
        have bII:=aA.mk aNH
        clear aNH
        have H':=aA.mk H
        clear H
        obtain⟨aoC,aoJ,rfl⟩:=Kd.dA fH.out
        have aZ7:0<=(acC:Int):=od
        have aZ8:acC<(acA.length:Int):=od
        obtain⟨aNQ,bIJ,bIK,bIL,bIM,bA9,bBA⟩:=atL (Kd.aeJ DV.out).2.2 acC aZ7 aZ8
        cases bIL
        obtain⟨bTS,bIN,bIO,bBB⟩:=Kd.bq8 DV.out [] acC aZ7 (by first|exact aZ8|exact od|(have e_:=(Kd.aeJ DV.out).1;omega))
        obtain⟨bTT,bTU,rfl,bi4,bjV⟩:=Kd.brQ bIO
        have a0A:=bBB 0 _ rfl
        rw[Nat.add_zero,show((Kd.slice 3 (Kd.int .i64))).sz=1 from rfl,Nat.mul_one]at a0A
        replace a0A:=Option.some.inj (a0A.symm.trans bIM)
        injection a0A with asV aMO asW
        rw[asV]at bjV
        rw[asW]at bi4
        have aN6:=aA.mk (show Kd.V (Kd.int .i64) 3 _ w.heap.size _ _ (AP acA acC)from Kd.brB bi4 bjV)
        clear asV aMO asW bjV bi4 bBB bIN
        have bTV:=aA.mk bBA
        have bTW:=aA.mk bA9
        clear bBA bA9
        replace aZ7:=eq_true aZ7
        replace aZ8:=eq_true aZ8
        go_wp2_with (first|((with_reducible refine VC (b:=.append) (xs:=#[.tmp 56,.tmp 61]) rfl ?_);at_builtin;refine Kd.bLJ (Kd.slice 3 (Kd.int .i64)) (w0:=w) w.heap.size rfl (.tmp 56) (.tmp 61) 56 34 (.slice none 0 0) 24 rfl Tryd.underlying56 ba1 rfl (by decide) (by omega) u12 ajI (AP acA acC) [.slice bIJ (AP acA acC).length bIK] (fun k_=>(w.heap.size<=k_)/\some k_≠(.slice (some aNQ) acA.length VM:Value).ownBlock/\some k_≠(.slice aoC wK.length aoJ:Value).ownBlock/\some k_≠(u13:Value).ownBlock/\k_≠acV) (fun k_=>((fun k_=>(w.heap.size<=k_)/\some k_≠(.slice (some aNQ) acA.length VM:Value).ownBlock/\some k_≠(.slice aoC wK.length aoJ:Value).ownBlock/\some k_≠(u13:Value).ownBlock/\k_≠acV)) k_/\some k_≠(u12:Value).ownBlock) rfl rfl ?aP (fun _ hk=>hk) ?aF ?aO ?aB ?aS ?aL ?_;(case aP=>exact(Kd.bCR (Kd.aPF (Kd.aj9 (ok':=(fun k_=>((fun k_=>(w.heap.size<=k_)/\some k_≠(.slice (some aNQ) acA.length VM:Value).ownBlock/\some k_≠(.slice aoC wK.length aoJ:Value).ownBlock/\some k_≠(u13:Value).ownBlock/\k_≠acV)) k_/\some k_≠(u12:Value).ownBlock)) (aN6.out) (fun k_ hk=>⟨⟨hk.1.1,⟨hk.2,⟨hk.1.2.1,⟨hk.1.2.2.2.1,hk.1.2.2.2.2⟩⟩⟩⟩,hk.1.2.2.1⟩))).2.1 (Kd.V_F (Kd.aj9 (ok':=(fun k_=>((fun k_=>(w.heap.size<=k_)/\some k_≠(.slice (some aNQ) acA.length VM:Value).ownBlock/\some k_≠(.slice aoC wK.length aoJ:Value).ownBlock/\some k_≠(u13:Value).ownBlock/\k_≠acV)) k_/\some k_≠(u12:Value).ownBlock)) (aN6.out) (fun k_ hk=>⟨⟨hk.1.1,⟨hk.2,⟨hk.1.2.1,⟨hk.1.2.2.2.1,hk.1.2.2.2.2⟩⟩⟩⟩,hk.1.2.2.1⟩)))));(case aB=>exact(Bq HB));(case aF=>exact(fun k_ hk=>⟨(Nat.le_trans (dH (Bq HB)) hk),Kd.fresh' (Kd.aE9 (by(with_reducible repeat(first|apply Kd.aaJ|apply Kd.aaK|apply Kd.RD));exact DV.out)) k_ hk,Kd.fresh' (Kd.dY (R_ fH)) k_ hk,Kd.fresh' (Kd.dY (R_ acD)) k_ hk,Kd.aIM (g:=acV) (o:=.cells #[.int .i64 bV,.int .i64 bU,.int .i64 iL,.int .i64 iO,.int .i64 kV,.int .i64 lW,.int .i64 rW] 53 (0,0)) (b_ dW) k_ hk⟩));(case aO=>exact(by(with_reducible repeat(first|apply Kd.aaJ|apply Kd.aaK|apply Kd.RD));exact iF.out));(case aS=>exact(dH (Bq HB)));(case aL=>have:=aQ6.out;omega);intro bTX xK ho hb hg hat;rw[<-bII.out]at ho;have aV:=aA.mk (Kd.aFD (ok:=(fun k_=>(w.heap.size<=k_)/\some k_≠(.slice aoC wK.length aoJ:Value).ownBlock/\some k_≠(u13:Value).ownBlock/\k_≠acV)) (by(with_reducible repeat(first|apply Kd.aaJ|apply Kd.aaK|apply Kd.RD));exact Kd.ac8 DV.out (fun _ hk=>⟨⟨hk.1,⟨hk.2.1,⟨hk.2.2.2.1,hk.2.2.2.2⟩⟩⟩,hk.2.2.1⟩)) hg hat);have aW:=aA.mk (Kd.mO (R_ fH) (Kd.az4 (by(with_reducible repeat(first|apply Kd.aaJ|apply Kd.aaK|apply Kd.RD));exact iF.out)) (by decide) hg);have aY:=aA.mk (Kd.mO (R_ acD) (Kd.az4 (by(with_reducible repeat(first|apply Kd.aaJ|apply Kd.aaK|apply Kd.RD));exact iF.out)) (by decide) hg);have bI:=aA.mk (oM (g:=acV) (o:=.cells #[.int .i64 bV,.int .i64 bU,.int .i64 iL,.int .i64 iO,.int .i64 kV,.int .i64 lW,.int .i64 rW] 53 (0,0)) (b_ dW) hg (Kd.bCK iF.out dW.out (by decide)));have cO:=aA.mk (Kd.aPH (ok:=(fun k_=>(w.heap.size<=k_)/\some k_≠(.slice (some aNQ) acA.length VM:Value).ownBlock/\some k_≠(.slice aoC wK.length aoJ:Value).ownBlock/\some k_≠(u13:Value).ownBlock/\k_≠acV)) (by(with_reducible repeat(first|apply Kd.agL|apply Kd.agN|apply Kd.afU));exact Kd.aj9 aN6.out (fun _ hk=>⟨⟨hk.1.1,⟨hk.2,⟨hk.1.2.1,⟨hk.1.2.2.2.1,hk.1.2.2.2.2⟩⟩⟩⟩,hk.1.2.2.1⟩)) hg hat);have gY:=aA.mk (hb);have kR:=aA.mk (ho);clear DV;clear fH;clear acD;clear dW;clear aN6;clear HB;clear iF;have DV:=aV;have fH:=aW;have acD:=aY;have dW:=bI;have aN6:=cO;have HB:=gY;have bIP:=kR;clear aV aW aY bI cO gY kR;clear ho hb hg hat))
        go_roundg k2
        case measure=>have:=fV.out;have:=mY.out;omega
        case rel=>exact⟨(bA8),(apA),(wrap64 (acC+1)),(by first|rfl|(simp;done)|(simp[*];done)),H',⟨by have:=fV.out;have:=mY.out;omega⟩,⟨by(with_reducible repeat(first|apply Kd.aaJ|apply Kd.aaK|apply Kd.RD));exact Kd.ac8 DV.out (fun _ hk=>⟨hk.1.1,⟨hk.1.2.1,⟨hk.2,⟨hk.1.2.2.1,hk.1.2.2.2⟩⟩⟩⟩)⟩,⟨R_ fH⟩,⟨by(with_reducible repeat(first|apply Kd.aaJ|apply Kd.aaK|apply Kd.RD));exact bIP.out⟩,⟨R_ acD⟩,⟨b_ dW⟩,⟨Bq HB⟩⟩
       rw[if_neg c34]at H
       exact absurd H (by simp)
      rw[if_neg OH]at H
      exact absurd H (by simp)
     rw[if_neg c32]at H
     exact absurd H (by simp)
    replace c31:=Bool.eq_false_iff.mpr c31
    subst c31
    replace H:(abB.l0 k2 l1 a3 acA wK ajI apA (wrap64 (acC+1)) bV bU iL iO kV lW rW)=some (r1,r2):=by rw[if_neg (show ¬ (false=true) by decide)]at H;exact H
    have H':=aA.mk H
    clear H
    obtain⟨a5A,a5B,rfl⟩:=Kd.dA fH.out
    go_wp2
    go_roundg k2
    case measure=>have:=fV.out;have:=mY.out;omega
    case rel=>exact⟨(ajI),(apA),(wrap64 (acC+1)),(by first|rfl|(simp;done)|(simp[*];done)),H',⟨by have:=fV.out;have:=mY.out;omega⟩,⟨by(with_reducible repeat(first|apply Kd.aaJ|apply Kd.aaK|apply Kd.RD));exact DV.out⟩,⟨R_ fH⟩,⟨by(with_reducible repeat(first|apply Kd.aaJ|apply Kd.aaK|apply Kd.RD));exact iF.out⟩,⟨R_ acD⟩,⟨b_ dW⟩,⟨Bq HB⟩⟩
  rw[if_neg c15]at H
  have bf5:decide (acC<(acA.length:Int))=false:=decide_eq_false c15
  clear c15
  simp only[Option.some.injEq,Prod.mk.injEq]at H
  obtain⟨rfl,rfl⟩:=H
  obtain⟨a5D,a5E,a5F⟩:=Kd.aj3 DV.out
  subst a5F
  go_wp2
  go_ret2
  exact⟨_,_,by first|rfl|(simp[iU,iV]<;>rfl)|(simp[*,iU,iV]<;>rfl),by(with_reducible repeat(first|apply Kd.aaJ|apply Kd.aaK|apply Kd.RD));exact Kd.ac8 iF.out (fun _ hk=>⟨hk.1,hk.2.2.2.1⟩),Kd.bQ (R_ acD) (fun _ hk=>hk.1),Bq HB⟩
end Go.Proofs.YtcmfnebcmmklkaaDoor.Q

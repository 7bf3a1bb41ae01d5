/- What the laws of chapter 9 share: words about rows and regions, the walks of the package dozen, and that known returns true. Part 12 of 16. -/
import Derived.Test.YtcmfnebcmmklkaaDoorK2
import Derived.Test.YtcmfnebcmmklkaaDoorK5
set_option linter.unusedVariables false
set_option linter.unusedSimpArgs false
set_option maxRecDepth 100000
set_option maxHeartbeats 8000000
namespace Go.Proofs.YtcmfnebcmmklkaaDoor.Q
open Go.RowKit Go.Proofs.YtcmfnebcmmklkaaDoorW.dQ Go.Proofs.YtcmfnebcmmklkaaDoorW.oU Go.Proofs.YtcmfnebcmmklkaaDoorW.gG
attribute [local go_sem] uA uB uC uD uM uN uO uP   -- for this text's walks alone
attribute [local go_sem high] bmM bmN
mutual
def kJ.j0:Nat->Bool->List (aZ)->List (aI)->List (aZ)->List (aI)->Option (Bool)
  |0,_,_,_,_,_=>none
  |k+1,nU,agG,ZK,agH,ZL=>if nU=true then(some false)else(kJ.l0 k 0 agG ZK agH ZL)
def kJ.l0:Nat->Int->List (aZ)->List (aI)->List (aZ)->List (aI)->Option (Bool)
  |0,_,_,_,_,_=>none
  |k+1,x5,agG,ZK,agH,ZL=>if x5<(agG.length:Int)then(if 0<=x5 then(if x5<(agH.length:Int)then(if(!(((dK agG x5).f0)==((dK agH x5).f0))||(!(((dK agG x5).f1)==((dK agH x5).f1))))=true then(some false)else(kJ.l0 k (wrap64 (x5+1)) agG ZK agH ZL))else(none))else(none))else(kJ.l1 k 0 agG ZK agH ZL)
def kJ.l1:Nat->Int->List (aZ)->List (aI)->List (aZ)->List (aI)->Option (Bool)
  |0,_,_,_,_,_=>none
  |k+1,x6,agG,ZK,agH,ZL=>if x6<(ZK.length:Int)then(if 0<=x6 then(if x6<(ZL.length:Int)then(if(!(((aU ZK x6).f0)==((aU ZL x6).f0))||((!(((aU ZK x6).f1.f0)==((aU ZL x6).f1.f0))||(!(((aU ZK x6).f1.f1)==((aU ZL x6).f1.f1))))||((!(((aU ZK x6).f2.f0)==((aU ZL x6).f2.f0))||(!(((aU ZK x6).f2.f1)==((aU ZL x6).f2.f1))))||(!(((aU ZK x6).f3)==((aU ZL x6).f3))))))=true then(some false)else(kJ.l1 k (wrap64 (x6+1)) agG ZK agH ZL))else(none))else(none))else(some true)
end
def kJ.f (k:Nat) (aG:List (aZ)) (aC:List (aI)) (dN:List (aZ)) (bH:List (aI)):Option (Bool):=if(aG.length:Int)=(dN.length:Int)then(kJ.j0 k ((aC.length:Int)!=(bH.length:Int)) aG aC dN bH)else(kJ.j0 k true aG aC dN bH)
theorem kJ.calls (k:Nat) (aQ:Option Addr) (aK:Nat) (aG:List (aZ)) (aT:Option Addr) (aJ:Nat) (aC:List (aI)) (sZ:Option Addr) (nX:Nat) (dN:List (aZ)) (oZ:Option Addr) (nY:Nat) (bH:List (aI)) (r:Bool) (w:World) (jI:Kd.C iJ w aQ aG.length aG) (jU:aG.length<=aK) (jE:Kd.C iE w aT aC.length aC) (jS:aC.length<=aJ) (aaB:Kd.C iJ w sZ dN.length dN) (aaC:dN.length<=nX) (aaD:Kd.C iE w oZ bH.length bH) (aaE:bH.length<=nY) (h:kJ.f k aG aC dN bH=some r):
    Calls Tryd.prog 21 #[.agg #[.slice aQ aG.length aK,.slice aT aC.length aJ],.agg #[.slice sZ dN.length nX,.slice oZ bH.length nY]] w fun e w'=>e=.returned (.bool r)/\Below w.heap.size w w':=by
 have zH:=Tryd.underlying25
 have am0:=Tryd.underlying89
 have aqN:=Tryd.underlying91
 have eU:=aA.mk jI
 have fK:=aA.mk jU
 clear jI jU
 have fB:=aA.mk jE
 have fM:=aA.mk jS
 clear jE jS
 have am1:=aA.mk aaB
 have aDM:=aA.mk aaC
 clear aaB aaC
 have afL:=aA.mk aaD
 have aDN:=aA.mk aaE
 clear aaD aaE
 have HB:=aA.mk (Below.refl w.heap.size w)
 have H:(if(aG.length:Int)=(dN.length:Int)then(kJ.j0 k ((aC.length:Int)!=(bH.length:Int)) aG aC dN bH)else(kJ.j0 k true aG aC dN bH))=some r:=h
 clear h
 have HC3:=aA.mk H
 clear H
 go_enter Tryd.func21,Tryd.ntmps21
 go_upto_region 1 with(first|((with_reducible refine dU (N:=2) rfl ?_);(try(refine xJ (by rfl) ?_;dsimp only));refine eX 2 #[.slice aQ aG.length aK,.slice aT aC.length aJ] 25 ?_;intro axK hg w4 hbox hb;have wZ:=aA.mk (hbox);have aZE:=gw hg HB;have aZF:=gw hg HB;replace HB:=bs HB hb;clear hb hbox hg)|((with_reducible refine dU (N:=3) rfl ?_);(try(refine xJ (by rfl) ?_;dsimp only));refine eX 3 #[.slice sZ dN.length nX,.slice oZ bH.length nY] 25 ?_;intro axL hg w5 hbox hb;have SG:=aA.mk (hbox);have aZG:=gw hg HB;have aZH:=gw hg HB;have aeM:=nl hg wZ;have aeN:=ng hg wZ;replace wZ:=bb wZ hb;replace HB:=bs HB hb;clear hb hbox hg))
 repeat(go_quiet (first|((with_reducible refine dU (N:=2) rfl ?_);(try(refine xJ (by rfl) ?_;dsimp only));refine eX 2 #[.slice aQ aG.length aK,.slice aT aC.length aJ] 25 ?_;intro axK hg w4 hbox hb;have wZ:=aA.mk (hbox);have aZE:=gw hg HB;have aZF:=gw hg HB;replace HB:=bs HB hb;clear hb hbox hg)|((with_reducible refine dU (N:=3) rfl ?_);(try(refine xJ (by rfl) ?_;dsimp only));refine eX 3 #[.slice sZ dN.length nX,.slice oZ bH.length nY] 25 ?_;intro axL hg w5 hbox hb;have SG:=aA.mk (hbox);have aZG:=gw hg HB;have aZH:=gw hg HB;have aeM:=nl hg wZ;have aeN:=ng hg wZ;replace wZ:=bb wZ hb;replace HB:=bs HB hb;clear hb hbox hg));go_upto_region 1 with(first|((with_reducible refine dU (N:=2) rfl ?_);(try(refine xJ (by rfl) ?_;dsimp only));refine eX 2 #[.slice aQ aG.length aK,.slice aT aC.length aJ] 25 ?_;intro axK hg w4 hbox hb;have wZ:=aA.mk (hbox);have aZE:=gw hg HB;have aZF:=gw hg HB;replace HB:=bs HB hb;clear hb hbox hg)|((with_reducible refine dU (N:=3) rfl ?_);(try(refine xJ (by rfl) ?_;dsimp only));refine eX 3 #[.slice sZ dN.length nX,.slice oZ bH.length nY] 25 ?_;intro axL hg w5 hbox hb;have SG:=aA.mk (hbox);have aZG:=gw hg HB;have aZH:=gw hg HB;have aeM:=nl hg wZ;have aeN:=ng hg wZ;replace wZ:=bb wZ hb;replace HB:=bs HB hb;clear hb hbox hg)))
 (try simp only[Act.put,List.setIfInBounds_toArray,List.set_cons_zero,List.set_cons_succ])
 go_cut [22] (fun v22 wc=>∃ (kq:Nat) (aFL:Bool),v22=.bool aFL/\aA (kJ.j0 kq aFL aG aC dN bH=some r)/\aA (kq<=k)/\aA (wc.heap[axK]? =some (.cells #[(.slice aQ aG.length aK),(.slice aT aC.length aJ)] 25 (0,0)))/\aA (wc.heap[axL]? =some (.cells #[(.slice sZ dN.length nX),(.slice oZ bH.length nY)] 25 (0,0)))/\aA (Below w.heap.size w wc))
 case first=>
  have H:=HC3.out
  clear HC3
  by_cases c6:(aG.length:Int)=(dN.length:Int)
  ·rw[if_pos c6]at H
   have zJ:((aG.length:Int)==(dN.length:Int))=true:=beq_iff_eq.mpr c6
   have bmO:((aG.length:Int)!=(dN.length:Int))=false:=bne_eq_false_iff_eq.mpr c6
   have bmP:(aG.length==dN.length)=true:=by first|simpa using c6|(simp at c6 ⊢;omega)
   clear c6
   (first|rw[zJ]|(simp only[wQ,yQ];rw[zJ])|skip)
   have H':=aA.mk H
   clear H
   have aI3:=aeM.out
   have aI4:=aeN.out
   obtain⟨ahD,ahE⟩:=bZ wZ (.slice aQ aG.length aK) (.slice aT aC.length aJ)
   obtain⟨aM2,aM3⟩:=bZ SG (.slice sZ dN.length nX) (.slice oZ bH.length nY)
   go_wp2
   repeat(go_quiet (fail);try go_wp2)
   go_meet
   case rel=>exact⟨_,(((aC.length:Int)!=(bH.length:Int))),(by first|rfl|(simp;done)|(simp[*];done)),H',⟨by first|omega|exact Nat.le_refl _⟩,⟨b_ wZ⟩,⟨b_ SG⟩,⟨Bq HB⟩⟩
  rw[if_neg c6]at H
  have zJ:((aG.length:Int)==(dN.length:Int))=false:=beq_eq_false_iff_ne.mpr c6
  have bmO:((aG.length:Int)!=(dN.length:Int))=true:=bne_iff_ne.mpr c6
  have bmP:(aG.length==dN.length)=false:=by first|simpa using c6|(simp at c6 ⊢;omega)
  (first|rw[zJ]|(simp only[wQ,yQ];rw[zJ])|skip)
  have H':=aA.mk H
  clear H
  have aT7:=aeM.out
  have aT8:=aeN.out
  obtain⟨aC6,aC7⟩:=bZ wZ (.slice aQ aG.length aK) (.slice aT aC.length aJ)
  obtain⟨ad6,ad7⟩:=bZ SG (.slice sZ dN.length nX) (.slice oZ bH.length nY)
  go_wp2
  repeat(go_quiet (fail);try go_wp2)
  go_meet
  case rel=>exact⟨_,(true),(by first|rfl|(simp;done)|(simp[*];done)),H',⟨by first|omega|exact Nat.le_refl _⟩,⟨b_ wZ⟩,⟨b_ SG⟩,⟨Bq HB⟩⟩
 case rest=>
  clear HC3
  obtain⟨kq,aFL,rfl,HA,HJ2,wZ,SG,HB⟩:=hcut
  rcases kq with _|kj2
  ·exact absurd HA.out (by simp[kJ.j0])
  have H:=HA.out
  clear HA
  simp only[kJ.j0]at H
  by_cases c13:aFL=true
  ·subst c13
   replace H:(some false)=some r:=by rw[if_pos rfl]at H;exact H
   obtain rfl:=Option.some.inj H
   go_wp2
   repeat(go_quiet (fail);try go_wp2)
   go_ret
   exact eR HB
  replace c13:=Bool.eq_false_iff.mpr c13
  subst c13
  replace H:(kJ.l0 kj2 0 aG aC dN bH)=some r:=by rw[if_neg (show ¬ (false=true) by decide)]at H;exact H
  have H':=aA.mk H
  clear H
  go_wp2
  repeat(go_quiet (fail);try go_wp2)
  go_loopg [5] kj2 (fun kq v5 w'=>∃ (qE:Int),v5=.int .i64 qE/\aA (kJ.l0 kq qE aG aC dN bH=some r)/\aA (kq<=kj2)/\aA (w'.heap[axK]? =some (.cells #[(.slice aQ aG.length aK),(.slice aT aC.length aJ)] 25 (0,0)))/\aA (w'.heap[axL]? =some (.cells #[(.slice sZ dN.length nX),(.slice oZ bH.length nY)] 25 (0,0)))/\aA (Below w.heap.size w w'))
  case atStart=>exact⟨(0),(by first|rfl|(simp;done)|(simp[*];done)),H',⟨Nat.le_refl _⟩,⟨b_ wZ⟩,⟨b_ SG⟩,⟨Bq HB⟩⟩
  case round=>
   clear H'
   try clear c13
   obtain⟨qE,rfl,HA,mY,wZ,SG,HB⟩:=hrel
   rcases gk with _|k2
   ·exact absurd HA.out (by simp[kJ.l0])
   have H:=HA.out
   clear HA
   simp only[kJ.l0]at H
   by_cases c14:qE<(aG.length:Int)
   ·rw[if_pos c14]at H
    have aFM:decide (qE<(aG.length:Int))=true:=decide_eq_true c14
    clear c14
    by_cases c15:0<=qE
    ·rw[if_pos c15]at H
     have c15b0:decide (0<=qE)=true:=decide_eq_true c15
     clear c15
     by_cases c16:qE<(dN.length:Int)
     ·rw[if_pos c16]at H
      have aNJ:decide (qE<(dN.length:Int))=true:=decide_eq_true c16
      clear c16
      by_cases c17:(!(((dK aG qE).f0)==((dK dN qE).f0))||(!(((dK aG qE).f1)==((dK dN qE).f1))))=true
      ·rw[if_pos c17]at H
       have bmQ:(!(((dK aG qE).f0)==((dK dN qE).f0))||(!(((dK aG qE).f1)==((dK dN qE).f1))))=true:=c17
       clear c17
       obtain rfl:=Option.some.inj H
       have aUP:=aeM.out
       have aUQ:=aeN.out
       obtain⟨aXH,aXI⟩:=bZ wZ (.slice aQ aG.length aK) (.slice aT aC.length aJ)
       have anX:0<=(qE:Int):=od
       have anY:qE<(aG.length:Int):=od
       obtain⟨bmR,aNK,axM,axN⟩:=QW eU.out qE anX anY
       cases aNK
       replace axM:=xs HB axM
       replace axN:=xs HB axN
       replace anX:=eq_true anX
       replace anY:=eq_true anY
       obtain⟨aqD,aqE⟩:=bZ SG (.slice sZ dN.length nX) (.slice oZ bH.length nY)
       have anZ:0<=(qE:Int):=od
       have an0:qE<(dN.length:Int):=od
       obtain⟨bmS,aNL,axO,axP⟩:=QW am1.out qE anZ an0
       cases aNL
       replace axO:=xs HB axO
       replace axP:=xs HB axP
       replace anZ:=eq_true anZ
       replace an0:=eq_true an0
       go_wp2
       repeat(go_quiet (fail);try go_wp2)
       go_ret
       exact eR HB
      rw[if_neg c17]at H
      have bmQ:(!(((dK aG qE).f0)==((dK dN qE).f0))||(!(((dK aG qE).f1)==((dK dN qE).f1))))=false:=by simpa using c17
      clear c17
      have H':=aA.mk H
      clear H
      have aZI:=aeM.out
      have aZJ:=aeN.out
      obtain⟨aFN,aFO⟩:=bZ wZ (.slice aQ aG.length aK) (.slice aT aC.length aJ)
      have anX:0<=(qE:Int):=od
      have anY:qE<(aG.length:Int):=od
      obtain⟨bmR,aNK,axM,axN⟩:=QW eU.out qE anX anY
      cases aNK
      replace axM:=xs HB axM
      replace axN:=xs HB axN
      replace anX:=eq_true anX
      replace anY:=eq_true anY
      obtain⟨amO,amP⟩:=bZ SG (.slice sZ dN.length nX) (.slice oZ bH.length nY)
      have anZ:0<=(qE:Int):=od
      have an0:qE<(dN.length:Int):=od
      obtain⟨bmS,aNL,axO,axP⟩:=QW am1.out qE anZ an0
      cases aNL
      replace axO:=xs HB axO
      replace axP:=xs HB axP
      replace anZ:=eq_true anZ
      replace an0:=eq_true an0
      go_wp2
      repeat(go_quiet (fail);try go_wp2)
      go_roundg k2
      case measure=>have:=HJ2.out;have:=mY.out;omega
      case rel=>exact⟨(wrap64 (qE+1)),(by first|rfl|(simp;done)|(simp[*];done)),H',⟨by have:=HJ2.out;have:=mY.out;omega⟩,⟨b_ wZ⟩,⟨b_ SG⟩,⟨Bq HB⟩⟩
     rw[if_neg c16]at H
     exact absurd H (by simp)
    rw[if_neg c15]at H
    exact absurd H (by simp)
   rw[if_neg c14]at H
   have aFM:decide (qE<(aG.length:Int))=false:=decide_eq_false c14
   clear c14
   have H':=aA.mk H
   clear H
   have aLU:=aeM.out
   have aLV:=aeN.out
   obtain⟨ahI,ahJ⟩:=bZ wZ (.slice aQ aG.length aK) (.slice aT aC.length aJ)
   go_wp2
   repeat(go_quiet (fail);try go_wp2)
   go_loopg [6] k2 (fun kq v6 w'=>∃ (nN:Int),v6=.int .i64 nN/\aA (kJ.l1 kq nN aG aC dN bH=some r)/\aA (kq<=k2)/\aA (w'.heap[axK]? =some (.cells #[(.slice aQ aG.length aK),(.slice aT aC.length aJ)] 25 (0,0)))/\aA (w'.heap[axL]? =some (.cells #[(.slice sZ dN.length nX),(.slice oZ bH.length nY)] 25 (0,0)))/\aA (Below w.heap.size w w'))
   case atStart=>exact⟨(0),(by first|rfl|(simp;done)|(simp[*];done)),H',⟨Nat.le_refl _⟩,⟨b_ wZ⟩,⟨b_ SG⟩,⟨Bq HB⟩⟩
   case round=>
    clear H'
    try clear c14
    try clear aFM
    try clear ahI
    try clear ahJ
    try clear auB
    try clear auC
    obtain⟨nN,rfl,HA,HK3,wZ,SG,HB⟩:=hrel
    rcases gk with _|k3
    ·exact absurd HA.out (by simp[kJ.l1])
    have H:=HA.out
    clear HA
    simp only[kJ.l1]at H
    by_cases c26:nN<(aC.length:Int)
    ·rw[if_pos c26]at H
     have bmT:decide (nN<(aC.length:Int))=true:=decide_eq_true c26
     clear c26
     by_cases FC:0<=nN
     ·rw[if_pos FC]at H
      have aUT:decide (0<=nN)=true:=decide_eq_true FC
      clear FC
      by_cases c28:nN<(bH.length:Int)
      ·rw[if_pos c28]at H
       have c28b0:decide (nN<(bH.length:Int))=true:=decide_eq_true c28
       clear c28
       by_cases c29:(!(((aU aC nN).f0)==((aU bH nN).f0))||((!(((aU aC nN).f1.f0)==((aU bH nN).f1.f0))||(!(((aU aC nN).f1.f1)==((aU bH nN).f1.f1))))||((!(((aU aC nN).f2.f0)==((aU bH nN).f2.f0))||(!(((aU aC nN).f2.f1)==((aU bH nN).f2.f1))))||(!(((aU aC nN).f3)==((aU bH nN).f3))))))=true
       ·rw[if_pos c29]at H
        have aNM:(!(((aU aC nN).f0)==((aU bH nN).f0))||((!(((aU aC nN).f1.f0)==((aU bH nN).f1.f0))||(!(((aU aC nN).f1.f1)==((aU bH nN).f1.f1))))||((!(((aU aC nN).f2.f0)==((aU bH nN).f2.f0))||(!(((aU aC nN).f2.f1)==((aU bH nN).f2.f1))))||(!(((aU aC nN).f3)==((aU bH nN).f3))))))=true:=c29
        clear c29
        obtain rfl:=Option.some.inj H
        have aJ3:=aeM.out
        have aJ4:=aeN.out
        obtain⟨aNN,aNO⟩:=bZ wZ (.slice aQ aG.length aK) (.slice aT aC.length aJ)
        have an1:0<=(nN:Int):=od
        have an2:nN<(aC.length:Int):=od
        obtain⟨bmU,e237,axQ,axR,axS,axT,axU,axV⟩:=OO fB.out nN an1 an2
        cases e237
        replace axQ:=xs HB axQ
        replace axR:=xs HB axR
        replace axS:=xs HB axS
        replace axT:=xs HB axT
        replace axU:=xs HB axU
        replace axV:=xs HB axV
        replace an1:=eq_true an1
        replace an2:=eq_true an2
        obtain⟨aqK,aqL⟩:=bZ SG (.slice sZ dN.length nX) (.slice oZ bH.length nY)
        have an3:0<=(nN:Int):=od
        have an4:nN<(bH.length:Int):=od
        obtain⟨bmV,e238,axW,axX,axY,axZ,ax0,ax1⟩:=OO afL.out nN an3 an4
        cases e238
        replace axW:=xs HB axW
        replace axX:=xs HB axX
        replace axY:=xs HB axY
        replace axZ:=xs HB axZ
        replace ax0:=xs HB ax0
        replace ax1:=xs HB ax1
        replace an3:=eq_true an3
        replace an4:=eq_true an4
        go_wp2
        repeat(go_quiet (fail);try go_wp2)
        go_ret
        exact eR HB
       rw[if_neg c29]at H
       have aNM:(!(((aU aC nN).f0)==((aU bH nN).f0))||((!(((aU aC nN).f1.f0)==((aU bH nN).f1.f0))||(!(((aU aC nN).f1.f1)==((aU bH nN).f1.f1))))||((!(((aU aC nN).f2.f0)==((aU bH nN).f2.f0))||(!(((aU aC nN).f2.f1)==((aU bH nN).f2.f1))))||(!(((aU aC nN).f3)==((aU bH nN).f3))))))=false:=by simpa using c29
       clear c29
       have H':=aA.mk H
       clear H
       have aDG:=aeM.out
       have aDH:=aeN.out
       obtain⟨aJ5,aJ6⟩:=bZ wZ (.slice aQ aG.length aK) (.slice aT aC.length aJ)
       have an1:0<=(nN:Int):=od
       have an2:nN<(aC.length:Int):=od
       obtain⟨bmU,e237,axQ,axR,axS,axT,axU,axV⟩:=OO fB.out nN an1 an2
       cases e237
       replace axQ:=xs HB axQ
       replace axR:=xs HB axR
       replace axS:=xs HB axS
       replace axT:=xs HB axT
       replace axU:=xs HB axU
       replace axV:=xs HB axV
       replace an1:=eq_true an1
       replace an2:=eq_true an2
       obtain⟨aKH,aKI⟩:=bZ SG (.slice sZ dN.length nX) (.slice oZ bH.length nY)
       have an3:0<=(nN:Int):=od
       have an4:nN<(bH.length:Int):=od
       obtain⟨bmV,e238,axW,axX,axY,axZ,ax0,ax1⟩:=OO afL.out nN an3 an4
       cases e238
       replace axW:=xs HB axW
       replace axX:=xs HB axX
       replace axY:=xs HB axY
       replace axZ:=xs HB axZ
       replace ax0:=xs HB ax0
       replace ax1:=xs HB ax1
       replace an3:=eq_true an3
       replace an4:=eq_true an4
       go_wp2
       repeat(go_quiet (fail);try go_wp2)
       go_roundg k3
       case measure=>have:=HJ2.out;have:=mY.out;have:=HK3.out;omega
       case rel=>exact⟨(wrap64 (nN+1)),(by first|rfl|(simp;done)|(simp[*];done)),H',⟨by have:=HJ2.out;have:=mY.out;have:=HK3.out;omega⟩,⟨b_ wZ⟩,⟨b_ SG⟩,⟨Bq HB⟩⟩
      rw[if_neg c28]at H
      exact absurd H (by simp)
     rw[if_neg FC]at H
     exact absurd H (by simp)
    rw[if_neg c26]at H
    have bmT:decide (nN<(aC.length:Int))=false:=decide_eq_false c26
    clear c26
    obtain rfl:=Option.some.inj H
    have aWI:=aeM.out
    have aWJ:=aeN.out
    obtain⟨aZL,aZM⟩:=bZ wZ (.slice aQ aG.length aK) (.slice aT aC.length aJ)
    go_wp2
    repeat(go_quiet (fail);try go_wp2)
    go_ret
    exact eR HB
def qX.f (a0:Int) (a1:Int) (a2:Int):Option (Bool):=if a0≥a1 then(some (decide (a0<=a2)))else(some false)
theorem qX.calls (a0:Int) (a1:Int) (a2:Int) (r:Bool) (w:World) (h:qX.f a0 a1 a2=some r):
    Calls Tryd.prog 32 #[.int .i64 a0,.int .i64 a1,.int .i64 a2] w fun e w'=>e=.returned (.bool r)/\iI w w':=by
 have H:(if a0≥a1 then(some (decide (a0<=a2)))else(some false))=some r:=h
 clear h
 by_cases c4:a0≥a1
 ·rw[if_pos c4]at H
  have yH:decide (a1<=a0)=true:=decide_eq_true c4
  clear c4
  obtain rfl:=Option.some.inj H
  go_enter Tryd.func32,Tryd.ntmps32
  go_wp2
  go_ret
  exact⟨by first|rfl|(simp;done)|(simp[*];done),by repeat(first|exact iI.refl _|apply iI.step)⟩
 rw[if_neg c4]at H
 have yH:decide (a1<=a0)=false:=decide_eq_false c4
 clear c4
 obtain rfl:=Option.some.inj H
 go_enter Tryd.func32,Tryd.ntmps32
 go_wp2
 go_ret
 exact⟨by first|rfl|(simp;done)|(simp[*];done),by repeat(first|exact iI.refl _|apply iI.step)⟩
def IA.f (bV:Int) (bU:Int) (a1:Int):Option (Bool):=(qX.f bV 0 bU).bind fun SH=>(if SH=true then(some (decide (bU<=a1)))else(some false))
theorem IA.calls (bV:Int) (bU:Int) (a1:Int) (r:Bool) (w:World) (h:IA.f bV bU a1=some r):
    Calls Tryd.prog 68 #[.agg #[.int .i64 bV,.int .i64 bU],.int .i64 a1] w fun e w'=>e=.returned (.bool r)/\Below w.heap.size w w':=by
 have QY:=Tryd.underlying42
 have HB:=aA.mk (Below.refl w.heap.size w)
 have H:((qX.f bV 0 bU).bind fun SH=>(if SH=true then(some (decide (bU<=a1)))else(some false)))=some r:=h
 clear h
 replace H:=Option.bind_eq_some_iff.mp H
 obtain⟨SH,RG,H⟩:=H
 replace H:(if SH=true then(some (decide (bU<=a1)))else(some false))=some r:=H
 have A3:=aA.mk RG
 clear RG
 by_cases c4:SH=true
 ·subst c4
  replace H:(some (decide (bU<=a1)))=some r:=by rw[if_pos rfl]at H;exact H
  obtain rfl:=Option.some.inj H
  go_enter Tryd.func68,Tryd.ntmps68
  go_wp2_with (first|((with_reducible refine dU (N:=2) rfl ?_);refine eX 2 #[.int .i64 bV,.int .i64 bU] 42 ?_;intro bmW hg w5 hbox hb;have an5:=aA.mk (hbox);have bmX:=gw hg HB;have bmY:=gw hg HB;replace HB:=bs HB hb;clear hb hbox hg;obtain⟨afA,afB⟩:=bZ an5 (.int .i64 bV) (.int .i64 bU);have aDR:=aX an5.out 0;have aDS:=aX an5.out 1)|((with_reducible refine gJ (f:=32) rfl ?_);refine cE 9 Tryd.func32 #[.int .i64 bV,.int .i64 0,.int .i64 bU] ?_;(with_reducible refine(qX.calls bV 0 bU true _ A3.out).mono ?_);rintro e w' ⟨rfl,⟨nd,rfl⟩⟩;refine⟨_,rfl,?_⟩))
  go_ret
  exact eR HB
 replace c4:=Bool.eq_false_iff.mpr c4
 subst c4
 replace H:(some false)=some r:=by rw[if_neg (show ¬ (false=true) by decide)]at H;exact H
 obtain rfl:=Option.some.inj H
 go_enter Tryd.func68,Tryd.ntmps68
 go_wp2_with (first|((with_reducible refine dU (N:=2) rfl ?_);refine eX 2 #[.int .i64 bV,.int .i64 bU] 42 ?_;intro bmW hg w7 hbox hb;have an5:=aA.mk (hbox);have bmX:=gw hg HB;have bmY:=gw hg HB;replace HB:=bs HB hb;clear hb hbox hg;obtain⟨ahD,ahE⟩:=bZ an5 (.int .i64 bV) (.int .i64 bU);have aC4:=aX an5.out 0;have aC5:=aX an5.out 1)|((with_reducible refine gJ (f:=32) rfl ?_);refine cE 9 Tryd.func32 #[.int .i64 bV,.int .i64 0,.int .i64 bU] ?_;(with_reducible refine(qX.calls bV 0 bU false _ A3.out).mono ?_);rintro e w' ⟨rfl,⟨nd,rfl⟩⟩;refine⟨_,rfl,?_⟩))
 go_ret
 exact eR HB
attribute [local go_sem] uA uB uC uD uM uN uO uP   -- for this text's walks alone
mutual
def jH.l0:Nat->Int->List (aZ)->List (aI)->Option (Int)
  |0,_,_,_=>none
  |k+1,x3,aiW,aeO=>if x3<(aiW.length:Int)then(if 0<=x3 then((qX.f ((dK aiW x3).f0) 0 144).bind fun aFP=>(if aFP=true then((qX.f ((dK aiW x3).f1) 0 144).bind fun lC=>(if lC=true then(jH.l0 k (wrap64 (x3+1)) aiW aeO)else(some 2)))else(some 2)))else(none))else(jH.l1 k 0 aiW aeO)
def jH.l1:Nat->Int->List (aZ)->List (aI)->Option (Int)
  |0,_,_,_=>none
  |k+1,x4,aiW,aeO=>if x4<(aeO.length:Int)then(if 0<=x4 then((qX.f ((aU aeO x4).f0) 0 (wrap64 ((aiW.length:Int) - 1))).bind fun aFQ=>(if aFQ=true then((IA.f ((aU aeO x4).f1.f0) ((aU aeO x4).f1.f1) 144).bind fun aiX=>(if aiX=true then((IA.f ((aU aeO x4).f2.f0) ((aU aeO x4).f2.f1) 144).bind fun aaR=>(if aaR=true then(jH.l1 k (wrap64 (x4+1)) aiW aeO)else(some 2)))else(some 2)))else(some 2)))else(none))else(some 0)
end
def jH.f (k:Nat) (aG:List (aZ)) (aC:List (aI)):Option (Int):=(qX.f (aG.length:Int) 1 5).bind fun arW=>(if arW=true then(if(aC.length:Int)>8 then(some 5)else(jH.l0 k 0 aG aC))else(some 4))
theorem jH.calls (k:Nat) (aQ:Option Addr) (aK:Nat) (aG:List (aZ)) (aT:Option Addr) (aJ:Nat) (aC:List (aI)) (r:Int) (w:World) (jI:Kd.C iJ w aQ aG.length aG) (jU:aG.length<=aK) (jE:Kd.C iE w aT aC.length aC) (jS:aC.length<=aJ) (h:jH.f k aG aC=some r):
    Calls Tryd.prog 22 #[.agg #[.slice aQ aG.length aK,.slice aT aC.length aJ]] w fun e w'=>e=.returned (.int .i64 r)/\Below w.heap.size w w':=by
 have zH:=Tryd.underlying25
 have aqN:=Tryd.underlying91
 have QY:=Tryd.underlying42
 have eU:=aA.mk jI
 have fK:=aA.mk jU
 clear jI jU
 have fB:=aA.mk jE
 have fM:=aA.mk jS
 clear jE jS
 have HB:=aA.mk (Below.refl w.heap.size w)
 have H:((qX.f (aG.length:Int) 1 5).bind fun arW=>(if arW=true then(if(aC.length:Int)>8 then(some 5)else(jH.l0 k 0 aG aC))else(some 4)))=some r:=h
 clear h
 replace H:=Option.bind_eq_some_iff.mp H
 obtain⟨arW,xY,H⟩:=H
 replace H:(if arW=true then(if(aC.length:Int)>8 then(some 5)else(jH.l0 k 0 aG aC))else(some 4))=some r:=H
 have A2:=aA.mk xY
 clear xY
 by_cases c3:arW=true
 ·subst c3
  replace H:(if(aC.length:Int)>8 then(some 5)else(jH.l0 k 0 aG aC))=some r:=by rw[if_pos rfl]at H;exact H
  by_cases c4:(aC.length:Int)>8
  ·rw[if_pos c4]at H
   have yH:decide (8<(aC.length:Int))=true:=decide_eq_true c4
   have aq1:decide (8<aC.length)=true:=decide_eq_true (by omega)
   clear c4
   obtain rfl:=Option.some.inj H
   go_enter Tryd.func22,Tryd.ntmps22
   go_wp2_with (first|((with_reducible refine dU (N:=1) rfl ?_);refine eX 1 #[.slice aQ aG.length aK,.slice aT aC.length aJ] 25 ?_;intro ZM hg w5 hbox hb;have pV:=aA.mk (hbox);have aZN:=gw hg HB;have aZO:=gw hg HB;replace HB:=bs HB hb;clear hb hbox hg;obtain⟨afA,afB⟩:=bZ pV (.slice aQ aG.length aK) (.slice aT aC.length aJ))|((with_reducible refine gJ (f:=32) rfl ?_);refine cE 9 Tryd.func32 #[.int .i64 (aG.length:Int),.int .i64 1,.int .i64 5] ?_;(with_reducible refine(qX.calls (aG.length:Int) 1 5 true _ A2.out).mono ?_);rintro e w' ⟨rfl,⟨nd,rfl⟩⟩;refine⟨_,rfl,?_⟩))
   go_ret
   exact eR HB
  rw[if_neg c4]at H
  have yH:decide (8<(aC.length:Int))=false:=decide_eq_false c4
  have aq1:decide (8<aC.length)=false:=decide_eq_false (by omega)
  clear c4
  have H':=aA.mk H
  clear H
  go_enter Tryd.func22,Tryd.ntmps22
  go_wp2_with (first|((with_reducible refine dU (N:=1) rfl ?_);refine eX 1 #[.slice aQ aG.length aK,.slice aT aC.length aJ] 25 ?_;intro ZM hg w7 hbox hb;have pV:=aA.mk (hbox);have aZN:=gw hg HB;have aZO:=gw hg HB;replace HB:=bs HB hb;clear hb hbox hg;obtain⟨ahD,ahE⟩:=bZ pV (.slice aQ aG.length aK) (.slice aT aC.length aJ))|((with_reducible refine gJ (f:=32) rfl ?_);refine cE 9 Tryd.func32 #[.int .i64 (aG.length:Int),.int .i64 1,.int .i64 5] ?_;(with_reducible refine(qX.calls (aG.length:Int) 1 5 true _ A2.out).mono ?_);rintro e w' ⟨rfl,⟨nd,rfl⟩⟩;refine⟨_,rfl,?_⟩))
  go_loopg [3] k (fun kq v3 w'=>∃ (iY:Int),v3=.int .i64 iY/\aA (jH.l0 kq iY aG aC=some r)/\aA (kq<=k)/\aA (w'.heap[ZM]? =some (.cells #[(.slice aQ aG.length aK),(.slice aT aC.length aJ)] 25 (0,0)))/\aA (Below w.heap.size w w'))
  case atStart=>exact⟨(0),(by first|rfl|(simp;done)|(simp[*];done)),H',⟨Nat.le_refl _⟩,⟨b_ pV⟩,⟨Bq HB⟩⟩
  case round=>
   clear H'
   try clear c3
   try clear c4
   try clear yH
   try clear aq1
   try clear ahD
   try clear ahE
   try clear aC4
   try clear aC5
   obtain⟨iY,rfl,HA,fV,pV,HB⟩:=hrel
   rcases gk with _|k1
   ·exact absurd HA.out (by simp[jH.l0])
   have H:=HA.out
   clear HA
   simp only[jH.l0]at H
   by_cases c9:iY<(aG.length:Int)
   ·rw[if_pos c9]at H
    have QC:decide (iY<(aG.length:Int))=true:=decide_eq_true c9
    clear c9
    by_cases c10:0<=iY
    ·rw[if_pos c10]at H
     have anN:decide (0<=iY)=true:=decide_eq_true c10
     clear c10
     replace H:=Option.bind_eq_some_iff.mp H
     obtain⟨aFP,wJ,H⟩:=H
     replace H:(if aFP=true then((qX.f ((dK aG iY).f1) 0 144).bind fun lC=>(if lC=true then(jH.l0 k1 (wrap64 (iY+1)) aG aC)else(some 2)))else(some 2))=some r:=H
     have BU:=aA.mk wJ
     clear wJ
     by_cases c12:aFP=true
     ·subst c12
      replace H:((qX.f ((dK aG iY).f1) 0 144).bind fun lC=>(if lC=true then(jH.l0 k1 (wrap64 (iY+1)) aG aC)else(some 2)))=some r:=by rw[if_pos rfl]at H;exact H
      replace H:=Option.bind_eq_some_iff.mp H
      obtain⟨lC,XK,H⟩:=H
      replace H:(if lC=true then(jH.l0 k1 (wrap64 (iY+1)) aG aC)else(some 2))=some r:=H
      have A13:=aA.mk XK
      clear XK
      by_cases c14:lC=true
      ·subst c14
       replace H:(jH.l0 k1 (wrap64 (iY+1)) aG aC)=some r:=by rw[if_pos rfl]at H;exact H
       have H':=aA.mk H
       clear H
       obtain⟨bmZ,bm0⟩:=bZ pV (.slice aQ aG.length aK) (.slice aT aC.length aJ)
       have acE:0<=(iY:Int):=od
       have acF:iY<(aG.length:Int):=od
       obtain⟨aFR,e243,aiY,aiZ⟩:=QW eU.out iY acE acF
       cases e243
       replace aiY:=xs HB aiY
       replace aiZ:=xs HB aiZ
       replace acE:=eq_true acE
       replace acF:=eq_true acF
       go_wp2_with (first|((with_reducible refine gJ (f:=32) rfl ?_);refine cE 28 Tryd.func32 #[.int .i64 ((dK aG iY).f0),.int .i64 0,.int .i64 144] ?_;(with_reducible refine(qX.calls ((dK aG iY).f0) 0 144 true _ BU.out).mono ?_);rintro e w' ⟨rfl,⟨nd,rfl⟩⟩;refine⟨_,rfl,?_⟩;have an6:0<=(iY:Int):=od;have an7:iY<(aG.length:Int):=od;obtain⟨aNP,e245,ax2,ax3⟩:=QW eU.out iY an6 an7;obtain rfl:aFR=aNP:=(by injection e245);replace ax2:=xs HB ax2;replace ax3:=xs HB ax3;replace an6:=eq_true an6;replace an7:=eq_true an7)|(go_at_call 32;(with_reducible refine(qX.calls ((dK aG iY).f1) 0 144 true _ A13.out).mono ?_);rintro e w' ⟨rfl,⟨nd,rfl⟩⟩))
       go_roundg k1
       case measure=>have:=fV.out;omega
       case rel=>exact⟨(wrap64 (iY+1)),(by first|rfl|(simp;done)|(simp[*];done)),H',⟨by have:=fV.out;omega⟩,⟨b_ pV⟩,⟨Bq HB⟩⟩
      replace c14:=Bool.eq_false_iff.mpr c14
      subst c14
      replace H:(some 2)=some r:=by rw[if_neg (show ¬ (false=true) by decide)]at H;exact H
      obtain rfl:=Option.some.inj H
      obtain⟨ahN,ahO⟩:=bZ pV (.slice aQ aG.length aK) (.slice aT aC.length aJ)
      have acE:0<=(iY:Int):=od
      have acF:iY<(aG.length:Int):=od
      obtain⟨aFR,e243,aiY,aiZ⟩:=QW eU.out iY acE acF
      cases e243
      replace aiY:=xs HB aiY
      replace aiZ:=xs HB aiZ
      replace acE:=eq_true acE
      replace acF:=eq_true acF
      go_wp2_with (first|((with_reducible refine gJ (f:=32) rfl ?_);refine cE 28 Tryd.func32 #[.int .i64 ((dK aG iY).f0),.int .i64 0,.int .i64 144] ?_;(with_reducible refine(qX.calls ((dK aG iY).f0) 0 144 true _ BU.out).mono ?_);rintro e w' ⟨rfl,⟨nd,rfl⟩⟩;refine⟨_,rfl,?_⟩;have an6:0<=(iY:Int):=od;have an7:iY<(aG.length:Int):=od;obtain⟨aNP,e245,ax2,ax3⟩:=QW eU.out iY an6 an7;obtain rfl:aFR=aNP:=(by injection e245);replace ax2:=xs HB ax2;replace ax3:=xs HB ax3;replace an6:=eq_true an6;replace an7:=eq_true an7)|(go_at_call 32;(with_reducible refine(qX.calls ((dK aG iY).f1) 0 144 false _ A13.out).mono ?_);rintro e w' ⟨rfl,⟨nd,rfl⟩⟩))
      go_ret
      exact eR HB
     replace c12:=Bool.eq_false_iff.mpr c12
     subst c12
     replace H:(some 2)=some r:=by rw[if_neg (show ¬ (false=true) by decide)]at H;exact H
     obtain rfl:=Option.some.inj H
     obtain⟨avH,avI⟩:=bZ pV (.slice aQ aG.length aK) (.slice aT aC.length aJ)
     have acE:0<=(iY:Int):=od
     have acF:iY<(aG.length:Int):=od
     obtain⟨aFR,e243,aiY,aiZ⟩:=QW eU.out iY acE acF
     cases e243
     replace aiY:=xs HB aiY
     replace aiZ:=xs HB aiZ
     replace acE:=eq_true acE
     replace acF:=eq_true acF
     go_wp2_with (first|((with_reducible refine gJ (f:=32) rfl ?_);refine cE 28 Tryd.func32 #[.int .i64 ((dK aG iY).f0),.int .i64 0,.int .i64 144] ?_;(with_reducible refine(qX.calls ((dK aG iY).f0) 0 144 false _ BU.out).mono ?_);rintro e w' ⟨rfl,⟨nd,rfl⟩⟩;refine⟨_,rfl,?_⟩))
     go_ret
     exact eR HB
    rw[if_neg c10]at H
    exact absurd H (by simp)
   rw[if_neg c9]at H
   have QC:decide (iY<(aG.length:Int))=false:=decide_eq_false c9
   clear c9
   have H':=aA.mk H
   clear H
   obtain⟨OW,OX⟩:=bZ pV (.slice aQ aG.length aK) (.slice aT aC.length aJ)
   go_wp2
   go_loopg [4] k1 (fun kq v4 w'=>∃ (eP:Int),v4=.int .i64 eP/\aA (jH.l1 kq eP aG aC=some r)/\aA (kq<=k1)/\aA (w'.heap[ZM]? =some (.cells #[(.slice aQ aG.length aK),(.slice aT aC.length aJ)] 25 (0,0)))/\aA (Below w.heap.size w w'))
   case atStart=>exact⟨(0),(by first|rfl|(simp;done)|(simp[*];done)),H',⟨Nat.le_refl _⟩,⟨b_ pV⟩,⟨Bq HB⟩⟩
   case round=>
    clear H'
    try clear c9
    try clear QC
    try clear OW
    try clear OX
    try clear afD
    try clear afE
    obtain⟨eP,rfl,HA,mY,pV,HB⟩:=hrel
    rcases gk with _|k2
    ·exact absurd HA.out (by simp[jH.l1])
    have H:=HA.out
    clear HA
    simp only[jH.l1]at H
    by_cases c19:eP<(aC.length:Int)
    ·rw[if_pos c19]at H
     have bm1:decide (eP<(aC.length:Int))=true:=decide_eq_true c19
     clear c19
     by_cases c20:0<=eP
     ·rw[if_pos c20]at H
      have arX:decide (0<=eP)=true:=decide_eq_true c20
      clear c20
      replace H:=Option.bind_eq_some_iff.mp H
      obtain⟨aFQ,auF,H⟩:=H
      replace H:(if aFQ=true then((IA.f ((aU aC eP).f1.f0) ((aU aC eP).f1.f1) 144).bind fun aiX=>(if aiX=true then((IA.f ((aU aC eP).f2.f0) ((aU aC eP).f2.f1) 144).bind fun aaR=>(if aaR=true then(jH.l1 k2 (wrap64 (eP+1)) aG aC)else(some 2)))else(some 2)))else(some 2))=some r:=H
      have A21:=aA.mk auF
      clear auF
      by_cases OY:aFQ=true
      ·subst OY
       replace H:((IA.f ((aU aC eP).f1.f0) ((aU aC eP).f1.f1) 144).bind fun aiX=>(if aiX=true then((IA.f ((aU aC eP).f2.f0) ((aU aC eP).f2.f1) 144).bind fun aaR=>(if aaR=true then(jH.l1 k2 (wrap64 (eP+1)) aG aC)else(some 2)))else(some 2)))=some r:=by rw[if_pos rfl]at H;exact H
       replace H:=Option.bind_eq_some_iff.mp H
       obtain⟨aiX,aZP,H⟩:=H
       replace H:(if aiX=true then((IA.f ((aU aC eP).f2.f0) ((aU aC eP).f2.f1) 144).bind fun aaR=>(if aaR=true then(jH.l1 k2 (wrap64 (eP+1)) aG aC)else(some 2)))else(some 2))=some r:=H
       have A23:=aA.mk aZP
       clear aZP
       by_cases c24:aiX=true
       ·subst c24
        replace H:((IA.f ((aU aC eP).f2.f0) ((aU aC eP).f2.f1) 144).bind fun aaR=>(if aaR=true then(jH.l1 k2 (wrap64 (eP+1)) aG aC)else(some 2)))=some r:=by rw[if_pos rfl]at H;exact H
        replace H:=Option.bind_eq_some_iff.mp H
        obtain⟨aaR,aZQ,H⟩:=H
        replace H:(if aaR=true then(jH.l1 k2 (wrap64 (eP+1)) aG aC)else(some 2))=some r:=H
        have A25:=aA.mk aZQ
        clear aZQ
        by_cases c26:aaR=true
        ·subst c26
         replace H:(jH.l1 k2 (wrap64 (eP+1)) aG aC)=some r:=by rw[if_pos rfl]at H;exact H
         have H':=aA.mk H
         clear H
         obtain⟨aL9,aMA⟩:=bZ pV (.slice aQ aG.length aK) (.slice aT aC.length aJ)
         have VR:0<=(eP:Int):=od
         have VS:eP<(aC.length:Int):=od
         obtain⟨UM,e247,acG,acH,acI,acJ,acK,acL⟩:=OO fB.out eP VR VS
         cases e247
         replace acG:=xs HB acG
         replace acH:=xs HB acH
         replace acI:=xs HB acI
         replace acJ:=xs HB acJ
         replace acK:=xs HB acK
         replace acL:=xs HB acL
         replace VR:=eq_true VR
         replace VS:=eq_true VS
         go_wp2_with (first|((with_reducible refine dU (N:=5) rfl ?_);refine eX 5 #[.int .i64 0,.int .i64 0,.int .i64 0,.int .i64 0,.int .i64 0,.bool false] 91 ?_;intro ai0 hg BQ hbox hb;have jX:=aA.mk (hbox);have aNR:=gw hg HB;have aNS:=gw hg HB;have BG:=nl hg pV;have an8:=ng hg pV;replace pV:=aA.mk (fC (g:=ZM) (o:=.cells #[.slice aQ aG.length aK,.slice (some UM) aC.length aJ] 25 (0,0)) (b_ pV) hb);replace HB:=bs HB hb;clear hb hbox hg;have bg2:=an8.out;have bg3:=BG.out;obtain⟨aZS,aZT⟩:=bZ jX (.int .i64 0) (.int .i64 0);have hcz30_2:=kd jX 2 (.int .i64 0);have hcz30_3:=kd jX 3 (.int .i64 0);have hcz30_4:=kd jX 4 (.int .i64 0);have hcz30_5:=kd jX 5 (.bool false);have aZU:=aX jX.out 0;have aZV:=aX jX.out 1;have hfz30_2:=aX jX.out 2;have hfz30_3:=aX jX.out 3;have hfz30_4:=aX jX.out 4;have hfz30_5:=aX jX.out 5;obtain⟨aNN,aNO⟩:=bZ pV (.slice aQ aG.length aK) (.slice (some UM) aC.length aJ))|((with_reducible refine gJ (f:=32) rfl ?_);refine cE 58 Tryd.func32 #[.int .i64 ((aU aC eP).f0),.int .i64 0,.int .i64 (wrap64 ((aG.length:Int) - 1))] ?_;(with_reducible refine(qX.calls ((aU aC eP).f0) 0 (wrap64 ((aG.length:Int) - 1)) true _ A21.out).mono ?_);rintro e w' ⟨rfl,⟨nd,rfl⟩⟩;refine⟨_,rfl,?_⟩)|(go_at_call 68;(with_reducible refine(IA.calls ((aU aC eP).f1.f0) ((aU aC eP).f1.f1) 144 true _ A23.out).mono ?_);rintro e w32 ⟨rfl,hb⟩;replace pV:=aA.mk (fC (g:=ZM) (o:=.cells #[.slice aQ aG.length aK,.slice (some UM) aC.length aJ] 25 (0,0)) (by(with_reducible repeat(first|refine mZ ?_ _|refine gI ?_|refine kK ?_ _));refine bG ?_ BG.out _;(with_reducible repeat(first|refine mZ ?_ _|refine gI ?_|refine kK ?_ _));refine bG ?_ BG.out _;(with_reducible repeat(first|refine mZ ?_ _|refine gI ?_|refine kK ?_ _));refine bG ?_ BG.out _;(with_reducible repeat(first|refine mZ ?_ _|refine gI ?_|refine kK ?_ _));refine bG ?_ BG.out _;(with_reducible repeat(first|refine mZ ?_ _|refine gI ?_|refine kK ?_ _));refine bG ?_ BG.out _;(with_reducible repeat(first|refine mZ ?_ _|refine gI ?_|refine kK ?_ _));refine bG ?_ BG.out _;(with_reducible repeat(first|refine mZ ?_ _|refine gI ?_|refine kK ?_ _));exact pV.out) hb);replace jX:=aA.mk (fC (g:=ai0) (o:=.cells #[.int .i64 ((aU aC eP).f0),.int .i64 ((aU aC eP).f1.f0),.int .i64 ((aU aC eP).f1.f1),.int .i64 ((aU aC eP).f2.f0),.int .i64 ((aU aC eP).f2.f1),.bool ((aU aC eP).f3)] 91 (0,0)) (by(with_reducible repeat(first|refine mZ ?_ _|refine gI ?_|refine kK ?_ _));refine dE (cs:=#[.int .i64 ((aU aC eP).f0),.int .i64 ((aU aC eP).f1.f0),.int .i64 ((aU aC eP).f1.f1),.int .i64 ((aU aC eP).f2.f0),.int .i64 ((aU aC eP).f2.f1),.bool false]) ?_ 5 _ rfl;(with_reducible repeat(first|refine mZ ?_ _|refine gI ?_|refine kK ?_ _));refine dE (cs:=#[.int .i64 ((aU aC eP).f0),.int .i64 ((aU aC eP).f1.f0),.int .i64 ((aU aC eP).f1.f1),.int .i64 ((aU aC eP).f2.f0),.int .i64 0,.bool false]) ?_ 4 _ rfl;(with_reducible repeat(first|refine mZ ?_ _|refine gI ?_|refine kK ?_ _));refine dE (cs:=#[.int .i64 ((aU aC eP).f0),.int .i64 ((aU aC eP).f1.f0),.int .i64 ((aU aC eP).f1.f1),.int .i64 0,.int .i64 0,.bool false]) ?_ 3 _ rfl;(with_reducible repeat(first|refine mZ ?_ _|refine gI ?_|refine kK ?_ _));refine dE (cs:=#[.int .i64 ((aU aC eP).f0),.int .i64 ((aU aC eP).f1.f0),.int .i64 0,.int .i64 0,.int .i64 0,.bool false]) ?_ 2 _ rfl;(with_reducible repeat(first|refine mZ ?_ _|refine gI ?_|refine kK ?_ _));refine dE (cs:=#[.int .i64 ((aU aC eP).f0),.int .i64 0,.int .i64 0,.int .i64 0,.int .i64 0,.bool false]) ?_ 1 _ rfl;(with_reducible repeat(first|refine mZ ?_ _|refine gI ?_|refine kK ?_ _));refine dE (cs:=#[.int .i64 0,.int .i64 0,.int .i64 0,.int .i64 0,.int .i64 0,.bool false]) ?_ 0 _ rfl;(with_reducible repeat(first|refine mZ ?_ _|refine gI ?_|refine kK ?_ _));exact jX.out) hb);replace HB:=bs HB hb;(try clear hb);obtain⟨hcz33_0,hcz33_1⟩:=bZ jX (.int .i64 ((aU aC eP).f0)) (.int .i64 ((aU aC eP).f1.f0));have hcz33_2:=kd jX 2 (.int .i64 ((aU aC eP).f1.f1));have hcz33_3:=kd jX 3 (.int .i64 ((aU aC eP).f2.f0));have hcz33_4:=kd jX 4 (.int .i64 ((aU aC eP).f2.f1));have hcz33_5:=kd jX 5 (.bool ((aU aC eP).f3));have hfz33_0:=aX jX.out 0;have hfz33_1:=aX jX.out 1;have hfz33_2:=aX jX.out 2;have hfz33_3:=aX jX.out 3;have hfz33_4:=aX jX.out 4;have hfz33_5:=aX jX.out 5)|(go_at_call 68;(with_reducible refine(IA.calls ((aU aC eP).f2.f0) ((aU aC eP).f2.f1) 144 true _ A25.out).mono ?_);rintro e MN ⟨rfl,hb⟩;replace pV:=aA.mk (fC (g:=ZM) (o:=.cells #[.slice aQ aG.length aK,.slice (some UM) aC.length aJ] 25 (0,0)) (b_ pV) hb);replace jX:=aA.mk (fC (g:=ai0) (o:=.cells #[.int .i64 ((aU aC eP).f0),.int .i64 ((aU aC eP).f1.f0),.int .i64 ((aU aC eP).f1.f1),.int .i64 ((aU aC eP).f2.f0),.int .i64 ((aU aC eP).f2.f1),.bool ((aU aC eP).f3)] 91 (0,0)) (b_ jX) hb);replace HB:=bs HB hb;(try clear hb)))
         go_roundg k2
         case measure=>have:=fV.out;have:=mY.out;omega
         case rel=>exact⟨(wrap64 (eP+1)),(by first|rfl|(simp;done)|(simp[*];done)),H',⟨by have:=fV.out;have:=mY.out;omega⟩,⟨b_ pV⟩,⟨Bq HB⟩⟩
        replace c26:=Bool.eq_false_iff.mpr c26
        subst c26
        replace H:(some 2)=some r:=by rw[if_neg (show ¬ (false=true) by decide)]at H;exact H
        obtain rfl:=Option.some.inj H
        obtain⟨aKH,aKI⟩:=bZ pV (.slice aQ aG.length aK) (.slice aT aC.length aJ)
        have VR:0<=(eP:Int):=od
        have VS:eP<(aC.length:Int):=od
        obtain⟨UM,e247,acG,acH,acI,acJ,acK,acL⟩:=OO fB.out eP VR VS
        cases e247
        replace acG:=xs HB acG
        replace acH:=xs HB acH
        replace acI:=xs HB acI
        replace acJ:=xs HB acJ
        replace acK:=xs HB acK
        replace acL:=xs HB acL
        replace VR:=eq_true VR
        replace VS:=eq_true VS
        go_wp2_with (first|((with_reducible refine dU (N:=5) rfl ?_);refine eX 5 #[.int .i64 0,.int .i64 0,.int .i64 0,.int .i64 0,.int .i64 0,.bool false] 91 ?_;intro ai0 hg xK hbox hb;have jX:=aA.mk (hbox);have aNR:=gw hg HB;have aNS:=gw hg HB;have BG:=nl hg pV;have an8:=ng hg pV;replace pV:=aA.mk (fC (g:=ZM) (o:=.cells #[.slice aQ aG.length aK,.slice (some UM) aC.length aJ] 25 (0,0)) (b_ pV) hb);replace HB:=bs HB hb;clear hb hbox hg;have aWK:=an8.out;have aWL:=BG.out;obtain⟨aL4,aL5⟩:=bZ jX (.int .i64 0) (.int .i64 0);have hcz38_2:=kd jX 2 (.int .i64 0);have hcz38_3:=kd jX 3 (.int .i64 0);have hcz38_4:=kd jX 4 (.int .i64 0);have hcz38_5:=kd jX 5 (.bool false);have biR:=aX jX.out 0;have biS:=aX jX.out 1;have hfz38_2:=aX jX.out 2;have hfz38_3:=aX jX.out 3;have hfz38_4:=aX jX.out 4;have hfz38_5:=aX jX.out 5;obtain⟨aXN,aXO⟩:=bZ pV (.slice aQ aG.length aK) (.slice (some UM) aC.length aJ))|((with_reducible refine gJ (f:=32) rfl ?_);refine cE 58 Tryd.func32 #[.int .i64 ((aU aC eP).f0),.int .i64 0,.int .i64 (wrap64 ((aG.length:Int) - 1))] ?_;(with_reducible refine(qX.calls ((aU aC eP).f0) 0 (wrap64 ((aG.length:Int) - 1)) true _ A21.out).mono ?_);rintro e w' ⟨rfl,⟨nd,rfl⟩⟩;refine⟨_,rfl,?_⟩)|(go_at_call 68;(with_reducible refine(IA.calls ((aU aC eP).f1.f0) ((aU aC eP).f1.f1) 144 true _ A23.out).mono ?_);rintro e PE ⟨rfl,hb⟩;replace pV:=aA.mk (fC (g:=ZM) (o:=.cells #[.slice aQ aG.length aK,.slice (some UM) aC.length aJ] 25 (0,0)) (by(with_reducible repeat(first|refine mZ ?_ _|refine gI ?_|refine kK ?_ _));refine bG ?_ BG.out _;(with_reducible repeat(first|refine mZ ?_ _|refine gI ?_|refine kK ?_ _));refine bG ?_ BG.out _;(with_reducible repeat(first|refine mZ ?_ _|refine gI ?_|refine kK ?_ _));refine bG ?_ BG.out _;(with_reducible repeat(first|refine mZ ?_ _|refine gI ?_|refine kK ?_ _));refine bG ?_ BG.out _;(with_reducible repeat(first|refine mZ ?_ _|refine gI ?_|refine kK ?_ _));refine bG ?_ BG.out _;(with_reducible repeat(first|refine mZ ?_ _|refine gI ?_|refine kK ?_ _));refine bG ?_ BG.out _;(with_reducible repeat(first|refine mZ ?_ _|refine gI ?_|refine kK ?_ _));exact pV.out) hb);replace jX:=aA.mk (fC (g:=ai0) (o:=.cells #[.int .i64 ((aU aC eP).f0),.int .i64 ((aU aC eP).f1.f0),.int .i64 ((aU aC eP).f1.f1),.int .i64 ((aU aC eP).f2.f0),.int .i64 ((aU aC eP).f2.f1),.bool ((aU aC eP).f3)] 91 (0,0)) (by(with_reducible repeat(first|refine mZ ?_ _|refine gI ?_|refine kK ?_ _));refine dE (cs:=#[.int .i64 ((aU aC eP).f0),.int .i64 ((aU aC eP).f1.f0),.int .i64 ((aU aC eP).f1.f1),.int .i64 ((aU aC eP).f2.f0),.int .i64 ((aU aC eP).f2.f1),.bool false]) ?_ 5 _ rfl;(with_reducible repeat(first|refine mZ ?_ _|refine gI ?_|refine kK ?_ _));refine dE (cs:=#[.int .i64 ((aU aC eP).f0),.int .i64 ((aU aC eP).f1.f0),.int .i64 ((aU aC eP).f1.f1),.int .i64 ((aU aC eP).f2.f0),.int .i64 0,.bool false]) ?_ 4 _ rfl;(with_reducible repeat(first|refine mZ ?_ _|refine gI ?_|refine kK ?_ _));refine dE (cs:=#[.int .i64 ((aU aC eP).f0),.int .i64 ((aU aC eP).f1.f0),.int .i64 ((aU aC eP).f1.f1),.int .i64 0,.int .i64 0,.bool false]) ?_ 3 _ rfl;(with_reducible repeat(first|refine mZ ?_ _|refine gI ?_|refine kK ?_ _));refine dE (cs:=#[.int .i64 ((aU aC eP).f0),.int .i64 ((aU aC eP).f1.f0),.int .i64 0,.int .i64 0,.int .i64 0,.bool false]) ?_ 2 _ rfl;(with_reducible repeat(first|refine mZ ?_ _|refine gI ?_|refine kK ?_ _));refine dE (cs:=#[.int .i64 ((aU aC eP).f0),.int .i64 0,.int .i64 0,.int .i64 0,.int .i64 0,.bool false]) ?_ 1 _ rfl;(with_reducible repeat(first|refine mZ ?_ _|refine gI ?_|refine kK ?_ _));refine dE (cs:=#[.int .i64 0,.int .i64 0,.int .i64 0,.int .i64 0,.int .i64 0,.bool false]) ?_ 0 _ rfl;(with_reducible repeat(first|refine mZ ?_ _|refine gI ?_|refine kK ?_ _));exact jX.out) hb);replace HB:=bs HB hb;(try clear hb);obtain⟨aLF,aLG⟩:=bZ jX (.int .i64 ((aU aC eP).f0)) (.int .i64 ((aU aC eP).f1.f0));have hcz41_2:=kd jX 2 (.int .i64 ((aU aC eP).f1.f1));have hcz41_3:=kd jX 3 (.int .i64 ((aU aC eP).f2.f0));have hcz41_4:=kd jX 4 (.int .i64 ((aU aC eP).f2.f1));have hcz41_5:=kd jX 5 (.bool ((aU aC eP).f3));have aWM:=aX jX.out 0;have aWN:=aX jX.out 1;have hfz41_2:=aX jX.out 2;have hfz41_3:=aX jX.out 3;have hfz41_4:=aX jX.out 4;have hfz41_5:=aX jX.out 5)|(go_at_call 68;(with_reducible refine(IA.calls ((aU aC eP).f2.f0) ((aU aC eP).f2.f1) 144 false _ A25.out).mono ?_);rintro e MJ ⟨rfl,hb⟩;replace pV:=aA.mk (fC (g:=ZM) (o:=.cells #[.slice aQ aG.length aK,.slice (some UM) aC.length aJ] 25 (0,0)) (b_ pV) hb);replace jX:=aA.mk (fC (g:=ai0) (o:=.cells #[.int .i64 ((aU aC eP).f0),.int .i64 ((aU aC eP).f1.f0),.int .i64 ((aU aC eP).f1.f1),.int .i64 ((aU aC eP).f2.f0),.int .i64 ((aU aC eP).f2.f1),.bool ((aU aC eP).f3)] 91 (0,0)) (b_ jX) hb);replace HB:=bs HB hb;(try clear hb)))
        go_ret
        exact eR HB
       replace c24:=Bool.eq_false_iff.mpr c24
       subst c24
       replace H:(some 2)=some r:=by rw[if_neg (show ¬ (false=true) by decide)]at H;exact H
       obtain rfl:=Option.some.inj H
       obtain⟨bm2,bm3⟩:=bZ pV (.slice aQ aG.length aK) (.slice aT aC.length aJ)
       have VR:0<=(eP:Int):=od
       have VS:eP<(aC.length:Int):=od
       obtain⟨UM,e247,acG,acH,acI,acJ,acK,acL⟩:=OO fB.out eP VR VS
       cases e247
       replace acG:=xs HB acG
       replace acH:=xs HB acH
       replace acI:=xs HB acI
       replace acJ:=xs HB acJ
       replace acK:=xs HB acK
       replace acL:=xs HB acL
       replace VR:=eq_true VR
       replace VS:=eq_true VS
       go_wp2_with (first|((with_reducible refine dU (N:=5) rfl ?_);refine eX 5 #[.int .i64 0,.int .i64 0,.int .i64 0,.int .i64 0,.int .i64 0,.bool false] 91 ?_;intro ai0 hg PN hbox hb;have jX:=aA.mk (hbox);have aNR:=gw hg HB;have aNS:=gw hg HB;have BG:=nl hg pV;have an8:=ng hg pV;replace pV:=aA.mk (fC (g:=ZM) (o:=.cells #[.slice aQ aG.length aK,.slice (some UM) aC.length aJ] 25 (0,0)) (b_ pV) hb);replace HB:=bs HB hb;clear hb hbox hg;have bdZ:=an8.out;have bd0:=BG.out;obtain⟨hcz46_0,hcz46_1⟩:=bZ jX (.int .i64 0) (.int .i64 0);have hcz46_2:=kd jX 2 (.int .i64 0);have hcz46_3:=kd jX 3 (.int .i64 0);have hcz46_4:=kd jX 4 (.int .i64 0);have hcz46_5:=kd jX 5 (.bool false);have hfz46_0:=aX jX.out 0;have hfz46_1:=aX jX.out 1;have hfz46_2:=aX jX.out 2;have hfz46_3:=aX jX.out 3;have hfz46_4:=aX jX.out 4;have hfz46_5:=aX jX.out 5;obtain⟨aU3,aU4⟩:=bZ pV (.slice aQ aG.length aK) (.slice (some UM) aC.length aJ))|((with_reducible refine gJ (f:=32) rfl ?_);refine cE 58 Tryd.func32 #[.int .i64 ((aU aC eP).f0),.int .i64 0,.int .i64 (wrap64 ((aG.length:Int) - 1))] ?_;(with_reducible refine(qX.calls ((aU aC eP).f0) 0 (wrap64 ((aG.length:Int) - 1)) true _ A21.out).mono ?_);rintro e w' ⟨rfl,⟨nd,rfl⟩⟩;refine⟨_,rfl,?_⟩)|(go_at_call 68;(with_reducible refine(IA.calls ((aU aC eP).f1.f0) ((aU aC eP).f1.f1) 144 false _ A23.out).mono ?_);rintro e TW ⟨rfl,hb⟩;replace pV:=aA.mk (fC (g:=ZM) (o:=.cells #[.slice aQ aG.length aK,.slice (some UM) aC.length aJ] 25 (0,0)) (by(with_reducible repeat(first|refine mZ ?_ _|refine gI ?_|refine kK ?_ _));refine bG ?_ BG.out _;(with_reducible repeat(first|refine mZ ?_ _|refine gI ?_|refine kK ?_ _));refine bG ?_ BG.out _;(with_reducible repeat(first|refine mZ ?_ _|refine gI ?_|refine kK ?_ _));refine bG ?_ BG.out _;(with_reducible repeat(first|refine mZ ?_ _|refine gI ?_|refine kK ?_ _));refine bG ?_ BG.out _;(with_reducible repeat(first|refine mZ ?_ _|refine gI ?_|refine kK ?_ _));refine bG ?_ BG.out _;(with_reducible repeat(first|refine mZ ?_ _|refine gI ?_|refine kK ?_ _));refine bG ?_ BG.out _;(with_reducible repeat(first|refine mZ ?_ _|refine gI ?_|refine kK ?_ _));exact pV.out) hb);replace jX:=aA.mk (fC (g:=ai0) (o:=.cells #[.int .i64 ((aU aC eP).f0),.int .i64 ((aU aC eP).f1.f0),.int .i64 ((aU aC eP).f1.f1),.int .i64 ((aU aC eP).f2.f0),.int .i64 ((aU aC eP).f2.f1),.bool ((aU aC eP).f3)] 91 (0,0)) (by(with_reducible repeat(first|refine mZ ?_ _|refine gI ?_|refine kK ?_ _));refine dE (cs:=#[.int .i64 ((aU aC eP).f0),.int .i64 ((aU aC eP).f1.f0),.int .i64 ((aU aC eP).f1.f1),.int .i64 ((aU aC eP).f2.f0),.int .i64 ((aU aC eP).f2.f1),.bool false]) ?_ 5 _ rfl;(with_reducible repeat(first|refine mZ ?_ _|refine gI ?_|refine kK ?_ _));refine dE (cs:=#[.int .i64 ((aU aC eP).f0),.int .i64 ((aU aC eP).f1.f0),.int .i64 ((aU aC eP).f1.f1),.int .i64 ((aU aC eP).f2.f0),.int .i64 0,.bool false]) ?_ 4 _ rfl;(with_reducible repeat(first|refine mZ ?_ _|refine gI ?_|refine kK ?_ _));refine dE (cs:=#[.int .i64 ((aU aC eP).f0),.int .i64 ((aU aC eP).f1.f0),.int .i64 ((aU aC eP).f1.f1),.int .i64 0,.int .i64 0,.bool false]) ?_ 3 _ rfl;(with_reducible repeat(first|refine mZ ?_ _|refine gI ?_|refine kK ?_ _));refine dE (cs:=#[.int .i64 ((aU aC eP).f0),.int .i64 ((aU aC eP).f1.f0),.int .i64 0,.int .i64 0,.int .i64 0,.bool false]) ?_ 2 _ rfl;(with_reducible repeat(first|refine mZ ?_ _|refine gI ?_|refine kK ?_ _));refine dE (cs:=#[.int .i64 ((aU aC eP).f0),.int .i64 0,.int .i64 0,.int .i64 0,.int .i64 0,.bool false]) ?_ 1 _ rfl;(with_reducible repeat(first|refine mZ ?_ _|refine gI ?_|refine kK ?_ _));refine dE (cs:=#[.int .i64 0,.int .i64 0,.int .i64 0,.int .i64 0,.int .i64 0,.bool false]) ?_ 0 _ rfl;(with_reducible repeat(first|refine mZ ?_ _|refine gI ?_|refine kK ?_ _));exact jX.out) hb);replace HB:=bs HB hb;(try clear hb)))
       go_ret
       exact eR HB
      replace OY:=Bool.eq_false_iff.mpr OY
      subst OY
      replace H:(some 2)=some r:=by rw[if_neg (show ¬ (false=true) by decide)]at H;exact H
      obtain rfl:=Option.some.inj H
      obtain⟨aNT,aNU⟩:=bZ pV (.slice aQ aG.length aK) (.slice aT aC.length aJ)
      have VR:0<=(eP:Int):=od
      have VS:eP<(aC.length:Int):=od
      obtain⟨UM,e247,acG,acH,acI,acJ,acK,acL⟩:=OO fB.out eP VR VS
      cases e247
      replace acG:=xs HB acG
      replace acH:=xs HB acH
      replace acI:=xs HB acI
      replace acJ:=xs HB acJ
      replace acK:=xs HB acK
      replace acL:=xs HB acL
      replace VR:=eq_true VR
      replace VS:=eq_true VS
      go_wp2_with (first|((with_reducible refine dU (N:=5) rfl ?_);refine eX 5 #[.int .i64 0,.int .i64 0,.int .i64 0,.int .i64 0,.int .i64 0,.bool false] 91 ?_;intro ai0 hg w50 hbox hb;have jX:=aA.mk (hbox);have aNR:=gw hg HB;have aNS:=gw hg HB;have BG:=nl hg pV;have an8:=ng hg pV;replace pV:=aA.mk (fC (g:=ZM) (o:=.cells #[.slice aQ aG.length aK,.slice (some UM) aC.length aJ] 25 (0,0)) (b_ pV) hb);replace HB:=bs HB hb;clear hb hbox hg;have aU7:=an8.out;have aU8:=BG.out;obtain⟨biZ,bi0⟩:=bZ jX (.int .i64 0) (.int .i64 0);have hcz52_2:=kd jX 2 (.int .i64 0);have hcz52_3:=kd jX 3 (.int .i64 0);have hcz52_4:=kd jX 4 (.int .i64 0);have hcz52_5:=kd jX 5 (.bool false);have hfz52_0:=aX jX.out 0;have hfz52_1:=aX jX.out 1;have hfz52_2:=aX jX.out 2;have hfz52_3:=aX jX.out 3;have hfz52_4:=aX jX.out 4;have hfz52_5:=aX jX.out 5;obtain⟨aVB,aVC⟩:=bZ pV (.slice aQ aG.length aK) (.slice (some UM) aC.length aJ))|((with_reducible refine gJ (f:=32) rfl ?_);refine cE 58 Tryd.func32 #[.int .i64 ((aU aC eP).f0),.int .i64 0,.int .i64 (wrap64 ((aG.length:Int) - 1))] ?_;(with_reducible refine(qX.calls ((aU aC eP).f0) 0 (wrap64 ((aG.length:Int) - 1)) false _ A21.out).mono ?_);rintro e w' ⟨rfl,⟨nd,rfl⟩⟩;refine⟨_,rfl,?_⟩))
      go_ret
      exact eR HB
     rw[if_neg c20]at H
     exact absurd H (by simp)
    rw[if_neg c19]at H
    have bm1:decide (eP<(aC.length:Int))=false:=decide_eq_false c19
    clear c19
    obtain rfl:=Option.some.inj H
    obtain⟨hcz54_0,hcz54_1⟩:=bZ pV (.slice aQ aG.length aK) (.slice aT aC.length aJ)
    go_wp2
    go_ret
    exact eR HB
 replace c3:=Bool.eq_false_iff.mpr c3
 subst c3
 replace H:(some 4)=some r:=by rw[if_neg (show ¬ (false=true) by decide)]at H;exact H
 obtain rfl:=Option.some.inj H
 go_enter Tryd.func22,Tryd.ntmps22
 go_wp2_with (first|((with_reducible refine dU (N:=1) rfl ?_);refine eX 1 #[.slice aQ aG.length aK,.slice aT aC.length aJ] 25 ?_;intro ZM hg w55 hbox hb;have pV:=aA.mk (hbox);have aZN:=gw hg HB;have aZO:=gw hg HB;replace HB:=bs HB hb;clear hb hbox hg;obtain⟨aZW,aZX⟩:=bZ pV (.slice aQ aG.length aK) (.slice aT aC.length aJ))|((with_reducible refine gJ (f:=32) rfl ?_);refine cE 9 Tryd.func32 #[.int .i64 (aG.length:Int),.int .i64 1,.int .i64 5] ?_;(with_reducible refine(qX.calls (aG.length:Int) 1 5 false _ A2.out).mono ?_);rintro e w' ⟨rfl,⟨nd,rfl⟩⟩;refine⟨_,rfl,?_⟩))
 go_ret
 exact eR HB
def yL.f (bV:Int) (bU:Int) (a1:Bool):Option (Int):=if a1=true then(some bU)else(some bV)
theorem yL.calls (bV:Int) (bU:Int) (a1:Bool) (r:Int) (w:World) (h:yL.f bV bU a1=some r):
    Calls Tryd.prog 71 #[.agg #[.int .i64 bV,.int .i64 bU],.bool a1] w fun e w'=>e=.returned (.int .i64 r)/\Below w.heap.size w w':=by
 have am0:=Tryd.underlying89
 have HB:=aA.mk (Below.refl w.heap.size w)
 have H:(if a1=true then(some bU)else(some bV))=some r:=h
 clear h
 by_cases c3:a1=true
 ·subst c3
  replace H:(some bU)=some r:=by rw[if_pos rfl]at H;exact H
  obtain rfl:=Option.some.inj H
  go_enter Tryd.func71,Tryd.ntmps71
  go_wp2_with (first|((with_reducible refine dU (N:=2) rfl ?_);refine eX 2 #[.int .i64 bV,.int .i64 bU] 89 ?_;intro bm4 hg w4 hbox hb;have an9:=aA.mk (hbox);have bm5:=gw hg HB;have bm6:=gw hg HB;replace HB:=bs HB hb;clear hb hbox hg;obtain⟨ah0,ah1⟩:=bZ an9 (.int .i64 bV) (.int .i64 bU);have auT:=aX an9.out 0;have auU:=aX an9.out 1))
  go_ret
  exact eR HB
 replace c3:=Bool.eq_false_iff.mpr c3
 subst c3
 replace H:(some bV)=some r:=by rw[if_neg (show ¬ (false=true) by decide)]at H;exact H
 obtain rfl:=Option.some.inj H
 go_enter Tryd.func71,Tryd.ntmps71
 go_wp2_with (first|((with_reducible refine dU (N:=2) rfl ?_);refine eX 2 #[.int .i64 bV,.int .i64 bU] 89 ?_;intro bm4 hg w6 hbox hb;have an9:=aA.mk (hbox);have bm5:=gw hg HB;have bm6:=gw hg HB;replace HB:=bs HB hb;clear hb hbox hg;obtain⟨bm7,bm8⟩:=bZ an9 (.int .i64 bV) (.int .i64 bU);have bm9:=aX an9.out 0;have bnA:=aX an9.out 1))
 go_ret
 exact eR HB
def XT.f (bV:Int) (bU:Int) (iL:Int) (iO:Int) (kV:Int) (lW:Bool) (a1:Bool):Option (Int×Int):=if a1=true then(some (iO,kV))else(some (bU,iL))
theorem XT.calls (bV:Int) (bU:Int) (iL:Int) (iO:Int) (kV:Int) (lW:Bool) (a1:Bool) (r1:Int) (r2:Int) (w:World) (h:XT.f bV bU iL iO kV lW a1=some (r1,r2)):
    Calls Tryd.prog 102 #[.agg #[.int .i64 bV,.int .i64 bU,.int .i64 iL,.int .i64 iO,.int .i64 kV,.bool lW],.bool a1] w fun e w'=>e=.returned (.agg #[.int .i64 r1,.int .i64 r2])/\Below w.heap.size w w':=by
 have aqN:=Tryd.underlying91
 have QY:=Tryd.underlying42
 have HB:=aA.mk (Below.refl w.heap.size w)
 have H:(if a1=true then(some (iO,kV))else(some (bU,iL)))=some (r1,r2):=h
 clear h
 by_cases c3:a1=true
 ·subst c3
  replace H:(some (iO,kV))=some (r1,r2):=by rw[if_pos rfl]at H;exact H
  simp only[Option.some.injEq,Prod.mk.injEq]at H
  obtain⟨rfl,rfl⟩:=H
  go_enter Tryd.func102,Tryd.ntmps102
  go_wp2_with (first|((with_reducible refine dU (N:=2) rfl ?_);refine eX 2 #[.int .i64 bV,.int .i64 bU,.int .i64 iL,.int .i64 iO,.int .i64 kV,.bool lW] 91 ?_;intro bnB hg w4 hbox hb;have xA:=aA.mk (hbox);have bnC:=gw hg HB;have bnD:=gw hg HB;replace HB:=bs HB hb;clear hb hbox hg)|((with_reducible refine dU (N:=4) rfl ?_);refine eX 4 #[.int .i64 0,.int .i64 0] 42 ?_;intro aNV hg w5 hbox hb;have agI:=aA.mk (hbox);have bnE:=gw hg HB;have bnF:=gw hg HB;have aNW:=nl hg xA;have aNX:=ng hg xA;replace xA:=bb xA hb;replace HB:=bs HB hb;clear hb hbox hg;have aT1:=aNW.out;have aT2:=aNX.out;obtain⟨bm7,bm8⟩:=bZ xA (.int .i64 bV) (.int .i64 bU);have hcz7_2:=kd xA 2 (.int .i64 iL);have hcz7_3:=kd xA 3 (.int .i64 iO);have hcz7_4:=kd xA 4 (.int .i64 kV);have hcz7_5:=kd xA 5 (.bool lW);have bm9:=aX xA.out 0;have bnA:=aX xA.out 1;have hfz7_2:=aX xA.out 2;have hfz7_3:=aX xA.out 3;have hfz7_4:=aX xA.out 4;have hfz7_5:=aX xA.out 5;obtain⟨ahD,ahE⟩:=bZ agI (.int .i64 0) (.int .i64 0);have aC4:=aX agI.out 0;have aC5:=aX agI.out 1))
  refine bodyPost_ret (results_cell_row rfl _ _ aNV 42 #[.int .i64 iO,.int .i64 kV] (0,0) _ rfl (by exact dE (cs:=#[.int .i64 iO,.int .i64 0]) (dE (cs:=#[.int .i64 0,.int .i64 0]) (b_ agI) 0 _ rfl) 1 _ rfl) Tryd.underlying42 rfl (by kernel_rfl)) rfl ?_
  exact eR HB
 replace c3:=Bool.eq_false_iff.mpr c3
 subst c3
 replace H:(some (bU,iL))=some (r1,r2):=by rw[if_neg (show ¬ (false=true) by decide)]at H;exact H
 simp only[Option.some.injEq,Prod.mk.injEq]at H
 obtain⟨rfl,rfl⟩:=H
 go_enter Tryd.func102,Tryd.ntmps102
 go_wp2_with (first|((with_reducible refine dU (N:=2) rfl ?_);refine eX 2 #[.int .i64 bV,.int .i64 bU,.int .i64 iL,.int .i64 iO,.int .i64 kV,.bool lW] 91 ?_;intro bnB hg w9 hbox hb;have xA:=aA.mk (hbox);have bnC:=gw hg HB;have bnD:=gw hg HB;replace HB:=bs HB hb;clear hb hbox hg)|((with_reducible refine dU (N:=4) rfl ?_);refine eX 4 #[.int .i64 0,.int .i64 0] 42 ?_;intro aNV hg w10 hbox hb;have agI:=aA.mk (hbox);have bnE:=gw hg HB;have bnF:=gw hg HB;have aNW:=nl hg xA;have aNX:=ng hg xA;replace xA:=bb xA hb;replace HB:=bs HB hb;clear hb hbox hg;have ap9:=aNW.out;have aqA:=aNX.out;obtain⟨ad6,ad7⟩:=bZ xA (.int .i64 bV) (.int .i64 bU);have hcz12_2:=kd xA 2 (.int .i64 iL);have hcz12_3:=kd xA 3 (.int .i64 iO);have hcz12_4:=kd xA 4 (.int .i64 kV);have hcz12_5:=kd xA 5 (.bool lW);have amK:=aX xA.out 0;have amL:=aX xA.out 1;have hfz12_2:=aX xA.out 2;have hfz12_3:=aX xA.out 3;have hfz12_4:=aX xA.out 4;have hfz12_5:=aX xA.out 5;obtain⟨aqB,aqC⟩:=bZ agI (.int .i64 0) (.int .i64 0);have aCZ:=aX agI.out 0;have aC0:=aX agI.out 1))
 refine bodyPost_ret (results_cell_row rfl _ _ aNV 42 #[.int .i64 bU,.int .i64 iL] (0,0) _ rfl (by exact dE (cs:=#[.int .i64 bU,.int .i64 0]) (dE (cs:=#[.int .i64 0,.int .i64 0]) (b_ agI) 0 _ rfl) 1 _ rfl) Tryd.underlying42 rfl (by kernel_rfl)) rfl ?_
 exact eR HB
def acM.f (a0:Int) (a1:Int) (a2:Bool):Option (Int):=if a2=true then(some (wrap64 (a0 - a1)))else(some (wrap64 (a0+a1)))
theorem acM.calls (a0:Int) (a1:Int) (a2:Bool) (r:Int) (w:World) (h:acM.f a0 a1 a2=some r):
    Calls Tryd.prog 103 #[.int .i64 a0,.int .i64 a1,.bool a2] w fun e w'=>e=.returned (.int .i64 r)/\iI w w':=by
 have H:(if a2=true then(some (wrap64 (a0 - a1)))else(some (wrap64 (a0+a1))))=some r:=h
 clear h
 by_cases c4:a2=true
 ·subst c4
  replace H:(some (wrap64 (a0 - a1)))=some r:=by rw[if_pos rfl]at H;exact H
  obtain rfl:=Option.some.inj H
  go_enter Tryd.func103,Tryd.ntmps103
  go_wp2
  go_ret
  exact⟨by first|rfl|(simp;done)|(simp[*];done),by repeat(first|exact iI.refl _|apply iI.step)⟩
 replace c4:=Bool.eq_false_iff.mpr c4
 subst c4
 replace H:(some (wrap64 (a0+a1)))=some r:=by rw[if_neg (show ¬ (false=true) by decide)]at H;exact H
 obtain rfl:=Option.some.inj H
 go_enter Tryd.func103,Tryd.ntmps103
 go_wp2
 go_ret
 exact⟨by first|rfl|(simp;done)|(simp[*];done),by repeat(first|exact iI.refl _|apply iI.step)⟩
def qI.l0:Nat->Int->Int->List Int->Int->List (aZ)->List (aI)->Option (List Int)
  |0,_,_,_,_,_,_=>none
  |k+1,x1,x2,x7,x8,aNY,ax4=>if x8<(ax4.length:Int)then(if 0<=x8 then(if((aU ax4 x8).f0)=x1 then(if 0<=(IntKind.u64.wrap (x8))then(if(Go.bits .and .i64 (shr .i64 x2 (IntKind.u64.wrap (x8))) 1)=1 then(if x7.length<17592186044416 then(qI.l0 k x1 x2 (x7++[x8]) (wrap64 (x8+1)) aNY ax4)else(none))else(qI.l0 k x1 x2 x7 (wrap64 (x8+1)) aNY ax4))else(none))else(qI.l0 k x1 x2 x7 (wrap64 (x8+1)) aNY ax4))else(none))else(some x7)
def qI.f (k:Nat) (aG:List (aZ)) (aC:List (aI)) (a1:Int) (a2:Int):Option (List Int):=qI.l0 k a1 a2 (([]:List Int)) 0 aG aC
theorem qI.calls (k:Nat) (aQ:Option Addr) (aK:Nat) (aG:List (aZ)) (aT:Option Addr) (aJ:Nat) (aC:List (aI)) (a1:Int) (a2:Int) (r:List Int) (w:World) (jI:Kd.C iJ w aQ aG.length aG) (jU:aG.length<=aK) (jE:Kd.C iE w aT aC.length aC) (jS:aC.length<=aJ) (h:qI.f k aG aC a1 a2=some r):
    Calls Tryd.prog 70 #[.agg #[.slice aQ aG.length aK,.slice aT aC.length aJ],.int .i64 a1,.int .i64 a2] w fun e w'=>∃ iG:Value,e=.returned (iG)/\Kd.R (Kd.int .i64) 3 w' w.heap.size (fun _=>True) iG r/\Below w.heap.size w w':=by
 have zH:=Tryd.underlying25
 have eU:=aA.mk jI
 have fK:=aA.mk jU
 clear jI jU
 have fB:=aA.mk jE
 have fM:=aA.mk jS
 clear jE jS
 have HB:=aA.mk (Below.refl w.heap.size w)
 have H:(qI.l0 k a1 a2 (([]:List Int)) 0 aG aC)=some r:=h
 clear h
 obtain⟨aZY,ax5⟩:∃ y_:List Int,y_=(([]:List Int)):=⟨_,rfl⟩
 replace H:(qI.l0 k a1 a2 aZY 0 aG aC)=some r:=by first|(rw[ax5];with_reducible exact H)|(have dJ:=(Option.bind_some _ _).symm.trans H;rw[ax5];with_reducible exact dJ)|(have dJ:=(Option.bind_some _ _).symm.trans H;with_reducible exact dJ)|with_reducible exact H|(rw[ax5];exact H)|exact H
 have aZZ:=aA.mk ax5
 clear ax5
 have H':=aA.mk H
 clear H
 go_enter Tryd.func70,Tryd.ntmps70
 go_wp2_with (first|((with_reducible refine dU (N:=3) rfl ?_);refine eX 3 #[.slice aQ aG.length aK,.slice aT aC.length aJ] 25 ?_;intro aZ0 hg w4 hbox hb;have VT:=aA.mk (hbox);have GW282:=gw hg HB;have GE282:=gw hg HB;replace HB:=bs HB hb;clear hb hbox hg)|((with_reducible refine dU (N:=9) rfl ?_);refine Kd.YX (Kd.int .i64) _ 3 ?hg (N:=9) ?hd (xs:=([]:List Int)) (inner:=[]) (ok:=fun _=>True) (lS:=fun _=>True) ?hr ?hp (fun _ hk=>hk) trivial (Below.refl _ _) (Nat.le_refl _) (by simp) ?_;(case hd=>rfl);(case hg=>rfl);(case hr=>first|(go_simp;done)|(go_simp;rfl));(case hp=>exact(gX.none _ _));intro v284 w5 ZF hb mF mG;clear mF mG;(first|rw[<-aZZ.out]at ZF|(simp only[Int.reduceToNat]at ZF;rw[<-aZZ.out]at ZF));have bnG:=aA.mk (Kd.eF ZF (dH (Bq HB)));replace VT:=bb VT hb;replace HB:=bs HB hb;clear hb ZF))
 go_loopg [7,8] k (fun kq v7 v8 w'=>∃ (XU:List Int) (uY:Int),v8=.int .i64 uY/\aA (qI.l0 kq a1 a2 XU uY aG aC=some r)/\aA (kq<=k)/\aA (Kd.R (Kd.int .i64) 3 w' w.heap.size (fun _=>True) v7 XU)/\aA (w'.heap[aZ0]? =some (.cells #[(.slice aQ aG.length aK),(.slice aT aC.length aJ)] 25 (0,0)))/\aA (Below w.heap.size w w'))
 case atStart=>exact⟨(aZY),(0),(by first|rfl|(simp;done)|(simp[*];done)),H',⟨Nat.le_refl _⟩,⟨R_ bnG⟩,⟨b_ VT⟩,⟨Bq HB⟩⟩
 case round=>
  clear H'
  obtain⟨XU,uY,rfl,HA,fV,mQ,VT,HB⟩:=hrel
  rcases gk with _|k1
  ·exact absurd HA.out (by simp[qI.l0])
  have H:=HA.out
  clear HA
  simp only[qI.l0]at H
  by_cases c7:uY<(aC.length:Int)
  ·rw[if_pos c7]at H
   have afF:decide (uY<(aC.length:Int))=true:=decide_eq_true c7
   clear c7
   by_cases c8:0<=uY
   ·rw[if_pos c8]at H
    have aDL:decide (0<=uY)=true:=decide_eq_true c8
    clear c8
    by_cases c9:((aU aC uY).f0)=a1
    ·rw[if_pos c9]at H
     have QC:(((aU aC uY).f0)==a1)=true:=beq_iff_eq.mpr c9
     have afH:(((aU aC uY).f0)!=a1)=false:=bne_eq_false_iff_eq.mpr c9
     clear c9
     obtain⟨ai1,aZ1⟩:∃ j_:Int,(IntKind.u64.wrap (uY))=j_:=⟨_,rfl⟩
     replace H:(if 0<=(ai1)then(if(Go.bits .and .i64 (shr .i64 a2 (ai1)) 1)=1 then(if XU.length<17592186044416 then(qI.l0 k1 a1 a2 (XU++[uY]) (wrap64 (uY+1)) aG aC)else(none))else(qI.l0 k1 a1 a2 XU (wrap64 (uY+1)) aG aC))else(none))=some r:=by first|(rw[aZ1]at H;exact H)|(simp only[aZ1]at H ⊢;exact H)
     by_cases c11:0<=(ai1)
     ·rw[if_pos c11]at H
      have aZ2:=eq_true c11
      have aZ3:decide (0<=(ai1))=true:=decide_eq_true c11
      clear c11
      obtain⟨ai2,aFS⟩:∃ j_:Int,(shr .i64 a2 (ai1))=j_:=⟨_,rfl⟩
      replace H:(if(Go.bits .and .i64 (ai2) 1)=1 then(if XU.length<17592186044416 then(qI.l0 k1 a1 a2 (XU++[uY]) (wrap64 (uY+1)) aG aC)else(none))else(qI.l0 k1 a1 a2 XU (wrap64 (uY+1)) aG aC))=some r:=by first|(rw[aFS]at H;exact H)|(simp only[aFS]at H ⊢;exact H)
      have hji12_:(a2 / 2^min (ai1).toNat 64)=ai2:=aFS
      have hji12z:(ai1)<=64->(a2 / 2^(ai1).toNat)=ai2:=aCP aFS
      by_cases c13:(Go.bits .and .i64 (ai2) 1)=1
      ·rw[if_pos c13]at H
       have aNZ:((Go.bits .and .i64 (ai2) 1)==1)=true:=beq_iff_eq.mpr c13
       have aN0:((Go.bits .and .i64 (ai2) 1)!=1)=false:=bne_eq_false_iff_eq.mpr c13
       clear c13
       by_cases c14:XU.length<17592186044416
       ·rw[if_pos c14]at H
        have aN1:=aA.mk c14
        clear c14
        obtain⟨aZ4,ax6⟩:∃ y_:List Int,y_=(XU++[uY]):=⟨_,rfl⟩
        replace H:(qI.l0 k1 a1 a2 aZ4 (wrap64 (uY+1)) aG aC)=some r:=by first|(rw[ax6];with_reducible exact H)|(have dJ:=(Option.bind_some _ _).symm.trans H;rw[ax6];with_reducible exact dJ)|(have dJ:=(Option.bind_some _ _).symm.trans H;with_reducible exact dJ)|with_reducible exact H|(rw[ax6];exact H)|exact H
        have bnH:=aA.mk ax6
        clear ax6
        have H':=aA.mk H
        clear H
        obtain⟨bmZ,bm0⟩:=bZ VT (.slice aQ aG.length aK) (.slice aT aC.length aJ)
        have acN:0<=(uY:Int):=od
        have acO:uY<(aC.length:Int):=od
        obtain⟨aN2,ax7,ai3,ai4,ai5,ai6,ai7,ai8⟩:=OO fB.out uY acN acO
        cases ax7
        replace ai3:=xs HB ai3
        replace ai4:=xs HB ai4
        replace ai5:=xs HB ai5
        replace ai6:=xs HB ai6
        replace ai7:=xs HB ai7
        replace ai8:=xs HB ai8
        replace acN:=eq_true acN
        replace acO:=eq_true acO
        go_wp2_with (first|((with_reducible refine VC (b:=.append) (xs:=#[.tmp 33,.tmp 35]) rfl ?_);at_builtin;refine Kd.WR (Kd.int .i64) (w0:=w) w.heap.size rfl (.tmp 33) (.tmp 35) 34 3 (.int .i64 0) 8 rfl Tryd.underlying34 info3 rfl (by decide) (by omega) u7 XU uY [.int .i64 uY] (fun _=>True) (fun _=>False) rfl rfl ?aP (fun _ hk=>hk.elim) ?aF ?aO ?aB ?aS ?aL ?_;(case aP=>exact rfl);(case aB=>exact(Bq HB));(case aF=>exact(fun _ _=>trivial));(case aO=>exact(R_ mQ));(case aS=>exact(dH (Bq HB)));(case aL=>have:=aN1.out;omega);intro v288 w16 ho hb hg hat;rw[<-bnH.out]at ho;have aV:=aA.mk (oM (g:=aZ0) (o:=.cells #[.slice aQ aG.length aK,.slice (some aN2) aC.length aJ] 25 (0,0)) (b_ VT) hg (Kd.mW mQ.out VT.out (by decide)));have aW:=aA.mk (hb);have aY:=aA.mk (ho);clear VT;clear HB;clear mQ;have VT:=aV;have HB:=aW;have bnI:=aY;clear aV aW aY;clear ho hb hg hat))
        go_roundg k1
        case measure=>have:=fV.out;omega
        case rel=>exact⟨(aZ4),(wrap64 (uY+1)),(by first|rfl|(simp;done)|(simp[*];done)),H',⟨by have:=fV.out;omega⟩,⟨R_ bnI⟩,⟨b_ VT⟩,⟨Bq HB⟩⟩
       rw[if_neg c14]at H
       exact absurd H (by simp)
      rw[if_neg c13]at H
      have aNZ:((Go.bits .and .i64 (ai2) 1)==1)=false:=beq_eq_false_iff_ne.mpr c13
      have aN0:((Go.bits .and .i64 (ai2) 1)!=1)=true:=bne_iff_ne.mpr c13
      have H':=aA.mk H
      clear H
      obtain⟨avH,avI⟩:=bZ VT (.slice aQ aG.length aK) (.slice aT aC.length aJ)
      have acN:0<=(uY:Int):=od
      have acO:uY<(aC.length:Int):=od
      obtain⟨aN2,ax7,ai3,ai4,ai5,ai6,ai7,ai8⟩:=OO fB.out uY acN acO
      cases ax7
      replace ai3:=xs HB ai3
      replace ai4:=xs HB ai4
      replace ai5:=xs HB ai5
      replace ai6:=xs HB ai6
      replace ai7:=xs HB ai7
      replace ai8:=xs HB ai8
      replace acN:=eq_true acN
      replace acO:=eq_true acO
      go_wp2
      go_roundg k1
      case measure=>have:=fV.out;omega
      case rel=>exact⟨(XU),(wrap64 (uY+1)),(by first|rfl|(simp;done)|(simp[*];done)),H',⟨by have:=fV.out;omega⟩,⟨R_ mQ⟩,⟨b_ VT⟩,⟨Bq HB⟩⟩
     rw[if_neg c11]at H
     exact absurd H (by simp)
    rw[if_neg c9]at H
    have QC:(((aU aC uY).f0)==a1)=false:=beq_eq_false_iff_ne.mpr c9
    have afH:(((aU aC uY).f0)!=a1)=true:=bne_iff_ne.mpr c9
    have H':=aA.mk H
    clear H
    obtain⟨OW,OX⟩:=bZ VT (.slice aQ aG.length aK) (.slice aT aC.length aJ)
    have acN:0<=(uY:Int):=od
    have acO:uY<(aC.length:Int):=od
    obtain⟨aN2,ax7,ai3,ai4,ai5,ai6,ai7,ai8⟩:=OO fB.out uY acN acO
    cases ax7
    replace ai3:=xs HB ai3
    replace ai4:=xs HB ai4
    replace ai5:=xs HB ai5
    replace ai6:=xs HB ai6
    replace ai7:=xs HB ai7
    replace ai8:=xs HB ai8
    replace acN:=eq_true acN
    replace acO:=eq_true acO
    go_wp2
    go_roundg k1
    case measure=>have:=fV.out;omega
    case rel=>exact⟨(XU),(wrap64 (uY+1)),(by first|rfl|(simp;done)|(simp[*];done)),H',⟨by have:=fV.out;omega⟩,⟨R_ mQ⟩,⟨b_ VT⟩,⟨Bq HB⟩⟩
   rw[if_neg c8]at H
   exact absurd H (by simp)
  rw[if_neg c7]at H
  have afF:decide (uY<(aC.length:Int))=false:=decide_eq_false c7
  clear c7
  obtain rfl:=Option.some.inj H
  obtain⟨aXH,aXI⟩:=bZ VT (.slice aQ aG.length aK) (.slice aT aC.length aJ)
  go_wp2
  go_ret
  exact⟨_,by first|rfl|(simp[iU,iV]<;>rfl)|(simp[*,iU,iV]<;>rfl),R_ mQ,Bq HB⟩
def pY.f (aG:List (aZ)) (aC:List (aI)):Option (Int):=if 0<=(IntKind.u64.wrap ((aC.length:Int)))then(some (wrap64 ((shl .i64 1 (IntKind.u64.wrap ((aC.length:Int)))) - 1)))else(none)
theorem pY.calls (aQ:Option Addr) (aK:Nat) (aG:List (aZ)) (aT:Option Addr) (aJ:Nat) (aC:List (aI)) (r:Int) (w:World) (jI:Kd.C iJ w aQ aG.length aG) (jU:aG.length<=aK) (jE:Kd.C iE w aT aC.length aC) (jS:aC.length<=aJ) (h:pY.f aG aC=some r):
    Calls Tryd.prog 24 #[.agg #[.slice aQ aG.length aK,.slice aT aC.length aJ]] w fun e w'=>e=.returned (.int .i64 r)/\Below w.heap.size w w':=by
 have zH:=Tryd.underlying25
 have eU:=aA.mk jI
 have fK:=aA.mk jU
 clear jI jU
 have fB:=aA.mk jE
 have fM:=aA.mk jS
 clear jE jS
 have HB:=aA.mk (Below.refl w.heap.size w)
 have H:(if 0<=(IntKind.u64.wrap ((aC.length:Int)))then(some (wrap64 ((shl .i64 1 (IntKind.u64.wrap ((aC.length:Int)))) - 1)))else(none))=some r:=h
 clear h
 obtain⟨XV,aN3⟩:∃ j_:Int,(IntKind.u64.wrap ((aC.length:Int)))=j_:=⟨_,rfl⟩
 replace H:(if 0<=(XV)then(some (wrap64 ((shl .i64 1 (XV)) - 1)))else(none))=some r:=by first|(rw[aN3]at H;exact H)|(simp only[aN3]at H ⊢;exact H)
 by_cases c3:0<=(XV)
 ·rw[if_pos c3]at H
  have WU:=eq_true c3
  have aaA:decide (0<=(XV))=true:=decide_eq_true c3
  clear c3
  obtain⟨VD,VE⟩:∃ j_:Int,(shl .i64 1 (XV))=j_:=⟨_,rfl⟩
  replace H:(some (wrap64 ((VD) - 1)))=some r:=by first|(rw[VE]at H;exact H)|(simp only[VE]at H ⊢;exact H)
  have aCX:(IntKind.i64.wrap (1*2^min (XV).toNat 64))=VD:=VE
  have aZ5:(XV)<=64->(IntKind.i64.wrap (1*2^(XV).toNat))=VD:=aTM VE
  have hji4u:(IntKind.i64.wrap (2^min (XV).toNat 64))=VD:=by have h_:=aCX;rw[Int.one_mul]at h_;exact h_
  have hji4v:(XV)<=64->(IntKind.i64.wrap (2^(XV).toNat))=VD:=fun aN4=>by have h_:=aZ5 aN4;rw[Int.one_mul]at h_;exact h_
  have hji4y:(wrap64 (1*2^min (XV).toNat 64))=VD:=(wQ _).symm.trans aCX
  have hji4x:(XV)<=64->(wrap64 (1*2^(XV).toNat))=VD:=fun h_=>(wQ _).symm.trans (aZ5 h_)
  obtain rfl:=Option.some.inj H
  go_enter Tryd.func24,Tryd.ntmps24
  go_wp2_with (first|((with_reducible refine dU (N:=1) rfl ?_);refine eX 1 #[.slice aQ aG.length aK,.slice aT aC.length aJ] 25 ?_;intro gb294 hg w5 hbox hb;have bnJ:=aA.mk (hbox);have GW294:=gw hg HB;have GE294:=gw hg HB;replace HB:=bs HB hb;clear hb hbox hg;obtain⟨afA,afB⟩:=bZ bnJ (.slice aQ aG.length aK) (.slice aT aC.length aJ)))
  go_ret
  exact⟨by first|rfl|(simp[iU,iV]<;>rfl)|(simp only[<-aN3,<-VE];first|rfl|(simp[iU,iV]<;>rfl))|(simp[*,iU,iV]<;>rfl),Bq HB⟩
 rw[if_neg c3]at H
 exact absurd H (by simp)
end Go.Proofs.YtcmfnebcmmklkaaDoor.Q
namespace Go.Proofs.YtcmfnebcmmklkaaDoor.Hand
open Go.RowKit Go.Shelf Go.Proofs.YtcmfnebcmmklkaaDoorW.dQ Go.Proofs.YtcmfnebcmmklkaaDoorW.gG
section
variable {F:Fence} {m:Nat} {P:Program} {md:Region.Mode} {ops:Array Oper} {Q:Exit->Act->World->Prop} {C:World->Prop}
def UQ (listed:Array Bool) (k:Nat):Bool:=listed.getD k false
def zU (fl:Nat->Bool) (i:Nat) (k:Nat):Bool:=k==i||fl k
theorem a0F (listed:Array Bool) {i:Nat} (h:i<listed.size):UQ (listed.setIfInBounds i true)=zU (UQ listed) i:=by
 funext k
 unfold UQ zU
 by_cases e:k=i
 ·subst e
  simp[Array.getD_eq_getD_getElem?,h]
 ·have e':¬ i=k:=fun q=>e q.symm
  simp[Array.getD_eq_getD_getElem?,Array.getElem?_setIfInBounds,e',e]
def ayB (md:Region.Mode) (ops:Array Oper) (n g:Nat) (S:List Nat) (need:Nat->List Nat):Nat->Array Bool->Bool
 |0,listed=>Region.seqB md ops g n listed&&S.all (fun i=>UQ listed i)
 |f+1,listed=> !(Region.ready md ops listed).isEmpty&&(Region.ready md ops listed).all fun i=>
   decide (i<n)&&decide (i<listed.size)&&S.contains i&& !(UQ listed i)&&(need i).all (fun k=>UQ listed k)&&ayB md ops n g S need f (listed.setIfInBounds i true)
theorem a0G {n g:Nat} {Lq:Act->World->Prop} (S:List Nat) (need:Nat->List Nat) (I:(Nat->Bool)->Act->World->Prop)
  (hstep:∀ i∈S,∀ (fl:Nat->Bool) (a:Act) (w:World),fl i=false->(∀ k∈need i,fl k=true)->C w->I fl a w->wpOpIn F m P ops Q i (fun a' w'=>C w'/\I (zU fl i) a' w') a w)
  (hfin:∀ (fl:Nat->Bool) (a:Act) (w:World),(∀ i∈S,fl i=true)->C w->I fl a w->Lq a w):
  ∀ (f:Nat) (listed:Array Bool) (a:Act) (w:World),ayB md ops n g S need f listed=true->C w->I (UQ listed) a w->
  abN F m P md ops Q C n (fun listed' a' w'=>Region.seqB md ops g n listed'=true/\Lq a' w') f listed a w
 |0,listed,a,w,hB,hC,hI=>by
  simp only[ayB,Bool.and_eq_true,List.all_eq_true]at hB
  exact⟨hB.1,hfin _ a w hB.2 hC hI⟩
 |f+1,listed,a,w,hB,hC,hI=>by
  simp only[ayB,Bool.and_eq_true,List.all_eq_true,Bool.not_eq_true',decide_eq_true_eq]at hB
  obtain⟨h0,h1⟩:=hB
  refine⟨fun e=>(by rw[e]at h0;cases h0),fun i hi=>?_⟩
  obtain⟨⟨⟨⟨⟨h2,h3⟩,h4⟩,h5⟩,h6⟩,h7⟩:=h1 i hi
  refine⟨h2,wpOpIn_mono (fun a' w' h'=>⟨h'.1,a0G S need I hstep hfin f _ a' w' h7 h'.1 (by rw[a0F listed h3];exact h'.2)⟩) (hstep i (by simpa using h4) _ a w h5 h6 hC hI)⟩
def ayC (md:Region.Mode) (ops:Array Oper) (n g:Nat) (S:List Nat) (need:Nat->List Nat):Nat->List Nat->Array Bool->Bool
 |f,[],listed=>ayB md ops n g S need f listed&&S.all (fun i=> !(UQ listed i))
 |f,i::qs,listed=>decide (0<f)&&decide (i<n)&&(Region.ready md ops listed).contains i&&Region.free md ops listed i&&ayC md ops n g S need (f - 1) qs (listed.setIfInBounds i true)
def ar4 (P:Program) (ops:Array Oper) (C:World->Prop) (Fin:Act->World->Prop):List Nat->Act->World->Prop
 |[],a,w=>Fin a w
 |i::qs,a,w=>∃ o v,ops[i]? =some o/\TZ P ops C o v a/\ar4 P ops C Fin qs (a.put o.dst v) w
theorem a0H {n g:Nat} {Lq:Act->World->Prop} (hro:rZ F ops) (hsel:Region.noSelect ops=true) (hs:Region.sinkB md ops n=true) (hc:Region.chainB md ops n=true) (hn:n<ops.size)
  (hQ:∀ c a d v w,Q (.panic c) (a.put d v) w->Q (.panic c) a w) (S:List Nat) (need:Nat->List Nat) (I:(Nat->Bool)->Act->World->Prop)
  (hstep:∀ i∈S,∀ (fl:Nat->Bool) (a:Act) (w:World),fl i=false->(∀ k∈need i,fl k=true)->C w->I fl a w->wpOpIn F m P ops Q i (fun a' w'=>C w'/\I (zU fl i) a' w') a w)
  (hfin:∀ (fl:Nat->Bool) (a:Act) (w:World),(∀ i∈S,fl i=true)->C w->I fl a w->Lq a w):
  ∀ (qs:List Nat) (f:Nat) (listed:Array Bool) (a:Act) (w:World),HeadInv md ops n listed->ayC md ops n g S need f qs listed=true->C w->
  ar4 P ops C (fun a w=>∀ fl:Nat->Bool,(∀ i∈S,fl i=false)->I fl a w) qs a w->
  abN F m P md ops Q C n (fun listed' a' w'=>Region.seqB md ops g n listed'=true/\Lq a' w') f listed a w
 |[],f,listed,a,w,inv,hB,hC,h=>by
  simp only[ayC,Bool.and_eq_true,List.all_eq_true,Bool.not_eq_true']at hB
  exact a0G S need I hstep hfin f listed a w hB.1 hC (h _ hB.2)
 |i::qs,f,listed,a,w,inv,hB,hC,h=>by
  obtain⟨o,v,ho,hy,h⟩:=h
  simp only[ayC,Bool.and_eq_true,decide_eq_true_eq]at hB
  obtain⟨⟨⟨⟨hf0,hin⟩,hr⟩,hf⟩,hB'⟩:=hB
  obtain⟨f,rfl⟩:∃ q,f=q+1:=⟨f - 1,by omega⟩
  have hr':i∈Region.ready md ops listed:=by simpa using hr
  exact aDV hro ho (Region.noSelect_spec hsel) hs hc hn hin (fun c a w=>hQ c a _ v w) (fun listed' a' w' hL=>seqB_ready hL.1) f listed a w inv (Region.free_spec ho hf) hr' hC hy
   (a0H hro hsel hs hc hn hQ S need I hstep hfin qs f _ _ w (inv.set hr' hin) hB' hC h)
def a0I (md:Region.Mode) (ops:Array Oper) (n:Nat) (qs S:List Nat) (need:Nat->List Nat):Bool:=
 Region.noSelect ops&&decide (n<ops.size)&&Region.sinkB md ops n&&Region.chainB md ops n&&ayC md ops n (ops.size - n) S need n qs (Array.replicate ops.size false)
theorem aN8 {id:Nat} {a:Act} {w:World} {l:List Oper} (n:Nat) (qs S:List Nat) (need:Nat->List Nat) (C:World->Prop) (I:(Nat->Bool)->Act->World->Prop) (hro:rZ F l.toArray) (hm:P.follows .mixedOrders=true)
  (hB:a0I .any l.toArray n qs S need=true) (hC:C w.drew)
  (hread:ar4 P l.toArray C (fun a w=>∀ fl:Nat->Bool,(∀ i∈S,fl i=false)->I fl a w) qs a w.drew)
  (hstep:∀ i∈S,∀ (fl:Nat->Bool) (a:Act) (w:World),fl i=false->(∀ k∈need i,fl k=true)->C w->I fl a w->∃ o,l.toArray[i]? =some o/\wpListIn F m P l.toArray (Exit.then (fun a' w'=>C w'/\I (zU fl i) a' w') (Qn Q)) [o] a w)
  (hfin:∀ (fl:Nat->Bool) (a:Act) (w:World),(∀ i∈S,fl i=true)->C w->I fl a w->wpListIn F m P l.toArray (Qn Q) (l.drop n) a w):(Code.region id l.toArray true).wpIn F m P Q a w:=by
 refine Code.wpIn_mono (Q:=Qn Q) (fun e a w q=>by cases e<;>first|exact q|exact q.elim) ?_
 simp only[a0I,Bool.and_eq_true,decide_eq_true_eq]at hB
 obtain⟨⟨⟨⟨hsel,hn⟩,hs⟩,hc⟩,hhead⟩:=hB
 have hn':n<l.length:=by simpa using hn
 have hdl:(l.drop n).length=l.toArray.size - n:=by simp
 have inv0:HeadInv .any l.toArray n (Array.replicate l.toArray.size false):=
  ⟨by simp,fun j oj _ hl=>(by rw[getD_replicate_false]at hl;cases hl),fun t _ ht=>getD_in (by simpa using ht) (getD_replicate_false _ _)⟩
 have H:=a0H (F:=F) (m:=m) (Q:=Qn Q) (md:=.any) (g:=l.toArray.size - n) hro hsel hs hc hn (fun _ _ _ _ _ h=>h.elim) S need I (fun i hi fl a w h1 h2 h3 h4=>by
  obtain⟨o,ho,h⟩:=hstep i hi fl a w h1 h2 h3 h4
  exact uG (Q:=Qn Q) (π:=[]) (Lq:=fun a' w'=>I (zU fl i) a' w') ho h) hfin qs n _ a w.drew inv0 hhead hC hread
 refine wpIn_region_any hm ?_
 have:=auY (Q:=Qn Q) (g:=l.toArray.size - n) (fun listed a' w' hL=>by
  have:=auZ (md:=.any) (Q':=Qn Q) (l.drop n) n listed a' w' (fun j=>by simp[List.getElem?_drop]) (by rw[hdl];exact hL.1) hL.2
  rwa [hdl]at this) _ _ _ _ H
 rw[show n+(l.toArray.size - n)=l.toArray.size by omega]at this
 exact this
theorem ar5 {Fin:Act->World->Prop} {i:Nat} {o:Oper} {qs:List Nat} {a a':Act} {w:World} {v:Value} (ho:ops[i]? =some o) (hab:∀ w,o.about P w a.eval=none) (hC:C w)
  (h:∀ K:Value->Act->Prop,K v a'->∀ w',C w'->if Region.wanted o (yielded ops a.tmps)then afP o a w' K ((execOp a.eval o).run P w')else K undef (a.put o.dst undef))
  (hn:ar4 P ops C Fin qs a' w):ar4 P ops C Fin (i::qs) a w:=
 FD (Q:=fun _ _ _=>True) (m:=0) (F:=Fence.wide) (π:=[]) (Lq:=ar4 P ops C Fin qs) ho hab hC h hn
end
end Go.Proofs.YtcmfnebcmmklkaaDoor.Hand

/- What DozenLots reaches beyond the shared texts, and its card. Part 3 of 5. -/
import Derived.Test.YtcmfnebcmmklkaaDoorLc1
import Derived.Test.YtcmfnebcmmklkaaDoorK2
import Derived.Test.YtcmfnebcmmklkaaDoorK12
import Derived.Test.YtcmfnebcmmklkaaDoorK14
import Derived.Test.YtcmfnebcmmklkaaDoorK7
import Derived.Test.YtcmfnebcmmklkaaDoorK3
import Derived.Test.YtcmfnebcmmklkaaDoorLc2
import Derived.Test.YtcmfnebcmmklkaaDoorK16
set_option linter.unusedVariables false
set_option linter.unusedSimpArgs false
set_option maxRecDepth 100000
set_option maxHeartbeats 8000000
namespace Go.Proofs.YtcmfnebcmmklkaaDoor.Q
open Go.RowKit Go.Proofs.YtcmfnebcmmklkaaDoorW.dQ Go.Proofs.YtcmfnebcmmklkaaDoorW.oU Go.Proofs.YtcmfnebcmmklkaaDoorW.gG
attribute [local go_sem] uA uB uC uD uM uN uO uP
mutual
def eG.l0:Nat->Int->Int->List (aZ)->List (aI)->Option (Bool)
  |0,_,_,_,_=>none
  |k+1,x1,x5,EP,OB=>if x5<(EP.length:Int)then(eG.l1 k x1 x5 0 EP OB)else(some true)
def eG.l1:Nat->Int->Int->Int->List (aZ)->List (aI)->Option (Bool)
  |0,_,_,_,_,_=>none
  |k+1,x1,x5,x6,EP,OB=>if x6<2 then((qI.f k EP OB x5 x1).bind fun t164=>((sJ.f EP OB x5 t164 (x6==1)).bind fun adA=>(if adA.2.2=true then(eG.l1 k x1 x5 (wrap64 (x6+1)) EP OB)else(some false))))else(eG.l0 k x1 (wrap64 (x5+1)) EP OB)
end
def eG.f (k:Nat) (aG:List (aZ)) (aC:List (aI)) (a1:Int):Option (Bool):=eG.l0 k a1 0 aG aC
def eG.T7:Bool×List (List Nat×List Nat):=(true,[([],[]),([],[]),([],[]),([],[]),([],[]),([2,3,4],[2,3,4]),([],[]),([6],[6]),([0,1,5,7,5],[0,1,5,7]),([8],[8]),([9],[9]),([9],[9]),([9],[9]),([10,8,0,1,2,3,4,5,6,7,8,9,10],[10]),([11,13,0,1,2,3,4,5,6,7,8,9,10,11,13],[11]),([12,14,0,1,2,3,4,5,6,7,8,9,10,11,12,13,14],[12])])
def eG.B7:List Nat:=[0,0,0,0,0,28,0,64,255,511,1023,1023,1023,2047,12287,32767]
theorem eG.alL:qW .any (opsOf Tryd.f23 7)=eG.T7:=by kernel_rfl
theorem eG.alM:CZ eG.T7.2 eG.B7=true:=by kernel_rfl
theorem eG.calls (k:Nat) (aQ:Option Addr) (aK:Nat) (aG:List (aZ)) (aT:Option Addr) (aJ:Nat) (aC:List (aI)) (a1:Int) (r:Bool) (w:World) (jI:Kd.C iJ w aQ aG.length aG) (jU:aG.length<=aK) (jE:Kd.C iE w aT aC.length aC) (jS:aC.length<=aJ) (h:eG.f k aG aC a1=some r):
    Calls Tryd.prog 23 #[.agg #[.slice aQ aG.length aK,.slice aT aC.length aJ],.int .i64 a1] w fun e w'=>e=.returned (.bool r)/\Below w.heap.size w w':=by
 have zH:=Tryd.underlying25
 have eU:=aA.mk jI
 have fK:=aA.mk jU
 clear jI jU
 have fB:=aA.mk jE
 have fM:=aA.mk jS
 clear jE jS
 have HB:=aA.mk (Below.refl w.heap.size w)
 have H:(eG.l0 k a1 0 aG aC)=some r:=h
 clear h
 have H':=aA.mk H
 clear H
 go_enter Tryd.func23,Tryd.ntmps23
 go_wp2_with (first|((with_reducible refine dU (N:=2) rfl ?_);refine eX 2 #[.slice aQ aG.length aK,.slice aT aC.length aJ] 25 ?_;intro OC hg w3 hbox hb;have fP:=aA.mk (hbox);have a4I:=gw hg HB;have a4J:=gw hg HB;replace HB:=bs HB hb;clear hb hbox hg))
 go_loopg [5] k (fun kq v5 w'=>∃ (bC:Int),v5=.int .i64 bC/\aA (eG.l0 kq a1 bC aG aC=some r)/\aA (kq<=k)/\aA (w'.heap[OC]? =some (.cells #[(.slice aQ aG.length aK),(.slice aT aC.length aJ)] 25 (0,0)))/\aA (Below w.heap.size w w'))
 case atStart=>exact⟨(0),(by first|rfl|(simp;done)|(simp[*];done)),H',⟨Nat.le_refl _⟩,⟨b_ fP⟩,⟨Bq HB⟩⟩
 case round=>
  clear H'
  obtain⟨bC,rfl,HA,fV,fP,HB⟩:=hrel
  rcases gk with _|k1
  ·exact absurd HA.out (by simp[eG.l0])
  have H:=HA.out
  clear HA
  simp only[eG.l0]at H
  by_cases c4:bC<(aG.length:Int)
  ·rw[if_pos c4]at H
   have yH:decide (bC<(aG.length:Int))=true:=decide_eq_true c4
   clear c4
   have H':=aA.mk H
   clear H
   obtain⟨ah0,ah1⟩:=bZ fP (.slice aQ aG.length aK) (.slice aT aC.length aJ)
   go_wp2
   go_loopg [6] k1 (fun kq v6 w'=>∃ (qJ:Int),v6=.int .i64 qJ/\aA (eG.l1 kq a1 bC qJ aG aC=some r)/\aA (kq<=k1)/\aA (w'.heap[OC]? =some (.cells #[(.slice aQ aG.length aK),(.slice aT aC.length aJ)] 25 (0,0)))/\aA (Below w.heap.size w w'))
   case atStart=>exact⟨(0),(by first|rfl|(simp;done)|(simp[*];done)),H',⟨Nat.le_refl _⟩,⟨b_ fP⟩,⟨Bq HB⟩⟩
   case round=>
    clear H'
    try clear c4
    try clear yH
    try clear ah0
    try clear ah1
    try clear auT
    try clear auU
    obtain⟨qJ,rfl,HA,mY,fP,HB⟩:=hrel
    rcases gk with _|k2
    ·exact absurd HA.out (by simp[eG.l1])
    have H:=HA.out
    clear HA
    simp only[eG.l1]at H
    by_cases c6:qJ<2
    ·rw[if_pos c6]at H
     have zJ:decide (qJ<2)=true:=decide_eq_true c6
     clear c6
     replace H:=Option.bind_eq_some_iff.mp H
     obtain⟨t164,zK,H⟩:=H
     replace H:((sJ.f aG aC bC t164 (qJ==1)).bind fun adA=>(if adA.2.2=true then(eG.l1 k2 a1 bC (wrap64 (qJ+1)) aG aC)else(some false)))=some r:=H
     have A7:=aA.mk zK
     clear zK
     replace H:=Option.bind_eq_some_iff.mp H
     obtain⟨⟨t167,t170,t173⟩,DZ,H⟩:=H
     replace H:(if t173=true then(eG.l1 k2 a1 bC (wrap64 (qJ+1)) aG aC)else(some false))=some r:=H
     have A8:=aA.mk DZ
     clear DZ
     by_cases c9:t173=true
     ·subst c9
      replace H:(eG.l1 k2 a1 bC (wrap64 (qJ+1)) aG aC)=some r:=by rw[if_pos rfl]at H;exact H
      have H':=aA.mk H
      clear H
      try go_wp2
      have aV:=aA.mk (gI fP.out)
      have aW:=aA.mk (sW HB.out)
      clear fP HB
      have fP:=aV
      have HB:=aW
      clear aV aW
      refine xP (n:=16) (S:=fun w'=>w'.cell? ⟨OC,0,none⟩=some (.slice aQ aG.length aK)/\w'.cell? ⟨OC,1,none⟩=some (.slice aT aC.length aJ)) (ds:=[]) (bl 16 0) (by kernel_rfl) rfl rfl ⟨kc fP 0,kc fP 1⟩ (fun hHeld=>?_);refine yS eG.alL eG.alM (fun aN jG=>?_)
      generalize wr.drew=w10 at fP HB hHeld ⊢
      refine pS 1 23 16 2 aN ?_
      refine pS 3 25 16 10 aN ?_
      refine pS 4 26 16 26 aN ?_
      refine pS 6 28 16 90 aN ?_
      refine pS 7 29 16 218 aN ?_
      refine tq 0 (some 22) (bl 16 219) aN jG hHeld (h:=?_)
      refine tq 2 (some 24) (bl 16 223) aN jG hHeld (h:=?_)
      refine lI (i:=5) (N:=some 27) (bl 16 255) rfl rfl (lJ aN.out (by kernel_rfl)) (by decide) (fun K hK=>?_)
      refine rD Tryd.func70 (by kernel_rfl) rfl #[.agg #[.slice aQ aG.length aK,.slice aT aC.length aJ],.int .i64 bC,.int .i64 a1] (by rfl) rfl rfl (by(try simp only[List.map_toArray,List.map_cons,List.map_nil]);first|done|rfl|(simp only[List.length_drop,List.length_take];rfl)) ?_
      with_reducible refine(qI.calls k2 _ _ aG _ _ aC bC a1 t164 _ ?jK ?jL ?jM ?jO A7.out).mono ?_
      (case jK=>exact Kd.bJ eU.out (Bq HB))
      (case jL=>exact fK.out)
      (case jM=>exact Kd.bJ fB.out (Bq HB))
      (case jO=>exact fM.out)
      rintro e vK ⟨aoU,rfl,ho0,hb⟩
      refine⟨_,rfl,?_⟩
      have aV:=aA.mk (Kd.eF ho0 (dH (Bq HB)))
      have aW:=bb fP hb
      have aY:=bs HB hb
      clear fP HB
      have kM:=aV
      have fP:=aW
      have HB:=aY
      clear aV aW aY
      (try clear hb)
      (try clear hb2)
      (try clear hk)
      (try clear hi)
      (try clear ho0)
      obtain⟨acQ,acR,alN⟩:=Kd.dA kM.out
      (first|subst alN|(injection alN with kG pF kH;have pG:=kG.symm;have pI:=kH.symm;clear kG pF kH;subst pG;subst pI))
      refine hK.out _ _ ⟨kc fP 0,kc fP 1⟩ (fun hHeld=>?_)
      clear hK K
      refine nq 27 ?_
      refine lI (i:=8) (N:=some 30) (bl 16 511) rfl rfl (lJ aN.out (by kernel_rfl)) (by decide) (fun K hK=>?_)
      refine rD Tryd.func69 (by kernel_rfl) rfl #[.agg #[.slice aQ aG.length aK,.slice aT aC.length aJ],.int .i64 bC,.slice acQ t164.length acR,.bool (qJ==1)] (by rfl) rfl rfl (by(try simp only[List.map_toArray,List.map_cons,List.map_nil]);first|done|rfl|(simp only[List.length_drop,List.length_take];rfl)) ?_
      with_reducible refine(sJ.calls _ _ aG _ _ aC bC _ _ t164 (qJ==1) t167 t170 true _ ?jK ?jL ?jM ?jO ?WB ?WC A8.out).mono ?_
      (case jK=>exact Kd.bJ eU.out (Bq HB))
      (case jL=>exact fK.out)
      (case jM=>exact Kd.bJ fB.out (Bq HB))
      (case jO=>exact fM.out)
      (case WB=>exact rC kM)
      (case WC=>exact(Kd.dB kM.out).2.1)
      rintro e tV ⟨v168,v171,rfl,ho0,ho1,hb⟩
      refine⟨_,rfl,?_⟩
      have aV:=RB kM hb
      have aW:=aA.mk (Kd.eF ho0 (dH (Bq HB)))
      have aY:=aA.mk (Kd.eF ho1 (dH (Bq HB)))
      have bI:=bb fP hb
      have cO:=bs HB hb
      clear kM fP HB
      have kM:=aV
      have tK:=aW
      have aAP:=aY
      have fP:=bI
      have HB:=cO
      clear aV aW aY bI cO
      (try clear hb)
      (try clear hb2)
      (try clear hk)
      (try clear hi)
      (try clear ho0)
      (try clear ho1)
      refine hK.out _ _ ⟨kc fP 0,kc fP 1⟩ (fun hHeld=>?_)
      clear hK K
      refine nq 30 ?_
      refine pS 9 21 16 1023 aN ?_
      refine pS 10 31 16 2047 aN ?_
      refine pS 11 32 16 4095 aN ?_
      refine pS 12 33 16 8191 aN ?_
      refine pS 13 7 16 16383 aN ?_
      refine pS 14 8 16 32767 aN ?_
      refine pS 15 9 16 65535 aN ?_
      refine xQ (yR aN.out (by kernel_rfl)) ?_
      try go_wp2
      go_roundg k2
      case measure=>have:=fV.out;have:=mY.out;omega
      case rel=>exact⟨(wrap64 (qJ+1)),(by first|rfl|(simp;done)|(simp[*];done)),H',⟨by have:=fV.out;have:=mY.out;omega⟩,⟨b_ fP⟩,⟨Bq HB⟩⟩
     replace c9:=Bool.eq_false_iff.mpr c9
     subst c9
     replace H:(some false)=some r:=by rw[if_neg (show ¬ (false=true) by decide)]at H;exact H
     obtain rfl:=Option.some.inj H
     try go_wp2
     have aV:=aA.mk (gI fP.out)
     have aW:=aA.mk (sW HB.out)
     clear fP HB
     have fP:=aV
     have HB:=aW
     clear aV aW
     refine xP (n:=16) (S:=fun w'=>w'.cell? ⟨OC,0,none⟩=some (.slice aQ aG.length aK)/\w'.cell? ⟨OC,1,none⟩=some (.slice aT aC.length aJ)) (ds:=[]) (bl 16 0) (by kernel_rfl) rfl rfl ⟨kc fP 0,kc fP 1⟩ (fun hHeld=>?_);refine yS eG.alL eG.alM (fun aN jG=>?_)
     generalize wr.drew=rU at fP HB hHeld ⊢
     refine pS 1 23 16 2 aN ?_
     refine pS 3 25 16 10 aN ?_
     refine pS 4 26 16 26 aN ?_
     refine pS 6 28 16 90 aN ?_
     refine pS 7 29 16 218 aN ?_
     refine tq 0 (some 22) (bl 16 219) aN jG hHeld (h:=?_)
     refine tq 2 (some 24) (bl 16 223) aN jG hHeld (h:=?_)
     refine lI (i:=5) (N:=some 27) (bl 16 255) rfl rfl (lJ aN.out (by kernel_rfl)) (by decide) (fun K hK=>?_)
     refine rD Tryd.func70 (by kernel_rfl) rfl #[.agg #[.slice aQ aG.length aK,.slice aT aC.length aJ],.int .i64 bC,.int .i64 a1] (by rfl) rfl rfl (by(try simp only[List.map_toArray,List.map_cons,List.map_nil]);first|done|rfl|(simp only[List.length_drop,List.length_take];rfl)) ?_
     with_reducible refine(qI.calls k2 _ _ aG _ _ aC bC a1 t164 _ ?jK ?jL ?jM ?jO A7.out).mono ?_
     (case jK=>exact Kd.bJ eU.out (Bq HB))
     (case jL=>exact fK.out)
     (case jM=>exact Kd.bJ fB.out (Bq HB))
     (case jO=>exact fM.out)
     rintro e vY ⟨aoU,rfl,ho0,hb⟩
     refine⟨_,rfl,?_⟩
     have aV:=aA.mk (Kd.eF ho0 (dH (Bq HB)))
     have aW:=bb fP hb
     have aY:=bs HB hb
     clear fP HB
     have kM:=aV
     have fP:=aW
     have HB:=aY
     clear aV aW aY
     (try clear hb)
     (try clear hb2)
     (try clear hk)
     (try clear hi)
     (try clear ho0)
     obtain⟨VL,VM,YH⟩:=Kd.dA kM.out
     (first|subst YH|(injection YH with kG pF kH;have pG:=kG.symm;have pI:=kH.symm;clear kG pF kH;subst pG;subst pI))
     refine hK.out _ _ ⟨kc fP 0,kc fP 1⟩ (fun hHeld=>?_)
     clear hK K
     refine nq 27 ?_
     refine lI (i:=8) (N:=some 30) (bl 16 511) rfl rfl (lJ aN.out (by kernel_rfl)) (by decide) (fun K hK=>?_)
     refine rD Tryd.func69 (by kernel_rfl) rfl #[.agg #[.slice aQ aG.length aK,.slice aT aC.length aJ],.int .i64 bC,.slice VL t164.length VM,.bool (qJ==1)] (by rfl) rfl rfl (by(try simp only[List.map_toArray,List.map_cons,List.map_nil]);first|done|rfl|(simp only[List.length_drop,List.length_take];rfl)) ?_
     with_reducible refine(sJ.calls _ _ aG _ _ aC bC _ _ t164 (qJ==1) t167 t170 false _ ?jK ?jL ?jM ?jO ?WB ?WC A8.out).mono ?_
     (case jK=>exact Kd.bJ eU.out (Bq HB))
     (case jL=>exact fK.out)
     (case jM=>exact Kd.bJ fB.out (Bq HB))
     (case jO=>exact fM.out)
     (case WB=>exact rC kM)
     (case WC=>exact(Kd.dB kM.out).2.1)
     rintro e uS ⟨v168,v171,rfl,ho0,ho1,hb⟩
     refine⟨_,rfl,?_⟩
     have aV:=RB kM hb
     have aW:=aA.mk (Kd.eF ho0 (dH (Bq HB)))
     have aY:=aA.mk (Kd.eF ho1 (dH (Bq HB)))
     have bI:=bb fP hb
     have cO:=bs HB hb
     clear kM fP HB
     have kM:=aV
     have tK:=aW
     have aAP:=aY
     have fP:=bI
     have HB:=cO
     clear aV aW aY bI cO
     (try clear hb)
     (try clear hb2)
     (try clear hk)
     (try clear hi)
     (try clear ho0)
     (try clear ho1)
     refine hK.out _ _ ⟨kc fP 0,kc fP 1⟩ (fun hHeld=>?_)
     clear hK K
     refine nq 30 ?_
     refine pS 9 21 16 1023 aN ?_
     refine pS 10 31 16 2047 aN ?_
     refine pS 11 32 16 4095 aN ?_
     refine pS 12 33 16 8191 aN ?_
     refine pS 13 7 16 16383 aN ?_
     refine pS 14 8 16 32767 aN ?_
     refine pS 15 9 16 65535 aN ?_
     refine xQ (yR aN.out (by kernel_rfl)) ?_
     try go_wp2
     go_ret
     exact eR HB
    rw[if_neg c6]at H
    have zJ:decide (qJ<2)=false:=decide_eq_false c6
    clear c6
    have H':=aA.mk H
    clear H
    go_wp2
    go_roundg k2
    case measure=>have:=fV.out;have:=mY.out;omega
    case rel=>exact⟨(wrap64 (bC+1)),(by first|rfl|(simp;done)|(simp[*];done)),H',⟨by have:=fV.out;have:=mY.out;omega⟩,⟨b_ fP⟩,⟨Bq HB⟩⟩
  rw[if_neg c4]at H
  have yH:decide (bC<(aG.length:Int))=false:=decide_eq_false c4
  clear c4
  obtain rfl:=Option.some.inj H
  obtain⟨OW,OX⟩:=bZ fP (.slice aQ aG.length aK) (.slice aT aC.length aJ)
  go_wp2
  go_ret
  exact eR HB
mutual
def iC.l0:Nat->Bool->List (aH)->Int->List (aZ)->List (aI)->Option ((List (aH)))
  |0,_,_,_,_,_=>none
  |k+1,x1,x5,x6,ES,TI=>if x6<(ES.length:Int)then((pY.f ES TI).bind fun t179=>((qI.f k ES TI x6 t179).bind fun t180=>((sJ.f ES TI x6 t180 x1).bind fun adL=>(if 0<=x6 then((yL.f ((dK ES x6).f0) ((dK ES x6).f1) x1).bind fun t191=>(iC.l1 k x1 x5 x6 adL.1 t191 0 ES TI (wrap64 (t191+1)) 0))else(none)))))else(some x5)
def iC.l1:Nat->Bool->List (aH)->Int->List Bool->Int->Int->List (aZ)->List (aI)->Int->Int->Option ((List (aH)))
  |0,_,_,_,_,_,_,_,_,_,_=>none
  |k+1,x1,x5,x6,x7,x10,x12,ES,TI,aoZ,ao0=>if x12<=x10 then(if 0<=x12 then(if x12<(x7.length:Int)then(if adX false x7 x12=true then(iC.l1 k x1 x5 x6 x7 x10 (wrap64 (x12+1)) ES TI (mn aoZ (wrap64 (x10 - x12))) (mx ao0 (wrap64 (x10 - x12))))else(iC.l1 k x1 x5 x6 x7 x10 (wrap64 (x12+1)) ES TI aoZ ao0))else(none))else(none))else(if x5.length<8796093022208 then(iC.l0 k x1 (x5++[(⟨aoZ,ao0⟩:aH)]) (wrap64 (x6+1)) ES TI)else(none))
end
def iC.f (k:Nat) (aG:List (aZ)) (aC:List (aI)) (a1:Bool):Option ((List (aH))):=iC.l0 k a1 (([]:List (aH))) 0 aG aC
def iC.T5:Bool×List (List Nat×List Nat):=(true,[([],[]),([],[]),([],[]),([],[]),([],[]),([4],[4]),([2,3,5,5],[2,3,5]),([],[]),([0,1,6,7,6],[0,1,6,7]),([8],[8]),([9],[9]),([9],[9]),([9],[9]),([10,8,0,1,2,3,4,5,6,7,8,9,10],[10]),([11,13,0,1,2,3,4,5,6,7,8,9,10,11,13],[11]),([12,14,0,1,2,3,4,5,6,7,8,9,10,11,12,13,14],[12])])
def iC.B5:List Nat:=[0,0,0,0,0,16,60,0,255,511,1023,1023,1023,2047,12287,32767]
theorem iC.aQZ:qW .any (opsOf Tryd.f25 5)=iC.T5:=by kernel_rfl
theorem iC.aQ0:CZ iC.T5.2 iC.B5=true:=by kernel_rfl
theorem iC.calls (k:Nat) (aQ:Option Addr) (aK:Nat) (aG:List (aZ)) (aT:Option Addr) (aJ:Nat) (aC:List (aI)) (a1:Bool) (r:List (aH)) (w:World) (jI:Kd.C iJ w aQ aG.length aG) (jU:aG.length<=aK) (jE:Kd.C iE w aT aC.length aC) (jS:aC.length<=aJ) (h:iC.f k aG aC a1=some r):
    Calls Tryd.prog 25 #[.agg #[.slice aQ aG.length aK,.slice aT aC.length aJ],.bool a1] w fun e w'=>∃ iG:Value,e=.returned (iG)/\Kd.R iD 42 w' w.heap.size (fun _=>True) iG r/\Below w.heap.size w w':=by
 have zH:=Tryd.underlying25
 have am0:=Tryd.underlying89
 have QY:=Tryd.underlying42
 have eU:=aA.mk jI
 have fK:=aA.mk jU
 clear jI jU
 have fB:=aA.mk jE
 have fM:=aA.mk jS
 clear jE jS
 have HB:=aA.mk (Below.refl w.heap.size w)
 have H:(iC.l0 k a1 (([]:List (aH))) 0 aG aC)=some r:=h
 clear h
 obtain⟨aBQ,adM⟩:∃ y_:List (aH),y_=(([]:List (aH))):=⟨_,rfl⟩
 replace H:(iC.l0 k a1 aBQ 0 aG aC)=some r:=by first|(rw[adM];with_reducible exact H)|(have dJ:=(Option.bind_some _ _).symm.trans H;rw[adM];with_reducible exact dJ)|(have dJ:=(Option.bind_some _ _).symm.trans H;with_reducible exact dJ)|with_reducible exact H|(rw[adM];exact H)|exact H
 have aBR:=aA.mk adM
 clear adM
 have H':=aA.mk H
 clear H
 go_enter Tryd.func25,Tryd.ntmps25
 go_wp2_with (first|((with_reducible refine dU (N:=2) rfl ?_);refine eX 2 #[.slice aQ aG.length aK,.slice aT aC.length aJ] 25 ?_;intro WG hg w3 hbox hb;have jC:=aA.mk (hbox);have brD:=gw hg HB;have brE:=gw hg HB;replace HB:=bs HB hb;clear hb hbox hg)|((with_reducible refine dU (N:=13) rfl ?_);refine Kd.YX iD _ 42 ?hg (N:=13) ?hd (xs:=([]:List (aH))) (inner:=[]) (ok:=fun _=>True) (lS:=fun _=>True) ?hr ?hp (fun _ hk=>hk) trivial (Below.refl _ _) (Nat.le_refl _) (by simp) ?_;(case hd=>rfl);(case hg=>rfl);(case hr=>first|(go_simp;done)|(go_simp;rfl));(case hp=>exact(gX.none _ _));intro brF w4 XY hb mF mG;clear mF mG;(first|rw[<-aBR.out]at XY|(simp only[Int.reduceToNat]at XY;rw[<-aBR.out]at XY));have aQ1:=aA.mk (Kd.eF XY (dH (Bq HB)));replace jC:=bb jC hb;replace HB:=bs HB hb;clear hb XY))
 go_loopg [5,6] k (fun kq v5 v6 w'=>∃ (bC:List (aH)) (dZ:Int),v6=.int .i64 dZ/\aA (iC.l0 kq a1 bC dZ aG aC=some r)/\aA (kq<=k)/\aA (Kd.R iD 42 w' w.heap.size (fun _=>True) v5 bC)/\aA (w'.heap[WG]? =some (.cells #[(.slice aQ aG.length aK),(.slice aT aC.length aJ)] 25 (0,0)))/\aA (Below w.heap.size w w'))
 case atStart=>exact⟨(aBQ),(0),(by first|rfl|(simp;done)|(simp[*];done)),H',⟨Nat.le_refl _⟩,⟨R_ aQ1⟩,⟨b_ jC⟩,⟨Bq HB⟩⟩
 case round=>
  clear H'
  obtain⟨bC,dZ,rfl,HA,fV,bP,jC,HB⟩:=hrel
  rcases gk with _|k1
  ·exact absurd HA.out (by simp[iC.l0])
  have H:=HA.out
  clear HA
  simp only[iC.l0]at H
  by_cases c6:dZ<(aG.length:Int)
  ·rw[if_pos c6]at H
   have zJ:decide (dZ<(aG.length:Int))=true:=decide_eq_true c6
   clear c6
   replace H:=Option.bind_eq_some_iff.mp H
   obtain⟨t179,zK,H⟩:=H
   replace H:((qI.f k1 aG aC dZ t179).bind fun t180=>((sJ.f aG aC dZ t180 a1).bind fun adL=>(if 0<=dZ then((yL.f ((dK aG dZ).f0) ((dK aG dZ).f1) a1).bind fun t191=>(iC.l1 k1 a1 bC dZ adL.1 t191 0 aG aC (wrap64 (t191+1)) 0))else(none))))=some r:=H
   have A7:=aA.mk zK
   clear zK
   replace H:=Option.bind_eq_some_iff.mp H
   obtain⟨t180,DZ,H⟩:=H
   replace H:((sJ.f aG aC dZ t180 a1).bind fun adL=>(if 0<=dZ then((yL.f ((dK aG dZ).f0) ((dK aG dZ).f1) a1).bind fun t191=>(iC.l1 k1 a1 bC dZ adL.1 t191 0 aG aC (wrap64 (t191+1)) 0))else(none)))=some r:=H
   have A8:=aA.mk DZ
   clear DZ
   replace H:=Option.bind_eq_some_iff.mp H
   obtain⟨⟨t183,t186,t189⟩,YM,H⟩:=H
   replace H:(if 0<=dZ then((yL.f ((dK aG dZ).f0) ((dK aG dZ).f1) a1).bind fun t191=>(iC.l1 k1 a1 bC dZ t183 t191 0 aG aC (wrap64 (t191+1)) 0))else(none))=some r:=H
   have A9:=aA.mk YM
   clear YM
   by_cases c10:0<=dZ
   ·rw[if_pos c10]at H
    have anN:decide (0<=dZ)=true:=decide_eq_true c10
    clear c10
    replace H:=Option.bind_eq_some_iff.mp H
    obtain⟨t191,wJ,H⟩:=H
    replace H:(iC.l1 k1 a1 bC dZ t183 t191 0 aG aC (wrap64 (t191+1)) 0)=some r:=H
    have BU:=aA.mk wJ
    clear wJ
    have H':=aA.mk H
    clear H
    obtain⟨ad6,ad7⟩:=bZ jC (.slice aQ aG.length aK) (.slice aT aC.length aJ)
    try go_wp2
    have aV:=aA.mk (Kd.dG bP.out)
    have aW:=aA.mk (gI jC.out)
    have aY:=aA.mk (sW HB.out)
    clear bP jC HB
    have bP:=aV
    have jC:=aW
    have HB:=aY
    clear aV aW aY
    refine xP (n:=16) (S:=fun w'=>w'.cell? ⟨WG,0,none⟩=some (.slice aQ aG.length aK)/\w'.cell? ⟨WG,1,none⟩=some (.slice aT aC.length aJ)) (ds:=[]) (bl 16 0) (by kernel_rfl) rfl rfl ⟨kc jC 0,kc jC 1⟩ (fun hHeld=>?_);refine yS iC.aQZ iC.aQ0 (fun aN jG=>?_)
    generalize wr.drew=tV at bP jC HB hHeld ⊢
    refine pS 1 23 16 2 aN ?_
    refine pS 3 25 16 10 aN ?_
    refine pS 7 29 16 138 aN ?_
    refine tq 0 (some 22) (bl 16 139) aN jG hHeld (h:=?_)
    refine tq 2 (some 24) (bl 16 143) aN jG hHeld (h:=?_)
    refine tq 4 (some 26) (bl 16 159) aN jG hHeld (h:=?_)
    refine lI (i:=5) (N:=some 27) (bl 16 191) rfl rfl (lJ aN.out (by kernel_rfl)) (by decide) (fun K hK=>?_)
    refine rD Tryd.func24 (by kernel_rfl) rfl #[.agg #[.slice aQ aG.length aK,.slice aT aC.length aJ]] (by rfl) rfl rfl (by(try simp only[List.map_toArray,List.map_cons,List.map_nil]);first|done|rfl|(simp only[List.length_drop,List.length_take];rfl)) ?_
    with_reducible refine(pY.calls _ _ aG _ _ aC t179 _ ?jK ?jL ?jM ?jO A7.out).mono ?_
    (case jK=>exact Kd.bJ eU.out (Bq HB))
    (case jL=>exact fK.out)
    (case jM=>exact Kd.bJ fB.out (Bq HB))
    (case jO=>exact fM.out)
    rintro e rU ⟨rfl,hb⟩
    refine⟨_,rfl,?_⟩
    have aV:=RB bP hb
    have aW:=bb jC hb
    have aY:=bs HB hb
    clear bP jC HB
    have bP:=aV
    have jC:=aW
    have HB:=aY
    clear aV aW aY
    (try clear hb)
    (try clear hb2)
    (try clear hk)
    (try clear hi)
    refine hK.out _ _ ⟨kc jC 0,kc jC 1⟩ (fun hHeld=>?_)
    clear hK K
    refine nq 27 ?_
    refine lI (i:=6) (N:=some 28) (bl 16 255) rfl rfl (lJ aN.out (by kernel_rfl)) (by decide) (fun K hK=>?_)
    refine rD Tryd.func70 (by kernel_rfl) rfl #[.agg #[.slice aQ aG.length aK,.slice aT aC.length aJ],.int .i64 dZ,.int .i64 t179] (by rfl) rfl rfl (by(try simp only[List.map_toArray,List.map_cons,List.map_nil]);first|done|rfl|(simp only[List.length_drop,List.length_take];rfl)) ?_
    with_reducible refine(qI.calls k1 _ _ aG _ _ aC dZ t179 t180 _ ?jK ?jL ?jM ?jO A8.out).mono ?_
    (case jK=>exact Kd.bJ eU.out (Bq HB))
    (case jL=>exact fK.out)
    (case jM=>exact Kd.bJ fB.out (Bq HB))
    (case jO=>exact fM.out)
    rintro e vY ⟨aQY,rfl,ho0,hb⟩
    refine⟨_,rfl,?_⟩
    have aV:=RB bP hb
    have aW:=aA.mk (Kd.eF ho0 (dH (Bq HB)))
    have aY:=bb jC hb
    have bI:=bs HB hb
    clear bP jC HB
    have bP:=aV
    have zF:=aW
    have jC:=aY
    have HB:=bI
    clear aV aW aY bI
    (try clear hb)
    (try clear hb2)
    (try clear hk)
    (try clear hi)
    (try clear ho0)
    obtain⟨VL,VM,YH⟩:=Kd.dA zF.out
    (first|subst YH|(injection YH with kG pF kH;have pG:=kG.symm;have pI:=kH.symm;clear kG pF kH;subst pG;subst pI))
    refine hK.out _ _ ⟨kc jC 0,kc jC 1⟩ (fun hHeld=>?_)
    clear hK K
    refine nq 28 ?_
    refine lI (i:=8) (N:=some 30) (bl 16 511) rfl rfl (lJ aN.out (by kernel_rfl)) (by decide) (fun K hK=>?_)
    refine rD Tryd.func69 (by kernel_rfl) rfl #[.agg #[.slice aQ aG.length aK,.slice aT aC.length aJ],.int .i64 dZ,.slice VL t180.length VM,.bool a1] (by rfl) rfl rfl (by(try simp only[List.map_toArray,List.map_cons,List.map_nil]);first|done|rfl|(simp only[List.length_drop,List.length_take];rfl)) ?_
    with_reducible refine(sJ.calls _ _ aG _ _ aC dZ _ _ t180 a1 t183 t186 t189 _ ?jK ?jL ?jM ?jO ?WB ?WC A9.out).mono ?_
    (case jK=>exact Kd.bJ eU.out (Bq HB))
    (case jL=>exact fK.out)
    (case jM=>exact Kd.bJ fB.out (Bq HB))
    (case jO=>exact fM.out)
    (case WB=>exact rC zF)
    (case WC=>exact(Kd.dB zF.out).2.1)
    rintro e uS ⟨aQ2,brG,rfl,ho0,ho1,hb⟩
    refine⟨_,rfl,?_⟩
    have aV:=aA.mk (Kd.gW (R_ bP) (Kd.fF ho1) hb)
    have aW:=RB zF hb
    have aY:=aA.mk (Kd.eF ho0 (dH (Bq HB)))
    have bI:=aA.mk (Kd.eF (Kd.fG ho1 (Kd.dY (R_ bP))) (dH (Bq HB)))
    have cO:=bb jC hb
    have gY:=bs HB hb
    clear bP zF jC HB
    have bP:=aV
    have zF:=aW
    have adN:=aY
    have agW:=bI
    have jC:=cO
    have HB:=gY
    clear aV aW aY bI cO gY
    (try clear hb)
    (try clear hb2)
    (try clear hk)
    (try clear hi)
    (try clear ho0)
    (try clear ho1)
    refine hK.out _ _ ⟨kc jC 0,kc jC 1⟩ (fun hHeld=>?_)
    clear hK K
    refine nq 30 ?_
    refine pS 9 21 16 1023 aN ?_
    refine pS 10 31 16 2047 aN ?_
    refine pS 11 32 16 4095 aN ?_
    refine pS 12 33 16 8191 aN ?_
    refine pS 13 7 16 16383 aN ?_
    refine pS 14 8 16 32767 aN ?_
    refine pS 15 9 16 65535 aN ?_
    refine xQ (yR aN.out (by kernel_rfl)) ?_
    obtain⟨OW,OX⟩:=bZ jC (.slice aQ aG.length aK) (.slice aT aC.length aJ)
    have agX:0<=(dZ:Int):=od
    have agY:dZ<(aG.length:Int):=od
    obtain⟨agZ,e190,ao1,ao2⟩:=QW eU.out dZ agX agY
    cases e190
    replace ao1:=xs HB ao1
    replace ao2:=xs HB ao2
    replace agX:=eq_true agX
    replace agY:=eq_true agY
    try go_wp2_with (first|((with_reducible refine gJ (f:=71) rfl ?_);refine cE 40 Tryd.func71 #[.agg #[.int .i64 ((dK aG dZ).f0),.int .i64 ((dK aG dZ).f1)],.bool a1] ?_;(with_reducible refine(yL.calls ((dK aG dZ).f0) ((dK aG dZ).f1) a1 t191 _ BU.out).mono ?_);rintro e xU ⟨rfl,hb⟩;refine⟨_,rfl,?_⟩;replace bP:=RB bP hb;replace zF:=RB zF hb;replace adN:=RB adN hb;replace agW:=RB agW hb;replace jC:=aA.mk (fC (g:=WG) (o:=.cells #[.slice (some agZ) aG.length aK,.slice aT aC.length aJ] 25 (0,0)) (b_ jC) hb);replace HB:=bs HB hb;(try clear hb))|((with_reducible refine dU (N:=11) rfl ?_);refine eX 11 #[.int .i64 0,.int .i64 0] 42 ?_;intro vU hg zD hbox hb;have tZ:=aA.mk (hbox);have brH:=gw hg HB;have brI:=gw hg HB;have WH:=nl hg jC;have ao3:=ng hg jC;replace bP:=aA.mk (Kd.rY (Kd.ZW (R_ bP) vU (Nat.le_of_eq hg.symm)) hb);replace zF:=RB zF hb;replace adN:=RB adN hb;replace agW:=aA.mk (Kd.rY (Kd.ZW (R_ agW) vU (Nat.le_of_eq hg.symm)) hb);replace jC:=aA.mk (fC (g:=WG) (o:=.cells #[.slice (some agZ) aG.length aK,.slice aT aC.length aJ] 25 (0,0)) (b_ jC) hb);replace HB:=bs HB hb;clear hb hbox hg;have aZI:=ao3.out;have aZJ:=WH.out;obtain⟨aFN,aFO⟩:=bZ tZ (.int .i64 0) (.int .i64 0);have aQ3:=aX tZ.out 0;have aQ4:=aX tZ.out 1))
    go_loopg [12] k1 (fun kq v12 w'=>∃ (jR:Int) (sQ:Int) (qV:Int),v12=.int .i64 jR/\aA (iC.l1 kq a1 bC dZ t183 t191 jR aG aC sQ qV=some r)/\aA (kq<=k1)/\aA (Kd.R iD 42 w' w.heap.size (fun k_=>k_≠vU) u5 bC)/\aA (Kd.R Kd.bool 4 w' w.heap.size (fun _=>True) aQ2 t183)/\aA (w'.heap[WG]? =some (.cells #[(.slice (some agZ) aG.length aK),(.slice aT aC.length aJ)] 25 (0,0)))/\aA (w'.heap[vU]? =some (.cells #[.int .i64 sQ,.int .i64 qV] 42 (0,0)))/\aA (Below w.heap.size w w'))
    case atStart=>exact⟨(0),(wrap64 (t191+1)),(0),(by first|rfl|(simp;done)|(simp[*];done)),H',⟨Nat.le_refl _⟩,⟨by(with_reducible repeat(first|apply Kd.fQ|apply Kd.fU|apply Kd.dG));exact Kd.bQ (Kd.bK (p:=⟨vU,1,none⟩) (Kd.bK (p:=⟨vU,0,none⟩) (Kd.bQ bP.out (fun k_ hk=>(⟨hk,hk.2⟩:_/\k_≠vU))) (fun _ hk=>hk.2) (.int .i64 (wrap64 (t191+1)))) (fun _ hk=>hk.2) (.int .i64 0)) (fun _ hk=>hk.1.2)⟩,⟨by(with_reducible repeat(first|apply Kd.fQ|apply Kd.fU|apply Kd.dG));exact Kd.bQ (Kd.bK (p:=⟨vU,1,none⟩) (Kd.bK (p:=⟨vU,0,none⟩) (Kd.gB adN.out tZ.out (by decide)) (fun _ hk=>hk.2) (.int .i64 (wrap64 (t191+1)))) (fun _ hk=>hk.2) (.int .i64 0)) (fun _ hk=>trivial)⟩,⟨by exact bG (bG (b_ jC) WH.out _) WH.out _⟩,⟨by exact dE (cs:=#[.int .i64 (wrap64 (t191+1)),.int .i64 0]) (dE (cs:=#[.int .i64 0,.int .i64 0]) (b_ tZ) 0 _ rfl) 1 _ rfl⟩,⟨Bq HB⟩⟩
    case round=>
     clear H'
     try clear c6
     try clear zJ
     try clear c10
     try clear anN
     try clear ad6
     try clear ad7
     try clear OW
     try clear OX
     try clear aFN
     try clear aFO
     try clear amK
     try clear amL
     try clear afD
     try clear afE
     try clear aQ3
     try clear aQ4
     try clear ao1
     try clear ao2
     try clear agX
     try clear agY
     obtain⟨jR,sQ,qV,rfl,HA,mY,bP,mQ,jC,tZ,HB⟩:=hrel
     rcases gk with _|k2
     ·exact absurd HA.out (by simp[iC.l1])
     have H:=HA.out
     clear HA
     simp only[iC.l1]at H
     by_cases c23:jR<=t191
     ·rw[if_pos c23]at H
      have aqO:decide (jR<=t191)=true:=decide_eq_true c23
      clear c23
      by_cases c24:0<=jR
      ·rw[if_pos c24]at H
       have auO:decide (0<=jR)=true:=decide_eq_true c24
       clear c24
       by_cases c25:jR<(t183.length:Int)
       ·rw[if_pos c25]at H
        have aUS:decide (jR<(t183.length:Int))=true:=decide_eq_true c25
        clear c25
        obtain⟨aBS,ao4⟩:∃ b_:Bool,b_=(adX false t183 jR):=⟨_,rfl⟩
        replace H:(if aBS=true then(iC.l1 k2 a1 bC dZ t183 t191 (wrap64 (jR+1)) aG aC (mn sQ (wrap64 (t191 - jR))) (mx qV (wrap64 (t191 - jR))))else(iC.l1 k2 a1 bC dZ t183 t191 (wrap64 (jR+1)) aG aC sQ qV))=some r:=by rw[<-ao4]at H;exact H
        have aBT:=aA.mk ao4
        clear ao4
        by_cases FC:aBS=true
        ·subst FC
         replace H:(iC.l1 k2 a1 bC dZ t183 t191 (wrap64 (jR+1)) aG aC (mn sQ (wrap64 (t191 - jR))) (mx qV (wrap64 (t191 - jR))))=some r:=by rw[if_pos rfl]at H;exact H
         obtain⟨WI,ao5⟩:∃ j_:Int,(mn sQ (wrap64 (t191 - jR)))=j_:=⟨_,rfl⟩
         replace H:(iC.l1 k2 a1 bC dZ t183 t191 (wrap64 (jR+1)) aG aC WI (mx qV (wrap64 (t191 - jR))))=some r:=by first|(rw[ao5]at H;exact H)|(simp only[ao5]at H ⊢;exact H)
         have brJ:(if(wrap64 (t191 - jR))<sQ then(wrap64 (t191 - jR))else sQ)=WI:=ao5
         obtain⟨adO,ao6⟩:∃ j_:Int,(mx qV (wrap64 (t191 - jR)))=j_:=⟨_,rfl⟩
         replace H:(iC.l1 k2 a1 bC dZ t183 t191 (wrap64 (jR+1)) aG aC WI adO)=some r:=by first|(rw[ao6]at H;exact H)|(simp only[ao6]at H ⊢;exact H)
         have brK:(if qV<(wrap64 (t191 - jR))then(wrap64 (t191 - jR))else qV)=adO:=ao6
         have H':=aA.mk H
         clear H
         obtain⟨brL,brM,rfl⟩:=Kd.dA mQ.out
         have WJ:0<=(jR:Int):=od
         have WL:jR<(t183.length:Int):=od
         obtain⟨aQ5,ao7,ao8⟩:=Kd.aCL (Kd.dB mQ.out).2.2 jR WJ WL
         (try rw[<-aBT.out]at ao8)
         cases ao7
         replace WJ:=eq_true WJ
         replace WL:=eq_true WL
         have aqI:=ao3.out
         have aqJ:=WH.out
         obtain⟨aqK,aqL⟩:=bZ tZ (.int .i64 sQ) (.int .i64 qV)
         have aDE:=aX tZ.out 0
         have aDF:=aX tZ.out 1
         go_wp2
         go_roundg k2
         case measure=>have:=fV.out;have:=mY.out;omega
         case rel=>exact⟨(wrap64 (jR+1)),(WI),(adO),(by first|rfl|(simp;done)|(simp[*];done)),H',⟨by have:=fV.out;have:=mY.out;omega⟩,⟨by(with_reducible repeat(first|apply Kd.fQ|apply Kd.fU|apply Kd.dG));exact Kd.bQ (Kd.bK (p:=⟨vU,1,none⟩) (Kd.bK (p:=⟨vU,0,none⟩) (Kd.bQ bP.out (fun k_ hk=>(⟨hk,hk⟩:_/\k_≠vU))) (fun _ hk=>hk.2) (.int .i64 WI)) (fun _ hk=>hk.2) (.int .i64 adO)) (fun _ hk=>hk.1)⟩,⟨by(with_reducible repeat(first|apply Kd.fQ|apply Kd.fU|apply Kd.dG));exact Kd.bQ (Kd.bK (p:=⟨vU,1,none⟩) (Kd.bK (p:=⟨vU,0,none⟩) (Kd.gB mQ.out tZ.out (by decide)) (fun _ hk=>hk.2) (.int .i64 WI)) (fun _ hk=>hk.2) (.int .i64 adO)) (fun _ hk=>trivial)⟩,⟨by exact bG (bG (b_ jC) WH.out _) WH.out _⟩,⟨by exact dE (cs:=#[.int .i64 WI,.int .i64 qV]) (dE (cs:=#[.int .i64 sQ,.int .i64 qV]) (b_ tZ) 0 _ rfl) 1 _ rfl⟩,⟨Bq HB⟩⟩
        replace FC:=Bool.eq_false_iff.mpr FC
        subst FC
        replace H:(iC.l1 k2 a1 bC dZ t183 t191 (wrap64 (jR+1)) aG aC sQ qV)=some r:=by rw[if_neg (show ¬ (false=true) by decide)]at H;exact H
        have H':=aA.mk H
        clear H
        obtain⟨UB,GU,rfl⟩:=Kd.dA mQ.out
        have WJ:0<=(jR:Int):=od
        have WL:jR<(t183.length:Int):=od
        obtain⟨aQ5,ao7,ao8⟩:=Kd.aCL (Kd.dB mQ.out).2.2 jR WJ WL
        (try rw[<-aBT.out]at ao8)
        cases ao7
        replace WJ:=eq_true WJ
        replace WL:=eq_true WL
        go_wp2
        go_roundg k2
        case measure=>have:=fV.out;have:=mY.out;omega
        case rel=>exact⟨(wrap64 (jR+1)),(sQ),(qV),(by first|rfl|(simp;done)|(simp[*];done)),H',⟨by have:=fV.out;have:=mY.out;omega⟩,⟨R_ bP⟩,⟨R_ mQ⟩,⟨b_ jC⟩,⟨b_ tZ⟩,⟨Bq HB⟩⟩
       rw[if_neg c25]at H
       exact absurd H (by simp)
      rw[if_neg c24]at H
      exact absurd H (by simp)
     rw[if_neg c23]at H
     have aqO:decide (jR<=t191)=false:=decide_eq_false c23
     clear c23
     by_cases c34:bC.length<8796093022208
     ·rw[if_pos c34]at H
      have aQ6:=aA.mk c34
      clear c34
      obtain⟨tJ,SB⟩:∃ y_:List (aH),y_=(bC++[(⟨sQ,qV⟩:aH)]):=⟨_,rfl⟩
      replace H:(iC.l0 k2 a1 tJ (wrap64 (dZ+1)) aG aC)=some r:=by first|(rw[SB];with_reducible exact H)|(have dJ:=(Option.bind_some _ _).symm.trans H;rw[SB];with_reducible exact dJ)|(have dJ:=(Option.bind_some _ _).symm.trans H;with_reducible exact dJ)|with_reducible exact H|(rw[SB];exact H)|exact H
      have arJ:=aA.mk SB
      clear SB
      have H':=aA.mk H
      clear H
      have a5R:=ao3.out
      have a5S:=WH.out
      obtain⟨aDI,aDJ⟩:=bZ tZ (.int .i64 sQ) (.int .i64 qV)
      have aJ7:=aX tZ.out 0
      have aJ8:=aX tZ.out 1
      go_wp2_with (first|((with_reducible refine VC (b:=.append) (xs:=#[.tmp 67,.tmp 69]) rfl ?_);at_builtin;refine Kd.WR iD (w0:=w) w.heap.size rfl (.tmp 67) (.tmp 69) 31 42 (.agg #[(.int .i64 0),(.int .i64 0)]) 16 rfl Tryd.underlying31 ad5 rfl (by decide) (by omega) u5 bC (⟨sQ,qV⟩:aH) [.int .i64 sQ,.int .i64 qV] (fun k_=>k_≠vU) (fun _=>False) rfl rfl ?aP (fun _ hk=>hk.elim) ?aF ?aO ?aB ?aS ?aL ?_;(case aP=>exact WS _ _ _ (⟨sQ,qV⟩:aH));(case aB=>exact(Bq HB));(case aF=>exact(fun k_ hk=>Kd.aIM (g:=vU) (o:=.cells #[.int .i64 sQ,.int .i64 qV] 42 (0,0)) (b_ tZ) k_ hk));(case aO=>exact(R_ bP));(case aS=>exact(dH (Bq HB)));(case aL=>have:=aQ6.out;omega);intro aM1 BO ho hb hg hat;rw[<-arJ.out]at ho;have aV:=aA.mk (Kd.mO (R_ mQ) (Kd.mM (R_ bP)) (by decide) hg);have aW:=aA.mk (oM (g:=WG) (o:=.cells #[.slice (some agZ) aG.length aK,.slice aT aC.length aJ] 25 (0,0)) (b_ jC) hg (Kd.mW bP.out jC.out (by decide)));have aY:=aA.mk (oM (g:=vU) (o:=.cells #[.int .i64 sQ,.int .i64 qV] 42 (0,0)) (b_ tZ) hg (Kd.as9 bP.out (fun _ hk=>hk)));have bI:=aA.mk (hb);have cO:=aA.mk (ho);clear mQ;clear jC;clear tZ;clear HB;clear bP;have mQ:=aV;have jC:=aW;have tZ:=aY;have HB:=bI;have aeH:=cO;clear aV aW aY bI cO;clear ho hb hg hat))
      go_roundg k2
      case measure=>have:=fV.out;have:=mY.out;omega
      case rel=>exact⟨(tJ),(wrap64 (dZ+1)),(by first|rfl|(simp;done)|(simp[*];done)),H',⟨by have:=fV.out;have:=mY.out;omega⟩,⟨Kd.bQ (R_ aeH) (fun _ hk=>trivial)⟩,⟨b_ jC⟩,⟨Bq HB⟩⟩
     rw[if_neg c34]at H
     exact absurd H (by simp)
   rw[if_neg c10]at H
   exact absurd H (by simp)
  rw[if_neg c6]at H
  have zJ:decide (dZ<(aG.length:Int))=false:=decide_eq_false c6
  clear c6
  obtain rfl:=Option.some.inj H
  obtain⟨aL4,aL5⟩:=bZ jC (.slice aQ aG.length aK) (.slice aT aC.length aJ)
  go_wp2
  go_ret
  exact⟨_,by first|rfl|(simp[iU,iV]<;>rfl)|(simp[*,iU,iV]<;>rfl),R_ bP,Bq HB⟩
mutual
def lY.l0:Nat->Bool->List (aH)->Int->List (aZ)->List (aI)->Option ((List (aH)))
  |0,_,_,_,_,_=>none
  |k+1,x1,x5,x6,al8,apG=>if x6<(al8.length:Int)then((pY.f al8 apG).bind fun t201=>((qI.f k al8 apG x6 t201).bind fun t202=>((sJ.f al8 apG x6 t202 x1).bind fun aB6=>(lY.l1 k x1 x5 x6 t202 aB6.2.1 0 al8 apG))))else(some x5)
def lY.l1:Nat->Bool->List (aH)->Int->List Int->List (aH)->Int->List (aZ)->List (aI)->Option ((List (aH)))
  |0,_,_,_,_,_,_,_,_=>none
  |k+1,x1,x5,x6,x7,x9,x11,al8,apG=>if x11<(x7.length:Int)then(if 0<=x11 then(if x11<(x9.length:Int)then(if 0<=(rd x7 x11)then(if(rd x7 x11)<(x5.length:Int)then(lY.l1 k x1 (x5.set ((rd x7 x11):Int).toNat (⟨(bM x9 x11).f0,(bM x9 x11).f1⟩:aH)) x6 x7 x9 (wrap64 (x11+1)) al8 apG)else(none))else(none))else(none))else(none))else(lY.l0 k x1 x5 (wrap64 (x6+1)) al8 apG)
end
def lY.f (k:Nat) (aG:List (aZ)) (aC:List (aI)) (a1:Bool):Option ((List (aH))):=if 0<=(aC.length:Int)then(if((aC.length:Int):Int).toNat<=17592186044416 then(lY.l0 k a1 (List.replicate ((aC.length:Int):Int).toNat z42) 0 aG aC)else(none))else(none)
def lY.T10:Bool×List (List Nat×List Nat):=(true,[([],[]),([],[]),([],[]),([1,2],[1,2]),([3],[3]),([],[]),([],[]),([5,6],[5,6]),([7],[7]),([0,4,0,1,2,3,4,5,6,7,8],[0,4]),([9,8,0,1,2,3,4,5,6,7,8],[8,9])])
def lY.B10:List Nat:=[0,0,0,6,14,0,0,96,224,511,1023]
theorem lY.bsV:qW .any (opsOf Tryd.f27 10)=lY.T10:=by kernel_rfl
theorem lY.bsW:CZ lY.T10.2 lY.B10=true:=by kernel_rfl
theorem lY.calls (k:Nat) (aQ:Option Addr) (aK:Nat) (aG:List (aZ)) (aT:Option Addr) (aJ:Nat) (aC:List (aI)) (a1:Bool) (r:List (aH)) (w:World) (jI:Kd.C iJ w aQ aG.length aG) (jU:aG.length<=aK) (jE:Kd.C iE w aT aC.length aC) (jS:aC.length<=aJ) (h:lY.f k aG aC a1=some r):
    Calls Tryd.prog 27 #[.agg #[.slice aQ aG.length aK,.slice aT aC.length aJ],.bool a1] w fun e w'=>∃ iG:Value,e=.returned (iG)/\Kd.R iD 42 w' w.heap.size (fun _=>True) iG r/\Below w.heap.size w w':=by
 have zH:=Tryd.underlying25
 have QY:=Tryd.underlying42
 have eU:=aA.mk jI
 have fK:=aA.mk jU
 clear jI jU
 have fB:=aA.mk jE
 have fM:=aA.mk jS
 clear jE jS
 have HB:=aA.mk (Below.refl w.heap.size w)
 have H:(if 0<=(aC.length:Int)then(if((aC.length:Int):Int).toNat<=17592186044416 then(lY.l0 k a1 (List.replicate ((aC.length:Int):Int).toNat z42) 0 aG aC)else(none))else(none))=some r:=h
 clear h
 by_cases c3:0<=(aC.length:Int)
 ·rw[if_pos c3]at H
  have WU:=eq_true c3
  have aaA:decide (0<=(aC.length:Int))=true:=decide_eq_true c3
  clear c3
  by_cases c4:((aC.length:Int):Int).toNat<=17592186044416
  ·rw[if_pos c4]at H
   have yH:=eq_true c4
   have aq1:decide (((aC.length:Int):Int).toNat<=17592186044416)=true:=decide_eq_true c4
   clear c4
   obtain⟨a6S,aB7⟩:∃ y_:List (aH),y_=(List.replicate ((aC.length:Int):Int).toNat z42):=⟨_,rfl⟩
   replace H:(lY.l0 k a1 a6S 0 aG aC)=some r:=by first|(rw[aB7];with_reducible exact H)|(have dJ:=(Option.bind_some _ _).symm.trans H;rw[aB7];with_reducible exact dJ)|(have dJ:=(Option.bind_some _ _).symm.trans H;with_reducible exact dJ)|with_reducible exact H|(rw[aB7];exact H)|exact H
   have a6T:=aA.mk aB7
   clear aB7
   have H':=aA.mk H
   clear H
   go_enter Tryd.func27,Tryd.ntmps27
   go_wp2_with (first|((with_reducible refine dU (N:=2) rfl ?_);refine eX 2 #[.slice aQ aG.length aK,.slice aT aC.length aJ] 25 ?_;intro aHQ hg w5 hbox hb;have uZ:=aA.mk (hbox);have GW197:=gw hg HB;have GE197:=gw hg HB;replace HB:=bs HB hb;clear hb hbox hg;obtain⟨afA,afB⟩:=bZ uZ (.slice aQ aG.length aK) (.slice aT aC.length aJ))|((with_reducible refine dU (N:=15) rfl ?_);refine Kd.aS6 iD _ 42 rfl (N:=15) rfl 31 _ _ rfl (aC.length:Int) rfl rfl Tryd.underlying31 (.agg #[(.int .i64 0),(.int .i64 0)]) 16 ad5 rfl (by decide) (by omega) z42 (ok:=fun _=>True) (lS:=fun _=>True) (WS _ _ _ z42) (fun _ hk=>hk) trivial (od) (Nat.le_trans (Nat.mul_le_mul_right _ (od:(aC.length:Int).toNat<=17592186044416)) (by omega)) (Below.refl _ _) (Nat.le_refl _) ?_;intro aR0 w7 sN hb mF mG;clear mF mG;(first|rw[<-a6T.out]at sN|(simp only[Int.reduceToNat]at sN;rw[<-a6T.out]at sN));have bsX:=aA.mk (Kd.eF sN (dH (Bq HB)));replace uZ:=bb uZ hb;replace HB:=bs HB hb;clear hb sN))
   go_loopg [6] k (fun kq v6 w'=>∃ (bC:List (aH)) (dZ:Int),v6=.int .i64 dZ/\aA (lY.l0 kq a1 bC dZ aG aC=some r)/\aA (kq<=k)/\aA (Kd.R iD 42 w' w.heap.size (fun _=>True) aR0 bC)/\aA (w'.heap[aHQ]? =some (.cells #[(.slice aQ aG.length aK),(.slice aT aC.length aJ)] 25 (0,0)))/\aA (Below w.heap.size w w'))
   case atStart=>exact⟨(a6S),(0),(by first|rfl|(simp;done)|(simp[*];done)),H',⟨Nat.le_refl _⟩,⟨R_ bsX⟩,⟨b_ uZ⟩,⟨Bq HB⟩⟩
   case round=>
    clear H'
    try clear c3
    try clear WU
    try clear aaA
    try clear c4
    try clear yH
    try clear aq1
    try clear afA
    try clear afB
    try clear aDR
    try clear aDS
    obtain⟨bC,dZ,rfl,HA,fV,bP,uZ,HB⟩:=hrel
    rcases gk with _|k1
    ·exact absurd HA.out (by simp[lY.l0])
    have H:=HA.out
    clear HA
    simp only[lY.l0]at H
    by_cases c9:dZ<(aG.length:Int)
    ·rw[if_pos c9]at H
     have QC:decide (dZ<(aG.length:Int))=true:=decide_eq_true c9
     clear c9
     replace H:=Option.bind_eq_some_iff.mp H
     obtain⟨t201,alX,H⟩:=H
     replace H:((qI.f k1 aG aC dZ t201).bind fun t202=>((sJ.f aG aC dZ t202 a1).bind fun aB6=>(lY.l1 k1 a1 bC dZ t202 aB6.2.1 0 aG aC)))=some r:=H
     have A10:=aA.mk alX
     clear alX
     replace H:=Option.bind_eq_some_iff.mp H
     obtain⟨t202,wJ,H⟩:=H
     replace H:((sJ.f aG aC dZ t202 a1).bind fun aB6=>(lY.l1 k1 a1 bC dZ t202 aB6.2.1 0 aG aC))=some r:=H
     have BU:=aA.mk wJ
     clear wJ
     replace H:=Option.bind_eq_some_iff.mp H
     obtain⟨⟨t205,t208,t211⟩,adJ,H⟩:=H
     replace H:(lY.l1 k1 a1 bC dZ t202 t208 0 aG aC)=some r:=H
     have A12:=aA.mk adJ
     clear adJ
     have H':=aA.mk H
     clear H
     obtain⟨aqB,aqC⟩:=bZ uZ (.slice aQ aG.length aK) (.slice aT aC.length aJ)
     try go_wp2
     have aV:=aA.mk (Kd.dG bP.out)
     have aW:=aA.mk (gI uZ.out)
     have aY:=aA.mk (sW HB.out)
     clear bP uZ HB
     have bP:=aV
     have uZ:=aW
     have HB:=aY
     clear aV aW aY
     refine xP (n:=6) (S:=fun w'=>w'.cell? ⟨aHQ,0,none⟩=some (.slice aQ aG.length aK)/\w'.cell? ⟨aHQ,1,none⟩=some (.slice aT aC.length aJ)) (ds:=[]) (bl 6 0) (by kernel_rfl) rfl rfl ⟨kc uZ 0,kc uZ 1⟩ (fun hHeld=>?_)
     generalize wr.drew=rU at bP uZ HB hHeld ⊢
     refine ap1 (i:=1) (N:=some 24) (v:=?_) (a':=?_) (bl 6 2) rfl rfl (by kernel_rfl) (fun _ _ _ h=>h) (Or.inl ⟨by rfl,?_⟩) ?_ ?_
     rotate_left
     ·intro w'
      go_simp
      with_reducible rfl
     rotate_left
     ·simp only[Act.put,List.setIfInBounds_toArray,List.set_cons_zero,List.set_cons_succ,wQ,yQ]
      rfl
     refine amE (i:=0) (N:=some 23) (v:=?_) (a':=?_) (bl 6 3) rfl rfl (by kernel_rfl) (fun _ _ _ h=>h) (Or.inl ⟨by rfl,?_⟩) hHeld ?_ ?_
     rotate_left
     ·rintro w' ⟨s0,s1⟩
      go_simp
      with_reducible rfl
     rotate_left
     ·simp only[Act.put,List.setIfInBounds_toArray,List.set_cons_zero,List.set_cons_succ,wQ,yQ]
      rfl
     refine amE (i:=2) (N:=some 25) (v:=?_) (a':=?_) (bl 6 7) rfl rfl (by kernel_rfl) (fun _ _ _ h=>h) (Or.inl ⟨by rfl,?_⟩) hHeld ?_ ?_
     rotate_left
     ·rintro w' ⟨s0,s1⟩
      go_simp
      with_reducible rfl
     rotate_left
     ·simp only[Act.put,List.setIfInBounds_toArray,List.set_cons_zero,List.set_cons_succ,wQ,yQ]
      rfl
     refine lI (i:=3) (N:=some 26) (bl 6 15) rfl rfl (by kernel_rfl) (by decide) (fun K hK=>?_)
     refine rD Tryd.func24 (by kernel_rfl) rfl #[.agg #[.slice aQ aG.length aK,.slice aT aC.length aJ]] (by rfl) rfl rfl (by(try simp only[List.map_toArray,List.map_cons,List.map_nil]);first|done|rfl|(simp only[List.length_drop,List.length_take];rfl)) ?_
     with_reducible refine(pY.calls _ _ aG _ _ aC t201 _ ?jK ?jL ?jM ?jO A10.out).mono ?_
     (case jK=>exact Kd.bJ eU.out (Bq HB))
     (case jL=>exact fK.out)
     (case jM=>exact Kd.bJ fB.out (Bq HB))
     (case jO=>exact fM.out)
     rintro e vY ⟨rfl,hb⟩
     refine⟨_,rfl,?_⟩
     have aV:=RB bP hb
     have aW:=bb uZ hb
     have aY:=bs HB hb
     clear bP uZ HB
     have bP:=aV
     have uZ:=aW
     have HB:=aY
     clear aV aW aY
     (try clear hb)
     (try clear hb2)
     (try clear hk)
     (try clear hi)
     refine hK.out _ _ ⟨kc uZ 0,kc uZ 1⟩ (fun hHeld=>?_)
     clear hK K
     refine nq 26 ?_
     refine lI (i:=4) (N:=some 27) (bl 6 31) rfl rfl (by kernel_rfl) (by decide) (fun K hK=>?_)
     refine rD Tryd.func70 (by kernel_rfl) rfl #[.agg #[.slice aQ aG.length aK,.slice aT aC.length aJ],.int .i64 dZ,.int .i64 t201] (by rfl) rfl rfl (by(try simp only[List.map_toArray,List.map_cons,List.map_nil]);first|done|rfl|(simp only[List.length_drop,List.length_take];rfl)) ?_
     with_reducible refine(qI.calls k1 _ _ aG _ _ aC dZ t201 t202 _ ?jK ?jL ?jM ?jO BU.out).mono ?_
     (case jK=>exact Kd.bJ eU.out (Bq HB))
     (case jL=>exact fK.out)
     (case jM=>exact Kd.bJ fB.out (Bq HB))
     (case jO=>exact fM.out)
     rintro e w16 ⟨v203,rfl,ho0,hb⟩
     refine⟨_,rfl,?_⟩
     have aV:=RB bP hb
     have aW:=aA.mk (Kd.eF ho0 (dH (Bq HB)))
     have aY:=bb uZ hb
     have bI:=bs HB hb
     clear bP uZ HB
     have bP:=aV
     have as4:=aW
     have uZ:=aY
     have HB:=bI
     clear aV aW aY bI
     (try clear hb)
     (try clear hb2)
     (try clear hk)
     (try clear hi)
     (try clear ho0)
     refine hK.out _ _ ⟨kc uZ 0,kc uZ 1⟩ (fun hHeld=>?_)
     clear hK K
     refine nq 27 ?_
     refine ap1 (i:=5) (N:=some 7) (v:=?_) (a':=?_) (bl 6 63) rfl rfl (by kernel_rfl) (fun _ _ _ h=>h) (Or.inl ⟨by rfl,?_⟩) ?_ ?_
     rotate_left
     ·intro w'
      go_simp
      with_reducible rfl
     rotate_left
     ·simp only[Act.put,List.setIfInBounds_toArray,List.set_cons_zero,List.set_cons_succ,wQ,yQ]
      rfl
     refine xQ (by kernel_rfl) ?_
     obtain⟨avH,avI⟩:=bZ uZ (.slice aQ aG.length aK) (.slice aT aC.length aJ)
     obtain⟨aOF,aOG,rfl⟩:=Kd.dA as4.out
     try go_wp2_with (first|((with_reducible refine gJ (f:=69) rfl ?_);refine cE 33 Tryd.func69 #[.agg #[.slice aQ aG.length aK,.slice aT aC.length aJ],.int .i64 dZ,.slice aOF t202.length aOG,.bool a1] ?_;refine(sJ.calls _ _ aG _ _ aC dZ _ _ t202 a1 t205 t208 t211 _ (Kd.bJ eU.out (Bq HB)) fK.out (Kd.bJ fB.out (Bq HB)) fM.out (rC as4) ((Kd.dB as4.out).2.1) A12.out).mono ?_;rintro e xU ⟨v206,aR1,rfl,ho0,ho1,hb⟩;refine⟨_,rfl,?_⟩;have HO207:=aA.mk (Kd.eF ho0 (dH (Bq HB)));have wI:=aA.mk (Kd.eF (Kd.fG ho1 (Kd.dY (R_ bP))) (dH (Bq HB)));replace bP:=aA.mk (Kd.gW (R_ bP) (Kd.fF ho1) hb);replace as4:=RB as4 hb;replace uZ:=bb uZ hb;replace HB:=bs HB hb;(try clear hb);(try clear ho0);(try clear ho1)))
     go_loopg [11] k1 (fun kq v11 w'=>∃ (qE:List (aH)) (nS:Int),v11=.int .i64 nS/\aA (lY.l1 kq a1 qE dZ t202 t208 nS aG aC=some r)/\aA (kq<=k1)/\aA (Kd.R iD 42 w' w.heap.size (fun k_=>some k_≠(aR1:Value).ownBlock) aR0 qE)/\aA (Kd.R (Kd.int .i64) 3 w' w.heap.size (fun _=>True) (.slice aOF t202.length aOG) t202)/\aA (Kd.R iD 42 w' w.heap.size (fun k_=>some k_≠(aR0:Value).ownBlock) aR1 t208)/\aA (w'.heap[aHQ]? =some (.cells #[(.slice aQ aG.length aK),(.slice aT aC.length aJ)] 25 (0,0)))/\aA (Below w.heap.size w w'))
     case atStart=>exact⟨(bC),(0),(by first|rfl|(simp;done)|(simp[*];done)),H',⟨Nat.le_refl _⟩,⟨Kd.bQ (R_ bP) (fun _ hk=>hk.2)⟩,⟨R_ as4⟩,⟨Kd.bQ (R_ wI) (fun _ hk=>hk.2)⟩,⟨b_ uZ⟩,⟨Bq HB⟩⟩
     case round=>
      clear H'
      try clear c9
      try clear QC
      try clear aqB
      try clear aqC
      try clear avH
      try clear avI
      try clear aCZ
      try clear aC0
      try clear bgP
      try clear bgQ
      obtain⟨qE,nS,rfl,HA,mY,bP,mQ,dX,uZ,HB⟩:=hrel
      rcases gk with _|k2
      ·exact absurd HA.out (by simp[lY.l1])
      have H:=HA.out
      clear HA
      simp only[lY.l1]at H
      by_cases c20:nS<(t202.length:Int)
      ·rw[if_pos c20]at H
       have arX:decide (nS<(t202.length:Int))=true:=decide_eq_true c20
       clear c20
       by_cases c21:0<=nS
       ·rw[if_pos c21]at H
        have aKG:decide (0<=nS)=true:=decide_eq_true c21
        clear c21
        by_cases OY:nS<(t208.length:Int)
        ·rw[if_pos OY]at H
         have aUR:decide (nS<(t208.length:Int))=true:=decide_eq_true OY
         clear OY
         by_cases c23:0<=(rd t202 nS)
         ·rw[if_pos c23]at H
          have aqO:decide (0<=(rd t202 nS))=true:=decide_eq_true c23
          clear c23
          by_cases c24:(rd t202 nS)<(qE.length:Int)
          ·rw[if_pos c24]at H
           have auO:decide ((rd t202 nS)<(qE.length:Int))=true:=decide_eq_true c24
           clear c24
           obtain⟨a6U,aB8⟩:∃ y_:List (aH),y_=(qE.set ((rd t202 nS):Int).toNat (⟨(bM t208 nS).f0,(bM t208 nS).f1⟩:aH)):=⟨_,rfl⟩
           replace H:(lY.l1 k2 a1 a6U dZ t202 t208 (wrap64 (nS+1)) aG aC)=some r:=by first|(rw[aB8];with_reducible exact H)|(have dJ:=(Option.bind_some _ _).symm.trans H;rw[aB8];with_reducible exact dJ)|(have dJ:=(Option.bind_some _ _).symm.trans H;with_reducible exact dJ)|with_reducible exact H|(rw[aB8];exact H)|exact H
           have bsY:=aA.mk aB8
           clear aB8
           have H':=aA.mk H
           clear H
           try go_wp2
           have aV:=aA.mk (Kd.dG bP.out)
           have aW:=aA.mk (Kd.dG mQ.out)
           have aY:=aA.mk (Kd.dG dX.out)
           have bI:=aA.mk (gI uZ.out)
           have cO:=aA.mk (sW HB.out)
           clear bP mQ dX uZ HB
           have bP:=aV
           have mQ:=aW
           have dX:=aY
           have uZ:=bI
           have HB:=cO
           clear aV aW aY bI cO
           have aR2:0<=(nS:Int):=od
           have aR3:nS<(t202.length:Int):=od
           obtain⟨bsZ,e212,a6V⟩:=Kd.BL (Kd.dB mQ.out).2.2 nS aR2 aR3
           cases e212
           replace aR2:=eq_true aR2
           replace aR3:=eq_true aR3
           obtain⟨br1,br2,aB0⟩:=Kd.dA dX.out
           (first|subst aB0|(injection aB0 with kG pF kH;have pG:=kG.symm;have pI:=kH.symm;clear kG pF kH;subst pG;subst pI))
           have aR4:0<=(nS:Int):=od
           have aR5:nS<(t208.length:Int):=od
           obtain⟨aR6,e213,a6W,a6X⟩:=rE (Kd.dB dX.out).2.2 nS aR4 aR5
           cases e213
           replace aR4:=eq_true aR4
           replace aR5:=eq_true aR5
           have p25:0<=((rd t202 nS):Int):=od
           have q25:((rd t202 nS):Int)<((qE.length:Int):Int):=od
           obtain⟨ag3,br0,a6Y,a6Z,bs0,cl25,a7A⟩:=Kd.aS4 bP.out (by omega)
           (first|cases a6Y|(injection a6Y with ea_ en_ ec_;(first|subst ea_|(injection ea_ with ea_;subst ea_));subst ec_;clear en_))
           have GB25:=aA.mk a6Z
           have a7B:=aA.mk a7A
           clear a6Z bs0 a7A
           obtain⟨ce25,bs1,a7C,aR8,aR9⟩:=Kd.atB bP.out z42 ((rd t202 nS):Int) p25 q25
           obtain rfl:=aCW a7C
           have bs2:World.cell? _ ⟨ag3,((rd t202 nS):Int).toNat*2,none⟩=some (.int .i64 ((bM qE (rd t202 nS)).f0)):=aR8 0 _ rfl
           have bs4:World.cell? _ ⟨ag3,((rd t202 nS):Int).toNat*2+1,none⟩=some (.int .i64 ((bM qE (rd t202 nS)).f1)):=aR8 1 _ rfl
           have bs6:World.frozen? _ ⟨ag3,((rd t202 nS):Int).toNat*2,none⟩=false:=aR9 0
           have bs7:World.frozen? _ ⟨ag3,((rd t202 nS):Int).toNat*2+1,none⟩=false:=aR9 1
           clear bs1 aR8 aR9 a7C
           replace p25:=eq_true p25
           replace q25:=eq_true q25
           obtain⟨ce28,a7D,a7E,a7F,bs8⟩:=Kd.atB bP.out z42 ((rd t202 nS):Int) (od) (by have h_:((rd t202 nS):Int)<((qE.length:Int):Int):=od;first|exact h_|(have e_:=(Kd.dB bP.out).1;omega)|simpa using h_)
           obtain rfl:=aCW a7E
           have aSA:=(Kd.aTB bP.out ((rd t202 nS):Int) (od) (by have h_:((rd t202 nS):Int)<((qE.length:Int):Int):=od;first|exact h_|(have e_:=(Kd.dB bP.out).1;omega)|simpa using h_) (vV:=[.int .i64 ((bM t208 nS).f0),.int .i64 ((bM t208 nS).f1)]) (j:=0) a7D a7F (show 2<=2 from by decide) (x':=(⟨(bM t208 nS).f0,(bM t208 nS).f1⟩:aH)) (WS _ _ _ (⟨(bM t208 nS).f0,(bM t208 nS).f1⟩:aH)) (fun _ hk=>hk)).1
           rw[<-bsY.out]at aSA
           have a7G:=aA.mk aSA
           clear a7D a7F bs8 a7E aSA
           refine xP (n:=11) (S:=fun w'=>w'.cell? (bsZ.add (nS).toNat)=some (.int .i64 (rd t202 nS))/\w'.cell? (aR6.add ((nS).toNat*2))=some (.int .i64 ((bM t208 nS).f0))/\w'.cell? ⟨(aR6.add ((nS).toNat*2)).block,(aR6.add ((nS).toNat*2)).off+1,none⟩=some (.int .i64 ((bM t208 nS).f1))) (ds:=[10]) (bl 11 0) (by kernel_rfl) rfl rfl ⟨a6V,a6W,a6X⟩ (fun hHeld=>?_);refine yS lY.bsV lY.bsW (fun aN jG=>?_)
           generalize wr.drew=xN at bP mQ dX uZ HB a7B a7G bs6 bs7 a6V a6W a6X bs2 bs4 hHeld ⊢
           refine pS 0 43 11 1 aN ?_
           refine pS 1 44 11 3 aN ?_
           refine pS 2 45 11 7 aN ?_
           refine pS 3 46 11 15 aN ?_
           refine pS 5 48 11 47 aN ?_
           refine pS 6 49 11 111 aN ?_
           refine pS 7 50 11 239 aN ?_
           refine tq 4 (some 47) (bl 11 255) aN jG hHeld (h:=?_)
           refine tq 8 (some 51) (bl 11 511) aN jG hHeld (h:=?_)
           refine pS 9 52 11 1023 aN ?_
           refine aCO (i:=10) (N:=none) (bl 11 2047) rfl rfl (lJ aN.out (by kernel_rfl)) (by decide) (fun K hK=>?_)
           refine ahB (w1:=?_) (by rfl) rfl ?_ ?_
           rotate_left
           ·go_simp
            rfl
           refine hK.out _ _ ?_
           clear hK K
           refine xQ (yR aN.out (by kernel_rfl)) ?_
           try go_wp2
           go_roundg k2
           case measure=>have:=fV.out;have:=mY.out;omega
           case rel=>exact⟨(a6U),(wrap64 (nS+1)),(by first|rfl|(simp;done)|(simp[*];done)),H',⟨by have:=fV.out;have:=mY.out;omega⟩,⟨a7G.out⟩,⟨by(with_reducible repeat(first|apply Kd.fQ|apply Kd.fU|apply Kd.dG));exact Kd.bQ (Kd.bK (p:=⟨ag3,((rd t202 nS):Int).toNat*2+1,none⟩) (Kd.bK (p:=⟨ag3,((rd t202 nS):Int).toNat*2,none⟩) (Kd.gB mQ.out a7B.out (by decide)) (fun _ hk=>hk.2) (.int .i64 ((bM t208 nS).f0))) (fun _ hk=>hk.2) (.int .i64 ((bM t208 nS).f1))) (fun _ hk=>trivial)⟩,⟨by(with_reducible repeat(first|apply Kd.fQ|apply Kd.fU|apply Kd.dG));exact Kd.bQ (Kd.bK (p:=⟨ag3,((rd t202 nS):Int).toNat*2+1,none⟩) (Kd.bK (p:=⟨ag3,((rd t202 nS):Int).toNat*2,none⟩) (Kd.bQ dX.out (fun k_ hk=>(⟨hk,fun e_=>hk (by rw[e_];rfl)⟩:_/\k_≠ag3))) (fun _ hk=>hk.2) (.int .i64 ((bM t208 nS).f0))) (fun _ hk=>hk.2) (.int .i64 ((bM t208 nS).f1))) (fun _ hk=>hk.1)⟩,⟨by(with_reducible repeat(first|refine mZ ?_ _|refine gI ?_|refine kK ?_ _));refine bG ?_ (by have h_:=Kd.mW bP.out uZ.out (by decide);intro e_;exact h_ (by rw[e_];rfl)) _;(with_reducible repeat(first|refine mZ ?_ _|refine gI ?_|refine kK ?_ _));refine bG ?_ (by have h_:=Kd.mW bP.out uZ.out (by decide);intro e_;exact h_ (by rw[e_];rfl)) _;(with_reducible repeat(first|refine mZ ?_ _|refine gI ?_|refine kK ?_ _));exact uZ.out⟩,⟨Bq HB⟩⟩
          rw[if_neg c24]at H
          exact absurd H (by simp)
         rw[if_neg c23]at H
         exact absurd H (by simp)
        rw[if_neg OY]at H
        exact absurd H (by simp)
       rw[if_neg c21]at H
       exact absurd H (by simp)
      rw[if_neg c20]at H
      have arX:decide (nS<(t202.length:Int))=false:=decide_eq_false c20
      clear c20
      have H':=aA.mk H
      clear H
      go_wp2
      go_roundg k2
      case measure=>have:=fV.out;have:=mY.out;omega
      case rel=>exact⟨(qE),(wrap64 (dZ+1)),(by first|rfl|(simp;done)|(simp[*];done)),H',⟨by have:=fV.out;have:=mY.out;omega⟩,⟨Kd.bQ (R_ bP) (fun _ hk=>trivial)⟩,⟨b_ uZ⟩,⟨Bq HB⟩⟩
    rw[if_neg c9]at H
    have QC:decide (dZ<(aG.length:Int))=false:=decide_eq_false c9
    clear c9
    obtain rfl:=Option.some.inj H
    obtain⟨aqG,aqH⟩:=bZ uZ (.slice aQ aG.length aK) (.slice aT aC.length aJ)
    go_wp2
    go_ret
    exact⟨_,by first|rfl|(simp[iU,iV]<;>rfl)|(simp[*,iU,iV]<;>rfl),R_ bP,Bq HB⟩
  rw[if_neg c4]at H
  exact absurd H (by simp)
 rw[if_neg c3]at H
 exact absurd H (by simp)
end Go.Proofs.YtcmfnebcmmklkaaDoor.Q
namespace Go.Proofs.YtcmfnebcmmklkaaDoor.Hand
open Go.RowKit Go.Shelf Go.Proofs.YtcmfnebcmmklkaaDoorW.dQ Go.Proofs.YtcmfnebcmmklkaaDoorW.gG Go.Proofs.YtcmfnebcmmklkaaDoor.Q
theorem YI {M:Nat} {lt lt':Nat->Lt}:∀ i,(∀ j,j<i->lt j=lt' j)->rowB M lt i=rowB M lt' i
 |0,_=>rfl
 |i+1,h=>by rw[rowB,rowB,YI i (fun j hj=>h j (by omega)),h i (by omega)]
theorem alO {M:Nat} {lt lt':Nat->Lt} {n:Nat} (h:∀ j,j<n->lt j=lt' j):∀ d,d<=n->GZ M lt n d=GZ M lt' n d
 |0,_=>by rw[GZ,GZ,YI n h]
 |d+1,hd=>by rw[GZ,GZ,alO h d (by omega),h _ (by omega),YI _ (fun j hj=>h j (by omega))]
theorem alP {M:Nat} {lt lt':Nat->Lt} {n:Nat} (h:∀ j,j<n->lt j=lt' j) (i:Nat):lG M lt n i=lG M lt' n i:=alO h _ (by omega)
def lU (ls:List aI) (o:Int) (t n:Nat):List Int:=(List.range n).filterMap fun(i:Nat)=>if(aU ls i).f0=o/\t.testBit i=true then some (i:Int)else none
theorem alQ (ls:List aI) (o:Int) (t n:Nat):lU ls o t (n+1)=lU ls o t n++(if(aU ls n).f0=o/\t.testBit n=true then[(n:Int)]else[]):=by
 unfold lU
 rw[List.range_succ,List.filterMap_append]
 congr 1
 simp only[List.filterMap_cons,List.filterMap_nil]
 by_cases h:(aU ls n).f0=o/\t.testBit n=true
 ·rw[if_pos h,if_pos h]
 ·rw[if_neg h,if_neg h]
theorem alR (ls:List aI) (o:Int) (t n:Nat):(lU ls o t n).length<=n:=by
 unfold lU
 exact Nat.le_trans (List.length_filterMap_le _ _) (by simp)
theorem aAQ {ls:List aI} {o:Int} {t n:Nat} {x:Int} (h:x∈lU ls o t n):0<=x/\x<n:=by
 unfold lU at h
 obtain⟨i,h1,h2⟩:=List.mem_filterMap.1 h
 split at h2
 ·have:=List.mem_range.1 h1
  obtain rfl:=Option.some.inj h2
  omega
 ·cases h2
theorem aaY (sd:aI->aH) (ls:List aI) (o:Int) {s t:Nat}:∀ n,(∀ i,i<n->t.testBit i= !s.testBit i)->kZ sd ls o s n=(lU ls o t n).map fun(i:Int)=>⟨sd (aU ls i),i,(aU ls i).f3⟩
 |0,_=>rfl
 |n+1,h=>by
  rw[awR,alQ,List.map_append,aaY sd ls o n (fun i hi=>h i (by omega))]
  congr 1
  have hb:=h n (by omega)
  by_cases h1:(aU ls n).f0=o/\s.testBit n=false
  ·rw[if_pos h1,if_pos ⟨h1.1,by rw[hb,h1.2];rfl⟩]
   rfl
  ·rw[if_neg h1,if_neg (fun hh=>h1 ⟨hh.1,by have:=hh.2;rw[hb]at this;simpa using this⟩)]
   rfl
theorem YJ {l:List Int} {i:Nat} (h:i<l.length):rd l (i:Int)=l[i]:=by
 unfold rd
 rw[Int.toNat_natCast]
 simp[List.getD_eq_getElem?_getD,h]
theorem aAR (r:Bool) (ls:List aI) (o:Int) {s t:Nat} (h:∀ i,i<ls.length->t.testBit i= !s.testBit i):∀ i,i<(lU ls o t ls.length).length->dO r ls (lU ls o t ls.length) i=ltK (kZ (fJ r) ls o s ls.length) i:=by
 intro i hi
 have e:=aaY (fJ r) ls o ls.length h
 unfold ltK dO
 rw[QS (by rw[e,List.length_map];exact hi),YJ hi]
 simp only[e,List.getElem_map]
 rfl
theorem adB {r:Bool} {os:List aZ} {ls:List aI} (hk:RZ (fZ r) (fJ r) os ls) (h8:ls.length<=8) {s t:Nat} (h:∀ i,i<ls.length->t.testBit i= !s.testBit i) {o:Nat} (ho:o<os.length):
  ∃ L,sJ.f os ls (o:Int) (lU ls o t ls.length) r=some (L,(iP (fZ r) (fJ r) os ls s o).1,(iP (fZ r) (fJ r) os ls s o).2.2)/\
   ((iP (fZ r) (fJ r) os ls s o).2.2=true->(L.length:Int)=fZ r (dK os o)+1/\∀ m:Nat,L.getD m false=true↔(iP (fZ r) (fJ r) os ls s o).2.1.f0<=m/\m<=(iP (fZ r) (fJ r) os ls s o).2.1.f1):=by
 have e:=aaY (fJ r) ls o ls.length h
 have hlt:=aAR r ls o h
 have hlen:=alR ls o t ls.length
 have hM:=hk.ord o ho
 have hll:(kZ (fJ r) ls o s ls.length).length=(lU ls o t ls.length).length:=by rw[e,List.length_map]
 have adC:=hk.lots (o:=(o:Int)) (s:=s)
 obtain⟨M,hMe⟩:∃ M:Nat,fZ r (dK os o)=M:=⟨(fZ r (dK os o)).toNat,(Int.toNat_of_nonneg hM.1).symm⟩
 have hb:SY os ls (o:Int) (lU ls o t ls.length) r=true:=by
  unfold SY
  simp only[Bool.and_eq_true,decide_eq_true_iff,List.all_eq_true]
  refine⟨⟨⟨⟨⟨by omega,by omega⟩,hM.1⟩,hM.2⟩,by omega⟩,fun i hi=>?_⟩
  have hi':=List.mem_range.1 hi
  have hm:=aAQ (List.getElem_mem hi')
  have hl:=hk.lot ((lU ls o t ls.length)[i]).toNat (by omega)
  rw[Int.toNat_of_nonneg hm.1]at hl
  unfold dO ltOf
  rw[YJ hi']
  exact⟨⟨⟨⟨hm.1,hm.2⟩,hl.1⟩,hl.2.1⟩,hl.2.2⟩
 have hok:qY M (dO r ls (lU ls o t ls.length)) (lU ls o t ls.length).length=(iP (fZ r) (fJ r) os ls s o).2.2:=by
  unfold iP
  rw[hMe,<-azN adC]
  unfold qY acX
  rw[hll]
  congr 1
  funext i
  rw[alP hlt i]
 unfold sJ.f
 rw[if_pos hb,hMe,Int.toNat_natCast,hok]
 by_cases hr:(iP (fZ r) (fJ r) os ls s o).2.2=true
 ·have hr2:(fE (M:Int) (kZ (fJ r) ls o s ls.length)).2.2=true:=by unfold iP at hr;rw[hMe]at hr;exact hr
  rw[if_pos hr,if_pos hr]
  refine⟨rowB M (dO r ls (lU ls o t ls.length)) (lU ls o t ls.length).length,?_,fun _=>⟨by rw[XL];rfl,fun m=>?_⟩⟩
  ·congr 2
   congr 1
   have hc:=af2 hr2
   have ec:(iP (fZ r) (fJ r) os ls s o).1=(fE (M:Int) (kZ (fJ r) ls o s ls.length)).1:=by unfold iP;rw[hMe]
   rw[ec]
   refine List.ext_getElem (by rw[acY,hc,hll]) fun i h1 h2=>?_
   rw[acY]at h1
   have h3:=azP adC hr2 (i:=i) (by omega)
   have h4:bM (fE (M:Int) (kZ (fJ r) ls o s ls.length)).1 (i:Int)=(fE (M:Int) (kZ (fJ r) ls o s ls.length)).1[i]:=by
    unfold bM
    rw[Int.toNat_natCast]
    simp[List.getD_eq_getElem?_getD,h2]
   rw[<-h4,h3,<-alP (by rw[hll];exact hlt) i,hll]
   simp[lM]
  ·have h3:=azO adC hr2 m
   rw[<-YI _ (by rw[hll];exact hlt),hll]at h3
   unfold iP
   rw[hMe]
   exact h3
 ·have hr':=Bool.eq_false_iff.2 hr
  rw[if_neg hr,if_neg hr]
  refine⟨[],?_,fun hh=>absurd hh hr⟩
  congr 2
  congr 1
  unfold iP at hr ⊢
  unfold fE at hr ⊢
  split
  ·rename_i h1
   rw[if_pos h1]at hr
   exact absurd rfl hr
  ·rfl
theorem aQ7 (L:List Bool) (n:Nat):adX false L (n:Int)=L.getD n false:=by
 unfold adX
 rw[Int.toNat_natCast]
def ET (M a b:Int) (n:Nat):Int:=if(n:Int)<=a then M+1 else if(n:Int) - 1<=b then M - (n - 1)else M - b
def hiK (M a:Int) (n:Nat):Int:=if(n:Int)<=a then 0 else M - a
theorem aQ8 (r:Bool) (os:List aZ) (ls:List aI) (out:List aH) (hout:out.length<=1000) (o:Nat) (ho:o<=1000) (L:List Bool) (M:Nat) (hM:M<=144) (a b:Int) (hab:0<=a/\a<=b/\b<=M) (hL:L.length=M+1) (hm:∀ m:Nat,L.getD m false=true↔a<=m/\m<=b):∀ d n k,n+d=M+1->d<k->
  iC.l1 k r out (o:Int) L (M:Int) (n:Int) os ls (ET M a b n) (hiK M a n)=iC.l0 (k - 1 - d) r (out++[⟨M - b,M - a⟩]) ((o+1:Nat):Int) os ls:=by
 intro d
 induction d with
 |zero=>
  intro n k hn hk
  obtain⟨k,rfl⟩:∃ i,k=i+1:=⟨k - 1,by omega⟩
  obtain rfl:n=M+1:=by omega
  have hw:wrap64 ((o:Int)+1)=((o+1:Nat):Int):=by rw[jF (by omega) (by omega)];simp
  conv=>lhs;unfold iC.l1
  rw[if_neg (by omega),if_pos (by omega),hw]
  have e1:ET M a b (M+1)=M - b:=by unfold ET;rw[if_neg (by omega)];split<;>omega
  have e2:hiK M a (M+1)=M - a:=by unfold hiK;rw[if_neg (by omega)]
  rw[e1,e2]
  rfl
 |succ d ih=>
  intro n k hn hk
  obtain⟨k,rfl⟩:∃ i,k=i+1:=⟨k - 1,by omega⟩
  have hw:wrap64 ((n:Int)+1)=((n+1:Nat):Int):=by rw[jF (by omega) (by omega)];simp
  have hw2:wrap64 ((M:Int) - n)=M - n:=jF (by omega) (by omega)
  have hi:=ih (n+1) k (by omega) (by omega)
  have hb:=hm n
  rw[show k+1 - 1 - (d+1)=k - 1 - d by omega,<-hi]
  conv=>lhs;unfold iC.l1
  rw[if_pos (by omega),if_pos (by omega),if_pos (by omega),aQ7,hw,hw2]
  by_cases h:a<=n/\n<=b
  ·rw[if_pos (hb.2 h)]
   have e1:mn (ET M a b n) (M - n)=ET M a b (n+1):=by
    rw[aoT]
    unfold ET
    by_cases h1:(n:Int)<=a
    ·rw[if_pos h1,if_neg (by omega),if_pos (by omega)];omega
    ·rw[if_neg h1,if_pos (by omega),if_neg (by omega),if_pos (by omega)];omega
   have e2:mx (hiK M a n) (M - n)=hiK M a (n+1):=by
    rw[aoS]
    unfold hiK
    by_cases h1:(n:Int)<=a
    ·rw[if_pos h1,if_neg (by omega)];omega
    ·rw[if_neg h1,if_neg (by omega)];omega
   rw[e1,e2]
  ·rw[if_neg (fun hh=>h (hb.1 hh))]
   have e1:ET M a b n=ET M a b (n+1):=by
    unfold ET
    by_cases h1:(n:Int)<=a
    ·rw[if_pos h1,if_pos (by omega)]
    ·rw[if_neg h1]
     by_cases h2:(n:Int) - 1<=b
     ·rw[if_pos h2,if_neg (by omega),if_neg (by omega)];omega
     ·rw[if_neg h2,if_neg (by omega),if_neg (by omega)]
   have e2:hiK M a n=hiK M a (n+1):=by
    unfold hiK
    by_cases h1:(n:Int)<=a
    ·rw[if_pos h1,if_pos (by omega)]
    ·rw[if_neg h1,if_neg (by omega)]
   rw[<-e1,<-e2]
theorem bs9 (r:Bool) (os:List aZ) (ls:List aI) (o:Nat) (ho:o<=1000) (lots:List dR) (cnt counts:List aH) (li:List Int) (hli:li=lots.map (·.f1)) (hc:cnt.length=lots.length) (h8:lots.length<=8) (hf:∀ x∈lots,0<=x.f1/\x.f1<counts.length):∀ d j k,j+d=lots.length->d<k->
  lY.l1 k r (QL lots cnt counts j) (o:Int) li cnt (j:Int) os ls=lY.l0 (k - 1 - d) r (QL lots cnt counts lots.length) ((o+1:Nat):Int) os ls:=by
 have hll:li.length=lots.length:=by rw[hli,List.length_map]
 intro d
 induction d with
 |zero=>
  intro j k hj hk
  obtain⟨k,rfl⟩:∃ i,k=i+1:=⟨k - 1,by omega⟩
  obtain rfl:j=lots.length:=by omega
  have hw:wrap64 ((o:Int)+1)=((o+1:Nat):Int):=by rw[jF (by omega) (by omega)];simp
  conv=>lhs;unfold lY.l1
  rw[if_neg (by omega),hw]
  rfl
 |succ d ih=>
  intro j k hj hk
  obtain⟨k,rfl⟩:∃ i,k=i+1:=⟨k - 1,by omega⟩
  have hjl:j<lots.length:=by clear ih hf;omega
  have hw:wrap64 ((j:Int)+1)=((j+1:Nat):Int):=by rw[jF (by clear ih hf;omega) (by clear ih hf;omega)];simp
  have hx:=hf _ (aqT (ls:=lots) (i:=j) hjl)
  have hs:=aEQ lots cnt counts j
  have er:rd li (j:Int)=(dP lots j).f1:=by
   rw[YJ (by omega),QS hjl]
   simp only[hli,List.getElem_map]
  have e3:(j:Int)<(cnt.length:Int):=by rw[hc];exact Int.ofNat_lt.2 hjl
  conv=>lhs;unfold lY.l1
  rw[if_pos (by omega),if_pos (by omega),if_pos e3,er,if_pos hx.1,if_pos (by rw[hs];exact hx.2),hw]
  have:=ih (j+1) k (by omega) (by omega)
  rw[QL]at this
  rw[this,show k+1 - 1 - (d+1)=k - 1 - d by omega]
theorem aoV:∀ s:Nat,s<256->∀ i:Nat,i<8->(Go.bits .and .i64 (shr .i64 (s:Int) (IntKind.u64.wrap (i:Int))) 1=1↔s.testBit i=true)/\0<=IntKind.u64.wrap (i:Int):=by decide+kernel
theorem aAS (os:List aZ) (ls:List aI) (h8:ls.length<=8) (o:Int) (t:Nat) (ht:t<256):∀ (m i k:Nat),i+m=ls.length->m<k->
  qI.l0 k o (t:Int) (lU ls o t i) (i:Int) os ls=some (lU ls o t ls.length):=by
 intro m
 induction m with
 |zero=>
  intro i k hi hk
  obtain⟨k,rfl⟩:∃ j,k=j+1:=⟨k - 1,by omega⟩
  obtain rfl:i=ls.length:=by omega
  unfold qI.l0
  rw[if_neg (by omega)]
 |succ m ih=>
  intro i k hi hk
  obtain⟨k,rfl⟩:∃ j,k=j+1:=⟨k - 1,by omega⟩
  obtain⟨hb,hw0⟩:=aoV t ht i (by omega)
  have hw:wrap64 ((i:Int)+1)=((i+1:Nat):Int):=by rw[jF (by omega) (by omega)];simp
  have hn:=ih (i+1) k (by omega) (by omega)
  have hl:=alR ls o t i
  rw[alQ]at hn
  unfold qI.l0
  rw[if_pos (by omega),if_pos (by omega),hw]
  by_cases h1:(aU ls i).f0=o
  ·rw[if_pos h1,if_pos hw0]
   by_cases h2:Go.bits .and .i64 (shr .i64 (t:Int) (IntKind.u64.wrap (i:Int))) 1=1
   ·rw[if_pos h2,if_pos (by omega)]
    rw[if_pos ⟨h1,hb.1 h2⟩]at hn
    exact hn
   ·rw[if_neg h2]
    rw[if_neg (fun hh=>h2 (hb.2 hh.2)),List.append_nil]at hn
    exact hn
  ·rw[if_neg h1]
   rw[if_neg (fun hh=>h1 hh.1),List.append_nil]at hn
   exact hn
theorem adD (os:List aZ) (ls:List aI) (h8:ls.length<=8) (o:Int) (t:Nat) (ht:t<256) (k:Nat) (hk:9<=k):qI.f k os ls o (t:Int)=some (lU ls o t ls.length):=aAS os ls h8 o t ht ls.length 0 k (by omega) (by omega)
theorem aAT:∀ n:Nat,n<=8->0<=IntKind.u64.wrap (n:Int)/\wrap64 ((shl .i64 1 (IntKind.u64.wrap (n:Int))) - 1)=((2^n - 1:Nat):Int):=by decide+kernel
theorem alS (os:List aZ) (ls:List aI) (h8:ls.length<=8):pY.f os ls=some ((2^ls.length - 1:Nat):Int):=by
 obtain⟨h1,h2⟩:=aAT ls.length h8
 unfold pY.f
 rw[if_pos h1,h2]
theorem aaZ:fZ false=rJ:=by funext x;rfl
theorem aa0:fZ true=tC:=by funext x;rfl
theorem aa1:fJ false=qB:=by funext x;rfl
theorem aa2:fJ true=qQ:=by funext x;rfl
theorem ZR {os:List aZ} {ls:List aI} (h:oP os ls=0):∀ r,RZ (fZ r) (fJ r) os ls:=by
 intro r
 cases r
 ·rw[aaZ,aa1];exact(af4 h).1
 ·rw[aa0,aa2];exact(af4 h).2
theorem aAU {os:List aZ} {ls:List aI} (h:oP os ls=0) {s t:Nat} (ht:t<256) (hst:∀ i,i<ls.length->t.testBit i= !s.testBit i):∀ (m o k:Nat),o+m=os.length->4*m+13<=k->
  eG.l0 k (t:Int) (o:Int) os ls=some ((List.range' o m).all fun j=>(iP rJ qB os ls s j).2.2&&(iP tC qQ os ls s j).2.2):=by
 obtain⟨h5,h8,_,_⟩:=FM h
 intro m
 induction m with
 |zero=>
  intro o k ho hk
  obtain⟨k,rfl⟩:∃ i,k=i+1:=⟨k - 1,by omega⟩
  unfold eG.l0
  rw[if_neg (by omega)]
  rfl
 |succ m ih=>
  intro o k ho hk
  obtain⟨k,rfl⟩:∃ i,k=i+4:=⟨k - 4,by omega⟩
  have hw:wrap64 ((o:Int)+1)=((o+1:Nat):Int):=by rw[jF (by omega) (by omega)];simp
  have hi:=ih (o+1) k (by omega) (by omega)
  obtain⟨L,e1,e2⟩:=adB (r:=false) (ZR h false) h8 hst (o:=o) (by omega)
  obtain⟨L',e1',e2'⟩:=adB (r:=true) (ZR h true) h8 hst (o:=o) (by omega)
  rw[aaZ,aa1]at e1
  rw[aa0,aa2]at e1'
  rw[eG.l0,if_pos (by omega),eG.l1,if_pos (by decide),adD os ls h8 o t ht (k+2) (by omega)]
  simp only[Option.bind_some]
  rw[show((0:Int)==1)=false from rfl,e1]
  simp only[Option.bind_some]
  rw[List.range'_succ,List.all_cons]
  by_cases hl:(iP rJ qB os ls s o).2.2=true
  ·rw[if_pos hl,show wrap64 (0+1)=1 from by rw[jF (by omega) (by omega)];rfl,eG.l1,if_pos (by decide),adD os ls h8 o t ht (k+1) (by omega)]
   simp only[Option.bind_some]
   rw[show((1:Int)==1)=true from rfl,e1']
   simp only[Option.bind_some]
   by_cases hr:(iP tC qQ os ls s o).2.2=true
   ·rw[if_pos hr,show wrap64 (1+1)=2 from by rw[jF (by omega) (by omega)];rfl,eG.l1,if_neg (by decide),hw,hi,hl,hr]
    rfl
   ·rw[if_neg hr,Bool.eq_false_iff.2 hr,Bool.and_false,Bool.false_and]
  ·rw[if_neg hl,Bool.eq_false_iff.2 hl,Bool.false_and,Bool.false_and]
theorem aAV {n:Nat} (p q:Nat->Bool):((List.range' 0 n).all fun j=>p j&&q j)=((List.range n).all p&&(List.range n).all q):=by
 rw[<-List.range_eq_range']
 rw[Bool.eq_iff_iff,Bool.and_eq_true,zO,zO,zO]
 simp only[Bool.and_eq_true]
 exact⟨fun h=>⟨fun j hj=>(h j hj).1,fun j hj=>(h j hj).2⟩,fun h j hj=>⟨h.1 j hj,h.2 j hj⟩⟩
theorem aAW {os:List aZ} {ls:List aI} (h:oP os ls=0) {s t:Nat} (ht:t<256) (hst:∀ i,i<ls.length->t.testBit i= !s.testBit i) (k:Nat) (hk:33<=k):eG.f k os ls (t:Int)=some (vZ os ls s):=by
 obtain⟨h5,h8,_,_⟩:=FM h
 unfold eG.f
 refine(aAU h ht hst os.length 0 k (by omega) (by omega)).trans ?_
 rw[aAV]
 rfl
theorem ao9 {n:Nat}:∀ i,i<n->(2^n - 1).testBit i= !Nat.testBit 0 i:=by
 intro i hi
 rw[Nat.testBit_two_pow_sub_one,Nat.zero_testBit]
 simp[hi]
theorem asX {n:Nat} (h:n<=8):2^n - 1<256:=by
 have:2^n<=2^8:=Nat.pow_le_pow_right (by decide) h
 omega
theorem aBU {M:Nat} {ls:List dR} (hl:∀ x∈ls,uH x) (h:(fE M ls).2.2=true):0<=(fE M ls).2.1.f0/\(fE M ls).2.1.f0<=(fE M ls).2.1.f1/\(fE M ls).2.1.f1<=M:=by
 have T:=ZQ h hl
 have h1:=T.ene
 obtain⟨n,xs,a,b,c⟩:=(T.ein _).1 (show nK (iv (fE M ls).2.1) (iv (fE M ls).2.1).1 from⟨Int.le_refl _,h1⟩)
 obtain⟨n',xs',a',b',c'⟩:=(T.ein _).1 (show nK (iv (fE M ls).2.1) (iv (fE M ls).2.1).2 from⟨h1,Int.le_refl _⟩)
 obtain rfl:=aaX.1 a
 obtain rfl:=aaX.1 a'
 have d:=aEV (Int.le_refl 0) (Int.natCast_nonneg M) b
 have d':=aEV (Int.le_refl 0) (Int.natCast_nonneg M) b'
 rw[c]at d
 rw[c']at d'
 exact⟨d.1,h1,d'.2⟩
theorem aQ9 (a b:Int) (r:Bool):yL.f a b r=some (if r=true then b else a):=by
 unfold yL.f
 split<;>rfl
theorem aRA {os:List aZ} {ls:List aI} (h:oP os ls=0) (r:Bool) (hok:∀ j,j<os.length->(iP (fZ r) (fJ r) os ls 0 j).2.2=true):∀ (m o k:Nat),o+m=os.length->147*m+13<=k->
  iC.l0 k r (qP (fZ r) (fJ r) os ls 0 o) (o:Int) os ls=some (qP (fZ r) (fJ r) os ls 0 os.length):=by
 obtain⟨h5,h8,_,_⟩:=FM h
 have hk:=ZR h r
 intro m
 induction m with
 |zero=>
  intro o k ho hk
  obtain⟨k,rfl⟩:∃ i,k=i+1:=⟨k - 1,by omega⟩
  unfold iC.l0
  obtain rfl:o=os.length:=by omega
  rw[if_neg (by omega)]
 |succ m ih=>
  intro o k ho hkk
  obtain⟨k,rfl⟩:∃ i,k=i+1:=⟨k - 1,by omega⟩
  obtain⟨L,e1,e2⟩:=adB hk h8 ao9 (o:=o) (by omega)
  have hr:=hok o (by omega)
  obtain⟨e3,e4⟩:=e2 hr
  have hM:=hk.ord o (by omega)
  obtain⟨M,hMe⟩:∃ M:Nat,fZ r (dK os o)=M:=⟨(fZ r (dK os o)).toNat,(Int.toNat_of_nonneg hM.1).symm⟩
  have hend:=aBU (M:=M) (hk.lots (o:=(o:Int)) (s:=0)) (by unfold iP at hr;rw[hMe]at hr;exact hr)
  have hor:(iP (fZ r) (fJ r) os ls 0 o).2.1=(fE (M:Int) (kZ (fJ r) ls o 0 ls.length)).2.1:=by unfold iP;rw[hMe]
  rw[hor]at e4
  have hl1:=aQ8 r os ls (qP (fZ r) (fJ r) os ls 0 o) (by rw[aaO];omega) o (by omega) L M (by omega) _ _ hend (by omega) e4 (M+1) 0 k (by omega) (by omega)
  have hs:=aER (fZ r) (fJ r) os ls 0 o
  rw[hor,hMe]at hs
  have hi:=ih (o+1) (k - 1 - (M+1)) (by omega) (by omega)
  rw[hs]at hi
  rw[iC.l0,if_pos (by omega),alS os ls h8]
  simp only[Option.bind_some]
  rw[adD os ls h8 o _ (asX h8) k (by omega)]
  simp only[Option.bind_some]
  rw[e1]
  simp only[Option.bind_some]
  rw[if_pos (by omega),aQ9]
  simp only[Option.bind_some]
  have hord:(if r=true then(dK os (o:Int)).f1 else(dK os (o:Int)).f0)=(M:Int):=hMe
  rw[hord,jF (x:=(M:Int)+1) (by omega) (by omega)]
  have z1:ET M (fE (M:Int) (kZ (fJ r) ls o 0 ls.length)).2.1.f0 (fE (M:Int) (kZ (fJ r) ls o 0 ls.length)).2.1.f1 0=(M:Int)+1:=by unfold ET;rw[if_pos (by have:=hend.1;omega)]
  have z2:hiK M (fE (M:Int) (kZ (fJ r) ls o 0 ls.length)).2.1.f0 0=0:=by unfold hiK;rw[if_pos (by have:=hend.1;omega)]
  rw[z1,z2]at hl1
  refine hl1.trans ?_
  exact hi
theorem aBV {os:List aZ} {ls:List aI} (h:oP os ls=0) (r:Bool) (hok:∀ j,j<os.length->(iP (fZ r) (fJ r) os ls 0 j).2.2=true) (k:Nat) (hk:748<=k):iC.f k os ls r=some (qP (fZ r) (fJ r) os ls 0 os.length):=by
 obtain⟨h5,h8,_,_⟩:=FM h
 exact aRA h r hok os.length 0 k (by omega) (by omega)
theorem btA {os:List aZ} {ls:List aI} (h:oP os ls=0) (r:Bool) (hok:∀ j,j<os.length->(iP (fZ r) (fJ r) os ls 0 j).2.2=true):∀ (m o k:Nat),o+m=os.length->10*m+13<=k->
  lY.l0 k r (zN (fZ r) (fJ r) os ls 0 o) (o:Int) os ls=some (zN (fZ r) (fJ r) os ls 0 os.length):=by
 obtain⟨h5,h8,_,_⟩:=FM h
 have hk:=ZR h r
 intro m
 induction m with
 |zero=>
  intro o k ho hk
  obtain⟨k,rfl⟩:∃ i,k=i+1:=⟨k - 1,by omega⟩
  unfold lY.l0
  obtain rfl:o=os.length:=by omega
  rw[if_neg (by omega)]
 |succ m ih=>
  intro o k ho hkk
  obtain⟨k,rfl⟩:∃ i,k=i+1:=⟨k - 1,by omega⟩
  obtain⟨L,e1,e2⟩:=adB hk h8 ao9 (o:=o) (by omega)
  have hr:=hok o (by omega)
  have hlen:=arE (fJ r) ls o 0 ls.length
  have e:=aaY (fJ r) ls o ls.length (ao9 (n:=ls.length))
  have hli:lU ls o (2^ls.length - 1) ls.length=(kZ (fJ r) ls o 0 ls.length).map (·.f1):=by
   rw[e,List.map_map]
   exact(List.map_id _).symm
  have hl1:=bs9 r os ls o (by omega) (kZ (fJ r) ls o 0 ls.length) (iP (fZ r) (fJ r) os ls 0 o).1 (zN (fZ r) (fJ r) os ls 0 o) _ hli (af2 hr) (by omega) (by
   intro x hx
   obtain⟨i,hi,rfl⟩:=aES hx
   rw[awS]
   exact⟨Int.natCast_nonneg _,Int.ofNat_lt.2 hi⟩) (kZ (fJ r) ls o 0 ls.length).length 0 k (by omega) (by omega)
  have hi:=ih (o+1) (k - 1 - (kZ (fJ r) ls o 0 ls.length).length) (by omega) (by omega)
  rw[lY.l0,if_pos (by omega),alS os ls h8]
  simp only[Option.bind_some]
  rw[adD os ls h8 o _ (asX h8) k (by omega)]
  simp only[Option.bind_some]
  rw[e1]
  simp only[Option.bind_some]
  rw[zN]at hi
  rw[QL]at hl1
  exact hl1.trans hi
theorem a7H {os:List aZ} {ls:List aI} (h:oP os ls=0) (r:Bool) (hok:∀ j,j<os.length->(iP (fZ r) (fJ r) os ls 0 j).2.2=true) (k:Nat) (hk:63<=k):lY.f k os ls r=some (zN (fZ r) (fJ r) os ls 0 os.length):=by
 obtain⟨h5,h8,_,_⟩:=FM h
 unfold lY.f
 rw[if_pos (by omega),if_pos (by omega),Int.toNat_natCast]
 exact btA h r hok os.length 0 k (by omega) (by omega)
end Go.Proofs.YtcmfnebcmmklkaaDoor.Hand
namespace Go.Proofs.YtcmfnebcmmklkaaDoor.Q
def oN.f:Option Unit:=some ()
end Go.Proofs.YtcmfnebcmmklkaaDoor.Q
namespace Go.Proofs.YtcmfnebcmmklkaaDoor.Q
open Go.RowKit Go.Proofs.YtcmfnebcmmklkaaDoorW.dQ Go.Proofs.YtcmfnebcmmklkaaDoorW.oU Go.Proofs.YtcmfnebcmmklkaaDoorW.gG
attribute [local go_sem] uA uB uC uD uM uN uO uP
mutual
def dL.j0:Nat->List (aH)->List (aH)->Int->List (aH)->List (aH)->Int->List Int->List Int->Int->Bool->List (aZ)->List (aI)->Option (Bool)
 |0,_,_,_,_,_,_,_,_,_,_,_,_=>none
 |k+1,x5,x6,x7,x8,x9,x10,x11,x12,GG,x54,CQ,CS=>if x54=true then(some false)else((jH.f k CQ CS).bind fun GH=>(if GH=0 then((pY.f CQ CS).bind fun SH=>((eG.f k CQ CS SH).bind fun adS=>(dL.j1 k x5 x6 x7 x8 x9 x10 x11 x12 GG GH (!adS) CQ CS)))else(dL.j1 k x5 x6 x7 x8 x9 x10 x11 x12 GG GH false CQ CS)))
def dL.j1:Nat->List (aH)->List (aH)->Int->List (aH)->List (aH)->Int->List Int->List Int->Int->Int->Bool->List (aZ)->List (aI)->Option (Bool)
 |0,_,_,_,_,_,_,_,_,_,_,_,_,_=>none
 |k+1,x5,x6,x7,x8,x9,x10,x11,x12,GG,x14,x65,CQ,CS=>if x65=true then(dL.j2 k x5 x6 x7 x8 x9 x10 x11 x12 GG 9 CQ CS)else(dL.j2 k x5 x6 x7 x8 x9 x10 x11 x12 GG x14 CQ CS)
def dL.j2:Nat->List (aH)->List (aH)->Int->List (aH)->List (aH)->Int->List Int->List Int->Int->Int->List (aZ)->List (aI)->Option (Bool)
 |0,_,_,_,_,_,_,_,_,_,_,_,_=>none
 |k+1,x5,x6,x7,x8,x9,x10,x11,x12,GG,x14,CQ,CS=>if x14=0 then((iC.f k CQ CS false).bind fun kT=>((iC.f k CQ CS true).bind fun lC=>(dL.l0 k x5 x6 x7 x8 x9 x10 x11 x12 GG kT lC (([]:List Int)) (([]:List Int)) 0 CQ CS)))else(if x7=x14 then(if x10=x14 then(if GG=x14 then(if(wrap64 ((wrap64 ((wrap64 ((wrap64 ((wrap64 ((x5.length:Int)+(x6.length:Int)))+(x8.length:Int)))+(x9.length:Int)))+(x11.length:Int)))+(x12.length:Int)))=0 then((oN.f).bind fun _=>(some true))else(some false))else(some false))else(some false))else(some false))
def dL.l0:Nat->List (aH)->List (aH)->Int->List (aH)->List (aH)->Int->List Int->List Int->Int->List (aH)->List (aH)->List Int->List Int->Int->List (aZ)->List (aI)->Option (Bool)
 |0,_,_,_,_,_,_,_,_,_,_,_,_,_,_,_,_=>none
 |k+1,x5,x6,x7,x8,x9,x10,x11,x12,GG,x15,x16,x17,x18,x19,CQ,CS=>if x19<(x15.length:Int)then(if 0<=x19 then(if((bM x15 x19).f1)=0 then(if x19<(x16.length:Int)then(dL.j4 k x5 x6 x7 x8 x9 x10 x11 x12 GG x15 x16 x17 x18 x19 (((bM x16 x19).f1)==0) CQ CS)else(none))else(dL.j4 k x5 x6 x7 x8 x9 x10 x11 x12 GG x15 x16 x17 x18 x19 false CQ CS))else(none))else(if x7=0 then((mD.f k x5 x15).bind fun aHR=>(if aHR=true then((mD.f k x6 x16).bind fun al9=>(if al9=true then(if x10=0 then((lY.f k CQ CS false).bind fun EW=>((mD.f k x8 EW).bind fun YO=>(if YO=true then((lY.f k CQ CS true).bind fun zG=>((mD.f k x9 zG).bind fun OI=>(if OI=true then(if GG=0 then((oD.f k x11 x17).bind fun CU=>(if CU=true then((oD.f k x12 x18).bind fun yO=>(if yO=true then((oN.f).bind fun _=>(some true))else(some false)))else(some false)))else(some false))else(some false))))else(some false))))else(some false))else(some false)))else(some false)))else(some false))
def dL.j4:Nat->List (aH)->List (aH)->Int->List (aH)->List (aH)->Int->List Int->List Int->Int->List (aH)->List (aH)->List Int->List Int->Int->Bool->List (aZ)->List (aI)->Option (Bool)
 |0,_,_,_,_,_,_,_,_,_,_,_,_,_,_,_,_,_=>none
 |k+1,x5,x6,x7,x8,x9,x10,x11,x12,GG,x15,x16,x17,x18,x19,btC,CQ,CS=>if btC=true then(if x17.length<17592186044416 then((some (x17++[x19]:List Int)).bind fun WN=>(if 0<=x19 then(if x19<(x15.length:Int)then(if((bM x15 x19).f0)=0 then(if x19<(x16.length:Int)then(if((bM x16 x19).f0)=0 then(if x18.length<17592186044416 then(dL.l0 k x5 x6 x7 x8 x9 x10 x11 x12 GG x15 x16 WN (x18++[x19]) (wrap64 (x19+1)) CQ CS)else(none))else(dL.l0 k x5 x6 x7 x8 x9 x10 x11 x12 GG x15 x16 WN x18 (wrap64 (x19+1)) CQ CS))else(none))else(dL.l0 k x5 x6 x7 x8 x9 x10 x11 x12 GG x15 x16 WN x18 (wrap64 (x19+1)) CQ CS))else(none))else(none)))else(none))else(if 0<=x19 then(if x19<(x15.length:Int)then(if((bM x15 x19).f0)=0 then(if x19<(x16.length:Int)then(if((bM x16 x19).f0)=0 then(if x18.length<17592186044416 then(dL.l0 k x5 x6 x7 x8 x9 x10 x11 x12 GG x15 x16 x17 (x18++[x19]) (wrap64 (x19+1)) CQ CS)else(none))else(dL.l0 k x5 x6 x7 x8 x9 x10 x11 x12 GG x15 x16 x17 x18 (wrap64 (x19+1)) CQ CS))else(none))else(dL.l0 k x5 x6 x7 x8 x9 x10 x11 x12 GG x15 x16 x17 x18 (wrap64 (x19+1)) CQ CS))else(none))else(none))
end
def dL.f (k:Nat) (aG:List (aZ)) (aC:List (aI)):Option (Bool):=(OQ.f aG aC).bind fun t206=>(if t206=true then((oN.f).bind fun _=>(some true))else((nV.f aG aC).bind fun oK=>((XH.f oK.1 oK.2).bind fun t215=>((UR.f k oK.1 oK.2).bind fun sU=>((XX.f k oK.1 oK.2).bind fun qF=>((vO.f k oK.1 oK.2).bind fun oL=>((kJ.f k oK.1 oK.2 aG aC).bind fun OJ=>(if OJ=true then((jH.f k aG aC).bind fun BJ=>(dL.j0 k sU.1 sU.2.1 sU.2.2 qF.1 qF.2.1 qF.2.2 oL.1 oL.2.1 oL.2.2 (t215 !=BJ) aG aC))else(dL.j0 k sU.1 sU.2.1 sU.2.2 qF.1 qF.2.1 qF.2.2 oL.1 oL.2.1 oL.2.2 true aG aC)))))))))
def dL.T11:Bool×List (List Nat×List Nat):=(true,[([],[]),([0],[0]),([1],[1]),([2],[2]),([2],[2]),([4,2,2],[2,4]),([3,5,5,2],[2,3,5]),([6,2],[2,6]),([2,7],[2,7])])
def dL.B11:List Nat:=[0,1,3,7,7,23,63,127,255]
theorem dL.a7I:qW .any (opsOf Tryd.f3 11)=dL.T11:=by kernel_rfl
theorem dL.a7J:CZ dL.T11.2 dL.B11=true:=by kernel_rfl
end Go.Proofs.YtcmfnebcmmklkaaDoor.Q
namespace Go.Proofs.YtcmfnebcmmklkaaDoor.Q
open Go.RowKit Go.Proofs.YtcmfnebcmmklkaaDoorW.dQ
theorem oN.calls (w:World) (hT:Hand.lZ w) (h:oN.f=some ()):Calls Tryd.prog 15 #[] w fun e w'=>e=.returned (.bool true)/\Below w.heap.size w w':=Hand.aQG w hT
end Go.Proofs.YtcmfnebcmmklkaaDoor.Q

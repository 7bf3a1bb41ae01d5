/- What DozenFills reaches beyond the shared texts, and its card. Part 3 of 4. -/
import Derived.Test.YtcmfnebcmmklkaaDoorLb1
import Derived.Test.YtcmfnebcmmklkaaDoorK2
import Derived.Test.YtcmfnebcmmklkaaDoorK12
import Derived.Test.YtcmfnebcmmklkaaDoorK14
import Derived.Test.YtcmfnebcmmklkaaDoorK7
import Derived.Test.YtcmfnebcmmklkaaDoorK3
import Derived.Test.YtcmfnebcmmklkaaDoorLb2
import Derived.Test.YtcmfnebcmmklkaaDoorK15
import Derived.Test.YtcmfnebcmmklkaaDoorK16
set_option linter.unusedVariables false
set_option linter.unusedSimpArgs false
set_option maxRecDepth 100000
set_option maxHeartbeats 8000000
namespace Go.Proofs.YtcmfnebcmmklkaaDoor.Q
open Go.RowKit Go.Proofs.YtcmfnebcmmklkaaDoorW.dQ Go.Proofs.YtcmfnebcmmklkaaDoorW.oU Go.Proofs.YtcmfnebcmmklkaaDoorW.gG
attribute [local go_sem] uA uB uC uD uM uN uO uP
mutual
def eG.l0:Nat->Int->Int->List (aZ)->List (aI)->Option (Bool)
  |0,_,_,_,_=>none
  |k+1,x1,x5,EP,OB=>if x5<(EP.length:Int)then(eG.l1 k x1 x5 0 EP OB)else(some true)
def eG.l1:Nat->Int->Int->Int->List (aZ)->List (aI)->Option (Bool)
  |0,_,_,_,_,_=>none
  |k+1,x1,x5,x6,EP,OB=>if x6<2 then((qI.f k EP OB x5 x1).bind fun t164=>((sJ.f EP OB x5 t164 (x6==1)).bind fun adA=>(if adA.2.2=true then(eG.l1 k x1 x5 (wrap64 (x6+1)) EP OB)else(some false))))else(eG.l0 k x1 (wrap64 (x5+1)) EP OB)
end
def eG.f (k:Nat) (aG:List (aZ)) (aC:List (aI)) (a1:Int):Option (Bool):=eG.l0 k a1 0 aG aC
def eG.T7:Bool×List (List Nat×List Nat):=(true,[([],[]),([],[]),([],[]),([],[]),([],[]),([2,3,4],[2,3,4]),([],[]),([6],[6]),([0,1,5,7,5],[0,1,5,7]),([8],[8]),([9],[9]),([9],[9]),([9],[9]),([10,8,0,1,2,3,4,5,6,7,8,9,10],[10]),([11,13,0,1,2,3,4,5,6,7,8,9,10,11,13],[11]),([12,14,0,1,2,3,4,5,6,7,8,9,10,11,12,13,14],[12])])
def eG.B7:List Nat:=[0,0,0,0,0,28,0,64,255,511,1023,1023,1023,2047,12287,32767]
theorem eG.alL:qW .any (opsOf Tryd.f23 7)=eG.T7:=by kernel_rfl
theorem eG.alM:CZ eG.T7.2 eG.B7=true:=by kernel_rfl
theorem eG.calls (k:Nat) (aQ:Option Addr) (aK:Nat) (aG:List (aZ)) (aT:Option Addr) (aJ:Nat) (aC:List (aI)) (a1:Int) (r:Bool) (w:World) (jI:Kd.C iJ w aQ aG.length aG) (jU:aG.length<=aK) (jE:Kd.C iE w aT aC.length aC) (jS:aC.length<=aJ) (h:eG.f k aG aC a1=some r):
    Calls Tryd.prog 23 #[.agg #[.slice aQ aG.length aK,.slice aT aC.length aJ],.int .i64 a1] w fun e w'=>e=.returned (.bool r)/\Below w.heap.size w w':=by
 have zH:=Tryd.underlying25
 have eU:=aA.mk jI
 have fK:=aA.mk jU
 clear jI jU
 have fB:=aA.mk jE
 have fM:=aA.mk jS
 clear jE jS
 have HB:=aA.mk (Below.refl w.heap.size w)
 have H:(eG.l0 k a1 0 aG aC)=some r:=h
 clear h
 have H':=aA.mk H
 clear H
 go_enter Tryd.func23,Tryd.ntmps23
 go_wp2_with (first|((with_reducible refine dU (N:=2) rfl ?_);refine eX 2 #[.slice aQ aG.length aK,.slice aT aC.length aJ] 25 ?_;intro OC hg w3 hbox hb;have fP:=aA.mk (hbox);have a4I:=gw hg HB;have a4J:=gw hg HB;replace HB:=bs HB hb;clear hb hbox hg))
 go_loopg [5] k (fun kq v5 w'=>∃ (bC:Int),v5=.int .i64 bC/\aA (eG.l0 kq a1 bC aG aC=some r)/\aA (kq<=k)/\aA (w'.heap[OC]? =some (.cells #[(.slice aQ aG.length aK),(.slice aT aC.length aJ)] 25 (0,0)))/\aA (Below w.heap.size w w'))
 case atStart=>exact⟨(0),(by first|rfl|(simp;done)|(simp[*];done)),H',⟨Nat.le_refl _⟩,⟨b_ fP⟩,⟨Bq HB⟩⟩
 case round=>
  clear H'
  obtain⟨bC,rfl,HA,fV,fP,HB⟩:=hrel
  rcases gk with _|k1
  ·exact absurd HA.out (by simp[eG.l0])
  have H:=HA.out
  clear HA
  simp only[eG.l0]at H
  by_cases c4:bC<(aG.length:Int)
  ·rw[if_pos c4]at H
   have yH:decide (bC<(aG.length:Int))=true:=decide_eq_true c4
   clear c4
   have H':=aA.mk H
   clear H
   obtain⟨ah0,ah1⟩:=bZ fP (.slice aQ aG.length aK) (.slice aT aC.length aJ)
   go_wp2
   go_loopg [6] k1 (fun kq v6 w'=>∃ (qJ:Int),v6=.int .i64 qJ/\aA (eG.l1 kq a1 bC qJ aG aC=some r)/\aA (kq<=k1)/\aA (w'.heap[OC]? =some (.cells #[(.slice aQ aG.length aK),(.slice aT aC.length aJ)] 25 (0,0)))/\aA (Below w.heap.size w w'))
   case atStart=>exact⟨(0),(by first|rfl|(simp;done)|(simp[*];done)),H',⟨Nat.le_refl _⟩,⟨b_ fP⟩,⟨Bq HB⟩⟩
   case round=>
    clear H'
    try clear c4
    try clear yH
    try clear ah0
    try clear ah1
    try clear auT
    try clear auU
    obtain⟨qJ,rfl,HA,mY,fP,HB⟩:=hrel
    rcases gk with _|k2
    ·exact absurd HA.out (by simp[eG.l1])
    have H:=HA.out
    clear HA
    simp only[eG.l1]at H
    by_cases c6:qJ<2
    ·rw[if_pos c6]at H
     have zJ:decide (qJ<2)=true:=decide_eq_true c6
     clear c6
     replace H:=Option.bind_eq_some_iff.mp H
     obtain⟨t164,zK,H⟩:=H
     replace H:((sJ.f aG aC bC t164 (qJ==1)).bind fun adA=>(if adA.2.2=true then(eG.l1 k2 a1 bC (wrap64 (qJ+1)) aG aC)else(some false)))=some r:=H
     have A7:=aA.mk zK
     clear zK
     replace H:=Option.bind_eq_some_iff.mp H
     obtain⟨⟨t167,t170,t173⟩,DZ,H⟩:=H
     replace H:(if t173=true then(eG.l1 k2 a1 bC (wrap64 (qJ+1)) aG aC)else(some false))=some r:=H
     have A8:=aA.mk DZ
     clear DZ
     by_cases c9:t173=true
     ·subst c9
      replace H:(eG.l1 k2 a1 bC (wrap64 (qJ+1)) aG aC)=some r:=by rw[if_pos rfl]at H;exact H
      have H':=aA.mk H
      clear H
      try go_wp2
      have aV:=aA.mk (gI fP.out)
      have aW:=aA.mk (sW HB.out)
      clear fP HB
      have fP:=aV
      have HB:=aW
      clear aV aW
      refine xP (n:=16) (S:=fun w'=>w'.cell? ⟨OC,0,none⟩=some (.slice aQ aG.length aK)/\w'.cell? ⟨OC,1,none⟩=some (.slice aT aC.length aJ)) (ds:=[]) (bl 16 0) (by kernel_rfl) rfl rfl ⟨kc fP 0,kc fP 1⟩ (fun hHeld=>?_);refine yS eG.alL eG.alM (fun aN jG=>?_)
      generalize wr.drew=w10 at fP HB hHeld ⊢
      refine pS 1 23 16 2 aN ?_
      refine pS 3 25 16 10 aN ?_
      refine pS 4 26 16 26 aN ?_
      refine pS 6 28 16 90 aN ?_
      refine pS 7 29 16 218 aN ?_
      refine tq 0 (some 22) (bl 16 219) aN jG hHeld (h:=?_)
      refine tq 2 (some 24) (bl 16 223) aN jG hHeld (h:=?_)
      refine lI (i:=5) (N:=some 27) (bl 16 255) rfl rfl (lJ aN.out (by kernel_rfl)) (by decide) (fun K hK=>?_)
      refine rD Tryd.func70 (by kernel_rfl) rfl #[.agg #[.slice aQ aG.length aK,.slice aT aC.length aJ],.int .i64 bC,.int .i64 a1] (by rfl) rfl rfl (by(try simp only[List.map_toArray,List.map_cons,List.map_nil]);first|done|rfl|(simp only[List.length_drop,List.length_take];rfl)) ?_
      with_reducible refine(qI.calls k2 _ _ aG _ _ aC bC a1 t164 _ ?jK ?jL ?jM ?jO A7.out).mono ?_
      (case jK=>exact Kd.bJ eU.out (Bq HB))
      (case jL=>exact fK.out)
      (case jM=>exact Kd.bJ fB.out (Bq HB))
      (case jO=>exact fM.out)
      rintro e vK ⟨aoU,rfl,ho0,hb⟩
      refine⟨_,rfl,?_⟩
      have aV:=aA.mk (Kd.eF ho0 (dH (Bq HB)))
      have aW:=bb fP hb
      have aY:=bs HB hb
      clear fP HB
      have kM:=aV
      have fP:=aW
      have HB:=aY
      clear aV aW aY
      (try clear hb)
      (try clear hb2)
      (try clear hk)
      (try clear hi)
      (try clear ho0)
      obtain⟨acQ,acR,alN⟩:=Kd.dA kM.out
      (first|subst alN|(injection alN with kG pF kH;have pG:=kG.symm;have pI:=kH.symm;clear kG pF kH;subst pG;subst pI))
      refine hK.out _ _ ⟨kc fP 0,kc fP 1⟩ (fun hHeld=>?_)
      clear hK K
      refine nq 27 ?_
      refine lI (i:=8) (N:=some 30) (bl 16 511) rfl rfl (lJ aN.out (by kernel_rfl)) (by decide) (fun K hK=>?_)
      refine rD Tryd.func69 (by kernel_rfl) rfl #[.agg #[.slice aQ aG.length aK,.slice aT aC.length aJ],.int .i64 bC,.slice acQ t164.length acR,.bool (qJ==1)] (by rfl) rfl rfl (by(try simp only[List.map_toArray,List.map_cons,List.map_nil]);first|done|rfl|(simp only[List.length_drop,List.length_take];rfl)) ?_
      with_reducible refine(sJ.calls _ _ aG _ _ aC bC _ _ t164 (qJ==1) t167 t170 true _ ?jK ?jL ?jM ?jO ?WB ?WC A8.out).mono ?_
      (case jK=>exact Kd.bJ eU.out (Bq HB))
      (case jL=>exact fK.out)
      (case jM=>exact Kd.bJ fB.out (Bq HB))
      (case jO=>exact fM.out)
      (case WB=>exact rC kM)
      (case WC=>exact(Kd.dB kM.out).2.1)
      rintro e tV ⟨v168,v171,rfl,ho0,ho1,hb⟩
      refine⟨_,rfl,?_⟩
      have aV:=RB kM hb
      have aW:=aA.mk (Kd.eF ho0 (dH (Bq HB)))
      have aY:=aA.mk (Kd.eF ho1 (dH (Bq HB)))
      have bI:=bb fP hb
      have cO:=bs HB hb
      clear kM fP HB
      have kM:=aV
      have tK:=aW
      have aAP:=aY
      have fP:=bI
      have HB:=cO
      clear aV aW aY bI cO
      (try clear hb)
      (try clear hb2)
      (try clear hk)
      (try clear hi)
      (try clear ho0)
      (try clear ho1)
      refine hK.out _ _ ⟨kc fP 0,kc fP 1⟩ (fun hHeld=>?_)
      clear hK K
      refine nq 30 ?_
      refine pS 9 21 16 1023 aN ?_
      refine pS 10 31 16 2047 aN ?_
      refine pS 11 32 16 4095 aN ?_
      refine pS 12 33 16 8191 aN ?_
      refine pS 13 7 16 16383 aN ?_
      refine pS 14 8 16 32767 aN ?_
      refine pS 15 9 16 65535 aN ?_
      refine xQ (yR aN.out (by kernel_rfl)) ?_
      try go_wp2
      go_roundg k2
      case measure=>have:=fV.out;have:=mY.out;omega
      case rel=>exact⟨(wrap64 (qJ+1)),(by first|rfl|(simp;done)|(simp[*];done)),H',⟨by have:=fV.out;have:=mY.out;omega⟩,⟨b_ fP⟩,⟨Bq HB⟩⟩
     replace c9:=Bool.eq_false_iff.mpr c9
     subst c9
     replace H:(some false)=some r:=by rw[if_neg (show ¬ (false=true) by decide)]at H;exact H
     obtain rfl:=Option.some.inj H
     try go_wp2
     have aV:=aA.mk (gI fP.out)
     have aW:=aA.mk (sW HB.out)
     clear fP HB
     have fP:=aV
     have HB:=aW
     clear aV aW
     refine xP (n:=16) (S:=fun w'=>w'.cell? ⟨OC,0,none⟩=some (.slice aQ aG.length aK)/\w'.cell? ⟨OC,1,none⟩=some (.slice aT aC.length aJ)) (ds:=[]) (bl 16 0) (by kernel_rfl) rfl rfl ⟨kc fP 0,kc fP 1⟩ (fun hHeld=>?_);refine yS eG.alL eG.alM (fun aN jG=>?_)
     generalize wr.drew=rU at fP HB hHeld ⊢
     refine pS 1 23 16 2 aN ?_
     refine pS 3 25 16 10 aN ?_
     refine pS 4 26 16 26 aN ?_
     refine pS 6 28 16 90 aN ?_
     refine pS 7 29 16 218 aN ?_
     refine tq 0 (some 22) (bl 16 219) aN jG hHeld (h:=?_)
     refine tq 2 (some 24) (bl 16 223) aN jG hHeld (h:=?_)
     refine lI (i:=5) (N:=some 27) (bl 16 255) rfl rfl (lJ aN.out (by kernel_rfl)) (by decide) (fun K hK=>?_)
     refine rD Tryd.func70 (by kernel_rfl) rfl #[.agg #[.slice aQ aG.length aK,.slice aT aC.length aJ],.int .i64 bC,.int .i64 a1] (by rfl) rfl rfl (by(try simp only[List.map_toArray,List.map_cons,List.map_nil]);first|done|rfl|(simp only[List.length_drop,List.length_take];rfl)) ?_
     with_reducible refine(qI.calls k2 _ _ aG _ _ aC bC a1 t164 _ ?jK ?jL ?jM ?jO A7.out).mono ?_
     (case jK=>exact Kd.bJ eU.out (Bq HB))
     (case jL=>exact fK.out)
     (case jM=>exact Kd.bJ fB.out (Bq HB))
     (case jO=>exact fM.out)
     rintro e vY ⟨aoU,rfl,ho0,hb⟩
     refine⟨_,rfl,?_⟩
     have aV:=aA.mk (Kd.eF ho0 (dH (Bq HB)))
     have aW:=bb fP hb
     have aY:=bs HB hb
     clear fP HB
     have kM:=aV
     have fP:=aW
     have HB:=aY
     clear aV aW aY
     (try clear hb)
     (try clear hb2)
     (try clear hk)
     (try clear hi)
     (try clear ho0)
     obtain⟨VL,VM,YH⟩:=Kd.dA kM.out
     (first|subst YH|(injection YH with kG pF kH;have pG:=kG.symm;have pI:=kH.symm;clear kG pF kH;subst pG;subst pI))
     refine hK.out _ _ ⟨kc fP 0,kc fP 1⟩ (fun hHeld=>?_)
     clear hK K
     refine nq 27 ?_
     refine lI (i:=8) (N:=some 30) (bl 16 511) rfl rfl (lJ aN.out (by kernel_rfl)) (by decide) (fun K hK=>?_)
     refine rD Tryd.func69 (by kernel_rfl) rfl #[.agg #[.slice aQ aG.length aK,.slice aT aC.length aJ],.int .i64 bC,.slice VL t164.length VM,.bool (qJ==1)] (by rfl) rfl rfl (by(try simp only[List.map_toArray,List.map_cons,List.map_nil]);first|done|rfl|(simp only[List.length_drop,List.length_take];rfl)) ?_
     with_reducible refine(sJ.calls _ _ aG _ _ aC bC _ _ t164 (qJ==1) t167 t170 false _ ?jK ?jL ?jM ?jO ?WB ?WC A8.out).mono ?_
     (case jK=>exact Kd.bJ eU.out (Bq HB))
     (case jL=>exact fK.out)
     (case jM=>exact Kd.bJ fB.out (Bq HB))
     (case jO=>exact fM.out)
     (case WB=>exact rC kM)
     (case WC=>exact(Kd.dB kM.out).2.1)
     rintro e uS ⟨v168,v171,rfl,ho0,ho1,hb⟩
     refine⟨_,rfl,?_⟩
     have aV:=RB kM hb
     have aW:=aA.mk (Kd.eF ho0 (dH (Bq HB)))
     have aY:=aA.mk (Kd.eF ho1 (dH (Bq HB)))
     have bI:=bb fP hb
     have cO:=bs HB hb
     clear kM fP HB
     have kM:=aV
     have tK:=aW
     have aAP:=aY
     have fP:=bI
     have HB:=cO
     clear aV aW aY bI cO
     (try clear hb)
     (try clear hb2)
     (try clear hk)
     (try clear hi)
     (try clear ho0)
     (try clear ho1)
     refine hK.out _ _ ⟨kc fP 0,kc fP 1⟩ (fun hHeld=>?_)
     clear hK K
     refine nq 30 ?_
     refine pS 9 21 16 1023 aN ?_
     refine pS 10 31 16 2047 aN ?_
     refine pS 11 32 16 4095 aN ?_
     refine pS 12 33 16 8191 aN ?_
     refine pS 13 7 16 16383 aN ?_
     refine pS 14 8 16 32767 aN ?_
     refine pS 15 9 16 65535 aN ?_
     refine xQ (yR aN.out (by kernel_rfl)) ?_
     try go_wp2
     go_ret
     exact eR HB
    rw[if_neg c6]at H
    have zJ:decide (qJ<2)=false:=decide_eq_false c6
    clear c6
    have H':=aA.mk H
    clear H
    go_wp2
    go_roundg k2
    case measure=>have:=fV.out;have:=mY.out;omega
    case rel=>exact⟨(wrap64 (bC+1)),(by first|rfl|(simp;done)|(simp[*];done)),H',⟨by have:=fV.out;have:=mY.out;omega⟩,⟨b_ fP⟩,⟨Bq HB⟩⟩
  rw[if_neg c4]at H
  have yH:decide (bC<(aG.length:Int))=false:=decide_eq_false c4
  clear c4
  obtain rfl:=Option.some.inj H
  obtain⟨OW,OX⟩:=bZ fP (.slice aQ aG.length aK) (.slice aT aC.length aJ)
  go_wp2
  go_ret
  exact eR HB
mutual
def iC.l0:Nat->Bool->List (aH)->Int->List (aZ)->List (aI)->Option ((List (aH)))
  |0,_,_,_,_,_=>none
  |k+1,x1,x5,x6,ES,TI=>if x6<(ES.length:Int)then((pY.f ES TI).bind fun t179=>((qI.f k ES TI x6 t179).bind fun t180=>((sJ.f ES TI x6 t180 x1).bind fun adL=>(if 0<=x6 then((yL.f ((dK ES x6).f0) ((dK ES x6).f1) x1).bind fun t191=>(iC.l1 k x1 x5 x6 adL.1 t191 0 ES TI (wrap64 (t191+1)) 0))else(none)))))else(some x5)
def iC.l1:Nat->Bool->List (aH)->Int->List Bool->Int->Int->List (aZ)->List (aI)->Int->Int->Option ((List (aH)))
  |0,_,_,_,_,_,_,_,_,_,_=>none
  |k+1,x1,x5,x6,x7,x10,x12,ES,TI,aoZ,ao0=>if x12<=x10 then(if 0<=x12 then(if x12<(x7.length:Int)then(if adX false x7 x12=true then(iC.l1 k x1 x5 x6 x7 x10 (wrap64 (x12+1)) ES TI (mn aoZ (wrap64 (x10 - x12))) (mx ao0 (wrap64 (x10 - x12))))else(iC.l1 k x1 x5 x6 x7 x10 (wrap64 (x12+1)) ES TI aoZ ao0))else(none))else(none))else(if x5.length<8796093022208 then(iC.l0 k x1 (x5++[(⟨aoZ,ao0⟩:aH)]) (wrap64 (x6+1)) ES TI)else(none))
end
def iC.f (k:Nat) (aG:List (aZ)) (aC:List (aI)) (a1:Bool):Option ((List (aH))):=iC.l0 k a1 (([]:List (aH))) 0 aG aC
def iC.T5:Bool×List (List Nat×List Nat):=(true,[([],[]),([],[]),([],[]),([],[]),([],[]),([4],[4]),([2,3,5,5],[2,3,5]),([],[]),([0,1,6,7,6],[0,1,6,7]),([8],[8]),([9],[9]),([9],[9]),([9],[9]),([10,8,0,1,2,3,4,5,6,7,8,9,10],[10]),([11,13,0,1,2,3,4,5,6,7,8,9,10,11,13],[11]),([12,14,0,1,2,3,4,5,6,7,8,9,10,11,12,13,14],[12])])
def iC.B5:List Nat:=[0,0,0,0,0,16,60,0,255,511,1023,1023,1023,2047,12287,32767]
theorem iC.aQZ:qW .any (opsOf Tryd.f25 5)=iC.T5:=by kernel_rfl
theorem iC.aQ0:CZ iC.T5.2 iC.B5=true:=by kernel_rfl
theorem iC.calls (k:Nat) (aQ:Option Addr) (aK:Nat) (aG:List (aZ)) (aT:Option Addr) (aJ:Nat) (aC:List (aI)) (a1:Bool) (r:List (aH)) (w:World) (jI:Kd.C iJ w aQ aG.length aG) (jU:aG.length<=aK) (jE:Kd.C iE w aT aC.length aC) (jS:aC.length<=aJ) (h:iC.f k aG aC a1=some r):
    Calls Tryd.prog 25 #[.agg #[.slice aQ aG.length aK,.slice aT aC.length aJ],.bool a1] w fun e w'=>∃ iG:Value,e=.returned (iG)/\Kd.R iD 42 w' w.heap.size (fun _=>True) iG r/\Below w.heap.size w w':=by
 have zH:=Tryd.underlying25
 have am0:=Tryd.underlying89
 have QY:=Tryd.underlying42
 have eU:=aA.mk jI
 have fK:=aA.mk jU
 clear jI jU
 have fB:=aA.mk jE
 have fM:=aA.mk jS
 clear jE jS
 have HB:=aA.mk (Below.refl w.heap.size w)
 have H:(iC.l0 k a1 (([]:List (aH))) 0 aG aC)=some r:=h
 clear h
 obtain⟨aBQ,adM⟩:∃ y_:List (aH),y_=(([]:List (aH))):=⟨_,rfl⟩
 replace H:(iC.l0 k a1 aBQ 0 aG aC)=some r:=by first|(rw[adM];with_reducible exact H)|(have dJ:=(Option.bind_some _ _).symm.trans H;rw[adM];with_reducible exact dJ)|(have dJ:=(Option.bind_some _ _).symm.trans H;with_reducible exact dJ)|with_reducible exact H|(rw[adM];exact H)|exact H
 have aBR:=aA.mk adM
 clear adM
 have H':=aA.mk H
 clear H
 go_enter Tryd.func25,Tryd.ntmps25
 go_wp2_with (first|((with_reducible refine dU (N:=2) rfl ?_);refine eX 2 #[.slice aQ aG.length aK,.slice aT aC.length aJ] 25 ?_;intro WG hg w3 hbox hb;have jC:=aA.mk (hbox);have brD:=gw hg HB;have brE:=gw hg HB;replace HB:=bs HB hb;clear hb hbox hg)|((with_reducible refine dU (N:=13) rfl ?_);refine Kd.YX iD _ 42 ?hg (N:=13) ?hd (xs:=([]:List (aH))) (inner:=[]) (ok:=fun _=>True) (lS:=fun _=>True) ?hr ?hp (fun _ hk=>hk) trivial (Below.refl _ _) (Nat.le_refl _) (by simp) ?_;(case hd=>rfl);(case hg=>rfl);(case hr=>first|(go_simp;done)|(go_simp;rfl));(case hp=>exact(gX.none _ _));intro brF w4 XY hb mF mG;clear mF mG;(first|rw[<-aBR.out]at XY|(simp only[Int.reduceToNat]at XY;rw[<-aBR.out]at XY));have aQ1:=aA.mk (Kd.eF XY (dH (Bq HB)));replace jC:=bb jC hb;replace HB:=bs HB hb;clear hb XY))
 go_loopg [5,6] k (fun kq v5 v6 w'=>∃ (bC:List (aH)) (dZ:Int),v6=.int .i64 dZ/\aA (iC.l0 kq a1 bC dZ aG aC=some r)/\aA (kq<=k)/\aA (Kd.R iD 42 w' w.heap.size (fun _=>True) v5 bC)/\aA (w'.heap[WG]? =some (.cells #[(.slice aQ aG.length aK),(.slice aT aC.length aJ)] 25 (0,0)))/\aA (Below w.heap.size w w'))
 case atStart=>exact⟨(aBQ),(0),(by first|rfl|(simp;done)|(simp[*];done)),H',⟨Nat.le_refl _⟩,⟨R_ aQ1⟩,⟨b_ jC⟩,⟨Bq HB⟩⟩
 case round=>
  clear H'
  obtain⟨bC,dZ,rfl,HA,fV,bP,jC,HB⟩:=hrel
  rcases gk with _|k1
  ·exact absurd HA.out (by simp[iC.l0])
  have H:=HA.out
  clear HA
  simp only[iC.l0]at H
  by_cases c6:dZ<(aG.length:Int)
  ·rw[if_pos c6]at H
   have zJ:decide (dZ<(aG.length:Int))=true:=decide_eq_true c6
   clear c6
   replace H:=Option.bind_eq_some_iff.mp H
   obtain⟨t179,zK,H⟩:=H
   replace H:((qI.f k1 aG aC dZ t179).bind fun t180=>((sJ.f aG aC dZ t180 a1).bind fun adL=>(if 0<=dZ then((yL.f ((dK aG dZ).f0) ((dK aG dZ).f1) a1).bind fun t191=>(iC.l1 k1 a1 bC dZ adL.1 t191 0 aG aC (wrap64 (t191+1)) 0))else(none))))=some r:=H
   have A7:=aA.mk zK
   clear zK
   replace H:=Option.bind_eq_some_iff.mp H
   obtain⟨t180,DZ,H⟩:=H
   replace H:((sJ.f aG aC dZ t180 a1).bind fun adL=>(if 0<=dZ then((yL.f ((dK aG dZ).f0) ((dK aG dZ).f1) a1).bind fun t191=>(iC.l1 k1 a1 bC dZ adL.1 t191 0 aG aC (wrap64 (t191+1)) 0))else(none)))=some r:=H
   have A8:=aA.mk DZ
   clear DZ
   replace H:=Option.bind_eq_some_iff.mp H
   obtain⟨⟨t183,t186,t189⟩,YM,H⟩:=H
   replace H:(if 0<=dZ then((yL.f ((dK aG dZ).f0) ((dK aG dZ).f1) a1).bind fun t191=>(iC.l1 k1 a1 bC dZ t183 t191 0 aG aC (wrap64 (t191+1)) 0))else(none))=some r:=H
   have A9:=aA.mk YM
   clear YM
   by_cases c10:0<=dZ
   ·rw[if_pos c10]at H
    have anN:decide (0<=dZ)=true:=decide_eq_true c10
    clear c10
    replace H:=Option.bind_eq_some_iff.mp H
    obtain⟨t191,wJ,H⟩:=H
    replace H:(iC.l1 k1 a1 bC dZ t183 t191 0 aG aC (wrap64 (t191+1)) 0)=some r:=H
    have BU:=aA.mk wJ
    clear wJ
    have H':=aA.mk H
    clear H
    obtain⟨ad6,ad7⟩:=bZ jC (.slice aQ aG.length aK) (.slice aT aC.length aJ)
    try go_wp2
    have aV:=aA.mk (Kd.dG bP.out)
    have aW:=aA.mk (gI jC.out)
    have aY:=aA.mk (sW HB.out)
    clear bP jC HB
    have bP:=aV
    have jC:=aW
    have HB:=aY
    clear aV aW aY
    refine xP (n:=16) (S:=fun w'=>w'.cell? ⟨WG,0,none⟩=some (.slice aQ aG.length aK)/\w'.cell? ⟨WG,1,none⟩=some (.slice aT aC.length aJ)) (ds:=[]) (bl 16 0) (by kernel_rfl) rfl rfl ⟨kc jC 0,kc jC 1⟩ (fun hHeld=>?_);refine yS iC.aQZ iC.aQ0 (fun aN jG=>?_)
    generalize wr.drew=tV at bP jC HB hHeld ⊢
    refine pS 1 23 16 2 aN ?_
    refine pS 3 25 16 10 aN ?_
    refine pS 7 29 16 138 aN ?_
    refine tq 0 (some 22) (bl 16 139) aN jG hHeld (h:=?_)
    refine tq 2 (some 24) (bl 16 143) aN jG hHeld (h:=?_)
    refine tq 4 (some 26) (bl 16 159) aN jG hHeld (h:=?_)
    refine lI (i:=5) (N:=some 27) (bl 16 191) rfl rfl (lJ aN.out (by kernel_rfl)) (by decide) (fun K hK=>?_)
    refine rD Tryd.func24 (by kernel_rfl) rfl #[.agg #[.slice aQ aG.length aK,.slice aT aC.length aJ]] (by rfl) rfl rfl (by(try simp only[List.map_toArray,List.map_cons,List.map_nil]);first|done|rfl|(simp only[List.length_drop,List.length_take];rfl)) ?_
    with_reducible refine(pY.calls _ _ aG _ _ aC t179 _ ?jK ?jL ?jM ?jO A7.out).mono ?_
    (case jK=>exact Kd.bJ eU.out (Bq HB))
    (case jL=>exact fK.out)
    (case jM=>exact Kd.bJ fB.out (Bq HB))
    (case jO=>exact fM.out)
    rintro e rU ⟨rfl,hb⟩
    refine⟨_,rfl,?_⟩
    have aV:=RB bP hb
    have aW:=bb jC hb
    have aY:=bs HB hb
    clear bP jC HB
    have bP:=aV
    have jC:=aW
    have HB:=aY
    clear aV aW aY
    (try clear hb)
    (try clear hb2)
    (try clear hk)
    (try clear hi)
    refine hK.out _ _ ⟨kc jC 0,kc jC 1⟩ (fun hHeld=>?_)
    clear hK K
    refine nq 27 ?_
    refine lI (i:=6) (N:=some 28) (bl 16 255) rfl rfl (lJ aN.out (by kernel_rfl)) (by decide) (fun K hK=>?_)
    refine rD Tryd.func70 (by kernel_rfl) rfl #[.agg #[.slice aQ aG.length aK,.slice aT aC.length aJ],.int .i64 dZ,.int .i64 t179] (by rfl) rfl rfl (by(try simp only[List.map_toArray,List.map_cons,List.map_nil]);first|done|rfl|(simp only[List.length_drop,List.length_take];rfl)) ?_
    with_reducible refine(qI.calls k1 _ _ aG _ _ aC dZ t179 t180 _ ?jK ?jL ?jM ?jO A8.out).mono ?_
    (case jK=>exact Kd.bJ eU.out (Bq HB))
    (case jL=>exact fK.out)
    (case jM=>exact Kd.bJ fB.out (Bq HB))
    (case jO=>exact fM.out)
    rintro e vY ⟨aQY,rfl,ho0,hb⟩
    refine⟨_,rfl,?_⟩
    have aV:=RB bP hb
    have aW:=aA.mk (Kd.eF ho0 (dH (Bq HB)))
    have aY:=bb jC hb
    have bI:=bs HB hb
    clear bP jC HB
    have bP:=aV
    have zF:=aW
    have jC:=aY
    have HB:=bI
    clear aV aW aY bI
    (try clear hb)
    (try clear hb2)
    (try clear hk)
    (try clear hi)
    (try clear ho0)
    obtain⟨VL,VM,YH⟩:=Kd.dA zF.out
    (first|subst YH|(injection YH with kG pF kH;have pG:=kG.symm;have pI:=kH.symm;clear kG pF kH;subst pG;subst pI))
    refine hK.out _ _ ⟨kc jC 0,kc jC 1⟩ (fun hHeld=>?_)
    clear hK K
    refine nq 28 ?_
    refine lI (i:=8) (N:=some 30) (bl 16 511) rfl rfl (lJ aN.out (by kernel_rfl)) (by decide) (fun K hK=>?_)
    refine rD Tryd.func69 (by kernel_rfl) rfl #[.agg #[.slice aQ aG.length aK,.slice aT aC.length aJ],.int .i64 dZ,.slice VL t180.length VM,.bool a1] (by rfl) rfl rfl (by(try simp only[List.map_toArray,List.map_cons,List.map_nil]);first|done|rfl|(simp only[List.length_drop,List.length_take];rfl)) ?_
    with_reducible refine(sJ.calls _ _ aG _ _ aC dZ _ _ t180 a1 t183 t186 t189 _ ?jK ?jL ?jM ?jO ?WB ?WC A9.out).mono ?_
    (case jK=>exact Kd.bJ eU.out (Bq HB))
    (case jL=>exact fK.out)
    (case jM=>exact Kd.bJ fB.out (Bq HB))
    (case jO=>exact fM.out)
    (case WB=>exact rC zF)
    (case WC=>exact(Kd.dB zF.out).2.1)
    rintro e uS ⟨aQ2,brG,rfl,ho0,ho1,hb⟩
    refine⟨_,rfl,?_⟩
    have aV:=aA.mk (Kd.gW (R_ bP) (Kd.fF ho1) hb)
    have aW:=RB zF hb
    have aY:=aA.mk (Kd.eF ho0 (dH (Bq HB)))
    have bI:=aA.mk (Kd.eF (Kd.fG ho1 (Kd.dY (R_ bP))) (dH (Bq HB)))
    have cO:=bb jC hb
    have gY:=bs HB hb
    clear bP zF jC HB
    have bP:=aV
    have zF:=aW
    have adN:=aY
    have agW:=bI
    have jC:=cO
    have HB:=gY
    clear aV aW aY bI cO gY
    (try clear hb)
    (try clear hb2)
    (try clear hk)
    (try clear hi)
    (try clear ho0)
    (try clear ho1)
    refine hK.out _ _ ⟨kc jC 0,kc jC 1⟩ (fun hHeld=>?_)
    clear hK K
    refine nq 30 ?_
    refine pS 9 21 16 1023 aN ?_
    refine pS 10 31 16 2047 aN ?_
    refine pS 11 32 16 4095 aN ?_
    refine pS 12 33 16 8191 aN ?_
    refine pS 13 7 16 16383 aN ?_
    refine pS 14 8 16 32767 aN ?_
    refine pS 15 9 16 65535 aN ?_
    refine xQ (yR aN.out (by kernel_rfl)) ?_
    obtain⟨OW,OX⟩:=bZ jC (.slice aQ aG.length aK) (.slice aT aC.length aJ)
    have agX:0<=(dZ:Int):=od
    have agY:dZ<(aG.length:Int):=od
    obtain⟨agZ,e190,ao1,ao2⟩:=QW eU.out dZ agX agY
    cases e190
    replace ao1:=xs HB ao1
    replace ao2:=xs HB ao2
    replace agX:=eq_true agX
    replace agY:=eq_true agY
    try go_wp2_with (first|((with_reducible refine gJ (f:=71) rfl ?_);refine cE 40 Tryd.func71 #[.agg #[.int .i64 ((dK aG dZ).f0),.int .i64 ((dK aG dZ).f1)],.bool a1] ?_;(with_reducible refine(yL.calls ((dK aG dZ).f0) ((dK aG dZ).f1) a1 t191 _ BU.out).mono ?_);rintro e xU ⟨rfl,hb⟩;refine⟨_,rfl,?_⟩;replace bP:=RB bP hb;replace zF:=RB zF hb;replace adN:=RB adN hb;replace agW:=RB agW hb;replace jC:=aA.mk (fC (g:=WG) (o:=.cells #[.slice (some agZ) aG.length aK,.slice aT aC.length aJ] 25 (0,0)) (b_ jC) hb);replace HB:=bs HB hb;(try clear hb))|((with_reducible refine dU (N:=11) rfl ?_);refine eX 11 #[.int .i64 0,.int .i64 0] 42 ?_;intro vU hg zD hbox hb;have tZ:=aA.mk (hbox);have brH:=gw hg HB;have brI:=gw hg HB;have WH:=nl hg jC;have ao3:=ng hg jC;replace bP:=aA.mk (Kd.rY (Kd.ZW (R_ bP) vU (Nat.le_of_eq hg.symm)) hb);replace zF:=RB zF hb;replace adN:=RB adN hb;replace agW:=aA.mk (Kd.rY (Kd.ZW (R_ agW) vU (Nat.le_of_eq hg.symm)) hb);replace jC:=aA.mk (fC (g:=WG) (o:=.cells #[.slice (some agZ) aG.length aK,.slice aT aC.length aJ] 25 (0,0)) (b_ jC) hb);replace HB:=bs HB hb;clear hb hbox hg;have aZI:=ao3.out;have aZJ:=WH.out;obtain⟨aFN,aFO⟩:=bZ tZ (.int .i64 0) (.int .i64 0);have aQ3:=aX tZ.out 0;have aQ4:=aX tZ.out 1))
    go_loopg [12] k1 (fun kq v12 w'=>∃ (jR:Int) (sQ:Int) (qV:Int),v12=.int .i64 jR/\aA (iC.l1 kq a1 bC dZ t183 t191 jR aG aC sQ qV=some r)/\aA (kq<=k1)/\aA (Kd.R iD 42 w' w.heap.size (fun k_=>k_≠vU) u5 bC)/\aA (Kd.R Kd.bool 4 w' w.heap.size (fun _=>True) aQ2 t183)/\aA (w'.heap[WG]? =some (.cells #[(.slice (some agZ) aG.length aK),(.slice aT aC.length aJ)] 25 (0,0)))/\aA (w'.heap[vU]? =some (.cells #[.int .i64 sQ,.int .i64 qV] 42 (0,0)))/\aA (Below w.heap.size w w'))
    case atStart=>exact⟨(0),(wrap64 (t191+1)),(0),(by first|rfl|(simp;done)|(simp[*];done)),H',⟨Nat.le_refl _⟩,⟨by(with_reducible repeat(first|apply Kd.fQ|apply Kd.fU|apply Kd.dG));exact Kd.bQ (Kd.bK (p:=⟨vU,1,none⟩) (Kd.bK (p:=⟨vU,0,none⟩) (Kd.bQ bP.out (fun k_ hk=>(⟨hk,hk.2⟩:_/\k_≠vU))) (fun _ hk=>hk.2) (.int .i64 (wrap64 (t191+1)))) (fun _ hk=>hk.2) (.int .i64 0)) (fun _ hk=>hk.1.2)⟩,⟨by(with_reducible repeat(first|apply Kd.fQ|apply Kd.fU|apply Kd.dG));exact Kd.bQ (Kd.bK (p:=⟨vU,1,none⟩) (Kd.bK (p:=⟨vU,0,none⟩) (Kd.gB adN.out tZ.out (by decide)) (fun _ hk=>hk.2) (.int .i64 (wrap64 (t191+1)))) (fun _ hk=>hk.2) (.int .i64 0)) (fun _ hk=>trivial)⟩,⟨by exact bG (bG (b_ jC) WH.out _) WH.out _⟩,⟨by exact dE (cs:=#[.int .i64 (wrap64 (t191+1)),.int .i64 0]) (dE (cs:=#[.int .i64 0,.int .i64 0]) (b_ tZ) 0 _ rfl) 1 _ rfl⟩,⟨Bq HB⟩⟩
    case round=>
     clear H'
     try clear c6
     try clear zJ
     try clear c10
     try clear anN
     try clear ad6
     try clear ad7
     try clear OW
     try clear OX
     try clear aFN
     try clear aFO
     try clear amK
     try clear amL
     try clear afD
     try clear afE
     try clear aQ3
     try clear aQ4
     try clear ao1
     try clear ao2
     try clear agX
     try clear agY
     obtain⟨jR,sQ,qV,rfl,HA,mY,bP,mQ,jC,tZ,HB⟩:=hrel
     rcases gk with _|k2
     ·exact absurd HA.out (by simp[iC.l1])
     have H:=HA.out
     clear HA
     simp only[iC.l1]at H
     by_cases c23:jR<=t191
     ·rw[if_pos c23]at H
      have aqO:decide (jR<=t191)=true:=decide_eq_true c23
      clear c23
      by_cases c24:0<=jR
      ·rw[if_pos c24]at H
       have auO:decide (0<=jR)=true:=decide_eq_true c24
       clear c24
       by_cases c25:jR<(t183.length:Int)
       ·rw[if_pos c25]at H
        have aUS:decide (jR<(t183.length:Int))=true:=decide_eq_true c25
        clear c25
        obtain⟨aBS,ao4⟩:∃ b_:Bool,b_=(adX false t183 jR):=⟨_,rfl⟩
        replace H:(if aBS=true then(iC.l1 k2 a1 bC dZ t183 t191 (wrap64 (jR+1)) aG aC (mn sQ (wrap64 (t191 - jR))) (mx qV (wrap64 (t191 - jR))))else(iC.l1 k2 a1 bC dZ t183 t191 (wrap64 (jR+1)) aG aC sQ qV))=some r:=by rw[<-ao4]at H;exact H
        have aBT:=aA.mk ao4
        clear ao4
        by_cases FC:aBS=true
        ·subst FC
         replace H:(iC.l1 k2 a1 bC dZ t183 t191 (wrap64 (jR+1)) aG aC (mn sQ (wrap64 (t191 - jR))) (mx qV (wrap64 (t191 - jR))))=some r:=by rw[if_pos rfl]at H;exact H
         obtain⟨WI,ao5⟩:∃ j_:Int,(mn sQ (wrap64 (t191 - jR)))=j_:=⟨_,rfl⟩
         replace H:(iC.l1 k2 a1 bC dZ t183 t191 (wrap64 (jR+1)) aG aC WI (mx qV (wrap64 (t191 - jR))))=some r:=by first|(rw[ao5]at H;exact H)|(simp only[ao5]at H ⊢;exact H)
         have brJ:(if(wrap64 (t191 - jR))<sQ then(wrap64 (t191 - jR))else sQ)=WI:=ao5
         obtain⟨adO,ao6⟩:∃ j_:Int,(mx qV (wrap64 (t191 - jR)))=j_:=⟨_,rfl⟩
         replace H:(iC.l1 k2 a1 bC dZ t183 t191 (wrap64 (jR+1)) aG aC WI adO)=some r:=by first|(rw[ao6]at H;exact H)|(simp only[ao6]at H ⊢;exact H)
         have brK:(if qV<(wrap64 (t191 - jR))then(wrap64 (t191 - jR))else qV)=adO:=ao6
         have H':=aA.mk H
         clear H
         obtain⟨brL,brM,rfl⟩:=Kd.dA mQ.out
         have WJ:0<=(jR:Int):=od
         have WL:jR<(t183.length:Int):=od
         obtain⟨aQ5,ao7,ao8⟩:=Kd.aCL (Kd.dB mQ.out).2.2 jR WJ WL
         (try rw[<-aBT.out]at ao8)
         cases ao7
         replace WJ:=eq_true WJ
         replace WL:=eq_true WL
         have aqI:=ao3.out
         have aqJ:=WH.out
         obtain⟨aqK,aqL⟩:=bZ tZ (.int .i64 sQ) (.int .i64 qV)
         have aDE:=aX tZ.out 0
         have aDF:=aX tZ.out 1
         go_wp2
         go_roundg k2
         case measure=>have:=fV.out;have:=mY.out;omega
         case rel=>exact⟨(wrap64 (jR+1)),(WI),(adO),(by first|rfl|(simp;done)|(simp[*];done)),H',⟨by have:=fV.out;have:=mY.out;omega⟩,⟨by(with_reducible repeat(first|apply Kd.fQ|apply Kd.fU|apply Kd.dG));exact Kd.bQ (Kd.bK (p:=⟨vU,1,none⟩) (Kd.bK (p:=⟨vU,0,none⟩) (Kd.bQ bP.out (fun k_ hk=>(⟨hk,hk⟩:_/\k_≠vU))) (fun _ hk=>hk.2) (.int .i64 WI)) (fun _ hk=>hk.2) (.int .i64 adO)) (fun _ hk=>hk.1)⟩,⟨by(with_reducible repeat(first|apply Kd.fQ|apply Kd.fU|apply Kd.dG));exact Kd.bQ (Kd.bK (p:=⟨vU,1,none⟩) (Kd.bK (p:=⟨vU,0,none⟩) (Kd.gB mQ.out tZ.out (by decide)) (fun _ hk=>hk.2) (.int .i64 WI)) (fun _ hk=>hk.2) (.int .i64 adO)) (fun _ hk=>trivial)⟩,⟨by exact bG (bG (b_ jC) WH.out _) WH.out _⟩,⟨by exact dE (cs:=#[.int .i64 WI,.int .i64 qV]) (dE (cs:=#[.int .i64 sQ,.int .i64 qV]) (b_ tZ) 0 _ rfl) 1 _ rfl⟩,⟨Bq HB⟩⟩
        replace FC:=Bool.eq_false_iff.mpr FC
        subst FC
        replace H:(iC.l1 k2 a1 bC dZ t183 t191 (wrap64 (jR+1)) aG aC sQ qV)=some r:=by rw[if_neg (show ¬ (false=true) by decide)]at H;exact H
        have H':=aA.mk H
        clear H
        obtain⟨UB,GU,rfl⟩:=Kd.dA mQ.out
        have WJ:0<=(jR:Int):=od
        have WL:jR<(t183.length:Int):=od
        obtain⟨aQ5,ao7,ao8⟩:=Kd.aCL (Kd.dB mQ.out).2.2 jR WJ WL
        (try rw[<-aBT.out]at ao8)
        cases ao7
        replace WJ:=eq_true WJ
        replace WL:=eq_true WL
        go_wp2
        go_roundg k2
        case measure=>have:=fV.out;have:=mY.out;omega
        case rel=>exact⟨(wrap64 (jR+1)),(sQ),(qV),(by first|rfl|(simp;done)|(simp[*];done)),H',⟨by have:=fV.out;have:=mY.out;omega⟩,⟨R_ bP⟩,⟨R_ mQ⟩,⟨b_ jC⟩,⟨b_ tZ⟩,⟨Bq HB⟩⟩
       rw[if_neg c25]at H
       exact absurd H (by simp)
      rw[if_neg c24]at H
      exact absurd H (by simp)
     rw[if_neg c23]at H
     have aqO:decide (jR<=t191)=false:=decide_eq_false c23
     clear c23
     by_cases c34:bC.length<8796093022208
     ·rw[if_pos c34]at H
      have aQ6:=aA.mk c34
      clear c34
      obtain⟨tJ,SB⟩:∃ y_:List (aH),y_=(bC++[(⟨sQ,qV⟩:aH)]):=⟨_,rfl⟩
      replace H:(iC.l0 k2 a1 tJ (wrap64 (dZ+1)) aG aC)=some r:=by first|(rw[SB];with_reducible exact H)|(have dJ:=(Option.bind_some _ _).symm.trans H;rw[SB];with_reducible exact dJ)|(have dJ:=(Option.bind_some _ _).symm.trans H;with_reducible exact dJ)|with_reducible exact H|(rw[SB];exact H)|exact H
      have arJ:=aA.mk SB
      clear SB
      have H':=aA.mk H
      clear H
      have a5R:=ao3.out
      have a5S:=WH.out
      obtain⟨aDI,aDJ⟩:=bZ tZ (.int .i64 sQ) (.int .i64 qV)
      have aJ7:=aX tZ.out 0
      have aJ8:=aX tZ.out 1
      go_wp2_with (first|((with_reducible refine VC (b:=.append) (xs:=#[.tmp 67,.tmp 69]) rfl ?_);at_builtin;refine Kd.WR iD (w0:=w) w.heap.size rfl (.tmp 67) (.tmp 69) 31 42 (.agg #[(.int .i64 0),(.int .i64 0)]) 16 rfl Tryd.underlying31 ad5 rfl (by decide) (by omega) u5 bC (⟨sQ,qV⟩:aH) [.int .i64 sQ,.int .i64 qV] (fun k_=>k_≠vU) (fun _=>False) rfl rfl ?aP (fun _ hk=>hk.elim) ?aF ?aO ?aB ?aS ?aL ?_;(case aP=>exact WS _ _ _ (⟨sQ,qV⟩:aH));(case aB=>exact(Bq HB));(case aF=>exact(fun k_ hk=>Kd.aIM (g:=vU) (o:=.cells #[.int .i64 sQ,.int .i64 qV] 42 (0,0)) (b_ tZ) k_ hk));(case aO=>exact(R_ bP));(case aS=>exact(dH (Bq HB)));(case aL=>have:=aQ6.out;omega);intro aM1 BO ho hb hg hat;rw[<-arJ.out]at ho;have aV:=aA.mk (Kd.mO (R_ mQ) (Kd.mM (R_ bP)) (by decide) hg);have aW:=aA.mk (oM (g:=WG) (o:=.cells #[.slice (some agZ) aG.length aK,.slice aT aC.length aJ] 25 (0,0)) (b_ jC) hg (Kd.mW bP.out jC.out (by decide)));have aY:=aA.mk (oM (g:=vU) (o:=.cells #[.int .i64 sQ,.int .i64 qV] 42 (0,0)) (b_ tZ) hg (Kd.as9 bP.out (fun _ hk=>hk)));have bI:=aA.mk (hb);have cO:=aA.mk (ho);clear mQ;clear jC;clear tZ;clear HB;clear bP;have mQ:=aV;have jC:=aW;have tZ:=aY;have HB:=bI;have aeH:=cO;clear aV aW aY bI cO;clear ho hb hg hat))
      go_roundg k2
      case measure=>have:=fV.out;have:=mY.out;omega
      case rel=>exact⟨(tJ),(wrap64 (dZ+1)),(by first|rfl|(simp;done)|(simp[*];done)),H',⟨by have:=fV.out;have:=mY.out;omega⟩,⟨Kd.bQ (R_ aeH) (fun _ hk=>trivial)⟩,⟨b_ jC⟩,⟨Bq HB⟩⟩
     rw[if_neg c34]at H
     exact absurd H (by simp)
   rw[if_neg c10]at H
   exact absurd H (by simp)
  rw[if_neg c6]at H
  have zJ:decide (dZ<(aG.length:Int))=false:=decide_eq_false c6
  clear c6
  obtain rfl:=Option.some.inj H
  obtain⟨aL4,aL5⟩:=bZ jC (.slice aQ aG.length aK) (.slice aT aC.length aJ)
  go_wp2
  go_ret
  exact⟨_,by first|rfl|(simp[iU,iV]<;>rfl)|(simp[*,iU,iV]<;>rfl),R_ bP,Bq HB⟩
end Go.Proofs.YtcmfnebcmmklkaaDoor.Q
namespace Go.Proofs.YtcmfnebcmmklkaaDoor.Hand
open Go.RowKit Go.Shelf Go.Proofs.YtcmfnebcmmklkaaDoorW.dQ Go.Proofs.YtcmfnebcmmklkaaDoorW.gG Go.Proofs.YtcmfnebcmmklkaaDoor.Q
theorem YI {M:Nat} {lt lt':Nat->Lt}:∀ i,(∀ j,j<i->lt j=lt' j)->rowB M lt i=rowB M lt' i
 |0,_=>rfl
 |i+1,h=>by rw[rowB,rowB,YI i (fun j hj=>h j (by omega)),h i (by omega)]
theorem alO {M:Nat} {lt lt':Nat->Lt} {n:Nat} (h:∀ j,j<n->lt j=lt' j):∀ d,d<=n->GZ M lt n d=GZ M lt' n d
 |0,_=>by rw[GZ,GZ,YI n h]
 |d+1,hd=>by rw[GZ,GZ,alO h d (by omega),h _ (by omega),YI _ (fun j hj=>h j (by omega))]
theorem alP {M:Nat} {lt lt':Nat->Lt} {n:Nat} (h:∀ j,j<n->lt j=lt' j) (i:Nat):lG M lt n i=lG M lt' n i:=alO h _ (by omega)
def lU (ls:List aI) (o:Int) (t n:Nat):List Int:=(List.range n).filterMap fun(i:Nat)=>if(aU ls i).f0=o/\t.testBit i=true then some (i:Int)else none
theorem alQ (ls:List aI) (o:Int) (t n:Nat):lU ls o t (n+1)=lU ls o t n++(if(aU ls n).f0=o/\t.testBit n=true then[(n:Int)]else[]):=by
 unfold lU
 rw[List.range_succ,List.filterMap_append]
 congr 1
 simp only[List.filterMap_cons,List.filterMap_nil]
 by_cases h:(aU ls n).f0=o/\t.testBit n=true
 ·rw[if_pos h,if_pos h]
 ·rw[if_neg h,if_neg h]
theorem alR (ls:List aI) (o:Int) (t n:Nat):(lU ls o t n).length<=n:=by
 unfold lU
 exact Nat.le_trans (List.length_filterMap_le _ _) (by simp)
theorem aAQ {ls:List aI} {o:Int} {t n:Nat} {x:Int} (h:x∈lU ls o t n):0<=x/\x<n:=by
 unfold lU at h
 obtain⟨i,h1,h2⟩:=List.mem_filterMap.1 h
 split at h2
 ·have:=List.mem_range.1 h1
  obtain rfl:=Option.some.inj h2
  omega
 ·cases h2
theorem aaY (sd:aI->aH) (ls:List aI) (o:Int) {s t:Nat}:∀ n,(∀ i,i<n->t.testBit i= !s.testBit i)->kZ sd ls o s n=(lU ls o t n).map fun(i:Int)=>⟨sd (aU ls i),i,(aU ls i).f3⟩
 |0,_=>rfl
 |n+1,h=>by
  rw[awR,alQ,List.map_append,aaY sd ls o n (fun i hi=>h i (by omega))]
  congr 1
  have hb:=h n (by omega)
  by_cases h1:(aU ls n).f0=o/\s.testBit n=false
  ·rw[if_pos h1,if_pos ⟨h1.1,by rw[hb,h1.2];rfl⟩]
   rfl
  ·rw[if_neg h1,if_neg (fun hh=>h1 ⟨hh.1,by have:=hh.2;rw[hb]at this;simpa using this⟩)]
   rfl
theorem YJ {l:List Int} {i:Nat} (h:i<l.length):rd l (i:Int)=l[i]:=by
 unfold rd
 rw[Int.toNat_natCast]
 simp[List.getD_eq_getElem?_getD,h]
theorem aAR (r:Bool) (ls:List aI) (o:Int) {s t:Nat} (h:∀ i,i<ls.length->t.testBit i= !s.testBit i):∀ i,i<(lU ls o t ls.length).length->dO r ls (lU ls o t ls.length) i=ltK (kZ (fJ r) ls o s ls.length) i:=by
 intro i hi
 have e:=aaY (fJ r) ls o ls.length h
 unfold ltK dO
 rw[QS (by rw[e,List.length_map];exact hi),YJ hi]
 simp only[e,List.getElem_map]
 rfl
theorem adB {r:Bool} {os:List aZ} {ls:List aI} (hk:RZ (fZ r) (fJ r) os ls) (h8:ls.length<=8) {s t:Nat} (h:∀ i,i<ls.length->t.testBit i= !s.testBit i) {o:Nat} (ho:o<os.length):
  ∃ L,sJ.f os ls (o:Int) (lU ls o t ls.length) r=some (L,(iP (fZ r) (fJ r) os ls s o).1,(iP (fZ r) (fJ r) os ls s o).2.2)/\
   ((iP (fZ r) (fJ r) os ls s o).2.2=true->(L.length:Int)=fZ r (dK os o)+1/\∀ m:Nat,L.getD m false=true↔(iP (fZ r) (fJ r) os ls s o).2.1.f0<=m/\m<=(iP (fZ r) (fJ r) os ls s o).2.1.f1):=by
 have e:=aaY (fJ r) ls o ls.length h
 have hlt:=aAR r ls o h
 have hlen:=alR ls o t ls.length
 have hM:=hk.ord o ho
 have hll:(kZ (fJ r) ls o s ls.length).length=(lU ls o t ls.length).length:=by rw[e,List.length_map]
 have adC:=hk.lots (o:=(o:Int)) (s:=s)
 obtain⟨M,hMe⟩:∃ M:Nat,fZ r (dK os o)=M:=⟨(fZ r (dK os o)).toNat,(Int.toNat_of_nonneg hM.1).symm⟩
 have hb:SY os ls (o:Int) (lU ls o t ls.length) r=true:=by
  unfold SY
  simp only[Bool.and_eq_true,decide_eq_true_iff,List.all_eq_true]
  refine⟨⟨⟨⟨⟨by omega,by omega⟩,hM.1⟩,hM.2⟩,by omega⟩,fun i hi=>?_⟩
  have hi':=List.mem_range.1 hi
  have hm:=aAQ (List.getElem_mem hi')
  have hl:=hk.lot ((lU ls o t ls.length)[i]).toNat (by omega)
  rw[Int.toNat_of_nonneg hm.1]at hl
  unfold dO ltOf
  rw[YJ hi']
  exact⟨⟨⟨⟨hm.1,hm.2⟩,hl.1⟩,hl.2.1⟩,hl.2.2⟩
 have hok:qY M (dO r ls (lU ls o t ls.length)) (lU ls o t ls.length).length=(iP (fZ r) (fJ r) os ls s o).2.2:=by
  unfold iP
  rw[hMe,<-azN adC]
  unfold qY acX
  rw[hll]
  congr 1
  funext i
  rw[alP hlt i]
 unfold sJ.f
 rw[if_pos hb,hMe,Int.toNat_natCast,hok]
 by_cases hr:(iP (fZ r) (fJ r) os ls s o).2.2=true
 ·have hr2:(fE (M:Int) (kZ (fJ r) ls o s ls.length)).2.2=true:=by unfold iP at hr;rw[hMe]at hr;exact hr
  rw[if_pos hr,if_pos hr]
  refine⟨rowB M (dO r ls (lU ls o t ls.length)) (lU ls o t ls.length).length,?_,fun _=>⟨by rw[XL];rfl,fun m=>?_⟩⟩
  ·congr 2
   congr 1
   have hc:=af2 hr2
   have ec:(iP (fZ r) (fJ r) os ls s o).1=(fE (M:Int) (kZ (fJ r) ls o s ls.length)).1:=by unfold iP;rw[hMe]
   rw[ec]
   refine List.ext_getElem (by rw[acY,hc,hll]) fun i h1 h2=>?_
   rw[acY]at h1
   have h3:=azP adC hr2 (i:=i) (by omega)
   have h4:bM (fE (M:Int) (kZ (fJ r) ls o s ls.length)).1 (i:Int)=(fE (M:Int) (kZ (fJ r) ls o s ls.length)).1[i]:=by
    unfold bM
    rw[Int.toNat_natCast]
    simp[List.getD_eq_getElem?_getD,h2]
   rw[<-h4,h3,<-alP (by rw[hll];exact hlt) i,hll]
   simp[lM]
  ·have h3:=azO adC hr2 m
   rw[<-YI _ (by rw[hll];exact hlt),hll]at h3
   unfold iP
   rw[hMe]
   exact h3
 ·have hr':=Bool.eq_false_iff.2 hr
  rw[if_neg hr,if_neg hr]
  refine⟨[],?_,fun hh=>absurd hh hr⟩
  congr 2
  congr 1
  unfold iP at hr ⊢
  unfold fE at hr ⊢
  split
  ·rename_i h1
   rw[if_pos h1]at hr
   exact absurd rfl hr
  ·rfl
theorem aQ7 (L:List Bool) (n:Nat):adX false L (n:Int)=L.getD n false:=by
 unfold adX
 rw[Int.toNat_natCast]
def ET (M a b:Int) (n:Nat):Int:=if(n:Int)<=a then M+1 else if(n:Int) - 1<=b then M - (n - 1)else M - b
def hiK (M a:Int) (n:Nat):Int:=if(n:Int)<=a then 0 else M - a
theorem aQ8 (r:Bool) (os:List aZ) (ls:List aI) (out:List aH) (hout:out.length<=1000) (o:Nat) (ho:o<=1000) (L:List Bool) (M:Nat) (hM:M<=144) (a b:Int) (hab:0<=a/\a<=b/\b<=M) (hL:L.length=M+1) (hm:∀ m:Nat,L.getD m false=true↔a<=m/\m<=b):∀ d n k,n+d=M+1->d<k->
  iC.l1 k r out (o:Int) L (M:Int) (n:Int) os ls (ET M a b n) (hiK M a n)=iC.l0 (k - 1 - d) r (out++[⟨M - b,M - a⟩]) ((o+1:Nat):Int) os ls:=by
 intro d
 induction d with
 |zero=>
  intro n k hn hk
  obtain⟨k,rfl⟩:∃ i,k=i+1:=⟨k - 1,by omega⟩
  obtain rfl:n=M+1:=by omega
  have hw:wrap64 ((o:Int)+1)=((o+1:Nat):Int):=by rw[jF (by omega) (by omega)];simp
  conv=>lhs;unfold iC.l1
  rw[if_neg (by omega),if_pos (by omega),hw]
  have e1:ET M a b (M+1)=M - b:=by unfold ET;rw[if_neg (by omega)];split<;>omega
  have e2:hiK M a (M+1)=M - a:=by unfold hiK;rw[if_neg (by omega)]
  rw[e1,e2]
  rfl
 |succ d ih=>
  intro n k hn hk
  obtain⟨k,rfl⟩:∃ i,k=i+1:=⟨k - 1,by omega⟩
  have hw:wrap64 ((n:Int)+1)=((n+1:Nat):Int):=by rw[jF (by omega) (by omega)];simp
  have hw2:wrap64 ((M:Int) - n)=M - n:=jF (by omega) (by omega)
  have hi:=ih (n+1) k (by omega) (by omega)
  have hb:=hm n
  rw[show k+1 - 1 - (d+1)=k - 1 - d by omega,<-hi]
  conv=>lhs;unfold iC.l1
  rw[if_pos (by omega),if_pos (by omega),if_pos (by omega),aQ7,hw,hw2]
  by_cases h:a<=n/\n<=b
  ·rw[if_pos (hb.2 h)]
   have e1:mn (ET M a b n) (M - n)=ET M a b (n+1):=by
    rw[aoT]
    unfold ET
    by_cases h1:(n:Int)<=a
    ·rw[if_pos h1,if_neg (by omega),if_pos (by omega)];omega
    ·rw[if_neg h1,if_pos (by omega),if_neg (by omega),if_pos (by omega)];omega
   have e2:mx (hiK M a n) (M - n)=hiK M a (n+1):=by
    rw[aoS]
    unfold hiK
    by_cases h1:(n:Int)<=a
    ·rw[if_pos h1,if_neg (by omega)];omega
    ·rw[if_neg h1,if_neg (by omega)];omega
   rw[e1,e2]
  ·rw[if_neg (fun hh=>h (hb.1 hh))]
   have e1:ET M a b n=ET M a b (n+1):=by
    unfold ET
    by_cases h1:(n:Int)<=a
    ·rw[if_pos h1,if_pos (by omega)]
    ·rw[if_neg h1]
     by_cases h2:(n:Int) - 1<=b
     ·rw[if_pos h2,if_neg (by omega),if_neg (by omega)];omega
     ·rw[if_neg h2,if_neg (by omega),if_neg (by omega)]
   have e2:hiK M a n=hiK M a (n+1):=by
    unfold hiK
    by_cases h1:(n:Int)<=a
    ·rw[if_pos h1,if_pos (by omega)]
    ·rw[if_neg h1,if_neg (by omega)]
   rw[<-e1,<-e2]
theorem aoV:∀ s:Nat,s<256->∀ i:Nat,i<8->(Go.bits .and .i64 (shr .i64 (s:Int) (IntKind.u64.wrap (i:Int))) 1=1↔s.testBit i=true)/\0<=IntKind.u64.wrap (i:Int):=by decide+kernel
theorem aAS (os:List aZ) (ls:List aI) (h8:ls.length<=8) (o:Int) (t:Nat) (ht:t<256):∀ (m i k:Nat),i+m=ls.length->m<k->
  qI.l0 k o (t:Int) (lU ls o t i) (i:Int) os ls=some (lU ls o t ls.length):=by
 intro m
 induction m with
 |zero=>
  intro i k hi hk
  obtain⟨k,rfl⟩:∃ j,k=j+1:=⟨k - 1,by omega⟩
  obtain rfl:i=ls.length:=by omega
  unfold qI.l0
  rw[if_neg (by omega)]
 |succ m ih=>
  intro i k hi hk
  obtain⟨k,rfl⟩:∃ j,k=j+1:=⟨k - 1,by omega⟩
  obtain⟨hb,hw0⟩:=aoV t ht i (by omega)
  have hw:wrap64 ((i:Int)+1)=((i+1:Nat):Int):=by rw[jF (by omega) (by omega)];simp
  have hn:=ih (i+1) k (by omega) (by omega)
  have hl:=alR ls o t i
  rw[alQ]at hn
  unfold qI.l0
  rw[if_pos (by omega),if_pos (by omega),hw]
  by_cases h1:(aU ls i).f0=o
  ·rw[if_pos h1,if_pos hw0]
   by_cases h2:Go.bits .and .i64 (shr .i64 (t:Int) (IntKind.u64.wrap (i:Int))) 1=1
   ·rw[if_pos h2,if_pos (by omega)]
    rw[if_pos ⟨h1,hb.1 h2⟩]at hn
    exact hn
   ·rw[if_neg h2]
    rw[if_neg (fun hh=>h2 (hb.2 hh.2)),List.append_nil]at hn
    exact hn
  ·rw[if_neg h1]
   rw[if_neg (fun hh=>h1 hh.1),List.append_nil]at hn
   exact hn
theorem adD (os:List aZ) (ls:List aI) (h8:ls.length<=8) (o:Int) (t:Nat) (ht:t<256) (k:Nat) (hk:9<=k):qI.f k os ls o (t:Int)=some (lU ls o t ls.length):=aAS os ls h8 o t ht ls.length 0 k (by omega) (by omega)
theorem aAT:∀ n:Nat,n<=8->0<=IntKind.u64.wrap (n:Int)/\wrap64 ((shl .i64 1 (IntKind.u64.wrap (n:Int))) - 1)=((2^n - 1:Nat):Int):=by decide+kernel
theorem alS (os:List aZ) (ls:List aI) (h8:ls.length<=8):pY.f os ls=some ((2^ls.length - 1:Nat):Int):=by
 obtain⟨h1,h2⟩:=aAT ls.length h8
 unfold pY.f
 rw[if_pos h1,h2]
theorem aaZ:fZ false=rJ:=by funext x;rfl
theorem aa0:fZ true=tC:=by funext x;rfl
theorem aa1:fJ false=qB:=by funext x;rfl
theorem aa2:fJ true=qQ:=by funext x;rfl
theorem ZR {os:List aZ} {ls:List aI} (h:oP os ls=0):∀ r,RZ (fZ r) (fJ r) os ls:=by
 intro r
 cases r
 ·rw[aaZ,aa1];exact(af4 h).1
 ·rw[aa0,aa2];exact(af4 h).2
theorem aAU {os:List aZ} {ls:List aI} (h:oP os ls=0) {s t:Nat} (ht:t<256) (hst:∀ i,i<ls.length->t.testBit i= !s.testBit i):∀ (m o k:Nat),o+m=os.length->4*m+13<=k->
  eG.l0 k (t:Int) (o:Int) os ls=some ((List.range' o m).all fun j=>(iP rJ qB os ls s j).2.2&&(iP tC qQ os ls s j).2.2):=by
 obtain⟨h5,h8,_,_⟩:=FM h
 intro m
 induction m with
 |zero=>
  intro o k ho hk
  obtain⟨k,rfl⟩:∃ i,k=i+1:=⟨k - 1,by omega⟩
  unfold eG.l0
  rw[if_neg (by omega)]
  rfl
 |succ m ih=>
  intro o k ho hk
  obtain⟨k,rfl⟩:∃ i,k=i+4:=⟨k - 4,by omega⟩
  have hw:wrap64 ((o:Int)+1)=((o+1:Nat):Int):=by rw[jF (by omega) (by omega)];simp
  have hi:=ih (o+1) k (by omega) (by omega)
  obtain⟨L,e1,e2⟩:=adB (r:=false) (ZR h false) h8 hst (o:=o) (by omega)
  obtain⟨L',e1',e2'⟩:=adB (r:=true) (ZR h true) h8 hst (o:=o) (by omega)
  rw[aaZ,aa1]at e1
  rw[aa0,aa2]at e1'
  rw[eG.l0,if_pos (by omega),eG.l1,if_pos (by decide),adD os ls h8 o t ht (k+2) (by omega)]
  simp only[Option.bind_some]
  rw[show((0:Int)==1)=false from rfl,e1]
  simp only[Option.bind_some]
  rw[List.range'_succ,List.all_cons]
  by_cases hl:(iP rJ qB os ls s o).2.2=true
  ·rw[if_pos hl,show wrap64 (0+1)=1 from by rw[jF (by omega) (by omega)];rfl,eG.l1,if_pos (by decide),adD os ls h8 o t ht (k+1) (by omega)]
   simp only[Option.bind_some]
   rw[show((1:Int)==1)=true from rfl,e1']
   simp only[Option.bind_some]
   by_cases hr:(iP tC qQ os ls s o).2.2=true
   ·rw[if_pos hr,show wrap64 (1+1)=2 from by rw[jF (by omega) (by omega)];rfl,eG.l1,if_neg (by decide),hw,hi,hl,hr]
    rfl
   ·rw[if_neg hr,Bool.eq_false_iff.2 hr,Bool.and_false,Bool.false_and]
  ·rw[if_neg hl,Bool.eq_false_iff.2 hl,Bool.false_and,Bool.false_and]
theorem aAV {n:Nat} (p q:Nat->Bool):((List.range' 0 n).all fun j=>p j&&q j)=((List.range n).all p&&(List.range n).all q):=by
 rw[<-List.range_eq_range']
 rw[Bool.eq_iff_iff,Bool.and_eq_true,zO,zO,zO]
 simp only[Bool.and_eq_true]
 exact⟨fun h=>⟨fun j hj=>(h j hj).1,fun j hj=>(h j hj).2⟩,fun h j hj=>⟨h.1 j hj,h.2 j hj⟩⟩
theorem aAW {os:List aZ} {ls:List aI} (h:oP os ls=0) {s t:Nat} (ht:t<256) (hst:∀ i,i<ls.length->t.testBit i= !s.testBit i) (k:Nat) (hk:33<=k):eG.f k os ls (t:Int)=some (vZ os ls s):=by
 obtain⟨h5,h8,_,_⟩:=FM h
 unfold eG.f
 refine(aAU h ht hst os.length 0 k (by omega) (by omega)).trans ?_
 rw[aAV]
 rfl
theorem ao9 {n:Nat}:∀ i,i<n->(2^n - 1).testBit i= !Nat.testBit 0 i:=by
 intro i hi
 rw[Nat.testBit_two_pow_sub_one,Nat.zero_testBit]
 simp[hi]
theorem asX {n:Nat} (h:n<=8):2^n - 1<256:=by
 have:2^n<=2^8:=Nat.pow_le_pow_right (by decide) h
 omega
theorem aBU {M:Nat} {ls:List dR} (hl:∀ x∈ls,uH x) (h:(fE M ls).2.2=true):0<=(fE M ls).2.1.f0/\(fE M ls).2.1.f0<=(fE M ls).2.1.f1/\(fE M ls).2.1.f1<=M:=by
 have T:=ZQ h hl
 have h1:=T.ene
 obtain⟨n,xs,a,b,c⟩:=(T.ein _).1 (show nK (iv (fE M ls).2.1) (iv (fE M ls).2.1).1 from⟨Int.le_refl _,h1⟩)
 obtain⟨n',xs',a',b',c'⟩:=(T.ein _).1 (show nK (iv (fE M ls).2.1) (iv (fE M ls).2.1).2 from⟨h1,Int.le_refl _⟩)
 obtain rfl:=aaX.1 a
 obtain rfl:=aaX.1 a'
 have d:=aEV (Int.le_refl 0) (Int.natCast_nonneg M) b
 have d':=aEV (Int.le_refl 0) (Int.natCast_nonneg M) b'
 rw[c]at d
 rw[c']at d'
 exact⟨d.1,h1,d'.2⟩
theorem aQ9 (a b:Int) (r:Bool):yL.f a b r=some (if r=true then b else a):=by
 unfold yL.f
 split<;>rfl
theorem aRA {os:List aZ} {ls:List aI} (h:oP os ls=0) (r:Bool) (hok:∀ j,j<os.length->(iP (fZ r) (fJ r) os ls 0 j).2.2=true):∀ (m o k:Nat),o+m=os.length->147*m+13<=k->
  iC.l0 k r (qP (fZ r) (fJ r) os ls 0 o) (o:Int) os ls=some (qP (fZ r) (fJ r) os ls 0 os.length):=by
 obtain⟨h5,h8,_,_⟩:=FM h
 have hk:=ZR h r
 intro m
 induction m with
 |zero=>
  intro o k ho hk
  obtain⟨k,rfl⟩:∃ i,k=i+1:=⟨k - 1,by omega⟩
  unfold iC.l0
  obtain rfl:o=os.length:=by omega
  rw[if_neg (by omega)]
 |succ m ih=>
  intro o k ho hkk
  obtain⟨k,rfl⟩:∃ i,k=i+1:=⟨k - 1,by omega⟩
  obtain⟨L,e1,e2⟩:=adB hk h8 ao9 (o:=o) (by omega)
  have hr:=hok o (by omega)
  obtain⟨e3,e4⟩:=e2 hr
  have hM:=hk.ord o (by omega)
  obtain⟨M,hMe⟩:∃ M:Nat,fZ r (dK os o)=M:=⟨(fZ r (dK os o)).toNat,(Int.toNat_of_nonneg hM.1).symm⟩
  have hend:=aBU (M:=M) (hk.lots (o:=(o:Int)) (s:=0)) (by unfold iP at hr;rw[hMe]at hr;exact hr)
  have hor:(iP (fZ r) (fJ r) os ls 0 o).2.1=(fE (M:Int) (kZ (fJ r) ls o 0 ls.length)).2.1:=by unfold iP;rw[hMe]
  rw[hor]at e4
  have hl1:=aQ8 r os ls (qP (fZ r) (fJ r) os ls 0 o) (by rw[aaO];omega) o (by omega) L M (by omega) _ _ hend (by omega) e4 (M+1) 0 k (by omega) (by omega)
  have hs:=aER (fZ r) (fJ r) os ls 0 o
  rw[hor,hMe]at hs
  have hi:=ih (o+1) (k - 1 - (M+1)) (by omega) (by omega)
  rw[hs]at hi
  rw[iC.l0,if_pos (by omega),alS os ls h8]
  simp only[Option.bind_some]
  rw[adD os ls h8 o _ (asX h8) k (by omega)]
  simp only[Option.bind_some]
  rw[e1]
  simp only[Option.bind_some]
  rw[if_pos (by omega),aQ9]
  simp only[Option.bind_some]
  have hord:(if r=true then(dK os (o:Int)).f1 else(dK os (o:Int)).f0)=(M:Int):=hMe
  rw[hord,jF (x:=(M:Int)+1) (by omega) (by omega)]
  have z1:ET M (fE (M:Int) (kZ (fJ r) ls o 0 ls.length)).2.1.f0 (fE (M:Int) (kZ (fJ r) ls o 0 ls.length)).2.1.f1 0=(M:Int)+1:=by unfold ET;rw[if_pos (by have:=hend.1;omega)]
  have z2:hiK M (fE (M:Int) (kZ (fJ r) ls o 0 ls.length)).2.1.f0 0=0:=by unfold hiK;rw[if_pos (by have:=hend.1;omega)]
  rw[z1,z2]at hl1
  refine hl1.trans ?_
  exact hi
theorem aBV {os:List aZ} {ls:List aI} (h:oP os ls=0) (r:Bool) (hok:∀ j,j<os.length->(iP (fZ r) (fJ r) os ls 0 j).2.2=true) (k:Nat) (hk:748<=k):iC.f k os ls r=some (qP (fZ r) (fJ r) os ls 0 os.length):=by
 obtain⟨h5,h8,_,_⟩:=FM h
 exact aRA h r hok os.length 0 k (by omega) (by omega)
end Go.Proofs.YtcmfnebcmmklkaaDoor.Hand
namespace Go.Proofs.YtcmfnebcmmklkaaDoor.Q
def oN.f:Option Unit:=some ()
end Go.Proofs.YtcmfnebcmmklkaaDoor.Q
namespace Go.Proofs.YtcmfnebcmmklkaaDoor.Hand
open Go.RowKit Go.Shelf Go.Proofs.YtcmfnebcmmklkaaDoorW.dQ Go.Proofs.YtcmfnebcmmklkaaDoorW.gG Go.Proofs.YtcmfnebcmmklkaaDoor.Q
theorem yN {n:Nat} (h:n<=10000):wrap64 ((n:Int)+1)=((n+1:Nat):Int):=by rw[jF (by omega) (by omega)];simp
theorem PQ (a b c:Int):qX.f a b c=some (decide (b<=a/\a<=c)):=by
 unfold qX.f
 split
 ·rename_i h
  congr 1
  rw[Bool.eq_iff_iff,decide_eq_true_iff,decide_eq_true_iff]
  omega
 ·rename_i h
  rw[decide_eq_false (by omega)]
theorem aAZ (a b c:Int):IA.f a b c=some (decide (0<=a/\a<=b/\b<=c)):=by
 unfold IA.f
 rw[PQ]
 simp only[Option.bind_some,decide_eq_true_iff]
 split
 ·rename_i h
  congr 1
  rw[Bool.eq_iff_iff,decide_eq_true_iff,decide_eq_true_iff]
  omega
 ·rename_i h
  rw[decide_eq_false (by omega)]
theorem aA0 (x:aZ):MP x=true↔(0<=x.f0/\x.f0<=144)/\0<=x.f1/\x.f1<=144:=by
 simp[MP,allIn,xR]
 try omega
theorem aA1 (n:Nat) (x:aI):DY n x=true↔(0<=x.f0/\x.f0<=(n:Int) - 1)/\(0<=x.f1.f0/\x.f1.f0<=x.f1.f1/\x.f1.f1<=144)/\0<=x.f2.f0/\x.f2.f0<=x.f2.f1/\x.f2.f1<=144:=by
 simp[DY,UE,allIn,xR]
 try omega
theorem aA2 {l:List aZ} {i:Nat} (h:i<l.length):dK l i=l[i]:=by
 unfold dK
 simp[List.getD_eq_getElem?_getD,h]
theorem aA3 {l:List aI} {i:Nat} (h:i<l.length):aU l i=l[i]:=by
 unfold aU
 simp[List.getD_eq_getElem?_getD,h]
theorem aA4 (os:List aZ) (ls:List aI) (h5:os.length<=5) (h8:ls.length<=8):∀ m i k:Nat,i+m=ls.length->m<k->
  jH.l1 k (i:Int) os ls=some (if(ls.drop i).all (fun x=>DY os.length x)=true then 0 else 2):=by
 intro m
 induction m with
 |zero=>
  intro i k hi hk
  obtain⟨k,rfl⟩:∃ j,k=j+1:=⟨k - 1,by omega⟩
  unfold jH.l1
  rw[if_neg (by omega),List.drop_eq_nil_of_le (by omega)]
  rfl
 |succ m ih=>
  intro i k hi hk
  obtain⟨k,rfl⟩:∃ j,k=j+1:=⟨k - 1,by omega⟩
  have hl:i<ls.length:=by omega
  have hn:=ih (i+1) k (by omega) (by omega)
  have hb:=aA1 os.length ls[i]
  have hw:wrap64 ((os.length:Int) - 1)=os.length - 1:=jF (by omega) (by omega)
  unfold jH.l1
  rw[if_pos (by omega),if_pos (by omega),List.drop_eq_getElem_cons hl,List.all_cons,aA3 hl,hw,PQ,yN (by omega),hn]
  simp only[Option.bind_some,decide_eq_true_iff,aAZ]
  by_cases h1:0<=ls[i].f0/\ls[i].f0<=(os.length:Int) - 1
  ·rw[if_pos h1]
   by_cases h2:0<=ls[i].f1.f0/\ls[i].f1.f0<=ls[i].f1.f1/\ls[i].f1.f1<=144
   ·rw[if_pos h2]
    by_cases h3:0<=ls[i].f2.f0/\ls[i].f2.f0<=ls[i].f2.f1/\ls[i].f2.f1<=144
    ·rw[if_pos h3,hb.2 ⟨h1,h2,h3⟩,Bool.true_and]
    ·rw[if_neg h3,Bool.eq_false_iff.2 (fun hh=>h3 (hb.1 hh).2.2),Bool.false_and,if_neg Bool.false_ne_true]
   ·rw[if_neg h2,Bool.eq_false_iff.2 (fun hh=>h2 (hb.1 hh).2.1),Bool.false_and,if_neg Bool.false_ne_true]
  ·rw[if_neg h1,Bool.eq_false_iff.2 (fun hh=>h1 (hb.1 hh).1),Bool.false_and,if_neg Bool.false_ne_true]
theorem aA5 (os:List aZ) (ls:List aI) (h5:os.length<=5) (h8:ls.length<=8):∀ m i k:Nat,i+m=os.length->m+9<k->
  jH.l0 k (i:Int) os ls=some (if((os.drop i).all (fun x=>MP x)&&ls.all (fun x=>DY os.length x))=true then 0 else 2):=by
 intro m
 induction m with
 |zero=>
  intro i k hi hk
  obtain⟨k,rfl⟩:∃ j,k=j+1:=⟨k - 1,by omega⟩
  unfold jH.l0
  rw[if_neg (by omega),List.drop_eq_nil_of_le (by omega)]
  exact aA4 os ls h5 h8 ls.length 0 k (by omega) (by omega)
 |succ m ih=>
  intro i k hi hk
  obtain⟨k,rfl⟩:∃ j,k=j+1:=⟨k - 1,by omega⟩
  have hl:i<os.length:=by omega
  have hn:=ih (i+1) k (by omega) (by omega)
  have hb:=aA0 os[i]
  unfold jH.l0
  rw[if_pos (by omega),if_pos (by omega),List.drop_eq_getElem_cons hl,List.all_cons,aA2 hl,PQ,yN (by omega),hn]
  simp only[Option.bind_some,decide_eq_true_iff,PQ]
  by_cases h1:0<=os[i].f0/\os[i].f0<=144
  ·rw[if_pos h1]
   by_cases h2:0<=os[i].f1/\os[i].f1<=144
   ·rw[if_pos h2,hb.2 ⟨h1,h2⟩,Bool.true_and]
   ·rw[if_neg h2,Bool.eq_false_iff.2 (fun hh=>h2 (hb.1 hh).2),Bool.false_and,Bool.false_and,if_neg Bool.false_ne_true]
  ·rw[if_neg h1,Bool.eq_false_iff.2 (fun hh=>h1 (hb.1 hh).1),Bool.false_and,Bool.false_and,if_neg Bool.false_ne_true]
theorem alW {α:Type} (p:α->Bool) (l:List α):l.any (fun x=> !p x)= !l.all p:=by
 rw[List.all_eq_not_any_not,Bool.not_not]
theorem aA6 (os:List aZ) (ls:List aI) (k:Nat) (hk:15<=k):jH.f k os ls=some (oP os ls):=by
 unfold jH.f oP
 rw[PQ]
 simp only[Option.bind_some,decide_eq_true_iff]
 have ha:allIn 1 5 [(os.length:Int)]=true↔1<=(os.length:Int)/\(os.length:Int)<=5:=by
  simp[allIn,xR]
  try omega
 by_cases h1:1<=(os.length:Int)/\(os.length:Int)<=5
 ·rw[if_pos h1,if_pos (ha.2 h1)]
  by_cases h2:8<ls.length
  ·rw[if_pos (by omega),if_pos h2]
  ·rw[if_neg (by omega),if_neg h2,alW,alW]
   have:=aA5 os ls (by omega) (by omega) os.length 0 k (by omega) (by omega)
   rw[List.drop_zero]at this
   refine this.trans ?_
   congr 1
   cases os.all (fun x=>MP x)<;>cases ls.all (fun x=>DY os.length x)<;>rfl
 ·rw[if_neg h1,if_neg (fun h=>h1 (ha.1 h))]
theorem aA7 (os:List aZ) (ls:List aI) (h:ls.length<=1000):∀ m i k:Nat,i+m=ls.length->m<k->kJ.l1 k (i:Int) os ls os ls=some true:=by
 intro m
 induction m with
 |zero=>
  intro i k hi hk
  obtain⟨k,rfl⟩:∃ j,k=j+1:=⟨k - 1,by omega⟩
  unfold kJ.l1
  rw[if_neg (by omega)]
 |succ m ih=>
  intro i k hi hk
  obtain⟨k,rfl⟩:∃ j,k=j+1:=⟨k - 1,by omega⟩
  unfold kJ.l1
  rw[if_pos (by omega),if_pos (by omega),if_pos (by omega),if_neg (by simp),yN (by omega)]
  exact ih (i+1) k (by omega) (by omega)
theorem aA8 (os:List aZ) (ls:List aI) (h:ls.length<=1000) (ho:os.length<=1000):∀ m i k:Nat,i+m=os.length->m+ls.length+1<k->kJ.l0 k (i:Int) os ls os ls=some true:=by
 intro m
 induction m with
 |zero=>
  intro i k hi hk
  obtain⟨k,rfl⟩:∃ j,k=j+1:=⟨k - 1,by omega⟩
  unfold kJ.l0
  rw[if_neg (by omega)]
  exact aA7 os ls h ls.length 0 k (by omega) (by omega)
 |succ m ih=>
  intro i k hi hk
  obtain⟨k,rfl⟩:∃ j,k=j+1:=⟨k - 1,by omega⟩
  unfold kJ.l0
  rw[if_pos (by omega),if_pos (by omega),if_pos (by omega),if_neg (by simp),yN (by omega)]
  exact ih (i+1) k (by omega) (by omega)
theorem aA9 (os:List aZ) (ls:List aI) (h:ls.length<=1000) (ho:os.length<=1000) (k:Nat) (hk:os.length+ls.length+2<k):kJ.f k os ls os ls=some true:=by
 obtain⟨k,rfl⟩:∃ j,k=j+1:=⟨k - 1,by omega⟩
 rw[kJ.f,if_pos rfl,kJ.j0,if_neg (by simp)]
 exact aA8 os ls h ho os.length 0 k (by omega) (by omega)
theorem aBA (l:List Int) (h:l.length<=1000):∀ m i k:Nat,i+m=l.length->2*m+1<k->oJ.l0 k l l (i:Int)=some 0:=by
 intro m
 induction m with
 |zero=>
  intro i k hi hk
  obtain⟨k,rfl⟩:∃ j,k=j+2:=⟨k - 2,by omega⟩
  rw[oJ.l0,if_neg (by omega),oJ.j1,if_neg (by simp),Int.sub_self,jF (by omega) (by omega)]
 |succ m ih=>
  intro i k hi hk
  obtain⟨k,rfl⟩:∃ j,k=j+2:=⟨k - 2,by omega⟩
  rw[oJ.l0,if_pos (by omega),oJ.j1,if_pos (by simp;omega),if_pos (by omega),if_pos (by omega),if_pos (by omega),if_pos rfl,yN (by omega)]
  exact ih (i+1) k (by omega) (by omega)
theorem asQ (l:List Int) (h:l.length<=1000) (k:Nat) (hk:2*l.length+1<k):oD.f k l l=some true:=by
 unfold oD.f oJ.f
 rw[show(0:Int)=((0:Nat):Int)from rfl,aBA l h l.length 0 k (by omega) (by omega)]
 rfl
def Bd (p:List aH):Prop:=∀ i:Nat,i<p.length->(0<=(bM p i).f0/\(bM p i).f0<=1000)/\0<=(bM p i).f1/\(bM p i).f1<=1000
theorem aBW {r:Bool} {os:List aZ} {ls:List aI} (h:oP os ls=0) (hok:∀ j,j<os.length->(iP (fZ r) (fJ r) os ls 0 j).2.2=true):Bd (qP (fZ r) (fJ r) os ls 0 os.length):=by
 intro i hi
 rw[aaO]at hi
 have hk:=ZR h r
 have hM:=hk.ord i hi
 have hr:=hok i hi
 obtain⟨M,hMe⟩:∃ M:Nat,fZ r (dK os i)=M:=⟨(fZ r (dK os i)).toNat,(Int.toNat_of_nonneg hM.1).symm⟩
 have hend:=aBU (M:=M) (hk.lots (o:=(i:Int)) (s:=0)) (by unfold iP at hr;rw[hMe]at hr;exact hr)
 have e:bM (qP (fZ r) (fJ r) os ls 0 os.length) (i:Int)=af1 (M:Int) (fE (M:Int) (kZ (fJ r) ls i 0 ls.length)).2.1:=by
  unfold bM qP
  rw[Int.toNat_natCast]
  simp only[List.getD_eq_getElem?_getD,List.getElem?_map,List.getElem?_range hi,Option.map_some,Option.getD_some]
  unfold iP
  rw[hMe]
 rw[e]
 unfold af1
 simp only
 omega
def PS (s:Nat) (i:Nat):List Int:=((List.range i).filter fun j=>s.testBit j).map Int.ofNat
theorem aQM (s i:Nat):PS s (i+1)=PS s i++(if s.testBit i=true then[(i:Int)]else[]):=by
 unfold PS
 rw[List.range_succ,List.filter_append,List.map_append]
 congr 1
 cases h:s.testBit i<;>simp[h]
theorem aQN (s i:Nat):(PS s i).length<=i:=by
 unfold PS
 rw[List.length_map]
 exact Nat.le_trans (List.length_filter_le _ _) (by simp)
theorem aQO {s n:Nat} (hn:n<=8) (hs:s<2^n):PS s n=iQ s:=by
 unfold PS iQ bitsOf
 congr 1
 have h8:List.range 8=List.range n++List.range' n (8 - n):=by
  rw[List.range_eq_range',List.range_eq_range',show(8:Nat)=n+(8 - n) by omega,<-List.range'_append_1]
  simp
 rw[h8,List.filter_append]
 have h7:(List.range' n (8 - n)).filter (fun i=>s.testBit i)=[]:=by
  rw[List.filter_eq_nil_iff]
  intro i hi
  rw[List.mem_range'_1]at hi
  rw[Nat.testBit_lt_two_pow (Nat.lt_of_lt_of_le hs (Nat.pow_le_pow_right (by decide) hi.1))]
  exact Bool.false_ne_true
 rw[h7,List.append_nil]
theorem aQP (n:Nat) (hn:n<=8) (s:Nat) (hs:s<256):∀ m i k:Nat,i+m=n->m<k->oW.l0 k (s:Int) (n:Int) (PS s i) (i:Int)=some (PS s n):=by
 intro m
 induction m with
 |zero=>
  intro i k hi hk
  obtain⟨k,rfl⟩:∃ j,k=j+1:=⟨k - 1,by omega⟩
  obtain rfl:i=n:=by omega
  unfold oW.l0
  rw[if_neg (by omega)]
 |succ m ih=>
  intro i k hi hk
  obtain⟨k,rfl⟩:∃ j,k=j+1:=⟨k - 1,by omega⟩
  obtain⟨hb,hw⟩:=aoV s hs i (by omega)
  have hl:=aQN s i
  have hn':=ih (i+1) k (by omega) (by omega)
  rw[aQM]at hn'
  unfold oW.l0
  rw[if_pos (by omega),if_pos hw,yN (by omega)]
  by_cases ht:s.testBit i=true
  ·rw[if_pos ht]at hn'
   rw[if_pos (hb.2 ht),if_pos (by omega)]
   exact hn'
  ·rw[if_neg ht,List.append_nil]at hn'
   rw[if_neg (fun h=>ht (hb.1 h))]
   exact hn'
theorem aQQ {n:Nat} (hn:n<=8) {s:Nat} (hs:s<2^n) (k:Nat) (hk:9<=k):oW.f k (s:Int) (n:Int)=some (iQ s):=by
 have h8:2^n<=2^8:=Nat.pow_le_pow_right (by decide) hn
 rw[<-aQO hn hs]
 exact aQP n hn s (by omega) n 0 k (by omega) (by omega)
def OG:List Int->List Int->Int
 |x::xs,y::ys=>if x=y then OG xs ys else x - y
 |xs,ys=>(xs.length:Int) - ys.length
theorem aBF (xs ys:List Int) (h:xs=[]∨ys=[]):OG xs ys=(xs.length:Int) - ys.length:=by
 cases xs with
 |nil=>rfl
 |cons x xs=>cases ys with
  |nil=>rfl
  |cons y ys=>rcases h with h|h<;>cases h
theorem aQR (a b:List Int) (ha:a.length<=1000) (hb:b.length<=1000) (ha2:∀ x∈a,-1000<=x/\x<=1000) (hb2:∀ x∈b,-1000<=x/\x<=1000):∀ n i k:Nat,i+n=a.length->i<=b.length->2*n+1<k->oJ.l0 k a b i=some (OG (a.drop i) (b.drop i)):=by
 intro n
 induction n with
 |zero=>
  intro i k h hib hk
  obtain⟨k,rfl⟩:∃ j,k=j+2:=⟨k - 2,by omega⟩
  rw[oJ.l0,if_neg (by omega),oJ.j1,if_neg (by simp),jF (by omega) (by omega),aBF _ _ (.inl (List.drop_eq_nil_of_le (by omega)))]
  rw[List.length_drop,List.length_drop]
  congr 1
  omega
 |succ n ih=>
  intro i k h hib hk
  obtain⟨k,rfl⟩:∃ j,k=j+2:=⟨k - 2,by omega⟩
  have h1:i<a.length:=by omega
  rw[oJ.l0,if_pos (by omega),oJ.j1]
  by_cases h2:i<b.length
  ·rw[if_pos (by simp;omega),if_pos (by omega),if_pos (by omega),if_pos (by omega),List.drop_eq_getElem_cons h1,List.drop_eq_getElem_cons h2,OG,YJ h1,YJ h2,yN (by omega)]
   have e1:=ha2 _ (List.getElem_mem h1)
   have e2:=hb2 _ (List.getElem_mem h2)
   rw[jF (x:=a[i] - b[i]) (by omega) (by omega),ih (i+1) k (by omega) (by omega) (by omega)]
   split<;>rfl
  ·rw[if_neg (by simp;omega),jF (by omega) (by omega),aBF _ _ (.inr (List.drop_eq_nil_of_le (by omega)))]
   rw[List.length_drop,List.length_drop]
   congr 1
   omega
theorem aQS (a b:List Int) (ha:a.length<=1000) (hb:b.length<=1000) (ha2:∀ x∈a,-1000<=x/\x<=1000) (hb2:∀ x∈b,-1000<=x/\x<=1000) (k:Nat) (hk:2*a.length+2<=k):oJ.f k a b=some (OG a b):=
 aQR a b ha hb ha2 hb2 a.length 0 k (by omega) (by omega) (by omega)
theorem aQT (s:Nat):∀ x∈iQ s,0<=x/\x<8:=by
 intro x hx
 obtain⟨i,hi,rfl⟩:=List.mem_map.1 hx
 have:=List.mem_range.1 (List.mem_filter.1 hi).1
 simp only[Int.ofNat_eq_natCast]
 omega
theorem aBG (s:Nat):∀ x∈iQ s,-1000<=x/\x<=1000:=fun x hx=>by
 have:=aQT s x hx
 omega
theorem aBH (s:Nat):(iQ s).length<=8:=by
 unfold iQ bitsOf
 rw[List.length_map]
 exact Nat.le_trans (List.length_filter_le _ _) (by simp)
theorem aQU (os:List aZ) (ls:List aI) (h1:os.length<=10) (h2:ls.length<=20):nV.f os ls=some (os,ls):=by
 unfold nV.f
 simp only[Option.bind_some,List.length_nil,List.nil_append]
 rw[if_pos (by omega),if_pos (by omega)]
end Go.Proofs.YtcmfnebcmmklkaaDoor.Hand
namespace Go.Proofs.YtcmfnebcmmklkaaDoor.Q
open Go.RowKit Go.Proofs.YtcmfnebcmmklkaaDoorW.dQ Go.Proofs.YtcmfnebcmmklkaaDoorW.oU Go.Proofs.YtcmfnebcmmklkaaDoorW.gG
attribute [local go_sem] uA uB uC uD uM uN uO uP
mutual
def nR.l0:Nat->Int->Int->List (aH)->List (aH)->List Int->Int->List (aZ)->List (aI)->Option (List Int)
 |0,_,_,_,_,_,_,_,_=>none
 |k+1,x1,x2,x7,x8,x9,x10,aa5,ag0=>if 0<=(IntKind.u64.wrap ((aa5.length:Int)))then(if x10<(shl .i64 1 (IntKind.u64.wrap ((aa5.length:Int))))then((oW.f k x10 (aa5.length:Int)).bind fun t196=>(nR.l1 k x1 x2 x7 x8 x9 x10 t196 0 0 0 aa5 ag0))else(some x9))else(none)
def nR.l1:Nat->Int->Int->List (aH)->List (aH)->List Int->Int->List Int->Int->Int->Int->List (aZ)->List (aI)->Option (List Int)
 |0,_,_,_,_,_,_,_,_,_,_,_,_=>none
 |k+1,x1,x2,x7,x8,x9,x10,x11,x12,GG,x14,aa5,ag0=>if x14<(x11.length:Int)then(if 0<=x14 then(if 0<=(rd x11 x14)then(if(rd x11 x14)<(x7.length:Int)then(if(rd x11 x14)<(x8.length:Int)then(nR.l1 k x1 x2 x7 x8 x9 x10 x11 (wrap64 (x12+((bM x7 (rd x11 x14)).f1))) (wrap64 (GG+((bM x8 (rd x11 x14)).f1))) (wrap64 (x14+1)) aa5 ag0)else(none))else(none))else(none))else(none))else(if x12<=x1 then(if GG<=x2 then(if(x11.length:Int)>(x9.length:Int)then(nR.l0 k x1 x2 x7 x8 x11 (wrap64 (x10+1)) aa5 ag0)else(if(x11.length:Int)=(x9.length:Int)then((oJ.f k x11 x9).bind fun t203=>(if t203<0 then(nR.l0 k x1 x2 x7 x8 x11 (wrap64 (x10+1)) aa5 ag0)else(nR.l0 k x1 x2 x7 x8 x9 (wrap64 (x10+1)) aa5 ag0)))else(nR.l0 k x1 x2 x7 x8 x9 (wrap64 (x10+1)) aa5 ag0)))else(nR.l0 k x1 x2 x7 x8 x9 (wrap64 (x10+1)) aa5 ag0))else(nR.l0 k x1 x2 x7 x8 x9 (wrap64 (x10+1)) aa5 ag0))
end
def nR.f (k:Nat) (aG:List (aZ)) (aC:List (aI)) (a1:Int) (a2:Int):Option (List Int):=(iC.f k aG aC false).bind fun t187=>((iC.f k aG aC true).bind fun t190=>(nR.l0 k a1 a2 t187 t190 (([]:List Int)) 1 aG aC))
def nR.T1:Bool×List (List Nat×List Nat):=(true,[([],[]),([0],[0]),([],[]),([2,1],[2]),([],[]),([1,3,0,1],[1]),([3,5,0,1,2,3,5],[3]),([4,6,0,1,2,3,4,5,6],[4])])
def nR.B1:List Nat:=[0,1,0,7,0,15,47,127]
theorem nR.afJ:qW .any (opsOf Tryd.f33 1)=nR.T1:=by kernel_rfl
theorem nR.afK:CZ nR.T1.2 nR.B1=true:=by kernel_rfl
def nR.T9:Bool×List (List Nat×List Nat):=(true,[([],[]),([],[]),([],[]),([],[]),([2,3],[2,3]),([4],[4]),([1,5],[1,5]),([6],[6]),([7],[7]),([0,8],[0,8]),([],[]),([],[]),([],[]),([],[]),([12,13],[12,13]),([14],[14]),([11,15],[11,15]),([16],[16]),([17],[17]),([10,18],[10,18]),([9,0,1,2,3,4,5,6,7,8,9],[0,9]),([19,20,0,1,2,3,4,5,6,7,8,9,10,11,12,13,14,15,16,17,18,19,20],[10,19])])
def nR.B9:List Nat:=[0,0,0,0,12,28,62,126,254,511,0,0,0,0,12288,28672,63488,129024,260096,523264,1023,2097151]
theorem nR.brN:qW .any (opsOf Tryd.f33 9)=nR.T9:=by kernel_rfl
theorem nR.brO:CZ nR.T9.2 nR.B9=true:=by kernel_rfl
attribute [local go_sem] uA uB uC uD uM uN uO uP
mutual
def dF.j0:Nat->Int->Int->List Int->Int->Int->Bool->List (aZ)->List (aI)->Option (Bool)
 |0,_,_,_,_,_,_,_,_=>none
 |k+1,x1,x2,x8,x9,x10,x37,adP,adQ=>if x37=true then(dF.j1 k x1 x2 x8 x9 9 adP adQ)else(dF.j1 k x1 x2 x8 x9 x10 adP adQ)
def dF.j1:Nat->Int->Int->List Int->Int->Int->List (aZ)->List (aI)->Option (Bool)
 |0,_,_,_,_,_,_,_=>none
 |k+1,x1,x2,x8,x9,x10,adP,adQ=>if x10=0 then((qX.f x1 0 1000).bind fun t222=>(if t222=true then((qX.f x2 0 1000).bind fun t223=>(dF.j2 k x1 x2 x8 x9 x10 (!t223) adP adQ))else(dF.j2 k x1 x2 x8 x9 x10 true adP adQ)))else(dF.j2 k x1 x2 x8 x9 x10 false adP adQ)
def dF.j2:Nat->Int->Int->List Int->Int->Int->Bool->List (aZ)->List (aI)->Option (Bool)
 |0,_,_,_,_,_,_,_,_=>none
 |k+1,x1,x2,x8,x9,x10,x49,adP,adQ=>if x49=true then(dF.j3 k x1 x2 x8 x9 3 adP adQ)else(dF.j3 k x1 x2 x8 x9 x10 adP adQ)
def dF.j3:Nat->Int->Int->List Int->Int->Int->List (aZ)->List (aI)->Option (Bool)
 |0,_,_,_,_,_,_,_=>none
 |k+1,x1,x2,x8,x9,x10,adP,adQ=>if x10=0 then(if x9=0 then((nR.f k adP adQ x1 x2).bind fun t224=>((oD.f k x8 t224).bind fun t227=>(if t227=true then((oN.f).bind fun _=>(some true))else(some false))))else(some false))else(if x9=x10 then(if(x8.length:Int)=0 then((oN.f).bind fun _=>(some true))else(some false))else(some false))
end
def dF.f (k:Nat) (aG:List (aZ)) (aC:List (aI)) (a1:Int) (a2:Int):Option (Bool):=(OQ.f aG aC).bind fun t205=>(if t205=true then((oN.f).bind fun _=>(some true))else((nV.f aG aC).bind fun PV=>((aaV.f PV.1 PV.2 a1 a2).bind fun CJ=>((kJ.f k PV.1 PV.2 aG aC).bind fun t218=>(if t218=true then((jH.f k aG aC).bind fun t219=>(if t219=0 then((pY.f aG aC).bind fun t220=>((eG.f k aG aC t220).bind fun t221=>(dF.j0 k a1 a2 CJ.1 CJ.2 t219 (!t221) aG aC)))else(dF.j0 k a1 a2 CJ.1 CJ.2 t219 false aG aC)))else(some false))))))
def dF.T8:Bool×List (List Nat×List Nat):=(true,[([],[]),([0],[0]),([1],[1]),([2],[2]),([2],[2]),([4,2,2],[2,4]),([3,5,5,2],[2,3,5]),([6,2],[2,6]),([2,7],[2,7])])
def dF.B8:List Nat:=[0,1,3,7,7,23,63,127,255]
theorem dF.a5T:qW .any (opsOf Tryd.f5 8)=dF.T8:=by kernel_rfl
theorem dF.a5U:CZ dF.T8.2 dF.B8=true:=by kernel_rfl
end Go.Proofs.YtcmfnebcmmklkaaDoor.Q
namespace Go.Proofs.YtcmfnebcmmklkaaDoor.Hand
open Go.RowKit Go.Shelf Go.Proofs.YtcmfnebcmmklkaaDoorW.dQ Go.Proofs.YtcmfnebcmmklkaaDoorW.gG Go.Proofs.YtcmfnebcmmklkaaDoor.Q
theorem a5V:∀ a b:List Int,(OG a b<0↔cmpL a b<0)
 |[],[]=>by simp[OG,cmpL]
 |[],y::b=>by simp only[OG,cmpL,List.length_nil,List.length_cons];omega
 |x::a,[]=>by simp only[OG,cmpL,List.length_nil,List.length_cons];omega
 |x::a,y::b=>by
  simp only[OG,cmpL]
  by_cases hxy:x=y
  ·subst hxy
   rw[if_pos rfl,if_neg (by omega),if_neg (by omega)]
   exact a5V a b
  ·rw[if_neg hxy]
   by_cases h1:x<y
   ·rw[if_pos h1];omega
   ·rw[if_neg h1,if_pos (by omega)];omega
def LX (L:List aH) (l:List Int):Int:=l.foldl (fun r o=>r+(bM L o).f1) 0
theorem a5W (L:List aH) (l:List Int) (o:Int):LX L (l++[o])=LX L l+(bM L o).f1:=by
 unfold LX
 rw[List.foldl_append]
 rfl
theorem aRB (L:List aH) (m:Int):∀ (n:Nat) (l:List Int),l.length=n->xE L m l=m - LX L l
 |0,l,h=>by
  obtain rfl:=List.length_eq_zero_iff.1 h
  unfold xE LX
  simp
 |n+1,l,h=>by
  obtain⟨a,x,rfl⟩:∃ a x,l=a++[x]:=⟨l.dropLast,l.getLast (by intro hh;subst hh;simp at h),(List.dropLast_concat_getLast _).symm⟩
  rw[aF8,a5W,aRB L m n a (by simpa using h)]
  omega
theorem aRC (L:List aH) (l:List Int) {i:Nat} (hi:i<l.length):LX L (l.take (i+1))=LX L (l.take i)+(bM L l[i]).f1:=by
 rw[List.take_succ_eq_append_getElem hi,a5W]
theorem brR {n s:Nat} (hs:s<2^n):∀ x∈iQ s,0<=x/\x<n:=by
 intro x hx
 obtain⟨i,hi,rfl⟩:=List.mem_map.1 hx
 have h1:=(List.mem_filter.1 hi).2
 have:¬ n<=i:=by
  intro hni
  have h2:=Nat.testBit_lt_two_pow (Nat.lt_of_lt_of_le hs (Nat.pow_le_pow_right (by decide) hni))
  rw[h2]at h1
  cases h1
 simp only[Int.ofNat_eq_natCast]
 omega
theorem aRD {p:List aH} (hp:Bd p) {o:Int} (h:0<=o/\o<p.length):0<=(bM p o).f1/\(bM p o).f1<=1000:=by
 have:=(hp o.toNat (by omega)).2
 rwa [Int.toNat_of_nonneg h.1]at this
theorem a5X {p:List aH} (hp:Bd p) {l:List Int} (hl:∀ x∈l,0<=x/\x<p.length):∀ i,i<=l.length->0<=LX p (l.take i)/\LX p (l.take i)<=1000*i:=by
 intro i
 induction i with
 |zero=>intro _;rw[List.take_zero];exact⟨Int.le_refl _,Int.le_refl _⟩
 |succ i ih=>
  intro h
  have h1:=ih (by omega)
  have h2:=aRD hp (hl _ (List.getElem_mem (show i<l.length by omega)))
  rw[aRC p l (by omega)]
  omega
section
variable (os:List aZ) (ls:List aI) (p q:List aH) (x1 x2:Int)
def a5Y (l best:List Int):List Int:=if ar7 p q x1 x2 l best=true then l else best
theorem brS (hp:Bd p) (hq:Bd q) (e:q.length=p.length) (best:List Int) (hb:best.length<=8) (hb2:∀ x∈best,-1000<=x/\x<=1000) (l:List Int) (h8:l.length<=8) (hl:∀ x∈l,0<=x/\x<p.length) (hl2:∀ x∈l,-1000<=x/\x<=1000) (s:Nat) (hs:s<1000):
  ∀ m i k:Nat,i+m=l.length->m+30<k->nR.l1 k x1 x2 p q best (s:Int) l (LX p (l.take i)) (LX q (l.take i)) (i:Int) os ls=nR.l0 (k - 1 - m) x1 x2 p q (a5Y p q x1 x2 l best) ((s+1:Nat):Int) os ls:=by
 intro m
 induction m with
 |zero=>
  intro i k hi hk
  obtain⟨k,rfl⟩:∃ j,k=j+1:=⟨k - 1,by omega⟩
  obtain rfl:i=l.length:=by omega
  rw[List.take_length,nR.l1,if_neg (by omega),yN (by omega)]
  have r1:=aRB p x1 l.length l rfl
  have r2:=aRB q x2 l.length l rfl
  unfold a5Y ar7
  rw[r1,r2]
  show _=nR.l0 k x1 x2 p q _ _ os ls
  by_cases c1:LX p l<=x1
  ·rw[if_pos c1,decide_eq_true (show 0<=x1 - LX p l by omega),Bool.true_and]
   by_cases c2:LX q l<=x2
   ·rw[if_pos c2,decide_eq_true (show 0<=x2 - LX q l by omega),Bool.true_and]
    by_cases c3:best.length<l.length
    ·rw[if_pos (by omega),decide_eq_true c3,Bool.true_or,if_pos rfl]
    ·rw[if_neg (by omega),decide_eq_false c3,Bool.false_or]
     by_cases c4:l.length=best.length
     ·rw[if_pos (by omega),decide_eq_true c4,Bool.true_and,aQS l best (by omega) (by omega) hl2 hb2 k (by omega)]
      simp only[Option.bind_some]
      have hoc:=a5V l best
      by_cases c5:OG l best<0
      ·rw[if_pos c5,decide_eq_true (hoc.1 c5),if_pos rfl]
      ·rw[if_neg c5,decide_eq_false (fun hh=>c5 (hoc.2 hh)),if_neg Bool.false_ne_true]
     ·rw[if_neg (by omega),decide_eq_false c4,Bool.false_and,if_neg Bool.false_ne_true]
   ·rw[if_neg c2,decide_eq_false (show ¬ 0<=x2 - LX q l by omega),Bool.false_and,if_neg Bool.false_ne_true]
  ·rw[if_neg c1,decide_eq_false (show ¬ 0<=x1 - LX p l by omega),Bool.false_and,if_neg Bool.false_ne_true]
 |succ m ih=>
  intro i k hi hk
  obtain⟨k,rfl⟩:∃ j,k=j+1:=⟨k - 1,by omega⟩
  have hil:i<l.length:=by omega
  have hn:=ih (i+1) k (by omega) (by omega)
  have hx:=hl _ (List.getElem_mem hil)
  have s1:=a5X hp hl i (by omega)
  have s2:=a5X hq (l:=l) (by rw[e];exact hl) i (by omega)
  have t1:=aRD hp hx
  have t2:=aRD hq (o:=l[i]) (by rw[e];exact hx)
  have w1:wrap64 (LX p (l.take i)+(bM p l[i]).f1)=LX p (l.take (i+1)):=by rw[aRC p l hil,jF (by omega) (by omega)]
  have w2:wrap64 (LX q (l.take i)+(bM q l[i]).f1)=LX q (l.take (i+1)):=by rw[aRC q l hil,jF (by omega) (by omega)]
  rw[nR.l1,if_pos (by omega),if_pos (by omega),YJ hil,if_pos hx.1,if_pos hx.2,if_pos (by rw[e];exact hx.2),w1,w2,yN (by omega),hn]
  congr 1
  omega
theorem brT:∀ n:Nat,n<=8->0<=IntKind.u64.wrap (n:Int)/\shl .i64 1 (IntKind.u64.wrap (n:Int))=((2^n:Nat):Int):=by decide+kernel
theorem a5Z (s:Nat):(EJ p q x1 x2 s).length<=8/\∀ x∈EJ p q x1 x2 s,-1000<=x/\x<=1000:=by
 induction s with
 |zero=>exact⟨Nat.zero_le _,fun x hx=>by cases hx⟩
 |succ s ih=>
  unfold EJ
  split
  ·exact⟨aBH s,aBG s⟩
  ·exact ih
theorem brU (h5:os.length<=5) (hp:Bd p) (hq:Bd q) (ep:p.length=os.length) (eq:q.length=os.length):∀ m s k:Nat,s+m=2^os.length->10*m+50<k->
  nR.l0 k x1 x2 p q (EJ p q x1 x2 s) (s:Int) os ls=some (EJ p q x1 x2 (2^os.length)):=by
 obtain⟨z1,z2⟩:=brT os.length (by omega)
 have hp5:2^os.length<=2^5:=Nat.pow_le_pow_right (by decide) h5
 intro m
 induction m with
 |zero=>
  intro s k hs hk
  obtain⟨k,rfl⟩:∃ j,k=j+1:=⟨k - 1,by omega⟩
  obtain rfl:s=2^os.length:=by omega
  rw[nR.l0,if_pos z1,z2,if_neg (by omega)]
 |succ m ih=>
  intro s k hs hk
  obtain⟨k,rfl⟩:∃ j,k=j+1:=⟨k - 1,by omega⟩
  have hs2:s<2^os.length:=by omega
  obtain⟨f1,f2⟩:=a5Z p q x1 x2 s
  have hle:=aBH s
  have h1:=brS os ls p q x1 x2 hp hq (by omega) (EJ p q x1 x2 s) f1 f2 (iQ s) hle (by rw[ep];exact brR hs2) (aBG s) s (by omega) (iQ s).length 0 k (by omega) (by omega)
  have hn:=ih (s+1) (k - 1 - (iQ s).length) (by omega) (by omega)
  rw[nR.l0,if_pos z1,z2,if_pos (by omega),aQQ (by omega) hs2 k (by omega)]
  simp only[Option.bind_some]
  refine h1.trans ?_
  rw[EJ]at hn
  exact hn
end
theorem brV {os:List aZ} {ls:List aI} (h:oP os ls=0) (ht:vZ os ls 0=true) (x1 x2:Int) (k:Nat) (hk:800<=k):nR.f k os ls x1 x2=some (EJ (oG os ls).1 (oG os ls).2.2.1 x1 x2 (2^os.length)):=by
 obtain⟨h5,h8,_,_⟩:=FM h
 have he:oG os ls=(qP rJ qB os ls 0 os.length,zN rJ qB os ls 0 os.length,qP tC qQ os ls 0 os.length,zN tC qQ os ls 0 os.length,0):=by unfold oG;rw[if_pos h,if_pos ht]
 have hts:=ht
 unfold vZ at hts
 rw[Bool.and_eq_true,zO,zO]at hts
 have okL:∀ j,j<os.length->(iP (fZ false) (fJ false) os ls 0 j).2.2=true:=by rw[aaZ,aa1];exact hts.1
 have okR:∀ j,j<os.length->(iP (fZ true) (fJ true) os ls 0 j).2.2=true:=by rw[aa0,aa2];exact hts.2
 have bp:=aBW h okL
 have bq:=aBW h okR
 have fp:=aBV h false okL k (by omega)
 have fq:=aBV h true okR k (by omega)
 rw[aaZ,aa1]at bp fp
 rw[aa0,aa2]at bq fq
 have hp5:2^os.length<=2^5:=Nat.pow_le_pow_right (by decide) h5.2
 have hp0:0<2^os.length:=Nat.two_pow_pos _
 unfold nR.f
 rw[fp,fq]
 simp only[Option.bind_some]
 rw[he]
 have e1:∀ L1 L2:List aH,EJ L1 L2 x1 x2 1=[]:=by
  intro L1 L2
  have e0:iQ 0=[]:=by decide
  rw[EJ,e0]
  split<;>rfl
 have hh:=brU os ls _ _ x1 x2 h5.2 bp bq (aaO _ _ _ _ _ _) (aaO _ _ _ _ _ _) (2^os.length - 1) 1 k (by omega) (by omega)
 rw[e1]at hh
 exact hh
theorem aRE (a b:Int):allIn 0 1000 [a,b]=(decide (0<=a/\a<=1000)&&decide (0<=b/\b<=1000)):=by
 rw[Bool.eq_iff_iff,Bool.and_eq_true,decide_eq_true_iff,decide_eq_true_iff]
 simp[allIn,xR]
 try omega
theorem aHI (os:List aZ) (ls:List aI) (x1 x2:Int) (c:Int) (hc:c≠0) (k:Nat):dF.j3 (k+1) x1 x2 [] c c os ls=some true:=by
 rw[dF.j3]
 rw[if_neg hc,if_pos rfl,if_pos (by rfl)]
 rfl
theorem brW (os:List aZ) (ls:List aI) (x1 x2:Int) (k:Nat) (hk:900<=k):dF.f k os ls x1 x2=some true:=by
 unfold dF.f OQ.f
 by_cases hbig:(os.length:Int)>10
 ·rw[if_pos hbig]
  rfl
 ·rw[if_neg hbig]
  simp only[Option.bind_some,decide_eq_true_iff]
  by_cases hbig2:(ls.length:Int)>20
  ·rw[if_pos hbig2]
   rfl
  ·rw[if_neg hbig2,aQU os ls (by omega) (by omega)]
   obtain⟨k,rfl⟩:∃ j,k=j+4:=⟨k - 4,by omega⟩
   have hsame:=aA9 os ls (by omega) (by omega) (k+4) (by omega)
   have hck:=aA6 os ls (k+4) (by omega)
   simp only[Option.bind_some]
   unfold aaV.f
   simp only[Option.bind_some]
   rw[hsame]
   simp only[Option.bind_some,if_true]
   rw[hck]
   simp only[Option.bind_some]
   by_cases h0:oP os ls=0
   ·obtain⟨h5,h8,_,_⟩:=FM h0
    have aHJ:=aAW h0 (asX h8) ao9 (k+4) (by omega)
    rw[if_pos h0,alS os ls h8]
    simp only[Option.bind_some]
    rw[aHJ]
    simp only[Option.bind_some]
    by_cases ht:vZ os ls 0=true
    ·have he:(oG os ls).2.2.2.2=0:=by unfold oG;rw[if_pos h0,if_pos ht]
     rw[ht,h0]
     rw[dF.j0]
     rw[if_neg (by decide)]
     rw[dF.j1]
     rw[if_pos rfl,PQ]
     simp only[Option.bind_some,decide_eq_true_iff]
     by_cases c1:0<=x1/\x1<=1000
     ·rw[if_pos c1,PQ]
      simp only[Option.bind_some]
      by_cases c2:0<=x2/\x2<=1000
      ·have ha:allIn 0 1000 [x1,x2]=true:=by rw[aRE,decide_eq_true c1,decide_eq_true c2];rfl
       have hE:QP os ls x1 x2=0:=by unfold QP;rw[if_pos he,if_pos ha]
       have hL:QQ os ls x1 x2=EJ (oG os ls).1 (oG os ls).2.2.1 x1 x2 (2^os.length):=by unfold QQ;rw[if_pos ⟨he,ha⟩]
       have hk8:=(a5Z (oG os ls).1 (oG os ls).2.2.1 x1 x2 (2^os.length)).1
       rw[decide_eq_true c2,hE,hL]
       rw[dF.j2]
       rw[if_neg (by decide)]
       rw[dF.j3]
       rw[if_pos rfl,if_pos rfl,brV h0 ht x1 x2 k (by omega)]
       simp only[Option.bind_some]
       rw[asQ _ (by omega) k (by omega)]
       rfl
      ·have ha:¬ allIn 0 1000 [x1,x2]=true:=by rw[aRE,decide_eq_false c2,Bool.and_false];exact Bool.false_ne_true
       have hE:QP os ls x1 x2=3:=by unfold QP;rw[if_pos he,if_neg ha]
       have hL:QQ os ls x1 x2=[]:=by unfold QQ;rw[if_neg (fun hh=>ha hh.2)]
       rw[decide_eq_false c2,hE,hL]
       rw[dF.j2]
       rw[if_pos (by decide)]
       exact aHI os ls x1 x2 3 (by decide) k
     ·have ha:¬ allIn 0 1000 [x1,x2]=true:=by rw[aRE,decide_eq_false c1,Bool.false_and];exact Bool.false_ne_true
      have hE:QP os ls x1 x2=3:=by unfold QP;rw[if_pos he,if_neg ha]
      have hL:QQ os ls x1 x2=[]:=by unfold QQ;rw[if_neg (fun hh=>ha hh.2)]
      rw[if_neg c1,hE,hL]
      rw[dF.j2]
      rw[if_pos rfl]
      exact aHI os ls x1 x2 3 (by decide) k
    ·have he:(oG os ls).2.2.2.2=9:=by unfold oG;rw[if_pos h0,if_neg ht]
     have hE:QP os ls x1 x2=9:=by unfold QP;rw[he,if_neg (by decide)]
     have hL:QQ os ls x1 x2=[]:=by unfold QQ;rw[he,if_neg (fun hh=>absurd hh.1 (by decide))]
     rw[Bool.eq_false_iff.2 ht,hE,hL]
     rw[dF.j0]
     rw[if_pos (by decide)]
     rw[dF.j1]
     rw[if_neg (by decide)]
     rw[dF.j2]
     rw[if_neg Bool.false_ne_true]
     exact aHI os ls x1 x2 9 (by decide) k
   ·have he:(oG os ls).2.2.2.2=oP os ls:=by unfold oG;rw[if_neg h0]
    have hE:QP os ls x1 x2=oP os ls:=by unfold QP;rw[he,if_neg h0]
    have hL:QQ os ls x1 x2=[]:=by unfold QQ;rw[he,if_neg (fun hh=>h0 hh.1)]
    rw[if_neg h0,hE,hL]
    rw[dF.j0]
    rw[if_neg Bool.false_ne_true]
    rw[dF.j1]
    rw[if_neg h0]
    rw[dF.j2]
    rw[if_neg Bool.false_ne_true]
    exact aHI os ls x1 x2 _ h0 k
end Go.Proofs.YtcmfnebcmmklkaaDoor.Hand
namespace Go.Proofs.YtcmfnebcmmklkaaDoor.Q
open Go.RowKit Go.Proofs.YtcmfnebcmmklkaaDoorW.dQ
theorem oN.calls (w:World) (hT:Hand.lZ w) (h:oN.f=some ()):Calls Tryd.prog 15 #[] w fun e w'=>e=.returned (.bool true)/\Below w.heap.size w w':=Hand.aQG w hT
end Go.Proofs.YtcmfnebcmmklkaaDoor.Q

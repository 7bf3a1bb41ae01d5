/- DozenWrongs: the law returns true for every input; each argument reads behind the call as it read before (for worlds in which the two tables of the library hold what its initialisers lay). Part 3 of 3. -/
import Derived.Test.YtcmfnebcmmklkaaDoorLa2
import Derived.Test.YtcmfnebcmmklkaaDoorK2
import Derived.Test.YtcmfnebcmmklkaaDoorLa1
import Derived.Test.YtcmfnebcmmklkaaDoorCards
import Derived.Test.YtcmfnebcmmklkaaDoorTie
set_option linter.unusedVariables false
set_option linter.unusedSimpArgs false
set_option maxRecDepth 100000
set_option maxHeartbeats 8000000
namespace Go.Proofs.YtcmfnebcmmklkaaDoor.Q
open Go.RowKit Go.Proofs.YtcmfnebcmmklkaaDoorW.dQ Go.Proofs.YtcmfnebcmmklkaaDoorW.oU Go.Proofs.YtcmfnebcmmklkaaDoorW.gG
attribute [local go_sem] uA uB uC uD uM uN uO uP
theorem jT.calls (k:Nat) (aQ:Option Addr) (aK:Nat) (aG:List (aZ)) (aT:Option Addr) (aJ:Nat) (aC:List (aI)) (r:List Int) (w:World) (jI:Kd.C iJ w aQ aG.length aG) (jU:aG.length<=aK) (jE:Kd.C iE w aT aC.length aC) (jS:aC.length<=aJ) (h:jT.f k aG aC=some r):
    Calls Tryd.prog 30 #[.agg #[.slice aQ aG.length aK,.slice aT aC.length aJ]] w fun e w'=>∃ iG:Value,e=.returned (iG)/\Kd.R (Kd.int .i64) 3 w' w.heap.size (fun _=>True) iG r/\Below w.heap.size w w':=by
 have zH:=Tryd.underlying25
 have eU:=aA.mk jI
 have fK:=aA.mk jU
 clear jI jU
 have fB:=aA.mk jE
 have fM:=aA.mk jS
 clear jE jS
 have HB:=aA.mk (Below.refl w.heap.size w)
 have H:(jT.l0 k (([]:List Int)) false 0 aG aC)=some r:=h
 clear h
 obtain⟨a4V,aBI⟩:∃ y_:List Int,y_=(([]:List Int)):=⟨_,rfl⟩
 replace H:(jT.l0 k a4V false 0 aG aC)=some r:=by first|(rw[aBI];with_reducible exact H)|(have dJ:=(Option.bind_some _ _).symm.trans H;rw[aBI];with_reducible exact dJ)|(have dJ:=(Option.bind_some _ _).symm.trans H;with_reducible exact dJ)|with_reducible exact H|(rw[aBI];exact H)|exact H
 have a4W:=aA.mk aBI
 clear aBI
 have H':=aA.mk H
 clear H
 go_enter Tryd.func30,Tryd.ntmps30
 go_wp2_with (first|((with_reducible refine dU (N:=1) rfl ?_);refine eX 1 #[.slice aQ aG.length aK,.slice aT aC.length aJ] 25 ?_;intro vM hg w2 hbox hb;have dC:=aA.mk (hbox);have aK6:=gw hg HB;have aK7:=gw hg HB;replace HB:=bs HB hb;clear hb hbox hg)|((with_reducible refine dU (N:=7) rfl ?_);refine Kd.YX (Kd.int .i64) _ 3 ?hg (N:=7) ?hd (xs:=([]:List Int)) (inner:=[]) (ok:=fun _=>True) (lS:=fun _=>True) ?hr ?hp (fun _ hk=>hk) trivial (Below.refl _ _) (Nat.le_refl _) (by simp) ?_;(case hd=>rfl);(case hg=>rfl);(case hr=>first|(go_simp;done)|(go_simp;rfl));(case hp=>exact(gX.none _ _));intro v150 w3 BF hb mF mG;clear mF mG;(first|rw[<-a4W.out]at BF|(simp only[Int.reduceToNat]at BF;rw[<-a4W.out]at BF));have bqS:=aA.mk (Kd.eF BF (dH (Bq HB)));replace dC:=bb dC hb;replace HB:=bs HB hb;clear hb BF))
 go_loopg [3,4,5] k (fun kq v3 v4 v5 w'=>∃ (iY:List Int) (aa3:Bool) (bC:Int),v4=.bool aa3/\v5=.int .i64 bC/\aA (jT.l0 kq iY aa3 bC aG aC=some r)/\aA (kq<=k)/\aA (Kd.R (Kd.int .i64) 3 w' w.heap.size (fun _=>True) v3 iY)/\aA (w'.heap[vM]? =some (.cells #[(.slice aQ aG.length aK),(.slice aT aC.length aJ)] 25 (0,0)))/\aA (Below w.heap.size w w'))
 case atStart=>exact⟨(a4V),(false),(0),(by first|rfl|(simp;done)|(simp[*];done)),(by first|rfl|(simp;done)|(simp[*];done)),H',⟨Nat.le_refl _⟩,⟨R_ bqS⟩,⟨b_ dC⟩,⟨Bq HB⟩⟩
 case round=>
  clear H'
  obtain⟨iY,aa3,bC,rfl,rfl,HA,fV,gZ,dC,HB⟩:=hrel
  rcases gk with _|k1
  ·exact absurd HA.out (by simp[jT.l0])
  have H:=HA.out
  clear HA
  simp only[jT.l0]at H
  replace H:=Option.bind_eq_some_iff.mp H
  obtain⟨t152,A50,H⟩:=H
  replace H:(if bC<=t152 then((oW.f k1 bC (aC.length:Int)).bind fun t153=>(if aa3=true then((adI.f k1 t153 iY).bind fun t156=>(if t156=true then((pY.f aG aC).bind fun t157=>((eG.f k1 aG aC (wrap64 (t157 - bC))).bind fun t158=>(if t158=true then(jT.l0 k1 t153 true (wrap64 (bC+1)) aG aC)else(jT.l0 k1 iY aa3 (wrap64 (bC+1)) aG aC))))else(jT.l0 k1 iY aa3 (wrap64 (bC+1)) aG aC)))else((pY.f aG aC).bind fun t159=>((eG.f k1 aG aC (wrap64 (t159 - bC))).bind fun t160=>(if t160=true then(jT.l0 k1 t153 true (wrap64 (bC+1)) aG aC)else(jT.l0 k1 iY aa3 (wrap64 (bC+1)) aG aC))))))else(some iY))=some r:=H
  have A5:=aA.mk A50
  clear A50
  by_cases c6:bC<=t152
  ·rw[if_pos c6]at H
   have zJ:decide (bC<=t152)=true:=decide_eq_true c6
   clear c6
   replace H:=Option.bind_eq_some_iff.mp H
   obtain⟨t153,zK,H⟩:=H
   replace H:(if aa3=true then((adI.f k1 t153 iY).bind fun t156=>(if t156=true then((pY.f aG aC).bind fun t157=>((eG.f k1 aG aC (wrap64 (t157 - bC))).bind fun t158=>(if t158=true then(jT.l0 k1 t153 true (wrap64 (bC+1)) aG aC)else(jT.l0 k1 iY aa3 (wrap64 (bC+1)) aG aC))))else(jT.l0 k1 iY aa3 (wrap64 (bC+1)) aG aC)))else((pY.f aG aC).bind fun t159=>((eG.f k1 aG aC (wrap64 (t159 - bC))).bind fun t160=>(if t160=true then(jT.l0 k1 t153 true (wrap64 (bC+1)) aG aC)else(jT.l0 k1 iY aa3 (wrap64 (bC+1)) aG aC)))))=some r:=H
   have A7:=aA.mk zK
   clear zK
   by_cases c8:aa3=true
   ·subst c8
    replace H:((adI.f k1 t153 iY).bind fun t156=>(if t156=true then((pY.f aG aC).bind fun t157=>((eG.f k1 aG aC (wrap64 (t157 - bC))).bind fun t158=>(if t158=true then(jT.l0 k1 t153 true (wrap64 (bC+1)) aG aC)else(jT.l0 k1 iY true (wrap64 (bC+1)) aG aC))))else(jT.l0 k1 iY true (wrap64 (bC+1)) aG aC)))=some r:=by rw[if_pos rfl]at H;exact H
    replace H:=Option.bind_eq_some_iff.mp H
    obtain⟨t156,YM,H⟩:=H
    replace H:(if t156=true then((pY.f aG aC).bind fun t157=>((eG.f k1 aG aC (wrap64 (t157 - bC))).bind fun t158=>(if t158=true then(jT.l0 k1 t153 true (wrap64 (bC+1)) aG aC)else(jT.l0 k1 iY true (wrap64 (bC+1)) aG aC))))else(jT.l0 k1 iY true (wrap64 (bC+1)) aG aC))=some r:=H
    have A9:=aA.mk YM
    clear YM
    by_cases c10:t156=true
    ·subst c10
     replace H:((pY.f aG aC).bind fun t157=>((eG.f k1 aG aC (wrap64 (t157 - bC))).bind fun t158=>(if t158=true then(jT.l0 k1 t153 true (wrap64 (bC+1)) aG aC)else(jT.l0 k1 iY true (wrap64 (bC+1)) aG aC))))=some r:=by rw[if_pos rfl]at H;exact H
     replace H:=Option.bind_eq_some_iff.mp H
     obtain⟨t157,wJ,H⟩:=H
     replace H:((eG.f k1 aG aC (wrap64 (t157 - bC))).bind fun t158=>(if t158=true then(jT.l0 k1 t153 true (wrap64 (bC+1)) aG aC)else(jT.l0 k1 iY true (wrap64 (bC+1)) aG aC)))=some r:=H
     have BU:=aA.mk wJ
     clear wJ
     replace H:=Option.bind_eq_some_iff.mp H
     obtain⟨t158,adJ,H⟩:=H
     replace H:(if t158=true then(jT.l0 k1 t153 true (wrap64 (bC+1)) aG aC)else(jT.l0 k1 iY true (wrap64 (bC+1)) aG aC))=some r:=H
     have A12:=aA.mk adJ
     clear adJ
     by_cases c13:t158=true
     ·subst c13
      replace H:(jT.l0 k1 t153 true (wrap64 (bC+1)) aG aC)=some r:=by rw[if_pos rfl]at H;exact H
      have H':=aA.mk H
      clear H
      obtain⟨aT5,aT6⟩:=bZ dC (.slice aQ aG.length aK) (.slice aT aC.length aJ)
      try go_wp2_with (first|((with_reducible refine gJ (f:=24) rfl ?_);refine cE 10 Tryd.func24 #[.agg #[.slice aQ aG.length aK,.slice aT aC.length aJ]] ?_;refine(pY.calls _ _ aG _ _ aC t152 _ (Kd.bJ eU.out (Bq HB)) fK.out (Kd.bJ fB.out (Bq HB)) fM.out A5.out).mono ?_;rintro e vY ⟨rfl,hb⟩;refine⟨_,rfl,?_⟩;replace gZ:=RB gZ hb;replace dC:=bb dC hb;replace HB:=bs HB hb;(try clear hb);obtain⟨ahN,ahO⟩:=bZ dC (.slice aQ aG.length aK) (.slice aT aC.length aJ))|((with_reducible refine gJ (f:=76) rfl ?_);refine cE 18 Tryd.func76 #[.int .i64 bC,.int .i64 (aC.length:Int)] ?_;(with_reducible refine(oW.calls k1 bC (aC.length:Int) t153 _ A7.out).mono ?_);rintro e uS ⟨v154,rfl,ho0,hb⟩;refine⟨_,rfl,?_⟩;have nP:=aA.mk (Kd.eF (Kd.fG ho0 (Kd.dY (R_ gZ))) (dH (Bq HB)));replace gZ:=aA.mk (Kd.gW (R_ gZ) (Kd.fF ho0) hb);replace dC:=bb dC hb;replace HB:=bs HB hb;(try clear hb);(try clear ho0)))
      have aV:=aA.mk (Kd.dG gZ.out)
      have aW:=aA.mk (Kd.dG nP.out)
      have aY:=aA.mk (gI dC.out)
      have bI:=aA.mk (sW HB.out)
      clear gZ nP dC HB
      have gZ:=aV
      have nP:=aW
      have dC:=aY
      have HB:=bI
      clear aV aW aY bI
      obtain⟨bqT,bqU,a4X⟩:=Kd.dA nP.out
      (first|subst a4X|(injection a4X with kG pF kH;have pG:=kG.symm;have pI:=kH.symm;clear kG pF kH;subst pG;subst pI))
      obtain⟨aEN,aEO,a4Y⟩:=Kd.dA gZ.out
      (first|subst a4Y|(injection a4Y with kG pF kH;have pG:=kG.symm;have pI:=kH.symm;clear kG pF kH;subst pG;subst pI))
      refine xP (n:=15) (S:=fun w'=>w'.cell? ⟨vM,0,none⟩=some (.slice aQ aG.length aK)/\w'.cell? ⟨vM,1,none⟩=some (.slice aT aC.length aJ)) (ds:=[]) (bl 15 0) (by kernel_rfl) rfl rfl ⟨kc dC 0,kc dC 1⟩ (fun hHeld=>?_);refine yS jT.tab6 jT.amZ (fun aN jG=>?_)
      generalize uS.drew=BM at gZ nP dC HB hHeld ⊢
      refine pS 0 19 15 1 aN ?_
      refine pS 1 20 15 3 aN ?_
      refine pS 2 21 15 7 aN ?_
      refine pS 3 22 15 15 aN ?_
      refine pS 4 23 15 31 aN ?_
      refine lI (i:=5) (N:=some 24) (bl 15 63) rfl rfl (lJ aN.out (by kernel_rfl)) (by decide) (fun K hK=>?_)
      refine rD Tryd.func77 (by kernel_rfl) rfl #[.slice bqT t153.length bqU,.slice aEN iY.length aEO] (by rfl) rfl rfl (by(try simp only[List.map_toArray,List.map_cons,List.map_nil]);first|done|rfl|(simp only[List.length_drop,List.length_take];rfl)) ?_
      with_reducible refine(adI.calls k1 _ _ t153 _ _ iY true _ ?jK ?jL ?jM ?jO A9.out).mono ?_
      (case jK=>exact rC nP)
      (case jL=>exact(Kd.dB nP.out).2.1)
      (case jM=>exact rC gZ)
      (case jO=>exact(Kd.dB gZ.out).2.1)
      rintro e w' ⟨rfl,⟨nd,rfl⟩⟩
      refine⟨_,rfl,?_⟩
      refine hK.out _ _ ⟨kc dC 0,kc dC 1⟩ (fun hHeld=>?_)
      clear hK K
      refine nq 24 ?_
      refine pS 6 25 15 127 aN ?_
      refine pS 7 26 15 255 aN ?_
      refine pS 11 30 15 2303 aN ?_
      refine tq 8 (some 27) (bl 15 2559) aN jG hHeld (h:=?_)
      refine tq 9 (some 28) (bl 15 3071) aN jG hHeld (h:=?_)
      refine lI (i:=10) (N:=some 29) (bl 15 4095) rfl rfl (lJ aN.out (by kernel_rfl)) (by decide) (fun K hK=>?_)
      refine rD Tryd.func24 (by kernel_rfl) rfl #[.agg #[.slice aQ aG.length aK,.slice aT aC.length aJ]] (by rfl) rfl rfl (by(try simp only[List.map_toArray,List.map_cons,List.map_nil]);first|done|rfl|(simp only[List.length_drop,List.length_take];rfl)) ?_
      with_reducible refine(pY.calls _ _ aG _ _ aC t157 _ ?jK ?jL ?jM ?jO BU.out).mono ?_
      (case jK=>repeat(first|exact(Kd.bJ eU.out (Bq HB))|(with_reducible refine Kd.jZ ?_ _)|(with_reducible refine Kd.kD ?_ _)|(with_reducible refine Kd.kC ?_)))
      (case jL=>exact fK.out)
      (case jM=>repeat(first|exact(Kd.bJ fB.out (Bq HB))|(with_reducible refine Kd.jZ ?_ _)|(with_reducible refine Kd.kD ?_ _)|(with_reducible refine Kd.kC ?_)))
      (case jO=>exact fM.out)
      rintro e BR ⟨rfl,hb⟩
      refine⟨_,rfl,?_⟩
      have aV:=RB gZ hb
      have aW:=RB nP hb
      have aY:=bb dC hb
      have bI:=bs HB hb
      clear gZ nP dC HB
      have gZ:=aV
      have nP:=aW
      have dC:=aY
      have HB:=bI
      clear aV aW aY bI
      (try clear hb)
      (try clear hb2)
      (try clear hk)
      (try clear hi)
      refine hK.out _ _ ⟨kc dC 0,kc dC 1⟩ (fun hHeld=>?_)
      clear hK K
      refine nq 29 ?_
      refine pS 12 31 15 8191 aN ?_
      refine lI (i:=13) (N:=some 32) (bl 15 16383) rfl rfl (lJ aN.out (by kernel_rfl)) (by decide) (fun K hK=>?_)
      refine rD Tryd.func23 (by kernel_rfl) rfl #[.agg #[.slice aQ aG.length aK,.slice aT aC.length aJ],.int .i64 (wrap64 (t157 - bC))] (by rfl) rfl rfl (by(try simp only[List.map_toArray,List.map_cons,List.map_nil]);first|done|rfl|(simp only[List.length_drop,List.length_take];rfl)) ?_
      with_reducible refine(eG.calls k1 _ _ aG _ _ aC (wrap64 (t157 - bC)) true _ ?jK ?jL ?jM ?jO A12.out).mono ?_
      (case jK=>exact Kd.bJ eU.out (Bq HB))
      (case jL=>exact fK.out)
      (case jM=>exact Kd.bJ fB.out (Bq HB))
      (case jO=>exact fM.out)
      rintro e AU ⟨rfl,hb⟩
      refine⟨_,rfl,?_⟩
      have aV:=RB gZ hb
      have aW:=RB nP hb
      have aY:=bb dC hb
      have bI:=bs HB hb
      clear gZ nP dC HB
      have gZ:=aV
      have nP:=aW
      have dC:=aY
      have HB:=bI
      clear aV aW aY bI
      (try clear hb)
      (try clear hb2)
      (try clear hk)
      (try clear hi)
      refine hK.out _ _ ⟨kc dC 0,kc dC 1⟩ (fun hHeld=>?_)
      clear hK K
      refine nq 32 ?_
      refine pS 14 33 15 32767 aN ?_
      refine xQ (yR aN.out (by kernel_rfl)) ?_
      try go_wp2
      go_roundg k1
      case measure=>have:=fV.out;omega
      case rel=>exact⟨(t153),(true),(wrap64 (bC+1)),(by first|rfl|(simp;done)|(simp[*];done)),(by first|rfl|(simp;done)|(simp[*];done)),H',⟨by have:=fV.out;omega⟩,⟨Kd.bQ (R_ nP) (fun _ hk=>trivial)⟩,⟨b_ dC⟩,⟨Bq HB⟩⟩
     replace c13:=Bool.eq_false_iff.mpr c13
     subst c13
     replace H:(jT.l0 k1 iY true (wrap64 (bC+1)) aG aC)=some r:=by rw[if_neg (show ¬ (false=true) by decide)]at H;exact H
     have H':=aA.mk H
     clear H
     obtain⟨amO,amP⟩:=bZ dC (.slice aQ aG.length aK) (.slice aT aC.length aJ)
     try go_wp2_with (first|((with_reducible refine gJ (f:=24) rfl ?_);refine cE 10 Tryd.func24 #[.agg #[.slice aQ aG.length aK,.slice aT aC.length aJ]] ?_;refine(pY.calls _ _ aG _ _ aC t152 _ (Kd.bJ eU.out (Bq HB)) fK.out (Kd.bJ fB.out (Bq HB)) fM.out A5.out).mono ?_;rintro e BN ⟨rfl,hb⟩;refine⟨_,rfl,?_⟩;replace gZ:=RB gZ hb;replace dC:=bb dC hb;replace HB:=bs HB hb;(try clear hb);obtain⟨ahI,ahJ⟩:=bZ dC (.slice aQ aG.length aK) (.slice aT aC.length aJ))|((with_reducible refine gJ (f:=76) rfl ?_);refine cE 18 Tryd.func76 #[.int .i64 bC,.int .i64 (aC.length:Int)] ?_;(with_reducible refine(oW.calls k1 bC (aC.length:Int) t153 _ A7.out).mono ?_);rintro e xN ⟨v154,rfl,ho0,hb⟩;refine⟨_,rfl,?_⟩;have nP:=aA.mk (Kd.eF (Kd.fG ho0 (Kd.dY (R_ gZ))) (dH (Bq HB)));replace gZ:=aA.mk (Kd.gW (R_ gZ) (Kd.fF ho0) hb);replace dC:=bb dC hb;replace HB:=bs HB hb;(try clear hb);(try clear ho0)))
     have aV:=aA.mk (Kd.dG gZ.out)
     have aW:=aA.mk (Kd.dG nP.out)
     have aY:=aA.mk (gI dC.out)
     have bI:=aA.mk (sW HB.out)
     clear gZ nP dC HB
     have gZ:=aV
     have nP:=aW
     have dC:=aY
     have HB:=bI
     clear aV aW aY bI
     obtain⟨ED,EE,aBJ⟩:=Kd.dA nP.out
     (first|subst aBJ|(injection aBJ with kG pF kH;have pG:=kG.symm;have pI:=kH.symm;clear kG pF kH;subst pG;subst pI))
     obtain⟨aXL,aXM,a4Z⟩:=Kd.dA gZ.out
     (first|subst a4Z|(injection a4Z with kG pF kH;have pG:=kG.symm;have pI:=kH.symm;clear kG pF kH;subst pG;subst pI))
     refine xP (n:=15) (S:=fun w'=>w'.cell? ⟨vM,0,none⟩=some (.slice aQ aG.length aK)/\w'.cell? ⟨vM,1,none⟩=some (.slice aT aC.length aJ)) (ds:=[]) (bl 15 0) (by kernel_rfl) rfl rfl ⟨kc dC 0,kc dC 1⟩ (fun hHeld=>?_);refine yS jT.tab6 jT.amZ (fun aN jG=>?_)
     generalize xN.drew=wF at gZ nP dC HB hHeld ⊢
     refine pS 0 19 15 1 aN ?_
     refine pS 1 20 15 3 aN ?_
     refine pS 2 21 15 7 aN ?_
     refine pS 3 22 15 15 aN ?_
     refine pS 4 23 15 31 aN ?_
     refine lI (i:=5) (N:=some 24) (bl 15 63) rfl rfl (lJ aN.out (by kernel_rfl)) (by decide) (fun K hK=>?_)
     refine rD Tryd.func77 (by kernel_rfl) rfl #[.slice ED t153.length EE,.slice aXL iY.length aXM] (by rfl) rfl rfl (by(try simp only[List.map_toArray,List.map_cons,List.map_nil]);first|done|rfl|(simp only[List.length_drop,List.length_take];rfl)) ?_
     with_reducible refine(adI.calls k1 _ _ t153 _ _ iY true _ ?jK ?jL ?jM ?jO A9.out).mono ?_
     (case jK=>exact rC nP)
     (case jL=>exact(Kd.dB nP.out).2.1)
     (case jM=>exact rC gZ)
     (case jO=>exact(Kd.dB gZ.out).2.1)
     rintro e w' ⟨rfl,⟨nd,rfl⟩⟩
     refine⟨_,rfl,?_⟩
     refine hK.out _ _ ⟨kc dC 0,kc dC 1⟩ (fun hHeld=>?_)
     clear hK K
     refine nq 24 ?_
     refine pS 6 25 15 127 aN ?_
     refine pS 7 26 15 255 aN ?_
     refine pS 11 30 15 2303 aN ?_
     refine tq 8 (some 27) (bl 15 2559) aN jG hHeld (h:=?_)
     refine tq 9 (some 28) (bl 15 3071) aN jG hHeld (h:=?_)
     refine lI (i:=10) (N:=some 29) (bl 15 4095) rfl rfl (lJ aN.out (by kernel_rfl)) (by decide) (fun K hK=>?_)
     refine rD Tryd.func24 (by kernel_rfl) rfl #[.agg #[.slice aQ aG.length aK,.slice aT aC.length aJ]] (by rfl) rfl rfl (by(try simp only[List.map_toArray,List.map_cons,List.map_nil]);first|done|rfl|(simp only[List.length_drop,List.length_take];rfl)) ?_
     with_reducible refine(pY.calls _ _ aG _ _ aC t157 _ ?jK ?jL ?jM ?jO BU.out).mono ?_
     (case jK=>repeat(first|exact(Kd.bJ eU.out (Bq HB))|(with_reducible refine Kd.jZ ?_ _)|(with_reducible refine Kd.kD ?_ _)|(with_reducible refine Kd.kC ?_)))
     (case jL=>exact fK.out)
     (case jM=>repeat(first|exact(Kd.bJ fB.out (Bq HB))|(with_reducible refine Kd.jZ ?_ _)|(with_reducible refine Kd.kD ?_ _)|(with_reducible refine Kd.kC ?_)))
     (case jO=>exact fM.out)
     rintro e uF ⟨rfl,hb⟩
     refine⟨_,rfl,?_⟩
     have aV:=RB gZ hb
     have aW:=RB nP hb
     have aY:=bb dC hb
     have bI:=bs HB hb
     clear gZ nP dC HB
     have gZ:=aV
     have nP:=aW
     have dC:=aY
     have HB:=bI
     clear aV aW aY bI
     (try clear hb)
     (try clear hb2)
     (try clear hk)
     (try clear hi)
     refine hK.out _ _ ⟨kc dC 0,kc dC 1⟩ (fun hHeld=>?_)
     clear hK K
     refine nq 29 ?_
     refine pS 12 31 15 8191 aN ?_
     refine lI (i:=13) (N:=some 32) (bl 15 16383) rfl rfl (lJ aN.out (by kernel_rfl)) (by decide) (fun K hK=>?_)
     refine rD Tryd.func23 (by kernel_rfl) rfl #[.agg #[.slice aQ aG.length aK,.slice aT aC.length aJ],.int .i64 (wrap64 (t157 - bC))] (by rfl) rfl rfl (by(try simp only[List.map_toArray,List.map_cons,List.map_nil]);first|done|rfl|(simp only[List.length_drop,List.length_take];rfl)) ?_
     with_reducible refine(eG.calls k1 _ _ aG _ _ aC (wrap64 (t157 - bC)) false _ ?jK ?jL ?jM ?jO A12.out).mono ?_
     (case jK=>exact Kd.bJ eU.out (Bq HB))
     (case jL=>exact fK.out)
     (case jM=>exact Kd.bJ fB.out (Bq HB))
     (case jO=>exact fM.out)
     rintro e yA ⟨rfl,hb⟩
     refine⟨_,rfl,?_⟩
     have aV:=RB gZ hb
     have aW:=RB nP hb
     have aY:=bb dC hb
     have bI:=bs HB hb
     clear gZ nP dC HB
     have gZ:=aV
     have nP:=aW
     have dC:=aY
     have HB:=bI
     clear aV aW aY bI
     (try clear hb)
     (try clear hb2)
     (try clear hk)
     (try clear hi)
     refine hK.out _ _ ⟨kc dC 0,kc dC 1⟩ (fun hHeld=>?_)
     clear hK K
     refine nq 32 ?_
     refine pS 14 33 15 32767 aN ?_
     refine xQ (yR aN.out (by kernel_rfl)) ?_
     try go_wp2
     go_roundg k1
     case measure=>have:=fV.out;omega
     case rel=>exact⟨(iY),(true),(wrap64 (bC+1)),(by first|rfl|(simp;done)|(simp[*];done)),(by first|rfl|(simp;done)|(simp[*];done)),H',⟨by have:=fV.out;omega⟩,⟨Kd.bQ (R_ gZ) (fun _ hk=>trivial)⟩,⟨b_ dC⟩,⟨Bq HB⟩⟩
    replace c10:=Bool.eq_false_iff.mpr c10
    subst c10
    replace H:(jT.l0 k1 iY true (wrap64 (bC+1)) aG aC)=some r:=by rw[if_neg (show ¬ (false=true) by decide)]at H;exact H
    have H':=aA.mk H
    clear H
    obtain⟨aqK,aqL⟩:=bZ dC (.slice aQ aG.length aK) (.slice aT aC.length aJ)
    try go_wp2_with (first|((with_reducible refine gJ (f:=24) rfl ?_);refine cE 10 Tryd.func24 #[.agg #[.slice aQ aG.length aK,.slice aT aC.length aJ]] ?_;refine(pY.calls _ _ aG _ _ aC t152 _ (Kd.bJ eU.out (Bq HB)) fK.out (Kd.bJ fB.out (Bq HB)) fM.out A5.out).mono ?_;rintro e NY ⟨rfl,hb⟩;refine⟨_,rfl,?_⟩;replace gZ:=RB gZ hb;replace dC:=bb dC hb;replace HB:=bs HB hb;(try clear hb);obtain⟨aJ5,aJ6⟩:=bZ dC (.slice aQ aG.length aK) (.slice aT aC.length aJ))|((with_reducible refine gJ (f:=76) rfl ?_);refine cE 18 Tryd.func76 #[.int .i64 bC,.int .i64 (aC.length:Int)] ?_;(with_reducible refine(oW.calls k1 bC (aC.length:Int) t153 _ A7.out).mono ?_);rintro e FB ⟨v154,rfl,ho0,hb⟩;refine⟨_,rfl,?_⟩;have nP:=aA.mk (Kd.eF (Kd.fG ho0 (Kd.dY (R_ gZ))) (dH (Bq HB)));replace gZ:=aA.mk (Kd.gW (R_ gZ) (Kd.fF ho0) hb);replace dC:=bb dC hb;replace HB:=bs HB hb;(try clear hb);(try clear ho0)))
    have aV:=aA.mk (Kd.dG gZ.out)
    have aW:=aA.mk (Kd.dG nP.out)
    have aY:=aA.mk (gI dC.out)
    have bI:=aA.mk (sW HB.out)
    clear gZ nP dC HB
    have gZ:=aV
    have nP:=aW
    have dC:=aY
    have HB:=bI
    clear aV aW aY bI
    obtain⟨a5A,a5B,a5C⟩:=Kd.dA nP.out
    (first|subst a5C|(injection a5C with kG pF kH;have pG:=kG.symm;have pI:=kH.symm;clear kG pF kH;subst pG;subst pI))
    obtain⟨a5D,a5E,a5F⟩:=Kd.dA gZ.out
    (first|subst a5F|(injection a5F with kG pF kH;have pG:=kG.symm;have pI:=kH.symm;clear kG pF kH;subst pG;subst pI))
    refine xP (n:=15) (S:=fun w'=>True) (ds:=[]) (bl 15 0) (by kernel_rfl) rfl rfl trivial (fun hHeld=>?_);refine yS jT.tab6 jT.amZ (fun aN jG=>?_)
    generalize FB.drew=xK at gZ nP dC HB hHeld ⊢
    refine pS 0 19 15 1 aN ?_
    refine pS 1 20 15 3 aN ?_
    refine pS 2 21 15 7 aN ?_
    refine pS 3 22 15 15 aN ?_
    refine pS 4 23 15 31 aN ?_
    refine lI (i:=5) (N:=some 24) (bl 15 63) rfl rfl (lJ aN.out (by kernel_rfl)) (by decide) (fun K hK=>?_)
    refine rD Tryd.func77 (by kernel_rfl) rfl #[.slice a5A t153.length a5B,.slice a5D iY.length a5E] (by rfl) rfl rfl (by(try simp only[List.map_toArray,List.map_cons,List.map_nil]);first|done|rfl|(simp only[List.length_drop,List.length_take];rfl)) ?_
    with_reducible refine(adI.calls k1 _ _ t153 _ _ iY false _ ?jK ?jL ?jM ?jO A9.out).mono ?_
    (case jK=>exact rC nP)
    (case jL=>exact(Kd.dB nP.out).2.1)
    (case jM=>exact rC gZ)
    (case jO=>exact(Kd.dB gZ.out).2.1)
    rintro e w' ⟨rfl,⟨nd,rfl⟩⟩
    refine⟨_,rfl,?_⟩
    refine hK.out _ _ trivial (fun hHeld=>?_)
    clear hK K
    refine nq 24 ?_
    refine pS 6 25 15 127 aN ?_
    refine pS 7 26 15 255 aN ?_
    refine oS 8 27 15 511 aN ?_
    refine oS 9 28 15 1023 aN ?_
    refine oS 10 29 15 2047 aN ?_
    refine oS 11 30 15 4095 aN ?_
    refine oS 12 31 15 8191 aN ?_
    refine oS 13 32 15 16383 aN ?_
    refine pS 14 33 15 32767 aN ?_
    refine xQ (yR aN.out (by kernel_rfl)) ?_
    try go_wp2
    go_roundg k1
    case measure=>have:=fV.out;omega
    case rel=>exact⟨(iY),(true),(wrap64 (bC+1)),(by first|rfl|(simp;done)|(simp[*];done)),(by first|rfl|(simp;done)|(simp[*];done)),H',⟨by have:=fV.out;omega⟩,⟨Kd.bQ (R_ gZ) (fun _ hk=>trivial)⟩,⟨b_ dC⟩,⟨Bq HB⟩⟩
   replace c8:=Bool.eq_false_iff.mpr c8
   subst c8
   replace H:((pY.f aG aC).bind fun t159=>((eG.f k1 aG aC (wrap64 (t159 - bC))).bind fun t160=>(if t160=true then(jT.l0 k1 t153 true (wrap64 (bC+1)) aG aC)else(jT.l0 k1 iY false (wrap64 (bC+1)) aG aC))))=some r:=by rw[if_neg (show ¬ (false=true) by decide)]at H;exact H
   replace H:=Option.bind_eq_some_iff.mp H
   obtain⟨t159,a5G,H⟩:=H
   replace H:((eG.f k1 aG aC (wrap64 (t159 - bC))).bind fun t160=>(if t160=true then(jT.l0 k1 t153 true (wrap64 (bC+1)) aG aC)else(jT.l0 k1 iY false (wrap64 (bC+1)) aG aC)))=some r:=H
   have A39:=aA.mk a5G
   clear a5G
   replace H:=Option.bind_eq_some_iff.mp H
   obtain⟨t160,a5I,H⟩:=H
   replace H:(if t160=true then(jT.l0 k1 t153 true (wrap64 (bC+1)) aG aC)else(jT.l0 k1 iY false (wrap64 (bC+1)) aG aC))=some r:=H
   have vG:=aA.mk a5I
   clear a5I
   by_cases c41:t160=true
   ·subst c41
    replace H:(jT.l0 k1 t153 true (wrap64 (bC+1)) aG aC)=some r:=by rw[if_pos rfl]at H;exact H
    have H':=aA.mk H
    clear H
    obtain⟨bqV,bqW⟩:=bZ dC (.slice aQ aG.length aK) (.slice aT aC.length aJ)
    try go_wp2_with (first|((with_reducible refine gJ (f:=24) rfl ?_);refine cE 10 Tryd.func24 #[.agg #[.slice aQ aG.length aK,.slice aT aC.length aJ]] ?_;refine(pY.calls _ _ aG _ _ aC t152 _ (Kd.bJ eU.out (Bq HB)) fK.out (Kd.bJ fB.out (Bq HB)) fM.out A5.out).mono ?_;rintro e BH ⟨rfl,hb⟩;refine⟨_,rfl,?_⟩;replace gZ:=RB gZ hb;replace dC:=bb dC hb;replace HB:=bs HB hb;(try clear hb);obtain⟨hcz44_0,hcz44_1⟩:=bZ dC (.slice aQ aG.length aK) (.slice aT aC.length aJ))|((with_reducible refine gJ (f:=76) rfl ?_);refine cE 18 Tryd.func76 #[.int .i64 bC,.int .i64 (aC.length:Int)] ?_;(with_reducible refine(oW.calls k1 bC (aC.length:Int) t153 _ A7.out).mono ?_);rintro e EL ⟨v154,rfl,ho0,hb⟩;refine⟨_,rfl,?_⟩;have nP:=aA.mk (Kd.eF (Kd.fG ho0 (Kd.dY (R_ gZ))) (dH (Bq HB)));replace gZ:=aA.mk (Kd.gW (R_ gZ) (Kd.fF ho0) hb);replace dC:=bb dC hb;replace HB:=bs HB hb;(try clear hb);(try clear ho0)))
    have aV:=aA.mk (Kd.dG gZ.out)
    have aW:=aA.mk (Kd.dG nP.out)
    have aY:=aA.mk (gI dC.out)
    have bI:=aA.mk (sW HB.out)
    clear gZ nP dC HB
    have gZ:=aV
    have nP:=aW
    have dC:=aY
    have HB:=bI
    clear aV aW aY bI
    refine xP (n:=15) (S:=fun w'=>w'.cell? ⟨vM,0,none⟩=some (.slice aQ aG.length aK)/\w'.cell? ⟨vM,1,none⟩=some (.slice aT aC.length aJ)) (ds:=[]) (bl 15 0) (by kernel_rfl) rfl rfl ⟨kc dC 0,kc dC 1⟩ (fun hHeld=>?_);refine yS jT.tab6 jT.amZ (fun aN jG=>?_)
    generalize EL.drew=FZ at gZ nP dC HB hHeld ⊢
    refine pS 0 19 15 1 aN ?_
    refine pS 1 20 15 3 aN ?_
    refine pS 2 21 15 7 aN ?_
    refine oS 3 22 15 15 aN ?_
    refine oS 4 23 15 31 aN ?_
    refine oS 5 24 15 63 aN ?_
    refine pS 6 25 15 127 aN ?_
    refine pS 7 26 15 255 aN ?_
    refine pS 11 30 15 2303 aN ?_
    refine tq 8 (some 27) (bl 15 2559) aN jG hHeld (h:=?_)
    refine tq 9 (some 28) (bl 15 3071) aN jG hHeld (h:=?_)
    refine lI (i:=10) (N:=some 29) (bl 15 4095) rfl rfl (lJ aN.out (by kernel_rfl)) (by decide) (fun K hK=>?_)
    refine rD Tryd.func24 (by kernel_rfl) rfl #[.agg #[.slice aQ aG.length aK,.slice aT aC.length aJ]] (by rfl) rfl rfl (by(try simp only[List.map_toArray,List.map_cons,List.map_nil]);first|done|rfl|(simp only[List.length_drop,List.length_take];rfl)) ?_
    with_reducible refine(pY.calls _ _ aG _ _ aC t159 _ ?jK ?jL ?jM ?jO A39.out).mono ?_
    (case jK=>exact Kd.bJ eU.out (Bq HB))
    (case jL=>exact fK.out)
    (case jM=>exact Kd.bJ fB.out (Bq HB))
    (case jO=>exact fM.out)
    rintro e VN ⟨rfl,hb⟩
    refine⟨_,rfl,?_⟩
    have aV:=RB gZ hb
    have aW:=RB nP hb
    have aY:=bb dC hb
    have bI:=bs HB hb
    clear gZ nP dC HB
    have gZ:=aV
    have nP:=aW
    have dC:=aY
    have HB:=bI
    clear aV aW aY bI
    (try clear hb)
    (try clear hb2)
    (try clear hk)
    (try clear hi)
    refine hK.out _ _ ⟨kc dC 0,kc dC 1⟩ (fun hHeld=>?_)
    clear hK K
    refine nq 29 ?_
    refine pS 12 31 15 8191 aN ?_
    refine lI (i:=13) (N:=some 32) (bl 15 16383) rfl rfl (lJ aN.out (by kernel_rfl)) (by decide) (fun K hK=>?_)
    refine rD Tryd.func23 (by kernel_rfl) rfl #[.agg #[.slice aQ aG.length aK,.slice aT aC.length aJ],.int .i64 (wrap64 (t159 - bC))] (by rfl) rfl rfl (by(try simp only[List.map_toArray,List.map_cons,List.map_nil]);first|done|rfl|(simp only[List.length_drop,List.length_take];rfl)) ?_
    with_reducible refine(eG.calls k1 _ _ aG _ _ aC (wrap64 (t159 - bC)) true _ ?jK ?jL ?jM ?jO vG.out).mono ?_
    (case jK=>exact Kd.bJ eU.out (Bq HB))
    (case jL=>exact fK.out)
    (case jM=>exact Kd.bJ fB.out (Bq HB))
    (case jO=>exact fM.out)
    rintro e TW ⟨rfl,hb⟩
    refine⟨_,rfl,?_⟩
    have aV:=RB gZ hb
    have aW:=RB nP hb
    have aY:=bb dC hb
    have bI:=bs HB hb
    clear gZ nP dC HB
    have gZ:=aV
    have nP:=aW
    have dC:=aY
    have HB:=bI
    clear aV aW aY bI
    (try clear hb)
    (try clear hb2)
    (try clear hk)
    (try clear hi)
    refine hK.out _ _ ⟨kc dC 0,kc dC 1⟩ (fun hHeld=>?_)
    clear hK K
    refine nq 32 ?_
    refine pS 14 33 15 32767 aN ?_
    refine xQ (yR aN.out (by kernel_rfl)) ?_
    try go_wp2
    go_roundg k1
    case measure=>have:=fV.out;omega
    case rel=>exact⟨(t153),(true),(wrap64 (bC+1)),(by first|rfl|(simp;done)|(simp[*];done)),(by first|rfl|(simp;done)|(simp[*];done)),H',⟨by have:=fV.out;omega⟩,⟨Kd.bQ (R_ nP) (fun _ hk=>trivial)⟩,⟨b_ dC⟩,⟨Bq HB⟩⟩
   replace c41:=Bool.eq_false_iff.mpr c41
   subst c41
   replace H:(jT.l0 k1 iY false (wrap64 (bC+1)) aG aC)=some r:=by rw[if_neg (show ¬ (false=true) by decide)]at H;exact H
   have H':=aA.mk H
   clear H
   obtain⟨aNT,aNU⟩:=bZ dC (.slice aQ aG.length aK) (.slice aT aC.length aJ)
   try go_wp2_with (first|((with_reducible refine gJ (f:=24) rfl ?_);refine cE 10 Tryd.func24 #[.agg #[.slice aQ aG.length aK,.slice aT aC.length aJ]] ?_;refine(pY.calls _ _ aG _ _ aC t152 _ (Kd.bJ eU.out (Bq HB)) fK.out (Kd.bJ fB.out (Bq HB)) fM.out A5.out).mono ?_;rintro e w50 ⟨rfl,hb⟩;refine⟨_,rfl,?_⟩;replace gZ:=RB gZ hb;replace dC:=bb dC hb;replace HB:=bs HB hb;(try clear hb);obtain⟨aXR,aXS⟩:=bZ dC (.slice aQ aG.length aK) (.slice aT aC.length aJ))|((with_reducible refine gJ (f:=76) rfl ?_);refine cE 18 Tryd.func76 #[.int .i64 bC,.int .i64 (aC.length:Int)] ?_;(with_reducible refine(oW.calls k1 bC (aC.length:Int) t153 _ A7.out).mono ?_);rintro e w52 ⟨v154,rfl,ho0,hb⟩;refine⟨_,rfl,?_⟩;have nP:=aA.mk (Kd.eF (Kd.fG ho0 (Kd.dY (R_ gZ))) (dH (Bq HB)));replace gZ:=aA.mk (Kd.gW (R_ gZ) (Kd.fF ho0) hb);replace dC:=bb dC hb;replace HB:=bs HB hb;(try clear hb);(try clear ho0)))
   have aV:=aA.mk (Kd.dG gZ.out)
   have aW:=aA.mk (Kd.dG nP.out)
   have aY:=aA.mk (gI dC.out)
   have bI:=aA.mk (sW HB.out)
   clear gZ nP dC HB
   have gZ:=aV
   have nP:=aW
   have dC:=aY
   have HB:=bI
   clear aV aW aY bI
   refine xP (n:=15) (S:=fun w'=>w'.cell? ⟨vM,0,none⟩=some (.slice aQ aG.length aK)/\w'.cell? ⟨vM,1,none⟩=some (.slice aT aC.length aJ)) (ds:=[]) (bl 15 0) (by kernel_rfl) rfl rfl ⟨kc dC 0,kc dC 1⟩ (fun hHeld=>?_);refine yS jT.tab6 jT.amZ (fun aN jG=>?_)
   generalize w52.drew=XI at gZ nP dC HB hHeld ⊢
   refine pS 0 19 15 1 aN ?_
   refine pS 1 20 15 3 aN ?_
   refine pS 2 21 15 7 aN ?_
   refine oS 3 22 15 15 aN ?_
   refine oS 4 23 15 31 aN ?_
   refine oS 5 24 15 63 aN ?_
   refine pS 6 25 15 127 aN ?_
   refine pS 7 26 15 255 aN ?_
   refine pS 11 30 15 2303 aN ?_
   refine tq 8 (some 27) (bl 15 2559) aN jG hHeld (h:=?_)
   refine tq 9 (some 28) (bl 15 3071) aN jG hHeld (h:=?_)
   refine lI (i:=10) (N:=some 29) (bl 15 4095) rfl rfl (lJ aN.out (by kernel_rfl)) (by decide) (fun K hK=>?_)
   refine rD Tryd.func24 (by kernel_rfl) rfl #[.agg #[.slice aQ aG.length aK,.slice aT aC.length aJ]] (by rfl) rfl rfl (by(try simp only[List.map_toArray,List.map_cons,List.map_nil]);first|done|rfl|(simp only[List.length_drop,List.length_take];rfl)) ?_
   with_reducible refine(pY.calls _ _ aG _ _ aC t159 _ ?jK ?jL ?jM ?jO A39.out).mono ?_
   (case jK=>exact Kd.bJ eU.out (Bq HB))
   (case jL=>exact fK.out)
   (case jM=>exact Kd.bJ fB.out (Bq HB))
   (case jO=>exact fM.out)
   rintro e w54 ⟨rfl,hb⟩
   refine⟨_,rfl,?_⟩
   have aV:=RB gZ hb
   have aW:=RB nP hb
   have aY:=bb dC hb
   have bI:=bs HB hb
   clear gZ nP dC HB
   have gZ:=aV
   have nP:=aW
   have dC:=aY
   have HB:=bI
   clear aV aW aY bI
   (try clear hb)
   (try clear hb2)
   (try clear hk)
   (try clear hi)
   refine hK.out _ _ ⟨kc dC 0,kc dC 1⟩ (fun hHeld=>?_)
   clear hK K
   refine nq 29 ?_
   refine pS 12 31 15 8191 aN ?_
   refine lI (i:=13) (N:=some 32) (bl 15 16383) rfl rfl (lJ aN.out (by kernel_rfl)) (by decide) (fun K hK=>?_)
   refine rD Tryd.func23 (by kernel_rfl) rfl #[.agg #[.slice aQ aG.length aK,.slice aT aC.length aJ],.int .i64 (wrap64 (t159 - bC))] (by rfl) rfl rfl (by(try simp only[List.map_toArray,List.map_cons,List.map_nil]);first|done|rfl|(simp only[List.length_drop,List.length_take];rfl)) ?_
   with_reducible refine(eG.calls k1 _ _ aG _ _ aC (wrap64 (t159 - bC)) false _ ?jK ?jL ?jM ?jO vG.out).mono ?_
   (case jK=>exact Kd.bJ eU.out (Bq HB))
   (case jL=>exact fK.out)
   (case jM=>exact Kd.bJ fB.out (Bq HB))
   (case jO=>exact fM.out)
   rintro e w55 ⟨rfl,hb⟩
   refine⟨_,rfl,?_⟩
   have aV:=RB gZ hb
   have aW:=RB nP hb
   have aY:=bb dC hb
   have bI:=bs HB hb
   clear gZ nP dC HB
   have gZ:=aV
   have nP:=aW
   have dC:=aY
   have HB:=bI
   clear aV aW aY bI
   (try clear hb)
   (try clear hb2)
   (try clear hk)
   (try clear hi)
   refine hK.out _ _ ⟨kc dC 0,kc dC 1⟩ (fun hHeld=>?_)
   clear hK K
   refine nq 32 ?_
   refine pS 14 33 15 32767 aN ?_
   refine xQ (yR aN.out (by kernel_rfl)) ?_
   try go_wp2
   go_roundg k1
   case measure=>have:=fV.out;omega
   case rel=>exact⟨(iY),(false),(wrap64 (bC+1)),(by first|rfl|(simp;done)|(simp[*];done)),(by first|rfl|(simp;done)|(simp[*];done)),H',⟨by have:=fV.out;omega⟩,⟨Kd.bQ (R_ gZ) (fun _ hk=>trivial)⟩,⟨b_ dC⟩,⟨Bq HB⟩⟩
  rw[if_neg c6]at H
  have zJ:decide (bC<=t152)=false:=decide_eq_false c6
  clear c6
  obtain rfl:=Option.some.inj H
  obtain⟨aZW,aZX⟩:=bZ dC (.slice aQ aG.length aK) (.slice aT aC.length aJ)
  go_wp2_with (first|((with_reducible refine gJ (f:=24) rfl ?_);refine cE 10 Tryd.func24 #[.agg #[.slice aQ aG.length aK,.slice aT aC.length aJ]] ?_;refine(pY.calls _ _ aG _ _ aC t152 _ (Kd.bJ eU.out (Bq HB)) fK.out (Kd.bJ fB.out (Bq HB)) fM.out A5.out).mono ?_;rintro e w57 ⟨rfl,hb⟩;refine⟨_,rfl,?_⟩;replace gZ:=RB gZ hb;replace dC:=bb dC hb;replace HB:=bs HB hb;(try clear hb)))
  go_ret
  exact⟨_,by first|rfl|(simp[iU,iV]<;>rfl)|(simp[*,iU,iV]<;>rfl),R_ gZ,Bq HB⟩
attribute [local go_sem] uA uB uC uD uM uN uO uP
theorem dW.calls (k:Nat) (aQ:Option Addr) (aK:Nat) (aG:List (aZ)) (aT:Option Addr) (aJ:Nat) (aC:List (aI)) (r:Bool) (w:World) (hT:Hand.lZ w) (jI:Kd.C iJ w aQ aG.length aG) (jU:aG.length<=aK) (jE:Kd.C iE w aT aC.length aC) (jS:aC.length<=aJ) (h:dW.f k aG aC=some r):
    Calls Tryd.prog 4 #[.agg #[.slice aQ aG.length aK,.slice aT aC.length aJ]] w fun e w'=>e=.returned (.bool r)/\Below w.heap.size w w':=by
 have zH:=Tryd.underlying25
 have WE:=aA.mk hT
 clear hT
 have eU:=aA.mk jI
 have fK:=aA.mk jU
 clear jI jU
 have fB:=aA.mk jE
 have fM:=aA.mk jS
 clear jE jS
 have HB:=aA.mk (Below.refl w.heap.size w)
 have H:((OQ.f aG aC).bind fun t162=>(if t162=true then((oN.f).bind fun _=>(some true))else((nV.f aG aC).bind fun PR=>((aaW.f PR.1 PR.2).bind fun wE=>((kJ.f k PR.1 PR.2 aG aC).bind fun t175=>(if t175=true then((jH.f k aG aC).bind fun t176=>(if t176=0 then((jT.f k aG aC).bind fun t180=>(if(t180.length:Int)=0 then(dW.j0 k wE.1 wE.2 6 t180)else(dW.j0 k wE.1 wE.2 t176 t180)))else(dW.j0 k wE.1 wE.2 t176 (([]:List Int)))))else(some false)))))))=some r:=h
 clear h
 replace H:=Option.bind_eq_some_iff.mp H
 obtain⟨t162,xY,H⟩:=H
 replace H:(if t162=true then((oN.f).bind fun _=>(some true))else((nV.f aG aC).bind fun PR=>((aaW.f PR.1 PR.2).bind fun wE=>((kJ.f k PR.1 PR.2 aG aC).bind fun t175=>(if t175=true then((jH.f k aG aC).bind fun t176=>(if t176=0 then((jT.f k aG aC).bind fun t180=>(if(t180.length:Int)=0 then(dW.j0 k wE.1 wE.2 6 t180)else(dW.j0 k wE.1 wE.2 t176 t180)))else(dW.j0 k wE.1 wE.2 t176 (([]:List Int)))))else(some false))))))=some r:=H
 have A2:=aA.mk xY
 clear xY
 by_cases c3:t162=true
 ·subst c3
  replace H:((oN.f).bind fun _=>(some true))=some r:=by rw[if_pos rfl]at H;exact H
  replace H:=Option.bind_eq_some_iff.mp H
  obtain⟨_,vG,H⟩:=H
  replace H:(some true)=some r:=H
  have A4:=aA.mk vG
  clear vG
  obtain rfl:=Option.some.inj H
  go_enter Tryd.func4,Tryd.ntmps4
  go_wp2_with (first|((with_reducible refine dU (N:=1) rfl ?_);(try(refine xJ (by rfl) ?_;dsimp only));refine eX 1 #[.slice aQ aG.length aK,.slice aT aC.length aJ] 25 ?_;intro aQV hg w5 hbox hb;have oI:=aA.mk (hbox);have a5J:=gw hg HB;have a5K:=gw hg HB;replace HB:=bs HB hb;clear hb hbox hg;obtain⟨afA,afB⟩:=bZ oI (.slice aQ aG.length aK) (.slice aT aC.length aJ))|((with_reducible refine gJ (f:=14) rfl ?_);refine cE 9 Tryd.func14 #[.agg #[.slice aQ aG.length aK,.slice aT aC.length aJ]] ?_;refine(OQ.calls _ _ aG _ _ aC true _ (Kd.bJ eU.out (Bq HB)) fK.out (Kd.bJ fB.out (Bq HB)) fM.out A2.out).mono ?_;rintro e w7 ⟨rfl,hb⟩;refine⟨_,rfl,?_⟩;replace oI:=bb oI hb;replace HB:=bs HB hb;(try clear hb))|((with_reducible refine gJ (f:=15) rfl ?_);refine cE 10 Tryd.func15 #[] ?_;refine(oN.calls   _ (Hand.lZ.below WE.out (Bq HB)) A4.out).mono ?_;rintro e w8 ⟨rfl,hb⟩;refine⟨_,rfl,?_⟩;replace oI:=bb oI hb;replace HB:=bs HB hb;(try clear hb)))
  go_ret
  exact eR HB
 replace c3:=Bool.eq_false_iff.mpr c3
 subst c3
 replace H:((nV.f aG aC).bind fun PR=>((aaW.f PR.1 PR.2).bind fun wE=>((kJ.f k PR.1 PR.2 aG aC).bind fun t175=>(if t175=true then((jH.f k aG aC).bind fun t176=>(if t176=0 then((jT.f k aG aC).bind fun t180=>(if(t180.length:Int)=0 then(dW.j0 k wE.1 wE.2 6 t180)else(dW.j0 k wE.1 wE.2 t176 t180)))else(dW.j0 k wE.1 wE.2 t176 (([]:List Int)))))else(some false)))))=some r:=by rw[if_neg (show ¬ (false=true) by decide)]at H;exact H
 replace H:=Option.bind_eq_some_iff.mp H
 obtain⟨⟨t164,t167⟩,YM,H⟩:=H
 replace H:((aaW.f t164 t167).bind fun wE=>((kJ.f k t164 t167 aG aC).bind fun t175=>(if t175=true then((jH.f k aG aC).bind fun t176=>(if t176=0 then((jT.f k aG aC).bind fun t180=>(if(t180.length:Int)=0 then(dW.j0 k wE.1 wE.2 6 t180)else(dW.j0 k wE.1 wE.2 t176 t180)))else(dW.j0 k wE.1 wE.2 t176 (([]:List Int)))))else(some false))))=some r:=H
 have A9:=aA.mk YM
 clear YM
 replace H:=Option.bind_eq_some_iff.mp H
 obtain⟨⟨t171,t174⟩,alX,H⟩:=H
 replace H:((kJ.f k t164 t167 aG aC).bind fun t175=>(if t175=true then((jH.f k aG aC).bind fun t176=>(if t176=0 then((jT.f k aG aC).bind fun t180=>(if(t180.length:Int)=0 then(dW.j0 k t171 t174 6 t180)else(dW.j0 k t171 t174 t176 t180)))else(dW.j0 k t171 t174 t176 (([]:List Int)))))else(some false)))=some r:=H
 have A10:=aA.mk alX
 clear alX
 replace H:=Option.bind_eq_some_iff.mp H
 obtain⟨t175,wJ,H⟩:=H
 replace H:(if t175=true then((jH.f k aG aC).bind fun t176=>(if t176=0 then((jT.f k aG aC).bind fun t180=>(if(t180.length:Int)=0 then(dW.j0 k t171 t174 6 t180)else(dW.j0 k t171 t174 t176 t180)))else(dW.j0 k t171 t174 t176 (([]:List Int)))))else(some false))=some r:=H
 have BU:=aA.mk wJ
 clear wJ
 by_cases c12:t175=true
 ·subst c12
  replace H:((jH.f k aG aC).bind fun t176=>(if t176=0 then((jT.f k aG aC).bind fun t180=>(if(t180.length:Int)=0 then(dW.j0 k t171 t174 6 t180)else(dW.j0 k t171 t174 t176 t180)))else(dW.j0 k t171 t174 t176 (([]:List Int)))))=some r:=by rw[if_pos rfl]at H;exact H
  replace H:=Option.bind_eq_some_iff.mp H
  obtain⟨t176,XK,H⟩:=H
  replace H:(if t176=0 then((jT.f k aG aC).bind fun t180=>(if(t180.length:Int)=0 then(dW.j0 k t171 t174 6 t180)else(dW.j0 k t171 t174 t176 t180)))else(dW.j0 k t171 t174 t176 (([]:List Int))))=some r:=H
  have A13:=aA.mk XK
  clear XK
  obtain⟨a5L,aBK⟩:∃ y_:List Int,y_=(([]:List Int)):=⟨_,rfl⟩
  replace H:(if t176=0 then((jT.f k aG aC).bind fun t180=>(if(t180.length:Int)=0 then(dW.j0 k t171 t174 6 t180)else(dW.j0 k t171 t174 t176 t180)))else(dW.j0 k t171 t174 t176 a5L))=some r:=by first|(rw[aBK];with_reducible exact H)|(have dJ:=(Option.bind_some _ _).symm.trans H;rw[aBK];with_reducible exact dJ)|(have dJ:=(Option.bind_some _ _).symm.trans H;with_reducible exact dJ)|with_reducible exact H|(rw[aBK];exact H)|exact H
  have a5M:=aA.mk aBK
  clear aBK
  have aoW:=aA.mk H
  clear H
  go_enter Tryd.func4,Tryd.ntmps4
  go_upto_if 26 with(first|((with_reducible refine dU (N:=1) rfl ?_);(try(refine xJ (by rfl) ?_;dsimp only));refine eX 1 #[.slice aQ aG.length aK,.slice aT aC.length aJ] 25 ?_;intro aQV hg vY hbox hb;have oI:=aA.mk (hbox);have a5J:=gw hg HB;have a5K:=gw hg HB;replace HB:=bs HB hb;clear hb hbox hg;obtain⟨ahN,ahO⟩:=bZ oI (.slice aQ aG.length aK) (.slice aT aC.length aJ))|((with_reducible refine gJ (f:=14) rfl ?_);refine cE 9 Tryd.func14 #[.agg #[.slice aQ aG.length aK,.slice aT aC.length aJ]] ?_;refine(OQ.calls _ _ aG _ _ aC false _ (Kd.bJ eU.out (Bq HB)) fK.out (Kd.bJ fB.out (Bq HB)) fM.out A2.out).mono ?_;rintro e uS ⟨rfl,hb⟩;refine⟨_,rfl,?_⟩;replace oI:=bb oI hb;replace HB:=bs HB hb;(try clear hb);obtain⟨OW,OX⟩:=bZ oI (.slice aQ aG.length aK) (.slice aT aC.length aJ))|((with_reducible refine gJ (f:=16) rfl ?_);refine cE 12 Tryd.func16 #[.agg #[.slice aQ aG.length aK,.slice aT aC.length aJ]] ?_;refine(nV.calls _ _ aG _ _ aC t164 t167 _ (Kd.bJ eU.out (Bq HB)) fK.out (Kd.bJ fB.out (Bq HB)) fM.out A9.out).mono ?_;rintro e xU ⟨aoU,v168,rfl,ho0,ho1,hb⟩;refine⟨_,rfl,?_⟩;have kM:=aA.mk (Kd.eF ho0 (dH (Bq HB)));have tK:=aA.mk (Kd.eF ho1 (dH (Bq HB)));replace oI:=bb oI hb;replace HB:=bs HB hb;(try clear hb);(try clear ho0);(try clear ho1))|((with_reducible refine dU (N:=3) rfl ?_);(try(refine xJ (by rfl) ?_;dsimp only));refine eX 3 #[.slice none 0 0,.slice none 0 0] 25 ?_;intro PK hg zD hbox hb;have oC:=aA.mk (hbox);have aYD:=gw hg HB;have aYE:=gw hg HB;have agT:=nl hg oI;have aBL:=ng hg oI;replace kM:=RB kM hb;replace tK:=RB tK hb;replace oI:=bb oI hb;replace HB:=bs HB hb;clear hb hbox hg;obtain⟨rX,qZ,rfl⟩:=Kd.dA kM.out;have at1:=aBL.out;have at6:=agT.out;obtain⟨amO,amP⟩:=bZ oC (.slice none 0 0) (.slice none 0 0);have at7:=aX oC.out 0;have auA:=aX oC.out 1;obtain⟨qM,qC,rfl⟩:=Kd.dA tK.out)|((with_reducible refine gJ (f:=29) rfl ?_);refine cE 15 Tryd.func29 #[.agg #[.slice rX t164.length qZ,.slice qM t167.length qC]] ?_;refine(aaW.calls _ _ t164 _ _ t167 t171 t174 _ (Hand.lZ.below WE.out (Bq HB)) (by refine(Kd.dB (e:=89) (base:=w.heap.size) (ok:=fun k_=>True) (n:=t164.length) (c:=qZ) ?_).2.2;exact(by(with_reducible repeat(first|apply Kd.fQ|apply Kd.fU|apply Kd.dG));exact(Kd.bQ (Kd.bK (p:=⟨PK,1,none⟩) (Kd.bK (p:=⟨PK,0,none⟩) (Kd.gB kM.out oC.out (by decide)) (fun _ hk=>hk.2) (.slice rX t164.length qZ)) (fun _ hk=>hk.2) (.slice qM t167.length qC)) (fun _ h_=>h_.1)))) ((Kd.dB kM.out).2.1) (by refine(Kd.dB (e:=91) (base:=w.heap.size) (ok:=fun k_=>True) (n:=t167.length) (c:=qC) ?_).2.2;exact(by(with_reducible repeat(first|apply Kd.fQ|apply Kd.fU|apply Kd.dG));exact(Kd.bQ (Kd.bK (p:=⟨PK,1,none⟩) (Kd.bK (p:=⟨PK,0,none⟩) (Kd.gB tK.out oC.out (by decide)) (fun _ hk=>hk.2) (.slice rX t164.length qZ)) (fun _ hk=>hk.2) (.slice qM t167.length qC)) (fun _ h_=>h_.1)))) ((Kd.dB tK.out).2.1) A10.out).mono ?_;rintro e AV ⟨aQW,rfl,ho0,hb⟩;refine⟨_,rfl,?_⟩;have PT:=aA.mk (Kd.eF ho0 (dH (Bq HB)));replace kM:=aA.mk (Kd.rY (by(with_reducible repeat(first|apply Kd.fQ|apply Kd.fU|apply Kd.dG));exact(Kd.bQ (Kd.bK (p:=⟨PK,1,none⟩) (Kd.bK (p:=⟨PK,0,none⟩) (Kd.gB kM.out oC.out (by decide)) (fun _ hk=>hk.2) (.slice rX t164.length qZ)) (fun _ hk=>hk.2) (.slice qM t167.length qC)) (fun _ h_=>h_.1))) hb);replace tK:=aA.mk (Kd.rY (by(with_reducible repeat(first|apply Kd.fQ|apply Kd.fU|apply Kd.dG));exact(Kd.bQ (Kd.bK (p:=⟨PK,1,none⟩) (Kd.bK (p:=⟨PK,0,none⟩) (Kd.gB tK.out oC.out (by decide)) (fun _ hk=>hk.2) (.slice rX t164.length qZ)) (fun _ hk=>hk.2) (.slice qM t167.length qC)) (fun _ h_=>h_.1))) hb);replace oI:=aA.mk (fC (by exact bG (bG (b_ oI) agT.out _) agT.out _) hb);replace oC:=aA.mk (fC (by exact dE (cs:=#[.slice rX t164.length qZ,.slice none 0 0]) (dE (cs:=#[.slice none 0 0,.slice none 0 0]) (b_ oC) 0 _ rfl) 1 _ rfl) hb);replace HB:=bs HB hb;(try clear hb);(try clear ho0);obtain⟨aq2,aq3⟩:=bZ oC (.slice rX t164.length qZ) (.slice qM t167.length qC);have aEE:=aX oC.out 0;have aEF:=aX oC.out 1;obtain⟨aL9,aMA⟩:=bZ oI (.slice aQ aG.length aK) (.slice aT aC.length aJ))|((with_reducible refine gJ (f:=21) rfl ?_);refine cE 20 Tryd.func21 #[.agg #[.slice rX t164.length qZ,.slice qM t167.length qC],.agg #[.slice aQ aG.length aK,.slice aT aC.length aJ]] ?_;refine(kJ.calls k _ _ t164 _ _ t167 _ _ aG _ _ aC true _ (rC kM) ((Kd.dB kM.out).2.1) (rC tK) ((Kd.dB tK.out).2.1) (Kd.bJ eU.out (Bq HB)) fK.out (Kd.bJ fB.out (Bq HB)) fM.out BU.out).mono ?_;rintro e BQ ⟨rfl,hb⟩;refine⟨_,rfl,?_⟩;replace kM:=RB kM hb;replace tK:=RB tK hb;replace PT:=RB PT hb;replace oI:=bb oI hb;replace oC:=bb oC hb;replace HB:=bs HB hb;(try clear hb);obtain⟨aqG,aqH⟩:=bZ oI (.slice aQ aG.length aK) (.slice aT aC.length aJ))|((with_reducible refine gJ (f:=22) rfl ?_);refine cE 23 Tryd.func22 #[.agg #[.slice aQ aG.length aK,.slice aT aC.length aJ]] ?_;refine(jH.calls k _ _ aG _ _ aC t176 _ (Kd.bJ eU.out (Bq HB)) fK.out (Kd.bJ fB.out (Bq HB)) fM.out A13.out).mono ?_;rintro e uF ⟨rfl,hb⟩;refine⟨_,rfl,?_⟩;replace kM:=RB kM hb;replace tK:=RB tK hb;replace PT:=RB PT hb;replace oI:=bb oI hb;replace oC:=bb oC hb;replace HB:=bs HB hb;(try clear hb))|((with_reducible refine dU (N:=24) rfl ?_);(try(refine xJ (by rfl) ?_;dsimp only));refine Kd.YX (Kd.int .i64) _ 3 ?hg (N:=24) ?hd (xs:=([]:List Int)) (inner:=[]) (ok:=fun _=>True) (lS:=fun _=>True) ?hr ?hp (fun _ hk=>hk) trivial (Below.refl _ _) (Nat.le_refl _) (by simp) ?_;(case hd=>rfl);(case hg=>rfl);(case hr=>first|(go_simp;done)|(go_simp;rfl));(case hp=>exact(gX.none _ _));intro v178 yA asU hb mF mG;clear mF mG;(first|rw[<-a5M.out]at asU|(simp only[Int.reduceToNat]at asU;rw[<-a5M.out]at asU));have aoX:=aA.mk (Kd.eF (Kd.fG asU (Kd.dY (R_ PT))) (dH (Bq HB)));replace kM:=RB kM hb;replace tK:=RB tK hb;replace PT:=aA.mk (Kd.gW (R_ PT) (Kd.fF asU) hb);replace oI:=bb oI hb;replace oC:=bb oC hb;replace HB:=bs HB hb;clear hb asU))
  (try simp only[Act.put,List.setIfInBounds_toArray,List.set_cons_zero,List.set_cons_succ])
  go_cut [6,7] (fun v6 v7 wc=>∃ (kq:Nat) (ZT:Int) (aBM:List Int),v6=.int .i64 ZT/\aA (dW.j0 kq t171 t174 ZT aBM=some r)/\aA (kq<=k)/\aA (Kd.R (Kd.int .i64) 3 wc w.heap.size (fun k_=>some k_≠(v7:Value).ownBlock) aQW t171)/\aA (Kd.R (Kd.int .i64) 3 wc w.heap.size (fun k_=>some k_≠(aQW:Value).ownBlock) v7 aBM)/\aA (Kd.R iJ 89 wc w.heap.size (fun _=>True) (.slice rX t164.length qZ) t164)/\aA (Kd.R iE 91 wc w.heap.size (fun _=>True) (.slice qM t167.length qC) t167)/\aA (wc.heap[aQV]? =some (.cells #[(.slice aQ aG.length aK),(.slice aT aC.length aJ)] 25 (0,0)))/\aA (wc.heap[PK]? =some (.cells #[(.slice rX t164.length qZ),(.slice qM t167.length qC)] 25 (0,0)))/\aA (Below w.heap.size w wc))
  case first=>
   have H:=aoW.out
   clear aoW
   by_cases OH:t176=0
   ·rw[if_pos OH]at H
    have adK:(t176==0)=true:=beq_iff_eq.mpr OH
    have aQX:(t176 !=0)=false:=bne_eq_false_iff_eq.mpr OH
    clear OH
    (first|rw[adK]|(simp only[wQ,yQ];rw[adK])|skip)
    replace H:=Option.bind_eq_some_iff.mp H
    obtain⟨t180,alY,H⟩:=H
    replace H:(if(t180.length:Int)=0 then(dW.j0 k t171 t174 6 t180)else(dW.j0 k t171 t174 t176 t180))=some r:=H
    have A34:=aA.mk alY
    clear alY
    by_cases c35:(t180.length:Int)=0
    ·rw[if_pos c35]at H
     have bqX:((t180.length:Int)==0)=true:=beq_iff_eq.mpr c35
     have bqY:((t180.length:Int)!=0)=false:=bne_eq_false_iff_eq.mpr c35
     clear c35
     have H':=aA.mk H
     clear H
     have aWI:=agT.out
     have aWJ:=aBL.out
     obtain⟨aZL,aZM⟩:=bZ oI (.slice aQ aG.length aK) (.slice aT aC.length aJ)
     go_wp2_with (first|((with_reducible refine gJ (f:=30) rfl ?_);refine cE 28 Tryd.func30 #[.agg #[.slice aQ aG.length aK,.slice aT aC.length aJ]] ?_;refine(jT.calls k _ _ aG _ _ aC t180 _ (Kd.bJ eU.out (Bq HB)) fK.out (Kd.bJ fB.out (Bq HB)) fM.out A34.out).mono ?_;rintro e AX ⟨aQY,rfl,ho0,hb⟩;refine⟨_,rfl,?_⟩;have zF:=aA.mk (Kd.eF (Kd.fG (Kd.fG ho0 (Kd.dY (R_ PT))) (Kd.dY (R_ aoX))) (dH (Bq HB)));replace kM:=RB kM hb;replace tK:=RB tK hb;replace PT:=aA.mk (Kd.gW (R_ PT) (Kd.fF ho0) hb);replace aoX:=aA.mk (Kd.gW (R_ aoX) (Kd.fF ho0) hb);replace oI:=bb oI hb;replace oC:=bb oC hb;replace HB:=bs HB hb;(try clear hb);(try clear ho0);obtain⟨MS,MV,rfl⟩:=Kd.dA zF.out))
     go_meet
     case rel=>exact⟨_,(6),(t180),(by first|rfl|(simp;done)|(simp[*];done)),H',⟨by first|omega|exact Nat.le_refl _⟩,⟨Kd.bQ (R_ PT) (fun _ hk=>hk.2)⟩,⟨Kd.bQ (R_ zF) (fun _ hk=>hk.1.2)⟩,⟨R_ kM⟩,⟨R_ tK⟩,⟨b_ oI⟩,⟨b_ oC⟩,⟨Bq HB⟩⟩
    rw[if_neg c35]at H
    have bqX:((t180.length:Int)==0)=false:=beq_eq_false_iff_ne.mpr c35
    have bqY:((t180.length:Int)!=0)=true:=bne_iff_ne.mpr c35
    have c35b2:¬ (t180=[]):=fun h_=>c35 (by rw[h_];rfl)
    have H':=aA.mk H
    clear H
    have bjF:=agT.out
    have bjG:=aBL.out
    obtain⟨aLF,aLG⟩:=bZ oI (.slice aQ aG.length aK) (.slice aT aC.length aJ)
    go_wp2_with (first|((with_reducible refine gJ (f:=30) rfl ?_);refine cE 28 Tryd.func30 #[.agg #[.slice aQ aG.length aK,.slice aT aC.length aJ]] ?_;refine(jT.calls k _ _ aG _ _ aC t180 _ (Kd.bJ eU.out (Bq HB)) fK.out (Kd.bJ fB.out (Bq HB)) fM.out A34.out).mono ?_;rintro e MJ ⟨aQY,rfl,ho0,hb⟩;refine⟨_,rfl,?_⟩;have zF:=aA.mk (Kd.eF (Kd.fG (Kd.fG ho0 (Kd.dY (R_ PT))) (Kd.dY (R_ aoX))) (dH (Bq HB)));replace kM:=RB kM hb;replace tK:=RB tK hb;replace PT:=aA.mk (Kd.gW (R_ PT) (Kd.fF ho0) hb);replace aoX:=aA.mk (Kd.gW (R_ aoX) (Kd.fF ho0) hb);replace oI:=bb oI hb;replace oC:=bb oC hb;replace HB:=bs HB hb;(try clear hb);(try clear ho0);obtain⟨bqZ,bq0,rfl⟩:=Kd.dA zF.out))
    go_meet
    case rel=>exact⟨_,(t176),(t180),(by first|rfl|(simp;done)|(simp[*];done)),H',⟨by first|omega|exact Nat.le_refl _⟩,⟨Kd.bQ (R_ PT) (fun _ hk=>hk.2)⟩,⟨Kd.bQ (R_ zF) (fun _ hk=>hk.1.2)⟩,⟨R_ kM⟩,⟨R_ tK⟩,⟨b_ oI⟩,⟨b_ oC⟩,⟨Bq HB⟩⟩
   rw[if_neg OH]at H
   have adK:(t176==0)=false:=beq_eq_false_iff_ne.mpr OH
   have aQX:(t176 !=0)=true:=bne_iff_ne.mpr OH
   (first|rw[adK]|(simp only[wQ,yQ];rw[adK])|skip)
   have H':=aA.mk H
   clear H
   go_wp2
   go_meet
   case rel=>exact⟨_,(t176),(a5L),(by first|rfl|(simp;done)|(simp[*];done)),H',⟨by first|omega|exact Nat.le_refl _⟩,⟨Kd.bQ (R_ PT) (fun _ hk=>hk.2)⟩,⟨Kd.bQ (R_ aoX) (fun _ hk=>hk.2)⟩,⟨R_ kM⟩,⟨R_ tK⟩,⟨b_ oI⟩,⟨b_ oC⟩,⟨Bq HB⟩⟩
  case rest=>
   clear aoW
   try clear c3
   try clear c12
   try clear ahN
   try clear ahO
   try clear OW
   try clear OX
   try clear amO
   try clear amP
   try clear aq2
   try clear aq3
   try clear aL9
   try clear aMA
   try clear aqG
   try clear aqH
   try clear auD
   try clear auE
   try clear afD
   try clear afE
   try clear at7
   try clear auA
   try clear aEE
   try clear aEF
   try clear bjB
   try clear bjC
   try clear aJ1
   try clear aJ2
   obtain⟨kq,ZT,aBM,rfl,HA,PU,aa4,mQ,aHG,aHH,oI,oC,HB⟩:=hcut
   rcases kq with _|UY
   ·exact absurd HA.out (by simp[dW.j0])
   have H:=HA.out
   clear HA
   simp only[dW.j0]at H
   by_cases c44:ZT=0
   ·rw[if_pos c44]at H
    have aWO:(ZT==0)=true:=beq_iff_eq.mpr c44
    have bq1:(ZT !=0)=false:=bne_eq_false_iff_eq.mpr c44
    clear c44
    by_cases DW:t174=0
    ·rw[if_pos DW]at H
     have aWP:(t174==0)=true:=beq_iff_eq.mpr DW
     have bq2:(t174 !=0)=false:=bne_eq_false_iff_eq.mpr DW
     clear DW
     replace H:=Option.bind_eq_some_iff.mp H
     obtain⟨t183,al0,H⟩:=H
     replace H:(if t183=true then((oN.f).bind fun _=>(some true))else(some false))=some r:=H
     have A46:=aA.mk al0
     clear al0
     by_cases c47:t183=true
     ·subst c47
      replace H:((oN.f).bind fun _=>(some true))=some r:=by rw[if_pos rfl]at H;exact H
      replace H:=Option.bind_eq_some_iff.mp H
      obtain⟨_,a5N,H⟩:=H
      replace H:(some true)=some r:=H
      have A48:=aA.mk a5N
      clear a5N
      obtain rfl:=Option.some.inj H
      obtain⟨Ao49,co49,rfl⟩:=Kd.dA aa4.out
      obtain⟨Ao50,co50,rfl⟩:=Kd.dA mQ.out
      go_wp2_with (first|(go_at_call 28;refine(oD.calls UY _ _ t171 _ _ aBM true _ (rC aa4) ((Kd.dB aa4.out).2.1) (rC mQ) ((Kd.dB mQ.out).2.1) A46.out).mono ?_;rintro e w' ⟨rfl,⟨nd,rfl⟩⟩)|(go_at_call 15;refine(oN.calls   _ (Hand.lZ.below WE.out (Bq HB)) A48.out).mono ?_;rintro e ZP ⟨rfl,hb⟩;replace aa4:=RB aa4 hb;replace mQ:=RB mQ hb;replace aHG:=RB aHG hb;replace aHH:=RB aHH hb;replace oI:=bb oI hb;replace oC:=bb oC hb;replace HB:=bs HB hb;(try clear hb)))
      go_ret
      exact eR HB
     replace c47:=Bool.eq_false_iff.mpr c47
     subst c47
     replace H:(some false)=some r:=by rw[if_neg (show ¬ (false=true) by decide)]at H;exact H
     obtain rfl:=Option.some.inj H
     obtain⟨Ao52,co52,rfl⟩:=Kd.dA aa4.out
     obtain⟨Ao53,co53,rfl⟩:=Kd.dA mQ.out
     go_wp2_with (first|(go_at_call 28;refine(oD.calls UY _ _ t171 _ _ aBM false _ (rC aa4) ((Kd.dB aa4.out).2.1) (rC mQ) ((Kd.dB mQ.out).2.1) A46.out).mono ?_;rintro e w' ⟨rfl,⟨nd,rfl⟩⟩))
     go_ret
     exact eR HB
    rw[if_neg DW]at H
    have aWP:(t174==0)=false:=beq_eq_false_iff_ne.mpr DW
    have bq2:(t174 !=0)=true:=bne_iff_ne.mpr DW
    obtain rfl:=Option.some.inj H
    go_wp2
    go_ret
    exact eR HB
   rw[if_neg c44]at H
   have aWO:(ZT==0)=false:=beq_eq_false_iff_ne.mpr c44
   have bq1:(ZT !=0)=true:=bne_iff_ne.mpr c44
   by_cases c54:t174=ZT
   ·rw[if_pos c54]at H
    have bq4:(t174==ZT)=true:=beq_iff_eq.mpr c54
    have bq5:(t174 !=ZT)=false:=bne_eq_false_iff_eq.mpr c54
    clear c54
    by_cases c55:(t171.length:Int)=0
    ·rw[if_pos c55]at H
     have bq6:((t171.length:Int)==0)=true:=beq_iff_eq.mpr c55
     have bq7:((t171.length:Int)!=0)=false:=bne_eq_false_iff_eq.mpr c55
     clear c55
     replace H:=Option.bind_eq_some_iff.mp H
     obtain⟨_,a5O,H⟩:=H
     replace H:(some true)=some r:=H
     have A56:=aA.mk a5O
     clear a5O
     obtain rfl:=Option.some.inj H
     obtain⟨Ao57,co57,rfl⟩:=Kd.dA aa4.out
     go_wp2_with (first|(go_at_call 15;refine(oN.calls   _ (Hand.lZ.below WE.out (Bq HB)) A56.out).mono ?_;rintro e w58 ⟨rfl,hb⟩;replace aa4:=RB aa4 hb;replace mQ:=RB mQ hb;replace aHG:=RB aHG hb;replace aHH:=RB aHH hb;replace oI:=bb oI hb;replace oC:=bb oC hb;replace HB:=bs HB hb;(try clear hb)))
     go_ret
     exact eR HB
    rw[if_neg c55]at H
    have bq6:((t171.length:Int)==0)=false:=beq_eq_false_iff_ne.mpr c55
    have bq7:((t171.length:Int)!=0)=true:=bne_iff_ne.mpr c55
    have c55b2:¬ (t171=[]):=fun h_=>c55 (by rw[h_];rfl)
    obtain rfl:=Option.some.inj H
    obtain⟨bq9,brA,rfl⟩:=Kd.dA aa4.out
    go_wp2
    go_ret
    exact eR HB
   rw[if_neg c54]at H
   have bq4:(t174==ZT)=false:=beq_eq_false_iff_ne.mpr c54
   have bq5:(t174 !=ZT)=true:=bne_iff_ne.mpr c54
   obtain rfl:=Option.some.inj H
   go_wp2
   go_ret
   exact eR HB
 replace c12:=Bool.eq_false_iff.mpr c12
 subst c12
 replace H:(some false)=some r:=by rw[if_neg (show ¬ (false=true) by decide)]at H;exact H
 obtain rfl:=Option.some.inj H
 go_enter Tryd.func4,Tryd.ntmps4
 go_wp2_with (first|((with_reducible refine dU (N:=1) rfl ?_);(try(refine xJ (by rfl) ?_;dsimp only));refine eX 1 #[.slice aQ aG.length aK,.slice aT aC.length aJ] 25 ?_;intro aQV hg w60 hbox hb;have oI:=aA.mk (hbox);have a5J:=gw hg HB;have a5K:=gw hg HB;replace HB:=bs HB hb;clear hb hbox hg;obtain⟨hcz61_0,hcz61_1⟩:=bZ oI (.slice aQ aG.length aK) (.slice aT aC.length aJ))|((with_reducible refine gJ (f:=14) rfl ?_);refine cE 9 Tryd.func14 #[.agg #[.slice aQ aG.length aK,.slice aT aC.length aJ]] ?_;refine(OQ.calls _ _ aG _ _ aC false _ (Kd.bJ eU.out (Bq HB)) fK.out (Kd.bJ fB.out (Bq HB)) fM.out A2.out).mono ?_;rintro e w62 ⟨rfl,hb⟩;refine⟨_,rfl,?_⟩;replace oI:=bb oI hb;replace HB:=bs HB hb;(try clear hb);obtain⟨hcz63_0,hcz63_1⟩:=bZ oI (.slice aQ aG.length aK) (.slice aT aC.length aJ))|((with_reducible refine gJ (f:=16) rfl ?_);refine cE 12 Tryd.func16 #[.agg #[.slice aQ aG.length aK,.slice aT aC.length aJ]] ?_;refine(nV.calls _ _ aG _ _ aC t164 t167 _ (Kd.bJ eU.out (Bq HB)) fK.out (Kd.bJ fB.out (Bq HB)) fM.out A9.out).mono ?_;rintro e jF ⟨aoU,v168,rfl,ho0,ho1,hb⟩;refine⟨_,rfl,?_⟩;have kM:=aA.mk (Kd.eF ho0 (dH (Bq HB)));have tK:=aA.mk (Kd.eF ho1 (dH (Bq HB)));replace oI:=bb oI hb;replace HB:=bs HB hb;(try clear hb);(try clear ho0);(try clear ho1))|((with_reducible refine dU (N:=3) rfl ?_);(try(refine xJ (by rfl) ?_;dsimp only));refine eX 3 #[.slice none 0 0,.slice none 0 0] 25 ?_;intro PK hg w65 hbox hb;have oC:=aA.mk (hbox);have aYD:=gw hg HB;have aYE:=gw hg HB;have agT:=nl hg oI;have aBL:=ng hg oI;replace kM:=RB kM hb;replace tK:=RB tK hb;replace oI:=bb oI hb;replace HB:=bs HB hb;clear hb hbox hg;obtain⟨al3,agU,rfl⟩:=Kd.dA kM.out;have aW6:=aBL.out;have aW7:=agT.out;obtain⟨bjL,bjM⟩:=bZ oC (.slice none 0 0) (.slice none 0 0);have bjN:=aX oC.out 0;have bjO:=aX oC.out 1;obtain⟨al4,agV,rfl⟩:=Kd.dA tK.out)|((with_reducible refine gJ (f:=29) rfl ?_);refine cE 15 Tryd.func29 #[.agg #[.slice al3 t164.length agU,.slice al4 t167.length agV]] ?_;refine(aaW.calls _ _ t164 _ _ t167 t171 t174 _ (Hand.lZ.below WE.out (Bq HB)) (by refine(Kd.dB (e:=89) (base:=w.heap.size) (ok:=fun k_=>True) (n:=t164.length) (c:=agU) ?_).2.2;exact(by(with_reducible repeat(first|apply Kd.fQ|apply Kd.fU|apply Kd.dG));exact(Kd.bQ (Kd.bK (p:=⟨PK,1,none⟩) (Kd.bK (p:=⟨PK,0,none⟩) (Kd.gB kM.out oC.out (by decide)) (fun _ hk=>hk.2) (.slice al3 t164.length agU)) (fun _ hk=>hk.2) (.slice al4 t167.length agV)) (fun _ h_=>h_.1)))) ((Kd.dB kM.out).2.1) (by refine(Kd.dB (e:=91) (base:=w.heap.size) (ok:=fun k_=>True) (n:=t167.length) (c:=agV) ?_).2.2;exact(by(with_reducible repeat(first|apply Kd.fQ|apply Kd.fU|apply Kd.dG));exact(Kd.bQ (Kd.bK (p:=⟨PK,1,none⟩) (Kd.bK (p:=⟨PK,0,none⟩) (Kd.gB tK.out oC.out (by decide)) (fun _ hk=>hk.2) (.slice al3 t164.length agU)) (fun _ hk=>hk.2) (.slice al4 t167.length agV)) (fun _ h_=>h_.1)))) ((Kd.dB tK.out).2.1) A10.out).mono ?_;rintro e w70 ⟨aQW,rfl,ho0,hb⟩;refine⟨_,rfl,?_⟩;have PT:=aA.mk (Kd.eF ho0 (dH (Bq HB)));replace kM:=aA.mk (Kd.rY (by(with_reducible repeat(first|apply Kd.fQ|apply Kd.fU|apply Kd.dG));exact(Kd.bQ (Kd.bK (p:=⟨PK,1,none⟩) (Kd.bK (p:=⟨PK,0,none⟩) (Kd.gB kM.out oC.out (by decide)) (fun _ hk=>hk.2) (.slice al3 t164.length agU)) (fun _ hk=>hk.2) (.slice al4 t167.length agV)) (fun _ h_=>h_.1))) hb);replace tK:=aA.mk (Kd.rY (by(with_reducible repeat(first|apply Kd.fQ|apply Kd.fU|apply Kd.dG));exact(Kd.bQ (Kd.bK (p:=⟨PK,1,none⟩) (Kd.bK (p:=⟨PK,0,none⟩) (Kd.gB tK.out oC.out (by decide)) (fun _ hk=>hk.2) (.slice al3 t164.length agU)) (fun _ hk=>hk.2) (.slice al4 t167.length agV)) (fun _ h_=>h_.1))) hb);replace oI:=aA.mk (fC (by exact bG (bG (b_ oI) agT.out _) agT.out _) hb);replace oC:=aA.mk (fC (by exact dE (cs:=#[.slice al3 t164.length agU,.slice none 0 0]) (dE (cs:=#[.slice none 0 0,.slice none 0 0]) (b_ oC) 0 _ rfl) 1 _ rfl) hb);replace HB:=bs HB hb;(try clear hb);(try clear ho0);obtain⟨aW8,aW9⟩:=bZ oC (.slice al3 t164.length agU) (.slice al4 t167.length agV);have bi5:=aX oC.out 0;have bi6:=aX oC.out 1;obtain⟨hcz72_0,hcz72_1⟩:=bZ oI (.slice aQ aG.length aK) (.slice aT aC.length aJ))|((with_reducible refine gJ (f:=21) rfl ?_);refine cE 20 Tryd.func21 #[.agg #[.slice al3 t164.length agU,.slice al4 t167.length agV],.agg #[.slice aQ aG.length aK,.slice aT aC.length aJ]] ?_;refine(kJ.calls k _ _ t164 _ _ t167 _ _ aG _ _ aC false _ (rC kM) ((Kd.dB kM.out).2.1) (rC tK) ((Kd.dB tK.out).2.1) (Kd.bJ eU.out (Bq HB)) fK.out (Kd.bJ fB.out (Bq HB)) fM.out BU.out).mono ?_;rintro e w73 ⟨rfl,hb⟩;refine⟨_,rfl,?_⟩;replace kM:=RB kM hb;replace tK:=RB tK hb;replace PT:=RB PT hb;replace oI:=bb oI hb;replace oC:=bb oC hb;replace HB:=bs HB hb;(try clear hb)))
 go_ret
 exact eR HB
end Go.Proofs.YtcmfnebcmmklkaaDoor.Q
namespace Go.Proofs.YtcmfnebcmmklkaaDoor.Hand
open Go.RowKit Go.Shelf Go.Proofs.YtcmfnebcmmklkaaDoorW.dQ Go.Proofs.YtcmfnebcmmklkaaDoorW.gG Go.Proofs.YtcmfnebcmmklkaaDoor.Q
theorem brC {w:World} (os:List aZ) (A:Option Addr) (c:Nat) (hc:os.length<=c) (hr:Kd.C iJ w A os.length os) (ls:List aI) (B:Option Addr) (c2:Nat) (hc2:ls.length<=c2) (hr2:Kd.C iE w B ls.length ls) (hT:lZ w):
  Calls Tryd.prog 4 #[.agg #[.slice A os.length c,.slice B ls.length c2]] w fun e w'=>e=.returned (.bool true)/\Below w.heap.size w w':=
 dW.calls 400 A c os B c2 ls true w hT hr hc hr2 hc2 (bqR os ls 400 (Nat.le_refl _))
end Go.Proofs.YtcmfnebcmmklkaaDoor.Hand
namespace Go.Proofs.YtcmfnebcmmklkaaDoor.dozenWrongs
open Go.ChangeShapes Go.WideShapes Go.ChangeAt Go.RowKit Go.Proofs.YtcmfnebcmmklkaaDoor.Hand
theorem contract (H:Type) (enc:TypeId×Value->H) (W:World) (base:Nat) (args:Array Value) (ds gs:List (DataW H)) (before:List MemPlace)
  (hval:∀ (j:Nat) t v,Tryd.f4.params[j]? =some t->args[j]? =some v->Value.okWide Tryd.prog W .any base t v)
  (hW:DataW.Whole enc Tryd.prog Tryd.f4.params.toList Rows.dozenWrongsSpec.vars false W args.toList ds gs before) (hL:laidMetH Tryd.prog Rows.dozenWrongsRow.laid W):
  Calls Tryd.prog 4 args W fun e W'=>∃ v,e=.returned v/\Rows.dozenWrongsSpec.post enc Tryd.prog Tryd.f4 false true false false W args v W':=by
 have hT:lZ W:=azI hL
 have hW':=hW
 obtain⟨p,q,hA0,hV,rfl,hfz,hnd⟩:=hW
 have hA:DataW.TrodAll enc Tryd.prog W 0 (fun _=>true) true Tryd.f4.params.toList args.toList ds p:=hA0
 rw[Tryd.params4]at hA hval
 obtain⟨v0,vs0,d0,ds0,p0,q0,hargs,rfl,rfl,k0,r0⟩:=trodAll_cons hA
 obtain⟨rfl,rfl,rfl⟩:=trodAll_nil r0
 obtain rfl:args=#[v0]:=by cases args;simp_all
 obtain⟨rfl,rfl⟩:=trodVars_none hV
 have lt0:∀ x∈p0,x.block<W.heap.size:=by obtain⟨m,hm⟩:=k0;exact DataW.trod_lt m _ _ _ hm
 obtain⟨A0,l0,c0,B0,q0,e0,rfl,⟨hc0,hr0⟩,hd0,hs0⟩:=azH (hval 0 25 v0 rfl rfl) k0
 clear hA0 hval
 refine(brC l0 A0 c0 hc0 hr0 q0 B0 e0 hd0 hs0 hT).mono fun e' W' ⟨he,bel⟩=>?_
 subst he
 exact⟨_,rfl,_,_,_,[],_,[],hW',trodAll_mk1 (shut_bool Tryd.underlying4 _),(trodAll_cons_mk (Below.trod laidOut (by kernel_rfl) (of_decide_eq_true (by kernel_rfl)) k0 bel lt0) trodAll_mk0),rfl,bel.frame _,fun h=>by cases h⟩
def aBO:Obj->Obj
 |.cells _ t frozen=>.cells (Lib.deBruijn32tab.map fun(n:Nat)=>Value.int .u8 n).toArray t frozen
 |o=>o
def aBP:Obj->Obj
 |.cells _ t frozen=>.cells (Lib.deBruijn64tab.map fun(n:Nat)=>Value.int .u8 n).toArray t frozen
 |o=>o
noncomputable def laidWorld (os:Os):World:={ World.holding Tryd.prog os ⟨#[],#[],[]⟩with heap:=((World.holding Tryd.prog os ⟨#[],#[],[]⟩).heap.modify 0 aBO).modify 1 aBP}
theorem laid_met (os:Os):laidMet Tryd.prog Rows.dozenWrongsRow.laid ((laidWorld os).forCall (fun _ _=>0) ⟨#[],#[.agg #[.slice none 0 0,.slice none 0 0]],[]⟩).memory:=
 laidMet_of_run' 8 (by kernel_rfl) (by kernel_rfl)
theorem reads (os:Os) {H:Type} (enc:TypeId×Value->H):∃ places,DataW.whole enc Tryd.prog ((laidWorld os).forCall (fun _ _=>0) ⟨#[],#[.agg #[.slice none 0 0,.slice none 0 0]],[]⟩).memory Tryd.f4.params.toList Rows.dozenWrongsSpec.vars false (#[.agg #[.slice none 0 0,.slice none 0 0]]:Array Value).toList 8=some ([.agg [.nil,.nil]],[],places):=
 ⟨[],by kernel_rfl⟩
theorem lifted (os:Os) (started:os.Started) (H:Type) (enc:TypeId×Value->H) (F:Stop.Interp):
  ReturnsInHanded {} Tryd.checked os 4 .any ((OpenSpec.ofChange Rows.dozenWrongsSpec).preRow enc Tryd.prog Tryd.f4 Rows.dozenWrongsRow.domain false Rows.dozenWrongsRow.laid) (((OpenSpec.ofChange Rows.dozenWrongsSpec).at F).post enc Tryd.prog Tryd.f4 false true false false):=by
 obtain⟨places,hx⟩:=reads os enc
 refine returnsInHanded_of_row (C:=Tryd.checked) (s:=OpenSpec.ofChange Rows.dozenWrongsSpec) own started (by kernel_rfl) Tryd.func4
  (witness_row_at (enc:=enc) (C:=Tryd.checked) false (laidWorld os) #[.agg #[.slice none 0 0,.slice none 0 0]] rfl (by kernel_rfl) (by kernel_rfl) (by kernel_rfl)
   (OpenSpec.preRow_of_cond 8 hx (by kernel_rfl) (fun k hk=>by cases hk) (by kernel_rfl) (laid_met os))) ?_
 intro W base args ds gs before hval hW _ _ _ hL _ _
 exact contract H enc W base args ds gs before hval hW hL
theorem said:Rows.DozenWrongsSaid:=
 OpenClaim.holds_of_cond 4 Tryd.f4 rfl rfl rfl rfl rfl rfl rfl ⟨rfl,rfl,rfl,rfl,rfl⟩ rfl rfl rfl rfl rfl (by kernel_rfl) Tryd.func4 (by kernel_rfl)
  (of_decide_eq_true (by kernel_rfl)) (by unfold Func.isWrapper;first|(rw[if_pos (by decide+kernel)];kernel_rfl)|(rw[if_neg (by decide+kernel)];exact⟨rfl,rfl⟩))
  (fun os started H enc _ F=>by rw[OpenClaim.pre_eq_preRow];exact lifted os started H enc F)
theorem plain (f:FuncId) (fn:Func) (hf:Tryd.pinned.checked.prog.funcNamed "smalto/smaltolaw09.DozenWrongs" =some f) (hfn:Tryd.pinned.checked.prog.funcs[f]? =some fn):
  false=Tryd.pinned.checked.prog.looks []/\∀ (j:Nat) t,fn.params[j]? =some t->Tryd.pinned.checked.prog.wantsStandIn t=false:=by
 obtain rfl:f=4:=Option.some.inj ((show Tryd.prog.funcNamed "smalto/smaltolaw09.DozenWrongs" =some 4 by kernel_rfl).symm.trans hf) |>.symm
 obtain rfl:fn=Tryd.f4:=(Option.some.inj (Tryd.func4.symm.trans hfn)).symm
 refine⟨by kernel_rfl,fun j t ht=>?_⟩
 rw[Tryd.params4]at ht
 have hm:=Array.mem_of_getElem? ht
 simp only[List.mem_toArray,List.mem_cons,List.not_mem_nil,or_false]at hm
 subst hm
 ·exact(show Tryd.prog.wantsStandIn 25=false by kernel_rfl)
theorem card:Rows.DozenWrongsCardSaid:=
 Claim7.holds_tied_plain_at .later [] _ _ _ _ said (fun _ h=>by cases h) (by kernel_rfl) (fun _ h=>by cases h) dozenWrongs_row_tie rfl ⟨rfl,rfl⟩ (by kernel_rfl) rfl plain (by kernel_rfl)
end Go.Proofs.YtcmfnebcmmklkaaDoor.dozenWrongs
namespace Go.Proofs.YtcmfnebcmmklkaaDoor
theorem dozenWrongs_card:Rows.DozenWrongsCardSaid:=dozenWrongs.card
end Go.Proofs.YtcmfnebcmmklkaaDoor

/- What DozenLots reaches beyond the shared texts, and its card. Part 2 of 5. -/
import Derived.Test.YtcmfnebcmmklkaaDoorK2
set_option linter.unusedVariables false
set_option linter.unusedSimpArgs false
set_option maxRecDepth 100000
set_option maxHeartbeats 8000000
namespace Go.Proofs.YtcmfnebcmmklkaaDoor.Q
open Go.RowKit Go.Proofs.YtcmfnebcmmklkaaDoorW.dQ Go.Proofs.YtcmfnebcmmklkaaDoorW.oU Go.Proofs.YtcmfnebcmmklkaaDoorW.gG
attribute [local go_sem] uA uB uC uD uM uN uO uP   -- for this text's walks alone
def nV.f (aG:List (aZ)) (aC:List (aI)):Option ((List (aZ))×(List (aI))):=(some (([]:List (aZ)):List (aZ))).bind fun sK=>(if sK.length+aG.length<8796093022208 then((some (([]:List (aI)):List (aI))).bind fun nO=>(if nO.length+aC.length<2932031007402 then(some ((sK++aG),(nO++aC)))else(none)))else(none))
def nV.T1:Bool×List (List Nat×List Nat):=(true,[([],[]),([],[]),([1],[1]),([0,2],[0,2]),([],[]),([],[]),([5],[5]),([4,6,3],[4,6]),([3,7],[3,7]),([8,7,0,1,2,3,4,5,6,7,8],[8])])
def nV.B1:List Nat:=[0,0,2,7,0,0,32,127,255,511]
theorem nV.afJ:qW .any (opsOf Tryd.f16 1)=nV.T1:=by kernel_rfl
theorem nV.afK:CZ nV.T1.2 nV.B1=true:=by kernel_rfl
theorem nV.calls (aQ:Option Addr) (aK:Nat) (aG:List (aZ)) (aT:Option Addr) (aJ:Nat) (aC:List (aI)) (r1:List (aZ)) (r2:List (aI)) (w:World) (jI:Kd.C iJ w aQ aG.length aG) (jU:aG.length<=aK) (jE:Kd.C iE w aT aC.length aC) (jS:aC.length<=aJ) (h:nV.f aG aC=some (r1,r2)):
    Calls Tryd.prog 16 #[.agg #[.slice aQ aG.length aK,.slice aT aC.length aJ]] w fun e w'=>∃ iG nC:Value,e=.returned (.agg #[iG,nC])/\Kd.R iJ 89 w' w.heap.size (fun _=>True) iG r1/\Kd.R iE 91 w' w.heap.size (fun _=>True) nC r2/\Below w.heap.size w w':=by
 have zH:=Tryd.underlying25
 have eU:=aA.mk jI
 have fK:=aA.mk jU
 clear jI jU
 have fB:=aA.mk jE
 have fM:=aA.mk jS
 clear jE jS
 have HB:=aA.mk (Below.refl w.heap.size w)
 have H:((some (([]:List (aZ)):List (aZ))).bind fun sK=>(if sK.length+aG.length<8796093022208 then((some (([]:List (aI)):List (aI))).bind fun nO=>(if nO.length+aC.length<2932031007402 then(some ((sK++aG),(nO++aC)))else(none)))else(none)))=some (r1,r2):=h
 clear h
 obtain⟨sK,TA⟩:∃ y_:List (aZ),y_=(([]:List (aZ))):=⟨_,rfl⟩
 replace H:(if sK.length+aG.length<8796093022208 then((some (([]:List (aI)):List (aI))).bind fun nO=>(if nO.length+aC.length<2932031007402 then(some ((sK++aG),(nO++aC)))else(none)))else(none))=some (r1,r2):=by first|(rw[TA];with_reducible exact H)|(have dJ:=(Option.bind_some _ _).symm.trans H;rw[TA];with_reducible exact dJ)|(have dJ:=(Option.bind_some _ _).symm.trans H;with_reducible exact dJ)|with_reducible exact H|(rw[TA];exact H)|exact H
 have YK:=aA.mk TA
 clear TA
 by_cases c2:sK.length+aG.length<8796093022208
 ·rw[if_pos c2]at H
  have adE:=aA.mk c2
  clear c2
  obtain⟨yE,TB⟩:∃ y_:List (aZ),y_=(sK++aG):=⟨_,rfl⟩
  replace H:((some (([]:List (aI)):List (aI))).bind fun nO=>(if nO.length+aC.length<2932031007402 then(some (yE,(nO++aC)))else(none)))=some (r1,r2):=by first|(rw[TB];with_reducible exact H)|(have dJ:=(Option.bind_some _ _).symm.trans H;rw[TB];with_reducible exact dJ)|(have dJ:=(Option.bind_some _ _).symm.trans H;with_reducible exact dJ)|with_reducible exact H|(rw[TB];exact H)|exact H
  have adF:=aA.mk TB
  clear TB
  obtain⟨nO,TC⟩:∃ y_:List (aI),y_=(([]:List (aI))):=⟨_,rfl⟩
  replace H:(if nO.length+aC.length<2932031007402 then(some (yE,(nO++aC)))else(none))=some (r1,r2):=by first|(rw[TC];with_reducible exact H)|(have dJ:=(Option.bind_some _ _).symm.trans H;rw[TC];with_reducible exact dJ)|(have dJ:=(Option.bind_some _ _).symm.trans H;with_reducible exact dJ)|with_reducible exact H|(rw[TC];exact H)|exact H
  have OD:=aA.mk TC
  clear TC
  by_cases c3:nO.length+aC.length<2932031007402
  ·rw[if_pos c3]at H
   have aAX:=aA.mk c3
   clear c3
   obtain⟨YL,TD⟩:∃ y_:List (aI),y_=(nO++aC):=⟨_,rfl⟩
   replace H:(some (yE,YL))=some (r1,r2):=by first|(rw[TD];with_reducible exact H)|(have dJ:=(Option.bind_some _ _).symm.trans H;rw[TD];with_reducible exact dJ)|(have dJ:=(Option.bind_some _ _).symm.trans H;with_reducible exact dJ)|with_reducible exact H|(rw[TD];exact H)|exact H
   have aAY:=aA.mk TD
   clear TD
   simp only[Option.some.injEq,Prod.mk.injEq]at H
   obtain⟨rfl,rfl⟩:=H
   go_enter Tryd.func16,Tryd.ntmps16
   try go_wp2_with (first|((with_reducible refine dU (N:=1) rfl ?_);refine eX 1 #[.slice aQ aG.length aK,.slice aT aC.length aJ] 25 ?_;intro uJ hg w4 hbox hb;have dD:=aA.mk (hbox);have a4K:=gw hg HB;have a4L:=gw hg HB;replace HB:=bs HB hb;clear hb hbox hg)|((with_reducible refine dU (N:=2) rfl ?_);refine eX 2 #[.slice none 0 0,.slice none 0 0] 25 ?_;intro oQ hg w5 hbox hb;have eQ:=aA.mk (hbox);have a4M:=gw hg HB;have a4N:=gw hg HB;have OE:=nl hg dD;have alT:=ng hg dD;replace dD:=bb dD hb;replace HB:=bs HB hb;clear hb hbox hg))
   have aV:=aA.mk (gI dD.out)
   have aW:=aA.mk (gI eQ.out)
   have aY:=aA.mk (sW HB.out)
   clear dD eQ HB
   have dD:=aV
   have eQ:=aW
   have HB:=aY
   clear aV aW aY
   refine xP (n:=10) (S:=fun w'=>w'.cell? ⟨uJ,0,none⟩=some (.slice aQ aG.length aK)/\w'.cell? ⟨uJ,1,none⟩=some (.slice aT aC.length aJ)) (ds:=[]) (bl 10 0) (by kernel_rfl) rfl rfl ⟨kc dD 0,kc dD 1⟩ (fun hHeld=>?_);refine yS nV.afJ nV.afK (fun aN jG=>?_)
   generalize w5.drew=w6 at dD eQ HB hHeld ⊢
   refine pS 1 4 10 2 aN ?_
   refine pS 5 8 10 34 aN ?_
   refine tq 2 (some 5) (bl 10 38) aN jG hHeld (h:=?_)
   refine tq 6 (some 9) (bl 10 102) aN jG hHeld (h:=?_)
   refine atD (σ:=Value×Value×Value) 3 (bl 10 127) (fun s_=>[(3,s_.1),(6,s_.2.1),(7,s_.2.2)]) (fun s_ w'=>(w'.cell? ⟨uJ,0,none⟩=some (.slice aQ aG.length aK)/\w'.cell? ⟨uJ,1,none⟩=some (.slice aT aC.length aJ))/\(Kd.R iJ 89 w' w.heap.size (fun _=>True) s_.2.1 yE)/\(Kd.R iE 91 w' w.heap.size (fun _=>True) s_.2.2 nO)/\(w'.heap[uJ]? =some (.cells #[.slice aQ aG.length aK,.slice aT aC.length aJ] 25 (0,0)))/\(w'.heap[oQ]? =some (.cells #[.slice none 0 0,.slice none 0 0] 25 (0,0)))/\(Below w.heap.size w w')) ?_ ?_
   rotate_left
   ·intro QF
    refine ae6 (i:=0) (j:=4) (Ni:=some 3) (Nj:=some 7) (bl 10 103) (bl 10 118) rfl rfl rfl rfl (ae7 aN.out (by kernel_rfl)) (by decide) (by decide) (fun K hK=>?_) (fun K hK=>?_)
    ·skip
     refine Kd.QA iJ _ 89 ?hg (N:=3) ?hd (xs:=([]:List (aZ))) (inner:=[]) (ok:=fun _=>True) (lS:=fun _=>True) ?hr ?hp (fun _ hk=>hk) trivial (Below.refl _ _) (Nat.le_refl _) (by simp) ?_;(case hd=>rfl);(case hg=>rfl);(case hr=>first|(go_simp;done)|(go_simp;rfl));(case hp=>exact(gX.none _ _))
     intro v222 w7 sN hb mF mG
     clear mF mG
     (first|rw[<-YK.out]at sN|(simp only[Int.reduceToNat]at sN;rw[<-YK.out]at sN))
     have aV:=aA.mk (Kd.eF sN (dH (Bq HB)))
     have aW:=bb dD hb
     have aY:=bb eQ hb
     have bI:=bs HB hb
     clear dD eQ HB
     have oH:=aV
     have dD:=aW
     have eQ:=aY
     have HB:=bI
     clear aV aW aY bI hb sN
     refine hK.out _ _ ⟨kc dD 0,kc dD 1⟩ (fun hHeld=>?_)
     clear hK K
     refine nq 3 ?_
     refine ae6 (i:=3) (j:=4) (Ni:=some 6) (Nj:=some 7) (bl 10 111) (bl 10 119) rfl rfl rfl rfl (ae7 aN.out (by kernel_rfl)) (by decide) (by decide) (fun K hK=>?_) (fun K hK=>?_)
     ·skip
      refine Kd.ZX iJ (w0:=w) w.heap.size (by rfl) (.tmp 3) (.tmp 5) 22 89 (.agg #[(.int .i64 0),(.int .i64 0)]) 16 rfl Tryd.underlying22 ae9 rfl (by decide) (by omega) v222 sK aG _ _ _ (fun _=>True) (fun _=>False) rfl rfl ?aO ?aR (fun _ _ h=>h) (fun _ h=>h.elim) ?aF ?aB ?aS ?aL ?_
      (case aR=>repeat(first|exact(Kd.bJ eU.out HB.out)|(with_reducible refine Kd.jZ ?_ _)|(with_reducible refine Kd.kD ?_ _)|(with_reducible refine Kd.kC ?_)))
      (case aB=>exact(Bq HB))
      (case aF=>exact(fun _ _=>trivial))
      (case aO=>exact(R_ oH))
      (case aS=>exact(dH (Bq HB)))
      (case aL=>have:=adE.out;omega)
      intro BI w9 ho hb hg hat
      rw[<-adF.out]at ho
      have aV:=aA.mk (oM (g:=uJ) (o:=.cells #[.slice aQ aG.length aK,.slice aT aC.length aJ] 25 (0,0)) (b_ dD) hg (Kd.mW oH.out dD.out (by decide)))
      have aW:=aA.mk (oM (g:=oQ) (o:=.cells #[.slice none 0 0,.slice none 0 0] 25 (0,0)) (b_ eQ) hg (Kd.mW oH.out eQ.out (by decide)))
      have aY:=aA.mk (hb)
      have bI:=aA.mk (ho)
      clear dD eQ HB oH
      have dD:=aV
      have eQ:=aW
      have HB:=aY
      have oO:=bI
      clear aV aW aY bI ho hb hg hat
      refine hK.out _ _ ⟨kc dD 0,kc dD 1⟩ (fun hHeld=>?_)
      clear hK K
      refine nq 6 ?_
      refine lI (i:=4) (N:=some 7) (bl 10 127) rfl rfl (lJ aN.out (by kernel_rfl)) (by decide) (fun K hK=>?_)
      refine Kd.QA iE _ 91 ?hg (N:=7) ?hd (xs:=([]:List (aI))) (inner:=[]) (ok:=fun _=>True) (lS:=fun _=>True) ?hr ?hp (fun _ hk=>hk) trivial (Below.refl _ _) (Nat.le_refl _) (by simp) ?_;(case hd=>rfl);(case hg=>rfl);(case hr=>first|(go_simp;done)|(go_simp;rfl));(case hp=>exact(gX.none _ _))
      intro v228 w10 ER hb mF mG
      clear mF mG
      (first|rw[<-OD.out]at ER|(simp only[Int.reduceToNat]at ER;rw[<-OD.out]at ER))
      have aV:=RB oO hb
      have aW:=aA.mk (Kd.eF ER (dH (Bq HB)))
      have aY:=bb dD hb
      have bI:=bb eQ hb
      have cO:=bs HB hb
      clear oO dD eQ HB
      have oO:=aV
      have mV:=aW
      have dD:=aY
      have eQ:=bI
      have HB:=cO
      clear aV aW aY bI cO hb ER
      refine hK.out _ _ ⟨kc dD 0,kc dD 1⟩ (fun hHeld=>?_)
      clear hK K
      refine nq 7 ?_
      exact MH (by simp only[CY,Act.put,List.setIfInBounds_toArray,List.set_cons_zero,List.set_cons_succ]) (QF (v222,BI,v228) _ ⟨hHeld,(R_ oO),(R_ mV),(b_ dD),(b_ eQ),(Bq HB)⟩)
     skip
     refine Kd.QA iE _ 91 ?hg (N:=7) ?hd (xs:=([]:List (aI))) (inner:=[]) (ok:=fun _=>True) (lS:=fun _=>True) ?hr ?hp (fun _ hk=>hk) trivial (Below.refl _ _) (Nat.le_refl _) (by simp) ?_;(case hd=>rfl);(case hg=>rfl);(case hr=>first|(go_simp;done)|(go_simp;rfl));(case hp=>exact(gX.none _ _))
     intro v228 w9 sO hb mF mG
     clear mF mG
     (first|rw[<-OD.out]at sO|(simp only[Int.reduceToNat]at sO;rw[<-OD.out]at sO))
     have aV:=RB oH hb
     have aW:=aA.mk (Kd.eF sO (dH (Bq HB)))
     have aY:=bb dD hb
     have bI:=bb eQ hb
     have cO:=bs HB hb
     clear oH dD eQ HB
     have oH:=aV
     have mV:=aW
     have dD:=aY
     have eQ:=bI
     have HB:=cO
     clear aV aW aY bI cO hb sO
     refine hK.out _ _ ⟨kc dD 0,kc dD 1⟩ (fun hHeld=>?_)
     clear hK K
     refine nq 7 ?_
     refine lI (i:=3) (N:=some 6) (bl 10 127) rfl rfl (lJ aN.out (by kernel_rfl)) (by decide) (fun K hK=>?_)
     refine Kd.ZX iJ (w0:=w) w.heap.size (by rfl) (.tmp 3) (.tmp 5) 22 89 (.agg #[(.int .i64 0),(.int .i64 0)]) 16 rfl Tryd.underlying22 ae9 rfl (by decide) (by omega) v222 sK aG _ _ _ (fun _=>True) (fun _=>False) rfl rfl ?aO ?aR (fun _ _ h=>h) (fun _ h=>h.elim) ?aF ?aB ?aS ?aL ?_
     (case aR=>repeat(first|exact(Kd.bJ eU.out HB.out)|(with_reducible refine Kd.jZ ?_ _)|(with_reducible refine Kd.kD ?_ _)|(with_reducible refine Kd.kC ?_)))
     (case aB=>exact(Bq HB))
     (case aF=>exact(fun _ _=>trivial))
     (case aO=>exact(R_ oH))
     (case aS=>exact(dH (Bq HB)))
     (case aL=>have:=adE.out;omega)
     intro BI vK ho hb hg hat
     rw[<-adF.out]at ho
     have aV:=aA.mk (oM (g:=uJ) (o:=.cells #[.slice aQ aG.length aK,.slice aT aC.length aJ] 25 (0,0)) (b_ dD) hg (Kd.mW oH.out dD.out (by decide)))
     have aW:=aA.mk (oM (g:=oQ) (o:=.cells #[.slice none 0 0,.slice none 0 0] 25 (0,0)) (b_ eQ) hg (Kd.mW oH.out eQ.out (by decide)))
     have aY:=aA.mk (Kd.mO (R_ mV) (Kd.mM (R_ oH)) (by decide) hg)
     have bI:=aA.mk (hb)
     have cO:=aA.mk (ho)
     clear dD eQ mV HB oH
     have dD:=aV
     have eQ:=aW
     have mV:=aY
     have HB:=bI
     have oO:=cO
     clear aV aW aY bI cO ho hb hg hat
     refine hK.out _ _ ⟨kc dD 0,kc dD 1⟩ (fun hHeld=>?_)
     clear hK K
     refine nq 6 ?_
     exact MH (by simp only[CY,Act.put,List.setIfInBounds_toArray,List.set_cons_zero,List.set_cons_succ]) (QF (v222,BI,v228) _ ⟨hHeld,(R_ oO),(R_ mV),(b_ dD),(b_ eQ),(Bq HB)⟩)
    skip
    refine Kd.QA iE _ 91 ?hg (N:=7) ?hd (xs:=([]:List (aI))) (inner:=[]) (ok:=fun _=>True) (lS:=fun _=>True) ?hr ?hp (fun _ hk=>hk) trivial (Below.refl _ _) (Nat.le_refl _) (by simp) ?_;(case hd=>rfl);(case hg=>rfl);(case hr=>first|(go_simp;done)|(go_simp;rfl));(case hp=>exact(gX.none _ _))
    intro v228 w7 sN hb mF mG
    clear mF mG
    (first|rw[<-OD.out]at sN|(simp only[Int.reduceToNat]at sN;rw[<-OD.out]at sN))
    have aV:=aA.mk (Kd.eF sN (dH (Bq HB)))
    have aW:=bb dD hb
    have aY:=bb eQ hb
    have bI:=bs HB hb
    clear dD eQ HB
    have mV:=aV
    have dD:=aW
    have eQ:=aY
    have HB:=bI
    clear aV aW aY bI hb sN
    refine hK.out _ _ ⟨kc dD 0,kc dD 1⟩ (fun hHeld=>?_)
    clear hK K
    refine nq 7 ?_
    refine lI (i:=0) (N:=some 3) (bl 10 119) rfl rfl (lJ aN.out (by kernel_rfl)) (by decide) (fun K hK=>?_)
    refine Kd.QA iJ _ 89 ?hg (N:=3) ?hd (xs:=([]:List (aZ))) (inner:=[]) (ok:=fun _=>True) (lS:=fun _=>True) ?hr ?hp (fun _ hk=>hk) trivial (Below.refl _ _) (Nat.le_refl _) (by simp) ?_;(case hd=>rfl);(case hg=>rfl);(case hr=>first|(go_simp;done)|(go_simp;rfl));(case hp=>exact(gX.none _ _))
    intro v222 w9 sO hb mF mG
    clear mF mG
    (first|rw[<-YK.out]at sO|(simp only[Int.reduceToNat]at sO;rw[<-YK.out]at sO))
    have aV:=RB mV hb
    have aW:=aA.mk (Kd.eF sO (dH (Bq HB)))
    have aY:=bb dD hb
    have bI:=bb eQ hb
    have cO:=bs HB hb
    clear mV dD eQ HB
    have mV:=aV
    have oH:=aW
    have dD:=aY
    have eQ:=bI
    have HB:=cO
    clear aV aW aY bI cO hb sO
    refine hK.out _ _ ⟨kc dD 0,kc dD 1⟩ (fun hHeld=>?_)
    clear hK K
    refine nq 3 ?_
    refine lI (i:=3) (N:=some 6) (bl 10 127) rfl rfl (lJ aN.out (by kernel_rfl)) (by decide) (fun K hK=>?_)
    refine Kd.ZX iJ (w0:=w) w.heap.size (by rfl) (.tmp 3) (.tmp 5) 22 89 (.agg #[(.int .i64 0),(.int .i64 0)]) 16 rfl Tryd.underlying22 ae9 rfl (by decide) (by omega) v222 sK aG _ _ _ (fun _=>True) (fun _=>False) rfl rfl ?aO ?aR (fun _ _ h=>h) (fun _ h=>h.elim) ?aF ?aB ?aS ?aL ?_
    (case aR=>repeat(first|exact(Kd.bJ eU.out HB.out)|(with_reducible refine Kd.jZ ?_ _)|(with_reducible refine Kd.kD ?_ _)|(with_reducible refine Kd.kC ?_)))
    (case aB=>exact(Bq HB))
    (case aF=>exact(fun _ _=>trivial))
    (case aO=>exact(R_ oH))
    (case aS=>exact(dH (Bq HB)))
    (case aL=>have:=adE.out;omega)
    intro BI vK ho hb hg hat
    rw[<-adF.out]at ho
    have aV:=aA.mk (oM (g:=uJ) (o:=.cells #[.slice aQ aG.length aK,.slice aT aC.length aJ] 25 (0,0)) (b_ dD) hg (Kd.mW oH.out dD.out (by decide)))
    have aW:=aA.mk (oM (g:=oQ) (o:=.cells #[.slice none 0 0,.slice none 0 0] 25 (0,0)) (b_ eQ) hg (Kd.mW oH.out eQ.out (by decide)))
    have aY:=aA.mk (Kd.mO (R_ mV) (Kd.mM (R_ oH)) (by decide) hg)
    have bI:=aA.mk (hb)
    have cO:=aA.mk (ho)
    clear dD eQ mV HB oH
    have dD:=aV
    have eQ:=aW
    have mV:=aY
    have HB:=bI
    have oO:=cO
    clear aV aW aY bI cO ho hb hg hat
    refine hK.out _ _ ⟨kc dD 0,kc dD 1⟩ (fun hHeld=>?_)
    clear hK K
    refine nq 6 ?_
    exact MH (by simp only[CY,Act.put,List.setIfInBounds_toArray,List.set_cons_zero,List.set_cons_succ]) (QF (v222,BI,v228) _ ⟨hHeld,(R_ oO),(R_ mV),(b_ dD),(b_ eQ),(Bq HB)⟩)
   rintro⟨v222,BI,v228⟩ w12 ⟨hS_,WW,WX,WY,WZ,XA⟩
   have aV:aA (Kd.R iJ 89 w12 w.heap.size (fun _=>True) BI yE):=⟨WW⟩
   have aW:aA (Kd.R iE 91 w12 w.heap.size (fun _=>True) v228 nO):=⟨WX⟩
   have aY:aA (w12.heap[uJ]? =some (.cells #[.slice aQ aG.length aK,.slice aT aC.length aJ] 25 (0,0))):=⟨WY⟩
   have bI:aA (w12.heap[oQ]? =some (.cells #[.slice none 0 0,.slice none 0 0] 25 (0,0))):=⟨WZ⟩
   have cO:aA (Below w.heap.size w w12):=⟨XA⟩
   clear dD eQ HB WW WX WY WZ XA
   have oO:=aV
   have mV:=aW
   have dD:=aY
   have eQ:=bI
   have HB:=cO
   clear aV aW aY bI cO
   have hHeld:w12.cell? ⟨uJ,0,none⟩=some (.slice aQ aG.length aK)/\w12.cell? ⟨uJ,1,none⟩=some (.slice aT aC.length aJ):=hS_
   refine MH (a':=?_) ?_ ?_
   rotate_left
   ·simp only[CY,Act.put,List.setIfInBounds_toArray,List.set_cons_zero,List.set_cons_succ]
    rfl
   refine lI (i:=7) (N:=some 10) (bl 10 255) rfl rfl (lJ aN.out (by kernel_rfl)) (by decide) (fun K hK=>?_)
   refine Kd.ZX iE (w0:=w) w.heap.size (by rfl) (.tmp 7) (.tmp 9) 23 91 (.agg #[(.int .i64 0),(.int .i64 0),(.int .i64 0),(.int .i64 0),(.int .i64 0),(.bool false)]) 48 rfl Tryd.underlying23 aCU rfl (by decide) (by omega) v228 nO aC _ _ _ (fun _=>True) (fun _=>False) rfl rfl ?aO ?aR (fun _ _ h=>h) (fun _ h=>h.elim) ?aF ?aB ?aS ?aL ?_
   (case aR=>repeat(first|exact(Kd.bJ fB.out HB.out)|(with_reducible refine Kd.jZ ?_ _)|(with_reducible refine Kd.kD ?_ _)|(with_reducible refine Kd.kC ?_)))
   (case aB=>exact(Bq HB))
   (case aF=>exact(fun _ _=>trivial))
   (case aO=>exact(R_ mV))
   (case aS=>exact(dH (Bq HB)))
   (case aL=>have:=aAX.out;omega)
   intro wO tV ho hb hg hat
   rw[<-aAY.out]at ho
   have aV:=aA.mk (oM (g:=uJ) (o:=.cells #[.slice aQ aG.length aK,.slice aT aC.length aJ] 25 (0,0)) (b_ dD) hg (Kd.mW mV.out dD.out (by decide)))
   have aW:=aA.mk (oM (g:=oQ) (o:=.cells #[.slice none 0 0,.slice none 0 0] 25 (0,0)) (b_ eQ) hg (Kd.mW mV.out eQ.out (by decide)))
   have aY:=aA.mk (Kd.mO (R_ oO) (Kd.mM (R_ mV)) (by decide) hg)
   have bI:=aA.mk (hb)
   have cO:=aA.mk (ho)
   clear dD eQ oO HB mV
   have dD:=aV
   have eQ:=aW
   have oO:=aY
   have HB:=bI
   have TE:=cO
   clear aV aW aY bI cO ho hb hg hat
   obtain⟨XE,XF,alU⟩:=Kd.dA TE.out
   (first|subst alU|(injection alU with kG pF kH;have pG:=kG.symm;have pI:=kH.symm;clear kG pF kH;subst pG;subst pI))
   obtain⟨VY,VZ,alV⟩:=Kd.dA oO.out
   (first|subst alV|(injection alV with kG pF kH;have pG:=kG.symm;have pI:=kH.symm;clear kG pF kH;subst pG;subst pI))
   refine hK.out _ _ ⟨kc dD 0,kc dD 1⟩ (fun hHeld=>?_)
   clear hK K
   refine nq 10 ?_
   refine pS 8 11 10 511 aN ?_
   refine lI (i:=9) (N:=none) (bl 10 1023) rfl rfl (lJ aN.out (by kernel_rfl)) (by decide) (fun K hK=>?_)
   have aKC:tV.cell? ⟨oQ,0,none⟩=some (.slice none 0 0):=kc eQ 0
   have aKD:=aX eQ.out 0
   have aKE:=OE.out
   have aKF:=alT.out
   have a4O:tV.cell? ⟨oQ,1,none⟩=some (.slice none 0 0):=kc eQ 1
   have a4P:=aX eQ.out 1
   have a4Q:=OE.out
   have a4R:=alT.out
   refine ahB (w1:=?_) (by rfl) rfl ?_ ?_
   rotate_left
   ·go_simp
    rfl
   refine hK.out _ _ ⟨((cell_far (p:=⟨oQ,_,none⟩) OE.out _).trans (((cell_far (p:=⟨oQ,_,none⟩) OE.out _).trans (hHeld.1)))),((cell_far (p:=⟨oQ,_,none⟩) OE.out _).trans (((cell_far (p:=⟨oQ,_,none⟩) OE.out _).trans (hHeld.2))))⟩ (fun hHeld=>?_)
   clear hK K
   refine xQ (yR aN.out (by kernel_rfl)) ?_
   try go_wp2
   refine bodyPost_ret (results_cell_row rfl _ _ oQ 25 #[.slice VY yE.length VZ,.slice XE YL.length XF] (0,0) _ rfl (by exact dE (cs:=#[.slice VY yE.length VZ,.slice none 0 0]) (dE (cs:=#[.slice none 0 0,.slice none 0 0]) (b_ eQ) 0 _ rfl) 1 _ rfl) Tryd.underlying25 rfl (by kernel_rfl)) rfl ?_
   exact⟨_,_,by first|rfl|(simp[iU,iV]<;>rfl)|(simp[*,iU,iV]<;>rfl),by(with_reducible repeat(first|apply Kd.fQ|apply Kd.fU|apply Kd.dG));exact Kd.bQ (Kd.bK (p:=⟨oQ,1,none⟩) (Kd.bK (p:=⟨oQ,0,none⟩) (Kd.gB oO.out eQ.out (by decide)) (fun _ hk=>hk.2) (.slice VY yE.length VZ)) (fun _ hk=>hk.2) (.slice XE YL.length XF)) (fun _ hk=>trivial),by(with_reducible repeat(first|apply Kd.fQ|apply Kd.fU|apply Kd.dG));exact Kd.bQ (Kd.bK (p:=⟨oQ,1,none⟩) (Kd.bK (p:=⟨oQ,0,none⟩) (Kd.gB TE.out eQ.out (by decide)) (fun _ hk=>hk.2) (.slice VY yE.length VZ)) (fun _ hk=>hk.2) (.slice XE YL.length XF)) (fun _ hk=>trivial),Bq HB⟩
  rw[if_neg c3]at H
  exact absurd H (by simp)
 rw[if_neg c2]at H
 exact absurd H (by simp)
end Go.Proofs.YtcmfnebcmmklkaaDoor.Q

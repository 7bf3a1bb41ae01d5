/- DozenFills: the law returns true for every input; each argument reads behind the call as it read before (for worlds in which the two tables of the library hold what its initialisers lay). Part 4 of 4. -/
import Derived.Test.YtcmfnebcmmklkaaDoorLb3
import Derived.Test.YtcmfnebcmmklkaaDoorK2
import Derived.Test.YtcmfnebcmmklkaaDoorCards
import Derived.Test.YtcmfnebcmmklkaaDoorTie
import Derived.Test.YtcmfnebcmmklkaaDoorLb1
set_option linter.unusedVariables false
set_option linter.unusedSimpArgs false
set_option maxRecDepth 100000
set_option maxHeartbeats 8000000
namespace Go.Proofs.YtcmfnebcmmklkaaDoor.Q
open Go.RowKit Go.Proofs.YtcmfnebcmmklkaaDoorW.dQ Go.Proofs.YtcmfnebcmmklkaaDoorW.oU Go.Proofs.YtcmfnebcmmklkaaDoorW.gG
attribute [local go_sem] uA uB uC uD uM uN uO uP
theorem nR.calls (k:Nat) (aQ:Option Addr) (aK:Nat) (aG:List (aZ)) (aT:Option Addr) (aJ:Nat) (aC:List (aI)) (a1:Int) (a2:Int) (r:List Int) (w:World) (jI:Kd.C iJ w aQ aG.length aG) (jU:aG.length<=aK) (jE:Kd.C iE w aT aC.length aC) (jS:aC.length<=aJ) (h:nR.f k aG aC a1 a2=some r):
    Calls Tryd.prog 33 #[.agg #[.slice aQ aG.length aK,.slice aT aC.length aJ],.int .i64 a1,.int .i64 a2] w fun e w'=>∃ iG:Value,e=.returned (iG)/\Kd.R (Kd.int .i64) 3 w' w.heap.size (fun _=>True) iG r/\Below w.heap.size w w':=by
 have zH:=Tryd.underlying25
 have eU:=aA.mk jI
 have fK:=aA.mk jU
 clear jI jU
 have fB:=aA.mk jE
 have fM:=aA.mk jS
 clear jE jS
 have HB:=aA.mk (Below.refl w.heap.size w)
 have H:((iC.f k aG aC false).bind fun t187=>((iC.f k aG aC true).bind fun t190=>(nR.l0 k a1 a2 t187 t190 (([]:List Int)) 1 aG aC)))=some r:=h
 clear h
 replace H:=Option.bind_eq_some_iff.mp H
 obtain⟨t187,vG,H⟩:=H
 replace H:((iC.f k aG aC true).bind fun t190=>(nR.l0 k a1 a2 t187 t190 (([]:List Int)) 1 aG aC))=some r:=H
 have A4:=aA.mk vG
 clear vG
 replace H:=Option.bind_eq_some_iff.mp H
 obtain⟨t190,A50,H⟩:=H
 replace H:(nR.l0 k a1 a2 t187 t190 (([]:List Int)) 1 aG aC)=some r:=H
 have A5:=aA.mk A50
 clear A50
 obtain⟨aHK,aBX⟩:∃ y_:List Int,y_=(([]:List Int)):=⟨_,rfl⟩
 replace H:(nR.l0 k a1 a2 t187 t190 aHK 1 aG aC)=some r:=by first|(rw[aBX];with_reducible exact H)|(have dJ:=(Option.bind_some _ _).symm.trans H;rw[aBX];with_reducible exact dJ)|(have dJ:=(Option.bind_some _ _).symm.trans H;with_reducible exact dJ)|with_reducible exact H|(rw[aBX];exact H)|exact H
 have asZ:=aA.mk aBX
 clear aBX
 have H':=aA.mk H
 clear H
 go_enter Tryd.func33,Tryd.ntmps33
 try go_wp2_with (first|((with_reducible refine dU (N:=3) rfl ?_);(try(refine xJ (by rfl) ?_;dsimp only));refine eX 3 #[.slice aQ aG.length aK,.slice aT aC.length aJ] 25 ?_;intro ae0 hg w6 hbox hb;have lD:=aA.mk (hbox);have GW186:=gw hg HB;have GE186:=gw hg HB;replace HB:=bs HB hb;clear hb hbox hg))
 have aV:=aA.mk (gI lD.out)
 have aW:=aA.mk (sW HB.out)
 clear lD HB
 have lD:=aV
 have HB:=aW
 clear aV aW
 refine xP (n:=8) (S:=fun w'=>w'.cell? ⟨ae0,0,none⟩=some (.slice aQ aG.length aK)/\w'.cell? ⟨ae0,1,none⟩=some (.slice aT aC.length aJ)) (ds:=[]) (bl 8 0) (by kernel_rfl) rfl rfl ⟨kc lD 0,kc lD 1⟩ (fun hHeld=>?_);refine yS nR.afJ nR.afK (fun aN jG=>?_)
 generalize w6.drew=w7 at lD HB hHeld ⊢
 refine tq 0 (some 15) (bl 8 1) aN jG hHeld (h:=?_)
 refine tq 2 (some 17) (bl 8 5) aN jG hHeld (h:=?_)
 refine atD (σ:=Value×Value×Value) 1 (bl 8 127) (fun s_=>[(16,s_.1),(18,s_.2.1),(19,s_.2.2),(7,s_.1),(8,s_.2.1)]) (fun s_ w'=>(w'.cell? ⟨ae0,0,none⟩=some (.slice aQ aG.length aK)/\w'.cell? ⟨ae0,1,none⟩=some (.slice aT aC.length aJ))/\(Kd.R iD 42 w' w.heap.size (fun k_=>some k_≠(s_.2.1:Value).ownBlock) s_.1 t187)/\(Kd.R iD 42 w' w.heap.size (fun k_=>some k_≠(s_.1:Value).ownBlock) s_.2.1 t190)/\(Kd.R (Kd.int .i64) 3 w' w.heap.size (fun _=>True) s_.2.2 aHK)/\(w'.heap[ae0]? =some (.cells #[.slice aQ aG.length aK,.slice aT aC.length aJ] 25 (0,0)))/\(Below w.heap.size w w')) ?_ ?_
 rotate_left
 ·intro QF
  refine ae6 (i:=1) (j:=4) (Ni:=some 16) (Nj:=some 19) (bl 8 7) (bl 8 21) rfl rfl rfl rfl (ae7 aN.out (by kernel_rfl)) (by decide) (by decide) (fun K hK=>?_) (fun K hK=>?_)
  ·skip
   refine rD Tryd.func25 (by kernel_rfl) rfl #[.agg #[.slice aQ aG.length aK,.slice aT aC.length aJ],.bool false] (by rfl) rfl rfl (by(try simp only[List.map_toArray,List.map_cons,List.map_nil]);first|done|rfl|(simp only[List.length_drop,List.length_take];rfl)) ?_
   with_reducible refine(iC.calls k _ _ aG _ _ aC false t187 _ ?jK ?jL ?jM ?jO A4.out).mono ?_
   (case jK=>exact Kd.bJ eU.out (Bq HB))
   (case jL=>exact fK.out)
   (case jM=>exact Kd.bJ fB.out (Bq HB))
   (case jO=>exact fM.out)
   rintro e w8 ⟨adR,rfl,ho0,hb⟩
   refine⟨_,rfl,?_⟩
   have aV:=aA.mk (Kd.eF ho0 (dH (Bq HB)))
   have aW:=bb lD hb
   have aY:=bs HB hb
   clear lD HB
   have CO:=aV
   have lD:=aW
   have HB:=aY
   clear aV aW aY
   (try clear hb)
   (try clear hb2)
   (try clear hk)
   (try clear hi)
   (try clear ho0)
   refine hK.out _ _ ⟨kc lD 0,kc lD 1⟩ (fun hHeld=>?_)
   clear hK K
   refine nq 16 ?_
   refine ae6 (i:=3) (j:=4) (Ni:=some 18) (Nj:=some 19) (bl 8 15) (bl 8 23) rfl rfl rfl rfl (ae7 aN.out (by kernel_rfl)) (by decide) (by decide) (fun K hK=>?_) (fun K hK=>?_)
   ·skip
    refine rD Tryd.func25 (by kernel_rfl) rfl #[.agg #[.slice aQ aG.length aK,.slice aT aC.length aJ],.bool true] (by rfl) rfl rfl (by(try simp only[List.map_toArray,List.map_cons,List.map_nil]);first|done|rfl|(simp only[List.length_drop,List.length_take];rfl)) ?_
    with_reducible refine(iC.calls k _ _ aG _ _ aC true t190 _ ?jK ?jL ?jM ?jO A5.out).mono ?_
    (case jK=>exact Kd.bJ eU.out (Bq HB))
    (case jL=>exact fK.out)
    (case jM=>exact Kd.bJ fB.out (Bq HB))
    (case jO=>exact fM.out)
    rintro e w9 ⟨aa6,rfl,ho0,hb⟩
    refine⟨_,rfl,?_⟩
    have aV:=aA.mk (Kd.gW (R_ CO) (Kd.fF ho0) hb)
    have aW:=aA.mk (Kd.eF (Kd.fG ho0 (Kd.dY (R_ CO))) (dH (Bq HB)))
    have aY:=bb lD hb
    have bI:=bs HB hb
    clear CO lD HB
    have CO:=aV
    have ae1:=aW
    have lD:=aY
    have HB:=bI
    clear aV aW aY bI
    (try clear hb)
    (try clear hb2)
    (try clear hk)
    (try clear hi)
    (try clear ho0)
    refine hK.out _ _ ⟨kc lD 0,kc lD 1⟩ (fun hHeld=>?_)
    clear hK K
    refine nq 18 ?_
    refine pS 5 7 8 47 aN ?_
    refine pS 6 8 8 111 aN ?_
    refine lI (i:=4) (N:=some 19) (bl 8 127) rfl rfl (lJ aN.out (by kernel_rfl)) (by decide) (fun K hK=>?_)
    refine Kd.QA (Kd.int .i64) _ 3 ?hg (N:=19) ?hd (xs:=([]:List Int)) (inner:=[]) (ok:=fun _=>True) (lS:=fun _=>True) ?hr ?hp (fun _ hk=>hk) trivial (Below.refl _ _) (Nat.le_refl _) (by simp) ?_;(case hd=>rfl);(case hg=>rfl);(case hr=>first|(go_simp;done)|(go_simp;rfl));(case hp=>exact(gX.none _ _))
    intro v194 w10 ER hb mF mG
    clear mF mG
    (first|rw[<-asZ.out]at ER|(simp only[Int.reduceToNat]at ER;rw[<-asZ.out]at ER))
    have aV:=RB CO hb
    have aW:=RB ae1 hb
    have aY:=aA.mk (Kd.eF ER (dH (Bq HB)))
    have bI:=bb lD hb
    have cO:=bs HB hb
    clear CO ae1 lD HB
    have CO:=aV
    have ae1:=aW
    have UZ:=aY
    have lD:=bI
    have HB:=cO
    clear aV aW aY bI cO hb ER
    refine hK.out _ _ ⟨kc lD 0,kc lD 1⟩ (fun hHeld=>?_)
    clear hK K
    refine nq 19 ?_
    exact MH (by simp only[CY,Act.put,List.setIfInBounds_toArray,List.set_cons_zero,List.set_cons_succ]) (QF (adR,aa6,v194) _ ⟨hHeld,(Kd.bQ (R_ CO) (fun _ hk=>hk.2)),(Kd.bQ (R_ ae1) (fun _ hk=>hk.2)),(R_ UZ),(b_ lD),(Bq HB)⟩)
   skip
   refine Kd.QA (Kd.int .i64) _ 3 ?hg (N:=19) ?hd (xs:=([]:List Int)) (inner:=[]) (ok:=fun _=>True) (lS:=fun _=>True) ?hr ?hp (fun _ hk=>hk) trivial (Below.refl _ _) (Nat.le_refl _) (by simp) ?_;(case hd=>rfl);(case hg=>rfl);(case hr=>first|(go_simp;done)|(go_simp;rfl));(case hp=>exact(gX.none _ _))
   intro v194 w9 sO hb mF mG
   clear mF mG
   (first|rw[<-asZ.out]at sO|(simp only[Int.reduceToNat]at sO;rw[<-asZ.out]at sO))
   have aV:=RB CO hb
   have aW:=aA.mk (Kd.eF sO (dH (Bq HB)))
   have aY:=bb lD hb
   have bI:=bs HB hb
   clear CO lD HB
   have CO:=aV
   have UZ:=aW
   have lD:=aY
   have HB:=bI
   clear aV aW aY bI hb sO
   refine hK.out _ _ ⟨kc lD 0,kc lD 1⟩ (fun hHeld=>?_)
   clear hK K
   refine nq 19 ?_
   refine lI (i:=3) (N:=some 18) (bl 8 31) rfl rfl (lJ aN.out (by kernel_rfl)) (by decide) (fun K hK=>?_)
   refine rD Tryd.func25 (by kernel_rfl) rfl #[.agg #[.slice aQ aG.length aK,.slice aT aC.length aJ],.bool true] (by rfl) rfl rfl (by(try simp only[List.map_toArray,List.map_cons,List.map_nil]);first|done|rfl|(simp only[List.length_drop,List.length_take];rfl)) ?_
   with_reducible refine(iC.calls k _ _ aG _ _ aC true t190 _ ?jK ?jL ?jM ?jO A5.out).mono ?_
   (case jK=>exact Kd.bJ eU.out (Bq HB))
   (case jL=>exact fK.out)
   (case jM=>exact Kd.bJ fB.out (Bq HB))
   (case jO=>exact fM.out)
   rintro e vK ⟨aa6,rfl,ho0,hb⟩
   refine⟨_,rfl,?_⟩
   have aV:=aA.mk (Kd.gW (R_ CO) (Kd.fF ho0) hb)
   have aW:=RB UZ hb
   have aY:=aA.mk (Kd.eF (Kd.fG ho0 (Kd.dY (R_ CO))) (dH (Bq HB)))
   have bI:=bb lD hb
   have cO:=bs HB hb
   clear CO UZ lD HB
   have CO:=aV
   have UZ:=aW
   have ae1:=aY
   have lD:=bI
   have HB:=cO
   clear aV aW aY bI cO
   (try clear hb)
   (try clear hb2)
   (try clear hk)
   (try clear hi)
   (try clear ho0)
   refine hK.out _ _ ⟨kc lD 0,kc lD 1⟩ (fun hHeld=>?_)
   clear hK K
   refine nq 18 ?_
   refine pS 5 7 8 63 aN ?_
   refine pS 6 8 8 127 aN ?_
   exact MH (by simp only[CY,Act.put,List.setIfInBounds_toArray,List.set_cons_zero,List.set_cons_succ]) (QF (adR,aa6,v194) _ ⟨hHeld,(Kd.bQ (R_ CO) (fun _ hk=>hk.2)),(Kd.bQ (R_ ae1) (fun _ hk=>hk.2)),(R_ UZ),(b_ lD),(Bq HB)⟩)
  skip
  refine Kd.QA (Kd.int .i64) _ 3 ?hg (N:=19) ?hd (xs:=([]:List Int)) (inner:=[]) (ok:=fun _=>True) (lS:=fun _=>True) ?hr ?hp (fun _ hk=>hk) trivial (Below.refl _ _) (Nat.le_refl _) (by simp) ?_;(case hd=>rfl);(case hg=>rfl);(case hr=>first|(go_simp;done)|(go_simp;rfl));(case hp=>exact(gX.none _ _))
  intro v194 w8 ho9 hb mF mG
  clear mF mG
  (first|rw[<-asZ.out]at ho9|(simp only[Int.reduceToNat]at ho9;rw[<-asZ.out]at ho9))
  have aV:=aA.mk (Kd.eF ho9 (dH (Bq HB)))
  have aW:=bb lD hb
  have aY:=bs HB hb
  clear lD HB
  have UZ:=aV
  have lD:=aW
  have HB:=aY
  clear aV aW aY hb ho9
  refine hK.out _ _ ⟨kc lD 0,kc lD 1⟩ (fun hHeld=>?_)
  clear hK K
  refine nq 19 ?_
  refine lI (i:=1) (N:=some 16) (bl 8 23) rfl rfl (lJ aN.out (by kernel_rfl)) (by decide) (fun K hK=>?_)
  refine rD Tryd.func25 (by kernel_rfl) rfl #[.agg #[.slice aQ aG.length aK,.slice aT aC.length aJ],.bool false] (by rfl) rfl rfl (by(try simp only[List.map_toArray,List.map_cons,List.map_nil]);first|done|rfl|(simp only[List.length_drop,List.length_take];rfl)) ?_
  with_reducible refine(iC.calls k _ _ aG _ _ aC false t187 _ ?jK ?jL ?jM ?jO A4.out).mono ?_
  (case jK=>exact Kd.bJ eU.out (Bq HB))
  (case jL=>exact fK.out)
  (case jM=>exact Kd.bJ fB.out (Bq HB))
  (case jO=>exact fM.out)
  rintro e w10 ⟨adR,rfl,ho0,hb⟩
  refine⟨_,rfl,?_⟩
  have aV:=RB UZ hb
  have aW:=aA.mk (Kd.eF ho0 (dH (Bq HB)))
  have aY:=bb lD hb
  have bI:=bs HB hb
  clear UZ lD HB
  have UZ:=aV
  have CO:=aW
  have lD:=aY
  have HB:=bI
  clear aV aW aY bI
  (try clear hb)
  (try clear hb2)
  (try clear hk)
  (try clear hi)
  (try clear ho0)
  refine hK.out _ _ ⟨kc lD 0,kc lD 1⟩ (fun hHeld=>?_)
  clear hK K
  refine nq 16 ?_
  refine lI (i:=3) (N:=some 18) (bl 8 31) rfl rfl (lJ aN.out (by kernel_rfl)) (by decide) (fun K hK=>?_)
  refine rD Tryd.func25 (by kernel_rfl) rfl #[.agg #[.slice aQ aG.length aK,.slice aT aC.length aJ],.bool true] (by rfl) rfl rfl (by(try simp only[List.map_toArray,List.map_cons,List.map_nil]);first|done|rfl|(simp only[List.length_drop,List.length_take];rfl)) ?_
  with_reducible refine(iC.calls k _ _ aG _ _ aC true t190 _ ?jK ?jL ?jM ?jO A5.out).mono ?_
  (case jK=>exact Kd.bJ eU.out (Bq HB))
  (case jL=>exact fK.out)
  (case jM=>exact Kd.bJ fB.out (Bq HB))
  (case jO=>exact fM.out)
  rintro e vK ⟨aa6,rfl,ho0,hb⟩
  refine⟨_,rfl,?_⟩
  have aV:=RB UZ hb
  have aW:=aA.mk (Kd.gW (R_ CO) (Kd.fF ho0) hb)
  have aY:=aA.mk (Kd.eF (Kd.fG ho0 (Kd.dY (R_ CO))) (dH (Bq HB)))
  have bI:=bb lD hb
  have cO:=bs HB hb
  clear UZ CO lD HB
  have UZ:=aV
  have CO:=aW
  have ae1:=aY
  have lD:=bI
  have HB:=cO
  clear aV aW aY bI cO
  (try clear hb)
  (try clear hb2)
  (try clear hk)
  (try clear hi)
  (try clear ho0)
  refine hK.out _ _ ⟨kc lD 0,kc lD 1⟩ (fun hHeld=>?_)
  clear hK K
  refine nq 18 ?_
  refine pS 5 7 8 63 aN ?_
  refine pS 6 8 8 127 aN ?_
  exact MH (by simp only[CY,Act.put,List.setIfInBounds_toArray,List.set_cons_zero,List.set_cons_succ]) (QF (adR,aa6,v194) _ ⟨hHeld,(Kd.bQ (R_ CO) (fun _ hk=>hk.2)),(Kd.bQ (R_ ae1) (fun _ hk=>hk.2)),(R_ UZ),(b_ lD),(Bq HB)⟩)
 rintro⟨adR,aa6,v194⟩ w12 ⟨hS_,WW,WX,WY,WZ,XA⟩
 have aV:aA (Kd.R iD 42 w12 w.heap.size (fun k_=>some k_≠(aa6:Value).ownBlock) adR t187):=⟨WW⟩
 have aW:aA (Kd.R iD 42 w12 w.heap.size (fun k_=>some k_≠(adR:Value).ownBlock) aa6 t190):=⟨WX⟩
 have aY:aA (Kd.R (Kd.int .i64) 3 w12 w.heap.size (fun _=>True) v194 aHK):=⟨WY⟩
 have bI:aA (w12.heap[ae0]? =some (.cells #[.slice aQ aG.length aK,.slice aT aC.length aJ] 25 (0,0))):=⟨WZ⟩
 have cO:aA (Below w.heap.size w w12):=⟨XA⟩
 clear lD HB WW WX WY WZ XA
 have CO:=aV
 have ae1:=aW
 have UZ:=aY
 have lD:=bI
 have HB:=cO
 clear aV aW aY bI cO
 have hHeld:w12.cell? ⟨ae0,0,none⟩=some (.slice aQ aG.length aK)/\w12.cell? ⟨ae0,1,none⟩=some (.slice aT aC.length aJ):=hS_
 refine MH (a':=?_) ?_ ?_
 rotate_left
 ·simp only[CY,Act.put,List.setIfInBounds_toArray,List.set_cons_zero,List.set_cons_succ]
  rfl
 refine pS 7 9 8 255 aN ?_
 refine xQ (yR aN.out (by kernel_rfl)) ?_
 try go_wp2
 go_loopg [9,10] k (fun kq v9 v10 w'=>∃ (yF:List Int) (CP:Int),v10=.int .i64 CP/\aA (nR.l0 kq a1 a2 t187 t190 yF CP aG aC=some r)/\aA (kq<=k)/\aA (Kd.R iD 42 w' w.heap.size (fun k_=>some k_≠(aa6:Value).ownBlock) adR t187)/\aA (Kd.R iD 42 w' w.heap.size (fun k_=>some k_≠(adR:Value).ownBlock) aa6 t190)/\aA (Kd.R (Kd.int .i64) 3 w' w.heap.size (fun _=>True) v9 yF)/\aA (w'.heap[ae0]? =some (.cells #[(.slice aQ aG.length aK),(.slice aT aC.length aJ)] 25 (0,0)))/\aA (Below w.heap.size w w'))
 case atStart=>exact⟨(aHK),(1),(by first|rfl|(simp;done)|(simp[*];done)),H',⟨Nat.le_refl _⟩,⟨R_ CO⟩,⟨R_ ae1⟩,⟨R_ UZ⟩,⟨b_ lD⟩,⟨Bq HB⟩⟩
 case round=>
  clear H'
  obtain⟨yF,CP,rfl,HA,fV,mQ,dM,dX,lD,HB⟩:=hrel
  rcases gk with _|k1
  ·exact absurd HA.out (by simp[nR.l0])
  have H:=HA.out
  clear HA
  simp only[nR.l0]at H
  obtain⟨YN,aRF⟩:∃ j_:Int,(IntKind.u64.wrap ((aG.length:Int)))=j_:=⟨_,rfl⟩
  replace H:(if 0<=(YN)then(if CP<(shl .i64 1 (YN))then((oW.f k1 CP (aG.length:Int)).bind fun t196=>(nR.l1 k1 a1 a2 t187 t190 yF CP t196 0 0 0 aG aC))else(some yF))else(none))=some r:=by first|(rw[aRF]at H;exact H)|(simp only[aRF]at H ⊢;exact H)
  by_cases c14:0<=(YN)
  ·rw[if_pos c14]at H
   have aFM:=eq_true c14
   have brX:decide (0<=(YN))=true:=decide_eq_true c14
   clear c14
   obtain⟨ae2,aBZ⟩:∃ j_:Int,(shl .i64 1 (YN))=j_:=⟨_,rfl⟩
   replace H:(if CP<(ae2)then((oW.f k1 CP (aG.length:Int)).bind fun t196=>(nR.l1 k1 a1 a2 t187 t190 yF CP t196 0 0 0 aG aC))else(some yF))=some r:=by first|(rw[aBZ]at H;exact H)|(simp only[aBZ]at H ⊢;exact H)
   have a6A:(IntKind.i64.wrap (1*2^min (YN).toNat 64))=ae2:=aBZ
   have a6B:(YN)<=64->(IntKind.i64.wrap (1*2^(YN).toNat))=ae2:=aTM aBZ
   have hji15u:(IntKind.i64.wrap (2^min (YN).toNat 64))=ae2:=by have h_:=a6A;rw[Int.one_mul]at h_;exact h_
   have hji15v:(YN)<=64->(IntKind.i64.wrap (2^(YN).toNat))=ae2:=fun aN4=>by have h_:=a6B aN4;rw[Int.one_mul]at h_;exact h_
   have hji15y:(wrap64 (1*2^min (YN).toNat 64))=ae2:=(wQ _).symm.trans a6A
   have hji15x:(YN)<=64->(wrap64 (1*2^(YN).toNat))=ae2:=fun h_=>(wQ _).symm.trans (a6B h_)
   by_cases c16:CP<(ae2)
   ·rw[if_pos c16]at H
    have aNJ:decide (CP<(ae2))=true:=decide_eq_true c16
    clear c16
    replace H:=Option.bind_eq_some_iff.mp H
    obtain⟨t196,a6C,H⟩:=H
    replace H:(nR.l1 k1 a1 a2 t187 t190 yF CP t196 0 0 0 aG aC)=some r:=H
    have A17:=aA.mk a6C
    clear a6C
    have H':=aA.mk H
    clear H
    obtain⟨OW,OX⟩:=bZ lD (.slice aQ aG.length aK) (.slice aT aC.length aJ)
    go_wp2_with (first|((with_reducible refine gJ (f:=76) rfl ?_);refine cE 33 Tryd.func76 #[.int .i64 CP,.int .i64 (aG.length:Int)] ?_;(with_reducible refine(oW.calls k1 CP (aG.length:Int) t196 _ A17.out).mono ?_);rintro e xU ⟨afQ,rfl,ho0,hb⟩;refine⟨_,rfl,?_⟩;have brZ:=aA.mk (Kd.eF (Kd.fG ho0 (Kd.dY (R_ dX))) (dH (Bq HB)));replace mQ:=RB mQ hb;replace dM:=RB dM hb;replace dX:=aA.mk (Kd.gW (R_ dX) (Kd.fF ho0) hb);replace lD:=bb lD hb;replace HB:=bs HB hb;(try clear hb);(try clear ho0)))
    go_loopg [12,13,14] k1 (fun kq v12 v13 v14 w'=>∃ (jR:Int) (apA:Int) (rQ:Int),v12=.int .i64 jR/\v13=.int .i64 apA/\v14=.int .i64 rQ/\aA (nR.l1 kq a1 a2 t187 t190 yF CP t196 jR apA rQ aG aC=some r)/\aA (kq<=k1)/\aA (Kd.R iD 42 w' w.heap.size (fun k_=>some k_≠(aa6:Value).ownBlock) adR t187)/\aA (Kd.R iD 42 w' w.heap.size (fun k_=>some k_≠(adR:Value).ownBlock) aa6 t190)/\aA (Kd.R (Kd.int .i64) 3 w' w.heap.size (fun k_=>some k_≠(afQ:Value).ownBlock) u9 yF)/\aA (Kd.R (Kd.int .i64) 3 w' w.heap.size (fun k_=>some k_≠(u9:Value).ownBlock) afQ t196)/\aA (w'.heap[ae0]? =some (.cells #[(.slice aQ aG.length aK),(.slice aT aC.length aJ)] 25 (0,0)))/\aA (Below w.heap.size w w'))
    case atStart=>exact⟨(0),(0),(0),(by first|rfl|(simp;done)|(simp[*];done)),(by first|rfl|(simp;done)|(simp[*];done)),(by first|rfl|(simp;done)|(simp[*];done)),H',⟨Nat.le_refl _⟩,⟨R_ mQ⟩,⟨R_ dM⟩,⟨Kd.bQ (R_ dX) (fun _ hk=>hk.2)⟩,⟨Kd.bQ (R_ brZ) (fun _ hk=>hk.2)⟩,⟨b_ lD⟩,⟨Bq HB⟩⟩
    case round=>
     clear H'
     try clear c14
     try clear aFM
     try clear brX
     try clear c16
     try clear aNJ
     try clear OW
     try clear OX
     try clear afD
     try clear afE
     obtain⟨jR,apA,rQ,rfl,rfl,rfl,HA,mY,mQ,dM,dX,fH,lD,HB⟩:=hrel
     rcases gk with _|k2
     ·exact absurd HA.out (by simp[nR.l1])
     have H:=HA.out
     clear HA
     simp only[nR.l1]at H
     by_cases c20:rQ<(t196.length:Int)
     ·rw[if_pos c20]at H
      have arX:decide (rQ<(t196.length:Int))=true:=decide_eq_true c20
      clear c20
      by_cases c21:0<=rQ
      ·rw[if_pos c21]at H
       have aKG:decide (0<=rQ)=true:=decide_eq_true c21
       clear c21
       by_cases OY:0<=(rd t196 rQ)
       ·rw[if_pos OY]at H
        have aUR:decide (0<=(rd t196 rQ))=true:=decide_eq_true OY
        clear OY
        by_cases c23:(rd t196 rQ)<(t187.length:Int)
        ·rw[if_pos c23]at H
         have aqO:decide ((rd t196 rQ)<(t187.length:Int))=true:=decide_eq_true c23
         clear c23
         by_cases c24:(rd t196 rQ)<(t190.length:Int)
         ·rw[if_pos c24]at H
          have auO:decide ((rd t196 rQ)<(t190.length:Int))=true:=decide_eq_true c24
          clear c24
          have H':=aA.mk H
          clear H
          obtain⟨Ao25,br0,rfl⟩:=Kd.dA fH.out
          try go_wp2
          have aV:=aA.mk (Kd.dG mQ.out)
          have aW:=aA.mk (Kd.dG dM.out)
          have aY:=aA.mk (Kd.dG dX.out)
          have bI:=aA.mk (Kd.dG fH.out)
          have cO:=aA.mk (gI lD.out)
          have gY:=aA.mk (sW HB.out)
          clear mQ dM dX fH lD HB
          have mQ:=aV
          have dM:=aW
          have dX:=aY
          have fH:=bI
          have lD:=cO
          have HB:=gY
          clear aV aW aY bI cO gY
          have aRG:0<=(rQ:Int):=od
          have aRH:rQ<(t196.length:Int):=od
          obtain⟨aRI,e199,a6D⟩:=Kd.BL (Kd.dB fH.out).2.2 rQ aRG aRH
          cases e199
          replace aRG:=eq_true aRG
          replace aRH:=eq_true aRH
          obtain⟨br1,br2,aB0⟩:=Kd.dA mQ.out
          (first|subst aB0|(injection aB0 with kG pF kH;have pG:=kG.symm;have pI:=kH.symm;clear kG pF kH;subst pG;subst pI))
          have aRJ:0<=((rd t196 rQ):Int):=od
          have aRK:(rd t196 rQ)<(t187.length:Int):=od
          obtain⟨aRL,br3,a6E,a6F⟩:=rE (Kd.dB mQ.out).2.2 (rd t196 rQ) aRJ aRK
          cases br3
          replace aRJ:=eq_true aRJ
          replace aRK:=eq_true aRK
          have aRM:0<=(rQ:Int):=od
          have aRN:rQ<(t196.length:Int):=od
          obtain⟨br4,br5,a6G⟩:=Kd.BL (Kd.dB fH.out).2.2 rQ aRM aRN
          obtain rfl:aRI=br4:=(by injection br5)
          replace aRM:=eq_true aRM
          replace aRN:=eq_true aRN
          obtain⟨ED,EE,aBJ⟩:=Kd.dA dM.out
          (first|subst aBJ|(injection aBJ with kG pF kH;have pG:=kG.symm;have pI:=kH.symm;clear kG pF kH;subst pG;subst pI))
          have aRO:0<=((rd t196 rQ):Int):=od
          have aRP:(rd t196 rQ)<(t190.length:Int):=od
          obtain⟨aRQ,br6,a6H,a6I⟩:=rE (Kd.dB dM.out).2.2 (rd t196 rQ) aRO aRP
          cases br6
          replace aRO:=eq_true aRO
          replace aRP:=eq_true aRP
          refine xP (n:=22) (S:=fun w'=>w'.cell? (aRI.add (rQ).toNat)=some (.int .i64 (rd t196 rQ))/\w'.cell? (aRL.add (((rd t196 rQ)).toNat*2))=some (.int .i64 ((bM t187 (rd t196 rQ)).f0))/\w'.cell? ⟨(aRL.add (((rd t196 rQ)).toNat*2)).block,(aRL.add (((rd t196 rQ)).toNat*2)).off+1,none⟩=some (.int .i64 ((bM t187 (rd t196 rQ)).f1))/\w'.cell? (aRI.add (rQ).toNat)=some (.int .i64 (rd t196 rQ))/\w'.cell? (aRQ.add (((rd t196 rQ)).toNat*2))=some (.int .i64 ((bM t190 (rd t196 rQ)).f0))/\w'.cell? ⟨(aRQ.add (((rd t196 rQ)).toNat*2)).block,(aRQ.add (((rd t196 rQ)).toNat*2)).off+1,none⟩=some (.int .i64 ((bM t190 (rd t196 rQ)).f1))) (ds:=[]) (bl 22 0) (by kernel_rfl) rfl rfl ⟨a6D,a6E,a6F,a6G,a6H,a6I⟩ (fun hHeld=>?_);refine yS nR.brN nR.brO (fun aN jG=>?_)
          generalize wr.drew=xN at mQ dM dX fH lD HB a6D a6E a6F a6G a6H a6I hHeld ⊢
          refine pS 0 40 22 1 aN ?_
          refine pS 1 41 22 3 aN ?_
          refine pS 2 42 22 7 aN ?_
          refine pS 3 43 22 15 aN ?_
          refine pS 4 44 22 31 aN ?_
          refine pS 10 50 22 1055 aN ?_
          refine pS 11 51 22 3103 aN ?_
          refine pS 12 52 22 7199 aN ?_
          refine pS 13 53 22 15391 aN ?_
          refine pS 14 54 22 31775 aN ?_
          refine tq 5 (some 45) (bl 22 31807) aN jG hHeld (h:=?_)
          refine pS 6 46 22 31871 aN ?_
          refine pS 7 47 22 31999 aN ?_
          refine tq 8 (some 48) (bl 22 32255) aN jG hHeld (h:=?_)
          refine pS 9 49 22 32767 aN ?_
          refine pS 20 12 22 1081343 aN ?_
          refine tq 15 (some 55) (bl 22 1114111) aN jG hHeld (h:=?_)
          refine pS 16 56 22 1179647 aN ?_
          refine pS 17 57 22 1310719 aN ?_
          refine tq 18 (some 58) (bl 22 1572863) aN jG hHeld (h:=?_)
          refine pS 19 59 22 2097151 aN ?_
          refine pS 21 13 22 4194303 aN ?_
          refine xQ (yR aN.out (by kernel_rfl)) ?_
          try go_wp2
          go_roundg k2
          case measure=>have:=fV.out;have:=mY.out;omega
          case rel=>exact⟨(wrap64 (jR+((bM t187 (rd t196 rQ)).f1))),(wrap64 (apA+((bM t190 (rd t196 rQ)).f1))),(wrap64 (rQ+1)),(by first|rfl|(simp;done)|(simp[*];done)),(by first|rfl|(simp;done)|(simp[*];done)),(by first|rfl|(simp;done)|(simp[*];done)),H',⟨by have:=fV.out;have:=mY.out;omega⟩,⟨R_ mQ⟩,⟨R_ dM⟩,⟨R_ dX⟩,⟨R_ fH⟩,⟨b_ lD⟩,⟨Bq HB⟩⟩
         rw[if_neg c24]at H
         exact absurd H (by simp)
        rw[if_neg c23]at H
        exact absurd H (by simp)
       rw[if_neg OY]at H
       exact absurd H (by simp)
      rw[if_neg c21]at H
      exact absurd H (by simp)
     rw[if_neg c20]at H
     have arX:decide (rQ<(t196.length:Int))=false:=decide_eq_false c20
     clear c20
     by_cases c29:jR<=a1
     ·rw[if_pos c29]at H
      have aNM:decide (jR<=a1)=true:=decide_eq_true c29
      clear c29
      by_cases c30:apA<=a2
      ·rw[if_pos c30]at H
       have br7:decide (apA<=a2)=true:=decide_eq_true c30
       clear c30
       by_cases c31:(t196.length:Int)>(yF.length:Int)
       ·rw[if_pos c31]at H
        have br8:decide ((yF.length:Int)<(t196.length:Int))=true:=decide_eq_true c31
        have br9:decide (yF.length<t196.length)=true:=decide_eq_true (Int.ofNat_lt.mp c31)
        clear c31
        have H':=aA.mk H
        clear H
        obtain⟨Ao32,co32,rfl⟩:=Kd.dA fH.out
        obtain⟨UB,GU,rfl⟩:=Kd.dA dX.out
        go_wp2
        go_roundg k2
        case measure=>have:=fV.out;have:=mY.out;omega
        case rel=>exact⟨(t196),(wrap64 (CP+1)),(by first|rfl|(simp;done)|(simp[*];done)),H',⟨by have:=fV.out;have:=mY.out;omega⟩,⟨R_ mQ⟩,⟨R_ dM⟩,⟨Kd.bQ (R_ fH) (fun _ hk=>trivial)⟩,⟨b_ lD⟩,⟨Bq HB⟩⟩
       rw[if_neg c31]at H
       have br8:decide ((yF.length:Int)<(t196.length:Int))=false:=decide_eq_false c31
       have br9:decide (yF.length<t196.length)=false:=decide_eq_false (fun h=>c31 (Int.ofNat_lt.mpr h))
       clear c31
       by_cases c34:(t196.length:Int)=(yF.length:Int)
       ·rw[if_pos c34]at H
        have bsA:((t196.length:Int)==(yF.length:Int))=true:=beq_iff_eq.mpr c34
        have bsB:((t196.length:Int)!=(yF.length:Int))=false:=bne_eq_false_iff_eq.mpr c34
        have bsC:(t196.length==yF.length)=true:=by first|simpa using c34|(simp at c34 ⊢;omega)
        clear c34
        replace H:=Option.bind_eq_some_iff.mp H
        obtain⟨t203,aB1,H⟩:=H
        replace H:(if t203<0 then(nR.l0 k2 a1 a2 t187 t190 t196 (wrap64 (CP+1)) aG aC)else(nR.l0 k2 a1 a2 t187 t190 yF (wrap64 (CP+1)) aG aC))=some r:=H
        have A35:=aA.mk aB1
        clear aB1
        by_cases c36:t203<0
        ·rw[if_pos c36]at H
         have bsD:decide (t203<0)=true:=decide_eq_true c36
         clear c36
         have H':=aA.mk H
         clear H
         obtain⟨a5A,a5B,rfl⟩:=Kd.dA fH.out
         obtain⟨a5D,a5E,rfl⟩:=Kd.dA dX.out
         go_wp2_with (first|(go_at_call 72;refine(oJ.calls k2 _ _ t196 _ _ yF t203 _ (rC fH) ((Kd.dB fH.out).2.1) (rC dX) ((Kd.dB dX.out).2.1) A35.out).mono ?_;rintro e w' ⟨rfl,⟨nd,rfl⟩⟩))
         go_roundg k2
         case measure=>have:=fV.out;have:=mY.out;omega
         case rel=>exact⟨(t196),(wrap64 (CP+1)),(by first|rfl|(simp;done)|(simp[*];done)),H',⟨by have:=fV.out;have:=mY.out;omega⟩,⟨R_ mQ⟩,⟨R_ dM⟩,⟨Kd.bQ (R_ fH) (fun _ hk=>trivial)⟩,⟨b_ lD⟩,⟨Bq HB⟩⟩
        rw[if_neg c36]at H
        have bsD:decide (t203<0)=false:=decide_eq_false c36
        clear c36
        have H':=aA.mk H
        clear H
        obtain⟨MS,MV,rfl⟩:=Kd.dA fH.out
        obtain⟨aKJ,aKK,rfl⟩:=Kd.dA dX.out
        go_wp2_with (first|(go_at_call 72;refine(oJ.calls k2 _ _ t196 _ _ yF t203 _ (rC fH) ((Kd.dB fH.out).2.1) (rC dX) ((Kd.dB dX.out).2.1) A35.out).mono ?_;rintro e w' ⟨rfl,⟨nd,rfl⟩⟩))
        go_roundg k2
        case measure=>have:=fV.out;have:=mY.out;omega
        case rel=>exact⟨(yF),(wrap64 (CP+1)),(by first|rfl|(simp;done)|(simp[*];done)),H',⟨by have:=fV.out;have:=mY.out;omega⟩,⟨R_ mQ⟩,⟨R_ dM⟩,⟨Kd.bQ (R_ dX) (fun _ hk=>trivial)⟩,⟨b_ lD⟩,⟨Bq HB⟩⟩
       rw[if_neg c34]at H
       have bsA:((t196.length:Int)==(yF.length:Int))=false:=beq_eq_false_iff_ne.mpr c34
       have bsB:((t196.length:Int)!=(yF.length:Int))=true:=bne_iff_ne.mpr c34
       have bsC:(t196.length==yF.length)=false:=by first|simpa using c34|(simp at c34 ⊢;omega)
       have H':=aA.mk H
       clear H
       obtain⟨Ao41,co41,rfl⟩:=Kd.dA fH.out
       obtain⟨arA,arB,rfl⟩:=Kd.dA dX.out
       go_wp2
       go_roundg k2
       case measure=>have:=fV.out;have:=mY.out;omega
       case rel=>exact⟨(yF),(wrap64 (CP+1)),(by first|rfl|(simp;done)|(simp[*];done)),H',⟨by have:=fV.out;have:=mY.out;omega⟩,⟨R_ mQ⟩,⟨R_ dM⟩,⟨Kd.bQ (R_ dX) (fun _ hk=>trivial)⟩,⟨b_ lD⟩,⟨Bq HB⟩⟩
      rw[if_neg c30]at H
      have br7:decide (apA<=a2)=false:=decide_eq_false c30
      clear c30
      have H':=aA.mk H
      clear H
      obtain⟨bqZ,bq0,rfl⟩:=Kd.dA fH.out
      go_wp2
      go_roundg k2
      case measure=>have:=fV.out;have:=mY.out;omega
      case rel=>exact⟨(yF),(wrap64 (CP+1)),(by first|rfl|(simp;done)|(simp[*];done)),H',⟨by have:=fV.out;have:=mY.out;omega⟩,⟨R_ mQ⟩,⟨R_ dM⟩,⟨Kd.bQ (R_ dX) (fun _ hk=>trivial)⟩,⟨b_ lD⟩,⟨Bq HB⟩⟩
     rw[if_neg c29]at H
     have aNM:decide (jR<=a1)=false:=decide_eq_false c29
     clear c29
     have H':=aA.mk H
     clear H
     obtain⟨Ao44,co44,rfl⟩:=Kd.dA fH.out
     go_wp2
     go_roundg k2
     case measure=>have:=fV.out;have:=mY.out;omega
     case rel=>exact⟨(yF),(wrap64 (CP+1)),(by first|rfl|(simp;done)|(simp[*];done)),H',⟨by have:=fV.out;have:=mY.out;omega⟩,⟨R_ mQ⟩,⟨R_ dM⟩,⟨Kd.bQ (R_ dX) (fun _ hk=>trivial)⟩,⟨b_ lD⟩,⟨Bq HB⟩⟩
   rw[if_neg c16]at H
   have aNJ:decide (CP<(ae2))=false:=decide_eq_false c16
   clear c16
   obtain rfl:=Option.some.inj H
   obtain⟨aXP,aXQ⟩:=bZ lD (.slice aQ aG.length aK) (.slice aT aC.length aJ)
   go_wp2
   go_ret
   exact⟨_,by first|rfl|(simp[iU,iV]<;>rfl)|(simp only[<-aRF,<-aBZ];first|rfl|(simp[iU,iV]<;>rfl))|(simp[*,iU,iV]<;>rfl),R_ dX,Bq HB⟩
  rw[if_neg c14]at H
  exact absurd H (by simp)
attribute [local go_sem] uA uB uC uD uM uN uO uP
theorem dF.calls (k:Nat) (aQ:Option Addr) (aK:Nat) (aG:List (aZ)) (aT:Option Addr) (aJ:Nat) (aC:List (aI)) (a1:Int) (a2:Int) (r:Bool) (w:World) (hT:Hand.lZ w) (jI:Kd.C iJ w aQ aG.length aG) (jU:aG.length<=aK) (jE:Kd.C iE w aT aC.length aC) (jS:aC.length<=aJ) (h:dF.f k aG aC a1 a2=some r):
    Calls Tryd.prog 5 #[.agg #[.slice aQ aG.length aK,.slice aT aC.length aJ],.int .i64 a1,.int .i64 a2] w fun e w'=>e=.returned (.bool r)/\Below w.heap.size w w':=by
 have zH:=Tryd.underlying25
 have WE:=aA.mk hT
 clear hT
 have eU:=aA.mk jI
 have fK:=aA.mk jU
 clear jI jU
 have fB:=aA.mk jE
 have fM:=aA.mk jS
 clear jE jS
 have HB:=aA.mk (Below.refl w.heap.size w)
 have H:((OQ.f aG aC).bind fun t205=>(if t205=true then((oN.f).bind fun _=>(some true))else((nV.f aG aC).bind fun PV=>((aaV.f PV.1 PV.2 a1 a2).bind fun CJ=>((kJ.f k PV.1 PV.2 aG aC).bind fun t218=>(if t218=true then((jH.f k aG aC).bind fun t219=>(if t219=0 then((pY.f aG aC).bind fun t220=>((eG.f k aG aC t220).bind fun t221=>(dF.j0 k a1 a2 CJ.1 CJ.2 t219 (!t221) aG aC)))else(dF.j0 k a1 a2 CJ.1 CJ.2 t219 false aG aC)))else(some false)))))))=some r:=h
 clear h
 replace H:=Option.bind_eq_some_iff.mp H
 obtain⟨t205,vG,H⟩:=H
 replace H:(if t205=true then((oN.f).bind fun _=>(some true))else((nV.f aG aC).bind fun PV=>((aaV.f PV.1 PV.2 a1 a2).bind fun CJ=>((kJ.f k PV.1 PV.2 aG aC).bind fun t218=>(if t218=true then((jH.f k aG aC).bind fun t219=>(if t219=0 then((pY.f aG aC).bind fun t220=>((eG.f k aG aC t220).bind fun t221=>(dF.j0 k a1 a2 CJ.1 CJ.2 t219 (!t221) aG aC)))else(dF.j0 k a1 a2 CJ.1 CJ.2 t219 false aG aC)))else(some false))))))=some r:=H
 have A4:=aA.mk vG
 clear vG
 by_cases c5:t205=true
 ·subst c5
  replace H:((oN.f).bind fun _=>(some true))=some r:=by rw[if_pos rfl]at H;exact H
  replace H:=Option.bind_eq_some_iff.mp H
  obtain⟨_,A60,H⟩:=H
  replace H:(some true)=some r:=H
  have A6:=aA.mk A60
  clear A60
  obtain rfl:=Option.some.inj H
  go_enter Tryd.func5,Tryd.ntmps5
  go_wp2_with (first|((with_reducible refine dU (N:=3) rfl ?_);(try(refine xJ (by rfl) ?_;dsimp only));refine eX 3 #[.slice aQ aG.length aK,.slice aT aC.length aJ] 25 ?_;intro al5 hg w7 hbox hb;have jP:=aA.mk (hbox);have a6J:=gw hg HB;have a6K:=gw hg HB;replace HB:=bs HB hb;clear hb hbox hg;obtain⟨ahD,ahE⟩:=bZ jP (.slice aQ aG.length aK) (.slice aT aC.length aJ))|((with_reducible refine gJ (f:=14) rfl ?_);refine cE 12 Tryd.func14 #[.agg #[.slice aQ aG.length aK,.slice aT aC.length aJ]] ?_;refine(OQ.calls _ _ aG _ _ aC true _ (Kd.bJ eU.out (Bq HB)) fK.out (Kd.bJ fB.out (Bq HB)) fM.out A4.out).mono ?_;rintro e w9 ⟨rfl,hb⟩;refine⟨_,rfl,?_⟩;replace jP:=bb jP hb;replace HB:=bs HB hb;(try clear hb))|((with_reducible refine gJ (f:=15) rfl ?_);refine cE 13 Tryd.func15 #[] ?_;refine(oN.calls   _ (Hand.lZ.below WE.out (Bq HB)) A6.out).mono ?_;rintro e w10 ⟨rfl,hb⟩;refine⟨_,rfl,?_⟩;replace jP:=bb jP hb;replace HB:=bs HB hb;(try clear hb)))
  go_ret
  exact eR HB
 replace c5:=Bool.eq_false_iff.mpr c5
 subst c5
 replace H:((nV.f aG aC).bind fun PV=>((aaV.f PV.1 PV.2 a1 a2).bind fun CJ=>((kJ.f k PV.1 PV.2 aG aC).bind fun t218=>(if t218=true then((jH.f k aG aC).bind fun t219=>(if t219=0 then((pY.f aG aC).bind fun t220=>((eG.f k aG aC t220).bind fun t221=>(dF.j0 k a1 a2 CJ.1 CJ.2 t219 (!t221) aG aC)))else(dF.j0 k a1 a2 CJ.1 CJ.2 t219 false aG aC)))else(some false)))))=some r:=by rw[if_neg (show ¬ (false=true) by decide)]at H;exact H
 replace H:=Option.bind_eq_some_iff.mp H
 obtain⟨⟨t207,t210⟩,wJ,H⟩:=H
 replace H:((aaV.f t207 t210 a1 a2).bind fun CJ=>((kJ.f k t207 t210 aG aC).bind fun t218=>(if t218=true then((jH.f k aG aC).bind fun t219=>(if t219=0 then((pY.f aG aC).bind fun t220=>((eG.f k aG aC t220).bind fun t221=>(dF.j0 k a1 a2 CJ.1 CJ.2 t219 (!t221) aG aC)))else(dF.j0 k a1 a2 CJ.1 CJ.2 t219 false aG aC)))else(some false))))=some r:=H
 have BU:=aA.mk wJ
 clear wJ
 replace H:=Option.bind_eq_some_iff.mp H
 obtain⟨⟨t214,t217⟩,adJ,H⟩:=H
 replace H:((kJ.f k t207 t210 aG aC).bind fun t218=>(if t218=true then((jH.f k aG aC).bind fun t219=>(if t219=0 then((pY.f aG aC).bind fun t220=>((eG.f k aG aC t220).bind fun t221=>(dF.j0 k a1 a2 t214 t217 t219 (!t221) aG aC)))else(dF.j0 k a1 a2 t214 t217 t219 false aG aC)))else(some false)))=some r:=H
 have A12:=aA.mk adJ
 clear adJ
 replace H:=Option.bind_eq_some_iff.mp H
 obtain⟨t218,XK,H⟩:=H
 replace H:(if t218=true then((jH.f k aG aC).bind fun t219=>(if t219=0 then((pY.f aG aC).bind fun t220=>((eG.f k aG aC t220).bind fun t221=>(dF.j0 k a1 a2 t214 t217 t219 (!t221) aG aC)))else(dF.j0 k a1 a2 t214 t217 t219 false aG aC)))else(some false))=some r:=H
 have A13:=aA.mk XK
 clear XK
 by_cases c14:t218=true
 ·subst c14
  replace H:((jH.f k aG aC).bind fun t219=>(if t219=0 then((pY.f aG aC).bind fun t220=>((eG.f k aG aC t220).bind fun t221=>(dF.j0 k a1 a2 t214 t217 t219 (!t221) aG aC)))else(dF.j0 k a1 a2 t214 t217 t219 false aG aC)))=some r:=by rw[if_pos rfl]at H;exact H
  replace H:=Option.bind_eq_some_iff.mp H
  obtain⟨t219,ahH,H⟩:=H
  replace H:(if t219=0 then((pY.f aG aC).bind fun t220=>((eG.f k aG aC t220).bind fun t221=>(dF.j0 k a1 a2 t214 t217 t219 (!t221) aG aC)))else(dF.j0 k a1 a2 t214 t217 t219 false aG aC))=some r:=H
  have A15:=aA.mk ahH
  clear ahH
  have aRR:=aA.mk H
  clear H
  go_enter Tryd.func5,Tryd.ntmps5
  go_upto_region 8 with(first|((with_reducible refine dU (N:=3) rfl ?_);(try(refine xJ (by rfl) ?_;dsimp only));refine eX 3 #[.slice aQ aG.length aK,.slice aT aC.length aJ] 25 ?_;intro al5 hg uS hbox hb;have jP:=aA.mk (hbox);have a6J:=gw hg HB;have a6K:=gw hg HB;replace HB:=bs HB hb;clear hb hbox hg;obtain⟨OW,OX⟩:=bZ jP (.slice aQ aG.length aK) (.slice aT aC.length aJ))|((with_reducible refine gJ (f:=14) rfl ?_);refine cE 12 Tryd.func14 #[.agg #[.slice aQ aG.length aK,.slice aT aC.length aJ]] ?_;refine(OQ.calls _ _ aG _ _ aC false _ (Kd.bJ eU.out (Bq HB)) fK.out (Kd.bJ fB.out (Bq HB)) fM.out A4.out).mono ?_;rintro e xU ⟨rfl,hb⟩;refine⟨_,rfl,?_⟩;replace jP:=bb jP hb;replace HB:=bs HB hb;(try clear hb);obtain⟨aqD,aqE⟩:=bZ jP (.slice aQ aG.length aK) (.slice aT aC.length aJ))|((with_reducible refine gJ (f:=16) rfl ?_);refine cE 15 Tryd.func16 #[.agg #[.slice aQ aG.length aK,.slice aT aC.length aJ]] ?_;refine(nV.calls _ _ aG _ _ aC t207 t210 _ (Kd.bJ eU.out (Bq HB)) fK.out (Kd.bJ fB.out (Bq HB)) fM.out BU.out).mono ?_;rintro e BR ⟨v208,aYO,rfl,ho0,ho1,hb⟩;refine⟨_,rfl,?_⟩;have sS:=aA.mk (Kd.eF ho0 (dH (Bq HB)));have rM:=aA.mk (Kd.eF ho1 (dH (Bq HB)));replace jP:=bb jP hb;replace HB:=bs HB hb;(try clear hb);(try clear ho0);(try clear ho1))|((with_reducible refine dU (N:=7) rfl ?_);(try(refine xJ (by rfl) ?_;dsimp only));refine eX 7 #[.slice none 0 0,.slice none 0 0] 25 ?_;intro LY hg AU hbox hb;have lV:=aA.mk (hbox);have bsE:=gw hg HB;have bsF:=gw hg HB;have ag1:=nl hg jP;have aB2:=ng hg jP;replace sS:=RB sS hb;replace rM:=RB rM hb;replace jP:=bb jP hb;replace HB:=bs HB hb;clear hb hbox hg;obtain⟨qG,qA,rfl⟩:=Kd.dA sS.out;have aLU:=aB2.out;have aLV:=ag1.out;obtain⟨ahI,ahJ⟩:=bZ lV (.slice none 0 0) (.slice none 0 0);have auB:=aX lV.out 0;have auC:=aX lV.out 1;obtain⟨WM,VA,rfl⟩:=Kd.dA rM.out)|((with_reducible refine gJ (f:=31) rfl ?_);refine cE 20 Tryd.func31 #[.agg #[.slice qG t207.length qA,.slice WM t210.length VA],.int .i64 a1,.int .i64 a2] ?_;refine(aaV.calls _ _ t207 _ _ t210 a1 a2 t214 t217 _ (Hand.lZ.below WE.out (Bq HB)) (by refine(Kd.dB (e:=89) (base:=w.heap.size) (ok:=fun k_=>True) (n:=t207.length) (c:=qA) ?_).2.2;exact(by(with_reducible repeat(first|apply Kd.fQ|apply Kd.fU|apply Kd.dG));exact(Kd.bQ (Kd.bK (p:=⟨LY,1,none⟩) (Kd.bK (p:=⟨LY,0,none⟩) (Kd.gB sS.out lV.out (by decide)) (fun _ hk=>hk.2) (.slice qG t207.length qA)) (fun _ hk=>hk.2) (.slice WM t210.length VA)) (fun _ h_=>h_.1)))) ((Kd.dB sS.out).2.1) (by refine(Kd.dB (e:=91) (base:=w.heap.size) (ok:=fun k_=>True) (n:=t210.length) (c:=VA) ?_).2.2;exact(by(with_reducible repeat(first|apply Kd.fQ|apply Kd.fU|apply Kd.dG));exact(Kd.bQ (Kd.bK (p:=⟨LY,1,none⟩) (Kd.bK (p:=⟨LY,0,none⟩) (Kd.gB rM.out lV.out (by decide)) (fun _ hk=>hk.2) (.slice qG t207.length qA)) (fun _ hk=>hk.2) (.slice WM t210.length VA)) (fun _ h_=>h_.1)))) ((Kd.dB rM.out).2.1) A12.out).mono ?_;rintro e wF ⟨aB3,rfl,ho0,hb⟩;refine⟨_,rfl,?_⟩;have EU:=aA.mk (Kd.eF ho0 (dH (Bq HB)));replace sS:=aA.mk (Kd.rY (by(with_reducible repeat(first|apply Kd.fQ|apply Kd.fU|apply Kd.dG));exact(Kd.bQ (Kd.bK (p:=⟨LY,1,none⟩) (Kd.bK (p:=⟨LY,0,none⟩) (Kd.gB sS.out lV.out (by decide)) (fun _ hk=>hk.2) (.slice qG t207.length qA)) (fun _ hk=>hk.2) (.slice WM t210.length VA)) (fun _ h_=>h_.1))) hb);replace rM:=aA.mk (Kd.rY (by(with_reducible repeat(first|apply Kd.fQ|apply Kd.fU|apply Kd.dG));exact(Kd.bQ (Kd.bK (p:=⟨LY,1,none⟩) (Kd.bK (p:=⟨LY,0,none⟩) (Kd.gB rM.out lV.out (by decide)) (fun _ hk=>hk.2) (.slice qG t207.length qA)) (fun _ hk=>hk.2) (.slice WM t210.length VA)) (fun _ h_=>h_.1))) hb);replace jP:=aA.mk (fC (by exact bG (bG (b_ jP) ag1.out _) ag1.out _) hb);replace lV:=aA.mk (fC (by exact dE (cs:=#[.slice qG t207.length qA,.slice none 0 0]) (dE (cs:=#[.slice none 0 0,.slice none 0 0]) (b_ lV) 0 _ rfl) 1 _ rfl) hb);replace HB:=bs HB hb;(try clear hb);(try clear ho0);obtain⟨aRS,aRT⟩:=bZ lV (.slice qG t207.length qA) (.slice WM t210.length VA);have aRU:=aX lV.out 0;have aRV:=aX lV.out 1;obtain⟨aqG,aqH⟩:=bZ jP (.slice aQ aG.length aK) (.slice aT aC.length aJ))|((with_reducible refine gJ (f:=21) rfl ?_);refine cE 25 Tryd.func21 #[.agg #[.slice qG t207.length qA,.slice WM t210.length VA],.agg #[.slice aQ aG.length aK,.slice aT aC.length aJ]] ?_;refine(kJ.calls k _ _ t207 _ _ t210 _ _ aG _ _ aC true _ (rC sS) ((Kd.dB sS.out).2.1) (rC rM) ((Kd.dB rM.out).2.1) (Kd.bJ eU.out (Bq HB)) fK.out (Kd.bJ fB.out (Bq HB)) fM.out A13.out).mono ?_;rintro e uF ⟨rfl,hb⟩;refine⟨_,rfl,?_⟩;replace sS:=RB sS hb;replace rM:=RB rM hb;replace EU:=RB EU hb;replace jP:=bb jP hb;replace lV:=bb lV hb;replace HB:=bs HB hb;(try clear hb);obtain⟨aNN,aNO⟩:=bZ jP (.slice aQ aG.length aK) (.slice aT aC.length aJ))|((with_reducible refine gJ (f:=22) rfl ?_);refine cE 28 Tryd.func22 #[.agg #[.slice aQ aG.length aK,.slice aT aC.length aJ]] ?_;refine(jH.calls k _ _ aG _ _ aC t219 _ (Kd.bJ eU.out (Bq HB)) fK.out (Kd.bJ fB.out (Bq HB)) fM.out A15.out).mono ?_;rintro e w32 ⟨rfl,hb⟩;refine⟨_,rfl,?_⟩;replace sS:=RB sS hb;replace rM:=RB rM hb;replace EU:=RB EU hb;replace jP:=bb jP hb;replace lV:=bb lV hb;replace HB:=bs HB hb;(try clear hb)))
  (try simp only[Act.put,List.setIfInBounds_toArray,List.set_cons_zero,List.set_cons_succ])
  go_cut [37] (fun v37 wc=>∃ (kq:Nat) (aHM:Bool),v37=.bool aHM/\aA (dF.j0 kq a1 a2 t214 t217 t219 aHM aG aC=some r)/\aA (kq<=k)/\aA (Kd.R (Kd.int .i64) 3 wc w.heap.size (fun _=>True) aB3 t214)/\aA (Kd.R iJ 89 wc w.heap.size (fun _=>True) (.slice qG t207.length qA) t207)/\aA (Kd.R iE 91 wc w.heap.size (fun _=>True) (.slice WM t210.length VA) t210)/\aA (wc.heap[al5]? =some (.cells #[(.slice aQ aG.length aK),(.slice aT aC.length aJ)] 25 (0,0)))/\aA (wc.heap[LY]? =some (.cells #[(.slice qG t207.length qA),(.slice WM t210.length VA)] 25 (0,0)))/\aA (Below w.heap.size w wc))
  case first=>
   have H:=aRR.out
   clear aRR
   by_cases OH:t219=0
   ·rw[if_pos OH]at H
    have adK:(t219==0)=true:=beq_iff_eq.mpr OH
    have aQX:(t219 !=0)=false:=bne_eq_false_iff_eq.mpr OH
    clear OH
    (first|rw[adK]|(simp only[wQ,yQ];rw[adK])|skip)
    replace H:=Option.bind_eq_some_iff.mp H
    obtain⟨t220,alY,H⟩:=H
    replace H:((eG.f k aG aC t220).bind fun t221=>(dF.j0 k a1 a2 t214 t217 t219 (!t221) aG aC))=some r:=H
    have A34:=aA.mk alY
    clear alY
    replace H:=Option.bind_eq_some_iff.mp H
    obtain⟨t221,aB1,H⟩:=H
    replace H:(dF.j0 k a1 a2 t214 t217 t219 (!t221) aG aC)=some r:=H
    have A35:=aA.mk aB1
    clear aB1
    have H':=aA.mk H
    clear H
    try go_wp2
    have aV:=aA.mk (Kd.dG sS.out)
    have aW:=aA.mk (Kd.dG rM.out)
    have aY:=aA.mk (Kd.dG EU.out)
    have bI:=aA.mk (gI jP.out)
    have cO:=aA.mk (gI lV.out)
    have gY:=aA.mk (sW HB.out)
    clear sS rM EU jP lV HB
    have sS:=aV
    have rM:=aW
    have EU:=aY
    have jP:=bI
    have lV:=cO
    have HB:=gY
    clear aV aW aY bI cO gY
    refine xP (n:=9) (S:=fun w'=>w'.cell? ⟨al5,0,none⟩=some (.slice aQ aG.length aK)/\w'.cell? ⟨al5,1,none⟩=some (.slice aT aC.length aJ)) (ds:=[]) (bl 9 0) (by kernel_rfl) rfl rfl ⟨kc jP 0,kc jP 1⟩ (fun hHeld=>?_);refine yS dF.a5T dF.a5U (fun aN jG=>?_)
    generalize w32.drew=xK at sS rM EU jP lV HB hHeld ⊢
    refine pS 0 29 9 1 aN ?_
    refine pS 1 30 9 3 aN ?_
    refine pS 2 31 9 7 aN ?_
    refine tq 3 (some 32) (bl 9 15) aN jG hHeld (h:=?_)
    refine tq 4 (some 33) (bl 9 31) aN jG hHeld (h:=?_)
    refine lI (i:=5) (N:=some 34) (bl 9 63) rfl rfl (lJ aN.out (by kernel_rfl)) (by decide) (fun K hK=>?_)
    refine rD Tryd.func24 (by kernel_rfl) rfl #[.agg #[.slice aQ aG.length aK,.slice aT aC.length aJ]] (by rfl) rfl rfl (by(try simp only[List.map_toArray,List.map_cons,List.map_nil]);first|done|rfl|(simp only[List.length_drop,List.length_take];rfl)) ?_
    with_reducible refine(pY.calls _ _ aG _ _ aC t220 _ ?jK ?jL ?jM ?jO A34.out).mono ?_
    (case jK=>exact Kd.bJ eU.out (Bq HB))
    (case jL=>exact fK.out)
    (case jM=>exact Kd.bJ fB.out (Bq HB))
    (case jO=>exact fM.out)
    rintro e BO ⟨rfl,hb⟩
    refine⟨_,rfl,?_⟩
    have aV:=RB sS hb
    have aW:=RB rM hb
    have aY:=RB EU hb
    have bI:=bb jP hb
    have cO:=bb lV hb
    have gY:=bs HB hb
    clear sS rM EU jP lV HB
    have sS:=aV
    have rM:=aW
    have EU:=aY
    have jP:=bI
    have lV:=cO
    have HB:=gY
    clear aV aW aY bI cO gY
    (try clear hb)
    (try clear hb2)
    (try clear hk)
    (try clear hi)
    refine hK.out _ _ ⟨kc jP 0,kc jP 1⟩ (fun hHeld=>?_)
    clear hK K
    refine nq 34 ?_
    refine lI (i:=6) (N:=some 35) (bl 9 127) rfl rfl (lJ aN.out (by kernel_rfl)) (by decide) (fun K hK=>?_)
    refine rD Tryd.func23 (by kernel_rfl) rfl #[.agg #[.slice aQ aG.length aK,.slice aT aC.length aJ],.int .i64 t220] (by rfl) rfl rfl (by(try simp only[List.map_toArray,List.map_cons,List.map_nil]);first|done|rfl|(simp only[List.length_drop,List.length_take];rfl)) ?_
    with_reducible refine(eG.calls k _ _ aG _ _ aC t220 t221 _ ?jK ?jL ?jM ?jO A35.out).mono ?_
    (case jK=>exact Kd.bJ eU.out (Bq HB))
    (case jL=>exact fK.out)
    (case jM=>exact Kd.bJ fB.out (Bq HB))
    (case jO=>exact fM.out)
    rintro e AX ⟨rfl,hb⟩
    refine⟨_,rfl,?_⟩
    have aV:=RB sS hb
    have aW:=RB rM hb
    have aY:=RB EU hb
    have bI:=bb jP hb
    have cO:=bb lV hb
    have gY:=bs HB hb
    clear sS rM EU jP lV HB
    have sS:=aV
    have rM:=aW
    have EU:=aY
    have jP:=bI
    have lV:=cO
    have HB:=gY
    clear aV aW aY bI cO gY
    (try clear hb)
    (try clear hb2)
    (try clear hk)
    (try clear hi)
    refine hK.out _ _ ⟨kc jP 0,kc jP 1⟩ (fun hHeld=>?_)
    clear hK K
    refine nq 35 ?_
    refine pS 7 36 9 255 aN ?_
    refine pS 8 37 9 511 aN ?_
    refine xQ (yR aN.out (by kernel_rfl)) ?_
    try go_wp2
    go_meet
    case rel=>exact⟨_,(!t221),(by first|rfl|(simp;done)|(simp[*];done)),H',⟨by first|omega|exact Nat.le_refl _⟩,⟨R_ EU⟩,⟨R_ sS⟩,⟨R_ rM⟩,⟨b_ jP⟩,⟨b_ lV⟩,⟨Bq HB⟩⟩
   rw[if_neg OH]at H
   have adK:(t219==0)=false:=beq_eq_false_iff_ne.mpr OH
   have aQX:(t219 !=0)=true:=bne_iff_ne.mpr OH
   (first|rw[adK]|(simp only[wQ,yQ];rw[adK])|skip)
   have H':=aA.mk H
   clear H
   try go_wp2
   have aV:=aA.mk (Kd.dG sS.out)
   have aW:=aA.mk (Kd.dG rM.out)
   have aY:=aA.mk (Kd.dG EU.out)
   have bI:=aA.mk (gI jP.out)
   have cO:=aA.mk (gI lV.out)
   have gY:=aA.mk (sW HB.out)
   clear sS rM EU jP lV HB
   have sS:=aV
   have rM:=aW
   have EU:=aY
   have jP:=bI
   have lV:=cO
   have HB:=gY
   clear aV aW aY bI cO gY
   refine xP (n:=9) (S:=fun w'=>True) (ds:=[]) (bl 9 0) (by kernel_rfl) rfl rfl trivial (fun hHeld=>?_);refine yS dF.a5T dF.a5U (fun aN jG=>?_)
   generalize w32.drew=OZ at sS rM EU jP lV HB hHeld ⊢
   refine pS 0 29 9 1 aN ?_
   refine pS 1 30 9 3 aN ?_
   refine pS 2 31 9 7 aN ?_
   refine oS 3 32 9 15 aN ?_
   refine oS 4 33 9 31 aN ?_
   refine oS 5 34 9 63 aN ?_
   refine oS 6 35 9 127 aN ?_
   refine oS 7 36 9 255 aN ?_
   refine pS 8 37 9 511 aN ?_
   refine xQ (yR aN.out (by kernel_rfl)) ?_
   try go_wp2
   go_meet
   case rel=>exact⟨_,(false),(by first|rfl|(simp;done)|(simp[*];done)),H',⟨by first|omega|exact Nat.le_refl _⟩,⟨R_ EU⟩,⟨R_ sS⟩,⟨R_ rM⟩,⟨b_ jP⟩,⟨b_ lV⟩,⟨Bq HB⟩⟩
  case rest=>
   clear aRR
   try clear c5
   try clear c14
   try clear OW
   try clear OX
   try clear aqD
   try clear aqE
   try clear ahI
   try clear ahJ
   try clear aRS
   try clear aRT
   try clear aqG
   try clear aqH
   try clear aNN
   try clear aNO
   try clear afD
   try clear afE
   try clear aT9
   try clear aUA
   try clear auB
   try clear auC
   try clear aRU
   try clear aRV
   try clear aJ1
   try clear aJ2
   try clear hfz31_0
   try clear hfz31_1
   obtain⟨kq,aHM,rfl,HA,apB,dM,QT,QU,jP,lV,HB⟩:=hcut
   rcases kq with _|aRW
   ·exact absurd HA.out (by simp[dF.j0])
   have H:=HA.out
   clear HA
   simp only[dF.j0]at H
   have aRX:=aA.mk H
   clear H
   go_upto_if 37 with(fail)
   go_cut [10] (fun v10 wc=>∃ (kq:Nat) (VB:Int),v10=.int .i64 VB/\aA (dF.j1 kq a1 a2 t214 t217 VB aG aC=some r)/\aA (kq<=aRW)/\aA (Kd.R (Kd.int .i64) 3 wc w.heap.size (fun _=>True) aB3 t214)/\aA (Kd.R iJ 89 wc w.heap.size (fun _=>True) (.slice qG t207.length qA) t207)/\aA (Kd.R iE 91 wc w.heap.size (fun _=>True) (.slice WM t210.length VA) t210)/\aA (wc.heap[al5]? =some (.cells #[(.slice aQ aG.length aK),(.slice aT aC.length aJ)] 25 (0,0)))/\aA (wc.heap[LY]? =some (.cells #[(.slice qG t207.length qA),(.slice WM t210.length VA)] 25 (0,0)))/\aA (Below w.heap.size w wc))
   case first=>
    have H:=aRX.out
    clear aRX
    by_cases c41:aHM=true
    ·subst c41
     replace H:(dF.j1 aRW a1 a2 t214 t217 9 aG aC)=some r:=by rw[if_pos rfl]at H;exact H
     have H':=aA.mk H
     clear H
     go_wp2
     go_meet
     case rel=>exact⟨_,(9),(by first|rfl|(simp;done)|(simp[*];done)),H',⟨by have:=apB.out;first|omega|exact Nat.le_refl _⟩,⟨R_ dM⟩,⟨R_ QT⟩,⟨R_ QU⟩,⟨b_ jP⟩,⟨b_ lV⟩,⟨Bq HB⟩⟩
    replace c41:=Bool.eq_false_iff.mpr c41
    subst c41
    replace H:(dF.j1 aRW a1 a2 t214 t217 t219 aG aC)=some r:=by rw[if_neg (show ¬ (false=true) by decide)]at H;exact H
    have H':=aA.mk H
    clear H
    go_wp2
    go_meet
    case rel=>exact⟨_,(t219),(by first|rfl|(simp;done)|(simp[*];done)),H',⟨by have:=apB.out;first|omega|exact Nat.le_refl _⟩,⟨R_ dM⟩,⟨R_ QT⟩,⟨R_ QU⟩,⟨b_ jP⟩,⟨b_ lV⟩,⟨Bq HB⟩⟩
   case rest=>
    clear aRX
    obtain⟨kq,VB,rfl,HA,aB4,dM,QT,QU,jP,lV,HB⟩:=hcut
    rcases kq with _|as3
    ·exact absurd HA.out (by simp[dF.j1])
    have H:=HA.out
    clear HA
    simp only[dF.j1]at H
    have aRY:=aA.mk H
    clear H
    go_upto_region 10 with(fail)
    go_cut [49] (fun v49 wc=>∃ (kq:Nat) (aHN:Bool),v49=.bool aHN/\aA (dF.j2 kq a1 a2 t214 t217 VB aHN aG aC=some r)/\aA (kq<=as3)/\aA (Kd.R (Kd.int .i64) 3 wc w.heap.size (fun _=>True) aB3 t214)/\aA (Kd.R iJ 89 wc w.heap.size (fun _=>True) (.slice qG t207.length qA) t207)/\aA (Kd.R iE 91 wc w.heap.size (fun _=>True) (.slice WM t210.length VA) t210)/\aA (wc.heap[al5]? =some (.cells #[(.slice aQ aG.length aK),(.slice aT aC.length aJ)] 25 (0,0)))/\aA (wc.heap[LY]? =some (.cells #[(.slice qG t207.length qA),(.slice WM t210.length VA)] 25 (0,0)))/\aA (Below w.heap.size w wc))
    case first=>
     have H:=aRY.out
     clear aRY
     by_cases c43:VB=0
     ·rw[if_pos c43]at H
      have aq6:(VB==0)=true:=beq_iff_eq.mpr c43
      have bsG:(VB !=0)=false:=bne_eq_false_iff_eq.mpr c43
      clear c43
      (first|rw[aq6]|(simp only[wQ,yQ];rw[aq6])|skip)
      replace H:=Option.bind_eq_some_iff.mp H
      obtain⟨t222,a6L,H⟩:=H
      replace H:(if t222=true then((qX.f a2 0 1000).bind fun t223=>(dF.j2 as3 a1 a2 t214 t217 VB (!t223) aG aC))else(dF.j2 as3 a1 a2 t214 t217 VB true aG aC))=some r:=H
      have A44:=aA.mk a6L
      clear a6L
      by_cases DW:t222=true
      ·subst DW
       replace H:((qX.f a2 0 1000).bind fun t223=>(dF.j2 as3 a1 a2 t214 t217 VB (!t223) aG aC))=some r:=by rw[if_pos rfl]at H;exact H
       replace H:=Option.bind_eq_some_iff.mp H
       obtain⟨t223,al0,H⟩:=H
       replace H:(dF.j2 as3 a1 a2 t214 t217 VB (!t223) aG aC)=some r:=H
       have A46:=aA.mk al0
       clear al0
       have H':=aA.mk H
       clear H
       go_wp2_with (first|(go_at_call 32;(with_reducible refine(qX.calls a1 0 1000 true _ A44.out).mono ?_);rintro e w' ⟨rfl,⟨nd,rfl⟩⟩)|(go_at_call 32;(with_reducible refine(qX.calls a2 0 1000 t223 _ A46.out).mono ?_);rintro e w' ⟨rfl,⟨nd,rfl⟩⟩))
       go_meet
       case rel=>exact⟨_,(!t223),(by first|rfl|(simp;done)|(simp[*];done)),H',⟨by have:=apB.out;have:=aB4.out;first|omega|exact Nat.le_refl _⟩,⟨R_ dM⟩,⟨R_ QT⟩,⟨R_ QU⟩,⟨b_ jP⟩,⟨b_ lV⟩,⟨Bq HB⟩⟩
      replace DW:=Bool.eq_false_iff.mpr DW
      subst DW
      replace H:(dF.j2 as3 a1 a2 t214 t217 VB true aG aC)=some r:=by rw[if_neg (show ¬ (false=true) by decide)]at H;exact H
      have H':=aA.mk H
      clear H
      go_wp2_with (first|(go_at_call 32;(with_reducible refine(qX.calls a1 0 1000 false _ A44.out).mono ?_);rintro e w' ⟨rfl,⟨nd,rfl⟩⟩))
      go_meet
      case rel=>exact⟨_,(true),(by first|rfl|(simp;done)|(simp[*];done)),H',⟨by have:=apB.out;have:=aB4.out;first|omega|exact Nat.le_refl _⟩,⟨R_ dM⟩,⟨R_ QT⟩,⟨R_ QU⟩,⟨b_ jP⟩,⟨b_ lV⟩,⟨Bq HB⟩⟩
     rw[if_neg c43]at H
     have aq6:(VB==0)=false:=beq_eq_false_iff_ne.mpr c43
     have bsG:(VB !=0)=true:=bne_iff_ne.mpr c43
     (first|rw[aq6]|(simp only[wQ,yQ];rw[aq6])|skip)
     have H':=aA.mk H
     clear H
     go_wp2
     go_meet
     case rel=>exact⟨_,(false),(by first|rfl|(simp;done)|(simp[*];done)),H',⟨by have:=apB.out;have:=aB4.out;first|omega|exact Nat.le_refl _⟩,⟨R_ dM⟩,⟨R_ QT⟩,⟨R_ QU⟩,⟨b_ jP⟩,⟨b_ lV⟩,⟨Bq HB⟩⟩
    case rest=>
     clear aRY
     obtain⟨kq,aHN,rfl,HA,a6N,dM,QT,QU,jP,lV,HB⟩:=hcut
     rcases kq with _|aRZ
     ·exact absurd HA.out (by simp[dF.j2])
     have H:=HA.out
     clear HA
     simp only[dF.j2]at H
     have apC:=aA.mk H
     clear H
     go_upto_if 49 with(fail)
     go_cut [10] (fun v10 wc=>∃ (kq:Nat) (ZU:Int),v10=.int .i64 ZU/\aA (dF.j3 kq a1 a2 t214 t217 ZU aG aC=some r)/\aA (kq<=aRZ)/\aA (Kd.R (Kd.int .i64) 3 wc w.heap.size (fun _=>True) aB3 t214)/\aA (Kd.R iJ 89 wc w.heap.size (fun _=>True) (.slice qG t207.length qA) t207)/\aA (Kd.R iE 91 wc w.heap.size (fun _=>True) (.slice WM t210.length VA) t210)/\aA (wc.heap[al5]? =some (.cells #[(.slice aQ aG.length aK),(.slice aT aC.length aJ)] 25 (0,0)))/\aA (wc.heap[LY]? =some (.cells #[(.slice qG t207.length qA),(.slice WM t210.length VA)] 25 (0,0)))/\aA (Below w.heap.size w wc))
     case first=>
      have H:=apC.out
      clear apC
      by_cases c48:aHN=true
      ·subst c48
       replace H:(dF.j3 aRZ a1 a2 t214 t217 3 aG aC)=some r:=by rw[if_pos rfl]at H;exact H
       have H':=aA.mk H
       clear H
       go_wp2
       go_meet
       case rel=>exact⟨_,(3),(by first|rfl|(simp;done)|(simp[*];done)),H',⟨by have:=apB.out;have:=aB4.out;have:=a6N.out;first|omega|exact Nat.le_refl _⟩,⟨R_ dM⟩,⟨R_ QT⟩,⟨R_ QU⟩,⟨b_ jP⟩,⟨b_ lV⟩,⟨Bq HB⟩⟩
      replace c48:=Bool.eq_false_iff.mpr c48
      subst c48
      replace H:(dF.j3 aRZ a1 a2 t214 t217 VB aG aC)=some r:=by rw[if_neg (show ¬ (false=true) by decide)]at H;exact H
      have H':=aA.mk H
      clear H
      go_wp2
      go_meet
      case rel=>exact⟨_,(VB),(by first|rfl|(simp;done)|(simp[*];done)),H',⟨by have:=apB.out;have:=aB4.out;have:=a6N.out;first|omega|exact Nat.le_refl _⟩,⟨R_ dM⟩,⟨R_ QT⟩,⟨R_ QU⟩,⟨b_ jP⟩,⟨b_ lV⟩,⟨Bq HB⟩⟩
     case rest=>
      clear apC
      obtain⟨kq,ZU,rfl,HA,TJ,dM,QT,QU,jP,lV,HB⟩:=hcut
      rcases kq with _|ag2
      ·exact absurd HA.out (by simp[dF.j3])
      have H:=HA.out
      clear HA
      simp only[dF.j3]at H
      by_cases c49:ZU=0
      ·rw[if_pos c49]at H
       have bsH:(ZU==0)=true:=beq_iff_eq.mpr c49
       have bsI:(ZU !=0)=false:=bne_eq_false_iff_eq.mpr c49
       clear c49
       by_cases c50:t217=0
       ·rw[if_pos c50]at H
        have bsJ:(t217==0)=true:=beq_iff_eq.mpr c50
        have bsK:(t217 !=0)=false:=bne_eq_false_iff_eq.mpr c50
        clear c50
        replace H:=Option.bind_eq_some_iff.mp H
        obtain⟨t224,a6O,H⟩:=H
        replace H:((oD.f ag2 t214 t224).bind fun t227=>(if t227=true then((oN.f).bind fun _=>(some true))else(some false)))=some r:=H
        have A51:=aA.mk a6O
        clear a6O
        replace H:=Option.bind_eq_some_iff.mp H
        obtain⟨t227,aB5,H⟩:=H
        replace H:(if t227=true then((oN.f).bind fun _=>(some true))else(some false))=some r:=H
        have A52:=aA.mk aB5
        clear aB5
        by_cases c53:t227=true
        ·subst c53
         replace H:((oN.f).bind fun _=>(some true))=some r:=by rw[if_pos rfl]at H;exact H
         replace H:=Option.bind_eq_some_iff.mp H
         obtain⟨_,a6Q,H⟩:=H
         replace H:(some true)=some r:=H
         have A54:=aA.mk a6Q
         clear a6Q
         obtain rfl:=Option.some.inj H
         have bd9:=ag1.out
         have beA:=aB2.out
         obtain⟨aZW,aZX⟩:=bZ jP (.slice aQ aG.length aK) (.slice aT aC.length aJ)
         go_wp2_with (first|(go_at_call 33;refine(nR.calls ag2 _ _ aG _ _ aC a1 a2 t224 _ (Kd.bJ eU.out (Bq HB)) fK.out (Kd.bJ fB.out (Bq HB)) fM.out A51.out).mono ?_;rintro e w57 ⟨BI,rfl,ho0,hb⟩;have oO:=aA.mk (Kd.eF (Kd.fG ho0 (Kd.dY (R_ dM))) (dH (Bq HB)));replace dM:=aA.mk (Kd.gW (R_ dM) (Kd.fF ho0) hb);replace QT:=RB QT hb;replace QU:=RB QU hb;replace jP:=bb jP hb;replace lV:=bb lV hb;replace HB:=bs HB hb;(try clear hb);(try clear ho0);obtain⟨bhH,bhI,rfl⟩:=Kd.dA dM.out;obtain⟨bq9,brA,rfl⟩:=Kd.dA oO.out)|(go_at_call 28;refine(oD.calls ag2 _ _ t214 _ _ t224 true _ (rC dM) ((Kd.dB dM.out).2.1) (rC oO) ((Kd.dB oO.out).2.1) A52.out).mono ?_;rintro e w' ⟨rfl,⟨nd,rfl⟩⟩)|(go_at_call 15;refine(oN.calls   _ (Hand.lZ.below WE.out (Bq HB)) A54.out).mono ?_;rintro e w60 ⟨rfl,hb⟩;replace dM:=RB dM hb;replace QT:=RB QT hb;replace QU:=RB QU hb;replace oO:=RB oO hb;replace jP:=bb jP hb;replace lV:=bb lV hb;replace HB:=bs HB hb;(try clear hb)))
         go_ret
         exact eR HB
        replace c53:=Bool.eq_false_iff.mpr c53
        subst c53
        replace H:(some false)=some r:=by rw[if_neg (show ¬ (false=true) by decide)]at H;exact H
        obtain rfl:=Option.some.inj H
        have hnb61:=ag1.out
        have hnc61:=aB2.out
        obtain⟨bjJ,bjK⟩:=bZ jP (.slice aQ aG.length aK) (.slice aT aC.length aJ)
        go_wp2_with (first|(go_at_call 33;refine(nR.calls ag2 _ _ aG _ _ aC a1 a2 t224 _ (Kd.bJ eU.out (Bq HB)) fK.out (Kd.bJ fB.out (Bq HB)) fM.out A51.out).mono ?_;rintro e w63 ⟨BI,rfl,ho0,hb⟩;have oO:=aA.mk (Kd.eF (Kd.fG ho0 (Kd.dY (R_ dM))) (dH (Bq HB)));replace dM:=aA.mk (Kd.gW (R_ dM) (Kd.fF ho0) hb);replace QT:=RB QT hb;replace QU:=RB QU hb;replace jP:=bb jP hb;replace lV:=bb lV hb;replace HB:=bs HB hb;(try clear hb);(try clear ho0);obtain⟨Ao64,co64,rfl⟩:=Kd.dA dM.out;obtain⟨aEJ,aEK,rfl⟩:=Kd.dA oO.out)|(go_at_call 28;refine(oD.calls ag2 _ _ t214 _ _ t224 false _ (rC dM) ((Kd.dB dM.out).2.1) (rC oO) ((Kd.dB oO.out).2.1) A52.out).mono ?_;rintro e w' ⟨rfl,⟨nd,rfl⟩⟩))
        go_ret
        exact eR HB
       rw[if_neg c50]at H
       have bsJ:(t217==0)=false:=beq_eq_false_iff_ne.mpr c50
       have bsK:(t217 !=0)=true:=bne_iff_ne.mpr c50
       obtain rfl:=Option.some.inj H
       go_wp2
       go_ret
       exact eR HB
      rw[if_neg c49]at H
      have bsH:(ZU==0)=false:=beq_eq_false_iff_ne.mpr c49
      have bsI:(ZU !=0)=true:=bne_iff_ne.mpr c49
      by_cases c66:t217=ZU
      ·rw[if_pos c66]at H
       have bsM:(t217==ZU)=true:=beq_iff_eq.mpr c66
       have bsN:(t217 !=ZU)=false:=bne_eq_false_iff_eq.mpr c66
       clear c66
       by_cases c67:(t214.length:Int)=0
       ·rw[if_pos c67]at H
        have bsO:((t214.length:Int)==0)=true:=beq_iff_eq.mpr c67
        have bsP:((t214.length:Int)!=0)=false:=bne_eq_false_iff_eq.mpr c67
        clear c67
        replace H:=Option.bind_eq_some_iff.mp H
        obtain⟨_,a6R,H⟩:=H
        replace H:(some true)=some r:=H
        have A68:=aA.mk a6R
        clear a6R
        obtain rfl:=Option.some.inj H
        obtain⟨al4,agV,rfl⟩:=Kd.dA dM.out
        go_wp2_with (first|(go_at_call 15;refine(oN.calls   _ (Hand.lZ.below WE.out (Bq HB)) A68.out).mono ?_;rintro e w70 ⟨rfl,hb⟩;replace dM:=RB dM hb;replace QT:=RB QT hb;replace QU:=RB QU hb;replace jP:=bb jP hb;replace lV:=bb lV hb;replace HB:=bs HB hb;(try clear hb)))
        go_ret
        exact eR HB
       rw[if_neg c67]at H
       have bsO:((t214.length:Int)==0)=false:=beq_eq_false_iff_ne.mpr c67
       have bsP:((t214.length:Int)!=0)=true:=bne_iff_ne.mpr c67
       have c67b2:¬ (t214=[]):=fun h_=>c67 (by rw[h_];rfl)
       obtain rfl:=Option.some.inj H
       obtain⟨Ao71,co71,rfl⟩:=Kd.dA dM.out
       go_wp2
       go_ret
       exact eR HB
      rw[if_neg c66]at H
      have bsM:(t217==ZU)=false:=beq_eq_false_iff_ne.mpr c66
      have bsN:(t217 !=ZU)=true:=bne_iff_ne.mpr c66
      obtain rfl:=Option.some.inj H
      go_wp2
      go_ret
      exact eR HB
 replace c14:=Bool.eq_false_iff.mpr c14
 subst c14
 replace H:(some false)=some r:=by rw[if_neg (show ¬ (false=true) by decide)]at H;exact H
 obtain rfl:=Option.some.inj H
 go_enter Tryd.func5,Tryd.ntmps5
 go_wp2_with (first|((with_reducible refine dU (N:=3) rfl ?_);(try(refine xJ (by rfl) ?_;dsimp only));refine eX 3 #[.slice aQ aG.length aK,.slice aT aC.length aJ] 25 ?_;intro al5 hg w72 hbox hb;have jP:=aA.mk (hbox);have a6J:=gw hg HB;have a6K:=gw hg HB;replace HB:=bs HB hb;clear hb hbox hg;obtain⟨hcz73_0,hcz73_1⟩:=bZ jP (.slice aQ aG.length aK) (.slice aT aC.length aJ))|((with_reducible refine gJ (f:=14) rfl ?_);refine cE 12 Tryd.func14 #[.agg #[.slice aQ aG.length aK,.slice aT aC.length aJ]] ?_;refine(OQ.calls _ _ aG _ _ aC false _ (Kd.bJ eU.out (Bq HB)) fK.out (Kd.bJ fB.out (Bq HB)) fM.out A4.out).mono ?_;rintro e w74 ⟨rfl,hb⟩;refine⟨_,rfl,?_⟩;replace jP:=bb jP hb;replace HB:=bs HB hb;(try clear hb);obtain⟨hcz75_0,hcz75_1⟩:=bZ jP (.slice aQ aG.length aK) (.slice aT aC.length aJ))|((with_reducible refine gJ (f:=16) rfl ?_);refine cE 15 Tryd.func16 #[.agg #[.slice aQ aG.length aK,.slice aT aC.length aJ]] ?_;refine(nV.calls _ _ aG _ _ aC t207 t210 _ (Kd.bJ eU.out (Bq HB)) fK.out (Kd.bJ fB.out (Bq HB)) fM.out BU.out).mono ?_;rintro e w76 ⟨v208,aYO,rfl,ho0,ho1,hb⟩;refine⟨_,rfl,?_⟩;have sS:=aA.mk (Kd.eF ho0 (dH (Bq HB)));have rM:=aA.mk (Kd.eF ho1 (dH (Bq HB)));replace jP:=bb jP hb;replace HB:=bs HB hb;(try clear hb);(try clear ho0);(try clear ho1))|((with_reducible refine dU (N:=7) rfl ?_);(try(refine xJ (by rfl) ?_;dsimp only));refine eX 7 #[.slice none 0 0,.slice none 0 0] 25 ?_;intro LY hg w77 hbox hb;have lV:=aA.mk (hbox);have bsE:=gw hg HB;have bsF:=gw hg HB;have ag1:=nl hg jP;have aB2:=ng hg jP;replace sS:=RB sS hb;replace rM:=RB rM hb;replace jP:=bb jP hb;replace HB:=bs HB hb;clear hb hbox hg;obtain⟨UD,QI,rfl⟩:=Kd.dA sS.out;have hnb79:=aB2.out;have hnc79:=ag1.out;obtain⟨bjP,bjQ⟩:=bZ lV (.slice none 0 0) (.slice none 0 0);have bjR:=aX lV.out 0;have bjS:=aX lV.out 1;obtain⟨apF,al7,rfl⟩:=Kd.dA rM.out)|((with_reducible refine gJ (f:=31) rfl ?_);refine cE 20 Tryd.func31 #[.agg #[.slice UD t207.length QI,.slice apF t210.length al7],.int .i64 a1,.int .i64 a2] ?_;refine(aaV.calls _ _ t207 _ _ t210 a1 a2 t214 t217 _ (Hand.lZ.below WE.out (Bq HB)) (by refine(Kd.dB (e:=89) (base:=w.heap.size) (ok:=fun k_=>True) (n:=t207.length) (c:=QI) ?_).2.2;exact(by(with_reducible repeat(first|apply Kd.fQ|apply Kd.fU|apply Kd.dG));exact(Kd.bQ (Kd.bK (p:=⟨LY,1,none⟩) (Kd.bK (p:=⟨LY,0,none⟩) (Kd.gB sS.out lV.out (by decide)) (fun _ hk=>hk.2) (.slice UD t207.length QI)) (fun _ hk=>hk.2) (.slice apF t210.length al7)) (fun _ h_=>h_.1)))) ((Kd.dB sS.out).2.1) (by refine(Kd.dB (e:=91) (base:=w.heap.size) (ok:=fun k_=>True) (n:=t210.length) (c:=al7) ?_).2.2;exact(by(with_reducible repeat(first|apply Kd.fQ|apply Kd.fU|apply Kd.dG));exact(Kd.bQ (Kd.bK (p:=⟨LY,1,none⟩) (Kd.bK (p:=⟨LY,0,none⟩) (Kd.gB rM.out lV.out (by decide)) (fun _ hk=>hk.2) (.slice UD t207.length QI)) (fun _ hk=>hk.2) (.slice apF t210.length al7)) (fun _ h_=>h_.1)))) ((Kd.dB rM.out).2.1) A12.out).mono ?_;rintro e w82 ⟨aB3,rfl,ho0,hb⟩;refine⟨_,rfl,?_⟩;have EU:=aA.mk (Kd.eF ho0 (dH (Bq HB)));replace sS:=aA.mk (Kd.rY (by(with_reducible repeat(first|apply Kd.fQ|apply Kd.fU|apply Kd.dG));exact(Kd.bQ (Kd.bK (p:=⟨LY,1,none⟩) (Kd.bK (p:=⟨LY,0,none⟩) (Kd.gB sS.out lV.out (by decide)) (fun _ hk=>hk.2) (.slice UD t207.length QI)) (fun _ hk=>hk.2) (.slice apF t210.length al7)) (fun _ h_=>h_.1))) hb);replace rM:=aA.mk (Kd.rY (by(with_reducible repeat(first|apply Kd.fQ|apply Kd.fU|apply Kd.dG));exact(Kd.bQ (Kd.bK (p:=⟨LY,1,none⟩) (Kd.bK (p:=⟨LY,0,none⟩) (Kd.gB rM.out lV.out (by decide)) (fun _ hk=>hk.2) (.slice UD t207.length QI)) (fun _ hk=>hk.2) (.slice apF t210.length al7)) (fun _ h_=>h_.1))) hb);replace jP:=aA.mk (fC (by exact bG (bG (b_ jP) ag1.out _) ag1.out _) hb);replace lV:=aA.mk (fC (by exact dE (cs:=#[.slice UD t207.length QI,.slice none 0 0]) (dE (cs:=#[.slice none 0 0,.slice none 0 0]) (b_ lV) 0 _ rfl) 1 _ rfl) hb);replace HB:=bs HB hb;(try clear hb);(try clear ho0);obtain⟨hcz83_0,hcz83_1⟩:=bZ lV (.slice UD t207.length QI) (.slice apF t210.length al7);have hfz83_0:=aX lV.out 0;have hfz83_1:=aX lV.out 1;obtain⟨bjT,bjU⟩:=bZ jP (.slice aQ aG.length aK) (.slice aT aC.length aJ))|((with_reducible refine gJ (f:=21) rfl ?_);refine cE 25 Tryd.func21 #[.agg #[.slice UD t207.length QI,.slice apF t210.length al7],.agg #[.slice aQ aG.length aK,.slice aT aC.length aJ]] ?_;refine(kJ.calls k _ _ t207 _ _ t210 _ _ aG _ _ aC false _ (rC sS) ((Kd.dB sS.out).2.1) (rC rM) ((Kd.dB rM.out).2.1) (Kd.bJ eU.out (Bq HB)) fK.out (Kd.bJ fB.out (Bq HB)) fM.out A13.out).mono ?_;rintro e w85 ⟨rfl,hb⟩;refine⟨_,rfl,?_⟩;replace sS:=RB sS hb;replace rM:=RB rM hb;replace EU:=RB EU hb;replace jP:=bb jP hb;replace lV:=bb lV hb;replace HB:=bs HB hb;(try clear hb)))
 go_ret
 exact eR HB
end Go.Proofs.YtcmfnebcmmklkaaDoor.Q
namespace Go.Proofs.YtcmfnebcmmklkaaDoor.Hand
open Go.RowKit Go.Shelf Go.Proofs.YtcmfnebcmmklkaaDoorW.dQ Go.Proofs.YtcmfnebcmmklkaaDoorW.gG Go.Proofs.YtcmfnebcmmklkaaDoor.Q
theorem bsS {w:World} (os:List aZ) (A:Option Addr) (c:Nat) (hc:os.length<=c) (hr:Kd.C iJ w A os.length os) (ls:List aI) (B:Option Addr) (c2:Nat) (hc2:ls.length<=c2) (hr2:Kd.C iE w B ls.length ls) (x1 x2:Int) (hT:lZ w):
  Calls Tryd.prog 5 #[.agg #[.slice A os.length c,.slice B ls.length c2],.int .i64 x1,.int .i64 x2] w fun e w'=>e=.returned (.bool true)/\Below w.heap.size w w':=
 dF.calls 900 A c os B c2 ls x1 x2 true w hT hr hc hr2 hc2 (brW os ls x1 x2 900 (Nat.le_refl _))
end Go.Proofs.YtcmfnebcmmklkaaDoor.Hand
namespace Go.Proofs.YtcmfnebcmmklkaaDoor.dozenFills
open Go.ChangeShapes Go.WideShapes Go.ChangeAt Go.RowKit Go.Proofs.YtcmfnebcmmklkaaDoor.Hand
theorem contract (H:Type) (enc:TypeId×Value->H) (W:World) (base:Nat) (args:Array Value) (ds gs:List (DataW H)) (before:List MemPlace)
  (hval:∀ (j:Nat) t v,Tryd.f5.params[j]? =some t->args[j]? =some v->Value.okWide Tryd.prog W .any base t v)
  (hW:DataW.Whole enc Tryd.prog Tryd.f5.params.toList Rows.dozenFillsSpec.vars false W args.toList ds gs before) (hL:laidMetH Tryd.prog Rows.dozenFillsRow.laid W):
  Calls Tryd.prog 5 args W fun e W'=>∃ v,e=.returned v/\Rows.dozenFillsSpec.post enc Tryd.prog Tryd.f5 false true false false W args v W':=by
 have hT:lZ W:=azI hL
 have hW':=hW
 obtain⟨p,q,hA0,hV,rfl,hfz,hnd⟩:=hW
 have hA:DataW.TrodAll enc Tryd.prog W 0 (fun _=>true) true Tryd.f5.params.toList args.toList ds p:=hA0
 rw[Tryd.params5]at hA hval
 obtain⟨v0,vs0,d0,ds0,p0,q0,hargs,rfl,rfl,k0,r0⟩:=trodAll_cons hA
 obtain⟨v1,vs1,d1,ds1,p1,q1,rfl,rfl,rfl,k1,r1⟩:=trodAll_cons r0
 obtain⟨v2,vs2,d2,ds2,p2,q2,rfl,rfl,rfl,k2,r2⟩:=trodAll_cons r1
 obtain⟨rfl,rfl,rfl⟩:=trodAll_nil r2
 obtain rfl:args=#[v0,v1,v2]:=by cases args;simp_all
 obtain⟨rfl,rfl⟩:=trodVars_none hV
 have lt0:∀ x∈p0,x.block<W.heap.size:=by obtain⟨m,hm⟩:=k0;exact DataW.trod_lt m _ _ _ hm
 have lt1:∀ x∈p1,x.block<W.heap.size:=by obtain⟨m,hm⟩:=k1;exact DataW.trod_lt m _ _ _ hm
 have lt2:∀ x∈p2,x.block<W.heap.size:=by obtain⟨m,hm⟩:=k2;exact DataW.trod_lt m _ _ _ hm
 obtain⟨A0,l0,c0,B0,q0,e0,rfl,⟨hc0,hr0⟩,hd0,hs0⟩:=azH (hval 0 25 v0 rfl rfl) k0
 obtain⟨a1,rfl⟩:=a5Q (hval 1 3 v1 rfl rfl) k1
 obtain⟨a2,rfl⟩:=a5Q (hval 2 3 v2 rfl rfl) k2
 clear hA0 hval
 refine(bsS l0 A0 c0 hc0 hr0 q0 B0 e0 hd0 hs0 a1 a2 hT).mono fun e' W' ⟨he,bel⟩=>?_
 subst he
 exact⟨_,rfl,_,_,_,[],_,[],hW',trodAll_mk1 (shut_bool Tryd.underlying4 _),(trodAll_cons_mk (Below.trod laidOut (by kernel_rfl) (of_decide_eq_true (by kernel_rfl)) k0 bel lt0) (trodAll_cons_mk (Below.trod laidOut (by kernel_rfl) (of_decide_eq_true (by kernel_rfl)) k1 bel lt1) (trodAll_cons_mk (Below.trod laidOut (by kernel_rfl) (of_decide_eq_true (by kernel_rfl)) k2 bel lt2) trodAll_mk0))),rfl,bel.frame _,fun h=>by cases h⟩
def aBO:Obj->Obj
 |.cells _ t frozen=>.cells (Lib.deBruijn32tab.map fun(n:Nat)=>Value.int .u8 n).toArray t frozen
 |o=>o
def aBP:Obj->Obj
 |.cells _ t frozen=>.cells (Lib.deBruijn64tab.map fun(n:Nat)=>Value.int .u8 n).toArray t frozen
 |o=>o
noncomputable def laidWorld (os:Os):World:={ World.holding Tryd.prog os ⟨#[],#[],[]⟩with heap:=((World.holding Tryd.prog os ⟨#[],#[],[]⟩).heap.modify 0 aBO).modify 1 aBP}
theorem laid_met (os:Os):laidMet Tryd.prog Rows.dozenFillsRow.laid ((laidWorld os).forCall (fun _ _=>0) ⟨#[],#[.agg #[.slice none 0 0,.slice none 0 0],.int .i64 0,.int .i64 0],[]⟩).memory:=
 laidMet_of_run' 8 (by kernel_rfl) (by kernel_rfl)
theorem reads (os:Os) {H:Type} (enc:TypeId×Value->H):∃ places,DataW.whole enc Tryd.prog ((laidWorld os).forCall (fun _ _=>0) ⟨#[],#[.agg #[.slice none 0 0,.slice none 0 0],.int .i64 0,.int .i64 0],[]⟩).memory Tryd.f5.params.toList Rows.dozenFillsSpec.vars false (#[.agg #[.slice none 0 0,.slice none 0 0],.int .i64 0,.int .i64 0]:Array Value).toList 8=some ([.agg [.nil,.nil],.lit (.int .i64 0),.lit (.int .i64 0)],[],places):=
 ⟨[],by kernel_rfl⟩
theorem lifted (os:Os) (started:os.Started) (H:Type) (enc:TypeId×Value->H) (F:Stop.Interp):
  ReturnsInHanded {} Tryd.checked os 5 .any ((OpenSpec.ofChange Rows.dozenFillsSpec).preRow enc Tryd.prog Tryd.f5 Rows.dozenFillsRow.domain false Rows.dozenFillsRow.laid) (((OpenSpec.ofChange Rows.dozenFillsSpec).at F).post enc Tryd.prog Tryd.f5 false true false false):=by
 obtain⟨places,hx⟩:=reads os enc
 refine returnsInHanded_of_row (C:=Tryd.checked) (s:=OpenSpec.ofChange Rows.dozenFillsSpec) own started (by kernel_rfl) Tryd.func5
  (witness_row_at (enc:=enc) (C:=Tryd.checked) false (laidWorld os) #[.agg #[.slice none 0 0,.slice none 0 0],.int .i64 0,.int .i64 0] rfl (by kernel_rfl) (by kernel_rfl) (by kernel_rfl)
   (OpenSpec.preRow_of_cond 8 hx (by kernel_rfl) (fun k hk=>by cases hk) (by kernel_rfl) (laid_met os))) ?_
 intro W base args ds gs before hval hW _ _ _ hL _ _
 exact contract H enc W base args ds gs before hval hW hL
theorem said:Rows.DozenFillsSaid:=
 OpenClaim.holds_of_cond 5 Tryd.f5 rfl rfl rfl rfl rfl rfl rfl ⟨rfl,rfl,rfl,rfl,rfl⟩ rfl rfl rfl rfl rfl (by kernel_rfl) Tryd.func5 (by kernel_rfl)
  (of_decide_eq_true (by kernel_rfl)) (by unfold Func.isWrapper;first|(rw[if_pos (by decide+kernel)];kernel_rfl)|(rw[if_neg (by decide+kernel)];exact⟨rfl,rfl⟩))
  (fun os started H enc _ F=>by rw[OpenClaim.pre_eq_preRow];exact lifted os started H enc F)
theorem plain (f:FuncId) (fn:Func) (hf:Tryd.pinned.checked.prog.funcNamed "smalto/smaltolaw09.DozenFills" =some f) (hfn:Tryd.pinned.checked.prog.funcs[f]? =some fn):
  false=Tryd.pinned.checked.prog.looks []/\∀ (j:Nat) t,fn.params[j]? =some t->Tryd.pinned.checked.prog.wantsStandIn t=false:=by
 obtain rfl:f=5:=Option.some.inj ((show Tryd.prog.funcNamed "smalto/smaltolaw09.DozenFills" =some 5 by kernel_rfl).symm.trans hf) |>.symm
 obtain rfl:fn=Tryd.f5:=(Option.some.inj (Tryd.func5.symm.trans hfn)).symm
 refine⟨by kernel_rfl,fun j t ht=>?_⟩
 rw[Tryd.params5]at ht
 have hm:=Array.mem_of_getElem? ht
 simp only[List.mem_toArray,List.mem_cons,List.not_mem_nil,or_false]at hm
 rcases hm with rfl|rfl|rfl
 ·exact(show Tryd.prog.wantsStandIn 25=false by kernel_rfl)
 ·exact(show Tryd.prog.wantsStandIn 3=false by kernel_rfl)
 ·exact(show Tryd.prog.wantsStandIn 3=false by kernel_rfl)
theorem card:Rows.DozenFillsCardSaid:=
 Claim7.holds_tied_plain_at .later [] _ _ _ _ said (fun _ h=>by cases h) (by kernel_rfl) (fun _ h=>by cases h) dozenFills_row_tie rfl ⟨rfl,rfl⟩ (by kernel_rfl) rfl plain (by kernel_rfl)
end Go.Proofs.YtcmfnebcmmklkaaDoor.dozenFills
namespace Go.Proofs.YtcmfnebcmmklkaaDoor
theorem dozenFills_card:Rows.DozenFillsCardSaid:=dozenFills.card
end Go.Proofs.YtcmfnebcmmklkaaDoor

/- What DozenLots reaches beyond the shared texts. Part 4 of 5. -/
import Derived.Test.YtcmfnebcmmklkaaDoorLc3
import Derived.Test.YtcmfnebcmmklkaaDoorK2
set_option linter.unusedVariables false
set_option linter.unusedSimpArgs false
set_option maxRecDepth 100000
set_option maxHeartbeats 8000000
namespace Go.Proofs.YtcmfnebcmmklkaaDoor.Q
open Go.RowKit Go.Proofs.YtcmfnebcmmklkaaDoorW.dQ Go.Proofs.YtcmfnebcmmklkaaDoorW.oU Go.Proofs.YtcmfnebcmmklkaaDoorW.gG
attribute [local go_sem] uA uB uC uD uM uN uO uP
theorem dL.calls (k:Nat) (aQ:Option Addr) (aK:Nat) (aG:List (aZ)) (aT:Option Addr) (aJ:Nat) (aC:List (aI)) (r:Bool) (w:World) (hT:Hand.lZ w) (jI:Kd.C iJ w aQ aG.length aG) (jU:aG.length<=aK) (jE:Kd.C iE w aT aC.length aC) (jS:aC.length<=aJ) (h:dL.f k aG aC=some r):
    Calls Tryd.prog 3 #[.agg #[.slice aQ aG.length aK,.slice aT aC.length aJ]] w fun e w'=>e=.returned (.bool r)/\Below w.heap.size w w':=by
 have zH:=Tryd.underlying25
 have WE:=aA.mk hT
 clear hT
 have eU:=aA.mk jI
 have fK:=aA.mk jU
 clear jI jU
 have fB:=aA.mk jE
 have fM:=aA.mk jS
 clear jE jS
 have HB:=aA.mk (Below.refl w.heap.size w)
 have H:((OQ.f aG aC).bind fun t206=>(if t206=true then((oN.f).bind fun _=>(some true))else((nV.f aG aC).bind fun oK=>((XH.f oK.1 oK.2).bind fun t215=>((UR.f k oK.1 oK.2).bind fun sU=>((XX.f k oK.1 oK.2).bind fun qF=>((vO.f k oK.1 oK.2).bind fun oL=>((kJ.f k oK.1 oK.2 aG aC).bind fun OJ=>(if OJ=true then((jH.f k aG aC).bind fun BJ=>(dL.j0 k sU.1 sU.2.1 sU.2.2 qF.1 qF.2.1 qF.2.2 oL.1 oL.2.1 oL.2.2 (t215 !=BJ) aG aC))else(dL.j0 k sU.1 sU.2.1 sU.2.2 qF.1 qF.2.1 qF.2.2 oL.1 oL.2.1 oL.2.2 true aG aC))))))))))=some r:=h
 clear h
 replace H:=Option.bind_eq_some_iff.mp H
 obtain⟨t206,xY,H⟩:=H
 replace H:(if t206=true then((oN.f).bind fun _=>(some true))else((nV.f aG aC).bind fun oK=>((XH.f oK.1 oK.2).bind fun t215=>((UR.f k oK.1 oK.2).bind fun sU=>((XX.f k oK.1 oK.2).bind fun qF=>((vO.f k oK.1 oK.2).bind fun oL=>((kJ.f k oK.1 oK.2 aG aC).bind fun OJ=>(if OJ=true then((jH.f k aG aC).bind fun BJ=>(dL.j0 k sU.1 sU.2.1 sU.2.2 qF.1 qF.2.1 qF.2.2 oL.1 oL.2.1 oL.2.2 (t215 !=BJ) aG aC))else(dL.j0 k sU.1 sU.2.1 sU.2.2 qF.1 qF.2.1 qF.2.2 oL.1 oL.2.1 oL.2.2 true aG aC)))))))))=some r:=H
 have A2:=aA.mk xY
 clear xY
 by_cases c3:t206=true
 ·subst c3
  have H1:((oN.f).bind fun _=>(some true))=some r:=by rw[if_pos rfl]at H;exact H
  clear H
  have H:=H1
  clear H1
  replace H:=Option.bind_eq_some_iff.mp H
  obtain⟨_,vG,H⟩:=H
  replace H:(some true)=some r:=H
  have A4:=aA.mk vG
  clear vG
  obtain rfl:=Option.some.inj H
  go_enter Tryd.func3,Tryd.ntmps3
  go_wp2_with (first|((with_reducible refine dU (N:=1) rfl ?_);(try(refine xJ (by rfl) ?_;dsimp only));refine a9U ?hg (N:=1) ?hd (cs:=#[.slice aQ aG.length aK,.slice aT aC.length aJ]) (t:=25) ?hr ?_;(case hd=>rfl);(case hg=>rfl);(case hr=>first|(go_simp;done)|(go_simp;rfl));intro pJ hg w5 hbox hb;have aV:=aA.mk (a9T (Bq HB) hb);have aW:=aA.mk (hbox);have aY:=aA.mk ((by rw[hg];exact(dH (Bq HB)):w.heap.size<=pJ));have bI:=aA.mk ((by rw[hg];exact(dH (Bq HB)):w.heap.size<=pJ));clear HB;have HB:=aV;have cZ:=aW;have btG:=aY;have btH:=bI;clear aV aW aY bI;clear hb hbox hg;have afA:w5.cell? ⟨pJ,0,none⟩=some (.slice aQ aG.length aK):=kc cZ 0;have afB:w5.cell? ⟨pJ,1,none⟩=some (.slice aT aC.length aJ):=kc cZ 1;have aDR:=aX cZ.out 0;have aDS:=aX cZ.out 1)|((with_reducible refine gJ (f:=14) rfl ?_);refine baF (some 21) rfl rfl Tryd.func14 (by kernel_rfl) rfl #[.agg #[.slice aQ aG.length aK,.slice aT aC.length aJ]] rfl (by(try simp only[List.map_toArray,List.map_cons,List.map_nil]);first|done|rfl|(simp only[List.length_drop,List.length_take];rfl)) ?_;(with_reducible refine(OQ.calls _ _ aG _ _ aC true _ ?jK ?jL ?jM ?jO A2.out).mono ?_);(case jK=>repeat(first|exact(Kd.bJ eU.out HB.out)|(with_reducible refine Kd.jZ ?_ _)|(with_reducible refine Kd.kD ?_ _)|(with_reducible refine Kd.kC ?_)));(case jL=>exact fK.out);(case jM=>repeat(first|exact(Kd.bJ fB.out HB.out)|(with_reducible refine Kd.jZ ?_ _)|(with_reducible refine Kd.kD ?_ _)|(with_reducible refine Kd.kC ?_)));(case jO=>exact fM.out);rintro e w7 ⟨rfl,hb⟩;refine⟨_,rfl,?_⟩;have aV:=bb cZ hb;have aW:=aA.mk (a9T (Bq HB) hb);clear cZ;clear HB;have cZ:=aV;have HB:=aW;clear aV aW;(try clear hb);(try clear hb2);(try clear hk);(try clear hi))|((with_reducible refine gJ (f:=15) rfl ?_);refine baF (some 22) rfl rfl Tryd.func15 (by kernel_rfl) rfl #[] rfl (by(try simp only[List.map_toArray,List.map_cons,List.map_nil]);first|done|rfl|(simp only[List.length_drop,List.length_take];rfl)) ?_;(with_reducible refine(oN.calls   _ ?jK A4.out).mono ?_);(case jK=>exact Hand.lZ.below WE.out (Bq HB));rintro e w8 ⟨rfl,hb⟩;refine⟨_,rfl,?_⟩;have aV:=bb cZ hb;have aW:=aA.mk (a9T (Bq HB) hb);clear cZ;clear HB;have cZ:=aV;have HB:=aW;clear aV aW;(try clear hb);(try clear hb2);(try clear hk);(try clear hi)))
  go_ret
  exact⟨by first|rfl|(simp[iU,iV]<;>rfl)|(simp[*,iU,iV]<;>rfl),Bq HB⟩
 replace c3:=Bool.eq_false_iff.mpr c3
 subst c3
 have H1:((nV.f aG aC).bind fun oK=>((XH.f oK.1 oK.2).bind fun t215=>((UR.f k oK.1 oK.2).bind fun sU=>((XX.f k oK.1 oK.2).bind fun qF=>((vO.f k oK.1 oK.2).bind fun oL=>((kJ.f k oK.1 oK.2 aG aC).bind fun OJ=>(if OJ=true then((jH.f k aG aC).bind fun BJ=>(dL.j0 k sU.1 sU.2.1 sU.2.2 qF.1 qF.2.1 qF.2.2 oL.1 oL.2.1 oL.2.2 (t215 !=BJ) aG aC))else(dL.j0 k sU.1 sU.2.1 sU.2.2 qF.1 qF.2.1 qF.2.2 oL.1 oL.2.1 oL.2.2 true aG aC))))))))=some r:=by rw[if_neg (show ¬ (false=true) by decide)]at H;exact H
 clear H
 have H:=H1
 clear H1
 replace H:=Option.bind_eq_some_iff.mp H
 obtain⟨⟨t208,t211⟩,YM,H⟩:=H
 replace H:((XH.f t208 t211).bind fun t215=>((UR.f k t208 t211).bind fun sU=>((XX.f k t208 t211).bind fun qF=>((vO.f k t208 t211).bind fun oL=>((kJ.f k t208 t211 aG aC).bind fun OJ=>(if OJ=true then((jH.f k aG aC).bind fun BJ=>(dL.j0 k sU.1 sU.2.1 sU.2.2 qF.1 qF.2.1 qF.2.2 oL.1 oL.2.1 oL.2.2 (t215 !=BJ) aG aC))else(dL.j0 k sU.1 sU.2.1 sU.2.2 qF.1 qF.2.1 qF.2.2 oL.1 oL.2.1 oL.2.2 true aG aC)))))))=some r:=H
 have A9:=aA.mk YM
 clear YM
 replace H:=Option.bind_eq_some_iff.mp H
 obtain⟨t215,alX,H⟩:=H
 replace H:((UR.f k t208 t211).bind fun sU=>((XX.f k t208 t211).bind fun qF=>((vO.f k t208 t211).bind fun oL=>((kJ.f k t208 t211 aG aC).bind fun OJ=>(if OJ=true then((jH.f k aG aC).bind fun BJ=>(dL.j0 k sU.1 sU.2.1 sU.2.2 qF.1 qF.2.1 qF.2.2 oL.1 oL.2.1 oL.2.2 (t215 !=BJ) aG aC))else(dL.j0 k sU.1 sU.2.1 sU.2.2 qF.1 qF.2.1 qF.2.2 oL.1 oL.2.1 oL.2.2 true aG aC))))))=some r:=H
 have A10:=aA.mk alX
 clear alX
 replace H:=Option.bind_eq_some_iff.mp H
 obtain⟨⟨t216,t219,t222⟩,wJ,H⟩:=H
 replace H:((XX.f k t208 t211).bind fun qF=>((vO.f k t208 t211).bind fun oL=>((kJ.f k t208 t211 aG aC).bind fun OJ=>(if OJ=true then((jH.f k aG aC).bind fun BJ=>(dL.j0 k t216 t219 t222 qF.1 qF.2.1 qF.2.2 oL.1 oL.2.1 oL.2.2 (t215 !=BJ) aG aC))else(dL.j0 k t216 t219 t222 qF.1 qF.2.1 qF.2.2 oL.1 oL.2.1 oL.2.2 true aG aC)))))=some r:=H
 have BU:=aA.mk wJ
 clear wJ
 replace H:=Option.bind_eq_some_iff.mp H
 obtain⟨⟨t223,t226,t229⟩,adJ,H⟩:=H
 replace H:((vO.f k t208 t211).bind fun oL=>((kJ.f k t208 t211 aG aC).bind fun OJ=>(if OJ=true then((jH.f k aG aC).bind fun BJ=>(dL.j0 k t216 t219 t222 t223 t226 t229 oL.1 oL.2.1 oL.2.2 (t215 !=BJ) aG aC))else(dL.j0 k t216 t219 t222 t223 t226 t229 oL.1 oL.2.1 oL.2.2 true aG aC))))=some r:=H
 have A12:=aA.mk adJ
 clear adJ
 replace H:=Option.bind_eq_some_iff.mp H
 obtain⟨⟨nT,t233,t236⟩,XK,H⟩:=H
 replace H:((kJ.f k t208 t211 aG aC).bind fun OJ=>(if OJ=true then((jH.f k aG aC).bind fun BJ=>(dL.j0 k t216 t219 t222 t223 t226 t229 nT t233 t236 (t215 !=BJ) aG aC))else(dL.j0 k t216 t219 t222 t223 t226 t229 nT t233 t236 true aG aC)))=some r:=H
 have A13:=aA.mk XK
 clear XK
 have aoW:=aA.mk H
 clear H
 go_enter Tryd.func3,Tryd.ntmps3
 go_upto_region 8 with(first|((with_reducible refine dU (N:=1) rfl ?_);(try(refine xJ (by rfl) ?_;dsimp only));refine a9U ?hg (N:=1) ?hd (cs:=#[.slice aQ aG.length aK,.slice aT aC.length aJ]) (t:=25) ?hr ?_;(case hd=>rfl);(case hg=>rfl);(case hr=>first|(go_simp;done)|(go_simp;rfl));intro pJ hg vY hbox hb;have aV:=aA.mk (a9T (Bq HB) hb);have aW:=aA.mk (hbox);have aY:=aA.mk ((by rw[hg];exact(dH (Bq HB)):w.heap.size<=pJ));have bI:=aA.mk ((by rw[hg];exact(dH (Bq HB)):w.heap.size<=pJ));clear HB;have HB:=aV;have cZ:=aW;have btG:=aY;have btH:=bI;clear aV aW aY bI;clear hb hbox hg;have ahN:vY.cell? ⟨pJ,0,none⟩=some (.slice aQ aG.length aK):=kc cZ 0;have ahO:vY.cell? ⟨pJ,1,none⟩=some (.slice aT aC.length aJ):=kc cZ 1;have auD:=aX cZ.out 0;have auE:=aX cZ.out 1)|((with_reducible refine gJ (f:=14) rfl ?_);refine baF (some 21) rfl rfl Tryd.func14 (by kernel_rfl) rfl #[.agg #[.slice aQ aG.length aK,.slice aT aC.length aJ]] rfl (by(try simp only[List.map_toArray,List.map_cons,List.map_nil]);first|done|rfl|(simp only[List.length_drop,List.length_take];rfl)) ?_;(with_reducible refine(OQ.calls _ _ aG _ _ aC false _ ?jK ?jL ?jM ?jO A2.out).mono ?_);(case jK=>repeat(first|exact(Kd.bJ eU.out HB.out)|(with_reducible refine Kd.jZ ?_ _)|(with_reducible refine Kd.kD ?_ _)|(with_reducible refine Kd.kC ?_)));(case jL=>exact fK.out);(case jM=>repeat(first|exact(Kd.bJ fB.out HB.out)|(with_reducible refine Kd.jZ ?_ _)|(with_reducible refine Kd.kD ?_ _)|(with_reducible refine Kd.kC ?_)));(case jO=>exact fM.out);rintro e uS ⟨rfl,hb⟩;refine⟨_,rfl,?_⟩;have aV:=bb cZ hb;have aW:=aA.mk (a9T (Bq HB) hb);clear cZ;clear HB;have cZ:=aV;have HB:=aW;clear aV aW;(try clear hb);(try clear hb2);(try clear hk);(try clear hi);have OW:uS.cell? ⟨pJ,0,none⟩=some (.slice aQ aG.length aK):=kc cZ 0;have OX:uS.cell? ⟨pJ,1,none⟩=some (.slice aT aC.length aJ):=kc cZ 1;have afD:=aX cZ.out 0;have afE:=aX cZ.out 1)|((with_reducible refine gJ (f:=16) rfl ?_);refine baF (some 24) rfl rfl Tryd.func16 (by kernel_rfl) rfl #[.agg #[.slice aQ aG.length aK,.slice aT aC.length aJ]] rfl (by(try simp only[List.map_toArray,List.map_cons,List.map_nil]);first|done|rfl|(simp only[List.length_drop,List.length_take];rfl)) ?_;(with_reducible refine(nV.calls _ _ aG _ _ aC t208 t211 _ ?jK ?jL ?jM ?jO A9.out).mono ?_);(case jK=>repeat(first|exact(Kd.bJ eU.out HB.out)|(with_reducible refine Kd.jZ ?_ _)|(with_reducible refine Kd.kD ?_ _)|(with_reducible refine Kd.kC ?_)));(case jL=>exact fK.out);(case jM=>repeat(first|exact(Kd.bJ fB.out HB.out)|(with_reducible refine Kd.jZ ?_ _)|(with_reducible refine Kd.kD ?_ _)|(with_reducible refine Kd.kC ?_)));(case jO=>exact fM.out);rintro e xU ⟨aR1,v212,rfl,ho0,ho1,hb⟩;refine⟨_,rfl,?_⟩;have aV:=aA.mk (Kd.eF ho0 (dH (Bq HB)));have aW:=aA.mk (Kd.eF ho1 (dH (Bq HB)));have aY:=bb cZ hb;have bI:=aA.mk (a9T (Bq HB) hb);clear cZ;clear HB;have wI:=aV;have xG:=aW;have cZ:=aY;have HB:=bI;clear aV aW aY bI;(try clear hb);(try clear hb2);(try clear hk);(try clear hi);(try clear ho0);(try clear ho1))|((with_reducible refine dU (N:=3) rfl ?_);(try(refine xJ (by rfl) ?_;dsimp only));refine a9U ?hg (N:=3) ?hd (cs:=#[.slice none 0 0,.slice none 0 0]) (t:=25) ?hr ?_;(case hd=>rfl);(case hg=>rfl);(case hr=>first|(go_simp;done)|(go_simp;rfl));intro xO hg zD hbox hb;have aV:=RB wI hb;have aW:=RB xG hb;have aY:=bb cZ hb;have bI:=aA.mk (a9T (Bq HB) hb);have cO:=aA.mk (hbox);have gY:=aA.mk ((by rw[hg];exact(dH (Bq HB)):w.heap.size<=xO));have kR:=aA.mk ((by rw[hg];exact(dH (Bq HB)):w.heap.size<=xO));have nD:=aA.mk ((by rw[hg];exact Nat.ne_of_lt (AO (g:=pJ) (o:=.cells #[.slice aQ aG.length aK,.slice aT aC.length aJ] 25 (0,0)) (b_ cZ)):pJ≠xO));have nH:=aA.mk ((by rw[hg];exact Nat.ne_of_gt (AO (g:=pJ) (o:=.cells #[.slice aQ aG.length aK,.slice aT aC.length aJ] 25 (0,0)) (b_ cZ)):xO≠pJ));clear wI;clear xG;clear cZ;clear HB;have wI:=aV;have xG:=aW;have cZ:=aY;have HB:=bI;have eY:=cO;have GW214:=gY;have GE214:=kR;have aa7:=nD;have ae3:=nH;clear aV aW aY bI cO gY kR nD nH;clear hb hbox hg;obtain⟨rX,qZ,btI⟩:=Kd.dA wI.out;subst btI;have at1:=ae3.out;have at6:=aa7.out;have amO:zD.cell? ⟨xO,0,none⟩=some (.slice none 0 0):=kc eY 0;have amP:zD.cell? ⟨xO,1,none⟩=some (.slice none 0 0):=kc eY 1;have at7:=aX eY.out 0;have auA:=aX eY.out 1;obtain⟨qM,qC,btJ⟩:=Kd.dA xG.out;subst btJ)|((with_reducible refine gJ (f:=17) rfl ?_);refine baF (some 26) rfl rfl Tryd.func17 (by kernel_rfl) rfl #[.agg #[.slice rX t208.length qZ,.slice qM t211.length qC]] rfl (by(try simp only[List.map_toArray,List.map_cons,List.map_nil]);first|done|rfl|(simp only[List.length_drop,List.length_take];rfl)) ?_;(with_reducible refine(XH.calls _ _ t208 _ _ t211 t215 _ ?jK ?jL ?jM ?jO A10.out).mono ?_);(case jK=>refine(Kd.dB (e:=89) (base:=w.heap.size) (ok:=fun k_=>True) (n:=t208.length) (c:=qZ) ?_).2.2;exact(by(with_reducible repeat(first|apply Kd.fQ|apply Kd.fU|apply Kd.dG));exact(Kd.bQ (Kd.bK (p:=⟨xO,1,none⟩) (Kd.bK (p:=⟨xO,0,none⟩) (Kd.gB wI.out eY.out (by decide)) (fun _ hk=>hk.2) (.slice rX t208.length qZ)) (fun _ hk=>hk.2) (.slice qM t211.length qC)) (fun _ h_=>h_.1))));(case jL=>exact(Kd.dB wI.out).2.1);(case jM=>refine(Kd.dB (e:=91) (base:=w.heap.size) (ok:=fun k_=>True) (n:=t211.length) (c:=qC) ?_).2.2;exact(by(with_reducible repeat(first|apply Kd.fQ|apply Kd.fU|apply Kd.dG));exact(Kd.bQ (Kd.bK (p:=⟨xO,1,none⟩) (Kd.bK (p:=⟨xO,0,none⟩) (Kd.gB xG.out eY.out (by decide)) (fun _ hk=>hk.2) (.slice rX t208.length qZ)) (fun _ hk=>hk.2) (.slice qM t211.length qC)) (fun _ h_=>h_.1))));(case jO=>exact(Kd.dB xG.out).2.1);rintro e AV ⟨rfl,hb⟩;refine⟨_,rfl,?_⟩;have aV:=aA.mk (Kd.rY (by(with_reducible repeat(first|apply Kd.fQ|apply Kd.fU|apply Kd.dG));exact(Kd.bQ (Kd.bK (p:=⟨xO,1,none⟩) (Kd.bK (p:=⟨xO,0,none⟩) (Kd.gB wI.out eY.out (by decide)) (fun _ hk=>hk.2) (.slice rX t208.length qZ)) (fun _ hk=>hk.2) (.slice qM t211.length qC)) (fun _ h_=>h_.1))) hb);have aW:=aA.mk (Kd.rY (by(with_reducible repeat(first|apply Kd.fQ|apply Kd.fU|apply Kd.dG));exact(Kd.bQ (Kd.bK (p:=⟨xO,1,none⟩) (Kd.bK (p:=⟨xO,0,none⟩) (Kd.gB xG.out eY.out (by decide)) (fun _ hk=>hk.2) (.slice rX t208.length qZ)) (fun _ hk=>hk.2) (.slice qM t211.length qC)) (fun _ h_=>h_.1))) hb);have aY:=aA.mk (fC (g:=pJ) (o:=.cells #[.slice aQ aG.length aK,.slice aT aC.length aJ] 25 (0,0)) (by(with_reducible repeat(first|refine mZ ?_ _|refine gI ?_|refine kK ?_ _));refine bG ?_ aa7.out _;(with_reducible repeat(first|refine mZ ?_ _|refine gI ?_|refine kK ?_ _));refine bG ?_ aa7.out _;(with_reducible repeat(first|refine mZ ?_ _|refine gI ?_|refine kK ?_ _));exact cZ.out) hb);have bI:=aA.mk (fC (g:=xO) (o:=.cells #[.slice rX t208.length qZ,.slice qM t211.length qC] 25 (0,0)) (by(with_reducible repeat(first|refine mZ ?_ _|refine gI ?_|refine kK ?_ _));refine dE (cs:=#[.slice rX t208.length qZ,.slice none 0 0]) ?_ 1 _ rfl;(with_reducible repeat(first|refine mZ ?_ _|refine gI ?_|refine kK ?_ _));refine dE (cs:=#[.slice none 0 0,.slice none 0 0]) ?_ 0 _ rfl;(with_reducible repeat(first|refine mZ ?_ _|refine gI ?_|refine kK ?_ _));exact eY.out) hb);have cO:=aA.mk (a9T (Bq HB) hb);clear wI;clear xG;clear cZ;clear eY;clear HB;have wI:=aV;have xG:=aW;have cZ:=aY;have eY:=bI;have HB:=cO;clear aV aW aY bI cO;(try clear hb);(try clear hb2);(try clear hk);(try clear hi);have aq2:AV.cell? ⟨xO,0,none⟩=some (.slice rX t208.length qZ):=kc eY 0;have aq3:AV.cell? ⟨xO,1,none⟩=some (.slice qM t211.length qC):=kc eY 1;have aEE:=aX eY.out 0;have aEF:=aX eY.out 1)|((with_reducible refine gJ (f:=18) rfl ?_);refine baF (some 29) rfl rfl Tryd.func18 (by kernel_rfl) rfl #[.agg #[.slice rX t208.length qZ,.slice qM t211.length qC]] rfl (by(try simp only[List.map_toArray,List.map_cons,List.map_nil]);first|done|rfl|(simp only[List.length_drop,List.length_take];rfl)) ?_;(with_reducible refine(UR.calls k _ _ t208 _ _ t211 t216 t219 t222 _ ?jK ?jL ?jM ?jO BU.out).mono ?_);(case jK=>exact rC wI);(case jL=>exact(Kd.dB wI.out).2.1);(case jM=>exact rC xG);(case jO=>exact(Kd.dB xG.out).2.1);rintro e wF ⟨CV,CW,rfl,ho0,ho1,hb⟩;refine⟨_,rfl,?_⟩;have aV:=RB wI hb;have aW:=RB xG hb;have aY:=aA.mk (Kd.eF ho0 (dH (Bq HB)));have bI:=aA.mk (Kd.eF ho1 (dH (Bq HB)));have cO:=bb cZ hb;have gY:=bb eY hb;have kR:=aA.mk (a9T (Bq HB) hb);clear wI;clear xG;clear cZ;clear eY;clear HB;have wI:=aV;have xG:=aW;have YP:=aY;have YQ:=bI;have cZ:=cO;have eY:=gY;have HB:=kR;clear aV aW aY bI cO gY kR;(try clear hb);(try clear hb2);(try clear hk);(try clear hi);(try clear ho0);(try clear ho1);have aRS:wF.cell? ⟨xO,0,none⟩=some (.slice rX t208.length qZ):=kc eY 0;have aRT:wF.cell? ⟨xO,1,none⟩=some (.slice qM t211.length qC):=kc eY 1;have aRU:=aX eY.out 0;have aRV:=aX eY.out 1)|((with_reducible refine gJ (f:=19) rfl ?_);refine baF (some 35) rfl rfl Tryd.func19 (by kernel_rfl) rfl #[.agg #[.slice rX t208.length qZ,.slice qM t211.length qC]] rfl (by(try simp only[List.map_toArray,List.map_cons,List.map_nil]);first|done|rfl|(simp only[List.length_drop,List.length_take];rfl)) ?_;(with_reducible refine(XX.calls k _ _ t208 _ _ t211 t223 t226 t229 _ ?jK ?jL ?jM ?jO A12.out).mono ?_);(case jK=>exact rC wI);(case jL=>exact(Kd.dB wI.out).2.1);(case jM=>exact rC xG);(case jO=>exact(Kd.dB xG.out).2.1);rintro e EK ⟨CX,v227,rfl,ho0,ho1,hb⟩;refine⟨_,rfl,?_⟩;have aV:=RB wI hb;have aW:=RB xG hb;have aY:=aA.mk (Kd.bQ (Kd.MI (Kd.MI (Kd.ad3 (R_ YP) hb) (Kd.fF ho0)) (Kd.fF ho1)) (fun _ h_=>h_.1));have bI:=aA.mk (Kd.bQ (Kd.MI (Kd.MI (Kd.ad3 (R_ YQ) hb) (Kd.fF ho0)) (Kd.fF ho1)) (fun _ h_=>h_.1));have cO:=aA.mk (Kd.eF (Kd.fG (Kd.fG ho0 (Kd.dY (R_ YP))) (Kd.dY (R_ YQ))) (dH (Bq HB)));have gY:=aA.mk (Kd.eF (Kd.fG (Kd.fG ho1 (Kd.dY (R_ YP))) (Kd.dY (R_ YQ))) (dH (Bq HB)));have kR:=bb cZ hb;have nD:=bb eY hb;have nH:=aA.mk (a9T (Bq HB) hb);clear wI;clear xG;clear YP;clear YQ;clear cZ;clear eY;clear HB;have wI:=aV;have xG:=aW;have YP:=aY;have YQ:=bI;have ae4:=cO;have ae5:=gY;have cZ:=kR;have eY:=nD;have HB:=nH;clear aV aW aY bI cO gY kR nD nH;(try clear hb);(try clear hb2);(try clear hk);(try clear hi);(try clear ho0);(try clear ho1);have aZS:EK.cell? ⟨xO,0,none⟩=some (.slice rX t208.length qZ):=kc eY 0;have aZT:EK.cell? ⟨xO,1,none⟩=some (.slice qM t211.length qC):=kc eY 1;have aZU:=aX eY.out 0;have aZV:=aX eY.out 1)|((with_reducible refine gJ (f:=20) rfl ?_);refine baF (some 41) rfl rfl Tryd.func20 (by kernel_rfl) rfl #[.agg #[.slice rX t208.length qZ,.slice qM t211.length qC]] rfl (by(try simp only[List.map_toArray,List.map_cons,List.map_nil]);first|done|rfl|(simp only[List.length_drop,List.length_take];rfl)) ?_;(with_reducible refine(vO.calls k _ _ t208 _ _ t211 nT t233 t236 _ ?jK ?jL ?jM ?jO A13.out).mono ?_);(case jK=>exact rC wI);(case jL=>exact(Kd.dB wI.out).2.1);(case jM=>exact rC xG);(case jO=>exact(Kd.dB xG.out).2.1);rintro e yA ⟨wO,v234,rfl,ho0,ho1,hb⟩;refine⟨_,rfl,?_⟩;have aV:=RB wI hb;have aW:=RB xG hb;have aY:=RB YP hb;have bI:=RB YQ hb;have cO:=RB ae4 hb;have gY:=RB ae5 hb;have kR:=aA.mk (Kd.eF ho0 (dH (Bq HB)));have nD:=aA.mk (Kd.eF ho1 (dH (Bq HB)));have nH:=bb cZ hb;have nI:=bb eY hb;have nJ:=aA.mk (a9T (Bq HB) hb);clear wI;clear xG;clear YP;clear YQ;clear ae4;clear ae5;clear cZ;clear eY;clear HB;have wI:=aV;have xG:=aW;have YP:=aY;have YQ:=bI;have ae4:=cO;have ae5:=gY;have TE:=kR;have amA:=nD;have cZ:=nH;have eY:=nI;have HB:=nJ;clear aV aW aY bI cO gY kR nD nH nI nJ;(try clear hb);(try clear hb2);(try clear hk);(try clear hi);(try clear ho0);(try clear ho1)))
 (try simp only[Act.put,List.setIfInBounds_toArray,List.set_cons_zero,List.set_cons_succ])
 go_cut [54] (fun v54 wc=>∃ (kq:Nat) (aHV:Bool),v54=.bool aHV/\aA (dL.j0 kq t216 t219 t222 t223 t226 t229 nT t233 t236 aHV aG aC=some r)/\aA (kq<=k)/\aA (Kd.R iD 42 wc w.heap.size (fun k_=>some k_≠(CW:Value).ownBlock/\some k_≠(CX:Value).ownBlock/\some k_≠(v227:Value).ownBlock) CV t216)/\aA (Kd.R iD 42 wc w.heap.size (fun k_=>some k_≠(CV:Value).ownBlock/\some k_≠(CX:Value).ownBlock/\some k_≠(v227:Value).ownBlock) CW t219)/\aA (Kd.R iD 42 wc w.heap.size (fun k_=>some k_≠(CV:Value).ownBlock/\some k_≠(CW:Value).ownBlock/\some k_≠(v227:Value).ownBlock) CX t223)/\aA (Kd.R iD 42 wc w.heap.size (fun k_=>some k_≠(CV:Value).ownBlock/\some k_≠(CW:Value).ownBlock/\some k_≠(CX:Value).ownBlock) v227 t226)/\aA (Kd.R (Kd.int .i64) 3 wc w.heap.size (fun k_=>some k_≠(v234:Value).ownBlock) wO nT)/\aA (Kd.R (Kd.int .i64) 3 wc w.heap.size (fun k_=>some k_≠(wO:Value).ownBlock) v234 t233)/\aA (Kd.R iJ 89 wc w.heap.size (fun _=>True) (.slice rX t208.length qZ) t208)/\aA (Kd.R iE 91 wc w.heap.size (fun _=>True) (.slice qM t211.length qC) t211)/\aA (wc.heap[pJ]? =some (.cells #[(.slice aQ aG.length aK),(.slice aT aC.length aJ)] 25 (0,0)))/\aA (wc.heap[xO]? =some (.cells #[(.slice rX t208.length qZ),(.slice qM t211.length qC)] 25 (0,0)))/\aA (Below w.heap.size w wc))
 case first=>
  have H:=aoW.out
  clear aoW
  replace H:=Option.bind_eq_some_iff.mp H
  obtain⟨OJ,a7N,H⟩:=H
  replace H:(if OJ=true then((jH.f k aG aC).bind fun BJ=>(dL.j0 k t216 t219 t222 t223 t226 t229 nT t233 t236 (t215 !=BJ) aG aC))else(dL.j0 k t216 t219 t222 t223 t226 t229 nT t233 t236 true aG aC))=some r:=H
  have A32:=aA.mk a7N
  clear a7N
  by_cases OH:OJ=true
  ·subst OH
   have H1:((jH.f k aG aC).bind fun BJ=>(dL.j0 k t216 t219 t222 t223 t226 t229 nT t233 t236 (t215 !=BJ) aG aC))=some r:=by rw[if_pos rfl]at H;exact H
   clear H
   have H:=H1
   clear H1
   replace H:=Option.bind_eq_some_iff.mp H
   obtain⟨BJ,alY,H⟩:=H
   replace H:(dL.j0 k t216 t219 t222 t223 t226 t229 nT t233 t236 (t215 !=BJ) aG aC)=some r:=H
   have A34:=aA.mk alY
   clear alY
   have H':=aA.mk H
   clear H
   have a5R:=ae3.out
   have a5S:=aa7.out
   have aDI:yA.cell? ⟨xO,0,none⟩=some (.slice rX t208.length qZ):=kc eY 0
   have aDJ:yA.cell? ⟨xO,1,none⟩=some (.slice qM t211.length qC):=kc eY 1
   have aJ7:=aX eY.out 0
   have aJ8:=aX eY.out 1
   have aZL:yA.cell? ⟨pJ,0,none⟩=some (.slice aQ aG.length aK):=kc cZ 0
   have aZM:yA.cell? ⟨pJ,1,none⟩=some (.slice aT aC.length aJ):=kc cZ 1
   have hfz37_0:=aX cZ.out 0
   have hfz37_1:=aX cZ.out 1
   go_wp2_with (first|((with_reducible refine gJ (f:=21) rfl ?_);refine baF (some 47) rfl rfl Tryd.func21 (by kernel_rfl) rfl #[.agg #[.slice rX t208.length qZ,.slice qM t211.length qC],.agg #[.slice aQ aG.length aK,.slice aT aC.length aJ]] rfl (by(try simp only[List.map_toArray,List.map_cons,List.map_nil]);first|done|rfl|(simp only[List.length_drop,List.length_take];rfl)) ?_;(with_reducible refine(kJ.calls k _ _ t208 _ _ t211 _ _ aG _ _ aC true _ ?jK ?jL ?jM ?jO ?WB ?WC ?aUH ?aUI A32.out).mono ?_);(case jK=>exact rC wI);(case jL=>exact(Kd.dB wI.out).2.1);(case jM=>exact rC xG);(case jO=>exact(Kd.dB xG.out).2.1);(case WB=>repeat(first|exact(Kd.bJ eU.out HB.out)|(with_reducible refine Kd.jZ ?_ _)|(with_reducible refine Kd.kD ?_ _)|(with_reducible refine Kd.kC ?_)));(case WC=>exact fK.out);(case aUH=>repeat(first|exact(Kd.bJ fB.out HB.out)|(with_reducible refine Kd.jZ ?_ _)|(with_reducible refine Kd.kD ?_ _)|(with_reducible refine Kd.kC ?_)));(case aUI=>exact fM.out);rintro e AX ⟨rfl,hb⟩;refine⟨_,rfl,?_⟩;have aV:=RB wI hb;have aW:=RB xG hb;have aY:=RB YP hb;have bI:=RB YQ hb;have cO:=RB ae4 hb;have gY:=RB ae5 hb;have kR:=RB TE hb;have nD:=RB amA hb;have nH:=bb cZ hb;have nI:=bb eY hb;have nJ:=aA.mk (a9T (Bq HB) hb);clear wI;clear xG;clear YP;clear YQ;clear ae4;clear ae5;clear TE;clear amA;clear cZ;clear eY;clear HB;have wI:=aV;have xG:=aW;have YP:=aY;have YQ:=bI;have ae4:=cO;have ae5:=gY;have TE:=kR;have amA:=nD;have cZ:=nH;have eY:=nI;have HB:=nJ;clear aV aW aY bI cO gY kR nD nH nI nJ;(try clear hb);(try clear hb2);(try clear hk);(try clear hi);have aXN:AX.cell? ⟨pJ,0,none⟩=some (.slice aQ aG.length aK):=kc cZ 0;have aXO:AX.cell? ⟨pJ,1,none⟩=some (.slice aT aC.length aJ):=kc cZ 1;have hfz39_0:=aX cZ.out 0;have hfz39_1:=aX cZ.out 1)|(go_at_call 22;(with_reducible refine(jH.calls k _ _ aG _ _ aC BJ _ ?jK ?jL ?jM ?jO A34.out).mono ?_);(case jK=>repeat(first|exact(Kd.bJ eU.out HB.out)|(with_reducible refine Kd.jZ ?_ _)|(with_reducible refine Kd.kD ?_ _)|(with_reducible refine Kd.kC ?_)));(case jL=>exact fK.out);(case jM=>repeat(first|exact(Kd.bJ fB.out HB.out)|(with_reducible refine Kd.jZ ?_ _)|(with_reducible refine Kd.kD ?_ _)|(with_reducible refine Kd.kC ?_)));(case jO=>exact fM.out);rintro e PE ⟨rfl,hb⟩;have aV:=RB wI hb;have aW:=RB xG hb;have aY:=RB YP hb;have bI:=RB YQ hb;have cO:=RB ae4 hb;have gY:=RB ae5 hb;have kR:=RB TE hb;have nD:=RB amA hb;have nH:=bb cZ hb;have nI:=bb eY hb;have nJ:=aA.mk (a9T (Bq HB) hb);clear wI;clear xG;clear YP;clear YQ;clear ae4;clear ae5;clear TE;clear amA;clear cZ;clear eY;clear HB;have wI:=aV;have xG:=aW;have YP:=aY;have YQ:=bI;have ae4:=cO;have ae5:=gY;have TE:=kR;have amA:=nD;have cZ:=nH;have eY:=nI;have HB:=nJ;clear aV aW aY bI cO gY kR nD nH nI nJ;(try clear hb);(try clear hb2);(try clear hk);(try clear hi)))
   go_meet
   case rel=>exact⟨_,((t215 !=BJ)),(by first|rfl|(simp;done)|(simp[*];done)),H',⟨by first|omega|exact Nat.le_refl _⟩,⟨Kd.bQ (R_ YP) (fun _ hk=>⟨hk.1.1,⟨hk.1.2,hk.2⟩⟩)⟩,⟨Kd.bQ (R_ YQ) (fun _ hk=>⟨hk.1.1,⟨hk.1.2,hk.2⟩⟩)⟩,⟨Kd.bQ (R_ ae4) (fun _ hk=>⟨hk.1.2,⟨hk.2,hk.1.1⟩⟩)⟩,⟨Kd.bQ (R_ ae5) (fun _ hk=>⟨hk.1.2,⟨hk.2,hk.1.1⟩⟩)⟩,⟨R_ TE⟩,⟨R_ amA⟩,⟨R_ wI⟩,⟨R_ xG⟩,⟨b_ cZ⟩,⟨b_ eY⟩,⟨Bq HB⟩⟩
  replace OH:=Bool.eq_false_iff.mpr OH
  subst OH
  have H1:(dL.j0 k t216 t219 t222 t223 t226 t229 nT t233 t236 true aG aC)=some r:=by rw[if_neg (show ¬ (false=true) by decide)]at H;exact H
  clear H
  have H:=H1
  clear H1
  have H':=aA.mk H
  clear H
  have bjH:=ae3.out
  have bjI:=aa7.out
  have bqV:yA.cell? ⟨xO,0,none⟩=some (.slice rX t208.length qZ):=kc eY 0
  have bqW:yA.cell? ⟨xO,1,none⟩=some (.slice qM t211.length qC):=kc eY 1
  have hfz42_0:=aX eY.out 0
  have hfz42_1:=aX eY.out 1
  have bm2:yA.cell? ⟨pJ,0,none⟩=some (.slice aQ aG.length aK):=kc cZ 0
  have bm3:yA.cell? ⟨pJ,1,none⟩=some (.slice aT aC.length aJ):=kc cZ 1
  have hfz43_0:=aX cZ.out 0
  have hfz43_1:=aX cZ.out 1
  go_wp2_with (first|((with_reducible refine gJ (f:=21) rfl ?_);refine baF (some 47) rfl rfl Tryd.func21 (by kernel_rfl) rfl #[.agg #[.slice rX t208.length qZ,.slice qM t211.length qC],.agg #[.slice aQ aG.length aK,.slice aT aC.length aJ]] rfl (by(try simp only[List.map_toArray,List.map_cons,List.map_nil]);first|done|rfl|(simp only[List.length_drop,List.length_take];rfl)) ?_;(with_reducible refine(kJ.calls k _ _ t208 _ _ t211 _ _ aG _ _ aC false _ ?jK ?jL ?jM ?jO ?WB ?WC ?aUH ?aUI A32.out).mono ?_);(case jK=>exact rC wI);(case jL=>exact(Kd.dB wI.out).2.1);(case jM=>exact rC xG);(case jO=>exact(Kd.dB xG.out).2.1);(case WB=>repeat(first|exact(Kd.bJ eU.out HB.out)|(with_reducible refine Kd.jZ ?_ _)|(with_reducible refine Kd.kD ?_ _)|(with_reducible refine Kd.kC ?_)));(case WC=>exact fK.out);(case aUH=>repeat(first|exact(Kd.bJ fB.out HB.out)|(with_reducible refine Kd.jZ ?_ _)|(with_reducible refine Kd.kD ?_ _)|(with_reducible refine Kd.kC ?_)));(case aUI=>exact fM.out);rintro e PN ⟨rfl,hb⟩;refine⟨_,rfl,?_⟩;have aV:=RB wI hb;have aW:=RB xG hb;have aY:=RB YP hb;have bI:=RB YQ hb;have cO:=RB ae4 hb;have gY:=RB ae5 hb;have kR:=RB TE hb;have nD:=RB amA hb;have nH:=bb cZ hb;have nI:=bb eY hb;have nJ:=aA.mk (a9T (Bq HB) hb);clear wI;clear xG;clear YP;clear YQ;clear ae4;clear ae5;clear TE;clear amA;clear cZ;clear eY;clear HB;have wI:=aV;have xG:=aW;have YP:=aY;have YQ:=bI;have ae4:=cO;have ae5:=gY;have TE:=kR;have amA:=nD;have cZ:=nH;have eY:=nI;have HB:=nJ;clear aV aW aY bI cO gY kR nD nH nI nJ;(try clear hb);(try clear hb2);(try clear hk);(try clear hi)))
  go_meet
  case rel=>exact⟨_,(true),(by first|rfl|(simp;done)|(simp[*];done)),H',⟨by first|omega|exact Nat.le_refl _⟩,⟨Kd.bQ (R_ YP) (fun _ hk=>⟨hk.1.1,⟨hk.1.2,hk.2⟩⟩)⟩,⟨Kd.bQ (R_ YQ) (fun _ hk=>⟨hk.1.1,⟨hk.1.2,hk.2⟩⟩)⟩,⟨Kd.bQ (R_ ae4) (fun _ hk=>⟨hk.1.2,⟨hk.2,hk.1.1⟩⟩)⟩,⟨Kd.bQ (R_ ae5) (fun _ hk=>⟨hk.1.2,⟨hk.2,hk.1.1⟩⟩)⟩,⟨R_ TE⟩,⟨R_ amA⟩,⟨R_ wI⟩,⟨R_ xG⟩,⟨b_ cZ⟩,⟨b_ eY⟩,⟨Bq HB⟩⟩
 case rest=>as_aux_lemma=>
  clear aoW
  try clear c3
  try clear ahN
  try clear ahO
  try clear OW
  try clear OX
  try clear amO
  try clear amP
  try clear aq2
  try clear aq3
  try clear aRS
  try clear aRT
  try clear aZS
  try clear aZT
  try clear auD
  try clear auE
  try clear afD
  try clear afE
  try clear at7
  try clear auA
  try clear aEE
  try clear aEF
  try clear aRU
  try clear aRV
  try clear aZU
  try clear aZV
  obtain⟨kq,aHV,rfl,HA,PU,bP,dS,dM,dX,fH,iF,jA,jB,cZ,eY,HB⟩:=hcut
  rcases kq with _|UY
  ·exact absurd HA.out (by simp[dL.j0])
  have H:=HA.out
  clear HA
  simp only[dL.j0]at H
  by_cases DW:aHV=true
  ·subst DW
   have H1:(some false)=some r:=by rw[if_pos rfl]at H;exact H
   clear H
   have H:=H1
   clear H1
   obtain rfl:=Option.some.inj H
   go_wp2
   go_ret
   exact⟨by first|rfl|(simp[iU,iV]<;>rfl)|(simp[*,iU,iV]<;>rfl),Bq HB⟩
  replace DW:=Bool.eq_false_iff.mpr DW
  subst DW
  have H1:((jH.f UY aG aC).bind fun GH=>(if GH=0 then((pY.f aG aC).bind fun SH=>((eG.f UY aG aC SH).bind fun adS=>(dL.j1 UY t216 t219 t222 t223 t226 t229 nT t233 t236 GH (!adS) aG aC)))else(dL.j1 UY t216 t219 t222 t223 t226 t229 nT t233 t236 GH false aG aC)))=some r:=by rw[if_neg (show ¬ (false=true) by decide)]at H;exact H
  clear H
  have H:=H1
  clear H1
  replace H:=Option.bind_eq_some_iff.mp H
  obtain⟨GH,al0,H⟩:=H
  replace H:(if GH=0 then((pY.f aG aC).bind fun SH=>((eG.f UY aG aC SH).bind fun adS=>(dL.j1 UY t216 t219 t222 t223 t226 t229 nT t233 t236 GH (!adS) aG aC)))else(dL.j1 UY t216 t219 t222 t223 t226 t229 nT t233 t236 GH false aG aC))=some r:=H
  have A46:=aA.mk al0
  clear al0
  have apC:=aA.mk H
  clear H
  have biV:=aa7.out
  have biW:=ae3.out
  have aNT:wc.cell? ⟨pJ,0,none⟩=some (.slice aQ aG.length aK):=kc cZ 0
  have aNU:wc.cell? ⟨pJ,1,none⟩=some (.slice aT aC.length aJ):=kc cZ 1
  have btK:=aX cZ.out 0
  have btL:=aX cZ.out 1
  go_upto_region 11 with(first|((with_reducible refine gJ (f:=22) rfl ?_);refine baF (some 56) rfl rfl Tryd.func22 (by kernel_rfl) rfl #[.agg #[.slice aQ aG.length aK,.slice aT aC.length aJ]] rfl (by(try simp only[List.map_toArray,List.map_cons,List.map_nil]);first|done|rfl|(simp only[List.length_drop,List.length_take];rfl)) ?_;(with_reducible refine(jH.calls UY _ _ aG _ _ aC GH _ ?jK ?jL ?jM ?jO A46.out).mono ?_);(case jK=>repeat(first|exact(Kd.bJ eU.out HB.out)|(with_reducible refine Kd.jZ ?_ _)|(with_reducible refine Kd.kD ?_ _)|(with_reducible refine Kd.kC ?_)));(case jL=>exact fK.out);(case jM=>repeat(first|exact(Kd.bJ fB.out HB.out)|(with_reducible refine Kd.jZ ?_ _)|(with_reducible refine Kd.kD ?_ _)|(with_reducible refine Kd.kC ?_)));(case jO=>exact fM.out);rintro e w50 ⟨rfl,hb⟩;refine⟨_,rfl,?_⟩;have aV:=RB bP hb;have aW:=RB dS hb;have aY:=RB dM hb;have bI:=RB dX hb;have cO:=RB fH hb;have gY:=RB iF hb;have kR:=RB jA hb;have nD:=RB jB hb;have nH:=bb cZ hb;have nI:=bb eY hb;have nJ:=aA.mk (a9T (Bq HB) hb);clear bP;clear dS;clear dM;clear dX;clear fH;clear iF;clear jA;clear jB;clear cZ;clear eY;clear HB;have bP:=aV;have dS:=aW;have dM:=aY;have dX:=bI;have fH:=cO;have iF:=gY;have jA:=kR;have jB:=nD;have cZ:=nH;have eY:=nI;have HB:=nJ;clear aV aW aY bI cO gY kR nD nH nI nJ;(try clear hb);(try clear hb2);(try clear hk);(try clear hi)))
  (try simp only[Act.put,List.setIfInBounds_toArray,List.set_cons_zero,List.set_cons_succ])
  go_cut [65] (fun v65 wc=>∃ (kq:Nat) (aHW:Bool),v65=.bool aHW/\aA (dL.j1 kq t216 t219 t222 t223 t226 t229 nT t233 t236 GH aHW aG aC=some r)/\aA (kq<=UY)/\aA (Kd.R iD 42 wc w.heap.size (fun k_=>some k_≠(CW:Value).ownBlock/\some k_≠(CX:Value).ownBlock/\some k_≠(v227:Value).ownBlock) CV t216)/\aA (Kd.R iD 42 wc w.heap.size (fun k_=>some k_≠(CV:Value).ownBlock/\some k_≠(CX:Value).ownBlock/\some k_≠(v227:Value).ownBlock) CW t219)/\aA (Kd.R iD 42 wc w.heap.size (fun k_=>some k_≠(CV:Value).ownBlock/\some k_≠(CW:Value).ownBlock/\some k_≠(v227:Value).ownBlock) CX t223)/\aA (Kd.R iD 42 wc w.heap.size (fun k_=>some k_≠(CV:Value).ownBlock/\some k_≠(CW:Value).ownBlock/\some k_≠(CX:Value).ownBlock) v227 t226)/\aA (Kd.R (Kd.int .i64) 3 wc w.heap.size (fun k_=>some k_≠(v234:Value).ownBlock) wO nT)/\aA (Kd.R (Kd.int .i64) 3 wc w.heap.size (fun k_=>some k_≠(wO:Value).ownBlock) v234 t233)/\aA (Kd.R iJ 89 wc w.heap.size (fun _=>True) (.slice rX t208.length qZ) t208)/\aA (Kd.R iE 91 wc w.heap.size (fun _=>True) (.slice qM t211.length qC) t211)/\aA (wc.heap[pJ]? =some (.cells #[(.slice aQ aG.length aK),(.slice aT aC.length aJ)] 25 (0,0)))/\aA (wc.heap[xO]? =some (.cells #[(.slice rX t208.length qZ),(.slice qM t211.length qC)] 25 (0,0)))/\aA (Below w.heap.size w wc))
  case first=>
   have H:=apC.out
   clear apC
   by_cases c51:GH=0
   ·rw[if_pos c51]at H
    have aB9:(GH==0)=true:=beq_iff_eq.mpr c51
    have btM:(GH !=0)=false:=bne_eq_false_iff_eq.mpr c51
    clear c51
    (first|rw[aB9]|(simp only[wQ,yQ];rw[aB9])|skip)
    replace H:=Option.bind_eq_some_iff.mp H
    obtain⟨SH,aB5,H⟩:=H
    replace H:((eG.f UY aG aC SH).bind fun adS=>(dL.j1 UY t216 t219 t222 t223 t226 t229 nT t233 t236 GH (!adS) aG aC))=some r:=H
    have A52:=aA.mk aB5
    clear aB5
    replace H:=Option.bind_eq_some_iff.mp H
    obtain⟨adS,a7P,H⟩:=H
    replace H:(dL.j1 UY t216 t219 t222 t223 t226 t229 nT t233 t236 GH (!adS) aG aC)=some r:=H
    have A53:=aA.mk a7P
    clear a7P
    have H':=aA.mk H
    clear H
    try go_wp2
    have aV:=aA.mk (Kd.dG bP.out)
    have aW:=aA.mk (Kd.dG dS.out)
    have aY:=aA.mk (Kd.dG dM.out)
    have bI:=aA.mk (Kd.dG dX.out)
    have cO:=aA.mk (Kd.dG fH.out)
    have gY:=aA.mk (Kd.dG iF.out)
    have kR:=aA.mk (Kd.dG jA.out)
    have nD:=aA.mk (Kd.dG jB.out)
    have nH:=aA.mk (gI cZ.out)
    have nI:=aA.mk (gI eY.out)
    have nJ:=aA.mk (sW HB.out)
    clear bP dS dM dX fH iF jA jB cZ eY HB
    have bP:=aV
    have dS:=aW
    have dM:=aY
    have dX:=bI
    have fH:=cO
    have iF:=gY
    have jA:=kR
    have jB:=nD
    have cZ:=nH
    have eY:=nI
    have HB:=nJ
    clear aV aW aY bI cO gY kR nD nH nI nJ
    refine xP (n:=9) (S:=fun w'=>w'.cell? ⟨pJ,0,none⟩=some (.slice aQ aG.length aK)/\w'.cell? ⟨pJ,1,none⟩=some (.slice aT aC.length aJ)) (ds:=[]) (bl 9 0) (by kernel_rfl) rfl rfl ⟨kc cZ 0,kc cZ 1⟩ (fun hHeld=>?_);refine yS dL.a7I dL.a7J (fun aN jG=>?_)
    generalize w50.drew=w54 at bP dS dM dX fH iF jA jB cZ eY HB hHeld ⊢
    refine pS 0 57 9 1 aN ?_
    refine pS 1 58 9 3 aN ?_
    refine pS 2 59 9 7 aN ?_
    refine tq 3 (some 60) (bl 9 15) aN jG hHeld (h:=?_)
    refine tq 4 (some 61) (bl 9 31) aN jG hHeld (h:=?_)
    refine lI (i:=5) (N:=some 62) (bl 9 63) rfl rfl (lJ aN.out (by kernel_rfl)) (by decide) (fun K hK=>?_)
    refine rD Tryd.func24 (by kernel_rfl) rfl #[.agg #[.slice aQ aG.length aK,.slice aT aC.length aJ]] (by rfl) rfl rfl (by(try simp only[List.map_toArray,List.map_cons,List.map_nil]);first|done|rfl|(simp only[List.length_drop,List.length_take];rfl)) ?_
    with_reducible refine(pY.calls _ _ aG _ _ aC SH _ ?jK ?jL ?jM ?jO A52.out).mono ?_
    (case jK=>repeat(first|exact(Kd.bJ eU.out HB.out)|(with_reducible refine Kd.jZ ?_ _)|(with_reducible refine Kd.kD ?_ _)|(with_reducible refine Kd.kC ?_)))
    (case jL=>exact fK.out)
    (case jM=>repeat(first|exact(Kd.bJ fB.out HB.out)|(with_reducible refine Kd.jZ ?_ _)|(with_reducible refine Kd.kD ?_ _)|(with_reducible refine Kd.kC ?_)))
    (case jO=>exact fM.out)
    rintro e w55 ⟨rfl,hb⟩
    refine⟨_,rfl,?_⟩
    have aV:=RB bP hb
    have aW:=RB dS hb
    have aY:=RB dM hb
    have bI:=RB dX hb
    have cO:=RB fH hb
    have gY:=RB iF hb
    have kR:=RB jA hb
    have nD:=RB jB hb
    have nH:=bb cZ hb
    have nI:=bb eY hb
    have nJ:=aA.mk (a9T (Bq HB) hb)
    clear bP dS dM dX fH iF jA jB cZ eY HB
    have bP:=aV
    have dS:=aW
    have dM:=aY
    have dX:=bI
    have fH:=cO
    have iF:=gY
    have jA:=kR
    have jB:=nD
    have cZ:=nH
    have eY:=nI
    have HB:=nJ
    clear aV aW aY bI cO gY kR nD nH nI nJ
    (try clear hb)
    (try clear hb2)
    (try clear hk)
    (try clear hi)
    refine hK.out _ _ ⟨kc cZ 0,kc cZ 1⟩ (fun hHeld=>?_)
    clear hK K
    refine nq 62 ?_
    refine lI (i:=6) (N:=some 63) (bl 9 127) rfl rfl (lJ aN.out (by kernel_rfl)) (by decide) (fun K hK=>?_)
    refine rD Tryd.func23 (by kernel_rfl) rfl #[.agg #[.slice aQ aG.length aK,.slice aT aC.length aJ],.int .i64 SH] (by rfl) rfl rfl (by(try simp only[List.map_toArray,List.map_cons,List.map_nil]);first|done|rfl|(simp only[List.length_drop,List.length_take];rfl)) ?_
    with_reducible refine(eG.calls UY _ _ aG _ _ aC SH adS _ ?jK ?jL ?jM ?jO A53.out).mono ?_
    (case jK=>repeat(first|exact(Kd.bJ eU.out HB.out)|(with_reducible refine Kd.jZ ?_ _)|(with_reducible refine Kd.kD ?_ _)|(with_reducible refine Kd.kC ?_)))
    (case jL=>exact fK.out)
    (case jM=>repeat(first|exact(Kd.bJ fB.out HB.out)|(with_reducible refine Kd.jZ ?_ _)|(with_reducible refine Kd.kD ?_ _)|(with_reducible refine Kd.kC ?_)))
    (case jO=>exact fM.out)
    rintro e w56 ⟨rfl,hb⟩
    refine⟨_,rfl,?_⟩
    have aV:=RB bP hb
    have aW:=RB dS hb
    have aY:=RB dM hb
    have bI:=RB dX hb
    have cO:=RB fH hb
    have gY:=RB iF hb
    have kR:=RB jA hb
    have nD:=RB jB hb
    have nH:=bb cZ hb
    have nI:=bb eY hb
    have nJ:=aA.mk (a9T (Bq HB) hb)
    clear bP dS dM dX fH iF jA jB cZ eY HB
    have bP:=aV
    have dS:=aW
    have dM:=aY
    have dX:=bI
    have fH:=cO
    have iF:=gY
    have jA:=kR
    have jB:=nD
    have cZ:=nH
    have eY:=nI
    have HB:=nJ
    clear aV aW aY bI cO gY kR nD nH nI nJ
    (try clear hb)
    (try clear hb2)
    (try clear hk)
    (try clear hi)
    refine hK.out _ _ ⟨kc cZ 0,kc cZ 1⟩ (fun hHeld=>?_)
    clear hK K
    refine nq 63 ?_
    refine pS 7 64 9 255 aN ?_
    refine pS 8 65 9 511 aN ?_
    refine xQ (yR aN.out (by kernel_rfl)) ?_
    try go_wp2
    go_meet
    case rel=>exact⟨_,(!adS),(by first|rfl|(simp;done)|(simp[*];done)),H',⟨by have:=PU.out;first|omega|exact Nat.le_refl _⟩,⟨R_ bP⟩,⟨R_ dS⟩,⟨R_ dM⟩,⟨R_ dX⟩,⟨R_ fH⟩,⟨R_ iF⟩,⟨R_ jA⟩,⟨R_ jB⟩,⟨b_ cZ⟩,⟨b_ eY⟩,⟨Bq HB⟩⟩
   rw[if_neg c51]at H
   have aB9:(GH==0)=false:=beq_eq_false_iff_ne.mpr c51
   have btM:(GH !=0)=true:=bne_iff_ne.mpr c51
   (first|rw[aB9]|(simp only[wQ,yQ];rw[aB9])|skip)
   have H':=aA.mk H
   clear H
   try go_wp2
   have aV:=aA.mk (Kd.dG bP.out)
   have aW:=aA.mk (Kd.dG dS.out)
   have aY:=aA.mk (Kd.dG dM.out)
   have bI:=aA.mk (Kd.dG dX.out)
   have cO:=aA.mk (Kd.dG fH.out)
   have gY:=aA.mk (Kd.dG iF.out)
   have kR:=aA.mk (Kd.dG jA.out)
   have nD:=aA.mk (Kd.dG jB.out)
   have nH:=aA.mk (gI cZ.out)
   have nI:=aA.mk (gI eY.out)
   have nJ:=aA.mk (sW HB.out)
   clear bP dS dM dX fH iF jA jB cZ eY HB
   have bP:=aV
   have dS:=aW
   have dM:=aY
   have dX:=bI
   have fH:=cO
   have iF:=gY
   have jA:=kR
   have jB:=nD
   have cZ:=nH
   have eY:=nI
   have HB:=nJ
   clear aV aW aY bI cO gY kR nD nH nI nJ
   refine xP (n:=9) (S:=fun w'=>True) (ds:=[]) (bl 9 0) (by kernel_rfl) rfl rfl trivial (fun hHeld=>?_);refine yS dL.a7I dL.a7J (fun aN jG=>?_)
   generalize w50.drew=w57 at bP dS dM dX fH iF jA jB cZ eY HB hHeld ⊢
   refine pS 0 57 9 1 aN ?_
   refine pS 1 58 9 3 aN ?_
   refine pS 2 59 9 7 aN ?_
   refine oS 3 60 9 15 aN ?_
   refine oS 4 61 9 31 aN ?_
   refine oS 5 62 9 63 aN ?_
   refine oS 6 63 9 127 aN ?_
   refine oS 7 64 9 255 aN ?_
   refine pS 8 65 9 511 aN ?_
   refine xQ (yR aN.out (by kernel_rfl)) ?_
   try go_wp2
   go_meet
   case rel=>exact⟨_,(false),(by first|rfl|(simp;done)|(simp[*];done)),H',⟨by have:=PU.out;first|omega|exact Nat.le_refl _⟩,⟨R_ bP⟩,⟨R_ dS⟩,⟨R_ dM⟩,⟨R_ dX⟩,⟨R_ fH⟩,⟨R_ iF⟩,⟨R_ jA⟩,⟨R_ jB⟩,⟨b_ cZ⟩,⟨b_ eY⟩,⟨Bq HB⟩⟩
  case rest=>as_aux_lemma=>
   clear apC
   try clear DW
   try clear aNT
   try clear aNU
   try clear btK
   try clear btL
   obtain⟨kq,aHW,rfl,HA,TJ,bP,dS,dM,dX,fH,iF,jA,jB,cZ,eY,HB⟩:=hcut
   rcases kq with _|ag2
   ·exact absurd HA.out (by simp[dL.j1])
   have H:=HA.out
   clear HA
   simp only[dL.j1]at H
   have aSB:=aA.mk H
   clear H
   go_upto_if 65 with(fail)
   go_cut [14] (fun v14 wc=>∃ (kq:Nat) (EX:Int),v14=.int .i64 EX/\aA (dL.j2 kq t216 t219 t222 t223 t226 t229 nT t233 t236 EX aG aC=some r)/\aA (kq<=ag2)/\aA (Kd.R iD 42 wc w.heap.size (fun k_=>some k_≠(CW:Value).ownBlock/\some k_≠(CX:Value).ownBlock/\some k_≠(v227:Value).ownBlock) CV t216)/\aA (Kd.R iD 42 wc w.heap.size (fun k_=>some k_≠(CV:Value).ownBlock/\some k_≠(CX:Value).ownBlock/\some k_≠(v227:Value).ownBlock) CW t219)/\aA (Kd.R iD 42 wc w.heap.size (fun k_=>some k_≠(CV:Value).ownBlock/\some k_≠(CW:Value).ownBlock/\some k_≠(v227:Value).ownBlock) CX t223)/\aA (Kd.R iD 42 wc w.heap.size (fun k_=>some k_≠(CV:Value).ownBlock/\some k_≠(CW:Value).ownBlock/\some k_≠(CX:Value).ownBlock) v227 t226)/\aA (Kd.R (Kd.int .i64) 3 wc w.heap.size (fun k_=>some k_≠(v234:Value).ownBlock) wO nT)/\aA (Kd.R (Kd.int .i64) 3 wc w.heap.size (fun k_=>some k_≠(wO:Value).ownBlock) v234 t233)/\aA (Kd.R iJ 89 wc w.heap.size (fun _=>True) (.slice rX t208.length qZ) t208)/\aA (Kd.R iE 91 wc w.heap.size (fun _=>True) (.slice qM t211.length qC) t211)/\aA (wc.heap[pJ]? =some (.cells #[(.slice aQ aG.length aK),(.slice aT aC.length aJ)] 25 (0,0)))/\aA (wc.heap[xO]? =some (.cells #[(.slice rX t208.length qZ),(.slice qM t211.length qC)] 25 (0,0)))/\aA (Below w.heap.size w wc))
   case first=>
    have H:=aSB.out
    clear aSB
    by_cases c59:aHW=true
    ·subst c59
     have H1:(dL.j2 ag2 t216 t219 t222 t223 t226 t229 nT t233 t236 9 aG aC)=some r:=by rw[if_pos rfl]at H;exact H
     clear H
     have H:=H1
     clear H1
     have H':=aA.mk H
     clear H
     go_wp2
     go_meet
     case rel=>exact⟨_,(9),(by first|rfl|(simp;done)|(simp[*];done)),H',⟨by have:=PU.out;have:=TJ.out;first|omega|exact Nat.le_refl _⟩,⟨R_ bP⟩,⟨R_ dS⟩,⟨R_ dM⟩,⟨R_ dX⟩,⟨R_ fH⟩,⟨R_ iF⟩,⟨R_ jA⟩,⟨R_ jB⟩,⟨b_ cZ⟩,⟨b_ eY⟩,⟨Bq HB⟩⟩
    replace c59:=Bool.eq_false_iff.mpr c59
    subst c59
    have H1:(dL.j2 ag2 t216 t219 t222 t223 t226 t229 nT t233 t236 GH aG aC)=some r:=by rw[if_neg (show ¬ (false=true) by decide)]at H;exact H
    clear H
    have H:=H1
    clear H1
    have H':=aA.mk H
    clear H
    go_wp2
    go_meet
    case rel=>exact⟨_,(GH),(by first|rfl|(simp;done)|(simp[*];done)),H',⟨by have:=PU.out;have:=TJ.out;first|omega|exact Nat.le_refl _⟩,⟨R_ bP⟩,⟨R_ dS⟩,⟨R_ dM⟩,⟨R_ dX⟩,⟨R_ fH⟩,⟨R_ iF⟩,⟨R_ jA⟩,⟨R_ jB⟩,⟨b_ cZ⟩,⟨b_ eY⟩,⟨Bq HB⟩⟩
   case rest=>as_aux_lemma=>
    clear aSB
    obtain⟨kq,EX,rfl,HA,YR,bP,dS,dM,dX,fH,iF,jA,jB,cZ,eY,HB⟩:=hcut
    rcases kq with _|ag4
    ·exact absurd HA.out (by simp[dL.j2])
    have H:=HA.out
    clear HA
    simp only[dL.j2]at H
    by_cases c60:EX=0
    ·rw[if_pos c60]at H
     have a7Q:(EX==0)=true:=beq_iff_eq.mpr c60
     have a7R:(EX !=0)=false:=bne_eq_false_iff_eq.mpr c60
     clear c60
     replace H:=Option.bind_eq_some_iff.mp H
     obtain⟨kT,a7S,H⟩:=H
     replace H:((iC.f ag4 aG aC true).bind fun lC=>(dL.l0 ag4 t216 t219 t222 t223 t226 t229 nT t233 t236 kT lC (([]:List Int)) (([]:List Int)) 0 aG aC))=some r:=H
     have A61:=aA.mk a7S
     clear a7S
     replace H:=Option.bind_eq_some_iff.mp H
     obtain⟨lC,a7T,H⟩:=H
     replace H:(dL.l0 ag4 t216 t219 t222 t223 t226 t229 nT t233 t236 kT lC (([]:List Int)) (([]:List Int)) 0 aG aC)=some r:=H
     have A62:=aA.mk a7T
     clear a7T
     obtain⟨aSC,aCA⟩:∃ y_:List Int,y_=(([]:List Int)):=⟨_,rfl⟩
     replace H:(dL.l0 ag4 t216 t219 t222 t223 t226 t229 nT t233 t236 kT lC aSC (([]:List Int)) 0 aG aC)=some r:=by first|(rw[aCA];with_reducible exact H)|(have dJ:=(Option.bind_some _ _).symm.trans H;rw[aCA];with_reducible exact dJ)|(have dJ:=(Option.bind_some _ _).symm.trans H;with_reducible exact dJ)|with_reducible exact H|(rw[aCA];exact H)|exact H
     have a7U:=aA.mk aCA
     clear aCA
     obtain⟨a7V,aCB⟩:∃ y_:List Int,y_=(([]:List Int)):=⟨_,rfl⟩
     replace H:(dL.l0 ag4 t216 t219 t222 t223 t226 t229 nT t233 t236 kT lC aSC a7V 0 aG aC)=some r:=by first|(rw[aCB];with_reducible exact H)|(have dJ:=(Option.bind_some _ _).symm.trans H;rw[aCB];with_reducible exact dJ)|(have dJ:=(Option.bind_some _ _).symm.trans H;with_reducible exact dJ)|with_reducible exact H|(rw[aCB];exact H)|exact H
     have a7W:=aA.mk aCB
     clear aCB
     have H':=aA.mk H
     clear H
     try go_wp2
     have aV:=aA.mk (Kd.dG bP.out)
     have aW:=aA.mk (Kd.dG dS.out)
     have aY:=aA.mk (Kd.dG dM.out)
     have bI:=aA.mk (Kd.dG dX.out)
     have cO:=aA.mk (Kd.dG fH.out)
     have gY:=aA.mk (Kd.dG iF.out)
     have kR:=aA.mk (Kd.dG jA.out)
     have nD:=aA.mk (Kd.dG jB.out)
     have nH:=aA.mk (gI cZ.out)
     have nI:=aA.mk (gI eY.out)
     have nJ:=aA.mk (sW HB.out)
     clear bP dS dM dX fH iF jA jB cZ eY HB
     have bP:=aV
     have dS:=aW
     have dM:=aY
     have dX:=bI
     have fH:=cO
     have iF:=gY
     have jA:=kR
     have jB:=nD
     have cZ:=nH
     have eY:=nI
     have HB:=nJ
     clear aV aW aY bI cO gY kR nD nH nI nJ
     refine xP (n:=6) (S:=fun w'=>w'.cell? ⟨pJ,0,none⟩=some (.slice aQ aG.length aK)/\w'.cell? ⟨pJ,1,none⟩=some (.slice aT aC.length aJ)) (ds:=[]) (bl 6 0) (by kernel_rfl) rfl rfl ⟨kc cZ 0,kc cZ 1⟩ (fun hHeld=>?_)
     generalize wc.drew=w63 at bP dS dM dX fH iF jA jB cZ eY HB hHeld ⊢
     refine amE (i:=0) (N:=some 104) (v:=?_) (a':=?_) (bl 6 1) rfl rfl (by kernel_rfl) (fun _ _ _ h=>h) (Or.inl ⟨by rfl,?_⟩) hHeld ?_ ?_
     rotate_left
     ·rintro w' ⟨s0,s1⟩
      go_simp
      with_reducible rfl
     rotate_left
     ·simp only[Act.put,List.setIfInBounds_toArray,List.set_cons_zero,List.set_cons_succ,wQ,yQ]
      rfl
     refine amE (i:=2) (N:=some 106) (v:=?_) (a':=?_) (bl 6 5) rfl rfl (by kernel_rfl) (fun _ _ _ h=>h) (Or.inl ⟨by rfl,?_⟩) hHeld ?_ ?_
     rotate_left
     ·rintro w' ⟨s0,s1⟩
      go_simp
      with_reducible rfl
     rotate_left
     ·simp only[Act.put,List.setIfInBounds_toArray,List.set_cons_zero,List.set_cons_succ,wQ,yQ]
      rfl
     refine lI (i:=1) (N:=some 105) (bl 6 7) rfl rfl (by kernel_rfl) (by decide) (fun K hK=>?_)
     refine rD Tryd.func25 (by kernel_rfl) rfl #[.agg #[.slice aQ aG.length aK,.slice aT aC.length aJ],.bool false] (by rfl) rfl rfl (by(try simp only[List.map_toArray,List.map_cons,List.map_nil]);first|done|rfl|(simp only[List.length_drop,List.length_take];rfl)) ?_
     with_reducible refine(iC.calls ag4 _ _ aG _ _ aC false kT _ ?jK ?jL ?jM ?jO A61.out).mono ?_
     (case jK=>repeat(first|exact(Kd.bJ eU.out HB.out)|(with_reducible refine Kd.jZ ?_ _)|(with_reducible refine Kd.kD ?_ _)|(with_reducible refine Kd.kC ?_)))
     (case jL=>exact fK.out)
     (case jM=>repeat(first|exact(Kd.bJ fB.out HB.out)|(with_reducible refine Kd.jZ ?_ _)|(with_reducible refine Kd.kD ?_ _)|(with_reducible refine Kd.kC ?_)))
     (case jO=>exact fM.out)
     rintro e jF ⟨as5,rfl,ho0,hb⟩
     refine⟨_,rfl,?_⟩
     have aV:=aA.mk (Kd.gW (R_ bP) (Kd.fF ho0) hb)
     have aW:=aA.mk (Kd.gW (R_ dS) (Kd.fF ho0) hb)
     have aY:=aA.mk (Kd.gW (R_ dM) (Kd.fF ho0) hb)
     have bI:=aA.mk (Kd.gW (R_ dX) (Kd.fF ho0) hb)
     have cO:=RB fH hb
     have gY:=RB iF hb
     have kR:=RB jA hb
     have nD:=RB jB hb
     have nH:=aA.mk (Kd.eF (Kd.fG (Kd.fG (Kd.fG (Kd.fG ho0 (Kd.dY (R_ bP))) (Kd.dY (R_ dS))) (Kd.dY (R_ dM))) (Kd.dY (R_ dX))) (dH (Bq HB)))
     have nI:=bb cZ hb
     have nJ:=bb eY hb
     have uT:=aA.mk (a9T (Bq HB) hb)
     clear bP dS dM dX fH iF jA jB cZ eY HB
     have bP:=aV
     have dS:=aW
     have dM:=aY
     have dX:=bI
     have fH:=cO
     have iF:=gY
     have jA:=kR
     have jB:=nD
     have ag5:=nH
     have cZ:=nI
     have eY:=nJ
     have HB:=uT
     clear aV aW aY bI cO gY kR nD nH nI nJ uT
     (try clear hb)
     (try clear hb2)
     (try clear hk)
     (try clear hi)
     (try clear ho0)
     refine hK.out _ _ ⟨kc cZ 0,kc cZ 1⟩ (fun hHeld=>?_)
     clear hK K
     refine nq 105 ?_
     refine lI (i:=3) (N:=some 107) (bl 6 15) rfl rfl (by kernel_rfl) (by decide) (fun K hK=>?_)
     refine rD Tryd.func25 (by kernel_rfl) rfl #[.agg #[.slice aQ aG.length aK,.slice aT aC.length aJ],.bool true] (by rfl) rfl rfl (by(try simp only[List.map_toArray,List.map_cons,List.map_nil]);first|done|rfl|(simp only[List.length_drop,List.length_take];rfl)) ?_
     with_reducible refine(iC.calls ag4 _ _ aG _ _ aC true lC _ ?jK ?jL ?jM ?jO A62.out).mono ?_
     (case jK=>repeat(first|exact(Kd.bJ eU.out HB.out)|(with_reducible refine Kd.jZ ?_ _)|(with_reducible refine Kd.kD ?_ _)|(with_reducible refine Kd.kC ?_)))
     (case jL=>exact fK.out)
     (case jM=>repeat(first|exact(Kd.bJ fB.out HB.out)|(with_reducible refine Kd.jZ ?_ _)|(with_reducible refine Kd.kD ?_ _)|(with_reducible refine Kd.kC ?_)))
     (case jO=>exact fM.out)
     rintro e w65 ⟨aa8,rfl,ho0,hb⟩
     refine⟨_,rfl,?_⟩
     have aV:=aA.mk (Kd.gW (R_ bP) (Kd.fF ho0) hb)
     have aW:=aA.mk (Kd.gW (R_ dS) (Kd.fF ho0) hb)
     have aY:=aA.mk (Kd.gW (R_ dM) (Kd.fF ho0) hb)
     have bI:=aA.mk (Kd.gW (R_ dX) (Kd.fF ho0) hb)
     have cO:=RB fH hb
     have gY:=RB iF hb
     have kR:=RB jA hb
     have nD:=RB jB hb
     have nH:=aA.mk (Kd.gW (R_ ag5) (Kd.fF ho0) hb)
     have nI:=aA.mk (Kd.eF (Kd.fG (Kd.fG (Kd.fG (Kd.fG (Kd.fG ho0 (Kd.dY (R_ bP))) (Kd.dY (R_ dS))) (Kd.dY (R_ dM))) (Kd.dY (R_ dX))) (Kd.dY (R_ ag5))) (dH (Bq HB)))
     have nJ:=bb cZ hb
     have uT:=bb eY hb
     have zM:=aA.mk (a9T (Bq HB) hb)
     clear bP dS dM dX fH iF jA jB ag5 cZ eY HB
     have bP:=aV
     have dS:=aW
     have dM:=aY
     have dX:=bI
     have fH:=cO
     have iF:=gY
     have jA:=kR
     have jB:=nD
     have ag5:=nH
     have aCC:=nI
     have cZ:=nJ
     have eY:=uT
     have HB:=zM
     clear aV aW aY bI cO gY kR nD nH nI nJ uT zM
     (try clear hb)
     (try clear hb2)
     (try clear hk)
     (try clear hi)
     (try clear ho0)
     refine hK.out _ _ ⟨kc cZ 0,kc cZ 1⟩ (fun hHeld=>?_)
     clear hK K
     refine nq 107 ?_
     refine ap1 (i:=4) (N:=some 15) (v:=?_) (a':=?_) (bl 6 31) rfl rfl (by kernel_rfl) (fun _ _ _ h=>h) (Or.inl ⟨by rfl,?_⟩) ?_ ?_
     rotate_left
     ·intro w'
      go_simp
      with_reducible rfl
     rotate_left
     ·simp only[Act.put,List.setIfInBounds_toArray,List.set_cons_zero,List.set_cons_succ,wQ,yQ]
      rfl
     refine ap1 (i:=5) (N:=some 16) (v:=?_) (a':=?_) (bl 6 63) rfl rfl (by kernel_rfl) (fun _ _ _ h=>h) (Or.inl ⟨by rfl,?_⟩) ?_ ?_
     rotate_left
     ·intro w'
      go_simp
      with_reducible rfl
     rotate_left
     ·simp only[Act.put,List.setIfInBounds_toArray,List.set_cons_zero,List.set_cons_succ,wQ,yQ]
      rfl
     refine xQ (by kernel_rfl) ?_
     try go_wp2_with (first|((with_reducible refine dU (N:=108) rfl ?_);(try(refine xJ (by rfl) ?_;dsimp only));refine Kd.YX (Kd.int .i64) _ 3 ?hg (N:=108) ?hd (xs:=([]:List Int)) (inner:=[]) (ok:=fun _=>True) (lS:=fun _=>True) ?hr ?hp (fun _ hk=>hk) trivial (Below.refl _ _) (Nat.le_refl _) (by simp) ?_;(case hd=>rfl);(case hg=>rfl);(case hr=>first|(go_simp;done)|(go_simp;rfl));(case hp=>exact(gX.none _ _));intro v250 w66 apH hb mF mG;clear mF mG;(first|rw[<-a7U.out]at apH|(simp only[Int.reduceToNat]at apH;rw[<-a7U.out]at apH));have aV:=RB bP hb;have aW:=RB dS hb;have aY:=RB dM hb;have bI:=RB dX hb;have cO:=aA.mk (Kd.gW (R_ fH) (Kd.fF apH) hb);have gY:=aA.mk (Kd.gW (R_ iF) (Kd.fF apH) hb);have kR:=RB jA hb;have nD:=RB jB hb;have nH:=RB ag5 hb;have nI:=RB aCC hb;have nJ:=aA.mk (Kd.eF (Kd.fG (Kd.fG apH (Kd.dY (R_ fH))) (Kd.dY (R_ iF))) (dH (Bq HB)));have uT:=bb cZ hb;have zM:=bb eY hb;have YT:=aA.mk (a9T (Bq HB) hb);clear bP;clear dS;clear dM;clear dX;clear fH;clear iF;clear jA;clear jB;clear ag5;clear aCC;clear cZ;clear eY;clear HB;have bP:=aV;have dS:=aW;have dM:=aY;have dX:=bI;have fH:=cO;have iF:=gY;have jA:=kR;have jB:=nD;have ag5:=nH;have aCC:=nI;have aHX:=nJ;have cZ:=uT;have eY:=zM;have HB:=YT;clear aV aW aY bI cO gY kR nD nH nI nJ uT zM YT;clear hb apH)|((with_reducible refine dU (N:=109) rfl ?_);(try(refine xJ (by rfl) ?_;dsimp only));refine Kd.YX (Kd.int .i64) _ 3 ?hg (N:=109) ?hd (xs:=([]:List Int)) (inner:=[]) (ok:=fun _=>True) (lS:=fun _=>True) ?hr ?hp (fun _ hk=>hk) trivial (Below.refl _ _) (Nat.le_refl _) (by simp) ?_;(case hd=>rfl);(case hg=>rfl);(case hr=>first|(go_simp;done)|(go_simp;rfl));(case hp=>exact(gX.none _ _));intro v253 w68 amC hb mF mG;clear mF mG;(first|rw[<-a7W.out]at amC|(simp only[Int.reduceToNat]at amC;rw[<-a7W.out]at amC));have aV:=RB bP hb;have aW:=RB dS hb;have aY:=RB dM hb;have bI:=RB dX hb;have cO:=aA.mk (Kd.gW (R_ fH) (Kd.fF amC) hb);have gY:=aA.mk (Kd.gW (R_ iF) (Kd.fF amC) hb);have kR:=RB jA hb;have nD:=RB jB hb;have nH:=RB ag5 hb;have nI:=RB aCC hb;have nJ:=aA.mk (Kd.gW (R_ aHX) (Kd.fF amC) hb);have uT:=aA.mk (Kd.eF (Kd.fG (Kd.fG (Kd.fG amC (Kd.dY (R_ fH))) (Kd.dY (R_ iF))) (Kd.dY (R_ aHX))) (dH (Bq HB)));have zM:=bb cZ hb;have YT:=bb eY hb;have YU:=aA.mk (a9T (Bq HB) hb);clear bP;clear dS;clear dM;clear dX;clear fH;clear iF;clear jA;clear jB;clear ag5;clear aCC;clear aHX;clear cZ;clear eY;clear HB;have bP:=aV;have dS:=aW;have dM:=aY;have dX:=bI;have fH:=cO;have iF:=gY;have jA:=kR;have jB:=nD;have ag5:=nH;have aCC:=nI;have aHX:=nJ;have btQ:=uT;have cZ:=zM;have eY:=YT;have HB:=YU;clear aV aW aY bI cO gY kR nD nH nI nJ uT zM YT YU;clear hb amC))
     go_loopg [17,18,19] ag4 (fun kq v17 v18 v19 w'=>∃ (wP:List Int) (sV:List Int) (fA:Int),v19=.int .i64 fA/\aA (dL.l0 kq t216 t219 t222 t223 t226 t229 nT t233 t236 kT lC wP sV fA aG aC=some r)/\aA (kq<=ag4)/\aA (Kd.R iD 42 w' w.heap.size (fun k_=>some k_≠(CW:Value).ownBlock/\some k_≠(CX:Value).ownBlock/\some k_≠(v227:Value).ownBlock/\some k_≠(as5:Value).ownBlock/\some k_≠(aa8:Value).ownBlock) CV t216)/\aA (Kd.R iD 42 w' w.heap.size (fun k_=>some k_≠(CV:Value).ownBlock/\some k_≠(CX:Value).ownBlock/\some k_≠(v227:Value).ownBlock/\some k_≠(as5:Value).ownBlock/\some k_≠(aa8:Value).ownBlock) CW t219)/\aA (Kd.R iD 42 w' w.heap.size (fun k_=>some k_≠(CV:Value).ownBlock/\some k_≠(CW:Value).ownBlock/\some k_≠(v227:Value).ownBlock/\some k_≠(as5:Value).ownBlock/\some k_≠(aa8:Value).ownBlock) CX t223)/\aA (Kd.R iD 42 w' w.heap.size (fun k_=>some k_≠(CV:Value).ownBlock/\some k_≠(CW:Value).ownBlock/\some k_≠(CX:Value).ownBlock/\some k_≠(as5:Value).ownBlock/\some k_≠(aa8:Value).ownBlock) v227 t226)/\aA (Kd.R (Kd.int .i64) 3 w' w.heap.size (fun k_=>some k_≠(v234:Value).ownBlock/\some k_≠(v17:Value).ownBlock/\some k_≠(v18:Value).ownBlock) wO nT)/\aA (Kd.R (Kd.int .i64) 3 w' w.heap.size (fun k_=>some k_≠(wO:Value).ownBlock/\some k_≠(v17:Value).ownBlock/\some k_≠(v18:Value).ownBlock) v234 t233)/\aA (Kd.R iD 42 w' w.heap.size (fun k_=>some k_≠(CV:Value).ownBlock/\some k_≠(CW:Value).ownBlock/\some k_≠(CX:Value).ownBlock/\some k_≠(v227:Value).ownBlock/\some k_≠(aa8:Value).ownBlock) as5 kT)/\aA (Kd.R iD 42 w' w.heap.size (fun k_=>some k_≠(CV:Value).ownBlock/\some k_≠(CW:Value).ownBlock/\some k_≠(CX:Value).ownBlock/\some k_≠(v227:Value).ownBlock/\some k_≠(as5:Value).ownBlock) aa8 lC)/\aA (Kd.R (Kd.int .i64) 3 w' w.heap.size (fun k_=>some k_≠(wO:Value).ownBlock/\some k_≠(v234:Value).ownBlock/\some k_≠(v18:Value).ownBlock) v17 wP)/\aA (Kd.R (Kd.int .i64) 3 w' w.heap.size (fun k_=>some k_≠(wO:Value).ownBlock/\some k_≠(v234:Value).ownBlock/\some k_≠(v17:Value).ownBlock) v18 sV)/\aA (Kd.R iJ 89 w' w.heap.size (fun _=>True) (.slice rX t208.length qZ) t208)/\aA (Kd.R iE 91 w' w.heap.size (fun _=>True) (.slice qM t211.length qC) t211)/\aA (w'.heap[pJ]? =some (.cells #[(.slice aQ aG.length aK),(.slice aT aC.length aJ)] 25 (0,0)))/\aA (w'.heap[xO]? =some (.cells #[(.slice rX t208.length qZ),(.slice qM t211.length qC)] 25 (0,0)))/\aA (Below w.heap.size w w'))
     case atStart=>exact⟨(aSC),(a7V),(0),(by first|rfl|(simp;done)|(simp[*];done)),H',⟨Nat.le_refl _⟩,⟨Kd.bQ (R_ bP) (fun _ hk=>⟨hk.1.1.1,⟨hk.1.1.2.1,⟨hk.1.1.2.2,⟨hk.1.2,hk.2⟩⟩⟩⟩)⟩,⟨Kd.bQ (R_ dS) (fun _ hk=>⟨hk.1.1.1,⟨hk.1.1.2.1,⟨hk.1.1.2.2,⟨hk.1.2,hk.2⟩⟩⟩⟩)⟩,⟨Kd.bQ (R_ dM) (fun _ hk=>⟨hk.1.1.1,⟨hk.1.1.2.1,⟨hk.1.1.2.2,⟨hk.1.2,hk.2⟩⟩⟩⟩)⟩,⟨Kd.bQ (R_ dX) (fun _ hk=>⟨hk.1.1.1,⟨hk.1.1.2.1,⟨hk.1.1.2.2,⟨hk.1.2,hk.2⟩⟩⟩⟩)⟩,⟨Kd.bQ (R_ fH) (fun _ hk=>⟨hk.1.1,⟨hk.1.2,hk.2⟩⟩)⟩,⟨Kd.bQ (R_ iF) (fun _ hk=>⟨hk.1.1,⟨hk.1.2,hk.2⟩⟩)⟩,⟨Kd.bQ (R_ ag5) (fun _ hk=>⟨hk.1.1.1.1.2,⟨hk.1.1.1.2,⟨hk.1.1.2,⟨hk.1.2,hk.2⟩⟩⟩⟩)⟩,⟨Kd.bQ (R_ aCC) (fun _ hk=>⟨hk.1.1.1.1.2,⟨hk.1.1.1.2,⟨hk.1.1.2,⟨hk.1.2,hk.2⟩⟩⟩⟩)⟩,⟨Kd.bQ (R_ aHX) (fun _ hk=>⟨hk.1.1.2,⟨hk.1.2,hk.2⟩⟩)⟩,⟨Kd.bQ (R_ btQ) (fun _ hk=>⟨hk.1.1.2,⟨hk.1.2,hk.2⟩⟩)⟩,⟨R_ jA⟩,⟨R_ jB⟩,⟨b_ cZ⟩,⟨b_ eY⟩,⟨Bq HB⟩⟩
     case round=>as_aux_lemma=>
      clear H'
      try clear c60
      try clear a7Q
      try clear a7R
      obtain⟨wP,sV,fA,rfl,HA,YS,bP,dS,dM,dX,fH,iF,iM,iT,jY,kU,jA,jB,cZ,eY,HB⟩:=hrel
      rcases gk with _|k4
      ·exact absurd HA.out (by simp[dL.l0])
      have H:=HA.out
      clear HA
      simp only[dL.l0]at H
      by_cases c70:fA<(kT.length:Int)
      ·rw[if_pos c70]at H
       have a7X:decide (fA<(kT.length:Int))=true:=decide_eq_true c70
       clear c70
       have aSD:=aA.mk H
       clear H
       obtain⟨aiE,aiF,btR⟩:=Kd.dA iM.out
       subst btR
       go_upto_region 20 with(fail)
       go_cut [129] (fun btS wc=>∃ (kq:Nat) (aHY:Bool),btS=.bool aHY/\aA (dL.j4 kq t216 t219 t222 t223 t226 t229 nT t233 t236 kT lC wP sV fA aHY aG aC=some r)/\aA (kq<=k4)/\aA (Kd.R iD 42 wc w.heap.size (fun k_=>some k_≠(CW:Value).ownBlock/\some k_≠(CX:Value).ownBlock/\some k_≠(v227:Value).ownBlock/\some k_≠((.slice aiE kT.length aiF):Value).ownBlock/\some k_≠(aa8:Value).ownBlock) CV t216)/\aA (Kd.R iD 42 wc w.heap.size (fun k_=>some k_≠(CV:Value).ownBlock/\some k_≠(CX:Value).ownBlock/\some k_≠(v227:Value).ownBlock/\some k_≠((.slice aiE kT.length aiF):Value).ownBlock/\some k_≠(aa8:Value).ownBlock) CW t219)/\aA (Kd.R iD 42 wc w.heap.size (fun k_=>some k_≠(CV:Value).ownBlock/\some k_≠(CW:Value).ownBlock/\some k_≠(v227:Value).ownBlock/\some k_≠((.slice aiE kT.length aiF):Value).ownBlock/\some k_≠(aa8:Value).ownBlock) CX t223)/\aA (Kd.R iD 42 wc w.heap.size (fun k_=>some k_≠(CV:Value).ownBlock/\some k_≠(CW:Value).ownBlock/\some k_≠(CX:Value).ownBlock/\some k_≠((.slice aiE kT.length aiF):Value).ownBlock/\some k_≠(aa8:Value).ownBlock) v227 t226)/\aA (Kd.R (Kd.int .i64) 3 wc w.heap.size (fun k_=>some k_≠(v234:Value).ownBlock/\some k_≠(u17:Value).ownBlock/\some k_≠(u18:Value).ownBlock) wO nT)/\aA (Kd.R (Kd.int .i64) 3 wc w.heap.size (fun k_=>some k_≠(wO:Value).ownBlock/\some k_≠(u17:Value).ownBlock/\some k_≠(u18:Value).ownBlock) v234 t233)/\aA (Kd.R iD 42 wc w.heap.size (fun k_=>some k_≠(CV:Value).ownBlock/\some k_≠(CW:Value).ownBlock/\some k_≠(CX:Value).ownBlock/\some k_≠(v227:Value).ownBlock/\some k_≠(aa8:Value).ownBlock) (.slice aiE kT.length aiF) kT)/\aA (Kd.R iD 42 wc w.heap.size (fun k_=>some k_≠(CV:Value).ownBlock/\some k_≠(CW:Value).ownBlock/\some k_≠(CX:Value).ownBlock/\some k_≠(v227:Value).ownBlock/\some k_≠((.slice aiE kT.length aiF):Value).ownBlock) aa8 lC)/\aA (Kd.R (Kd.int .i64) 3 wc w.heap.size (fun k_=>some k_≠(wO:Value).ownBlock/\some k_≠(v234:Value).ownBlock/\some k_≠(u18:Value).ownBlock) u17 wP)/\aA (Kd.R (Kd.int .i64) 3 wc w.heap.size (fun k_=>some k_≠(wO:Value).ownBlock/\some k_≠(v234:Value).ownBlock/\some k_≠(u17:Value).ownBlock) u18 sV)/\aA (Kd.R iJ 89 wc w.heap.size (fun _=>True) (.slice rX t208.length qZ) t208)/\aA (Kd.R iE 91 wc w.heap.size (fun _=>True) (.slice qM t211.length qC) t211)/\aA (wc.heap[pJ]? =some (.cells #[(.slice aQ aG.length aK),(.slice aT aC.length aJ)] 25 (0,0)))/\aA (wc.heap[xO]? =some (.cells #[(.slice rX t208.length qZ),(.slice qM t211.length qC)] 25 (0,0)))/\aA (Below w.heap.size w wc))
       case first=>
        have H:=aSD.out
        clear aSD
        by_cases c73:0<=fA
        ·rw[if_pos c73]at H
         have a7Y:decide (0<=fA)=true:=decide_eq_true c73
         clear c73
         (first|rw[a7Y]|(simp only[wQ,yQ];rw[a7Y])|skip)
         by_cases c74:((bM kT fA).f1)=0
         ·rw[if_pos c74]at H
          have btT:(((bM kT fA).f1)==0)=true:=beq_iff_eq.mpr c74
          have btU:(((bM kT fA).f1)!=0)=false:=bne_eq_false_iff_eq.mpr c74
          clear c74
          by_cases c75:fA<(lC.length:Int)
          ·rw[if_pos c75]at H
           have c75b0:decide (fA<(lC.length:Int))=true:=decide_eq_true c75
           clear c75
           have H':=aA.mk H
           clear H
           have apJ:0<=(fA:Int):=of_decide_eq_true (by first|(with_reducible assumption)|assumption)
           have apK:fA<(kT.length:Int):=of_decide_eq_true (by first|(with_reducible assumption)|assumption)
           obtain⟨btV,aSE,btW,btX⟩:=rE (Kd.dB iM.out).2.2 fA apJ apK
           cases aSE
           replace apJ:=eq_true apJ
           replace apK:=eq_true apK
           obtain⟨Ao76,co76,btY⟩:=Kd.dA iT.out
           subst btY
           have aSF:0<=(fA:Int):=of_decide_eq_true (by first|(with_reducible assumption)|assumption)
           have aSG:fA<(lC.length:Int):=of_decide_eq_true (by first|(with_reducible assumption)|assumption)
           obtain⟨ad256,btZ,hx256_0,hx256_1⟩:=rE (Kd.dB iT.out).2.2 fA aSF aSG
           cases btZ
           replace aSF:=eq_true aSF
           replace aSG:=eq_true aSG
           go_wp2
           go_meet
           case rel=>exact⟨_,((((bM lC fA).f1)==0)),(by first|rfl|(simp;done)|(simp[*];done)),H',⟨by have:=PU.out;have:=TJ.out;have:=YR.out;have:=YS.out;first|omega|exact Nat.le_refl _⟩,⟨R_ bP⟩,⟨R_ dS⟩,⟨R_ dM⟩,⟨R_ dX⟩,⟨R_ fH⟩,⟨R_ iF⟩,⟨R_ iM⟩,⟨R_ iT⟩,⟨R_ jY⟩,⟨R_ kU⟩,⟨R_ jA⟩,⟨R_ jB⟩,⟨b_ cZ⟩,⟨b_ eY⟩,⟨Bq HB⟩⟩
          rw[if_neg c75]at H
          exact absurd H (by simp)
         rw[if_neg c74]at H
         have btT:(((bM kT fA).f1)==0)=false:=beq_eq_false_iff_ne.mpr c74
         have btU:(((bM kT fA).f1)!=0)=true:=bne_iff_ne.mpr c74
         have H':=aA.mk H
         clear H
         have apJ:0<=(fA:Int):=of_decide_eq_true (by first|(with_reducible assumption)|assumption)
         have apK:fA<(kT.length:Int):=of_decide_eq_true (by first|(with_reducible assumption)|assumption)
         obtain⟨btV,aSE,btW,btX⟩:=rE (Kd.dB iM.out).2.2 fA apJ apK
         cases aSE
         replace apJ:=eq_true apJ
         replace apK:=eq_true apK
         go_wp2
         go_meet
         case rel=>exact⟨_,(false),(by first|rfl|(simp;done)|(simp[*];done)),H',⟨by have:=PU.out;have:=TJ.out;have:=YR.out;have:=YS.out;first|omega|exact Nat.le_refl _⟩,⟨R_ bP⟩,⟨R_ dS⟩,⟨R_ dM⟩,⟨R_ dX⟩,⟨R_ fH⟩,⟨R_ iF⟩,⟨R_ iM⟩,⟨R_ iT⟩,⟨R_ jY⟩,⟨R_ kU⟩,⟨R_ jA⟩,⟨R_ jB⟩,⟨b_ cZ⟩,⟨b_ eY⟩,⟨Bq HB⟩⟩
        rw[if_neg c73]at H
        exact absurd H (by simp)
       case rest=>as_aux_lemma=>
        clear aSD
        try clear c70
        try clear a7X
        obtain⟨kq,aHY,rfl,HA,aa9,bP,dS,dM,dX,fH,iF,iM,iT,jY,kU,jA,jB,cZ,eY,HB⟩:=hcut
        rcases kq with _|TK
        ·exact absurd HA.out (by simp[dL.j4])
        have H:=HA.out
        clear HA
        simp only[dL.j4]at H
        by_cases c77:aHY=true
        ·subst c77
         have H1:(if wP.length<17592186044416 then((some (wP++[fA]:List Int)).bind fun WN=>(if 0<=fA then(if fA<(kT.length:Int)then(if((bM kT fA).f0)=0 then(if fA<(lC.length:Int)then(if((bM lC fA).f0)=0 then(if sV.length<17592186044416 then(dL.l0 TK t216 t219 t222 t223 t226 t229 nT t233 t236 kT lC WN (sV++[fA]) (wrap64 (fA+1)) aG aC)else(none))else(dL.l0 TK t216 t219 t222 t223 t226 t229 nT t233 t236 kT lC WN sV (wrap64 (fA+1)) aG aC))else(none))else(dL.l0 TK t216 t219 t222 t223 t226 t229 nT t233 t236 kT lC WN sV (wrap64 (fA+1)) aG aC))else(none))else(none)))else(none))=some r:=by rw[if_pos rfl]at H;exact H
         clear H
         have H:=H1
         clear H1
         by_cases c78:wP.length<17592186044416
         ·rw[if_pos c78]at H
          have aSH:=aA.mk c78
          clear c78
          obtain⟨WN,aCD⟩:∃ y_:List Int,y_=(wP++[fA]):=⟨_,rfl⟩
          replace H:(if 0<=fA then(if fA<(kT.length:Int)then(if((bM kT fA).f0)=0 then(if fA<(lC.length:Int)then(if((bM lC fA).f0)=0 then(if sV.length<17592186044416 then(dL.l0 TK t216 t219 t222 t223 t226 t229 nT t233 t236 kT lC WN (sV++[fA]) (wrap64 (fA+1)) aG aC)else(none))else(dL.l0 TK t216 t219 t222 t223 t226 t229 nT t233 t236 kT lC WN sV (wrap64 (fA+1)) aG aC))else(none))else(dL.l0 TK t216 t219 t222 t223 t226 t229 nT t233 t236 kT lC WN sV (wrap64 (fA+1)) aG aC))else(none))else(none))=some r:=by first|(rw[aCD];with_reducible exact H)|(have dJ:=(Option.bind_some _ _).symm.trans H;rw[aCD];with_reducible exact dJ)|(have dJ:=(Option.bind_some _ _).symm.trans H;with_reducible exact dJ)|with_reducible exact H|(rw[aCD];exact H)|exact H
          have aSI:=aA.mk aCD
          clear aCD
          by_cases c79:0<=fA
          ·rw[if_pos c79]at H
           have c79b0:decide (0<=fA)=true:=decide_eq_true c79
           clear c79
           by_cases c80:fA<(kT.length:Int)
           ·rw[if_pos c80]at H
            have c80b0:decide (fA<(kT.length:Int))=true:=decide_eq_true c80
            clear c80
            by_cases c81:((bM kT fA).f0)=0
            ·rw[if_pos c81]at H
             have bt0:(((bM kT fA).f0)==0)=true:=beq_iff_eq.mpr c81
             have bt1:(((bM kT fA).f0)!=0)=false:=bne_eq_false_iff_eq.mpr c81
             clear c81
             by_cases c82:fA<(lC.length:Int)
             ·rw[if_pos c82]at H
              have c82b0:decide (fA<(lC.length:Int))=true:=decide_eq_true c82
              clear c82
              by_cases c83:((bM lC fA).f0)=0
              ·rw[if_pos c83]at H
               have bt2:(((bM lC fA).f0)==0)=true:=beq_iff_eq.mpr c83
               have bt3:(((bM lC fA).f0)!=0)=false:=bne_eq_false_iff_eq.mpr c83
               clear c83
               by_cases c84:sV.length<17592186044416
               ·rw[if_pos c84]at H
                have bt4:=aA.mk c84
                clear c84
                obtain⟨a7Z,aCE⟩:∃ y_:List Int,y_=(sV++[fA]):=⟨_,rfl⟩
                replace H:(dL.l0 TK t216 t219 t222 t223 t226 t229 nT t233 t236 kT lC WN a7Z (wrap64 (fA+1)) aG aC)=some r:=by first|(rw[aCE];with_reducible exact H)|(have dJ:=(Option.bind_some _ _).symm.trans H;rw[aCE];with_reducible exact dJ)|(have dJ:=(Option.bind_some _ _).symm.trans H;with_reducible exact dJ)|with_reducible exact H|(rw[aCE];exact H)|exact H
                have bt5:=aA.mk aCE
                clear aCE
                have H':=aA.mk H
                clear H
                go_wp2_with (first|((with_reducible refine VC (b:=.append) (xs:=#[.tmp 130,.tmp 132]) rfl ?_);(try(refine xJ (by rfl) ?_;dsimp only));at_builtin;refine Kd.WR (Kd.int .i64) (w0:=w) w.heap.size rfl (.tmp 130) (.tmp 132) 34 3 (.int .i64 0) 8 rfl Tryd.underlying34 info3 rfl (by decide) (by omega) u17 wP fA [.int .i64 fA] (fun k_=>some k_≠(wO:Value).ownBlock/\some k_≠(v234:Value).ownBlock/\some k_≠(u18:Value).ownBlock) (fun _=>False) rfl rfl ?aP (fun _ hk=>hk.elim) ?aF ?aO ?aB ?aS ?aL ?_;(case aP=>exact rfl);(case aB=>exact(Bq HB));(case aF=>exact(fun k_ hk=>⟨Kd.fresh' (Kd.dY (R_ fH)) k_ hk,Kd.fresh' (Kd.dY (R_ iF)) k_ hk,Kd.fresh' (Kd.dY (R_ kU)) k_ hk⟩));(case aO=>exact(R_ jY));(case aS=>exact(dH (Bq HB)));(case aL=>have:=aSH.out;omega);intro aCF w85 ho hb hg hat;rw[<-aSI.out]at ho;have aV:=aA.mk (Kd.mO (R_ bP) (Kd.mM (R_ jY)) (by decide) hg);have aW:=aA.mk (Kd.mO (R_ dS) (Kd.mM (R_ jY)) (by decide) hg);have aY:=aA.mk (Kd.mO (R_ dM) (Kd.mM (R_ jY)) (by decide) hg);have bI:=aA.mk (Kd.mO (R_ dX) (Kd.mM (R_ jY)) (by decide) hg);have cO:=aA.mk (Kd.GI (ok:=(fun k_=>some k_≠(v234:Value).ownBlock/\some k_≠(u18:Value).ownBlock)) (Kd.bQ (R_ fH) (fun _ hk=>⟨⟨hk.1,hk.2.2⟩,hk.2.1⟩)) hg hat);have gY:=aA.mk (Kd.GI (ok:=(fun k_=>some k_≠(wO:Value).ownBlock/\some k_≠(u18:Value).ownBlock)) (Kd.bQ (R_ iF) (fun _ hk=>⟨⟨hk.1,hk.2.2⟩,hk.2.1⟩)) hg hat);have kR:=aA.mk (Kd.mO (R_ iM) (Kd.mM (R_ jY)) (by decide) hg);have nD:=aA.mk (Kd.mO (R_ iT) (Kd.mM (R_ jY)) (by decide) hg);have nH:=aA.mk (Kd.GI (ok:=(fun k_=>some k_≠(wO:Value).ownBlock/\some k_≠(v234:Value).ownBlock)) (Kd.bQ (R_ kU) (fun _ hk=>⟨⟨hk.1,hk.2.1⟩,hk.2.2⟩)) hg hat);have nI:=aA.mk (Kd.mO (R_ jA) (Kd.mM (R_ jY)) (by decide) hg);have nJ:=aA.mk (Kd.mO (R_ jB) (Kd.mM (R_ jY)) (by decide) hg);have uT:=aA.mk (oM (g:=pJ) (o:=.cells #[.slice aQ aG.length aK,.slice aT aC.length aJ] 25 (0,0)) (b_ cZ) hg (Kd.mW jY.out cZ.out (by decide)));have zM:=aA.mk (oM (g:=xO) (o:=.cells #[.slice rX t208.length qZ,.slice qM t211.length qC] 25 (0,0)) (b_ eY) hg (Kd.mW jY.out eY.out (by decide)));have YT:=aA.mk (hb);have YU:=aA.mk (ho);clear bP;clear dS;clear dM;clear dX;clear fH;clear iF;clear iM;clear iT;clear kU;clear jA;clear jB;clear cZ;clear eY;clear HB;clear jY;have bP:=aV;have dS:=aW;have dM:=aY;have dX:=bI;have fH:=cO;have iF:=gY;have iM:=kR;have iT:=nD;have kU:=nH;have jA:=nI;have jB:=nJ;have cZ:=uT;have eY:=zM;have HB:=YT;have ag7:=YU;clear aV aW aY bI cO gY kR nD nH nI nJ uT zM YT YU;clear ho hb hg hat;have adT:0<=(fA:Int):=of_decide_eq_true (by first|(with_reducible assumption)|assumption);have adU:fA<(kT.length:Int):=of_decide_eq_true (by first|(with_reducible assumption)|assumption);obtain⟨a8A,e260,a8B,a8C⟩:=rE (Kd.dB iM.out).2.2 fA adT adU;cases e260;replace adT:=eq_true adT;replace adU:=eq_true adU;obtain⟨Ao86,co86,bt6⟩:=Kd.dA iT.out;subst bt6;have apN:0<=(fA:Int):=of_decide_eq_true (by first|(with_reducible assumption)|assumption);have apO:fA<(lC.length:Int):=of_decide_eq_true (by first|(with_reducible assumption)|assumption);obtain⟨bt7,e261,bt8,bt9⟩:=rE (Kd.dB iT.out).2.2 fA apN apO;cases e261;replace apN:=eq_true apN;replace apO:=eq_true apO)|((with_reducible refine VC (b:=.append) (xs:=#[.tmp 148,.tmp 150]) rfl ?_);(try(refine xJ (by rfl) ?_;dsimp only));at_builtin;refine Kd.WR (Kd.int .i64) (w0:=w) w.heap.size rfl (.tmp 148) (.tmp 150) 34 3 (.int .i64 0) 8 rfl Tryd.underlying34 info3 rfl (by decide) (by omega) u18 sV fA [.int .i64 fA] (fun k_=>some k_≠(wO:Value).ownBlock/\some k_≠(v234:Value).ownBlock/\some k_≠(aCF:Value).ownBlock) (fun _=>False) rfl rfl ?aP (fun _ hk=>hk.elim) ?aF ?aO ?aB ?aS ?aL ?_;(case aP=>exact rfl);(case aB=>exact(Bq HB));(case aF=>exact(fun k_ hk=>⟨Kd.fresh' (Kd.dY (R_ fH)) k_ hk,Kd.fresh' (Kd.dY (R_ iF)) k_ hk,Kd.fresh' (Kd.dY (R_ ag7)) k_ hk⟩));(case aO=>exact(Kd.bQ (R_ kU) (fun _ hk=>⟨hk.1.1,⟨hk.1.2,hk.2⟩⟩)));(case aS=>exact(dH (Bq HB)));(case aL=>have:=bt4.out;omega);intro v263 w87 ho hb hg hat;rw[<-bt5.out]at ho;have aV:=aA.mk (Kd.mO (R_ bP) (Kd.mM (R_ kU)) (by decide) hg);have aW:=aA.mk (Kd.mO (R_ dS) (Kd.mM (R_ kU)) (by decide) hg);have aY:=aA.mk (Kd.mO (R_ dM) (Kd.mM (R_ kU)) (by decide) hg);have bI:=aA.mk (Kd.mO (R_ dX) (Kd.mM (R_ kU)) (by decide) hg);have cO:=aA.mk (Kd.GI (ok:=(fun k_=>some k_≠(v234:Value).ownBlock/\some k_≠(aCF:Value).ownBlock)) (Kd.bQ (R_ fH) (fun _ hk=>⟨⟨hk.1.1,hk.2⟩,hk.1.2⟩)) hg hat);have gY:=aA.mk (Kd.GI (ok:=(fun k_=>some k_≠(wO:Value).ownBlock/\some k_≠(aCF:Value).ownBlock)) (Kd.bQ (R_ iF) (fun _ hk=>⟨⟨hk.1.1,hk.2⟩,hk.1.2⟩)) hg hat);have kR:=aA.mk (Kd.mO (R_ iM) (Kd.mM (R_ kU)) (by decide) hg);have nD:=aA.mk (Kd.mO (R_ iT) (Kd.mM (R_ kU)) (by decide) hg);have nH:=aA.mk (Kd.mO (R_ jA) (Kd.mM (R_ kU)) (by decide) hg);have nI:=aA.mk (Kd.mO (R_ jB) (Kd.mM (R_ kU)) (by decide) hg);have nJ:=aA.mk (oM (g:=pJ) (o:=.cells #[.slice aQ aG.length aK,.slice aT aC.length aJ] 25 (0,0)) (b_ cZ) hg (Kd.mW kU.out cZ.out (by decide)));have uT:=aA.mk (oM (g:=xO) (o:=.cells #[.slice rX t208.length qZ,.slice qM t211.length qC] 25 (0,0)) (b_ eY) hg (Kd.mW kU.out eY.out (by decide)));have zM:=aA.mk (Kd.GI (ok:=(fun k_=>some k_≠(wO:Value).ownBlock/\some k_≠(v234:Value).ownBlock)) (Kd.bQ (R_ ag7) (fun _ hk=>⟨⟨hk.1,hk.2.1⟩,hk.2.2⟩)) hg hat);have YT:=aA.mk (hb);have YU:=aA.mk (ho);clear bP;clear dS;clear dM;clear dX;clear fH;clear iF;clear iM;clear iT;clear jA;clear jB;clear cZ;clear eY;clear ag7;clear HB;clear kU;have bP:=aV;have dS:=aW;have dM:=aY;have dX:=bI;have fH:=cO;have iF:=gY;have iM:=kR;have iT:=nD;have jA:=nH;have jB:=nI;have cZ:=nJ;have eY:=uT;have ag7:=zM;have HB:=YT;have buA:=YU;clear aV aW aY bI cO gY kR nD nH nI nJ uT zM YT YU;clear ho hb hg hat))
                go_roundg TK
                case measure=>have:=PU.out;have:=TJ.out;have:=YR.out;have:=YS.out;have:=aa9.out;omega
                case rel=>exact⟨(WN),(a7Z),(wrap64 (fA+1)),(by first|rfl|(simp;done)|(simp[*];done)),H',⟨by have:=PU.out;have:=TJ.out;have:=YR.out;have:=YS.out;have:=aa9.out;omega⟩,⟨R_ bP⟩,⟨R_ dS⟩,⟨R_ dM⟩,⟨R_ dX⟩,⟨Kd.bQ (R_ fH) (fun _ hk=>⟨hk.1.1,⟨hk.1.2,hk.2⟩⟩)⟩,⟨Kd.bQ (R_ iF) (fun _ hk=>⟨hk.1.1,⟨hk.1.2,hk.2⟩⟩)⟩,⟨R_ iM⟩,⟨R_ iT⟩,⟨Kd.bQ (R_ ag7) (fun _ hk=>⟨hk.1.1,⟨hk.1.2,hk.2⟩⟩)⟩,⟨R_ buA⟩,⟨R_ jA⟩,⟨R_ jB⟩,⟨b_ cZ⟩,⟨b_ eY⟩,⟨Bq HB⟩⟩
               rw[if_neg c84]at H
               exact absurd H (by simp)
              rw[if_neg c83]at H
              have bt2:(((bM lC fA).f0)==0)=false:=beq_eq_false_iff_ne.mpr c83
              have bt3:(((bM lC fA).f0)!=0)=true:=bne_iff_ne.mpr c83
              have H':=aA.mk H
              clear H
              go_wp2_with (first|((with_reducible refine VC (b:=.append) (xs:=#[.tmp 130,.tmp 132]) rfl ?_);(try(refine xJ (by rfl) ?_;dsimp only));at_builtin;refine Kd.WR (Kd.int .i64) (w0:=w) w.heap.size rfl (.tmp 130) (.tmp 132) 34 3 (.int .i64 0) 8 rfl Tryd.underlying34 info3 rfl (by decide) (by omega) u17 wP fA [.int .i64 fA] (fun k_=>some k_≠(wO:Value).ownBlock/\some k_≠(v234:Value).ownBlock/\some k_≠(u18:Value).ownBlock) (fun _=>False) rfl rfl ?aP (fun _ hk=>hk.elim) ?aF ?aO ?aB ?aS ?aL ?_;(case aP=>exact rfl);(case aB=>exact(Bq HB));(case aF=>exact(fun k_ hk=>⟨Kd.fresh' (Kd.dY (R_ fH)) k_ hk,Kd.fresh' (Kd.dY (R_ iF)) k_ hk,Kd.fresh' (Kd.dY (R_ kU)) k_ hk⟩));(case aO=>exact(R_ jY));(case aS=>exact(dH (Bq HB)));(case aL=>have:=aSH.out;omega);intro aCF w88 ho hb hg hat;rw[<-aSI.out]at ho;have aV:=aA.mk (Kd.mO (R_ bP) (Kd.mM (R_ jY)) (by decide) hg);have aW:=aA.mk (Kd.mO (R_ dS) (Kd.mM (R_ jY)) (by decide) hg);have aY:=aA.mk (Kd.mO (R_ dM) (Kd.mM (R_ jY)) (by decide) hg);have bI:=aA.mk (Kd.mO (R_ dX) (Kd.mM (R_ jY)) (by decide) hg);have cO:=aA.mk (Kd.GI (ok:=(fun k_=>some k_≠(v234:Value).ownBlock/\some k_≠(u18:Value).ownBlock)) (Kd.bQ (R_ fH) (fun _ hk=>⟨⟨hk.1,hk.2.2⟩,hk.2.1⟩)) hg hat);have gY:=aA.mk (Kd.GI (ok:=(fun k_=>some k_≠(wO:Value).ownBlock/\some k_≠(u18:Value).ownBlock)) (Kd.bQ (R_ iF) (fun _ hk=>⟨⟨hk.1,hk.2.2⟩,hk.2.1⟩)) hg hat);have kR:=aA.mk (Kd.mO (R_ iM) (Kd.mM (R_ jY)) (by decide) hg);have nD:=aA.mk (Kd.mO (R_ iT) (Kd.mM (R_ jY)) (by decide) hg);have nH:=aA.mk (Kd.GI (ok:=(fun k_=>some k_≠(wO:Value).ownBlock/\some k_≠(v234:Value).ownBlock)) (Kd.bQ (R_ kU) (fun _ hk=>⟨⟨hk.1,hk.2.1⟩,hk.2.2⟩)) hg hat);have nI:=aA.mk (Kd.mO (R_ jA) (Kd.mM (R_ jY)) (by decide) hg);have nJ:=aA.mk (Kd.mO (R_ jB) (Kd.mM (R_ jY)) (by decide) hg);have uT:=aA.mk (oM (g:=pJ) (o:=.cells #[.slice aQ aG.length aK,.slice aT aC.length aJ] 25 (0,0)) (b_ cZ) hg (Kd.mW jY.out cZ.out (by decide)));have zM:=aA.mk (oM (g:=xO) (o:=.cells #[.slice rX t208.length qZ,.slice qM t211.length qC] 25 (0,0)) (b_ eY) hg (Kd.mW jY.out eY.out (by decide)));have YT:=aA.mk (hb);have YU:=aA.mk (ho);clear bP;clear dS;clear dM;clear dX;clear fH;clear iF;clear iM;clear iT;clear kU;clear jA;clear jB;clear cZ;clear eY;clear HB;clear jY;have bP:=aV;have dS:=aW;have dM:=aY;have dX:=bI;have fH:=cO;have iF:=gY;have iM:=kR;have iT:=nD;have kU:=nH;have jA:=nI;have jB:=nJ;have cZ:=uT;have eY:=zM;have HB:=YT;have ag7:=YU;clear aV aW aY bI cO gY kR nD nH nI nJ uT zM YT YU;clear ho hb hg hat;have adT:0<=(fA:Int):=of_decide_eq_true (by first|(with_reducible assumption)|assumption);have adU:fA<(kT.length:Int):=of_decide_eq_true (by first|(with_reducible assumption)|assumption);obtain⟨a8A,e260,a8B,a8C⟩:=rE (Kd.dB iM.out).2.2 fA adT adU;cases e260;replace adT:=eq_true adT;replace adU:=eq_true adU;obtain⟨bjX,bjY,buB⟩:=Kd.dA iT.out;subst buB;have apN:0<=(fA:Int):=of_decide_eq_true (by first|(with_reducible assumption)|assumption);have apO:fA<(lC.length:Int):=of_decide_eq_true (by first|(with_reducible assumption)|assumption);obtain⟨bt7,e261,bt8,bt9⟩:=rE (Kd.dB iT.out).2.2 fA apN apO;cases e261;replace apN:=eq_true apN;replace apO:=eq_true apO))
              go_roundg TK
              case measure=>have:=PU.out;have:=TJ.out;have:=YR.out;have:=YS.out;have:=aa9.out;omega
              case rel=>exact⟨(WN),(sV),(wrap64 (fA+1)),(by first|rfl|(simp;done)|(simp[*];done)),H',⟨by have:=PU.out;have:=TJ.out;have:=YR.out;have:=YS.out;have:=aa9.out;omega⟩,⟨R_ bP⟩,⟨R_ dS⟩,⟨R_ dM⟩,⟨R_ dX⟩,⟨Kd.bQ (R_ fH) (fun _ hk=>⟨hk.1.1,⟨hk.2,hk.1.2⟩⟩)⟩,⟨Kd.bQ (R_ iF) (fun _ hk=>⟨hk.1.1,⟨hk.2,hk.1.2⟩⟩)⟩,⟨R_ iM⟩,⟨R_ iT⟩,⟨R_ ag7⟩,⟨Kd.bQ (R_ kU) (fun _ hk=>⟨hk.1.1,⟨hk.1.2,hk.2⟩⟩)⟩,⟨R_ jA⟩,⟨R_ jB⟩,⟨b_ cZ⟩,⟨b_ eY⟩,⟨Bq HB⟩⟩
             rw[if_neg c82]at H
             exact absurd H (by simp)
            rw[if_neg c81]at H
            have bt0:(((bM kT fA).f0)==0)=false:=beq_eq_false_iff_ne.mpr c81
            have bt1:(((bM kT fA).f0)!=0)=true:=bne_iff_ne.mpr c81
            have H':=aA.mk H
            clear H
            go_wp2_with (first|((with_reducible refine VC (b:=.append) (xs:=#[.tmp 130,.tmp 132]) rfl ?_);(try(refine xJ (by rfl) ?_;dsimp only));at_builtin;refine Kd.WR (Kd.int .i64) (w0:=w) w.heap.size rfl (.tmp 130) (.tmp 132) 34 3 (.int .i64 0) 8 rfl Tryd.underlying34 info3 rfl (by decide) (by omega) u17 wP fA [.int .i64 fA] (fun k_=>some k_≠(wO:Value).ownBlock/\some k_≠(v234:Value).ownBlock/\some k_≠(u18:Value).ownBlock) (fun _=>False) rfl rfl ?aP (fun _ hk=>hk.elim) ?aF ?aO ?aB ?aS ?aL ?_;(case aP=>exact rfl);(case aB=>exact(Bq HB));(case aF=>exact(fun k_ hk=>⟨Kd.fresh' (Kd.dY (R_ fH)) k_ hk,Kd.fresh' (Kd.dY (R_ iF)) k_ hk,Kd.fresh' (Kd.dY (R_ kU)) k_ hk⟩));(case aO=>exact(R_ jY));(case aS=>exact(dH (Bq HB)));(case aL=>have:=aSH.out;omega);intro aCF w90 ho hb hg hat;rw[<-aSI.out]at ho;have aV:=aA.mk (Kd.mO (R_ bP) (Kd.mM (R_ jY)) (by decide) hg);have aW:=aA.mk (Kd.mO (R_ dS) (Kd.mM (R_ jY)) (by decide) hg);have aY:=aA.mk (Kd.mO (R_ dM) (Kd.mM (R_ jY)) (by decide) hg);have bI:=aA.mk (Kd.mO (R_ dX) (Kd.mM (R_ jY)) (by decide) hg);have cO:=aA.mk (Kd.GI (ok:=(fun k_=>some k_≠(v234:Value).ownBlock/\some k_≠(u18:Value).ownBlock)) (Kd.bQ (R_ fH) (fun _ hk=>⟨⟨hk.1,hk.2.2⟩,hk.2.1⟩)) hg hat);have gY:=aA.mk (Kd.GI (ok:=(fun k_=>some k_≠(wO:Value).ownBlock/\some k_≠(u18:Value).ownBlock)) (Kd.bQ (R_ iF) (fun _ hk=>⟨⟨hk.1,hk.2.2⟩,hk.2.1⟩)) hg hat);have kR:=aA.mk (Kd.mO (R_ iM) (Kd.mM (R_ jY)) (by decide) hg);have nD:=aA.mk (Kd.mO (R_ iT) (Kd.mM (R_ jY)) (by decide) hg);have nH:=aA.mk (Kd.GI (ok:=(fun k_=>some k_≠(wO:Value).ownBlock/\some k_≠(v234:Value).ownBlock)) (Kd.bQ (R_ kU) (fun _ hk=>⟨⟨hk.1,hk.2.1⟩,hk.2.2⟩)) hg hat);have nI:=aA.mk (Kd.mO (R_ jA) (Kd.mM (R_ jY)) (by decide) hg);have nJ:=aA.mk (Kd.mO (R_ jB) (Kd.mM (R_ jY)) (by decide) hg);have uT:=aA.mk (oM (g:=pJ) (o:=.cells #[.slice aQ aG.length aK,.slice aT aC.length aJ] 25 (0,0)) (b_ cZ) hg (Kd.mW jY.out cZ.out (by decide)));have zM:=aA.mk (oM (g:=xO) (o:=.cells #[.slice rX t208.length qZ,.slice qM t211.length qC] 25 (0,0)) (b_ eY) hg (Kd.mW jY.out eY.out (by decide)));have YT:=aA.mk (hb);have YU:=aA.mk (ho);clear bP;clear dS;clear dM;clear dX;clear fH;clear iF;clear iM;clear iT;clear kU;clear jA;clear jB;clear cZ;clear eY;clear HB;clear jY;have bP:=aV;have dS:=aW;have dM:=aY;have dX:=bI;have fH:=cO;have iF:=gY;have iM:=kR;have iT:=nD;have kU:=nH;have jA:=nI;have jB:=nJ;have cZ:=uT;have eY:=zM;have HB:=YT;have ag7:=YU;clear aV aW aY bI cO gY kR nD nH nI nJ uT zM YT YU;clear ho hb hg hat;have adT:0<=(fA:Int):=of_decide_eq_true (by first|(with_reducible assumption)|assumption);have adU:fA<(kT.length:Int):=of_decide_eq_true (by first|(with_reducible assumption)|assumption);obtain⟨a8A,e260,a8B,a8C⟩:=rE (Kd.dB iM.out).2.2 fA adT adU;cases e260;replace adT:=eq_true adT;replace adU:=eq_true adU))
            go_roundg TK
            case measure=>have:=PU.out;have:=TJ.out;have:=YR.out;have:=YS.out;have:=aa9.out;omega
            case rel=>exact⟨(WN),(sV),(wrap64 (fA+1)),(by first|rfl|(simp;done)|(simp[*];done)),H',⟨by have:=PU.out;have:=TJ.out;have:=YR.out;have:=YS.out;have:=aa9.out;omega⟩,⟨R_ bP⟩,⟨R_ dS⟩,⟨R_ dM⟩,⟨R_ dX⟩,⟨Kd.bQ (R_ fH) (fun _ hk=>⟨hk.1.1,⟨hk.2,hk.1.2⟩⟩)⟩,⟨Kd.bQ (R_ iF) (fun _ hk=>⟨hk.1.1,⟨hk.2,hk.1.2⟩⟩)⟩,⟨R_ iM⟩,⟨R_ iT⟩,⟨R_ ag7⟩,⟨Kd.bQ (R_ kU) (fun _ hk=>⟨hk.1.1,⟨hk.1.2,hk.2⟩⟩)⟩,⟨R_ jA⟩,⟨R_ jB⟩,⟨b_ cZ⟩,⟨b_ eY⟩,⟨Bq HB⟩⟩
           rw[if_neg c80]at H
           exact absurd H (by simp)
          rw[if_neg c79]at H
          exact absurd H (by simp)
         rw[if_neg c78]at H
         exact absurd H (by simp)
        replace c77:=Bool.eq_false_iff.mpr c77
        subst c77
        have H1:(if 0<=fA then(if fA<(kT.length:Int)then(if((bM kT fA).f0)=0 then(if fA<(lC.length:Int)then(if((bM lC fA).f0)=0 then(if sV.length<17592186044416 then(dL.l0 TK t216 t219 t222 t223 t226 t229 nT t233 t236 kT lC wP (sV++[fA]) (wrap64 (fA+1)) aG aC)else(none))else(dL.l0 TK t216 t219 t222 t223 t226 t229 nT t233 t236 kT lC wP sV (wrap64 (fA+1)) aG aC))else(none))else(dL.l0 TK t216 t219 t222 t223 t226 t229 nT t233 t236 kT lC wP sV (wrap64 (fA+1)) aG aC))else(none))else(none))=some r:=by rw[if_neg (show ¬ (false=true) by decide)]at H;exact H
        clear H
        have H:=H1
        clear H1
        by_cases c91:0<=fA
        ·rw[if_pos c91]at H
         have c91b0:decide (0<=fA)=true:=decide_eq_true c91
         clear c91
         by_cases c92:fA<(kT.length:Int)
         ·rw[if_pos c92]at H
          have c92b0:decide (fA<(kT.length:Int))=true:=decide_eq_true c92
          clear c92
          by_cases c93:((bM kT fA).f0)=0
          ·rw[if_pos c93]at H
           have buC:(((bM kT fA).f0)==0)=true:=beq_iff_eq.mpr c93
           have buD:(((bM kT fA).f0)!=0)=false:=bne_eq_false_iff_eq.mpr c93
           clear c93
           by_cases c94:fA<(lC.length:Int)
           ·rw[if_pos c94]at H
            have c94b0:decide (fA<(lC.length:Int))=true:=decide_eq_true c94
            clear c94
            by_cases c95:((bM lC fA).f0)=0
            ·rw[if_pos c95]at H
             have buE:(((bM lC fA).f0)==0)=true:=beq_iff_eq.mpr c95
             have buF:(((bM lC fA).f0)!=0)=false:=bne_eq_false_iff_eq.mpr c95
             clear c95
             by_cases c96:sV.length<17592186044416
             ·rw[if_pos c96]at H
              have buG:=aA.mk c96
              clear c96
              obtain⟨a8D,aCG⟩:∃ y_:List Int,y_=(sV++[fA]):=⟨_,rfl⟩
              replace H:(dL.l0 TK t216 t219 t222 t223 t226 t229 nT t233 t236 kT lC wP a8D (wrap64 (fA+1)) aG aC)=some r:=by first|(rw[aCG];with_reducible exact H)|(have dJ:=(Option.bind_some _ _).symm.trans H;rw[aCG];with_reducible exact dJ)|(have dJ:=(Option.bind_some _ _).symm.trans H;with_reducible exact dJ)|with_reducible exact H|(rw[aCG];exact H)|exact H
              have buH:=aA.mk aCG
              clear aCG
              have H':=aA.mk H
              clear H
              have adV:0<=(fA:Int):=of_decide_eq_true (by first|(with_reducible assumption)|assumption)
              have adW:fA<(kT.length:Int):=of_decide_eq_true (by first|(with_reducible assumption)|assumption)
              obtain⟨a8E,aCH,a8F,a8G⟩:=rE (Kd.dB iM.out).2.2 fA adV adW
              cases aCH
              replace adV:=eq_true adV
              replace adW:=eq_true adW
              obtain⟨Ao97,co97,buI⟩:=Kd.dA iT.out
              subst buI
              have apQ:0<=(fA:Int):=of_decide_eq_true (by first|(with_reducible assumption)|assumption)
              have apR:fA<(lC.length:Int):=of_decide_eq_true (by first|(with_reducible assumption)|assumption)
              obtain⟨buJ,aSJ,buK,buL⟩:=rE (Kd.dB iT.out).2.2 fA apQ apR
              cases aSJ
              replace apQ:=eq_true apQ
              replace apR:=eq_true apR
              go_wp2_with (first|((with_reducible refine VC (b:=.append) (xs:=#[.tmp 148,.tmp 150]) rfl ?_);(try(refine xJ (by rfl) ?_;dsimp only));at_builtin;refine Kd.WR (Kd.int .i64) (w0:=w) w.heap.size rfl (.tmp 148) (.tmp 150) 34 3 (.int .i64 0) 8 rfl Tryd.underlying34 info3 rfl (by decide) (by omega) u18 sV fA [.int .i64 fA] (fun k_=>some k_≠(wO:Value).ownBlock/\some k_≠(v234:Value).ownBlock/\some k_≠(u17:Value).ownBlock) (fun _=>False) rfl rfl ?aP (fun _ hk=>hk.elim) ?aF ?aO ?aB ?aS ?aL ?_;(case aP=>exact rfl);(case aB=>exact(Bq HB));(case aF=>exact(fun k_ hk=>⟨Kd.fresh' (Kd.dY (R_ fH)) k_ hk,Kd.fresh' (Kd.dY (R_ iF)) k_ hk,Kd.fresh' (Kd.dY (R_ jY)) k_ hk⟩));(case aO=>exact(R_ kU));(case aS=>exact(dH (Bq HB)));(case aL=>have:=buG.out;omega);intro v268 w98 ho hb hg hat;rw[<-buH.out]at ho;have aV:=aA.mk (Kd.mO (R_ bP) (Kd.mM (R_ kU)) (by decide) hg);have aW:=aA.mk (Kd.mO (R_ dS) (Kd.mM (R_ kU)) (by decide) hg);have aY:=aA.mk (Kd.mO (R_ dM) (Kd.mM (R_ kU)) (by decide) hg);have bI:=aA.mk (Kd.mO (R_ dX) (Kd.mM (R_ kU)) (by decide) hg);have cO:=aA.mk (Kd.GI (ok:=(fun k_=>some k_≠(v234:Value).ownBlock/\some k_≠(u17:Value).ownBlock)) (Kd.bQ (R_ fH) (fun _ hk=>⟨⟨hk.1,hk.2.1⟩,hk.2.2⟩)) hg hat);have gY:=aA.mk (Kd.GI (ok:=(fun k_=>some k_≠(wO:Value).ownBlock/\some k_≠(u17:Value).ownBlock)) (Kd.bQ (R_ iF) (fun _ hk=>⟨⟨hk.1,hk.2.1⟩,hk.2.2⟩)) hg hat);have kR:=aA.mk (Kd.mO (R_ iM) (Kd.mM (R_ kU)) (by decide) hg);have nD:=aA.mk (Kd.mO (R_ iT) (Kd.mM (R_ kU)) (by decide) hg);have nH:=aA.mk (Kd.GI (ok:=(fun k_=>some k_≠(wO:Value).ownBlock/\some k_≠(v234:Value).ownBlock)) (Kd.bQ (R_ jY) (fun _ hk=>⟨⟨hk.1,hk.2.1⟩,hk.2.2⟩)) hg hat);have nI:=aA.mk (Kd.mO (R_ jA) (Kd.mM (R_ kU)) (by decide) hg);have nJ:=aA.mk (Kd.mO (R_ jB) (Kd.mM (R_ kU)) (by decide) hg);have uT:=aA.mk (oM (g:=pJ) (o:=.cells #[.slice aQ aG.length aK,.slice aT aC.length aJ] 25 (0,0)) (b_ cZ) hg (Kd.mW kU.out cZ.out (by decide)));have zM:=aA.mk (oM (g:=xO) (o:=.cells #[.slice rX t208.length qZ,.slice qM t211.length qC] 25 (0,0)) (b_ eY) hg (Kd.mW kU.out eY.out (by decide)));have YT:=aA.mk (hb);have YU:=aA.mk (ho);clear bP;clear dS;clear dM;clear dX;clear fH;clear iF;clear iM;clear iT;clear jY;clear jA;clear jB;clear cZ;clear eY;clear HB;clear kU;have bP:=aV;have dS:=aW;have dM:=aY;have dX:=bI;have fH:=cO;have iF:=gY;have iM:=kR;have iT:=nD;have jY:=nH;have jA:=nI;have jB:=nJ;have cZ:=uT;have eY:=zM;have HB:=YT;have buM:=YU;clear aV aW aY bI cO gY kR nD nH nI nJ uT zM YT YU;clear ho hb hg hat))
              go_roundg TK
              case measure=>have:=PU.out;have:=TJ.out;have:=YR.out;have:=YS.out;have:=aa9.out;omega
              case rel=>exact⟨(wP),(a8D),(wrap64 (fA+1)),(by first|rfl|(simp;done)|(simp[*];done)),H',⟨by have:=PU.out;have:=TJ.out;have:=YR.out;have:=YS.out;have:=aa9.out;omega⟩,⟨R_ bP⟩,⟨R_ dS⟩,⟨R_ dM⟩,⟨R_ dX⟩,⟨Kd.bQ (R_ fH) (fun _ hk=>⟨hk.1.1,⟨hk.1.2,hk.2⟩⟩)⟩,⟨Kd.bQ (R_ iF) (fun _ hk=>⟨hk.1.1,⟨hk.1.2,hk.2⟩⟩)⟩,⟨R_ iM⟩,⟨R_ iT⟩,⟨Kd.bQ (R_ jY) (fun _ hk=>⟨hk.1.1,⟨hk.1.2,hk.2⟩⟩)⟩,⟨R_ buM⟩,⟨R_ jA⟩,⟨R_ jB⟩,⟨b_ cZ⟩,⟨b_ eY⟩,⟨Bq HB⟩⟩
             rw[if_neg c96]at H
             exact absurd H (by simp)
            rw[if_neg c95]at H
            have buE:(((bM lC fA).f0)==0)=false:=beq_eq_false_iff_ne.mpr c95
            have buF:(((bM lC fA).f0)!=0)=true:=bne_iff_ne.mpr c95
            have H':=aA.mk H
            clear H
            have adV:0<=(fA:Int):=of_decide_eq_true (by first|(with_reducible assumption)|assumption)
            have adW:fA<(kT.length:Int):=of_decide_eq_true (by first|(with_reducible assumption)|assumption)
            obtain⟨a8E,aCH,a8F,a8G⟩:=rE (Kd.dB iM.out).2.2 fA adV adW
            cases aCH
            replace adV:=eq_true adV
            replace adW:=eq_true adW
            obtain⟨Ao99,co99,buN⟩:=Kd.dA iT.out
            subst buN
            have apQ:0<=(fA:Int):=of_decide_eq_true (by first|(with_reducible assumption)|assumption)
            have apR:fA<(lC.length:Int):=of_decide_eq_true (by first|(with_reducible assumption)|assumption)
            obtain⟨buJ,aSJ,buK,buL⟩:=rE (Kd.dB iT.out).2.2 fA apQ apR
            cases aSJ
            replace apQ:=eq_true apQ
            replace apR:=eq_true apR
            go_wp2
            go_roundg TK
            case measure=>have:=PU.out;have:=TJ.out;have:=YR.out;have:=YS.out;have:=aa9.out;omega
            case rel=>exact⟨(wP),(sV),(wrap64 (fA+1)),(by first|rfl|(simp;done)|(simp[*];done)),H',⟨by have:=PU.out;have:=TJ.out;have:=YR.out;have:=YS.out;have:=aa9.out;omega⟩,⟨R_ bP⟩,⟨R_ dS⟩,⟨R_ dM⟩,⟨R_ dX⟩,⟨R_ fH⟩,⟨R_ iF⟩,⟨R_ iM⟩,⟨R_ iT⟩,⟨R_ jY⟩,⟨R_ kU⟩,⟨R_ jA⟩,⟨R_ jB⟩,⟨b_ cZ⟩,⟨b_ eY⟩,⟨Bq HB⟩⟩
           rw[if_neg c94]at H
           exact absurd H (by simp)
          rw[if_neg c93]at H
          have buC:(((bM kT fA).f0)==0)=false:=beq_eq_false_iff_ne.mpr c93
          have buD:(((bM kT fA).f0)!=0)=true:=bne_iff_ne.mpr c93
          have H':=aA.mk H
          clear H
          have adV:0<=(fA:Int):=of_decide_eq_true (by first|(with_reducible assumption)|assumption)
          have adW:fA<(kT.length:Int):=of_decide_eq_true (by first|(with_reducible assumption)|assumption)
          obtain⟨a8E,aCH,a8F,a8G⟩:=rE (Kd.dB iM.out).2.2 fA adV adW
          cases aCH
          replace adV:=eq_true adV
          replace adW:=eq_true adW
          go_wp2
          go_roundg TK
          case measure=>have:=PU.out;have:=TJ.out;have:=YR.out;have:=YS.out;have:=aa9.out;omega
          case rel=>exact⟨(wP),(sV),(wrap64 (fA+1)),(by first|rfl|(simp;done)|(simp[*];done)),H',⟨by have:=PU.out;have:=TJ.out;have:=YR.out;have:=YS.out;have:=aa9.out;omega⟩,⟨R_ bP⟩,⟨R_ dS⟩,⟨R_ dM⟩,⟨R_ dX⟩,⟨R_ fH⟩,⟨R_ iF⟩,⟨R_ iM⟩,⟨R_ iT⟩,⟨R_ jY⟩,⟨R_ kU⟩,⟨R_ jA⟩,⟨R_ jB⟩,⟨b_ cZ⟩,⟨b_ eY⟩,⟨Bq HB⟩⟩
         rw[if_neg c92]at H
         exact absurd H (by simp)
        rw[if_neg c91]at H
        exact absurd H (by simp)
      rw[if_neg c70]at H
      have a7X:decide (fA<(kT.length:Int))=false:=decide_eq_false c70
      clear c70
      by_cases apS:t222=0
      ·rw[if_pos apS]at H
       have buO:(t222==0)=true:=beq_iff_eq.mpr apS
       have buP:(t222 !=0)=false:=bne_eq_false_iff_eq.mpr apS
       clear apS
       replace H:=Option.bind_eq_some_iff.mp H
       obtain⟨aHR,a8H,H⟩:=H
       replace H:(if aHR=true then((mD.f k4 t219 lC).bind fun al9=>(if al9=true then(if t229=0 then((lY.f k4 aG aC false).bind fun EW=>((mD.f k4 t223 EW).bind fun YO=>(if YO=true then((lY.f k4 aG aC true).bind fun zG=>((mD.f k4 t226 zG).bind fun OI=>(if OI=true then(if t236=0 then((oD.f k4 nT wP).bind fun CU=>(if CU=true then((oD.f k4 t233 sV).bind fun yO=>(if yO=true then((oN.f).bind fun _=>(some true))else(some false)))else(some false)))else(some false))else(some false))))else(some false))))else(some false))else(some false)))else(some false))=some r:=H
       have ag8:=aA.mk a8H
       clear a8H
       by_cases aH8:aHR=true
       ·subst aH8
        have H1:((mD.f k4 t219 lC).bind fun al9=>(if al9=true then(if t229=0 then((lY.f k4 aG aC false).bind fun EW=>((mD.f k4 t223 EW).bind fun YO=>(if YO=true then((lY.f k4 aG aC true).bind fun zG=>((mD.f k4 t226 zG).bind fun OI=>(if OI=true then(if t236=0 then((oD.f k4 nT wP).bind fun CU=>(if CU=true then((oD.f k4 t233 sV).bind fun yO=>(if yO=true then((oN.f).bind fun _=>(some true))else(some false)))else(some false)))else(some false))else(some false))))else(some false))))else(some false))else(some false)))=some r:=by rw[if_pos rfl]at H;exact H
        clear H
        have H:=H1
        clear H1
        replace H:=Option.bind_eq_some_iff.mp H
        obtain⟨al9,a8I,H⟩:=H
        replace H:(if al9=true then(if t229=0 then((lY.f k4 aG aC false).bind fun EW=>((mD.f k4 t223 EW).bind fun YO=>(if YO=true then((lY.f k4 aG aC true).bind fun zG=>((mD.f k4 t226 zG).bind fun OI=>(if OI=true then(if t236=0 then((oD.f k4 nT wP).bind fun CU=>(if CU=true then((oD.f k4 t233 sV).bind fun yO=>(if yO=true then((oN.f).bind fun _=>(some true))else(some false)))else(some false)))else(some false))else(some false))))else(some false))))else(some false))else(some false))=some r:=H
        have amD:=aA.mk a8I
        clear a8I
        by_cases aH9:al9=true
        ·subst aH9
         have H1:(if t229=0 then((lY.f k4 aG aC false).bind fun EW=>((mD.f k4 t223 EW).bind fun YO=>(if YO=true then((lY.f k4 aG aC true).bind fun zG=>((mD.f k4 t226 zG).bind fun OI=>(if OI=true then(if t236=0 then((oD.f k4 nT wP).bind fun CU=>(if CU=true then((oD.f k4 t233 sV).bind fun yO=>(if yO=true then((oN.f).bind fun _=>(some true))else(some false)))else(some false)))else(some false))else(some false))))else(some false))))else(some false))=some r:=by rw[if_pos rfl]at H;exact H
         clear H
         have H:=H1
         clear H1
         by_cases c105:t229=0
         ·rw[if_pos c105]at H
          have buQ:(t229==0)=true:=beq_iff_eq.mpr c105
          have buR:(t229 !=0)=false:=bne_eq_false_iff_eq.mpr c105
          clear c105
          replace H:=Option.bind_eq_some_iff.mp H
          obtain⟨EW,a8J,H⟩:=H
          replace H:((mD.f k4 t223 EW).bind fun YO=>(if YO=true then((lY.f k4 aG aC true).bind fun zG=>((mD.f k4 t226 zG).bind fun OI=>(if OI=true then(if t236=0 then((oD.f k4 nT wP).bind fun CU=>(if CU=true then((oD.f k4 t233 sV).bind fun yO=>(if yO=true then((oN.f).bind fun _=>(some true))else(some false)))else(some false)))else(some false))else(some false))))else(some false)))=some r:=H
          have as6:=aA.mk a8J
          clear a8J
          replace H:=Option.bind_eq_some_iff.mp H
          obtain⟨YO,a8K,H⟩:=H
          replace H:(if YO=true then((lY.f k4 aG aC true).bind fun zG=>((mD.f k4 t226 zG).bind fun OI=>(if OI=true then(if t236=0 then((oD.f k4 nT wP).bind fun CU=>(if CU=true then((oD.f k4 t233 sV).bind fun yO=>(if yO=true then((oN.f).bind fun _=>(some true))else(some false)))else(some false)))else(some false))else(some false))))else(some false))=some r:=H
          have as7:=aA.mk a8K
          clear a8K
          by_cases aIA:YO=true
          ·subst aIA
           have H1:((lY.f k4 aG aC true).bind fun zG=>((mD.f k4 t226 zG).bind fun OI=>(if OI=true then(if t236=0 then((oD.f k4 nT wP).bind fun CU=>(if CU=true then((oD.f k4 t233 sV).bind fun yO=>(if yO=true then((oN.f).bind fun _=>(some true))else(some false)))else(some false)))else(some false))else(some false))))=some r:=by rw[if_pos rfl]at H;exact H
           clear H
           have H:=H1
           clear H1
           replace H:=Option.bind_eq_some_iff.mp H
           obtain⟨zG,a8L,H⟩:=H
           replace H:((mD.f k4 t226 zG).bind fun OI=>(if OI=true then(if t236=0 then((oD.f k4 nT wP).bind fun CU=>(if CU=true then((oD.f k4 t233 sV).bind fun yO=>(if yO=true then((oN.f).bind fun _=>(some true))else(some false)))else(some false)))else(some false))else(some false)))=some r:=H
           have aCI:=aA.mk a8L
           clear a8L
           replace H:=Option.bind_eq_some_iff.mp H
           obtain⟨OI,a8M,H⟩:=H
           replace H:(if OI=true then(if t236=0 then((oD.f k4 nT wP).bind fun CU=>(if CU=true then((oD.f k4 t233 sV).bind fun yO=>(if yO=true then((oN.f).bind fun _=>(some true))else(some false)))else(some false)))else(some false))else(some false))=some r:=H
           have wJ:=aA.mk a8M
           clear a8M
           by_cases aIB:OI=true
           ·subst aIB
            have H1:(if t236=0 then((oD.f k4 nT wP).bind fun CU=>(if CU=true then((oD.f k4 t233 sV).bind fun yO=>(if yO=true then((oN.f).bind fun _=>(some true))else(some false)))else(some false)))else(some false))=some r:=by rw[if_pos rfl]at H;exact H
            clear H
            have H:=H1
            clear H1
            by_cases apT:t236=0
            ·rw[if_pos apT]at H
             have buS:(t236==0)=true:=beq_iff_eq.mpr apT
             have buT:(t236 !=0)=false:=bne_eq_false_iff_eq.mpr apT
             clear apT
             replace H:=Option.bind_eq_some_iff.mp H
             obtain⟨CU,a8N,H⟩:=H
             replace H:(if CU=true then((oD.f k4 t233 sV).bind fun yO=>(if yO=true then((oN.f).bind fun _=>(some true))else(some false)))else(some false))=some r:=H
             have aSK:=aA.mk a8N
             clear a8N
             by_cases aIC:CU=true
             ·subst aIC
              have H1:((oD.f k4 t233 sV).bind fun yO=>(if yO=true then((oN.f).bind fun _=>(some true))else(some false)))=some r:=by rw[if_pos rfl]at H;exact H
              clear H
              have H:=H1
              clear H1
              replace H:=Option.bind_eq_some_iff.mp H
              obtain⟨yO,a8O,H⟩:=H
              replace H:(if yO=true then((oN.f).bind fun _=>(some true))else(some false))=some r:=H
              have a8P:=aA.mk a8O
              clear a8O
              by_cases c116:yO=true
              ·subst c116
               have H1:((oN.f).bind fun _=>(some true))=some r:=by rw[if_pos rfl]at H;exact H
               clear H
               have H:=H1
               clear H1
               replace H:=Option.bind_eq_some_iff.mp H
               obtain⟨_,a8Q,H⟩:=H
               replace H:(some true)=some r:=H
               have buU:=aA.mk a8Q
               clear a8Q
               obtain rfl:=Option.some.inj H
               obtain⟨Ao118,co118,buV⟩:=Kd.dA iM.out
               subst buV
               obtain⟨Ao119,co119,buW⟩:=Kd.dA bP.out
               subst buW
               go_wp2_with (first|(go_at_call 26;(with_reducible refine(mD.calls k4 _ _ t216 _ _ kT true _ ?jK ?jL ?jM ?jO ag8.out).mono ?_);(case jK=>exact rC bP);(case jL=>exact(Kd.dB bP.out).2.1);(case jM=>exact rC iM);(case jO=>exact(Kd.dB iM.out).2.1);rintro e w' ⟨rfl,⟨nd,rfl⟩⟩;obtain⟨Ao120,co120,buX⟩:=Kd.dA dS.out;subst buX;obtain⟨Ao121,co121,buY⟩:=Kd.dA iT.out;subst buY)|(go_at_call 26;(with_reducible refine(mD.calls k4 _ _ t219 _ _ lC true _ ?jK ?jL ?jM ?jO amD.out).mono ?_);(case jK=>exact rC dS);(case jL=>exact(Kd.dB dS.out).2.1);(case jM=>exact rC iT);(case jO=>exact(Kd.dB iT.out).2.1);rintro e w' ⟨rfl,⟨nd,rfl⟩⟩;have hnb122:=aa7.out;have hnc122:=ae3.out;have hcz123_0:wr.cell? ⟨pJ,0,none⟩=some (.slice aQ aG.length aK):=kc cZ 0;have hcz123_1:wr.cell? ⟨pJ,1,none⟩=some (.slice aT aC.length aJ):=kc cZ 1;have hfz123_0:=aX cZ.out 0;have hfz123_1:=aX cZ.out 1)|(go_at_call 27;(with_reducible refine(lY.calls k4 _ _ aG _ _ aC false EW _ ?jK ?jL ?jM ?jO as6.out).mono ?_);(case jK=>repeat(first|exact(Kd.bJ eU.out (Bq HB))|(with_reducible refine Kd.jZ ?_ _)|(with_reducible refine Kd.kD ?_ _)|(with_reducible refine Kd.kC ?_)));(case jL=>exact fK.out);(case jM=>repeat(first|exact(Kd.bJ fB.out (Bq HB))|(with_reducible refine Kd.jZ ?_ _)|(with_reducible refine Kd.kD ?_ _)|(with_reducible refine Kd.kC ?_)));(case jO=>exact fM.out);rintro e a8R ⟨aCJ,rfl,ho0,hb⟩;have aV:=aA.mk (Kd.gW (R_ bP) (Kd.fF ho0) hb);have aW:=aA.mk (Kd.gW (R_ dS) (Kd.fF ho0) hb);have aY:=aA.mk (Kd.gW (R_ dM) (Kd.fF ho0) hb);have bI:=aA.mk (Kd.gW (R_ dX) (Kd.fF ho0) hb);have cO:=RB fH hb;have gY:=RB iF hb;have kR:=aA.mk (Kd.gW (R_ iM) (Kd.fF ho0) hb);have nD:=aA.mk (Kd.gW (R_ iT) (Kd.fF ho0) hb);have nH:=RB jY hb;have nI:=RB kU hb;have nJ:=RB jA hb;have uT:=RB jB hb;have zM:=aA.mk (Kd.eF (Kd.fG (Kd.fG (Kd.fG (Kd.fG (Kd.fG (Kd.fG ho0 (Kd.dY (R_ bP))) (Kd.dY (R_ dS))) (Kd.dY (R_ dM))) (Kd.dY (R_ dX))) (Kd.dY (R_ iM))) (Kd.dY (R_ iT))) (dH (Bq HB)));have YT:=bb cZ hb;have YU:=bb eY hb;have aaI:=aA.mk (a9T (Bq HB) hb);clear bP;clear dS;clear dM;clear dX;clear fH;clear iF;clear iM;clear iT;clear jY;clear kU;clear jA;clear jB;clear cZ;clear eY;clear HB;have bP:=aV;have dS:=aW;have dM:=aY;have dX:=bI;have fH:=cO;have iF:=gY;have iM:=kR;have iT:=nD;have jY:=nH;have kU:=nI;have jA:=nJ;have jB:=uT;have tN:=zM;have cZ:=YT;have eY:=YU;have HB:=aaI;clear aV aW aY bI cO gY kR nD nH nI nJ uT zM YT YU aaI;(try clear hb);(try clear hb2);(try clear hk);(try clear hi);(try clear ho0);obtain⟨Ao125,co125,buZ⟩:=Kd.dA dM.out;subst buZ;obtain⟨Ao126,co126,bu0⟩:=Kd.dA tN.out;subst bu0)|(go_at_call 26;(with_reducible refine(mD.calls k4 _ _ t223 _ _ EW true _ ?jK ?jL ?jM ?jO as7.out).mono ?_);(case jK=>exact rC dM);(case jL=>exact(Kd.dB dM.out).2.1);(case jM=>exact rC tN);(case jO=>exact(Kd.dB tN.out).2.1);rintro e w' ⟨rfl,⟨nd,rfl⟩⟩;have hcz127_0:a8R.cell? ⟨pJ,0,none⟩=some (.slice aQ aG.length aK):=kc cZ 0;have hcz127_1:a8R.cell? ⟨pJ,1,none⟩=some (.slice aT aC.length aJ):=kc cZ 1;have hfz127_0:=aX cZ.out 0;have hfz127_1:=aX cZ.out 1)|(go_at_call 27;(with_reducible refine(lY.calls k4 _ _ aG _ _ aC true zG _ ?jK ?jL ?jM ?jO aCI.out).mono ?_);(case jK=>repeat(first|exact(Kd.bJ eU.out (Bq HB))|(with_reducible refine Kd.jZ ?_ _)|(with_reducible refine Kd.kD ?_ _)|(with_reducible refine Kd.kC ?_)));(case jL=>exact fK.out);(case jM=>repeat(first|exact(Kd.bJ fB.out (Bq HB))|(with_reducible refine Kd.jZ ?_ _)|(with_reducible refine Kd.kD ?_ _)|(with_reducible refine Kd.kC ?_)));(case jO=>exact fM.out);rintro e w128 ⟨aID,rfl,ho0,hb⟩;have aV:=aA.mk (Kd.gW (R_ bP) (Kd.fF ho0) hb);have aW:=aA.mk (Kd.gW (R_ dS) (Kd.fF ho0) hb);have aY:=aA.mk (Kd.gW (R_ dM) (Kd.fF ho0) hb);have bI:=aA.mk (Kd.gW (R_ dX) (Kd.fF ho0) hb);have cO:=RB fH hb;have gY:=RB iF hb;have kR:=aA.mk (Kd.gW (R_ iM) (Kd.fF ho0) hb);have nD:=aA.mk (Kd.gW (R_ iT) (Kd.fF ho0) hb);have nH:=RB jY hb;have nI:=RB kU hb;have nJ:=RB jA hb;have uT:=RB jB hb;have zM:=aA.mk (Kd.gW (R_ tN) (Kd.fF ho0) hb);have YT:=aA.mk (Kd.eF (Kd.fG (Kd.fG (Kd.fG (Kd.fG (Kd.fG (Kd.fG (Kd.fG ho0 (Kd.dY (R_ bP))) (Kd.dY (R_ dS))) (Kd.dY (R_ dM))) (Kd.dY (R_ dX))) (Kd.dY (R_ iM))) (Kd.dY (R_ iT))) (Kd.dY (R_ tN))) (dH (Bq HB)));have YU:=bb cZ hb;have aaI:=bb eY hb;have aaJ:=aA.mk (a9T (Bq HB) hb);clear bP;clear dS;clear dM;clear dX;clear fH;clear iF;clear iM;clear iT;clear jY;clear kU;clear jA;clear jB;clear tN;clear cZ;clear eY;clear HB;have bP:=aV;have dS:=aW;have dM:=aY;have dX:=bI;have fH:=cO;have iF:=gY;have iM:=kR;have iT:=nD;have jY:=nH;have kU:=nI;have jA:=nJ;have jB:=uT;have tN:=zM;have LZ:=YT;have cZ:=YU;have eY:=aaI;have HB:=aaJ;clear aV aW aY bI cO gY kR nD nH nI nJ uT zM YT YU aaI aaJ;(try clear hb);(try clear hb2);(try clear hk);(try clear hi);(try clear ho0);obtain⟨Ao129,co129,bu1⟩:=Kd.dA dX.out;subst bu1;obtain⟨Ao130,co130,bu2⟩:=Kd.dA LZ.out;subst bu2)|(go_at_call 26;(with_reducible refine(mD.calls k4 _ _ t226 _ _ zG true _ ?jK ?jL ?jM ?jO wJ.out).mono ?_);(case jK=>exact rC dX);(case jL=>exact(Kd.dB dX.out).2.1);(case jM=>exact rC LZ);(case jO=>exact(Kd.dB LZ.out).2.1);rintro e w' ⟨rfl,⟨nd,rfl⟩⟩;obtain⟨Ao131,co131,bu3⟩:=Kd.dA fH.out;subst bu3;obtain⟨Ao132,co132,bu4⟩:=Kd.dA jY.out;subst bu4)|(go_at_call 28;(with_reducible refine(oD.calls k4 _ _ nT _ _ wP true _ ?jK ?jL ?jM ?jO aSK.out).mono ?_);(case jK=>exact rC fH);(case jL=>exact(Kd.dB fH.out).2.1);(case jM=>exact rC jY);(case jO=>exact(Kd.dB jY.out).2.1);rintro e w' ⟨rfl,⟨nd,rfl⟩⟩;obtain⟨Ao133,co133,bu5⟩:=Kd.dA iF.out;subst bu5;obtain⟨Ao134,co134,bu6⟩:=Kd.dA kU.out;subst bu6)|(go_at_call 28;(with_reducible refine(oD.calls k4 _ _ t233 _ _ sV true _ ?jK ?jL ?jM ?jO a8P.out).mono ?_);(case jK=>exact rC iF);(case jL=>exact(Kd.dB iF.out).2.1);(case jM=>exact rC kU);(case jO=>exact(Kd.dB kU.out).2.1);rintro e w' ⟨rfl,⟨nd,rfl⟩⟩)|(go_at_call 15;(with_reducible refine(oN.calls   _ ?jK buU.out).mono ?_);(case jK=>exact Hand.lZ.below WE.out (Bq HB));rintro e w135 ⟨rfl,hb⟩;have aV:=RB bP hb;have aW:=RB dS hb;have aY:=RB dM hb;have bI:=RB dX hb;have cO:=RB fH hb;have gY:=RB iF hb;have kR:=RB iM hb;have nD:=RB iT hb;have nH:=RB jY hb;have nI:=RB kU hb;have nJ:=RB jA hb;have uT:=RB jB hb;have zM:=RB tN hb;have YT:=RB LZ hb;have YU:=bb cZ hb;have aaI:=bb eY hb;have aaJ:=aA.mk (a9T (Bq HB) hb);clear bP;clear dS;clear dM;clear dX;clear fH;clear iF;clear iM;clear iT;clear jY;clear kU;clear jA;clear jB;clear tN;clear LZ;clear cZ;clear eY;clear HB;have bP:=aV;have dS:=aW;have dM:=aY;have dX:=bI;have fH:=cO;have iF:=gY;have iM:=kR;have iT:=nD;have jY:=nH;have kU:=nI;have jA:=nJ;have jB:=uT;have tN:=zM;have LZ:=YT;have cZ:=YU;have eY:=aaI;have HB:=aaJ;clear aV aW aY bI cO gY kR nD nH nI nJ uT zM YT YU aaI aaJ;(try clear hb);(try clear hb2);(try clear hk);(try clear hi)))
               go_ret
               exact⟨by first|rfl|(simp[iU,iV]<;>rfl)|(simp[*,iU,iV]<;>rfl),Bq HB⟩
              replace c116:=Bool.eq_false_iff.mpr c116
              subst c116
              have H1:(some false)=some r:=by rw[if_neg (show ¬ (false=true) by decide)]at H;exact H
              clear H
              have H:=H1
              clear H1
              obtain rfl:=Option.some.inj H
              obtain⟨Ao136,co136,bu7⟩:=Kd.dA iM.out
              subst bu7
              obtain⟨Ao137,co137,bu8⟩:=Kd.dA bP.out
              subst bu8
              go_wp2_with (first|(go_at_call 26;(with_reducible refine(mD.calls k4 _ _ t216 _ _ kT true _ ?jK ?jL ?jM ?jO ag8.out).mono ?_);(case jK=>exact rC bP);(case jL=>exact(Kd.dB bP.out).2.1);(case jM=>exact rC iM);(case jO=>exact(Kd.dB iM.out).2.1);rintro e w' ⟨rfl,⟨nd,rfl⟩⟩;obtain⟨Ao138,co138,bu9⟩:=Kd.dA dS.out;subst bu9;obtain⟨Ao139,co139,bvA⟩:=Kd.dA iT.out;subst bvA)|(go_at_call 26;(with_reducible refine(mD.calls k4 _ _ t219 _ _ lC true _ ?jK ?jL ?jM ?jO amD.out).mono ?_);(case jK=>exact rC dS);(case jL=>exact(Kd.dB dS.out).2.1);(case jM=>exact rC iT);(case jO=>exact(Kd.dB iT.out).2.1);rintro e w' ⟨rfl,⟨nd,rfl⟩⟩;have hnb140:=aa7.out;have hnc140:=ae3.out;have hcz141_0:wr.cell? ⟨pJ,0,none⟩=some (.slice aQ aG.length aK):=kc cZ 0;have hcz141_1:wr.cell? ⟨pJ,1,none⟩=some (.slice aT aC.length aJ):=kc cZ 1;have hfz141_0:=aX cZ.out 0;have hfz141_1:=aX cZ.out 1)|(go_at_call 27;(with_reducible refine(lY.calls k4 _ _ aG _ _ aC false EW _ ?jK ?jL ?jM ?jO as6.out).mono ?_);(case jK=>repeat(first|exact(Kd.bJ eU.out (Bq HB))|(with_reducible refine Kd.jZ ?_ _)|(with_reducible refine Kd.kD ?_ _)|(with_reducible refine Kd.kC ?_)));(case jL=>exact fK.out);(case jM=>repeat(first|exact(Kd.bJ fB.out (Bq HB))|(with_reducible refine Kd.jZ ?_ _)|(with_reducible refine Kd.kD ?_ _)|(with_reducible refine Kd.kC ?_)));(case jO=>exact fM.out);rintro e a8S ⟨aCJ,rfl,ho0,hb⟩;have aV:=aA.mk (Kd.gW (R_ bP) (Kd.fF ho0) hb);have aW:=aA.mk (Kd.gW (R_ dS) (Kd.fF ho0) hb);have aY:=aA.mk (Kd.gW (R_ dM) (Kd.fF ho0) hb);have bI:=aA.mk (Kd.gW (R_ dX) (Kd.fF ho0) hb);have cO:=RB fH hb;have gY:=RB iF hb;have kR:=aA.mk (Kd.gW (R_ iM) (Kd.fF ho0) hb);have nD:=aA.mk (Kd.gW (R_ iT) (Kd.fF ho0) hb);have nH:=RB jY hb;have nI:=RB kU hb;have nJ:=RB jA hb;have uT:=RB jB hb;have zM:=aA.mk (Kd.eF (Kd.fG (Kd.fG (Kd.fG (Kd.fG (Kd.fG (Kd.fG ho0 (Kd.dY (R_ bP))) (Kd.dY (R_ dS))) (Kd.dY (R_ dM))) (Kd.dY (R_ dX))) (Kd.dY (R_ iM))) (Kd.dY (R_ iT))) (dH (Bq HB)));have YT:=bb cZ hb;have YU:=bb eY hb;have aaI:=aA.mk (a9T (Bq HB) hb);clear bP;clear dS;clear dM;clear dX;clear fH;clear iF;clear iM;clear iT;clear jY;clear kU;clear jA;clear jB;clear cZ;clear eY;clear HB;have bP:=aV;have dS:=aW;have dM:=aY;have dX:=bI;have fH:=cO;have iF:=gY;have iM:=kR;have iT:=nD;have jY:=nH;have kU:=nI;have jA:=nJ;have jB:=uT;have tN:=zM;have cZ:=YT;have eY:=YU;have HB:=aaI;clear aV aW aY bI cO gY kR nD nH nI nJ uT zM YT YU aaI;(try clear hb);(try clear hb2);(try clear hk);(try clear hi);(try clear ho0);obtain⟨Ao143,co143,bvB⟩:=Kd.dA dM.out;subst bvB;obtain⟨Ao144,co144,bvC⟩:=Kd.dA tN.out;subst bvC)|(go_at_call 26;(with_reducible refine(mD.calls k4 _ _ t223 _ _ EW true _ ?jK ?jL ?jM ?jO as7.out).mono ?_);(case jK=>exact rC dM);(case jL=>exact(Kd.dB dM.out).2.1);(case jM=>exact rC tN);(case jO=>exact(Kd.dB tN.out).2.1);rintro e w' ⟨rfl,⟨nd,rfl⟩⟩;have hcz145_0:a8S.cell? ⟨pJ,0,none⟩=some (.slice aQ aG.length aK):=kc cZ 0;have hcz145_1:a8S.cell? ⟨pJ,1,none⟩=some (.slice aT aC.length aJ):=kc cZ 1;have hfz145_0:=aX cZ.out 0;have hfz145_1:=aX cZ.out 1)|(go_at_call 27;(with_reducible refine(lY.calls k4 _ _ aG _ _ aC true zG _ ?jK ?jL ?jM ?jO aCI.out).mono ?_);(case jK=>repeat(first|exact(Kd.bJ eU.out (Bq HB))|(with_reducible refine Kd.jZ ?_ _)|(with_reducible refine Kd.kD ?_ _)|(with_reducible refine Kd.kC ?_)));(case jL=>exact fK.out);(case jM=>repeat(first|exact(Kd.bJ fB.out (Bq HB))|(with_reducible refine Kd.jZ ?_ _)|(with_reducible refine Kd.kD ?_ _)|(with_reducible refine Kd.kC ?_)));(case jO=>exact fM.out);rintro e w146 ⟨aID,rfl,ho0,hb⟩;have aV:=aA.mk (Kd.gW (R_ bP) (Kd.fF ho0) hb);have aW:=aA.mk (Kd.gW (R_ dS) (Kd.fF ho0) hb);have aY:=aA.mk (Kd.gW (R_ dM) (Kd.fF ho0) hb);have bI:=aA.mk (Kd.gW (R_ dX) (Kd.fF ho0) hb);have cO:=RB fH hb;have gY:=RB iF hb;have kR:=aA.mk (Kd.gW (R_ iM) (Kd.fF ho0) hb);have nD:=aA.mk (Kd.gW (R_ iT) (Kd.fF ho0) hb);have nH:=RB jY hb;have nI:=RB kU hb;have nJ:=RB jA hb;have uT:=RB jB hb;have zM:=aA.mk (Kd.gW (R_ tN) (Kd.fF ho0) hb);have YT:=aA.mk (Kd.eF (Kd.fG (Kd.fG (Kd.fG (Kd.fG (Kd.fG (Kd.fG (Kd.fG ho0 (Kd.dY (R_ bP))) (Kd.dY (R_ dS))) (Kd.dY (R_ dM))) (Kd.dY (R_ dX))) (Kd.dY (R_ iM))) (Kd.dY (R_ iT))) (Kd.dY (R_ tN))) (dH (Bq HB)));have YU:=bb cZ hb;have aaI:=bb eY hb;have aaJ:=aA.mk (a9T (Bq HB) hb);clear bP;clear dS;clear dM;clear dX;clear fH;clear iF;clear iM;clear iT;clear jY;clear kU;clear jA;clear jB;clear tN;clear cZ;clear eY;clear HB;have bP:=aV;have dS:=aW;have dM:=aY;have dX:=bI;have fH:=cO;have iF:=gY;have iM:=kR;have iT:=nD;have jY:=nH;have kU:=nI;have jA:=nJ;have jB:=uT;have tN:=zM;have LZ:=YT;have cZ:=YU;have eY:=aaI;have HB:=aaJ;clear aV aW aY bI cO gY kR nD nH nI nJ uT zM YT YU aaI aaJ;(try clear hb);(try clear hb2);(try clear hk);(try clear hi);(try clear ho0);obtain⟨Ao147,co147,bvD⟩:=Kd.dA dX.out;subst bvD;obtain⟨Ao148,co148,bvE⟩:=Kd.dA LZ.out;subst bvE)|(go_at_call 26;(with_reducible refine(mD.calls k4 _ _ t226 _ _ zG true _ ?jK ?jL ?jM ?jO wJ.out).mono ?_);(case jK=>exact rC dX);(case jL=>exact(Kd.dB dX.out).2.1);(case jM=>exact rC LZ);(case jO=>exact(Kd.dB LZ.out).2.1);rintro e w' ⟨rfl,⟨nd,rfl⟩⟩;obtain⟨Ao149,co149,bvF⟩:=Kd.dA fH.out;subst bvF;obtain⟨Ao150,co150,bvG⟩:=Kd.dA jY.out;subst bvG)|(go_at_call 28;(with_reducible refine(oD.calls k4 _ _ nT _ _ wP true _ ?jK ?jL ?jM ?jO aSK.out).mono ?_);(case jK=>exact rC fH);(case jL=>exact(Kd.dB fH.out).2.1);(case jM=>exact rC jY);(case jO=>exact(Kd.dB jY.out).2.1);rintro e w' ⟨rfl,⟨nd,rfl⟩⟩;obtain⟨Ao151,co151,bvH⟩:=Kd.dA iF.out;subst bvH;obtain⟨Ao152,co152,bvI⟩:=Kd.dA kU.out;subst bvI)|(go_at_call 28;(with_reducible refine(oD.calls k4 _ _ t233 _ _ sV false _ ?jK ?jL ?jM ?jO a8P.out).mono ?_);(case jK=>exact rC iF);(case jL=>exact(Kd.dB iF.out).2.1);(case jM=>exact rC kU);(case jO=>exact(Kd.dB kU.out).2.1);rintro e w' ⟨rfl,⟨nd,rfl⟩⟩))
              go_ret
              exact⟨by first|rfl|(simp[iU,iV]<;>rfl)|(simp[*,iU,iV]<;>rfl),Bq HB⟩
             replace aIC:=Bool.eq_false_iff.mpr aIC
             subst aIC
             have H1:(some false)=some r:=by rw[if_neg (show ¬ (false=true) by decide)]at H;exact H
             clear H
             have H:=H1
             clear H1
             obtain rfl:=Option.some.inj H
             obtain⟨Ao153,co153,bvJ⟩:=Kd.dA iM.out
             subst bvJ
             obtain⟨Ao154,co154,bvK⟩:=Kd.dA bP.out
             subst bvK
             go_wp2_with (first|(go_at_call 26;(with_reducible refine(mD.calls k4 _ _ t216 _ _ kT true _ ?jK ?jL ?jM ?jO ag8.out).mono ?_);(case jK=>exact rC bP);(case jL=>exact(Kd.dB bP.out).2.1);(case jM=>exact rC iM);(case jO=>exact(Kd.dB iM.out).2.1);rintro e w' ⟨rfl,⟨nd,rfl⟩⟩;obtain⟨Ao155,co155,bvL⟩:=Kd.dA dS.out;subst bvL;obtain⟨Ao156,co156,bvM⟩:=Kd.dA iT.out;subst bvM)|(go_at_call 26;(with_reducible refine(mD.calls k4 _ _ t219 _ _ lC true _ ?jK ?jL ?jM ?jO amD.out).mono ?_);(case jK=>exact rC dS);(case jL=>exact(Kd.dB dS.out).2.1);(case jM=>exact rC iT);(case jO=>exact(Kd.dB iT.out).2.1);rintro e w' ⟨rfl,⟨nd,rfl⟩⟩;have hnb157:=aa7.out;have hnc157:=ae3.out;have hcz158_0:wr.cell? ⟨pJ,0,none⟩=some (.slice aQ aG.length aK):=kc cZ 0;have hcz158_1:wr.cell? ⟨pJ,1,none⟩=some (.slice aT aC.length aJ):=kc cZ 1;have hfz158_0:=aX cZ.out 0;have hfz158_1:=aX cZ.out 1)|(go_at_call 27;(with_reducible refine(lY.calls k4 _ _ aG _ _ aC false EW _ ?jK ?jL ?jM ?jO as6.out).mono ?_);(case jK=>repeat(first|exact(Kd.bJ eU.out (Bq HB))|(with_reducible refine Kd.jZ ?_ _)|(with_reducible refine Kd.kD ?_ _)|(with_reducible refine Kd.kC ?_)));(case jL=>exact fK.out);(case jM=>repeat(first|exact(Kd.bJ fB.out (Bq HB))|(with_reducible refine Kd.jZ ?_ _)|(with_reducible refine Kd.kD ?_ _)|(with_reducible refine Kd.kC ?_)));(case jO=>exact fM.out);rintro e a8T ⟨aCJ,rfl,ho0,hb⟩;have aV:=aA.mk (Kd.gW (R_ bP) (Kd.fF ho0) hb);have aW:=aA.mk (Kd.gW (R_ dS) (Kd.fF ho0) hb);have aY:=aA.mk (Kd.gW (R_ dM) (Kd.fF ho0) hb);have bI:=aA.mk (Kd.gW (R_ dX) (Kd.fF ho0) hb);have cO:=RB fH hb;have gY:=RB iF hb;have kR:=aA.mk (Kd.gW (R_ iM) (Kd.fF ho0) hb);have nD:=aA.mk (Kd.gW (R_ iT) (Kd.fF ho0) hb);have nH:=RB jY hb;have nI:=RB kU hb;have nJ:=RB jA hb;have uT:=RB jB hb;have zM:=aA.mk (Kd.eF (Kd.fG (Kd.fG (Kd.fG (Kd.fG (Kd.fG (Kd.fG ho0 (Kd.dY (R_ bP))) (Kd.dY (R_ dS))) (Kd.dY (R_ dM))) (Kd.dY (R_ dX))) (Kd.dY (R_ iM))) (Kd.dY (R_ iT))) (dH (Bq HB)));have YT:=bb cZ hb;have YU:=bb eY hb;have aaI:=aA.mk (a9T (Bq HB) hb);clear bP;clear dS;clear dM;clear dX;clear fH;clear iF;clear iM;clear iT;clear jY;clear kU;clear jA;clear jB;clear cZ;clear eY;clear HB;have bP:=aV;have dS:=aW;have dM:=aY;have dX:=bI;have fH:=cO;have iF:=gY;have iM:=kR;have iT:=nD;have jY:=nH;have kU:=nI;have jA:=nJ;have jB:=uT;have tN:=zM;have cZ:=YT;have eY:=YU;have HB:=aaI;clear aV aW aY bI cO gY kR nD nH nI nJ uT zM YT YU aaI;(try clear hb);(try clear hb2);(try clear hk);(try clear hi);(try clear ho0);obtain⟨Ao160,co160,bvN⟩:=Kd.dA dM.out;subst bvN;obtain⟨Ao161,co161,bvO⟩:=Kd.dA tN.out;subst bvO)|(go_at_call 26;(with_reducible refine(mD.calls k4 _ _ t223 _ _ EW true _ ?jK ?jL ?jM ?jO as7.out).mono ?_);(case jK=>exact rC dM);(case jL=>exact(Kd.dB dM.out).2.1);(case jM=>exact rC tN);(case jO=>exact(Kd.dB tN.out).2.1);rintro e w' ⟨rfl,⟨nd,rfl⟩⟩;have hcz162_0:a8T.cell? ⟨pJ,0,none⟩=some (.slice aQ aG.length aK):=kc cZ 0;have hcz162_1:a8T.cell? ⟨pJ,1,none⟩=some (.slice aT aC.length aJ):=kc cZ 1;have hfz162_0:=aX cZ.out 0;have hfz162_1:=aX cZ.out 1)|(go_at_call 27;(with_reducible refine(lY.calls k4 _ _ aG _ _ aC true zG _ ?jK ?jL ?jM ?jO aCI.out).mono ?_);(case jK=>repeat(first|exact(Kd.bJ eU.out (Bq HB))|(with_reducible refine Kd.jZ ?_ _)|(with_reducible refine Kd.kD ?_ _)|(with_reducible refine Kd.kC ?_)));(case jL=>exact fK.out);(case jM=>repeat(first|exact(Kd.bJ fB.out (Bq HB))|(with_reducible refine Kd.jZ ?_ _)|(with_reducible refine Kd.kD ?_ _)|(with_reducible refine Kd.kC ?_)));(case jO=>exact fM.out);rintro e w163 ⟨aID,rfl,ho0,hb⟩;have aV:=aA.mk (Kd.gW (R_ bP) (Kd.fF ho0) hb);have aW:=aA.mk (Kd.gW (R_ dS) (Kd.fF ho0) hb);have aY:=aA.mk (Kd.gW (R_ dM) (Kd.fF ho0) hb);have bI:=aA.mk (Kd.gW (R_ dX) (Kd.fF ho0) hb);have cO:=RB fH hb;have gY:=RB iF hb;have kR:=aA.mk (Kd.gW (R_ iM) (Kd.fF ho0) hb);have nD:=aA.mk (Kd.gW (R_ iT) (Kd.fF ho0) hb);have nH:=RB jY hb;have nI:=RB kU hb;have nJ:=RB jA hb;have uT:=RB jB hb;have zM:=aA.mk (Kd.gW (R_ tN) (Kd.fF ho0) hb);have YT:=aA.mk (Kd.eF (Kd.fG (Kd.fG (Kd.fG (Kd.fG (Kd.fG (Kd.fG (Kd.fG ho0 (Kd.dY (R_ bP))) (Kd.dY (R_ dS))) (Kd.dY (R_ dM))) (Kd.dY (R_ dX))) (Kd.dY (R_ iM))) (Kd.dY (R_ iT))) (Kd.dY (R_ tN))) (dH (Bq HB)));have YU:=bb cZ hb;have aaI:=bb eY hb;have aaJ:=aA.mk (a9T (Bq HB) hb);clear bP;clear dS;clear dM;clear dX;clear fH;clear iF;clear iM;clear iT;clear jY;clear kU;clear jA;clear jB;clear tN;clear cZ;clear eY;clear HB;have bP:=aV;have dS:=aW;have dM:=aY;have dX:=bI;have fH:=cO;have iF:=gY;have iM:=kR;have iT:=nD;have jY:=nH;have kU:=nI;have jA:=nJ;have jB:=uT;have tN:=zM;have LZ:=YT;have cZ:=YU;have eY:=aaI;have HB:=aaJ;clear aV aW aY bI cO gY kR nD nH nI nJ uT zM YT YU aaI aaJ;(try clear hb);(try clear hb2);(try clear hk);(try clear hi);(try clear ho0);obtain⟨Ao164,co164,bvP⟩:=Kd.dA dX.out;subst bvP;obtain⟨Ao165,co165,bvQ⟩:=Kd.dA LZ.out;subst bvQ)|(go_at_call 26;(with_reducible refine(mD.calls k4 _ _ t226 _ _ zG true _ ?jK ?jL ?jM ?jO wJ.out).mono ?_);(case jK=>exact rC dX);(case jL=>exact(Kd.dB dX.out).2.1);(case jM=>exact rC LZ);(case jO=>exact(Kd.dB LZ.out).2.1);rintro e w' ⟨rfl,⟨nd,rfl⟩⟩;obtain⟨Ao166,co166,bvR⟩:=Kd.dA fH.out;subst bvR;obtain⟨Ao167,co167,bvS⟩:=Kd.dA jY.out;subst bvS)|(go_at_call 28;(with_reducible refine(oD.calls k4 _ _ nT _ _ wP false _ ?jK ?jL ?jM ?jO aSK.out).mono ?_);(case jK=>exact rC fH);(case jL=>exact(Kd.dB fH.out).2.1);(case jM=>exact rC jY);(case jO=>exact(Kd.dB jY.out).2.1);rintro e w' ⟨rfl,⟨nd,rfl⟩⟩))
             go_ret
             exact⟨by first|rfl|(simp[iU,iV]<;>rfl)|(simp[*,iU,iV]<;>rfl),Bq HB⟩
            rw[if_neg apT]at H
            have buS:(t236==0)=false:=beq_eq_false_iff_ne.mpr apT
            have buT:(t236 !=0)=true:=bne_iff_ne.mpr apT
            obtain rfl:=Option.some.inj H
            obtain⟨Ao168,co168,bvT⟩:=Kd.dA iM.out
            subst bvT
            obtain⟨Ao169,co169,bvU⟩:=Kd.dA bP.out
            subst bvU
            go_wp2_with (first|(go_at_call 26;(with_reducible refine(mD.calls k4 _ _ t216 _ _ kT true _ ?jK ?jL ?jM ?jO ag8.out).mono ?_);(case jK=>exact rC bP);(case jL=>exact(Kd.dB bP.out).2.1);(case jM=>exact rC iM);(case jO=>exact(Kd.dB iM.out).2.1);rintro e w' ⟨rfl,⟨nd,rfl⟩⟩;obtain⟨Ao170,co170,bvV⟩:=Kd.dA dS.out;subst bvV;obtain⟨Ao171,co171,bvW⟩:=Kd.dA iT.out;subst bvW)|(go_at_call 26;(with_reducible refine(mD.calls k4 _ _ t219 _ _ lC true _ ?jK ?jL ?jM ?jO amD.out).mono ?_);(case jK=>exact rC dS);(case jL=>exact(Kd.dB dS.out).2.1);(case jM=>exact rC iT);(case jO=>exact(Kd.dB iT.out).2.1);rintro e w' ⟨rfl,⟨nd,rfl⟩⟩;have hnb172:=aa7.out;have hnc172:=ae3.out;have hcz173_0:wr.cell? ⟨pJ,0,none⟩=some (.slice aQ aG.length aK):=kc cZ 0;have hcz173_1:wr.cell? ⟨pJ,1,none⟩=some (.slice aT aC.length aJ):=kc cZ 1;have hfz173_0:=aX cZ.out 0;have hfz173_1:=aX cZ.out 1)|(go_at_call 27;(with_reducible refine(lY.calls k4 _ _ aG _ _ aC false EW _ ?jK ?jL ?jM ?jO as6.out).mono ?_);(case jK=>repeat(first|exact(Kd.bJ eU.out (Bq HB))|(with_reducible refine Kd.jZ ?_ _)|(with_reducible refine Kd.kD ?_ _)|(with_reducible refine Kd.kC ?_)));(case jL=>exact fK.out);(case jM=>repeat(first|exact(Kd.bJ fB.out (Bq HB))|(with_reducible refine Kd.jZ ?_ _)|(with_reducible refine Kd.kD ?_ _)|(with_reducible refine Kd.kC ?_)));(case jO=>exact fM.out);rintro e a8U ⟨aCJ,rfl,ho0,hb⟩;have aV:=aA.mk (Kd.gW (R_ bP) (Kd.fF ho0) hb);have aW:=aA.mk (Kd.gW (R_ dS) (Kd.fF ho0) hb);have aY:=aA.mk (Kd.gW (R_ dM) (Kd.fF ho0) hb);have bI:=aA.mk (Kd.gW (R_ dX) (Kd.fF ho0) hb);have cO:=RB fH hb;have gY:=RB iF hb;have kR:=aA.mk (Kd.gW (R_ iM) (Kd.fF ho0) hb);have nD:=aA.mk (Kd.gW (R_ iT) (Kd.fF ho0) hb);have nH:=RB jY hb;have nI:=RB kU hb;have nJ:=RB jA hb;have uT:=RB jB hb;have zM:=aA.mk (Kd.eF (Kd.fG (Kd.fG (Kd.fG (Kd.fG (Kd.fG (Kd.fG ho0 (Kd.dY (R_ bP))) (Kd.dY (R_ dS))) (Kd.dY (R_ dM))) (Kd.dY (R_ dX))) (Kd.dY (R_ iM))) (Kd.dY (R_ iT))) (dH (Bq HB)));have YT:=bb cZ hb;have YU:=bb eY hb;have aaI:=aA.mk (a9T (Bq HB) hb);clear bP;clear dS;clear dM;clear dX;clear fH;clear iF;clear iM;clear iT;clear jY;clear kU;clear jA;clear jB;clear cZ;clear eY;clear HB;have bP:=aV;have dS:=aW;have dM:=aY;have dX:=bI;have fH:=cO;have iF:=gY;have iM:=kR;have iT:=nD;have jY:=nH;have kU:=nI;have jA:=nJ;have jB:=uT;have tN:=zM;have cZ:=YT;have eY:=YU;have HB:=aaI;clear aV aW aY bI cO gY kR nD nH nI nJ uT zM YT YU aaI;(try clear hb);(try clear hb2);(try clear hk);(try clear hi);(try clear ho0);obtain⟨Ao175,co175,bvX⟩:=Kd.dA dM.out;subst bvX;obtain⟨Ao176,co176,bvY⟩:=Kd.dA tN.out;subst bvY)|(go_at_call 26;(with_reducible refine(mD.calls k4 _ _ t223 _ _ EW true _ ?jK ?jL ?jM ?jO as7.out).mono ?_);(case jK=>exact rC dM);(case jL=>exact(Kd.dB dM.out).2.1);(case jM=>exact rC tN);(case jO=>exact(Kd.dB tN.out).2.1);rintro e w' ⟨rfl,⟨nd,rfl⟩⟩;have hcz177_0:a8U.cell? ⟨pJ,0,none⟩=some (.slice aQ aG.length aK):=kc cZ 0;have hcz177_1:a8U.cell? ⟨pJ,1,none⟩=some (.slice aT aC.length aJ):=kc cZ 1;have hfz177_0:=aX cZ.out 0;have hfz177_1:=aX cZ.out 1)|(go_at_call 27;(with_reducible refine(lY.calls k4 _ _ aG _ _ aC true zG _ ?jK ?jL ?jM ?jO aCI.out).mono ?_);(case jK=>repeat(first|exact(Kd.bJ eU.out (Bq HB))|(with_reducible refine Kd.jZ ?_ _)|(with_reducible refine Kd.kD ?_ _)|(with_reducible refine Kd.kC ?_)));(case jL=>exact fK.out);(case jM=>repeat(first|exact(Kd.bJ fB.out (Bq HB))|(with_reducible refine Kd.jZ ?_ _)|(with_reducible refine Kd.kD ?_ _)|(with_reducible refine Kd.kC ?_)));(case jO=>exact fM.out);rintro e w178 ⟨aID,rfl,ho0,hb⟩;have aV:=aA.mk (Kd.gW (R_ bP) (Kd.fF ho0) hb);have aW:=aA.mk (Kd.gW (R_ dS) (Kd.fF ho0) hb);have aY:=aA.mk (Kd.gW (R_ dM) (Kd.fF ho0) hb);have bI:=aA.mk (Kd.gW (R_ dX) (Kd.fF ho0) hb);have cO:=RB fH hb;have gY:=RB iF hb;have kR:=aA.mk (Kd.gW (R_ iM) (Kd.fF ho0) hb);have nD:=aA.mk (Kd.gW (R_ iT) (Kd.fF ho0) hb);have nH:=RB jY hb;have nI:=RB kU hb;have nJ:=RB jA hb;have uT:=RB jB hb;have zM:=aA.mk (Kd.gW (R_ tN) (Kd.fF ho0) hb);have YT:=aA.mk (Kd.eF (Kd.fG (Kd.fG (Kd.fG (Kd.fG (Kd.fG (Kd.fG (Kd.fG ho0 (Kd.dY (R_ bP))) (Kd.dY (R_ dS))) (Kd.dY (R_ dM))) (Kd.dY (R_ dX))) (Kd.dY (R_ iM))) (Kd.dY (R_ iT))) (Kd.dY (R_ tN))) (dH (Bq HB)));have YU:=bb cZ hb;have aaI:=bb eY hb;have aaJ:=aA.mk (a9T (Bq HB) hb);clear bP;clear dS;clear dM;clear dX;clear fH;clear iF;clear iM;clear iT;clear jY;clear kU;clear jA;clear jB;clear tN;clear cZ;clear eY;clear HB;have bP:=aV;have dS:=aW;have dM:=aY;have dX:=bI;have fH:=cO;have iF:=gY;have iM:=kR;have iT:=nD;have jY:=nH;have kU:=nI;have jA:=nJ;have jB:=uT;have tN:=zM;have LZ:=YT;have cZ:=YU;have eY:=aaI;have HB:=aaJ;clear aV aW aY bI cO gY kR nD nH nI nJ uT zM YT YU aaI aaJ;(try clear hb);(try clear hb2);(try clear hk);(try clear hi);(try clear ho0);obtain⟨Ao179,co179,bvZ⟩:=Kd.dA dX.out;subst bvZ;obtain⟨Ao180,co180,bv0⟩:=Kd.dA LZ.out;subst bv0)|(go_at_call 26;(with_reducible refine(mD.calls k4 _ _ t226 _ _ zG true _ ?jK ?jL ?jM ?jO wJ.out).mono ?_);(case jK=>exact rC dX);(case jL=>exact(Kd.dB dX.out).2.1);(case jM=>exact rC LZ);(case jO=>exact(Kd.dB LZ.out).2.1);rintro e w' ⟨rfl,⟨nd,rfl⟩⟩))
            go_ret
            exact⟨by first|rfl|(simp[iU,iV]<;>rfl)|(simp[*,iU,iV]<;>rfl),Bq HB⟩
           replace aIB:=Bool.eq_false_iff.mpr aIB
           subst aIB
           have H1:(some false)=some r:=by rw[if_neg (show ¬ (false=true) by decide)]at H;exact H
           clear H
           have H:=H1
           clear H1
           obtain rfl:=Option.some.inj H
           obtain⟨Ao181,co181,bv1⟩:=Kd.dA iM.out
           subst bv1
           obtain⟨Ao182,co182,bv2⟩:=Kd.dA bP.out
           subst bv2
           go_wp2_with (first|(go_at_call 26;(with_reducible refine(mD.calls k4 _ _ t216 _ _ kT true _ ?jK ?jL ?jM ?jO ag8.out).mono ?_);(case jK=>exact rC bP);(case jL=>exact(Kd.dB bP.out).2.1);(case jM=>exact rC iM);(case jO=>exact(Kd.dB iM.out).2.1);rintro e w' ⟨rfl,⟨nd,rfl⟩⟩;obtain⟨Ao183,co183,bv3⟩:=Kd.dA dS.out;subst bv3;obtain⟨Ao184,co184,bv4⟩:=Kd.dA iT.out;subst bv4)|(go_at_call 26;(with_reducible refine(mD.calls k4 _ _ t219 _ _ lC true _ ?jK ?jL ?jM ?jO amD.out).mono ?_);(case jK=>exact rC dS);(case jL=>exact(Kd.dB dS.out).2.1);(case jM=>exact rC iT);(case jO=>exact(Kd.dB iT.out).2.1);rintro e w' ⟨rfl,⟨nd,rfl⟩⟩;have hnb185:=aa7.out;have hnc185:=ae3.out;have hcz186_0:wr.cell? ⟨pJ,0,none⟩=some (.slice aQ aG.length aK):=kc cZ 0;have hcz186_1:wr.cell? ⟨pJ,1,none⟩=some (.slice aT aC.length aJ):=kc cZ 1;have hfz186_0:=aX cZ.out 0;have hfz186_1:=aX cZ.out 1)|(go_at_call 27;(with_reducible refine(lY.calls k4 _ _ aG _ _ aC false EW _ ?jK ?jL ?jM ?jO as6.out).mono ?_);(case jK=>repeat(first|exact(Kd.bJ eU.out (Bq HB))|(with_reducible refine Kd.jZ ?_ _)|(with_reducible refine Kd.kD ?_ _)|(with_reducible refine Kd.kC ?_)));(case jL=>exact fK.out);(case jM=>repeat(first|exact(Kd.bJ fB.out (Bq HB))|(with_reducible refine Kd.jZ ?_ _)|(with_reducible refine Kd.kD ?_ _)|(with_reducible refine Kd.kC ?_)));(case jO=>exact fM.out);rintro e a8V ⟨aCJ,rfl,ho0,hb⟩;have aV:=aA.mk (Kd.gW (R_ bP) (Kd.fF ho0) hb);have aW:=aA.mk (Kd.gW (R_ dS) (Kd.fF ho0) hb);have aY:=aA.mk (Kd.gW (R_ dM) (Kd.fF ho0) hb);have bI:=aA.mk (Kd.gW (R_ dX) (Kd.fF ho0) hb);have cO:=RB fH hb;have gY:=RB iF hb;have kR:=aA.mk (Kd.gW (R_ iM) (Kd.fF ho0) hb);have nD:=aA.mk (Kd.gW (R_ iT) (Kd.fF ho0) hb);have nH:=RB jY hb;have nI:=RB kU hb;have nJ:=RB jA hb;have uT:=RB jB hb;have zM:=aA.mk (Kd.eF (Kd.fG (Kd.fG (Kd.fG (Kd.fG (Kd.fG (Kd.fG ho0 (Kd.dY (R_ bP))) (Kd.dY (R_ dS))) (Kd.dY (R_ dM))) (Kd.dY (R_ dX))) (Kd.dY (R_ iM))) (Kd.dY (R_ iT))) (dH (Bq HB)));have YT:=bb cZ hb;have YU:=bb eY hb;have aaI:=aA.mk (a9T (Bq HB) hb);clear bP;clear dS;clear dM;clear dX;clear fH;clear iF;clear iM;clear iT;clear jY;clear kU;clear jA;clear jB;clear cZ;clear eY;clear HB;have bP:=aV;have dS:=aW;have dM:=aY;have dX:=bI;have fH:=cO;have iF:=gY;have iM:=kR;have iT:=nD;have jY:=nH;have kU:=nI;have jA:=nJ;have jB:=uT;have tN:=zM;have cZ:=YT;have eY:=YU;have HB:=aaI;clear aV aW aY bI cO gY kR nD nH nI nJ uT zM YT YU aaI;(try clear hb);(try clear hb2);(try clear hk);(try clear hi);(try clear ho0);obtain⟨Ao188,co188,bv5⟩:=Kd.dA dM.out;subst bv5;obtain⟨Ao189,co189,bv6⟩:=Kd.dA tN.out;subst bv6)|(go_at_call 26;(with_reducible refine(mD.calls k4 _ _ t223 _ _ EW true _ ?jK ?jL ?jM ?jO as7.out).mono ?_);(case jK=>exact rC dM);(case jL=>exact(Kd.dB dM.out).2.1);(case jM=>exact rC tN);(case jO=>exact(Kd.dB tN.out).2.1);rintro e w' ⟨rfl,⟨nd,rfl⟩⟩;have hcz190_0:a8V.cell? ⟨pJ,0,none⟩=some (.slice aQ aG.length aK):=kc cZ 0;have hcz190_1:a8V.cell? ⟨pJ,1,none⟩=some (.slice aT aC.length aJ):=kc cZ 1;have hfz190_0:=aX cZ.out 0;have hfz190_1:=aX cZ.out 1)|(go_at_call 27;(with_reducible refine(lY.calls k4 _ _ aG _ _ aC true zG _ ?jK ?jL ?jM ?jO aCI.out).mono ?_);(case jK=>repeat(first|exact(Kd.bJ eU.out (Bq HB))|(with_reducible refine Kd.jZ ?_ _)|(with_reducible refine Kd.kD ?_ _)|(with_reducible refine Kd.kC ?_)));(case jL=>exact fK.out);(case jM=>repeat(first|exact(Kd.bJ fB.out (Bq HB))|(with_reducible refine Kd.jZ ?_ _)|(with_reducible refine Kd.kD ?_ _)|(with_reducible refine Kd.kC ?_)));(case jO=>exact fM.out);rintro e w191 ⟨aID,rfl,ho0,hb⟩;have aV:=aA.mk (Kd.gW (R_ bP) (Kd.fF ho0) hb);have aW:=aA.mk (Kd.gW (R_ dS) (Kd.fF ho0) hb);have aY:=aA.mk (Kd.gW (R_ dM) (Kd.fF ho0) hb);have bI:=aA.mk (Kd.gW (R_ dX) (Kd.fF ho0) hb);have cO:=RB fH hb;have gY:=RB iF hb;have kR:=aA.mk (Kd.gW (R_ iM) (Kd.fF ho0) hb);have nD:=aA.mk (Kd.gW (R_ iT) (Kd.fF ho0) hb);have nH:=RB jY hb;have nI:=RB kU hb;have nJ:=RB jA hb;have uT:=RB jB hb;have zM:=aA.mk (Kd.gW (R_ tN) (Kd.fF ho0) hb);have YT:=aA.mk (Kd.eF (Kd.fG (Kd.fG (Kd.fG (Kd.fG (Kd.fG (Kd.fG (Kd.fG ho0 (Kd.dY (R_ bP))) (Kd.dY (R_ dS))) (Kd.dY (R_ dM))) (Kd.dY (R_ dX))) (Kd.dY (R_ iM))) (Kd.dY (R_ iT))) (Kd.dY (R_ tN))) (dH (Bq HB)));have YU:=bb cZ hb;have aaI:=bb eY hb;have aaJ:=aA.mk (a9T (Bq HB) hb);clear bP;clear dS;clear dM;clear dX;clear fH;clear iF;clear iM;clear iT;clear jY;clear kU;clear jA;clear jB;clear tN;clear cZ;clear eY;clear HB;have bP:=aV;have dS:=aW;have dM:=aY;have dX:=bI;have fH:=cO;have iF:=gY;have iM:=kR;have iT:=nD;have jY:=nH;have kU:=nI;have jA:=nJ;have jB:=uT;have tN:=zM;have LZ:=YT;have cZ:=YU;have eY:=aaI;have HB:=aaJ;clear aV aW aY bI cO gY kR nD nH nI nJ uT zM YT YU aaI aaJ;(try clear hb);(try clear hb2);(try clear hk);(try clear hi);(try clear ho0);obtain⟨Ao192,co192,bv7⟩:=Kd.dA dX.out;subst bv7;obtain⟨Ao193,co193,bv8⟩:=Kd.dA LZ.out;subst bv8)|(go_at_call 26;(with_reducible refine(mD.calls k4 _ _ t226 _ _ zG false _ ?jK ?jL ?jM ?jO wJ.out).mono ?_);(case jK=>exact rC dX);(case jL=>exact(Kd.dB dX.out).2.1);(case jM=>exact rC LZ);(case jO=>exact(Kd.dB LZ.out).2.1);rintro e w' ⟨rfl,⟨nd,rfl⟩⟩))
           go_ret
           exact⟨by first|rfl|(simp[iU,iV]<;>rfl)|(simp[*,iU,iV]<;>rfl),Bq HB⟩
          replace aIA:=Bool.eq_false_iff.mpr aIA
          subst aIA
          have H1:(some false)=some r:=by rw[if_neg (show ¬ (false=true) by decide)]at H;exact H
          clear H
          have H:=H1
          clear H1
          obtain rfl:=Option.some.inj H
          obtain⟨Ao194,co194,bv9⟩:=Kd.dA iM.out
          subst bv9
          obtain⟨Ao195,co195,bwA⟩:=Kd.dA bP.out
          subst bwA
          go_wp2_with (first|(go_at_call 26;(with_reducible refine(mD.calls k4 _ _ t216 _ _ kT true _ ?jK ?jL ?jM ?jO ag8.out).mono ?_);(case jK=>exact rC bP);(case jL=>exact(Kd.dB bP.out).2.1);(case jM=>exact rC iM);(case jO=>exact(Kd.dB iM.out).2.1);rintro e w' ⟨rfl,⟨nd,rfl⟩⟩;obtain⟨Ao196,co196,bwB⟩:=Kd.dA dS.out;subst bwB;obtain⟨Ao197,co197,bwC⟩:=Kd.dA iT.out;subst bwC)|(go_at_call 26;(with_reducible refine(mD.calls k4 _ _ t219 _ _ lC true _ ?jK ?jL ?jM ?jO amD.out).mono ?_);(case jK=>exact rC dS);(case jL=>exact(Kd.dB dS.out).2.1);(case jM=>exact rC iT);(case jO=>exact(Kd.dB iT.out).2.1);rintro e w' ⟨rfl,⟨nd,rfl⟩⟩;have hnb198:=aa7.out;have hnc198:=ae3.out;have hcz199_0:wr.cell? ⟨pJ,0,none⟩=some (.slice aQ aG.length aK):=kc cZ 0;have hcz199_1:wr.cell? ⟨pJ,1,none⟩=some (.slice aT aC.length aJ):=kc cZ 1;have hfz199_0:=aX cZ.out 0;have hfz199_1:=aX cZ.out 1)|(go_at_call 27;(with_reducible refine(lY.calls k4 _ _ aG _ _ aC false EW _ ?jK ?jL ?jM ?jO as6.out).mono ?_);(case jK=>repeat(first|exact(Kd.bJ eU.out (Bq HB))|(with_reducible refine Kd.jZ ?_ _)|(with_reducible refine Kd.kD ?_ _)|(with_reducible refine Kd.kC ?_)));(case jL=>exact fK.out);(case jM=>repeat(first|exact(Kd.bJ fB.out (Bq HB))|(with_reducible refine Kd.jZ ?_ _)|(with_reducible refine Kd.kD ?_ _)|(with_reducible refine Kd.kC ?_)));(case jO=>exact fM.out);rintro e w200 ⟨aCJ,rfl,ho0,hb⟩;have aV:=aA.mk (Kd.gW (R_ bP) (Kd.fF ho0) hb);have aW:=aA.mk (Kd.gW (R_ dS) (Kd.fF ho0) hb);have aY:=aA.mk (Kd.gW (R_ dM) (Kd.fF ho0) hb);have bI:=aA.mk (Kd.gW (R_ dX) (Kd.fF ho0) hb);have cO:=RB fH hb;have gY:=RB iF hb;have kR:=aA.mk (Kd.gW (R_ iM) (Kd.fF ho0) hb);have nD:=aA.mk (Kd.gW (R_ iT) (Kd.fF ho0) hb);have nH:=RB jY hb;have nI:=RB kU hb;have nJ:=RB jA hb;have uT:=RB jB hb;have zM:=aA.mk (Kd.eF (Kd.fG (Kd.fG (Kd.fG (Kd.fG (Kd.fG (Kd.fG ho0 (Kd.dY (R_ bP))) (Kd.dY (R_ dS))) (Kd.dY (R_ dM))) (Kd.dY (R_ dX))) (Kd.dY (R_ iM))) (Kd.dY (R_ iT))) (dH (Bq HB)));have YT:=bb cZ hb;have YU:=bb eY hb;have aaI:=aA.mk (a9T (Bq HB) hb);clear bP;clear dS;clear dM;clear dX;clear fH;clear iF;clear iM;clear iT;clear jY;clear kU;clear jA;clear jB;clear cZ;clear eY;clear HB;have bP:=aV;have dS:=aW;have dM:=aY;have dX:=bI;have fH:=cO;have iF:=gY;have iM:=kR;have iT:=nD;have jY:=nH;have kU:=nI;have jA:=nJ;have jB:=uT;have tN:=zM;have cZ:=YT;have eY:=YU;have HB:=aaI;clear aV aW aY bI cO gY kR nD nH nI nJ uT zM YT YU aaI;(try clear hb);(try clear hb2);(try clear hk);(try clear hi);(try clear ho0);obtain⟨Ao201,co201,bwD⟩:=Kd.dA dM.out;subst bwD;obtain⟨Ao202,co202,bwE⟩:=Kd.dA tN.out;subst bwE)|(go_at_call 26;(with_reducible refine(mD.calls k4 _ _ t223 _ _ EW false _ ?jK ?jL ?jM ?jO as7.out).mono ?_);(case jK=>exact rC dM);(case jL=>exact(Kd.dB dM.out).2.1);(case jM=>exact rC tN);(case jO=>exact(Kd.dB tN.out).2.1);rintro e w' ⟨rfl,⟨nd,rfl⟩⟩))
          go_ret
          exact⟨by first|rfl|(simp[iU,iV]<;>rfl)|(simp[*,iU,iV]<;>rfl),Bq HB⟩
         rw[if_neg c105]at H
         have buQ:(t229==0)=false:=beq_eq_false_iff_ne.mpr c105
         have buR:(t229 !=0)=true:=bne_iff_ne.mpr c105
         obtain rfl:=Option.some.inj H
         obtain⟨Ao203,co203,bwF⟩:=Kd.dA iM.out
         subst bwF
         obtain⟨Ao204,co204,bwG⟩:=Kd.dA bP.out
         subst bwG
         go_wp2_with (first|(go_at_call 26;(with_reducible refine(mD.calls k4 _ _ t216 _ _ kT true _ ?jK ?jL ?jM ?jO ag8.out).mono ?_);(case jK=>exact rC bP);(case jL=>exact(Kd.dB bP.out).2.1);(case jM=>exact rC iM);(case jO=>exact(Kd.dB iM.out).2.1);rintro e w' ⟨rfl,⟨nd,rfl⟩⟩;obtain⟨Ao205,co205,bwH⟩:=Kd.dA dS.out;subst bwH;obtain⟨Ao206,co206,bwI⟩:=Kd.dA iT.out;subst bwI)|(go_at_call 26;(with_reducible refine(mD.calls k4 _ _ t219 _ _ lC true _ ?jK ?jL ?jM ?jO amD.out).mono ?_);(case jK=>exact rC dS);(case jL=>exact(Kd.dB dS.out).2.1);(case jM=>exact rC iT);(case jO=>exact(Kd.dB iT.out).2.1);rintro e w' ⟨rfl,⟨nd,rfl⟩⟩))
         go_ret
         exact⟨by first|rfl|(simp[iU,iV]<;>rfl)|(simp[*,iU,iV]<;>rfl),Bq HB⟩
        replace aH9:=Bool.eq_false_iff.mpr aH9
        subst aH9
        have H1:(some false)=some r:=by rw[if_neg (show ¬ (false=true) by decide)]at H;exact H
        clear H
        have H:=H1
        clear H1
        obtain rfl:=Option.some.inj H
        obtain⟨Ao207,co207,bwJ⟩:=Kd.dA iM.out
        subst bwJ
        obtain⟨Ao208,co208,bwK⟩:=Kd.dA bP.out
        subst bwK
        go_wp2_with (first|(go_at_call 26;(with_reducible refine(mD.calls k4 _ _ t216 _ _ kT true _ ?jK ?jL ?jM ?jO ag8.out).mono ?_);(case jK=>exact rC bP);(case jL=>exact(Kd.dB bP.out).2.1);(case jM=>exact rC iM);(case jO=>exact(Kd.dB iM.out).2.1);rintro e w' ⟨rfl,⟨nd,rfl⟩⟩;obtain⟨Ao209,co209,bwL⟩:=Kd.dA dS.out;subst bwL;obtain⟨Ao210,co210,bwM⟩:=Kd.dA iT.out;subst bwM)|(go_at_call 26;(with_reducible refine(mD.calls k4 _ _ t219 _ _ lC false _ ?jK ?jL ?jM ?jO amD.out).mono ?_);(case jK=>exact rC dS);(case jL=>exact(Kd.dB dS.out).2.1);(case jM=>exact rC iT);(case jO=>exact(Kd.dB iT.out).2.1);rintro e w' ⟨rfl,⟨nd,rfl⟩⟩))
        go_ret
        exact⟨by first|rfl|(simp[iU,iV]<;>rfl)|(simp[*,iU,iV]<;>rfl),Bq HB⟩
       replace aH8:=Bool.eq_false_iff.mpr aH8
       subst aH8
       have H1:(some false)=some r:=by rw[if_neg (show ¬ (false=true) by decide)]at H;exact H
       clear H
       have H:=H1
       clear H1
       obtain rfl:=Option.some.inj H
       obtain⟨Ao211,co211,bwN⟩:=Kd.dA iM.out
       subst bwN
       obtain⟨Ao212,co212,bwO⟩:=Kd.dA bP.out
       subst bwO
       go_wp2_with (first|(go_at_call 26;(with_reducible refine(mD.calls k4 _ _ t216 _ _ kT false _ ?jK ?jL ?jM ?jO ag8.out).mono ?_);(case jK=>exact rC bP);(case jL=>exact(Kd.dB bP.out).2.1);(case jM=>exact rC iM);(case jO=>exact(Kd.dB iM.out).2.1);rintro e w' ⟨rfl,⟨nd,rfl⟩⟩))
       go_ret
       exact⟨by first|rfl|(simp[iU,iV]<;>rfl)|(simp[*,iU,iV]<;>rfl),Bq HB⟩
      rw[if_neg apS]at H
      have buO:(t222==0)=false:=beq_eq_false_iff_ne.mpr apS
      have buP:(t222 !=0)=true:=bne_iff_ne.mpr apS
      obtain rfl:=Option.some.inj H
      obtain⟨Ao213,co213,bwP⟩:=Kd.dA iM.out
      subst bwP
      go_wp2
      go_ret
      exact⟨by first|rfl|(simp[iU,iV]<;>rfl)|(simp[*,iU,iV]<;>rfl),Bq HB⟩
    rw[if_neg c60]at H
    have a7Q:(EX==0)=false:=beq_eq_false_iff_ne.mpr c60
    have a7R:(EX !=0)=true:=bne_iff_ne.mpr c60
    by_cases apU:t222=EX
    ·rw[if_pos apU]at H
     have bwQ:(t222==EX)=true:=beq_iff_eq.mpr apU
     have bwR:(t222 !=EX)=false:=bne_eq_false_iff_eq.mpr apU
     clear apU
     by_cases apV:t229=EX
     ·rw[if_pos apV]at H
      have bwS:(t229==EX)=true:=beq_iff_eq.mpr apV
      have bwT:(t229 !=EX)=false:=bne_eq_false_iff_eq.mpr apV
      clear apV
      by_cases apW:t236=EX
      ·rw[if_pos apW]at H
       have bwU:(t236==EX)=true:=beq_iff_eq.mpr apW
       have bwV:(t236 !=EX)=false:=bne_eq_false_iff_eq.mpr apW
       clear apW
       by_cases apX:(wrap64 ((wrap64 ((wrap64 ((wrap64 ((wrap64 ((t216.length:Int)+(t219.length:Int)))+(t223.length:Int)))+(t226.length:Int)))+(nT.length:Int)))+(t233.length:Int)))=0
       ·rw[if_pos apX]at H
        have bwW:((wrap64 ((wrap64 ((wrap64 ((wrap64 ((wrap64 ((t216.length:Int)+(t219.length:Int)))+(t223.length:Int)))+(t226.length:Int)))+(nT.length:Int)))+(t233.length:Int)))==0)=true:=beq_iff_eq.mpr apX
        have bwX:((wrap64 ((wrap64 ((wrap64 ((wrap64 ((wrap64 ((t216.length:Int)+(t219.length:Int)))+(t223.length:Int)))+(t226.length:Int)))+(nT.length:Int)))+(t233.length:Int)))!=0)=false:=bne_eq_false_iff_eq.mpr apX
        clear apX
        replace H:=Option.bind_eq_some_iff.mp H
        obtain⟨_,a8W,H⟩:=H
        replace H:(some true)=some r:=H
        have bwY:=aA.mk a8W
        clear a8W
        obtain rfl:=Option.some.inj H
        obtain⟨Ao219,co219,bwZ⟩:=Kd.dA bP.out
        subst bwZ
        obtain⟨Ao220,co220,bw0⟩:=Kd.dA dS.out
        subst bw0
        obtain⟨Ao221,co221,bw1⟩:=Kd.dA dM.out
        subst bw1
        obtain⟨Ao222,co222,bw2⟩:=Kd.dA dX.out
        subst bw2
        obtain⟨Ao223,co223,bw3⟩:=Kd.dA fH.out
        subst bw3
        obtain⟨Ao224,co224,bw4⟩:=Kd.dA iF.out
        subst bw4
        go_wp2_with (first|(go_at_call 15;(with_reducible refine(oN.calls   _ ?jK bwY.out).mono ?_);(case jK=>exact Hand.lZ.below WE.out (Bq HB));rintro e w225 ⟨rfl,hb⟩;have aV:=RB bP hb;have aW:=RB dS hb;have aY:=RB dM hb;have bI:=RB dX hb;have cO:=RB fH hb;have gY:=RB iF hb;have kR:=RB jA hb;have nD:=RB jB hb;have nH:=bb cZ hb;have nI:=bb eY hb;have nJ:=aA.mk (a9T (Bq HB) hb);clear bP;clear dS;clear dM;clear dX;clear fH;clear iF;clear jA;clear jB;clear cZ;clear eY;clear HB;have bP:=aV;have dS:=aW;have dM:=aY;have dX:=bI;have fH:=cO;have iF:=gY;have jA:=kR;have jB:=nD;have cZ:=nH;have eY:=nI;have HB:=nJ;clear aV aW aY bI cO gY kR nD nH nI nJ;(try clear hb);(try clear hb2);(try clear hk);(try clear hi)))
        go_ret
        exact⟨by first|rfl|(simp[iU,iV]<;>rfl)|(simp[*,iU,iV]<;>rfl),Bq HB⟩
       rw[if_neg apX]at H
       have bwW:((wrap64 ((wrap64 ((wrap64 ((wrap64 ((wrap64 ((t216.length:Int)+(t219.length:Int)))+(t223.length:Int)))+(t226.length:Int)))+(nT.length:Int)))+(t233.length:Int)))==0)=false:=beq_eq_false_iff_ne.mpr apX
       have bwX:((wrap64 ((wrap64 ((wrap64 ((wrap64 ((wrap64 ((t216.length:Int)+(t219.length:Int)))+(t223.length:Int)))+(t226.length:Int)))+(nT.length:Int)))+(t233.length:Int)))!=0)=true:=bne_iff_ne.mpr apX
       obtain rfl:=Option.some.inj H
       obtain⟨Ao226,co226,bw5⟩:=Kd.dA bP.out
       subst bw5
       obtain⟨Ao227,co227,bw6⟩:=Kd.dA dS.out
       subst bw6
       obtain⟨Ao228,co228,bw7⟩:=Kd.dA dM.out
       subst bw7
       obtain⟨Ao229,co229,bw8⟩:=Kd.dA dX.out
       subst bw8
       obtain⟨Ao230,co230,bw9⟩:=Kd.dA fH.out
       subst bw9
       obtain⟨Ao231,co231,bxA⟩:=Kd.dA iF.out
       subst bxA
       go_wp2
       go_ret
       exact⟨by first|rfl|(simp[iU,iV]<;>rfl)|(simp[*,iU,iV]<;>rfl),Bq HB⟩
      rw[if_neg apW]at H
      have bwU:(t236==EX)=false:=beq_eq_false_iff_ne.mpr apW
      have bwV:(t236 !=EX)=true:=bne_iff_ne.mpr apW
      obtain rfl:=Option.some.inj H
      go_wp2
      go_ret
      exact⟨by first|rfl|(simp[iU,iV]<;>rfl)|(simp[*,iU,iV]<;>rfl),Bq HB⟩
     rw[if_neg apV]at H
     have bwS:(t229==EX)=false:=beq_eq_false_iff_ne.mpr apV
     have bwT:(t229 !=EX)=true:=bne_iff_ne.mpr apV
     obtain rfl:=Option.some.inj H
     go_wp2
     go_ret
     exact⟨by first|rfl|(simp[iU,iV]<;>rfl)|(simp[*,iU,iV]<;>rfl),Bq HB⟩
    rw[if_neg apU]at H
    have bwQ:(t222==EX)=false:=beq_eq_false_iff_ne.mpr apU
    have bwR:(t222 !=EX)=true:=bne_iff_ne.mpr apU
    obtain rfl:=Option.some.inj H
    go_wp2
    go_ret
    exact⟨by first|rfl|(simp[iU,iV]<;>rfl)|(simp[*,iU,iV]<;>rfl),Bq HB⟩
end Go.Proofs.YtcmfnebcmmklkaaDoor.Q

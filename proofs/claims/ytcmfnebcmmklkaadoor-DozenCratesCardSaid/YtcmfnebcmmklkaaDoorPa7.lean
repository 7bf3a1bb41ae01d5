/- DozenCrates: the law returns true for every input; each argument reads behind the call as it read before (for worlds in which the two tables of the library hold what its initialisers lay). Part 7 of 7. -/
import Derived.Test.YtcmfnebcmmklkaaDoorPa6
import Derived.Test.YtcmfnebcmmklkaaDoorM3
import Derived.Test.YtcmfnebcmmklkaaDoorPa1
import Derived.Test.YtcmfnebcmmklkaaDoorCards
import Derived.Test.YtcmfnebcmmklkaaDoorTie
set_option linter.unusedVariables false
set_option linter.unusedSimpArgs false
set_option maxRecDepth 100000
set_option maxHeartbeats 8000000
namespace Go.Proofs.YtcmfnebcmmklkaaDoor.Q
open Go.RowKit Go.Proofs.YtcmfnebcmmklkaaDoorW.dQ Go.Proofs.YtcmfnebcmmklkaaDoorW.oU Go.Proofs.YtcmfnebcmmklkaaDoorW.gG
attribute [local go_sem] uA uB uC uD uM uN uO uP
theorem bZV.calls (k:Nat) (bV:Int) (bU:Int) (iL:Int) (iO:Int) (kV:Int) (lW:Int) (rW:Int) (A1:Option Addr) (c1:Nat) (l1:List (gQ)) (a2:Int) (r:Bool) (w:World) (hT:Hand.lZ w) (hr1:Kd.C vC w A1 l1.length l1) (hc1:l1.length<=c1) (h:bZV.f k bV bU iL iO kV lW rW l1 a2=some r):
    Calls Tryd.prog 6 #[.agg #[.int .i64 bV,.int .i64 bU,.int .i64 iL,.int .i64 iO,.int .i64 kV,.int .i64 lW,.int .i64 rW],.slice A1 l1.length c1,.int .i64 a2] w fun e w'=>e=.returned (.bool r)/\Below w.heap.size w w':=by
 have aPM:=Tryd.underlying53
 have WE:=aA.mk hT
 clear hT
 have HR1:=aA.mk hr1
 have HC1:=aA.mk hc1
 clear hr1 hc1
 have HB:=aA.mk (Below.refl w.heap.size w)
 have H:(if(l1.length:Int)>12 then((oN.f).bind fun _=>(some true))else((aAE.f l1).bind fun GH=>((asC.f bV bU iL iO kV lW rW GH a2).bind fun apE=>((aGQ.f bV bU iL iO kV lW rW GH a2).bind fun aiR=>((aGO.f bV bU iL iO kV lW rW GH a2).bind fun ajL=>((aiS.f k GH l1).bind fun aAN=>(if aAN=true then((aaU.f k bV bU iL iO kV lW rW l1 a2).bind fun afN=>(if afN=0 then(if 0<=(IntKind.u64.wrap ((l1.length:Int)))then((abB.f k bV bU iL iO kV lW rW l1 a2 (wrap64 ((shl .i64 1 (IntKind.u64.wrap ((l1.length:Int)))) - 1))).bind fun afW=>(if(afW.1.length:Int)=0 then(bZV.j0 k l1 apE.1 apE.2 aiR.1 aiR.2.1 aiR.2.2 ajL.1 ajL.2 9 afW.1)else(bZV.j0 k l1 apE.1 apE.2 aiR.1 aiR.2.1 aiR.2.2 ajL.1 ajL.2 afN afW.1)))else(none))else(bZV.j0 k l1 apE.1 apE.2 aiR.1 aiR.2.1 aiR.2.2 ajL.1 ajL.2 afN (([]:List (List Int))))))else(some false))))))))=some r:=h
 clear h
 by_cases c4:(l1.length:Int)>12
 ·rw[if_pos c4]at H
  have yH:decide (12<(l1.length:Int))=true:=decide_eq_true c4
  have aq1:decide (12<l1.length)=true:=decide_eq_true (by omega)
  clear c4
  replace H:=Option.bind_eq_some_iff.mp H
  obtain⟨_,A50,H⟩:=H
  replace H:(some true)=some r:=H
  have A5:=aA.mk A50
  clear A50
  obtain rfl:=Option.some.inj H
  go_enter Tryd.func6,Tryd.ntmps6
  go_wp2_with (first|((with_reducible refine dU (N:=3) rfl ?_);(try(refine xJ (by rfl) ?_;dsimp only));refine eX 3 #[.int .i64 bV,.int .i64 bU,.int .i64 iL,.int .i64 iO,.int .i64 kV,.int .i64 lW,.int .i64 rW] 53 ?_;intro au8 hg w6 hbox hb;have sD:=aA.mk (hbox);have bOD:=gw hg HB;have bOE:=gw hg HB;replace HB:=bs HB hb;clear hb hbox hg)|((with_reducible refine gJ (f:=15) rfl ?_);refine cE 22 Tryd.func15 #[] ?_;refine(oN.calls   _ (Hand.lZ.below WE.out (Bq HB)) A5.out).mono ?_;rintro e w7 ⟨rfl,hb⟩;refine⟨_,rfl,?_⟩;replace sD:=bb sD hb;replace HB:=bs HB hb;(try clear hb)))
  go_ret
  exact eR HB
 rw[if_neg c4]at H
 have yH:decide (12<(l1.length:Int))=false:=decide_eq_false c4
 have aq1:decide (12<l1.length)=false:=decide_eq_false (by omega)
 clear c4
 replace H:=Option.bind_eq_some_iff.mp H
 obtain⟨GH,DZ,H⟩:=H
 replace H:((asC.f bV bU iL iO kV lW rW GH a2).bind fun apE=>((aGQ.f bV bU iL iO kV lW rW GH a2).bind fun aiR=>((aGO.f bV bU iL iO kV lW rW GH a2).bind fun ajL=>((aiS.f k GH l1).bind fun aAN=>(if aAN=true then((aaU.f k bV bU iL iO kV lW rW l1 a2).bind fun afN=>(if afN=0 then(if 0<=(IntKind.u64.wrap ((l1.length:Int)))then((abB.f k bV bU iL iO kV lW rW l1 a2 (wrap64 ((shl .i64 1 (IntKind.u64.wrap ((l1.length:Int)))) - 1))).bind fun afW=>(if(afW.1.length:Int)=0 then(bZV.j0 k l1 apE.1 apE.2 aiR.1 aiR.2.1 aiR.2.2 ajL.1 ajL.2 9 afW.1)else(bZV.j0 k l1 apE.1 apE.2 aiR.1 aiR.2.1 aiR.2.2 ajL.1 ajL.2 afN afW.1)))else(none))else(bZV.j0 k l1 apE.1 apE.2 aiR.1 aiR.2.1 aiR.2.2 ajL.1 ajL.2 afN (([]:List (List Int))))))else(some false))))))=some r:=H
 have A8:=aA.mk DZ
 clear DZ
 replace H:=Option.bind_eq_some_iff.mp H
 obtain⟨⟨arW,ahA⟩,YM,H⟩:=H
 replace H:((aGQ.f bV bU iL iO kV lW rW GH a2).bind fun aiR=>((aGO.f bV bU iL iO kV lW rW GH a2).bind fun ajL=>((aiS.f k GH l1).bind fun aAN=>(if aAN=true then((aaU.f k bV bU iL iO kV lW rW l1 a2).bind fun afN=>(if afN=0 then(if 0<=(IntKind.u64.wrap ((l1.length:Int)))then((abB.f k bV bU iL iO kV lW rW l1 a2 (wrap64 ((shl .i64 1 (IntKind.u64.wrap ((l1.length:Int)))) - 1))).bind fun afW=>(if(afW.1.length:Int)=0 then(bZV.j0 k l1 arW ahA aiR.1 aiR.2.1 aiR.2.2 ajL.1 ajL.2 9 afW.1)else(bZV.j0 k l1 arW ahA aiR.1 aiR.2.1 aiR.2.2 ajL.1 ajL.2 afN afW.1)))else(none))else(bZV.j0 k l1 arW ahA aiR.1 aiR.2.1 aiR.2.2 ajL.1 ajL.2 afN (([]:List (List Int))))))else(some false)))))=some r:=H
 have A9:=aA.mk YM
 clear YM
 replace H:=Option.bind_eq_some_iff.mp H
 obtain⟨⟨lC,aFQ,ah7⟩,alX,H⟩:=H
 replace H:((aGO.f bV bU iL iO kV lW rW GH a2).bind fun ajL=>((aiS.f k GH l1).bind fun aAN=>(if aAN=true then((aaU.f k bV bU iL iO kV lW rW l1 a2).bind fun afN=>(if afN=0 then(if 0<=(IntKind.u64.wrap ((l1.length:Int)))then((abB.f k bV bU iL iO kV lW rW l1 a2 (wrap64 ((shl .i64 1 (IntKind.u64.wrap ((l1.length:Int)))) - 1))).bind fun afW=>(if(afW.1.length:Int)=0 then(bZV.j0 k l1 arW ahA lC aFQ ah7 ajL.1 ajL.2 9 afW.1)else(bZV.j0 k l1 arW ahA lC aFQ ah7 ajL.1 ajL.2 afN afW.1)))else(none))else(bZV.j0 k l1 arW ahA lC aFQ ah7 ajL.1 ajL.2 afN (([]:List (List Int))))))else(some false))))=some r:=H
 have A10:=aA.mk alX
 clear alX
 replace H:=Option.bind_eq_some_iff.mp H
 obtain⟨⟨ah8,ahP⟩,wJ,H⟩:=H
 replace H:((aiS.f k GH l1).bind fun aAN=>(if aAN=true then((aaU.f k bV bU iL iO kV lW rW l1 a2).bind fun afN=>(if afN=0 then(if 0<=(IntKind.u64.wrap ((l1.length:Int)))then((abB.f k bV bU iL iO kV lW rW l1 a2 (wrap64 ((shl .i64 1 (IntKind.u64.wrap ((l1.length:Int)))) - 1))).bind fun afW=>(if(afW.1.length:Int)=0 then(bZV.j0 k l1 arW ahA lC aFQ ah7 ah8 ahP 9 afW.1)else(bZV.j0 k l1 arW ahA lC aFQ ah7 ah8 ahP afN afW.1)))else(none))else(bZV.j0 k l1 arW ahA lC aFQ ah7 ah8 ahP afN (([]:List (List Int))))))else(some false)))=some r:=H
 have BU:=aA.mk wJ
 clear wJ
 replace H:=Option.bind_eq_some_iff.mp H
 obtain⟨aAN,adJ,H⟩:=H
 replace H:(if aAN=true then((aaU.f k bV bU iL iO kV lW rW l1 a2).bind fun afN=>(if afN=0 then(if 0<=(IntKind.u64.wrap ((l1.length:Int)))then((abB.f k bV bU iL iO kV lW rW l1 a2 (wrap64 ((shl .i64 1 (IntKind.u64.wrap ((l1.length:Int)))) - 1))).bind fun afW=>(if(afW.1.length:Int)=0 then(bZV.j0 k l1 arW ahA lC aFQ ah7 ah8 ahP 9 afW.1)else(bZV.j0 k l1 arW ahA lC aFQ ah7 ah8 ahP afN afW.1)))else(none))else(bZV.j0 k l1 arW ahA lC aFQ ah7 ah8 ahP afN (([]:List (List Int))))))else(some false))=some r:=H
 have A12:=aA.mk adJ
 clear adJ
 by_cases c13:aAN=true
 ·subst c13
  replace H:((aaU.f k bV bU iL iO kV lW rW l1 a2).bind fun afN=>(if afN=0 then(if 0<=(IntKind.u64.wrap ((l1.length:Int)))then((abB.f k bV bU iL iO kV lW rW l1 a2 (wrap64 ((shl .i64 1 (IntKind.u64.wrap ((l1.length:Int)))) - 1))).bind fun afW=>(if(afW.1.length:Int)=0 then(bZV.j0 k l1 arW ahA lC aFQ ah7 ah8 ahP 9 afW.1)else(bZV.j0 k l1 arW ahA lC aFQ ah7 ah8 ahP afN afW.1)))else(none))else(bZV.j0 k l1 arW ahA lC aFQ ah7 ah8 ahP afN (([]:List (List Int))))))=some r:=by rw[if_pos rfl]at H;exact H
  replace H:=Option.bind_eq_some_iff.mp H
  obtain⟨afN,bOF,H⟩:=H
  replace H:(if afN=0 then(if 0<=(IntKind.u64.wrap ((l1.length:Int)))then((abB.f k bV bU iL iO kV lW rW l1 a2 (wrap64 ((shl .i64 1 (IntKind.u64.wrap ((l1.length:Int)))) - 1))).bind fun afW=>(if(afW.1.length:Int)=0 then(bZV.j0 k l1 arW ahA lC aFQ ah7 ah8 ahP 9 afW.1)else(bZV.j0 k l1 arW ahA lC aFQ ah7 ah8 ahP afN afW.1)))else(none))else(bZV.j0 k l1 arW ahA lC aFQ ah7 ah8 ahP afN (([]:List (List Int)))))=some r:=H
  have A14:=aA.mk bOF
  clear bOF
  obtain⟨bOG,bB3⟩:∃ y_:List (List Int),y_=(([]:List (List Int))):=⟨_,rfl⟩
  replace H:(if afN=0 then(if 0<=(IntKind.u64.wrap ((l1.length:Int)))then((abB.f k bV bU iL iO kV lW rW l1 a2 (wrap64 ((shl .i64 1 (IntKind.u64.wrap ((l1.length:Int)))) - 1))).bind fun afW=>(if(afW.1.length:Int)=0 then(bZV.j0 k l1 arW ahA lC aFQ ah7 ah8 ahP 9 afW.1)else(bZV.j0 k l1 arW ahA lC aFQ ah7 ah8 ahP afN afW.1)))else(none))else(bZV.j0 k l1 arW ahA lC aFQ ah7 ah8 ahP afN bOG))=some r:=by first|(rw[bB3];with_reducible exact H)|(have dJ:=(Option.bind_some _ _).symm.trans H;rw[bB3];with_reducible exact dJ)|(have dJ:=(Option.bind_some _ _).symm.trans H;with_reducible exact dJ)|with_reducible exact H|(rw[bB3];exact H)|exact H
  have bOH:=aA.mk bB3
  clear bB3
  have bKC:=aA.mk H
  clear H
  go_enter Tryd.func6,Tryd.ntmps6
  go_upto_if 57 with(first|((with_reducible refine dU (N:=3) rfl ?_);(try(refine xJ (by rfl) ?_;dsimp only));refine eX 3 #[.int .i64 bV,.int .i64 bU,.int .i64 iL,.int .i64 iO,.int .i64 kV,.int .i64 lW,.int .i64 rW] 53 ?_;intro au8 hg w16 hbox hb;have sD:=aA.mk (hbox);have bOD:=gw hg HB;have bOE:=gw hg HB;replace HB:=bs HB hb;clear hb hbox hg)|((with_reducible refine gJ (f:=34) rfl ?_);refine cE 24 Tryd.func34 #[.slice A1 l1.length c1] ?_;refine(aAE.calls _ _ l1 GH _ (Kd.bJ HR1.out (Bq HB)) HC1.out A8.out).mono ?_;rintro e uS ⟨bWU,rfl,ho0,hb⟩;refine⟨_,rfl,?_⟩;have agP:=aA.mk (Kd.eF ho0 (dH (Bq HB)));replace sD:=bb sD hb;replace HB:=bs HB hb;(try clear hb);(try clear ho0);obtain⟨OW,OX⟩:=bZ sD (.int .i64 bV) (.int .i64 bU);have bHN:=kd sD 2 (.int .i64 iL);have bWV:=kd sD 3 (.int .i64 iO);have bWW:=kd sD 4 (.int .i64 kV);have bWX:=kd sD 5 (.int .i64 lW);have bWY:=kd sD 6 (.int .i64 rW);have afD:=aX sD.out 0;have afE:=aX sD.out 1;have bHO:=aX sD.out 2;have bWZ:=aX sD.out 3;have bW0:=aX sD.out 4;have bW1:=aX sD.out 5;have bW2:=aX sD.out 6;obtain⟨bqT,bqU,rfl⟩:=Kd.dA agP.out)|((with_reducible refine gJ (f:=35) rfl ?_);refine cE 29 Tryd.func35 #[.agg #[.int .i64 bV,.int .i64 bU,.int .i64 iL,.int .i64 iO,.int .i64 kV,.int .i64 lW,.int .i64 rW],.slice bqT GH.length bqU,.int .i64 a2] ?_;refine(asC.calls bV bU iL iO kV lW rW _ _ GH a2 arW ahA _ (rC agP) ((Kd.dB agP.out).2.1) A9.out).mono ?_;rintro e zD ⟨a3J,rfl,ho0,hb⟩;refine⟨_,rfl,?_⟩;have am3:=aA.mk (Kd.apI (Kd.ac8 (ok':=fun k_=>some k_≠(.slice bqT GH.length bqU:Value).ownBlock/\k_≠au8) (Kd.R_N (Kd.adZ ho0)) (fun k_ hk_=>⟨(Kd.fresh' (Kd.dY (R_ agP)) k_ hk_.2.1),(Kd.aIM (g:=au8) (o:=.cells #[.int .i64 bV,.int .i64 bU,.int .i64 iL,.int .i64 iO,.int .i64 kV,.int .i64 lW,.int .i64 rW] 53 (0,0)) (b_ sD) k_ hk_.2.1)⟩)) (dH (Bq HB)));replace agP:=RB agP hb;replace sD:=bb sD hb;replace HB:=bs HB hb;(try clear hb);(try clear ho0);obtain⟨bcC,bcD⟩:=bZ sD (.int .i64 bV) (.int .i64 bU);have bcE:=kd sD 2 (.int .i64 iL);have bcF:=kd sD 3 (.int .i64 iO);have bOI:=kd sD 4 (.int .i64 kV);have bOJ:=kd sD 5 (.int .i64 lW);have bOK:=kd sD 6 (.int .i64 rW);have bcG:=aX sD.out 0;have bcH:=aX sD.out 1;have bcI:=aX sD.out 2;have bcJ:=aX sD.out 3;have bOL:=aX sD.out 4;have bOM:=aX sD.out 5;have bON:=aX sD.out 6)|((with_reducible refine gJ (f:=36) rfl ?_);refine cE 36 Tryd.func36 #[.agg #[.int .i64 bV,.int .i64 bU,.int .i64 iL,.int .i64 iO,.int .i64 kV,.int .i64 lW,.int .i64 rW],.slice bqT GH.length bqU,.int .i64 a2] ?_;refine(aGQ.calls bV bU iL iO kV lW rW _ _ GH a2 lC aFQ ah7 _ (rC agP) ((Kd.dB agP.out).2.1) A10.out).mono ?_;rintro e AU ⟨aa8,aO3,rfl,ho0,ho1,hb⟩;refine⟨_,rfl,?_⟩;have aCC:=aA.mk (Kd.eF ho0 (dH (Bq HB)));have aHX:=aA.mk (Kd.eF ho1 (dH (Bq HB)));replace agP:=RB agP hb;replace am3:=aA.mk (Kd.ac8 (Kd.agE (Kd.agE (Kd.aoB (by(with_reducible repeat(first|apply Kd.aaJ|apply Kd.aaK|apply Kd.RD));exact am3.out) hb) (Kd.fF ho0)) (Kd.fF ho1)) (fun _ h_=>h_.1));replace sD:=bb sD hb;replace HB:=bs HB hb;(try clear hb);(try clear ho0);(try clear ho1);obtain⟨amO,amP⟩:=bZ sD (.int .i64 bV) (.int .i64 bU);have bW3:=kd sD 2 (.int .i64 iL);have bW4:=kd sD 3 (.int .i64 iO);have bW5:=kd sD 4 (.int .i64 kV);have bW6:=kd sD 5 (.int .i64 lW);have bW7:=kd sD 6 (.int .i64 rW);have at7:=aX sD.out 0;have auA:=aX sD.out 1;have bW8:=aX sD.out 2;have bW9:=aX sD.out 3;have bXA:=aX sD.out 4;have bXB:=aX sD.out 5;have bXC:=aX sD.out 6)|((with_reducible refine gJ (f:=37) rfl ?_);refine cE 44 Tryd.func37 #[.agg #[.int .i64 bV,.int .i64 bU,.int .i64 iL,.int .i64 iO,.int .i64 kV,.int .i64 lW,.int .i64 rW],.slice bqT GH.length bqU,.int .i64 a2] ?_;refine(aGO.calls bV bU iL iO kV lW rW _ _ GH a2 ah8 ahP _ (Hand.lZ.below WE.out (Bq HB)) (rC agP) ((Kd.dB agP.out).2.1) BU.out).mono ?_;rintro e BN ⟨aO5,rfl,ho0,hb⟩;refine⟨_,rfl,?_⟩;have azF:=aA.mk (Kd.eF (Kd.fG (Kd.fG ho0 (Kd.dY (R_ aCC))) (Kd.dY (R_ aHX))) (dH (Bq HB)));replace agP:=RB agP hb;replace am3:=aA.mk (Kd.apL (by(with_reducible repeat(first|apply Kd.aaJ|apply Kd.aaK|apply Kd.RD));exact am3.out) (Kd.fF ho0) hb);replace aCC:=aA.mk (Kd.gW (R_ aCC) (Kd.fF ho0) hb);replace aHX:=aA.mk (Kd.gW (R_ aHX) (Kd.fF ho0) hb);replace sD:=bb sD hb;replace HB:=bs HB hb;(try clear hb);(try clear ho0))|((with_reducible refine gJ (f:=38) rfl ?_);refine cE 49 Tryd.func38 #[.slice bqT GH.length bqU,.slice A1 l1.length c1] ?_;refine(aiS.calls k _ _ GH _ _ l1 true _ (rC agP) ((Kd.dB agP.out).2.1) (Kd.bJ HR1.out (Bq HB)) HC1.out A12.out).mono ?_;rintro e w' ⟨rfl,⟨nd,rfl⟩⟩;refine⟨_,rfl,?_⟩;obtain⟨ahI,ahJ⟩:=bZ sD (.int .i64 bV) (.int .i64 bU);have bXD:=kd sD 2 (.int .i64 iL);have bXE:=kd sD 3 (.int .i64 iO);have bXF:=kd sD 4 (.int .i64 kV);have bXG:=kd sD 5 (.int .i64 lW);have bXH:=kd sD 6 (.int .i64 rW);have auB:=aX sD.out 0;have auC:=aX sD.out 1;have bXI:=aX sD.out 2;have bXJ:=aX sD.out 3;have bXK:=aX sD.out 4;have bXL:=aX sD.out 5;have bXM:=aX sD.out 6)|((with_reducible refine gJ (f:=39) rfl ?_);refine cE 54 Tryd.func39 #[.agg #[.int .i64 bV,.int .i64 bU,.int .i64 iL,.int .i64 iO,.int .i64 kV,.int .i64 lW,.int .i64 rW],.slice A1 l1.length c1,.int .i64 a2] ?_;refine(aaU.calls k bV bU iL iO kV lW rW _ _ l1 a2 afN _ (by repeat(first|exact(Kd.bJ HR1.out (Bq HB))|(with_reducible refine Kd.jZ ?_ _)|(with_reducible refine Kd.kD ?_ _)|(with_reducible refine Kd.kC ?_))) HC1.out A14.out).mono ?_;rintro e xN ⟨rfl,hb⟩;refine⟨_,rfl,?_⟩;replace agP:=RB agP hb;replace am3:=aA.mk (Kd.apD (by(with_reducible repeat(first|apply Kd.aaJ|apply Kd.aaK|apply Kd.RD));exact am3.out) hb);replace aCC:=RB aCC hb;replace aHX:=RB aHX hb;replace azF:=RB azF hb;replace sD:=bb sD hb;replace HB:=bs HB hb;(try clear hb))|((with_reducible refine dU (N:=55) rfl ?_);(try(refine xJ (by rfl) ?_;dsimp only));refine Kd.bxX (Kd.slice 3 (Kd.int .i64)) _ 34 ?hg (N':=55) ?hd (xs:=([]:List (List Int))) (inner:=[]) (ok:=(fun k_=>some k_≠(.slice bqT GH.length bqU:Value).ownBlock/\some k_≠(a3J:Value).ownBlock/\some k_≠(aa8:Value).ownBlock/\some k_≠(aO3:Value).ownBlock/\some k_≠(aO5:Value).ownBlock/\k_≠au8)) (lS:=(fun k_=>some k_≠(.slice bqT GH.length bqU:Value).ownBlock/\some k_≠(a3J:Value).ownBlock/\some k_≠(aa8:Value).ownBlock/\some k_≠(aO3:Value).ownBlock/\some k_≠(aO5:Value).ownBlock/\k_≠au8)) ?hr ?hp (fun _ hk=>hk) ((show ∀ k_,xN.heap.size<=k_->(fun k_=>some k_≠(.slice bqT GH.length bqU:Value).ownBlock/\some k_≠(a3J:Value).ownBlock/\some k_≠(aa8:Value).ownBlock/\some k_≠(aO3:Value).ownBlock/\some k_≠(aO5:Value).ownBlock/\k_≠au8) k_ from fun k_ hk=>⟨Kd.fresh' (Kd.dY (R_ agP)) k_ hk,Kd.fresh' (Kd.aE9 (by(with_reducible repeat(first|apply Kd.aaJ|apply Kd.aaK|apply Kd.RD));exact am3.out)) k_ hk,Kd.fresh' (Kd.dY (R_ aCC)) k_ hk,Kd.fresh' (Kd.dY (R_ aHX)) k_ hk,Kd.fresh' (Kd.dY (R_ azF)) k_ hk,Kd.aIM (g:=au8) (o:=.cells #[.int .i64 bV,.int .i64 bU,.int .i64 iL,.int .i64 iO,.int .i64 kV,.int .i64 lW,.int .i64 rW] 53 (0,0)) (b_ sD) k_ hk⟩) _ (Nat.le_refl _)) (Below.refl _ _) (Nat.le_refl _) (by simp) ?_;(case hd=>rfl);(case hg=>rfl);(case hr=>first|(go_simp;done)|(go_simp;rfl));(case hp=>exact(gX.none _ _));intro bOO wF bxR hb mF mG;clear mF mG;(first|rw[<-bOH.out]at bxR|(simp only[Int.reduceToNat]at bxR;rw[<-bOH.out]at bxR));have bnO:=aA.mk (Kd.apI bxR (dH (Bq HB)));replace agP:=RB agP hb;replace am3:=aA.mk (Kd.apL (by(with_reducible repeat(first|apply Kd.aaJ|apply Kd.aaK|apply Kd.RD));exact am3.out) (Kd.arD bxR) hb);replace aCC:=RB aCC hb;replace aHX:=RB aHX hb;replace azF:=RB azF hb;replace sD:=bb sD hb;replace HB:=bs HB hb;clear hb bxR))
  (try simp only[Act.put,List.setIfInBounds_toArray,List.set_cons_zero,List.set_cons_succ])
  go_cut [15,16] (fun v15 v16 wc=>∃ (kq:Nat) (anE:Int) (ajE:List (List Int)),v15=.int .i64 anE/\aA (bZV.j0 kq l1 arW ahA lC aFQ ah7 ah8 ahP anE ajE=some r)/\aA (kq<=k)/\aA (Kd.N (Kd.slice 3 (Kd.int .i64)) 34 wc w.heap.size (fun k_=>some k_≠(aa8:Value).ownBlock/\some k_≠(aO3:Value).ownBlock/\some k_≠(aO5:Value).ownBlock/\some k_≠(v16:Value).ownBlock/\k_≠au8) a3J arW)/\aA (Kd.R (Kd.int .i64) 3 wc w.heap.size (fun k_=>some k_≠(aO3:Value).ownBlock/\some k_≠(aO5:Value).ownBlock) aa8 lC)/\aA (Kd.R (Kd.int .i64) 3 wc w.heap.size (fun k_=>some k_≠(aa8:Value).ownBlock/\some k_≠(aO5:Value).ownBlock) aO3 aFQ)/\aA (Kd.R (Kd.int .i64) 3 wc w.heap.size (fun k_=>some k_≠(aa8:Value).ownBlock/\some k_≠(aO3:Value).ownBlock) aO5 ah8)/\aA (Kd.N (Kd.slice 3 (Kd.int .i64)) 34 wc w.heap.size (fun k_=>some k_≠(a3J:Value).ownBlock/\some k_≠(aa8:Value).ownBlock/\some k_≠(aO3:Value).ownBlock/\some k_≠(aO5:Value).ownBlock/\k_≠au8) v16 ajE)/\aA (wc.heap[au8]? =some (.cells #[.int .i64 bV,.int .i64 bU,.int .i64 iL,.int .i64 iO,.int .i64 kV,.int .i64 lW,.int .i64 rW] 53 (0,0)))/\aA (Below w.heap.size w wc))
  case first=>
   have H:=bKC.out
   clear bKC
   by_cases c29:afN=0
   ·rw[if_pos c29]at H
    have aNM:(afN==0)=true:=beq_iff_eq.mpr c29
    have bXN:(afN !=0)=false:=bne_eq_false_iff_eq.mpr c29
    clear c29
    (first|rw[aNM]|(simp only[wQ,yQ];rw[aNM])|skip)
    obtain⟨aBN,bOP⟩:∃ j_:Int,(IntKind.u64.wrap ((l1.length:Int)))=j_:=⟨_,rfl⟩
    replace H:(if 0<=(aBN)then((abB.f k bV bU iL iO kV lW rW l1 a2 (wrap64 ((shl .i64 1 (aBN)) - 1))).bind fun afW=>(if(afW.1.length:Int)=0 then(bZV.j0 k l1 arW ahA lC aFQ ah7 ah8 ahP 9 afW.1)else(bZV.j0 k l1 arW ahA lC aFQ ah7 ah8 ahP afN afW.1)))else(none))=some r:=by first|(rw[bOP]at H;exact H)|(simp only[bOP]at H ⊢;exact H)
    by_cases c31:0<=(aBN)
    ·rw[if_pos c31]at H
     have br8:=eq_true c31
     have br9:decide (0<=(aBN))=true:=decide_eq_true c31
     clear c31
     obtain⟨aO7,bxS⟩:∃ j_:Int,(shl .i64 1 (aBN))=j_:=⟨_,rfl⟩
     replace H:((abB.f k bV bU iL iO kV lW rW l1 a2 (wrap64 ((aO7) - 1))).bind fun afW=>(if(afW.1.length:Int)=0 then(bZV.j0 k l1 arW ahA lC aFQ ah7 ah8 ahP 9 afW.1)else(bZV.j0 k l1 arW ahA lC aFQ ah7 ah8 ahP afN afW.1)))=some r:=by first|(rw[bxS]at H;exact H)|(simp only[bxS]at H ⊢;exact H)
     have bOQ:(IntKind.i64.wrap (1*2^min (aBN).toNat 64))=aO7:=bxS
     have bOR:(aBN)<=64->(IntKind.i64.wrap (1*2^(aBN).toNat))=aO7:=aTM bxS
     have hji32u:(IntKind.i64.wrap (2^min (aBN).toNat 64))=aO7:=by have h_:=bOQ;rw[Int.one_mul]at h_;exact h_
     have hji32v:(aBN)<=64->(IntKind.i64.wrap (2^(aBN).toNat))=aO7:=fun aN4=>by have h_:=bOR aN4;rw[Int.one_mul]at h_;exact h_
     have hji32y:(wrap64 (1*2^min (aBN).toNat 64))=aO7:=(wQ _).symm.trans bOQ
     have hji32x:(aBN)<=64->(wrap64 (1*2^(aBN).toNat))=aO7:=fun h_=>(wQ _).symm.trans (bOR h_)
     replace H:=Option.bind_eq_some_iff.mp H
     obtain⟨⟨aE6,bOS⟩,bOT,H⟩:=H
     replace H:(if(aE6.length:Int)=0 then(bZV.j0 k l1 arW ahA lC aFQ ah7 ah8 ahP 9 aE6)else(bZV.j0 k l1 arW ahA lC aFQ ah7 ah8 ahP afN aE6))=some r:=H
     have A33:=aA.mk bOT
     clear bOT
     by_cases c34:(aE6.length:Int)=0
     ·rw[if_pos c34]at H
      have bsA:((aE6.length:Int)==0)=true:=beq_iff_eq.mpr c34
      have bsB:((aE6.length:Int)!=0)=false:=bne_eq_false_iff_eq.mpr c34
      clear c34
      have H':=aA.mk H
      clear H
      obtain⟨aKH,aKI⟩:=bZ sD (.int .i64 bV) (.int .i64 bU)
      have bQC:=kd sD 2 (.int .i64 iL)
      have bQD:=kd sD 3 (.int .i64 iO)
      have bQE:=kd sD 4 (.int .i64 kV)
      have bQF:=kd sD 5 (.int .i64 lW)
      have hcz35_6:=kd sD 6 (.int .i64 rW)
      have bdX:=aX sD.out 0
      have bdY:=aX sD.out 1
      have bQG:=aX sD.out 2
      have bQH:=aX sD.out 3
      have bQI:=aX sD.out 4
      have bQJ:=aX sD.out 5
      have hfz35_6:=aX sD.out 6
      go_wp2_with (first|((with_reducible refine gJ (f:=40) rfl ?_);refine baF (some 67) rfl rfl Tryd.func40 (by kernel_rfl) rfl #[.agg #[.int .i64 bV,.int .i64 bU,.int .i64 iL,.int .i64 iO,.int .i64 kV,.int .i64 lW,.int .i64 rW],.slice A1 l1.length c1,.int .i64 a2,.int .i64 (wrap64 ((aO7) - 1))] rfl (by(try simp only[List.map_toArray,List.map_cons,List.map_nil]);first|done|(simp only[bxS];rfl)|rfl|(simp only[List.length_drop,List.length_take];rfl)) ?_;refine(abB.calls k bV bU iL iO kV lW rW _ _ l1 a2 (wrap64 ((aO7) - 1)) aE6 bOS _ (Kd.bJ HR1.out (Bq HB)) HC1.out A33.out).mono ?_;rintro e xK ⟨bXO,bKD,rfl,ho0,ho1,hb⟩;refine⟨_,rfl,?_⟩;have buA:=aA.mk (Kd.apI (Kd.ac8 (ok':=fun k_=>some k_≠(bKD:Value).ownBlock/\some k_≠(.slice bqT GH.length bqU:Value).ownBlock/\some k_≠(a3J:Value).ownBlock/\some k_≠(aa8:Value).ownBlock/\some k_≠(aO3:Value).ownBlock/\some k_≠(aO5:Value).ownBlock/\some k_≠(bOO:Value).ownBlock/\k_≠au8) ho0 (fun k_ hk_=>⟨hk_.2,(Kd.fresh' (Kd.dY (R_ agP)) k_ hk_.1),(Kd.fresh' (Kd.aE9 (by(with_reducible repeat(first|apply Kd.aaJ|apply Kd.aaK|apply Kd.RD));exact am3.out)) k_ hk_.1),(Kd.fresh' (Kd.dY (R_ aCC)) k_ hk_.1),(Kd.fresh' (Kd.dY (R_ aHX)) k_ hk_.1),(Kd.fresh' (Kd.dY (R_ azF)) k_ hk_.1),(Kd.fresh' (Kd.aE9 (by(with_reducible repeat(first|apply Kd.aaJ|apply Kd.aaK|apply Kd.RD));exact bnO.out)) k_ hk_.1),(Kd.aIM (g:=au8) (o:=.cells #[.int .i64 bV,.int .i64 bU,.int .i64 iL,.int .i64 iO,.int .i64 kV,.int .i64 lW,.int .i64 rW] 53 (0,0)) (b_ sD) k_ hk_.1)⟩)) (dH (Bq HB)));have bXP:=aA.mk (Kd.eF (Kd.bQ (ok':=fun k_=>True) ho1 (fun _ hk_=>trivial)) (dH (Bq HB)));replace agP:=RB agP hb;replace am3:=aA.mk (Kd.ac8 (Kd.agE (Kd.agE (Kd.aoB (by(with_reducible repeat(first|apply Kd.aaJ|apply Kd.aaK|apply Kd.RD));exact am3.out) hb) (Kd.arD ho0)) (Kd.fF ho1)) (fun _ h_=>h_.1));replace aCC:=RB aCC hb;replace aHX:=RB aHX hb;replace azF:=RB azF hb;replace bnO:=aA.mk (Kd.ac8 (Kd.agE (Kd.agE (Kd.aoB (by(with_reducible repeat(first|apply Kd.aaJ|apply Kd.aaK|apply Kd.RD));exact bnO.out) hb) (Kd.arD ho0)) (Kd.fF ho1)) (fun _ h_=>h_.1));replace sD:=bb sD hb;replace HB:=bs HB hb;(try clear hb);(try clear ho0);(try clear ho1);obtain⟨a5A,a5B,a5C⟩:=Kd.aj3 buA.out;subst a5C))
      go_meet
      case rel=>exact⟨_,(9),(aE6),(by first|rfl|(simp;done)|(simp[*];done)),H',⟨by first|omega|exact Nat.le_refl _⟩,⟨by(with_reducible repeat(first|apply Kd.aaJ|apply Kd.aaK|apply Kd.RD));exact Kd.ac8 am3.out (fun _ hk=>⟨hk.1.1.1.1.1.2,⟨hk.1.1.1.1.2,⟨hk.1.1.1.2,⟨hk.1.2,hk.1.1.1.1.1.1.2⟩⟩⟩⟩)⟩,⟨R_ aCC⟩,⟨R_ aHX⟩,⟨Kd.bQ (R_ azF) (fun _ hk=>⟨hk.1.2,hk.2⟩)⟩,⟨by(with_reducible repeat(first|apply Kd.aaJ|apply Kd.aaK|apply Kd.RD));exact Kd.ac8 buA.out (fun _ hk=>⟨hk.2.2.1,⟨hk.2.2.2.1,⟨hk.2.2.2.2.1,⟨hk.2.2.2.2.2.1,hk.2.2.2.2.2.2.2⟩⟩⟩⟩)⟩,⟨b_ sD⟩,⟨Bq HB⟩⟩
     rw[if_neg c34]at H
     have bsA:((aE6.length:Int)==0)=false:=beq_eq_false_iff_ne.mpr c34
     have bsB:((aE6.length:Int)!=0)=true:=bne_iff_ne.mpr c34
     have bsC:¬ (aE6=[]):=fun h_=>c34 (by rw[h_];rfl)
     have H':=aA.mk H
     clear H
     obtain⟨aL4,aL5⟩:=bZ sD (.int .i64 bV) (.int .i64 bU)
     have hcz38_2:=kd sD 2 (.int .i64 iL)
     have hcz38_3:=kd sD 3 (.int .i64 iO)
     have hcz38_4:=kd sD 4 (.int .i64 kV)
     have hcz38_5:=kd sD 5 (.int .i64 lW)
     have hcz38_6:=kd sD 6 (.int .i64 rW)
     have biR:=aX sD.out 0
     have biS:=aX sD.out 1
     have hfz38_2:=aX sD.out 2
     have hfz38_3:=aX sD.out 3
     have hfz38_4:=aX sD.out 4
     have hfz38_5:=aX sD.out 5
     have hfz38_6:=aX sD.out 6
     go_wp2_with (first|((with_reducible refine gJ (f:=40) rfl ?_);refine baF (some 67) rfl rfl Tryd.func40 (by kernel_rfl) rfl #[.agg #[.int .i64 bV,.int .i64 bU,.int .i64 iL,.int .i64 iO,.int .i64 kV,.int .i64 lW,.int .i64 rW],.slice A1 l1.length c1,.int .i64 a2,.int .i64 (wrap64 ((aO7) - 1))] rfl (by(try simp only[List.map_toArray,List.map_cons,List.map_nil]);first|done|(simp only[bxS];rfl)|rfl|(simp only[List.length_drop,List.length_take];rfl)) ?_;refine(abB.calls k bV bU iL iO kV lW rW _ _ l1 a2 (wrap64 ((aO7) - 1)) aE6 bOS _ (Kd.bJ HR1.out (Bq HB)) HC1.out A33.out).mono ?_;rintro e OZ ⟨bXO,bKD,rfl,ho0,ho1,hb⟩;refine⟨_,rfl,?_⟩;have buA:=aA.mk (Kd.apI (Kd.ac8 (ok':=fun k_=>some k_≠(bKD:Value).ownBlock/\some k_≠(.slice bqT GH.length bqU:Value).ownBlock/\some k_≠(a3J:Value).ownBlock/\some k_≠(aa8:Value).ownBlock/\some k_≠(aO3:Value).ownBlock/\some k_≠(aO5:Value).ownBlock/\some k_≠(bOO:Value).ownBlock/\k_≠au8) ho0 (fun k_ hk_=>⟨hk_.2,(Kd.fresh' (Kd.dY (R_ agP)) k_ hk_.1),(Kd.fresh' (Kd.aE9 (by(with_reducible repeat(first|apply Kd.aaJ|apply Kd.aaK|apply Kd.RD));exact am3.out)) k_ hk_.1),(Kd.fresh' (Kd.dY (R_ aCC)) k_ hk_.1),(Kd.fresh' (Kd.dY (R_ aHX)) k_ hk_.1),(Kd.fresh' (Kd.dY (R_ azF)) k_ hk_.1),(Kd.fresh' (Kd.aE9 (by(with_reducible repeat(first|apply Kd.aaJ|apply Kd.aaK|apply Kd.RD));exact bnO.out)) k_ hk_.1),(Kd.aIM (g:=au8) (o:=.cells #[.int .i64 bV,.int .i64 bU,.int .i64 iL,.int .i64 iO,.int .i64 kV,.int .i64 lW,.int .i64 rW] 53 (0,0)) (b_ sD) k_ hk_.1)⟩)) (dH (Bq HB)));have bXP:=aA.mk (Kd.eF (Kd.bQ (ok':=fun k_=>True) ho1 (fun _ hk_=>trivial)) (dH (Bq HB)));replace agP:=RB agP hb;replace am3:=aA.mk (Kd.ac8 (Kd.agE (Kd.agE (Kd.aoB (by(with_reducible repeat(first|apply Kd.aaJ|apply Kd.aaK|apply Kd.RD));exact am3.out) hb) (Kd.arD ho0)) (Kd.fF ho1)) (fun _ h_=>h_.1));replace aCC:=RB aCC hb;replace aHX:=RB aHX hb;replace azF:=RB azF hb;replace bnO:=aA.mk (Kd.ac8 (Kd.agE (Kd.agE (Kd.aoB (by(with_reducible repeat(first|apply Kd.aaJ|apply Kd.aaK|apply Kd.RD));exact bnO.out) hb) (Kd.arD ho0)) (Kd.fF ho1)) (fun _ h_=>h_.1));replace sD:=bb sD hb;replace HB:=bs HB hb;(try clear hb);(try clear ho0);(try clear ho1);obtain⟨aKJ,aKK,aUY⟩:=Kd.aj3 buA.out;subst aUY))
     go_meet
     case rel=>exact⟨_,(afN),(aE6),(by first|rfl|(simp;done)|(simp[*];done)),H',⟨by first|omega|exact Nat.le_refl _⟩,⟨by(with_reducible repeat(first|apply Kd.aaJ|apply Kd.aaK|apply Kd.RD));exact Kd.ac8 am3.out (fun _ hk=>⟨hk.1.1.1.1.1.2,⟨hk.1.1.1.1.2,⟨hk.1.1.1.2,⟨hk.1.2,hk.1.1.1.1.1.1.2⟩⟩⟩⟩)⟩,⟨R_ aCC⟩,⟨R_ aHX⟩,⟨Kd.bQ (R_ azF) (fun _ hk=>⟨hk.1.2,hk.2⟩)⟩,⟨by(with_reducible repeat(first|apply Kd.aaJ|apply Kd.aaK|apply Kd.RD));exact Kd.ac8 buA.out (fun _ hk=>⟨hk.2.2.1,⟨hk.2.2.2.1,⟨hk.2.2.2.2.1,⟨hk.2.2.2.2.2.1,hk.2.2.2.2.2.2.2⟩⟩⟩⟩)⟩,⟨b_ sD⟩,⟨Bq HB⟩⟩
    rw[if_neg c31]at H
    exact absurd H (by simp)
   rw[if_neg c29]at H
   have aNM:(afN==0)=false:=beq_eq_false_iff_ne.mpr c29
   have bXN:(afN !=0)=true:=bne_iff_ne.mpr c29
   (first|rw[aNM]|(simp only[wQ,yQ];rw[aNM])|skip)
   have H':=aA.mk H
   clear H
   go_wp2
   go_meet
   case rel=>exact⟨_,(afN),(bOG),(by first|rfl|(simp;done)|(simp[*];done)),H',⟨by first|omega|exact Nat.le_refl _⟩,⟨by(with_reducible repeat(first|apply Kd.aaJ|apply Kd.aaK|apply Kd.RD));exact Kd.ac8 am3.out (fun _ hk=>⟨hk.1.1.1.2,⟨hk.1.1.2,⟨hk.1.2,⟨hk.2,hk.1.1.1.1.2⟩⟩⟩⟩)⟩,⟨R_ aCC⟩,⟨R_ aHX⟩,⟨Kd.bQ (R_ azF) (fun _ hk=>⟨hk.1.2,hk.2⟩)⟩,⟨by(with_reducible repeat(first|apply Kd.aaJ|apply Kd.aaK|apply Kd.RD));exact Kd.ac8 bnO.out (fun _ hk=>⟨hk.2.1,⟨hk.2.2.1,⟨hk.2.2.2.1,⟨hk.2.2.2.2.1,hk.2.2.2.2.2⟩⟩⟩⟩)⟩,⟨b_ sD⟩,⟨Bq HB⟩⟩
  case rest=>
   clear bKC
   try clear c1
   try clear c4
   try clear yH
   try clear aq1
   try clear c13
   try clear OW
   try clear OX
   try clear bHN
   try clear bWV
   try clear bWW
   try clear bWX
   try clear bWY
   try clear bcC
   try clear bcD
   try clear bcE
   try clear bcF
   try clear bOI
   try clear bOJ
   try clear bOK
   try clear amO
   try clear amP
   try clear bW3
   try clear bW4
   try clear bW5
   try clear bW6
   try clear bW7
   try clear ahI
   try clear ahJ
   try clear bXD
   try clear bXE
   try clear bXF
   try clear bXG
   try clear bXH
   try clear afD
   try clear afE
   try clear bHO
   try clear bWZ
   try clear bW0
   try clear bW1
   try clear bW2
   try clear bcG
   try clear bcH
   try clear bcI
   try clear bcJ
   try clear bOL
   try clear bOM
   try clear bON
   try clear at7
   try clear auA
   try clear bW8
   try clear bW9
   try clear bXA
   try clear bXB
   try clear bXC
   try clear auB
   try clear auC
   try clear bXI
   try clear bXJ
   try clear bXK
   try clear bXL
   try clear bXM
   obtain⟨kq,anE,ajE,rfl,HA,HJ14,dM,DV,fH,acD,iT,sD,HB⟩:=hcut
   rcases kq with _|aeU
   ·exact absurd HA.out (by simp[bZV.j0])
   have H:=HA.out
   clear HA
   simp only[bZV.j0]at H
   by_cases c41:anE=0
   ·rw[if_pos c41]at H
    have bXQ:(anE==0)=true:=beq_iff_eq.mpr c41
    have bXR:(anE !=0)=false:=bne_eq_false_iff_eq.mpr c41
    clear c41
    replace H:=Option.bind_eq_some_iff.mp H
    obtain⟨⟨av6,aHR⟩,bOV,H⟩:=H
    replace H:(if ahA=0 then((ZH.f aeU arW ajE).bind fun YO=>(if YO=true then(if ah7=0 then((oD.f aeU lC av6).bind fun zG=>(if zG=true then((oD.f aeU aFQ aHR).bind fun aAM=>(if aAM=true then(if ahP=0 then((aeF.f aeU ajE (l1.length:Int)).bind fun aoY=>((oD.f aeU ah8 aoY).bind fun yO=>(if yO=true then((oN.f).bind fun _=>(some true))else(some false))))else(some false))else(some false)))else(some false)))else(some false))else(some false)))else(some false))=some r:=H
    have A42:=aA.mk bOV
    clear bOV
    by_cases c43:ahA=0
    ·rw[if_pos c43]at H
     have aq6:(ahA==0)=true:=beq_iff_eq.mpr c43
     have bsG:(ahA !=0)=false:=bne_eq_false_iff_eq.mpr c43
     clear c43
     replace H:=Option.bind_eq_some_iff.mp H
     obtain⟨YO,a6L,H⟩:=H
     replace H:(if YO=true then(if ah7=0 then((oD.f aeU lC av6).bind fun zG=>(if zG=true then((oD.f aeU aFQ aHR).bind fun aAM=>(if aAM=true then(if ahP=0 then((aeF.f aeU ajE (l1.length:Int)).bind fun aoY=>((oD.f aeU ah8 aoY).bind fun yO=>(if yO=true then((oN.f).bind fun _=>(some true))else(some false))))else(some false))else(some false)))else(some false)))else(some false))else(some false))=some r:=H
     have A44:=aA.mk a6L
     clear a6L
     by_cases DW:YO=true
     ·subst DW
      replace H:(if ah7=0 then((oD.f aeU lC av6).bind fun zG=>(if zG=true then((oD.f aeU aFQ aHR).bind fun aAM=>(if aAM=true then(if ahP=0 then((aeF.f aeU ajE (l1.length:Int)).bind fun aoY=>((oD.f aeU ah8 aoY).bind fun yO=>(if yO=true then((oN.f).bind fun _=>(some true))else(some false))))else(some false))else(some false)))else(some false)))else(some false))=some r:=by rw[if_pos rfl]at H;exact H
      by_cases c46:ah7=0
      ·rw[if_pos c46]at H
       have bL2:(ah7==0)=true:=beq_iff_eq.mpr c46
       have bXS:(ah7 !=0)=false:=bne_eq_false_iff_eq.mpr c46
       clear c46
       replace H:=Option.bind_eq_some_iff.mp H
       obtain⟨zG,bOW,H⟩:=H
       replace H:(if zG=true then((oD.f aeU aFQ aHR).bind fun aAM=>(if aAM=true then(if ahP=0 then((aeF.f aeU ajE (l1.length:Int)).bind fun aoY=>((oD.f aeU ah8 aoY).bind fun yO=>(if yO=true then((oN.f).bind fun _=>(some true))else(some false))))else(some false))else(some false)))else(some false))=some r:=H
       have A47:=aA.mk bOW
       clear bOW
       by_cases c48:zG=true
       ·subst c48
        replace H:((oD.f aeU aFQ aHR).bind fun aAM=>(if aAM=true then(if ahP=0 then((aeF.f aeU ajE (l1.length:Int)).bind fun aoY=>((oD.f aeU ah8 aoY).bind fun yO=>(if yO=true then((oN.f).bind fun _=>(some true))else(some false))))else(some false))else(some false)))=some r:=by rw[if_pos rfl]at H;exact H
        replace H:=Option.bind_eq_some_iff.mp H
        obtain⟨aAM,bOX,H⟩:=H
        replace H:(if aAM=true then(if ahP=0 then((aeF.f aeU ajE (l1.length:Int)).bind fun aoY=>((oD.f aeU ah8 aoY).bind fun yO=>(if yO=true then((oN.f).bind fun _=>(some true))else(some false))))else(some false))else(some false))=some r:=H
        have A49:=aA.mk bOX
        clear bOX
        by_cases c50:aAM=true
        ·subst c50
         replace H:(if ahP=0 then((aeF.f aeU ajE (l1.length:Int)).bind fun aoY=>((oD.f aeU ah8 aoY).bind fun yO=>(if yO=true then((oN.f).bind fun _=>(some true))else(some false))))else(some false))=some r:=by rw[if_pos rfl]at H;exact H
         by_cases c51:ahP=0
         ·rw[if_pos c51]at H
          have aB9:(ahP==0)=true:=beq_iff_eq.mpr c51
          have btM:(ahP !=0)=false:=bne_eq_false_iff_eq.mpr c51
          clear c51
          replace H:=Option.bind_eq_some_iff.mp H
          obtain⟨aoY,aB5,H⟩:=H
          replace H:((oD.f aeU ah8 aoY).bind fun yO=>(if yO=true then((oN.f).bind fun _=>(some true))else(some false)))=some r:=H
          have A52:=aA.mk aB5
          clear aB5
          replace H:=Option.bind_eq_some_iff.mp H
          obtain⟨yO,a7P,H⟩:=H
          replace H:(if yO=true then((oN.f).bind fun _=>(some true))else(some false))=some r:=H
          have A53:=aA.mk a7P
          clear a7P
          by_cases c54:yO=true
          ·subst c54
           replace H:((oN.f).bind fun _=>(some true))=some r:=by rw[if_pos rfl]at H;exact H
           replace H:=Option.bind_eq_some_iff.mp H
           obtain⟨_,bO0,H⟩:=H
           replace H:(some true)=some r:=H
           have A55:=aA.mk bO0
           clear bO0
           obtain rfl:=Option.some.inj H
           obtain⟨UG,UH,bXU⟩:=Kd.aj3 iT.out
           subst bXU
           go_wp2_with (first|((with_reducible refine gJ (f:=41) rfl ?_);refine cE 109 Tryd.func41 #[.slice UG ajE.length UH,.int .i64 (l1.length:Int)] ?_;refine(ag6.calls aeU _ _ ajE (l1.length:Int) av6 aHR _ (by repeat(first|exact(Kd.aeJ iT.out).2.2|(with_reducible refine Kd.jZ ?_ _)|(with_reducible refine Kd.kD ?_ _)|(with_reducible refine Kd.kC ?_))) ((Kd.aeJ iT.out).2.1) A42.out).mono ?_;rintro e w57 ⟨boE,aCJ,rfl,ho0,ho1,hb⟩;refine⟨_,rfl,?_⟩;have ajY:=aA.mk (Kd.eF (Kd.fG (Kd.fG (Kd.fG ho0 (Kd.dY (R_ DV))) (Kd.dY (R_ fH))) (Kd.dY (R_ acD))) (dH (Bq HB)));have tN:=aA.mk (Kd.eF (Kd.fG (Kd.fG (Kd.fG ho1 (Kd.dY (R_ DV))) (Kd.dY (R_ fH))) (Kd.dY (R_ acD))) (dH (Bq HB)));replace dM:=aA.mk (Kd.ac8 (Kd.agE (Kd.agE (Kd.aoB (by(with_reducible repeat(first|apply Kd.aaJ|apply Kd.aaK|apply Kd.RD));exact dM.out) hb) (Kd.fF ho0)) (Kd.fF ho1)) (fun _ h_=>h_.1));replace DV:=aA.mk (Kd.bQ (Kd.MI (Kd.MI (Kd.ad3 (R_ DV) hb) (Kd.fF ho0)) (Kd.fF ho1)) (fun _ h_=>h_.1));replace fH:=aA.mk (Kd.bQ (Kd.MI (Kd.MI (Kd.ad3 (R_ fH) hb) (Kd.fF ho0)) (Kd.fF ho1)) (fun _ h_=>h_.1));replace acD:=aA.mk (Kd.bQ (Kd.MI (Kd.MI (Kd.ad3 (R_ acD) hb) (Kd.fF ho0)) (Kd.fF ho1)) (fun _ h_=>h_.1));replace iT:=aA.mk (Kd.ac8 (Kd.agE (Kd.agE (Kd.aoB (by(with_reducible repeat(first|apply Kd.aaJ|apply Kd.aaK|apply Kd.RD));exact iT.out) hb) (Kd.fF ho0)) (Kd.fF ho1)) (fun _ h_=>h_.1));replace sD:=bb sD hb;replace HB:=bs HB hb;(try clear hb);(try clear ho0);(try clear ho1);obtain⟨bhH,bhI,aWR⟩:=Kd.aj3 dM.out;subst aWR)|(go_at_call 42;refine(ZH.calls aeU _ _ arW _ _ ajE true _ (by repeat(first|exact(Kd.aeJ dM.out).2.2|(with_reducible refine Kd.jZ ?_ _)|(with_reducible refine Kd.kD ?_ _)|(with_reducible refine Kd.kC ?_))) ((Kd.aeJ dM.out).2.1) (by repeat(first|exact(Kd.aeJ iT.out).2.2|(with_reducible refine Kd.jZ ?_ _)|(with_reducible refine Kd.kD ?_ _)|(with_reducible refine Kd.kC ?_))) ((Kd.aeJ iT.out).2.1) A44.out).mono ?_;rintro e w' ⟨rfl,⟨nd,rfl⟩⟩;obtain⟨bq9,brA,rfl⟩:=Kd.dA DV.out;obtain⟨Ao60,co60,rfl⟩:=Kd.dA ajY.out)|(go_at_call 28;refine(oD.calls aeU _ _ lC _ _ av6 true _ (rC DV) ((Kd.dB DV.out).2.1) (rC ajY) ((Kd.dB ajY.out).2.1) A47.out).mono ?_;rintro e w' ⟨rfl,⟨nd,rfl⟩⟩;obtain⟨VG,VH,rfl⟩:=Kd.dA fH.out;obtain⟨Ao62,co62,rfl⟩:=Kd.dA tN.out)|(go_at_call 28;refine(oD.calls aeU _ _ aFQ _ _ aHR true _ (rC fH) ((Kd.dB fH.out).2.1) (rC tN) ((Kd.dB tN.out).2.1) A49.out).mono ?_;rintro e w' ⟨rfl,⟨nd,rfl⟩⟩)|(go_at_call 43;refine(aeF.calls aeU _ _ ajE (l1.length:Int) aoY _ (by repeat(first|exact(Kd.aeJ iT.out).2.2|(with_reducible refine Kd.jZ ?_ _)|(with_reducible refine Kd.kD ?_ _)|(with_reducible refine Kd.kC ?_))) ((Kd.aeJ iT.out).2.1) A52.out).mono ?_;rintro e w63 ⟨bXV,rfl,ho0,hb⟩;have a0T:=aA.mk (Kd.eF (Kd.fG (Kd.fG (Kd.fG (Kd.fG (Kd.fG ho0 (Kd.dY (R_ DV))) (Kd.dY (R_ fH))) (Kd.dY (R_ acD))) (Kd.dY (R_ ajY))) (Kd.dY (R_ tN))) (dH (Bq HB)));replace dM:=aA.mk (Kd.apL (by(with_reducible repeat(first|apply Kd.aaJ|apply Kd.aaK|apply Kd.RD));exact dM.out) (Kd.fF ho0) hb);replace DV:=aA.mk (Kd.gW (R_ DV) (Kd.fF ho0) hb);replace fH:=aA.mk (Kd.gW (R_ fH) (Kd.fF ho0) hb);replace acD:=aA.mk (Kd.gW (R_ acD) (Kd.fF ho0) hb);replace iT:=aA.mk (Kd.apL (by(with_reducible repeat(first|apply Kd.aaJ|apply Kd.aaK|apply Kd.RD));exact iT.out) (Kd.fF ho0) hb);replace ajY:=aA.mk (Kd.gW (R_ ajY) (Kd.fF ho0) hb);replace tN:=aA.mk (Kd.gW (R_ tN) (Kd.fF ho0) hb);replace sD:=bb sD hb;replace HB:=bs HB hb;(try clear hb);(try clear ho0);obtain⟨Ao64,co64,rfl⟩:=Kd.dA acD.out;obtain⟨aEJ,aEK,rfl⟩:=Kd.dA a0T.out)|(go_at_call 28;refine(oD.calls aeU _ _ ah8 _ _ aoY true _ (rC acD) ((Kd.dB acD.out).2.1) (rC a0T) ((Kd.dB a0T.out).2.1) A53.out).mono ?_;rintro e w' ⟨rfl,⟨nd,rfl⟩⟩)|(go_at_call 15;refine(oN.calls   _ (Hand.lZ.below WE.out (Bq HB)) A55.out).mono ?_;rintro e w66 ⟨rfl,hb⟩;replace dM:=aA.mk (Kd.apD (by(with_reducible repeat(first|apply Kd.aaJ|apply Kd.aaK|apply Kd.RD));exact dM.out) hb);replace DV:=RB DV hb;replace fH:=RB fH hb;replace acD:=RB acD hb;replace iT:=aA.mk (Kd.apD (by(with_reducible repeat(first|apply Kd.aaJ|apply Kd.aaK|apply Kd.RD));exact iT.out) hb);replace ajY:=RB ajY hb;replace tN:=RB tN hb;replace a0T:=RB a0T hb;replace sD:=bb sD hb;replace HB:=bs HB hb;(try clear hb)))
           go_ret
           exact eR HB
          replace c54:=Bool.eq_false_iff.mpr c54
          subst c54
          replace H:(some false)=some r:=by rw[if_neg (show ¬ (false=true) by decide)]at H;exact H
          obtain rfl:=Option.some.inj H
          obtain⟨bXW,bXX,bXY⟩:=Kd.aj3 iT.out
          subst bXY
          go_wp2_with (first|((with_reducible refine gJ (f:=41) rfl ?_);refine cE 109 Tryd.func41 #[.slice bXW ajE.length bXX,.int .i64 (l1.length:Int)] ?_;refine(ag6.calls aeU _ _ ajE (l1.length:Int) av6 aHR _ (by repeat(first|exact(Kd.aeJ iT.out).2.2|(with_reducible refine Kd.jZ ?_ _)|(with_reducible refine Kd.kD ?_ _)|(with_reducible refine Kd.kC ?_))) ((Kd.aeJ iT.out).2.1) A42.out).mono ?_;rintro e w68 ⟨boE,aCJ,rfl,ho0,ho1,hb⟩;refine⟨_,rfl,?_⟩;have ajY:=aA.mk (Kd.eF (Kd.fG (Kd.fG (Kd.fG ho0 (Kd.dY (R_ DV))) (Kd.dY (R_ fH))) (Kd.dY (R_ acD))) (dH (Bq HB)));have tN:=aA.mk (Kd.eF (Kd.fG (Kd.fG (Kd.fG ho1 (Kd.dY (R_ DV))) (Kd.dY (R_ fH))) (Kd.dY (R_ acD))) (dH (Bq HB)));replace dM:=aA.mk (Kd.ac8 (Kd.agE (Kd.agE (Kd.aoB (by(with_reducible repeat(first|apply Kd.aaJ|apply Kd.aaK|apply Kd.RD));exact dM.out) hb) (Kd.fF ho0)) (Kd.fF ho1)) (fun _ h_=>h_.1));replace DV:=aA.mk (Kd.bQ (Kd.MI (Kd.MI (Kd.ad3 (R_ DV) hb) (Kd.fF ho0)) (Kd.fF ho1)) (fun _ h_=>h_.1));replace fH:=aA.mk (Kd.bQ (Kd.MI (Kd.MI (Kd.ad3 (R_ fH) hb) (Kd.fF ho0)) (Kd.fF ho1)) (fun _ h_=>h_.1));replace acD:=aA.mk (Kd.bQ (Kd.MI (Kd.MI (Kd.ad3 (R_ acD) hb) (Kd.fF ho0)) (Kd.fF ho1)) (fun _ h_=>h_.1));replace iT:=aA.mk (Kd.ac8 (Kd.agE (Kd.agE (Kd.aoB (by(with_reducible repeat(first|apply Kd.aaJ|apply Kd.aaK|apply Kd.RD));exact iT.out) hb) (Kd.fF ho0)) (Kd.fF ho1)) (fun _ h_=>h_.1));replace sD:=bb sD hb;replace HB:=bs HB hb;(try clear hb);(try clear ho0);(try clear ho1);obtain⟨al4,agV,bXZ⟩:=Kd.aj3 dM.out;subst bXZ)|(go_at_call 42;refine(ZH.calls aeU _ _ arW _ _ ajE true _ (by repeat(first|exact(Kd.aeJ dM.out).2.2|(with_reducible refine Kd.jZ ?_ _)|(with_reducible refine Kd.kD ?_ _)|(with_reducible refine Kd.kC ?_))) ((Kd.aeJ dM.out).2.1) (by repeat(first|exact(Kd.aeJ iT.out).2.2|(with_reducible refine Kd.jZ ?_ _)|(with_reducible refine Kd.kD ?_ _)|(with_reducible refine Kd.kC ?_))) ((Kd.aeJ iT.out).2.1) A44.out).mono ?_;rintro e w' ⟨rfl,⟨nd,rfl⟩⟩;obtain⟨Ao70,co70,rfl⟩:=Kd.dA DV.out;obtain⟨Ao71,co71,rfl⟩:=Kd.dA ajY.out)|(go_at_call 28;refine(oD.calls aeU _ _ lC _ _ av6 true _ (rC DV) ((Kd.dB DV.out).2.1) (rC ajY) ((Kd.dB ajY.out).2.1) A47.out).mono ?_;rintro e w' ⟨rfl,⟨nd,rfl⟩⟩;obtain⟨aiE,aiF,rfl⟩:=Kd.dA fH.out;obtain⟨Ao73,co73,rfl⟩:=Kd.dA tN.out)|(go_at_call 28;refine(oD.calls aeU _ _ aFQ _ _ aHR true _ (rC fH) ((Kd.dB fH.out).2.1) (rC tN) ((Kd.dB tN.out).2.1) A49.out).mono ?_;rintro e w' ⟨rfl,⟨nd,rfl⟩⟩)|(go_at_call 43;refine(aeF.calls aeU _ _ ajE (l1.length:Int) aoY _ (by repeat(first|exact(Kd.aeJ iT.out).2.2|(with_reducible refine Kd.jZ ?_ _)|(with_reducible refine Kd.kD ?_ _)|(with_reducible refine Kd.kC ?_))) ((Kd.aeJ iT.out).2.1) A52.out).mono ?_;rintro e w74 ⟨bXV,rfl,ho0,hb⟩;have a0T:=aA.mk (Kd.eF (Kd.fG (Kd.fG (Kd.fG (Kd.fG (Kd.fG ho0 (Kd.dY (R_ DV))) (Kd.dY (R_ fH))) (Kd.dY (R_ acD))) (Kd.dY (R_ ajY))) (Kd.dY (R_ tN))) (dH (Bq HB)));replace dM:=aA.mk (Kd.apL (by(with_reducible repeat(first|apply Kd.aaJ|apply Kd.aaK|apply Kd.RD));exact dM.out) (Kd.fF ho0) hb);replace DV:=aA.mk (Kd.gW (R_ DV) (Kd.fF ho0) hb);replace fH:=aA.mk (Kd.gW (R_ fH) (Kd.fF ho0) hb);replace acD:=aA.mk (Kd.gW (R_ acD) (Kd.fF ho0) hb);replace iT:=aA.mk (Kd.apL (by(with_reducible repeat(first|apply Kd.aaJ|apply Kd.aaK|apply Kd.RD));exact iT.out) (Kd.fF ho0) hb);replace ajY:=aA.mk (Kd.gW (R_ ajY) (Kd.fF ho0) hb);replace tN:=aA.mk (Kd.gW (R_ tN) (Kd.fF ho0) hb);replace sD:=bb sD hb;replace HB:=bs HB hb;(try clear hb);(try clear ho0);obtain⟨Ao75,co75,rfl⟩:=Kd.dA acD.out;obtain⟨Ao76,co76,rfl⟩:=Kd.dA a0T.out)|(go_at_call 28;refine(oD.calls aeU _ _ ah8 _ _ aoY false _ (rC acD) ((Kd.dB acD.out).2.1) (rC a0T) ((Kd.dB a0T.out).2.1) A53.out).mono ?_;rintro e w' ⟨rfl,⟨nd,rfl⟩⟩))
          go_ret
          exact eR HB
         rw[if_neg c51]at H
         have aB9:(ahP==0)=false:=beq_eq_false_iff_ne.mpr c51
         have btM:(ahP !=0)=true:=bne_iff_ne.mpr c51
         obtain rfl:=Option.some.inj H
         obtain⟨bX0,bX1,bX3⟩:=Kd.aj3 iT.out
         subst bX3
         go_wp2_with (first|((with_reducible refine gJ (f:=41) rfl ?_);refine cE 109 Tryd.func41 #[.slice bX0 ajE.length bX1,.int .i64 (l1.length:Int)] ?_;refine(ag6.calls aeU _ _ ajE (l1.length:Int) av6 aHR _ (by repeat(first|exact(Kd.aeJ iT.out).2.2|(with_reducible refine Kd.jZ ?_ _)|(with_reducible refine Kd.kD ?_ _)|(with_reducible refine Kd.kC ?_))) ((Kd.aeJ iT.out).2.1) A42.out).mono ?_;rintro e w78 ⟨boE,aCJ,rfl,ho0,ho1,hb⟩;refine⟨_,rfl,?_⟩;have ajY:=aA.mk (Kd.eF (Kd.fG (Kd.fG (Kd.fG ho0 (Kd.dY (R_ DV))) (Kd.dY (R_ fH))) (Kd.dY (R_ acD))) (dH (Bq HB)));have tN:=aA.mk (Kd.eF (Kd.fG (Kd.fG (Kd.fG ho1 (Kd.dY (R_ DV))) (Kd.dY (R_ fH))) (Kd.dY (R_ acD))) (dH (Bq HB)));replace dM:=aA.mk (Kd.ac8 (Kd.agE (Kd.agE (Kd.aoB (by(with_reducible repeat(first|apply Kd.aaJ|apply Kd.aaK|apply Kd.RD));exact dM.out) hb) (Kd.fF ho0)) (Kd.fF ho1)) (fun _ h_=>h_.1));replace DV:=aA.mk (Kd.bQ (Kd.MI (Kd.MI (Kd.ad3 (R_ DV) hb) (Kd.fF ho0)) (Kd.fF ho1)) (fun _ h_=>h_.1));replace fH:=aA.mk (Kd.bQ (Kd.MI (Kd.MI (Kd.ad3 (R_ fH) hb) (Kd.fF ho0)) (Kd.fF ho1)) (fun _ h_=>h_.1));replace acD:=aA.mk (Kd.bQ (Kd.MI (Kd.MI (Kd.ad3 (R_ acD) hb) (Kd.fF ho0)) (Kd.fF ho1)) (fun _ h_=>h_.1));replace iT:=aA.mk (Kd.ac8 (Kd.agE (Kd.agE (Kd.aoB (by(with_reducible repeat(first|apply Kd.aaJ|apply Kd.aaK|apply Kd.RD));exact iT.out) hb) (Kd.fF ho0)) (Kd.fF ho1)) (fun _ h_=>h_.1));replace sD:=bb sD hb;replace HB:=bs HB hb;(try clear hb);(try clear ho0);(try clear ho1);obtain⟨bQY,bQZ,bX4⟩:=Kd.aj3 dM.out;subst bX4)|(go_at_call 42;refine(ZH.calls aeU _ _ arW _ _ ajE true _ (by repeat(first|exact(Kd.aeJ dM.out).2.2|(with_reducible refine Kd.jZ ?_ _)|(with_reducible refine Kd.kD ?_ _)|(with_reducible refine Kd.kC ?_))) ((Kd.aeJ dM.out).2.1) (by repeat(first|exact(Kd.aeJ iT.out).2.2|(with_reducible refine Kd.jZ ?_ _)|(with_reducible refine Kd.kD ?_ _)|(with_reducible refine Kd.kC ?_))) ((Kd.aeJ iT.out).2.1) A44.out).mono ?_;rintro e w' ⟨rfl,⟨nd,rfl⟩⟩;obtain⟨Ao80,co80,rfl⟩:=Kd.dA DV.out;obtain⟨apF,al7,rfl⟩:=Kd.dA ajY.out)|(go_at_call 28;refine(oD.calls aeU _ _ lC _ _ av6 true _ (rC DV) ((Kd.dB DV.out).2.1) (rC ajY) ((Kd.dB ajY.out).2.1) A47.out).mono ?_;rintro e w' ⟨rfl,⟨nd,rfl⟩⟩;obtain⟨Ao82,co82,rfl⟩:=Kd.dA fH.out;obtain⟨Ao83,co83,rfl⟩:=Kd.dA tN.out)|(go_at_call 28;refine(oD.calls aeU _ _ aFQ _ _ aHR true _ (rC fH) ((Kd.dB fH.out).2.1) (rC tN) ((Kd.dB tN.out).2.1) A49.out).mono ?_;rintro e w' ⟨rfl,⟨nd,rfl⟩⟩))
         go_ret
         exact eR HB
        replace c50:=Bool.eq_false_iff.mpr c50
        subst c50
        replace H:(some false)=some r:=by rw[if_neg (show ¬ (false=true) by decide)]at H;exact H
        obtain rfl:=Option.some.inj H
        obtain⟨bX5,bX6,bX7⟩:=Kd.aj3 iT.out
        subst bX7
        go_wp2_with (first|((with_reducible refine gJ (f:=41) rfl ?_);refine cE 109 Tryd.func41 #[.slice bX5 ajE.length bX6,.int .i64 (l1.length:Int)] ?_;refine(ag6.calls aeU _ _ ajE (l1.length:Int) av6 aHR _ (by repeat(first|exact(Kd.aeJ iT.out).2.2|(with_reducible refine Kd.jZ ?_ _)|(with_reducible refine Kd.kD ?_ _)|(with_reducible refine Kd.kC ?_))) ((Kd.aeJ iT.out).2.1) A42.out).mono ?_;rintro e w85 ⟨boE,aCJ,rfl,ho0,ho1,hb⟩;refine⟨_,rfl,?_⟩;have ajY:=aA.mk (Kd.eF (Kd.fG (Kd.fG (Kd.fG ho0 (Kd.dY (R_ DV))) (Kd.dY (R_ fH))) (Kd.dY (R_ acD))) (dH (Bq HB)));have tN:=aA.mk (Kd.eF (Kd.fG (Kd.fG (Kd.fG ho1 (Kd.dY (R_ DV))) (Kd.dY (R_ fH))) (Kd.dY (R_ acD))) (dH (Bq HB)));replace dM:=aA.mk (Kd.ac8 (Kd.agE (Kd.agE (Kd.aoB (by(with_reducible repeat(first|apply Kd.aaJ|apply Kd.aaK|apply Kd.RD));exact dM.out) hb) (Kd.fF ho0)) (Kd.fF ho1)) (fun _ h_=>h_.1));replace DV:=aA.mk (Kd.bQ (Kd.MI (Kd.MI (Kd.ad3 (R_ DV) hb) (Kd.fF ho0)) (Kd.fF ho1)) (fun _ h_=>h_.1));replace fH:=aA.mk (Kd.bQ (Kd.MI (Kd.MI (Kd.ad3 (R_ fH) hb) (Kd.fF ho0)) (Kd.fF ho1)) (fun _ h_=>h_.1));replace acD:=aA.mk (Kd.bQ (Kd.MI (Kd.MI (Kd.ad3 (R_ acD) hb) (Kd.fF ho0)) (Kd.fF ho1)) (fun _ h_=>h_.1));replace iT:=aA.mk (Kd.ac8 (Kd.agE (Kd.agE (Kd.aoB (by(with_reducible repeat(first|apply Kd.aaJ|apply Kd.aaK|apply Kd.RD));exact iT.out) hb) (Kd.fF ho0)) (Kd.fF ho1)) (fun _ h_=>h_.1));replace sD:=bb sD hb;replace HB:=bs HB hb;(try clear hb);(try clear ho0);(try clear ho1);obtain⟨Ao86,co86,bt6⟩:=Kd.aj3 dM.out;subst bt6)|(go_at_call 42;refine(ZH.calls aeU _ _ arW _ _ ajE true _ (by repeat(first|exact(Kd.aeJ dM.out).2.2|(with_reducible refine Kd.jZ ?_ _)|(with_reducible refine Kd.kD ?_ _)|(with_reducible refine Kd.kC ?_))) ((Kd.aeJ dM.out).2.1) (by repeat(first|exact(Kd.aeJ iT.out).2.2|(with_reducible refine Kd.jZ ?_ _)|(with_reducible refine Kd.kD ?_ _)|(with_reducible refine Kd.kC ?_))) ((Kd.aeJ iT.out).2.1) A44.out).mono ?_;rintro e w' ⟨rfl,⟨nd,rfl⟩⟩;obtain⟨avW,avX,rfl⟩:=Kd.dA DV.out;obtain⟨avY,avZ,rfl⟩:=Kd.dA ajY.out)|(go_at_call 28;refine(oD.calls aeU _ _ lC _ _ av6 true _ (rC DV) ((Kd.dB DV.out).2.1) (rC ajY) ((Kd.dB ajY.out).2.1) A47.out).mono ?_;rintro e w' ⟨rfl,⟨nd,rfl⟩⟩;obtain⟨bjX,bjY,rfl⟩:=Kd.dA fH.out;obtain⟨Ao90,co90,rfl⟩:=Kd.dA tN.out)|(go_at_call 28;refine(oD.calls aeU _ _ aFQ _ _ aHR false _ (rC fH) ((Kd.dB fH.out).2.1) (rC tN) ((Kd.dB tN.out).2.1) A49.out).mono ?_;rintro e w' ⟨rfl,⟨nd,rfl⟩⟩))
        go_ret
        exact eR HB
       replace c48:=Bool.eq_false_iff.mpr c48
       subst c48
       replace H:(some false)=some r:=by rw[if_neg (show ¬ (false=true) by decide)]at H;exact H
       obtain rfl:=Option.some.inj H
       obtain⟨bX8,bX9,bYA⟩:=Kd.aj3 iT.out
       subst bYA
       go_wp2_with (first|((with_reducible refine gJ (f:=41) rfl ?_);refine cE 109 Tryd.func41 #[.slice bX8 ajE.length bX9,.int .i64 (l1.length:Int)] ?_;refine(ag6.calls aeU _ _ ajE (l1.length:Int) av6 aHR _ (by repeat(first|exact(Kd.aeJ iT.out).2.2|(with_reducible refine Kd.jZ ?_ _)|(with_reducible refine Kd.kD ?_ _)|(with_reducible refine Kd.kC ?_))) ((Kd.aeJ iT.out).2.1) A42.out).mono ?_;rintro e w92 ⟨boE,aCJ,rfl,ho0,ho1,hb⟩;refine⟨_,rfl,?_⟩;have ajY:=aA.mk (Kd.eF (Kd.fG (Kd.fG (Kd.fG ho0 (Kd.dY (R_ DV))) (Kd.dY (R_ fH))) (Kd.dY (R_ acD))) (dH (Bq HB)));have tN:=aA.mk (Kd.eF (Kd.fG (Kd.fG (Kd.fG ho1 (Kd.dY (R_ DV))) (Kd.dY (R_ fH))) (Kd.dY (R_ acD))) (dH (Bq HB)));replace dM:=aA.mk (Kd.ac8 (Kd.agE (Kd.agE (Kd.aoB (by(with_reducible repeat(first|apply Kd.aaJ|apply Kd.aaK|apply Kd.RD));exact dM.out) hb) (Kd.fF ho0)) (Kd.fF ho1)) (fun _ h_=>h_.1));replace DV:=aA.mk (Kd.bQ (Kd.MI (Kd.MI (Kd.ad3 (R_ DV) hb) (Kd.fF ho0)) (Kd.fF ho1)) (fun _ h_=>h_.1));replace fH:=aA.mk (Kd.bQ (Kd.MI (Kd.MI (Kd.ad3 (R_ fH) hb) (Kd.fF ho0)) (Kd.fF ho1)) (fun _ h_=>h_.1));replace acD:=aA.mk (Kd.bQ (Kd.MI (Kd.MI (Kd.ad3 (R_ acD) hb) (Kd.fF ho0)) (Kd.fF ho1)) (fun _ h_=>h_.1));replace iT:=aA.mk (Kd.ac8 (Kd.agE (Kd.agE (Kd.aoB (by(with_reducible repeat(first|apply Kd.aaJ|apply Kd.aaK|apply Kd.RD));exact iT.out) hb) (Kd.fF ho0)) (Kd.fF ho1)) (fun _ h_=>h_.1));replace sD:=bb sD hb;replace HB:=bs HB hb;(try clear hb);(try clear ho0);(try clear ho1);obtain⟨av3,av4,bYB⟩:=Kd.aj3 dM.out;subst bYB)|(go_at_call 42;refine(ZH.calls aeU _ _ arW _ _ ajE true _ (by repeat(first|exact(Kd.aeJ dM.out).2.2|(with_reducible refine Kd.jZ ?_ _)|(with_reducible refine Kd.kD ?_ _)|(with_reducible refine Kd.kC ?_))) ((Kd.aeJ dM.out).2.1) (by repeat(first|exact(Kd.aeJ iT.out).2.2|(with_reducible refine Kd.jZ ?_ _)|(with_reducible refine Kd.kD ?_ _)|(with_reducible refine Kd.kC ?_))) ((Kd.aeJ iT.out).2.1) A44.out).mono ?_;rintro e w' ⟨rfl,⟨nd,rfl⟩⟩;obtain⟨bQ0,bQ1,rfl⟩:=Kd.dA DV.out;obtain⟨Ao95,co95,rfl⟩:=Kd.dA ajY.out)|(go_at_call 28;refine(oD.calls aeU _ _ lC _ _ av6 false _ (rC DV) ((Kd.dB DV.out).2.1) (rC ajY) ((Kd.dB ajY.out).2.1) A47.out).mono ?_;rintro e w' ⟨rfl,⟨nd,rfl⟩⟩))
       go_ret
       exact eR HB
      rw[if_neg c46]at H
      have bL2:(ah7==0)=false:=beq_eq_false_iff_ne.mpr c46
      have bXS:(ah7 !=0)=true:=bne_iff_ne.mpr c46
      obtain rfl:=Option.some.inj H
      obtain⟨bYC,bYD,bYE⟩:=Kd.aj3 iT.out
      subst bYE
      go_wp2_with (first|((with_reducible refine gJ (f:=41) rfl ?_);refine cE 109 Tryd.func41 #[.slice bYC ajE.length bYD,.int .i64 (l1.length:Int)] ?_;refine(ag6.calls aeU _ _ ajE (l1.length:Int) av6 aHR _ (by repeat(first|exact(Kd.aeJ iT.out).2.2|(with_reducible refine Kd.jZ ?_ _)|(with_reducible refine Kd.kD ?_ _)|(with_reducible refine Kd.kC ?_))) ((Kd.aeJ iT.out).2.1) A42.out).mono ?_;rintro e w97 ⟨boE,aCJ,rfl,ho0,ho1,hb⟩;refine⟨_,rfl,?_⟩;have ajY:=aA.mk (Kd.eF (Kd.fG (Kd.fG (Kd.fG ho0 (Kd.dY (R_ DV))) (Kd.dY (R_ fH))) (Kd.dY (R_ acD))) (dH (Bq HB)));have tN:=aA.mk (Kd.eF (Kd.fG (Kd.fG (Kd.fG ho1 (Kd.dY (R_ DV))) (Kd.dY (R_ fH))) (Kd.dY (R_ acD))) (dH (Bq HB)));replace dM:=aA.mk (Kd.ac8 (Kd.agE (Kd.agE (Kd.aoB (by(with_reducible repeat(first|apply Kd.aaJ|apply Kd.aaK|apply Kd.RD));exact dM.out) hb) (Kd.fF ho0)) (Kd.fF ho1)) (fun _ h_=>h_.1));replace DV:=aA.mk (Kd.bQ (Kd.MI (Kd.MI (Kd.ad3 (R_ DV) hb) (Kd.fF ho0)) (Kd.fF ho1)) (fun _ h_=>h_.1));replace fH:=aA.mk (Kd.bQ (Kd.MI (Kd.MI (Kd.ad3 (R_ fH) hb) (Kd.fF ho0)) (Kd.fF ho1)) (fun _ h_=>h_.1));replace acD:=aA.mk (Kd.bQ (Kd.MI (Kd.MI (Kd.ad3 (R_ acD) hb) (Kd.fF ho0)) (Kd.fF ho1)) (fun _ h_=>h_.1));replace iT:=aA.mk (Kd.ac8 (Kd.agE (Kd.agE (Kd.aoB (by(with_reducible repeat(first|apply Kd.aaJ|apply Kd.aaK|apply Kd.RD));exact iT.out) hb) (Kd.fF ho0)) (Kd.fF ho1)) (fun _ h_=>h_.1));replace sD:=bb sD hb;replace HB:=bs HB hb;(try clear hb);(try clear ho0);(try clear ho1);obtain⟨Ao98,co98,bYF⟩:=Kd.aj3 dM.out;subst bYF)|(go_at_call 42;refine(ZH.calls aeU _ _ arW _ _ ajE true _ (by repeat(first|exact(Kd.aeJ dM.out).2.2|(with_reducible refine Kd.jZ ?_ _)|(with_reducible refine Kd.kD ?_ _)|(with_reducible refine Kd.kC ?_))) ((Kd.aeJ dM.out).2.1) (by repeat(first|exact(Kd.aeJ iT.out).2.2|(with_reducible refine Kd.jZ ?_ _)|(with_reducible refine Kd.kD ?_ _)|(with_reducible refine Kd.kC ?_))) ((Kd.aeJ iT.out).2.1) A44.out).mono ?_;rintro e w' ⟨rfl,⟨nd,rfl⟩⟩))
      go_ret
      exact eR HB
     replace DW:=Bool.eq_false_iff.mpr DW
     subst DW
     replace H:(some false)=some r:=by rw[if_neg (show ¬ (false=true) by decide)]at H;exact H
     obtain rfl:=Option.some.inj H
     obtain⟨bYG,bYH,buN⟩:=Kd.aj3 iT.out
     subst buN
     go_wp2_with (first|((with_reducible refine gJ (f:=41) rfl ?_);refine cE 109 Tryd.func41 #[.slice bYG ajE.length bYH,.int .i64 (l1.length:Int)] ?_;refine(ag6.calls aeU _ _ ajE (l1.length:Int) av6 aHR _ (by repeat(first|exact(Kd.aeJ iT.out).2.2|(with_reducible refine Kd.jZ ?_ _)|(with_reducible refine Kd.kD ?_ _)|(with_reducible refine Kd.kC ?_))) ((Kd.aeJ iT.out).2.1) A42.out).mono ?_;rintro e bQ3 ⟨boE,aCJ,rfl,ho0,ho1,hb⟩;refine⟨_,rfl,?_⟩;have ajY:=aA.mk (Kd.eF (Kd.fG (Kd.fG (Kd.fG ho0 (Kd.dY (R_ DV))) (Kd.dY (R_ fH))) (Kd.dY (R_ acD))) (dH (Bq HB)));have tN:=aA.mk (Kd.eF (Kd.fG (Kd.fG (Kd.fG ho1 (Kd.dY (R_ DV))) (Kd.dY (R_ fH))) (Kd.dY (R_ acD))) (dH (Bq HB)));replace dM:=aA.mk (Kd.ac8 (Kd.agE (Kd.agE (Kd.aoB (by(with_reducible repeat(first|apply Kd.aaJ|apply Kd.aaK|apply Kd.RD));exact dM.out) hb) (Kd.fF ho0)) (Kd.fF ho1)) (fun _ h_=>h_.1));replace DV:=aA.mk (Kd.bQ (Kd.MI (Kd.MI (Kd.ad3 (R_ DV) hb) (Kd.fF ho0)) (Kd.fF ho1)) (fun _ h_=>h_.1));replace fH:=aA.mk (Kd.bQ (Kd.MI (Kd.MI (Kd.ad3 (R_ fH) hb) (Kd.fF ho0)) (Kd.fF ho1)) (fun _ h_=>h_.1));replace acD:=aA.mk (Kd.bQ (Kd.MI (Kd.MI (Kd.ad3 (R_ acD) hb) (Kd.fF ho0)) (Kd.fF ho1)) (fun _ h_=>h_.1));replace iT:=aA.mk (Kd.ac8 (Kd.agE (Kd.agE (Kd.aoB (by(with_reducible repeat(first|apply Kd.aaJ|apply Kd.aaK|apply Kd.RD));exact iT.out) hb) (Kd.fF ho0)) (Kd.fF ho1)) (fun _ h_=>h_.1));replace sD:=bb sD hb;replace HB:=bs HB hb;(try clear hb);(try clear ho0);(try clear ho1);obtain⟨Ao101,co101,bYI⟩:=Kd.aj3 dM.out;subst bYI)|(go_at_call 42;refine(ZH.calls aeU _ _ arW _ _ ajE false _ (by repeat(first|exact(Kd.aeJ dM.out).2.2|(with_reducible refine Kd.jZ ?_ _)|(with_reducible refine Kd.kD ?_ _)|(with_reducible refine Kd.kC ?_))) ((Kd.aeJ dM.out).2.1) (by repeat(first|exact(Kd.aeJ iT.out).2.2|(with_reducible refine Kd.jZ ?_ _)|(with_reducible refine Kd.kD ?_ _)|(with_reducible refine Kd.kC ?_))) ((Kd.aeJ iT.out).2.1) A44.out).mono ?_;rintro e w' ⟨rfl,⟨nd,rfl⟩⟩))
     go_ret
     exact eR HB
    rw[if_neg c43]at H
    have aq6:(ahA==0)=false:=beq_eq_false_iff_ne.mpr c43
    have bsG:(ahA !=0)=true:=bne_iff_ne.mpr c43
    obtain rfl:=Option.some.inj H
    obtain⟨bYJ,bYK,bYL⟩:=Kd.aj3 iT.out
    subst bYL
    go_wp2_with (first|((with_reducible refine gJ (f:=41) rfl ?_);refine cE 109 Tryd.func41 #[.slice bYJ ajE.length bYK,.int .i64 (l1.length:Int)] ?_;refine(ag6.calls aeU _ _ ajE (l1.length:Int) av6 aHR _ (by repeat(first|exact(Kd.aeJ iT.out).2.2|(with_reducible refine Kd.jZ ?_ _)|(with_reducible refine Kd.kD ?_ _)|(with_reducible refine Kd.kC ?_))) ((Kd.aeJ iT.out).2.1) A42.out).mono ?_;rintro e w103 ⟨boE,aCJ,rfl,ho0,ho1,hb⟩;refine⟨_,rfl,?_⟩;have ajY:=aA.mk (Kd.eF (Kd.fG (Kd.fG (Kd.fG ho0 (Kd.dY (R_ DV))) (Kd.dY (R_ fH))) (Kd.dY (R_ acD))) (dH (Bq HB)));have tN:=aA.mk (Kd.eF (Kd.fG (Kd.fG (Kd.fG ho1 (Kd.dY (R_ DV))) (Kd.dY (R_ fH))) (Kd.dY (R_ acD))) (dH (Bq HB)));replace dM:=aA.mk (Kd.ac8 (Kd.agE (Kd.agE (Kd.aoB (by(with_reducible repeat(first|apply Kd.aaJ|apply Kd.aaK|apply Kd.RD));exact dM.out) hb) (Kd.fF ho0)) (Kd.fF ho1)) (fun _ h_=>h_.1));replace DV:=aA.mk (Kd.bQ (Kd.MI (Kd.MI (Kd.ad3 (R_ DV) hb) (Kd.fF ho0)) (Kd.fF ho1)) (fun _ h_=>h_.1));replace fH:=aA.mk (Kd.bQ (Kd.MI (Kd.MI (Kd.ad3 (R_ fH) hb) (Kd.fF ho0)) (Kd.fF ho1)) (fun _ h_=>h_.1));replace acD:=aA.mk (Kd.bQ (Kd.MI (Kd.MI (Kd.ad3 (R_ acD) hb) (Kd.fF ho0)) (Kd.fF ho1)) (fun _ h_=>h_.1));replace iT:=aA.mk (Kd.ac8 (Kd.agE (Kd.agE (Kd.aoB (by(with_reducible repeat(first|apply Kd.aaJ|apply Kd.aaK|apply Kd.RD));exact iT.out) hb) (Kd.fF ho0)) (Kd.fF ho1)) (fun _ h_=>h_.1));replace sD:=bb sD hb;replace HB:=bs HB hb;(try clear hb);(try clear ho0);(try clear ho1)))
    go_ret
    exact eR HB
   rw[if_neg c41]at H
   have bXQ:(anE==0)=false:=beq_eq_false_iff_ne.mpr c41
   have bXR:(anE !=0)=true:=bne_iff_ne.mpr c41
   by_cases aH9:ahA=anE
   ·rw[if_pos aH9]at H
    have bYM:(ahA==anE)=true:=beq_iff_eq.mpr aH9
    have bYN:(ahA !=anE)=false:=bne_eq_false_iff_eq.mpr aH9
    clear aH9
    by_cases c105:ah7=anE
    ·rw[if_pos c105]at H
     have buQ:(ah7==anE)=true:=beq_iff_eq.mpr c105
     have buR:(ah7 !=anE)=false:=bne_eq_false_iff_eq.mpr c105
     clear c105
     by_cases boL:ahP=anE
     ·rw[if_pos boL]at H
      have bYO:(ahP==anE)=true:=beq_iff_eq.mpr boL
      have bYP:(ahP !=anE)=false:=bne_eq_false_iff_eq.mpr boL
      clear boL
      by_cases c107:(wrap64 ((wrap64 ((wrap64 ((arW.length:Int)+(lC.length:Int)))+(aFQ.length:Int)))+(ah8.length:Int)))=0
      ·rw[if_pos c107]at H
       have bYQ:((wrap64 ((wrap64 ((wrap64 ((arW.length:Int)+(lC.length:Int)))+(aFQ.length:Int)))+(ah8.length:Int)))==0)=true:=beq_iff_eq.mpr c107
       have bYR:((wrap64 ((wrap64 ((wrap64 ((arW.length:Int)+(lC.length:Int)))+(aFQ.length:Int)))+(ah8.length:Int)))!=0)=false:=bne_eq_false_iff_eq.mpr c107
       clear c107
       replace H:=Option.bind_eq_some_iff.mp H
       obtain⟨_,bO1,H⟩:=H
       replace H:(some true)=some r:=H
       have bYS:=aA.mk bO1
       clear bO1
       obtain rfl:=Option.some.inj H
       obtain⟨Ao109,co109,bYT⟩:=Kd.aj3 dM.out
       subst bYT
       obtain⟨Ao110,co110,rfl⟩:=Kd.dA DV.out
       obtain⟨Ao111,co111,rfl⟩:=Kd.dA fH.out
       obtain⟨Ao112,co112,rfl⟩:=Kd.dA acD.out
       go_wp2_with (first|(go_at_call 15;refine(oN.calls   _ (Hand.lZ.below WE.out (Bq HB)) bYS.out).mono ?_;rintro e w113 ⟨rfl,hb⟩;replace dM:=aA.mk (Kd.apD (by(with_reducible repeat(first|apply Kd.aaJ|apply Kd.aaK|apply Kd.RD));exact dM.out) hb);replace DV:=RB DV hb;replace fH:=RB fH hb;replace acD:=RB acD hb;replace iT:=aA.mk (Kd.apD (by(with_reducible repeat(first|apply Kd.aaJ|apply Kd.aaK|apply Kd.RD));exact iT.out) hb);replace sD:=bb sD hb;replace HB:=bs HB hb;(try clear hb)))
       go_ret
       exact eR HB
      rw[if_neg c107]at H
      have bYQ:((wrap64 ((wrap64 ((wrap64 ((arW.length:Int)+(lC.length:Int)))+(aFQ.length:Int)))+(ah8.length:Int)))==0)=false:=beq_eq_false_iff_ne.mpr c107
      have bYR:((wrap64 ((wrap64 ((wrap64 ((arW.length:Int)+(lC.length:Int)))+(aFQ.length:Int)))+(ah8.length:Int)))!=0)=true:=bne_iff_ne.mpr c107
      obtain rfl:=Option.some.inj H
      obtain⟨Ao114,co114,bYU⟩:=Kd.aj3 dM.out
      subst bYU
      obtain⟨Ao115,co115,rfl⟩:=Kd.dA DV.out
      obtain⟨Ao116,co116,rfl⟩:=Kd.dA fH.out
      obtain⟨Ao117,co117,rfl⟩:=Kd.dA acD.out
      go_wp2
      go_ret
      exact eR HB
     rw[if_neg boL]at H
     have bYO:(ahP==anE)=false:=beq_eq_false_iff_ne.mpr boL
     have bYP:(ahP !=anE)=true:=bne_iff_ne.mpr boL
     obtain rfl:=Option.some.inj H
     go_wp2
     go_ret
     exact eR HB
    rw[if_neg c105]at H
    have buQ:(ah7==anE)=false:=beq_eq_false_iff_ne.mpr c105
    have buR:(ah7 !=anE)=true:=bne_iff_ne.mpr c105
    obtain rfl:=Option.some.inj H
    go_wp2
    go_ret
    exact eR HB
   rw[if_neg aH9]at H
   have bYM:(ahA==anE)=false:=beq_eq_false_iff_ne.mpr aH9
   have bYN:(ahA !=anE)=true:=bne_iff_ne.mpr aH9
   obtain rfl:=Option.some.inj H
   go_wp2
   go_ret
   exact eR HB
 replace c13:=Bool.eq_false_iff.mpr c13
 subst c13
 replace H:(some false)=some r:=by rw[if_neg (show ¬ (false=true) by decide)]at H;exact H
 obtain rfl:=Option.some.inj H
 go_enter Tryd.func6,Tryd.ntmps6
 go_wp2_with (first|((with_reducible refine dU (N:=3) rfl ?_);(try(refine xJ (by rfl) ?_;dsimp only));refine eX 3 #[.int .i64 bV,.int .i64 bU,.int .i64 iL,.int .i64 iO,.int .i64 kV,.int .i64 lW,.int .i64 rW] 53 ?_;intro au8 hg w118 hbox hb;have sD:=aA.mk (hbox);have bOD:=gw hg HB;have bOE:=gw hg HB;replace HB:=bs HB hb;clear hb hbox hg)|((with_reducible refine gJ (f:=34) rfl ?_);refine cE 24 Tryd.func34 #[.slice A1 l1.length c1] ?_;refine(aAE.calls _ _ l1 GH _ (Kd.bJ HR1.out (Bq HB)) HC1.out A8.out).mono ?_;rintro e w119 ⟨bWU,rfl,ho0,hb⟩;refine⟨_,rfl,?_⟩;have agP:=aA.mk (Kd.eF ho0 (dH (Bq HB)));replace sD:=bb sD hb;replace HB:=bs HB hb;(try clear hb);(try clear ho0);obtain⟨hcz120_0,hcz120_1⟩:=bZ sD (.int .i64 bV) (.int .i64 bU);have hcz120_2:=kd sD 2 (.int .i64 iL);have hcz120_3:=kd sD 3 (.int .i64 iO);have hcz120_4:=kd sD 4 (.int .i64 kV);have hcz120_5:=kd sD 5 (.int .i64 lW);have hcz120_6:=kd sD 6 (.int .i64 rW);have hfz120_0:=aX sD.out 0;have hfz120_1:=aX sD.out 1;have hfz120_2:=aX sD.out 2;have hfz120_3:=aX sD.out 3;have hfz120_4:=aX sD.out 4;have hfz120_5:=aX sD.out 5;have hfz120_6:=aX sD.out 6;obtain⟨bB5,bB6,rfl⟩:=Kd.dA agP.out)|((with_reducible refine gJ (f:=35) rfl ?_);refine cE 29 Tryd.func35 #[.agg #[.int .i64 bV,.int .i64 bU,.int .i64 iL,.int .i64 iO,.int .i64 kV,.int .i64 lW,.int .i64 rW],.slice bB5 GH.length bB6,.int .i64 a2] ?_;refine(asC.calls bV bU iL iO kV lW rW _ _ GH a2 arW ahA _ (rC agP) ((Kd.dB agP.out).2.1) A9.out).mono ?_;rintro e w122 ⟨a3J,rfl,ho0,hb⟩;refine⟨_,rfl,?_⟩;have am3:=aA.mk (Kd.apI (Kd.ac8 (ok':=fun k_=>some k_≠(.slice bB5 GH.length bB6:Value).ownBlock/\k_≠au8) (Kd.R_N (Kd.adZ ho0)) (fun k_ hk_=>⟨(Kd.fresh' (Kd.dY (R_ agP)) k_ hk_.2.1),(Kd.aIM (g:=au8) (o:=.cells #[.int .i64 bV,.int .i64 bU,.int .i64 iL,.int .i64 iO,.int .i64 kV,.int .i64 lW,.int .i64 rW] 53 (0,0)) (b_ sD) k_ hk_.2.1)⟩)) (dH (Bq HB)));replace agP:=RB agP hb;replace sD:=bb sD hb;replace HB:=bs HB hb;(try clear hb);(try clear ho0);obtain⟨hcz123_0,hcz123_1⟩:=bZ sD (.int .i64 bV) (.int .i64 bU);have hcz123_2:=kd sD 2 (.int .i64 iL);have hcz123_3:=kd sD 3 (.int .i64 iO);have hcz123_4:=kd sD 4 (.int .i64 kV);have hcz123_5:=kd sD 5 (.int .i64 lW);have hcz123_6:=kd sD 6 (.int .i64 rW);have hfz123_0:=aX sD.out 0;have hfz123_1:=aX sD.out 1;have hfz123_2:=aX sD.out 2;have hfz123_3:=aX sD.out 3;have hfz123_4:=aX sD.out 4;have hfz123_5:=aX sD.out 5;have hfz123_6:=aX sD.out 6)|((with_reducible refine gJ (f:=36) rfl ?_);refine cE 36 Tryd.func36 #[.agg #[.int .i64 bV,.int .i64 bU,.int .i64 iL,.int .i64 iO,.int .i64 kV,.int .i64 lW,.int .i64 rW],.slice bB5 GH.length bB6,.int .i64 a2] ?_;refine(aGQ.calls bV bU iL iO kV lW rW _ _ GH a2 lC aFQ ah7 _ (rC agP) ((Kd.dB agP.out).2.1) A10.out).mono ?_;rintro e a8R ⟨aa8,aO3,rfl,ho0,ho1,hb⟩;refine⟨_,rfl,?_⟩;have aCC:=aA.mk (Kd.eF ho0 (dH (Bq HB)));have aHX:=aA.mk (Kd.eF ho1 (dH (Bq HB)));replace agP:=RB agP hb;replace am3:=aA.mk (Kd.ac8 (Kd.agE (Kd.agE (Kd.aoB (by(with_reducible repeat(first|apply Kd.aaJ|apply Kd.aaK|apply Kd.RD));exact am3.out) hb) (Kd.fF ho0)) (Kd.fF ho1)) (fun _ h_=>h_.1));replace sD:=bb sD hb;replace HB:=bs HB hb;(try clear hb);(try clear ho0);(try clear ho1);obtain⟨hcz125_0,hcz125_1⟩:=bZ sD (.int .i64 bV) (.int .i64 bU);have hcz125_2:=kd sD 2 (.int .i64 iL);have hcz125_3:=kd sD 3 (.int .i64 iO);have hcz125_4:=kd sD 4 (.int .i64 kV);have hcz125_5:=kd sD 5 (.int .i64 lW);have hcz125_6:=kd sD 6 (.int .i64 rW);have hfz125_0:=aX sD.out 0;have hfz125_1:=aX sD.out 1;have hfz125_2:=aX sD.out 2;have hfz125_3:=aX sD.out 3;have hfz125_4:=aX sD.out 4;have hfz125_5:=aX sD.out 5;have hfz125_6:=aX sD.out 6)|((with_reducible refine gJ (f:=37) rfl ?_);refine cE 44 Tryd.func37 #[.agg #[.int .i64 bV,.int .i64 bU,.int .i64 iL,.int .i64 iO,.int .i64 kV,.int .i64 lW,.int .i64 rW],.slice bB5 GH.length bB6,.int .i64 a2] ?_;refine(aGO.calls bV bU iL iO kV lW rW _ _ GH a2 ah8 ahP _ (Hand.lZ.below WE.out (Bq HB)) (rC agP) ((Kd.dB agP.out).2.1) BU.out).mono ?_;rintro e w126 ⟨aO5,rfl,ho0,hb⟩;refine⟨_,rfl,?_⟩;have azF:=aA.mk (Kd.eF (Kd.fG (Kd.fG ho0 (Kd.dY (R_ aCC))) (Kd.dY (R_ aHX))) (dH (Bq HB)));replace agP:=RB agP hb;replace am3:=aA.mk (Kd.apL (by(with_reducible repeat(first|apply Kd.aaJ|apply Kd.aaK|apply Kd.RD));exact am3.out) (Kd.fF ho0) hb);replace aCC:=aA.mk (Kd.gW (R_ aCC) (Kd.fF ho0) hb);replace aHX:=aA.mk (Kd.gW (R_ aHX) (Kd.fF ho0) hb);replace sD:=bb sD hb;replace HB:=bs HB hb;(try clear hb);(try clear ho0))|((with_reducible refine gJ (f:=38) rfl ?_);refine cE 49 Tryd.func38 #[.slice bB5 GH.length bB6,.slice A1 l1.length c1] ?_;refine(aiS.calls k _ _ GH _ _ l1 false _ (rC agP) ((Kd.dB agP.out).2.1) (Kd.bJ HR1.out (Bq HB)) HC1.out A12.out).mono ?_;rintro e w' ⟨rfl,⟨nd,rfl⟩⟩;refine⟨_,rfl,?_⟩))
 go_ret
 exact eR HB
end Go.Proofs.YtcmfnebcmmklkaaDoor.Q
namespace Go.Proofs.YtcmfnebcmmklkaaDoor.Hand
open Go.RowKit Go.Shelf Go.Proofs.YtcmfnebcmmklkaaDoorW.dQ Go.Proofs.YtcmfnebcmmklkaaDoorW.gG Go.Proofs.YtcmfnebcmmklkaaDoor.Q
theorem bYV {w:World} (a b c d e f g:Int) (cs:List gQ) (A:Option Addr) (cp:Nat) (hc:cs.length<=cp) (hr:Kd.C vC w A cs.length cs) (most:Int) (hT:lZ w):
  Calls Tryd.prog 6 #[.agg #[.int .i64 a,.int .i64 b,.int .i64 c,.int .i64 d,.int .i64 e,.int .i64 f,.int .i64 g],.slice A cs.length cp,.int .i64 most] w fun e w'=>e=.returned (.bool true)/\Below w.heap.size w w':=
 bZV.calls 200000000 a b c d e f g A cp cs most true w hT hr hc (bWS a b c d e f g cs most 200000000 (Nat.le_refl _))
end Go.Proofs.YtcmfnebcmmklkaaDoor.Hand
namespace Go.Proofs.YtcmfnebcmmklkaaDoor.dozenCrates
open Go.ChangeShapes Go.WideShapes Go.ChangeAt Go.RowKit Go.Proofs.YtcmfnebcmmklkaaDoor.Hand
theorem contract (H:Type) (enc:TypeId×Value->H) (W:World) (base:Nat) (args:Array Value) (ds gs:List (DataW H)) (before:List MemPlace)
  (hval:∀ (j:Nat) t v,Tryd.f6.params[j]? =some t->args[j]? =some v->Value.okWide Tryd.prog W .any base t v)
  (hW:DataW.Whole enc Tryd.prog Tryd.f6.params.toList Rows.dozenCratesSpec.vars false W args.toList ds gs before) (hL:laidMetH Tryd.prog Rows.dozenCratesRow.laid W):
  Calls Tryd.prog 6 args W fun e W'=>∃ v,e=.returned v/\Rows.dozenCratesSpec.post enc Tryd.prog Tryd.f6 false true false false W args v W':=by
 have hT:lZ W:=azI hL
 have hW':=hW
 obtain⟨p,q,hA0,hV,rfl,hfz,hnd⟩:=hW
 have hA:DataW.TrodAll enc Tryd.prog W 0 (fun _=>true) true Tryd.f6.params.toList args.toList ds p:=hA0
 rw[Tryd.params6]at hA hval
 obtain⟨v0,vs0,d0,ds0,p0,q0,hargs,rfl,rfl,k0,r0⟩:=trodAll_cons hA
 obtain⟨v1,vs1,d1,ds1,p1,q1,rfl,rfl,rfl,k1,r1⟩:=trodAll_cons r0
 obtain⟨v2,vs2,d2,ds2,p2,q2,rfl,rfl,rfl,k2,r2⟩:=trodAll_cons r1
 obtain⟨rfl,rfl,rfl⟩:=trodAll_nil r2
 obtain rfl:args=#[v0,v1,v2]:=by cases args;simp_all
 obtain⟨rfl,rfl⟩:=trodVars_none hV
 have lt0:∀ x∈p0,x.block<W.heap.size:=by obtain⟨m,hm⟩:=k0;exact DataW.trod_lt m _ _ _ hm
 have lt1:∀ x∈p1,x.block<W.heap.size:=by obtain⟨m,hm⟩:=k1;exact DataW.trod_lt m _ _ _ hm
 have lt2:∀ x∈p2,x.block<W.heap.size:=by obtain⟨m,hm⟩:=k2;exact DataW.trod_lt m _ _ _ hm
 obtain⟨bKH,bKI,bKJ,bKK,bKL,bKM,bKN,rfl⟩:=bF3 (hval 0 53 v0 rfl rfl) k0
 obtain⟨A1,l1,c1,rfl,hc1,hr1⟩:=bF2 (hval 1 54 v1 rfl rfl) k1
 obtain⟨a2,rfl⟩:=a5Q (hval 2 3 v2 rfl rfl) k2
 clear hA0 hval
 refine(bYV bKH bKI bKJ bKK bKL bKM bKN l1 A1 c1 hc1 hr1 a2 hT).mono fun e' W' ⟨he,bel⟩=>?_
 subst he
 exact⟨_,rfl,_,_,_,[],_,[],hW',trodAll_mk1 (shut_bool Tryd.underlying4 _),(trodAll_cons_mk (Below.trod laidOut (by kernel_rfl) (of_decide_eq_true (by kernel_rfl)) k0 bel lt0) (trodAll_cons_mk (Below.trod laidOut (by kernel_rfl) (of_decide_eq_true (by kernel_rfl)) k1 bel lt1) (trodAll_cons_mk (Below.trod laidOut (by kernel_rfl) (of_decide_eq_true (by kernel_rfl)) k2 bel lt2) trodAll_mk0))),rfl,bel.frame _,fun h=>by cases h⟩
def aBO:Obj->Obj
 |.cells _ t frozen=>.cells (Lib.deBruijn32tab.map fun(n:Nat)=>Value.int .u8 n).toArray t frozen
 |o=>o
def aBP:Obj->Obj
 |.cells _ t frozen=>.cells (Lib.deBruijn64tab.map fun(n:Nat)=>Value.int .u8 n).toArray t frozen
 |o=>o
noncomputable def laidWorld (os:Os):World:={ World.holding Tryd.prog os ⟨#[],#[],[]⟩with heap:=((World.holding Tryd.prog os ⟨#[],#[],[]⟩).heap.modify 0 aBO).modify 1 aBP}
theorem laid_met (os:Os):laidMet Tryd.prog Rows.dozenCratesRow.laid ((laidWorld os).forCall (fun _ _=>0) ⟨#[],#[.agg #[.int .i64 0,.int .i64 0,.int .i64 0,.int .i64 0,.int .i64 0,.int .i64 0,.int .i64 0],.slice none 0 0,.int .i64 0],[]⟩).memory:=
 laidMet_of_run' 8 (by kernel_rfl) (by kernel_rfl)
theorem reads (os:Os) {H:Type} (enc:TypeId×Value->H):∃ places,DataW.whole enc Tryd.prog ((laidWorld os).forCall (fun _ _=>0) ⟨#[],#[.agg #[.int .i64 0,.int .i64 0,.int .i64 0,.int .i64 0,.int .i64 0,.int .i64 0,.int .i64 0],.slice none 0 0,.int .i64 0],[]⟩).memory Tryd.f6.params.toList Rows.dozenCratesSpec.vars false (#[.agg #[.int .i64 0,.int .i64 0,.int .i64 0,.int .i64 0,.int .i64 0,.int .i64 0,.int .i64 0],.slice none 0 0,.int .i64 0]:Array Value).toList 8=some ([.agg [.agg [.lit (.int .i64 0),.lit (.int .i64 0)],.agg [.lit (.int .i64 0),.lit (.int .i64 0)],.agg [.lit (.int .i64 0),.lit (.int .i64 0)],.lit (.int .i64 0)],.nil,.lit (.int .i64 0)],[],places):=
 ⟨[],by kernel_rfl⟩
theorem lifted (os:Os) (started:os.Started) (H:Type) (enc:TypeId×Value->H) (F:Stop.Interp):
  ReturnsInHanded {} Tryd.checked os 6 .any ((OpenSpec.ofChange Rows.dozenCratesSpec).preRow enc Tryd.prog Tryd.f6 Rows.dozenCratesRow.domain false Rows.dozenCratesRow.laid) (((OpenSpec.ofChange Rows.dozenCratesSpec).at F).post enc Tryd.prog Tryd.f6 false true false false):=by
 obtain⟨places,hx⟩:=reads os enc
 refine returnsInHanded_of_row (C:=Tryd.checked) (s:=OpenSpec.ofChange Rows.dozenCratesSpec) own started (by kernel_rfl) Tryd.func6
  (witness_row_at (enc:=enc) (C:=Tryd.checked) false (laidWorld os) #[.agg #[.int .i64 0,.int .i64 0,.int .i64 0,.int .i64 0,.int .i64 0,.int .i64 0,.int .i64 0],.slice none 0 0,.int .i64 0] rfl (by kernel_rfl) (by kernel_rfl) (by kernel_rfl)
   (OpenSpec.preRow_of_cond 8 hx (by kernel_rfl) (fun k hk=>by cases hk) (by kernel_rfl) (laid_met os))) ?_
 intro W base args ds gs before hval hW _ _ _ hL _ _
 exact contract H enc W base args ds gs before hval hW hL
theorem said:Rows.DozenCratesSaid:=
 OpenClaim.holds_of_cond 6 Tryd.f6 rfl rfl rfl rfl rfl rfl rfl ⟨rfl,rfl,rfl,rfl,rfl⟩ rfl rfl rfl rfl rfl (by kernel_rfl) Tryd.func6 (by kernel_rfl)
  (of_decide_eq_true (by kernel_rfl)) (by unfold Func.isWrapper;first|(rw[if_pos (by decide+kernel)];kernel_rfl)|(rw[if_neg (by decide+kernel)];exact⟨rfl,rfl⟩))
  (fun os started H enc _ F=>by rw[OpenClaim.pre_eq_preRow];exact lifted os started H enc F)
theorem plain (f:FuncId) (fn:Func) (hf:Tryd.pinned.checked.prog.funcNamed "smalto/smaltolaw09.DozenCrates" =some f) (hfn:Tryd.pinned.checked.prog.funcs[f]? =some fn):
  false=Tryd.pinned.checked.prog.looks []/\∀ (j:Nat) t,fn.params[j]? =some t->Tryd.pinned.checked.prog.wantsStandIn t=false:=by
 obtain rfl:f=6:=Option.some.inj ((show Tryd.prog.funcNamed "smalto/smaltolaw09.DozenCrates" =some 6 by kernel_rfl).symm.trans hf) |>.symm
 obtain rfl:fn=Tryd.f6:=(Option.some.inj (Tryd.func6.symm.trans hfn)).symm
 refine⟨by kernel_rfl,fun j t ht=>?_⟩
 rw[Tryd.params6]at ht
 have hm:=Array.mem_of_getElem? ht
 simp only[List.mem_toArray,List.mem_cons,List.not_mem_nil,or_false]at hm
 rcases hm with rfl|rfl|rfl
 ·exact(show Tryd.prog.wantsStandIn 53=false by kernel_rfl)
 ·exact(show Tryd.prog.wantsStandIn 54=false by kernel_rfl)
 ·exact(show Tryd.prog.wantsStandIn 3=false by kernel_rfl)
theorem card:Rows.DozenCratesCardSaid:=
 Claim7.holds_tied_plain_at .later [] _ _ _ _ said (fun _ h=>by cases h) (by kernel_rfl) (fun _ h=>by cases h) dozenCrates_row_tie rfl ⟨rfl,rfl⟩ (by kernel_rfl) rfl plain (by kernel_rfl)
end Go.Proofs.YtcmfnebcmmklkaaDoor.dozenCrates
namespace Go.Proofs.YtcmfnebcmmklkaaDoor
theorem dozenCrates_card:Rows.DozenCratesCardSaid:=dozenCrates.card
end Go.Proofs.YtcmfnebcmmklkaaDoor

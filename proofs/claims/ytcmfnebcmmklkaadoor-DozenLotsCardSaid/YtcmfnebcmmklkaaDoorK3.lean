/- What the laws of chapter 9 share: words about rows and regions, the walks of the package dozen, and that known returns true. Part 3 of 16. -/
import Derived.Test.YtcmfnebcmmklkaaDoorK2
import Derived.RangeFuncNested
import Derived.RangeFuncBound
import Derived.RangeFuncCalls
import Derived.RangeFuncLeaves
import Derived.Shelf.Abstract
import Derived.OwnWalkIn
import Derived.TacticsInMore
import Derived.LoopNIn
import Derived.LoopIn
import Derived.BigQuiet
import Derived.Deep.QuietTactic
import Derived.StillTailTactics
import Derived.BigFrameIn
import Derived.OrdersIn
import Derived.TacticsIn
set_option linter.unusedVariables false
set_option linter.unusedSimpArgs false
set_option maxRecDepth 100000
set_option maxHeartbeats 8000000
namespace Go.Proofs.YtcmfnebcmmklkaaDoor.Q
open Go.RowKit Go.Proofs.YtcmfnebcmmklkaaDoorW.dQ Go.Proofs.YtcmfnebcmmklkaaDoorW.oU Go.Proofs.YtcmfnebcmmklkaaDoorW.gG
attribute [local go_sem] uA uB uC uD uM uN uO uP   -- for this text's walks alone
attribute [local go_sem high] aIZ
def OQ.f (aG:List (aZ)) (aC:List (aI)):Option (Bool):=if(aG.length:Int)>10 then(some true)else(some (decide ((aC.length:Int)>20)))
theorem OQ.calls (aQ:Option Addr) (aK:Nat) (aG:List (aZ)) (aT:Option Addr) (aJ:Nat) (aC:List (aI)) (r:Bool) (w:World) (jI:Kd.C iJ w aQ aG.length aG) (jU:aG.length<=aK) (jE:Kd.C iE w aT aC.length aC) (jS:aC.length<=aJ) (h:OQ.f aG aC=some r):
    Calls Tryd.prog 14 #[.agg #[.slice aQ aG.length aK,.slice aT aC.length aJ]] w fun e w'=>e=.returned (.bool r)/\Below w.heap.size w w':=by
 have zH:=Tryd.underlying25
 have eU:=aA.mk jI
 have fK:=aA.mk jU
 clear jI jU
 have fB:=aA.mk jE
 have fM:=aA.mk jS
 clear jE jS
 have HB:=aA.mk (Below.refl w.heap.size w)
 have H:(if(aG.length:Int)>10 then(some true)else(some (decide ((aC.length:Int)>20))))=some r:=h
 clear h
 by_cases c2:(aG.length:Int)>10
 ·rw[if_pos c2]at H
  have ba8:decide (10<(aG.length:Int))=true:=decide_eq_true c2
  have ba9:decide (10<aG.length)=true:=decide_eq_true (by omega)
  clear c2
  obtain rfl:=Option.some.inj H
  go_enter Tryd.func14,Tryd.ntmps14
  go_wp2_with (first|((with_reducible refine dU (N:=1) rfl ?_);(try(refine xJ (by rfl) ?_;dsimp only));refine eX 1 #[.slice aQ aG.length aK,.slice aT aC.length aJ] 25 ?_;intro atM hg w3 hbox hb;have kE:=aA.mk (hbox);have atN:=gw hg HB;have atO:=gw hg HB;replace HB:=bs HB hb;clear hb hbox hg;obtain⟨atP,atQ⟩:=bZ kE (.slice aQ aG.length aK) (.slice aT aC.length aJ)))
  go_ret
  exact eR HB
 rw[if_neg c2]at H
 have ba8:decide (10<(aG.length:Int))=false:=decide_eq_false c2
 have ba9:decide (10<aG.length)=false:=decide_eq_false (by omega)
 clear c2
 obtain rfl:=Option.some.inj H
 go_enter Tryd.func14,Tryd.ntmps14
 go_wp2_with (first|((with_reducible refine dU (N:=1) rfl ?_);(try(refine xJ (by rfl) ?_;dsimp only));refine eX 1 #[.slice aQ aG.length aK,.slice aT aC.length aJ] 25 ?_;intro atM hg w5 hbox hb;have kE:=aA.mk (hbox);have atN:=gw hg HB;have atO:=gw hg HB;replace HB:=bs HB hb;clear hb hbox hg;obtain⟨afA,afB⟩:=bZ kE (.slice aQ aG.length aK) (.slice aT aC.length aJ)))
 go_ret
 exact eR HB
def aI0.f (bV:Int) (bU:Int) (iR:Int) (iK:Int):Option (Int×Int):=some (mx bV iR,mn bU iK)
theorem aI0.calls (bV:Int) (bU:Int) (iR:Int) (iK:Int) (r1:Int) (r2:Int) (w:World) (h:aI0.f bV bU iR iK=some (r1,r2)):
    Calls Tryd.prog 108 #[.agg #[.int .i64 bV,.int .i64 bU],.agg #[.int .i64 iR,.int .i64 iK]] w fun e w'=>e=.returned (.agg #[.int .i64 r1,.int .i64 r2])/\Below w.heap.size w w':=by
 have QY:=Tryd.underlying42
 have HB:=aA.mk (Below.refl w.heap.size w)
 have H:(some (mx bV iR,mn bU iK))=some (r1,r2):=h
 clear h
 obtain⟨ji3,afC⟩:∃ j_:Int,(mx bV iR)=j_:=⟨_,rfl⟩
 replace H:(some (ji3,mn bU iK))=some (r1,r2):=by first|(rw[afC]at H;exact H)|(simp only[afC]at H ⊢;exact H)
 have bbA:(if bV<iR then iR else bV)=ji3:=afC
 obtain⟨VD,VE⟩:∃ j_:Int,(mn bU iK)=j_:=⟨_,rfl⟩
 replace H:(some (ji3,VD))=some (r1,r2):=by first|(rw[VE]at H;exact H)|(simp only[VE]at H ⊢;exact H)
 have aCX:(if iK<bU then iK else bU)=VD:=VE
 simp only[Option.some.injEq,Prod.mk.injEq]at H
 obtain⟨rfl,rfl⟩:=H
 go_enter Tryd.func108,Tryd.ntmps108
 go_wp2_with (first|((with_reducible refine dU (N:=2) rfl ?_);refine eX 2 #[.int .i64 bV,.int .i64 bU] 42 ?_;intro aCY hg w5 hbox hb;have GL:=aA.mk (hbox);have aTZ:=gw hg HB;have aT0:=gw hg HB;replace HB:=bs HB hb;clear hb hbox hg)|((with_reducible refine dU (N:=3) rfl ?_);refine eX 3 #[.int .i64 iR,.int .i64 iK] 42 ?_;intro yG hg w6 hbox hb;have iW:=aA.mk (hbox);have bbB:=gw hg HB;have bbC:=gw hg HB;have bbD:=nl hg GL;have bbE:=ng hg GL;replace GL:=bb GL hb;replace HB:=bs HB hb;clear hb hbox hg)|((with_reducible refine dU (N:=4) rfl ?_);refine eX 4 #[.int .i64 0,.int .i64 0] 42 ?_;intro AQ hg w7 hbox hb;have kP:=aA.mk (hbox);have bbF:=gw hg HB;have bbG:=gw hg HB;have bbH:=nl hg GL;have bbI:=ng hg GL;have aI1:=nl hg iW;have aI2:=ng hg iW;replace GL:=bb GL hb;replace iW:=bb iW hb;replace HB:=bs HB hb;clear hb hbox hg;have atS:=bbD.out;have atT:=bbE.out;have ap7:=bbH.out;have ap8:=bbI.out;obtain⟨atU,atV⟩:=bZ GL (.int .i64 bV) (.int .i64 bU);have atW:=aX GL.out 0;have atX:=aX GL.out 1;have ap9:=aI1.out;have aqA:=aI2.out;obtain⟨ad6,ad7⟩:=bZ iW (.int .i64 iR) (.int .i64 iK);have amK:=aX iW.out 0;have amL:=aX iW.out 1;obtain⟨aqB,aqC⟩:=bZ kP (.int .i64 0) (.int .i64 0);have aCZ:=aX kP.out 0;have aC0:=aX kP.out 1))
 refine bodyPost_ret (results_cell_row rfl _ _ AQ 42 #[.int .i64 ji3,.int .i64 VD] (0,0) _ rfl (by exact dE (cs:=#[.int .i64 ji3,.int .i64 0]) (dE (cs:=#[.int .i64 0,.int .i64 0]) (b_ kP) 0 _ rfl) 1 _ rfl) Tryd.underlying42 rfl (by kernel_rfl)) rfl ?_
 exact⟨by first|rfl|(simp[iU,iV]<;>rfl)|(simp only[<-afC,<-VE];first|rfl|(simp[iU,iV]<;>rfl))|(simp[*,iU,iV]<;>rfl),Bq HB⟩
def yT.f (bV:Int) (bU:Int) (iR:Int) (iK:Int):Option (Int×Int):=some (wrap64 (bV - iK),wrap64 (bU - iR))
theorem yT.calls (bV:Int) (bU:Int) (iR:Int) (iK:Int) (r1:Int) (r2:Int) (w:World) (h:yT.f bV bU iR iK=some (r1,r2)):
    Calls Tryd.prog 120 #[.agg #[.int .i64 bV,.int .i64 bU],.agg #[.int .i64 iR,.int .i64 iK]] w fun e w'=>e=.returned (.agg #[.int .i64 r1,.int .i64 r2])/\Below w.heap.size w w':=by
 have QY:=Tryd.underlying42
 have HB:=aA.mk (Below.refl w.heap.size w)
 have H:(some (wrap64 (bV - iK),wrap64 (bU - iR)))=some (r1,r2):=h
 clear h
 simp only[Option.some.injEq,Prod.mk.injEq]at H
 obtain⟨rfl,rfl⟩:=H
 go_enter Tryd.func120,Tryd.ntmps120
 go_wp2_with (first|((with_reducible refine dU (N:=2) rfl ?_);refine eX 2 #[.int .i64 bV,.int .i64 bU] 42 ?_;intro GM hg w3 hbox hb;have fO:=aA.mk (hbox);have aC1:=gw hg HB;have aC2:=gw hg HB;replace HB:=bs HB hb;clear hb hbox hg)|((with_reducible refine dU (N:=3) rfl ?_);refine eX 3 #[.int .i64 iR,.int .i64 iK] 42 ?_;intro gb107 hg w4 hbox hb;have amM:=aA.mk (hbox);have GW107:=gw hg HB;have GE107:=gw hg HB;have bbJ:=nl hg fO;have bbK:=ng hg fO;replace fO:=bb fO hb;replace HB:=bs HB hb;clear hb hbox hg)|((with_reducible refine dU (N:=4) rfl ?_);refine eX 4 #[.int .i64 0,.int .i64 0] 42 ?_;intro bbL hg w5 hbox hb;have aC3:=aA.mk (hbox);have GW108:=gw hg HB;have GE108:=gw hg HB;have bbM:=nl hg fO;have bbN:=ng hg fO;have bbO:=nl hg amM;have bbP:=ng hg amM;replace fO:=bb fO hb;replace amM:=bb amM hb;replace HB:=bs HB hb;clear hb hbox hg;have aT1:=bbJ.out;have aT2:=bbK.out;have aI3:=bbM.out;have aI4:=bbN.out;obtain⟨ahD,ahE⟩:=bZ fO (.int .i64 bV) (.int .i64 bU);have aC4:=aX fO.out 0;have aC5:=aX fO.out 1;have ap7:=bbO.out;have ap8:=bbP.out;obtain⟨atU,atV⟩:=bZ amM (.int .i64 iR) (.int .i64 iK);have atW:=aX amM.out 0;have atX:=aX amM.out 1;obtain⟨aC6,aC7⟩:=bZ aC3 (.int .i64 0) (.int .i64 0);have aT3:=aX aC3.out 0;have aT4:=aX aC3.out 1))
 refine bodyPost_ret (results_cell_row rfl _ _ bbL 42 #[.int .i64 (wrap64 (bV - iK)),.int .i64 (wrap64 (bU - iR))] (0,0) _ rfl (by exact dE (cs:=#[.int .i64 (wrap64 (bV - iK)),.int .i64 0]) (dE (cs:=#[.int .i64 0,.int .i64 0]) (b_ aC3) 0 _ rfl) 1 _ rfl) Tryd.underlying42 rfl (by kernel_rfl)) rfl ?_
 exact eR HB
def ZZ.f (bV:Int) (bU:Int) (iR:Int) (iK:Int):Option (Int×Int):=some (wrap64 (bV+iR),wrap64 (bU+iK))
theorem ZZ.calls (bV:Int) (bU:Int) (iR:Int) (iK:Int) (r1:Int) (r2:Int) (w:World) (h:ZZ.f bV bU iR iK=some (r1,r2)):
    Calls Tryd.prog 131 #[.agg #[.int .i64 bV,.int .i64 bU],.agg #[.int .i64 iR,.int .i64 iK]] w fun e w'=>e=.returned (.agg #[.int .i64 r1,.int .i64 r2])/\Below w.heap.size w w':=by
 have QY:=Tryd.underlying42
 have HB:=aA.mk (Below.refl w.heap.size w)
 have H:(some (wrap64 (bV+iR),wrap64 (bU+iK)))=some (r1,r2):=h
 clear h
 simp only[Option.some.injEq,Prod.mk.injEq]at H
 obtain⟨rfl,rfl⟩:=H
 go_enter Tryd.func131,Tryd.ntmps131
 go_wp2_with (first|((with_reducible refine dU (N:=2) rfl ?_);refine eX 2 #[.int .i64 bV,.int .i64 bU] 42 ?_;intro vF hg w3 hbox hb;have lK:=aA.mk (hbox);have GN:=gw hg HB;have atY:=gw hg HB;replace HB:=bs HB hb;clear hb hbox hg)|((with_reducible refine dU (N:=3) rfl ?_);refine eX 3 #[.int .i64 iR,.int .i64 iK] 42 ?_;intro gb110 hg w4 hbox hb;have amN:=aA.mk (hbox);have GW110:=gw hg HB;have GE110:=gw hg HB;have bbQ:=nl hg lK;have bbR:=ng hg lK;replace lK:=bb lK hb;replace HB:=bs HB hb;clear hb hbox hg)|((with_reducible refine dU (N:=4) rfl ?_);refine eX 4 #[.int .i64 0,.int .i64 0] 42 ?_;intro jV hg w5 hbox hb;have jQ:=aA.mk (hbox);have aI5:=gw hg HB;have aI6:=gw hg HB;have zI:=nl hg lK;have ahF:=ng hg lK;have bbS:=nl hg amN;have bbT:=ng hg amN;replace lK:=bb lK hb;replace amN:=bb amN hb;replace HB:=bs HB hb;clear hb hbox hg;have aT1:=bbQ.out;have aT2:=bbR.out;have aI3:=zI.out;have aI4:=ahF.out;obtain⟨ahD,ahE⟩:=bZ lK (.int .i64 bV) (.int .i64 bU);have aC4:=aX lK.out 0;have aC5:=aX lK.out 1;have ap7:=bbS.out;have ap8:=bbT.out;obtain⟨atU,atV⟩:=bZ amN (.int .i64 iR) (.int .i64 iK);have atW:=aX amN.out 0;have atX:=aX amN.out 1;obtain⟨aC6,aC7⟩:=bZ jQ (.int .i64 0) (.int .i64 0);have aT3:=aX jQ.out 0;have aT4:=aX jQ.out 1))
 refine bodyPost_ret (results_cell_row rfl _ _ jV 42 #[.int .i64 (wrap64 (bV+iR)),.int .i64 (wrap64 (bU+iK))] (0,0) _ rfl (by exact dE (cs:=#[.int .i64 (wrap64 (bV+iR)),.int .i64 0]) (dE (cs:=#[.int .i64 0,.int .i64 0]) (b_ jQ) 0 _ rfl) 1 _ rfl) Tryd.underlying42 rfl (by kernel_rfl)) rfl ?_
 exact eR HB
def aC8.f (bV:Int) (bU:Int) (iL:Int) (iO:Bool) (iR:Int) (iK:Int):Option (Int×Int):=if iO=true then((yT.f iR iK bV bU).bind fun ahG=>(some (ahG.1,ahG.2)))else((ZZ.f iR iK bV bU).bind fun TT=>(some (TT.1,TT.2)))
theorem aC8.calls (bV:Int) (bU:Int) (iL:Int) (iO:Bool) (iR:Int) (iK:Int) (r1:Int) (r2:Int) (w:World) (h:aC8.f bV bU iL iO iR iK=some (r1,r2)):
    Calls Tryd.prog 127 #[.agg #[.int .i64 bV,.int .i64 bU,.int .i64 iL,.bool iO],.agg #[.int .i64 iR,.int .i64 iK]] w fun e w'=>e=.returned (.agg #[.int .i64 r1,.int .i64 r2])/\Below w.heap.size w w':=by
 have aC9:=Tryd.underlying197
 have QY:=Tryd.underlying42
 have HB:=aA.mk (Below.refl w.heap.size w)
 have H:(if iO=true then((yT.f iR iK bV bU).bind fun ahG=>(some (ahG.1,ahG.2)))else((ZZ.f iR iK bV bU).bind fun TT=>(some (TT.1,TT.2))))=some (r1,r2):=h
 clear h
 by_cases c3:iO=true
 ·subst c3
  replace H:((yT.f iR iK bV bU).bind fun ahG=>(some (ahG.1,ahG.2)))=some (r1,r2):=by rw[if_pos rfl]at H;exact H
  replace H:=Option.bind_eq_some_iff.mp H
  obtain⟨⟨t115,t116⟩,vG,H⟩:=H
  replace H:(some (t115,t116))=some (r1,r2):=H
  have A4:=aA.mk vG
  clear vG
  simp only[Option.some.injEq,Prod.mk.injEq]at H
  obtain⟨rfl,rfl⟩:=H
  go_enter Tryd.func127,Tryd.ntmps127
  go_wp2_with (first|((with_reducible refine dU (N:=2) rfl ?_);refine eX 2 #[.int .i64 bV,.int .i64 bU,.int .i64 iL,.bool true] 197 ?_;intro bbU hg w5 hbox hb;have vH:=aA.mk (hbox);have bbV:=gw hg HB;have bbW:=gw hg HB;replace HB:=bs HB hb;clear hb hbox hg)|((with_reducible refine dU (N:=3) rfl ?_);refine eX 3 #[.int .i64 iR,.int .i64 iK] 42 ?_;intro bbX hg w6 hbox hb;have OT:=aA.mk (hbox);have bbY:=gw hg HB;have bbZ:=gw hg HB;have aI7:=nl hg vH;have aI8:=ng hg vH;replace vH:=bb vH hb;replace HB:=bs HB hb;clear hb hbox hg)|((with_reducible refine dU (N:=4) rfl ?_);refine eX 4 #[.int .i64 0,.int .i64 0] 42 ?_;intro WT hg w7 hbox hb;have pX:=aA.mk (hbox);have aDA:=gw hg HB;have aDB:=gw hg HB;have aI9:=nl hg vH;have aJA:=ng hg vH;have aJB:=nl hg OT;have aJC:=ng hg OT;replace vH:=bb vH hb;replace OT:=bb OT hb;replace HB:=bs HB hb;clear hb hbox hg;have atS:=aI7.out;have atT:=aI8.out;have ap7:=aI9.out;have ap8:=aJA.out;obtain⟨atU,atV⟩:=bZ vH (.int .i64 bV) (.int .i64 bU);have bb4:=kd vH 2 (.int .i64 iL);have bb5:=kd vH 3 (.bool true);have atW:=aX vH.out 0;have atX:=aX vH.out 1;have bb6:=aX vH.out 2;have bb7:=aX vH.out 3;have ap9:=aJB.out;have aqA:=aJC.out;obtain⟨ad6,ad7⟩:=bZ OT (.int .i64 iR) (.int .i64 iK);have amK:=aX OT.out 0;have amL:=aX OT.out 1)|((with_reducible refine gJ (f:=120) rfl ?_);refine cE 10 Tryd.func120 #[.agg #[.int .i64 iR,.int .i64 iK],.agg #[.int .i64 bV,.int .i64 bU]] ?_;(with_reducible refine(yT.calls iR iK bV bU t115 t116 _ A4.out).mono ?_);rintro e tV ⟨rfl,hb⟩;refine⟨_,rfl,?_⟩;replace vH:=bb vH hb;replace OT:=bb OT hb;replace pX:=bb pX hb;replace HB:=bs HB hb;(try clear hb);obtain⟨aT5,aT6⟩:=bZ pX (.int .i64 0) (.int .i64 0);have bb8:=aX pX.out 0;have bb9:=aX pX.out 1))
  refine bodyPost_ret (results_cell_row rfl _ _ WT 42 #[.int .i64 t115,.int .i64 t116] (0,0) _ rfl (by exact dE (cs:=#[.int .i64 t115,.int .i64 0]) (dE (cs:=#[.int .i64 0,.int .i64 0]) (b_ pX) 0 _ rfl) 1 _ rfl) Tryd.underlying42 rfl (by kernel_rfl)) rfl ?_
  exact eR HB
 replace c3:=Bool.eq_false_iff.mpr c3
 subst c3
 replace H:((ZZ.f iR iK bV bU).bind fun TT=>(some (TT.1,TT.2)))=some (r1,r2):=by rw[if_neg (show ¬ (false=true) by decide)]at H;exact H
 replace H:=Option.bind_eq_some_iff.mp H
 obtain⟨⟨t117,t118⟩,ahH,H⟩:=H
 replace H:(some (t117,t118))=some (r1,r2):=H
 have A15:=aA.mk ahH
 clear ahH
 simp only[Option.some.injEq,Prod.mk.injEq]at H
 obtain⟨rfl,rfl⟩:=H
 go_enter Tryd.func127,Tryd.ntmps127
 go_wp2_with (first|((with_reducible refine dU (N:=2) rfl ?_);refine eX 2 #[.int .i64 bV,.int .i64 bU,.int .i64 iL,.bool false] 197 ?_;intro bbU hg w16 hbox hb;have vH:=aA.mk (hbox);have bbV:=gw hg HB;have bbW:=gw hg HB;replace HB:=bs HB hb;clear hb hbox hg)|((with_reducible refine dU (N:=3) rfl ?_);refine eX 3 #[.int .i64 iR,.int .i64 iK] 42 ?_;intro bbX hg uS hbox hb;have OT:=aA.mk (hbox);have bbY:=gw hg HB;have bbZ:=gw hg HB;have aI7:=nl hg vH;have aI8:=ng hg vH;replace vH:=bb vH hb;replace HB:=bs HB hb;clear hb hbox hg)|((with_reducible refine dU (N:=4) rfl ?_);refine eX 4 #[.int .i64 0,.int .i64 0] 42 ?_;intro WT hg BM hbox hb;have pX:=aA.mk (hbox);have aDA:=gw hg HB;have aDB:=gw hg HB;have aI9:=nl hg vH;have aJA:=ng hg vH;have aJB:=nl hg OT;have aJC:=ng hg OT;replace vH:=bb vH hb;replace OT:=bb OT hb;replace HB:=bs HB hb;clear hb hbox hg;have aJD:=aI7.out;have aJE:=aI8.out;have bcA:=aI9.out;have bcB:=aJA.out;obtain⟨bcC,bcD⟩:=bZ vH (.int .i64 bV) (.int .i64 bU);have bcE:=kd vH 2 (.int .i64 iL);have bcF:=kd vH 3 (.bool false);have bcG:=aX vH.out 0;have bcH:=aX vH.out 1;have bcI:=aX vH.out 2;have bcJ:=aX vH.out 3;have at1:=aJB.out;have at6:=aJC.out;obtain⟨amO,amP⟩:=bZ OT (.int .i64 iR) (.int .i64 iK);have at7:=aX OT.out 0;have auA:=aX OT.out 1)|((with_reducible refine gJ (f:=131) rfl ?_);refine cE 14 Tryd.func131 #[.agg #[.int .i64 iR,.int .i64 iK],.agg #[.int .i64 bV,.int .i64 bU]] ?_;(with_reducible refine(ZZ.calls iR iK bV bU t117 t118 _ A15.out).mono ?_);rintro e BN ⟨rfl,hb⟩;refine⟨_,rfl,?_⟩;replace vH:=bb vH hb;replace OT:=bb OT hb;replace pX:=bb pX hb;replace HB:=bs HB hb;(try clear hb);obtain⟨ahI,ahJ⟩:=bZ pX (.int .i64 0) (.int .i64 0);have auB:=aX pX.out 0;have auC:=aX pX.out 1))
 refine bodyPost_ret (results_cell_row rfl _ _ WT 42 #[.int .i64 t117,.int .i64 t118] (0,0) _ rfl (by exact dE (cs:=#[.int .i64 t117,.int .i64 0]) (dE (cs:=#[.int .i64 0,.int .i64 0]) (b_ pX) 0 _ rfl) 1 _ rfl) Tryd.underlying42 rfl (by kernel_rfl)) rfl ?_
 exact eR HB
def aDC.f (bV:Int) (bU:Int) (iL:Int) (iO:Bool) (iR:Int) (iK:Int):Option (Int×Int):=if iO=true then((ZZ.f iR iK bV bU).bind fun ahK=>(some (ahK.1,ahK.2)))else((yT.f iR iK bV bU).bind fun ahL=>(some (ahL.1,ahL.2)))
theorem aDC.calls (bV:Int) (bU:Int) (iL:Int) (iO:Bool) (iR:Int) (iK:Int) (r1:Int) (r2:Int) (w:World) (h:aDC.f bV bU iL iO iR iK=some (r1,r2)):
    Calls Tryd.prog 129 #[.agg #[.int .i64 bV,.int .i64 bU,.int .i64 iL,.bool iO],.agg #[.int .i64 iR,.int .i64 iK]] w fun e w'=>e=.returned (.agg #[.int .i64 r1,.int .i64 r2])/\Below w.heap.size w w':=by
 have aC9:=Tryd.underlying197
 have QY:=Tryd.underlying42
 have HB:=aA.mk (Below.refl w.heap.size w)
 have H:(if iO=true then((ZZ.f iR iK bV bU).bind fun ahK=>(some (ahK.1,ahK.2)))else((yT.f iR iK bV bU).bind fun ahL=>(some (ahL.1,ahL.2))))=some (r1,r2):=h
 clear h
 by_cases c3:iO=true
 ·subst c3
  replace H:((ZZ.f iR iK bV bU).bind fun ahK=>(some (ahK.1,ahK.2)))=some (r1,r2):=by rw[if_pos rfl]at H;exact H
  replace H:=Option.bind_eq_some_iff.mp H
  obtain⟨⟨t122,t123⟩,vG,H⟩:=H
  replace H:(some (t122,t123))=some (r1,r2):=H
  have A4:=aA.mk vG
  clear vG
  simp only[Option.some.injEq,Prod.mk.injEq]at H
  obtain⟨rfl,rfl⟩:=H
  go_enter Tryd.func129,Tryd.ntmps129
  go_wp2_with (first|((with_reducible refine dU (N:=2) rfl ?_);refine eX 2 #[.int .i64 bV,.int .i64 bU,.int .i64 iL,.bool true] 197 ?_;intro bcK hg w5 hbox hb;have vI:=aA.mk (hbox);have bcL:=gw hg HB;have bcM:=gw hg HB;replace HB:=bs HB hb;clear hb hbox hg)|((with_reducible refine dU (N:=3) rfl ?_);refine eX 3 #[.int .i64 iR,.int .i64 iK] 42 ?_;intro bcN hg w6 hbox hb;have OU:=aA.mk (hbox);have bcO:=gw hg HB;have bcP:=gw hg HB;have aJF:=nl hg vI;have aJG:=ng hg vI;replace vI:=bb vI hb;replace HB:=bs HB hb;clear hb hbox hg)|((with_reducible refine dU (N:=4) rfl ?_);refine eX 4 #[.int .i64 0,.int .i64 0] 42 ?_;intro aJH hg w7 hbox hb;have YZ:=aA.mk (hbox);have bcQ:=gw hg HB;have bcR:=gw hg HB;have aJI:=nl hg vI;have aJJ:=ng hg vI;have aJK:=nl hg OU;have aJL:=ng hg OU;replace vI:=bb vI hb;replace OU:=bb OU hb;replace HB:=bs HB hb;clear hb hbox hg;have atS:=aJF.out;have atT:=aJG.out;have ap7:=aJI.out;have ap8:=aJJ.out;obtain⟨atU,atV⟩:=bZ vI (.int .i64 bV) (.int .i64 bU);have bb4:=kd vI 2 (.int .i64 iL);have bb5:=kd vI 3 (.bool true);have atW:=aX vI.out 0;have atX:=aX vI.out 1;have bb6:=aX vI.out 2;have bb7:=aX vI.out 3;have ap9:=aJK.out;have aqA:=aJL.out;obtain⟨ad6,ad7⟩:=bZ OU (.int .i64 iR) (.int .i64 iK);have amK:=aX OU.out 0;have amL:=aX OU.out 1)|((with_reducible refine gJ (f:=131) rfl ?_);refine cE 10 Tryd.func131 #[.agg #[.int .i64 iR,.int .i64 iK],.agg #[.int .i64 bV,.int .i64 bU]] ?_;(with_reducible refine(ZZ.calls iR iK bV bU t122 t123 _ A4.out).mono ?_);rintro e tV ⟨rfl,hb⟩;refine⟨_,rfl,?_⟩;replace vI:=bb vI hb;replace OU:=bb OU hb;replace YZ:=bb YZ hb;replace HB:=bs HB hb;(try clear hb);obtain⟨aT5,aT6⟩:=bZ YZ (.int .i64 0) (.int .i64 0);have bb8:=aX YZ.out 0;have bb9:=aX YZ.out 1))
  refine bodyPost_ret (results_cell_row rfl _ _ aJH 42 #[.int .i64 t122,.int .i64 t123] (0,0) _ rfl (by exact dE (cs:=#[.int .i64 t122,.int .i64 0]) (dE (cs:=#[.int .i64 0,.int .i64 0]) (b_ YZ) 0 _ rfl) 1 _ rfl) Tryd.underlying42 rfl (by kernel_rfl)) rfl ?_
  exact eR HB
 replace c3:=Bool.eq_false_iff.mpr c3
 subst c3
 replace H:((yT.f iR iK bV bU).bind fun ahL=>(some (ahL.1,ahL.2)))=some (r1,r2):=by rw[if_neg (show ¬ (false=true) by decide)]at H;exact H
 replace H:=Option.bind_eq_some_iff.mp H
 obtain⟨⟨t124,t125⟩,ahH,H⟩:=H
 replace H:(some (t124,t125))=some (r1,r2):=H
 have A15:=aA.mk ahH
 clear ahH
 simp only[Option.some.injEq,Prod.mk.injEq]at H
 obtain⟨rfl,rfl⟩:=H
 go_enter Tryd.func129,Tryd.ntmps129
 go_wp2_with (first|((with_reducible refine dU (N:=2) rfl ?_);refine eX 2 #[.int .i64 bV,.int .i64 bU,.int .i64 iL,.bool false] 197 ?_;intro bcK hg w16 hbox hb;have vI:=aA.mk (hbox);have bcL:=gw hg HB;have bcM:=gw hg HB;replace HB:=bs HB hb;clear hb hbox hg)|((with_reducible refine dU (N:=3) rfl ?_);refine eX 3 #[.int .i64 iR,.int .i64 iK] 42 ?_;intro bcN hg uS hbox hb;have OU:=aA.mk (hbox);have bcO:=gw hg HB;have bcP:=gw hg HB;have aJF:=nl hg vI;have aJG:=ng hg vI;replace vI:=bb vI hb;replace HB:=bs HB hb;clear hb hbox hg)|((with_reducible refine dU (N:=4) rfl ?_);refine eX 4 #[.int .i64 0,.int .i64 0] 42 ?_;intro aJH hg BM hbox hb;have YZ:=aA.mk (hbox);have bcQ:=gw hg HB;have bcR:=gw hg HB;have aJI:=nl hg vI;have aJJ:=ng hg vI;have aJK:=nl hg OU;have aJL:=ng hg OU;replace vI:=bb vI hb;replace OU:=bb OU hb;replace HB:=bs HB hb;clear hb hbox hg;have aJD:=aJF.out;have aJE:=aJG.out;have bcA:=aJI.out;have bcB:=aJJ.out;obtain⟨bcC,bcD⟩:=bZ vI (.int .i64 bV) (.int .i64 bU);have bcE:=kd vI 2 (.int .i64 iL);have bcF:=kd vI 3 (.bool false);have bcG:=aX vI.out 0;have bcH:=aX vI.out 1;have bcI:=aX vI.out 2;have bcJ:=aX vI.out 3;have at1:=aJK.out;have at6:=aJL.out;obtain⟨amO,amP⟩:=bZ OU (.int .i64 iR) (.int .i64 iK);have at7:=aX OU.out 0;have auA:=aX OU.out 1)|((with_reducible refine gJ (f:=120) rfl ?_);refine cE 14 Tryd.func120 #[.agg #[.int .i64 iR,.int .i64 iK],.agg #[.int .i64 bV,.int .i64 bU]] ?_;(with_reducible refine(yT.calls iR iK bV bU t124 t125 _ A15.out).mono ?_);rintro e BN ⟨rfl,hb⟩;refine⟨_,rfl,?_⟩;replace vI:=bb vI hb;replace OU:=bb OU hb;replace YZ:=bb YZ hb;replace HB:=bs HB hb;(try clear hb);obtain⟨ahI,ahJ⟩:=bZ YZ (.int .i64 0) (.int .i64 0);have auB:=aX YZ.out 0;have auC:=aX YZ.out 1))
 refine bodyPost_ret (results_cell_row rfl _ _ aJH 42 #[.int .i64 t124,.int .i64 t125] (0,0) _ rfl (by exact dE (cs:=#[.int .i64 t124,.int .i64 0]) (dE (cs:=#[.int .i64 0,.int .i64 0]) (b_ YZ) 0 _ rfl) 1 _ rfl) Tryd.underlying42 rfl (by kernel_rfl)) rfl ?_
 exact eR HB
def aDD.f (bV:Int) (bU:Int) (iL:Int) (iO:Bool) (iR:Int) (iK:Int) (QZ:Int) (RF:Int):Option (Int×Int):=if iO=true then((yT.f iR iK QZ RF).bind fun ahM=>(some (ahM.1,ahM.2)))else((yT.f QZ RF iR iK).bind fun vW=>(some (vW.1,vW.2)))
theorem aDD.calls (bV:Int) (bU:Int) (iL:Int) (iO:Bool) (iR:Int) (iK:Int) (QZ:Int) (RF:Int) (r1:Int) (r2:Int) (w:World) (h:aDD.f bV bU iL iO iR iK QZ RF=some (r1,r2)):
    Calls Tryd.prog 130 #[.agg #[.int .i64 bV,.int .i64 bU,.int .i64 iL,.bool iO],.agg #[.int .i64 iR,.int .i64 iK],.agg #[.int .i64 QZ,.int .i64 RF]] w fun e w'=>e=.returned (.agg #[.int .i64 r1,.int .i64 r2])/\Below w.heap.size w w':=by
 have aC9:=Tryd.underlying197
 have QY:=Tryd.underlying42
 have HB:=aA.mk (Below.refl w.heap.size w)
 have H:(if iO=true then((yT.f iR iK QZ RF).bind fun ahM=>(some (ahM.1,ahM.2)))else((yT.f QZ RF iR iK).bind fun vW=>(some (vW.1,vW.2))))=some (r1,r2):=h
 clear h
 by_cases c4:iO=true
 ·subst c4
  replace H:((yT.f iR iK QZ RF).bind fun ahM=>(some (ahM.1,ahM.2)))=some (r1,r2):=by rw[if_pos rfl]at H;exact H
  replace H:=Option.bind_eq_some_iff.mp H
  obtain⟨⟨t130,t131⟩,A50,H⟩:=H
  replace H:(some (t130,t131))=some (r1,r2):=H
  have A5:=aA.mk A50
  clear A50
  simp only[Option.some.injEq,Prod.mk.injEq]at H
  obtain⟨rfl,rfl⟩:=H
  go_enter Tryd.func130,Tryd.ntmps130
  go_wp2_with (first|((with_reducible refine dU (N:=3) rfl ?_);refine eX 3 #[.int .i64 bV,.int .i64 bU,.int .i64 iL,.bool true] 197 ?_;intro bcS hg w6 hbox hb;have rF:=aA.mk (hbox);have bcT:=gw hg HB;have bcU:=gw hg HB;replace HB:=bs HB hb;clear hb hbox hg)|((with_reducible refine dU (N:=4) rfl ?_);refine eX 4 #[.int .i64 iR,.int .i64 iK] 42 ?_;intro bcV hg w7 hbox hb;have yU:=aA.mk (hbox);have bcW:=gw hg HB;have bcX:=gw hg HB;have aJM:=nl hg rF;have aJN:=ng hg rF;replace rF:=bb rF hb;replace HB:=bs HB hb;clear hb hbox hg)|((with_reducible refine dU (N:=5) rfl ?_);refine eX 5 #[.int .i64 QZ,.int .i64 RF] 42 ?_;intro bcY hg w8 hbox hb;have OV:=aA.mk (hbox);have bcZ:=gw hg HB;have bc4:=gw hg HB;have aJO:=nl hg rF;have aJP:=ng hg rF;have aJQ:=nl hg yU;have aJR:=ng hg yU;replace rF:=bb rF hb;replace yU:=bb yU hb;replace HB:=bs HB hb;clear hb hbox hg)|((with_reducible refine dU (N:=6) rfl ?_);refine eX 6 #[.int .i64 0,.int .i64 0] 42 ?_;intro aJS hg w9 hbox hb;have ZA:=aA.mk (hbox);have bc5:=gw hg HB;have bc6:=gw hg HB;have aJT:=nl hg rF;have aJU:=ng hg rF;have aJV:=nl hg yU;have aJW:=ng hg yU;have aJX:=nl hg OV;have aJY:=ng hg OV;replace rF:=bb rF hb;replace yU:=bb yU hb;replace OV:=bb OV hb;replace HB:=bs HB hb;clear hb hbox hg;have aT7:=aJM.out;have aT8:=aJN.out;have ap9:=aJO.out;have aqA:=aJP.out;have hnb12:=aJT.out;have hnc12:=aJU.out;obtain⟨aqB,aqC⟩:=bZ rF (.int .i64 bV) (.int .i64 bU);have hcz13_2:=kd rF 2 (.int .i64 iL);have hcz13_3:=kd rF 3 (.bool true);have aCZ:=aX rF.out 0;have aC0:=aX rF.out 1;have hfz13_2:=aX rF.out 2;have hfz13_3:=aX rF.out 3;have hnb14:=aJQ.out;have hnc14:=aJR.out;have bc7:=aJV.out;have bc8:=aJW.out;obtain⟨ahN,ahO⟩:=bZ yU (.int .i64 iR) (.int .i64 iK);have auD:=aX yU.out 0;have auE:=aX yU.out 1;have aJZ:=aJX.out;have aJ0:=aJY.out;obtain⟨OW,OX⟩:=bZ OV (.int .i64 QZ) (.int .i64 RF);have afD:=aX OV.out 0;have afE:=aX OV.out 1)|((with_reducible refine gJ (f:=120) rfl ?_);refine cE 11 Tryd.func120 #[.agg #[.int .i64 iR,.int .i64 iK],.agg #[.int .i64 QZ,.int .i64 RF]] ?_;(with_reducible refine(yT.calls iR iK QZ RF t130 t131 _ A5.out).mono ?_);rintro e xU ⟨rfl,hb⟩;refine⟨_,rfl,?_⟩;replace rF:=bb rF hb;replace yU:=bb yU hb;replace OV:=bb OV hb;replace ZA:=bb ZA hb;replace HB:=bs HB hb;(try clear hb);obtain⟨aqD,aqE⟩:=bZ ZA (.int .i64 0) (.int .i64 0);have aT9:=aX ZA.out 0;have aUA:=aX ZA.out 1))
  refine bodyPost_ret (results_cell_row rfl _ _ aJS 42 #[.int .i64 t130,.int .i64 t131] (0,0) _ rfl (by exact dE (cs:=#[.int .i64 t130,.int .i64 0]) (dE (cs:=#[.int .i64 0,.int .i64 0]) (b_ ZA) 0 _ rfl) 1 _ rfl) Tryd.underlying42 rfl (by kernel_rfl)) rfl ?_
  exact eR HB
 replace c4:=Bool.eq_false_iff.mpr c4
 subst c4
 replace H:((yT.f QZ RF iR iK).bind fun vW=>(some (vW.1,vW.2)))=some (r1,r2):=by rw[if_neg (show ¬ (false=true) by decide)]at H;exact H
 replace H:=Option.bind_eq_some_iff.mp H
 obtain⟨⟨t132,t133⟩,auF,H⟩:=H
 replace H:(some (t132,t133))=some (r1,r2):=H
 have A21:=aA.mk auF
 clear auF
 simp only[Option.some.injEq,Prod.mk.injEq]at H
 obtain⟨rfl,rfl⟩:=H
 go_enter Tryd.func130,Tryd.ntmps130
 go_wp2_with (first|((with_reducible refine dU (N:=3) rfl ?_);refine eX 3 #[.int .i64 bV,.int .i64 bU,.int .i64 iL,.bool false] 197 ?_;intro bcS hg AU hbox hb;have rF:=aA.mk (hbox);have bcT:=gw hg HB;have bcU:=gw hg HB;replace HB:=bs HB hb;clear hb hbox hg)|((with_reducible refine dU (N:=4) rfl ?_);refine eX 4 #[.int .i64 iR,.int .i64 iK] 42 ?_;intro bcV hg EZ hbox hb;have yU:=aA.mk (hbox);have bcW:=gw hg HB;have bcX:=gw hg HB;have aJM:=nl hg rF;have aJN:=ng hg rF;replace rF:=bb rF hb;replace HB:=bs HB hb;clear hb hbox hg)|((with_reducible refine dU (N:=5) rfl ?_);refine eX 5 #[.int .i64 QZ,.int .i64 RF] 42 ?_;intro bcY hg BN hbox hb;have OV:=aA.mk (hbox);have bcZ:=gw hg HB;have bc4:=gw hg HB;have aJO:=nl hg rF;have aJP:=ng hg rF;have aJQ:=nl hg yU;have aJR:=ng hg yU;replace rF:=bb rF hb;replace yU:=bb yU hb;replace HB:=bs HB hb;clear hb hbox hg)|((with_reducible refine dU (N:=6) rfl ?_);refine eX 6 #[.int .i64 0,.int .i64 0] 42 ?_;intro aJS hg AV hbox hb;have ZA:=aA.mk (hbox);have bc5:=gw hg HB;have bc6:=gw hg HB;have aJT:=nl hg rF;have aJU:=ng hg rF;have aJV:=nl hg yU;have aJW:=ng hg yU;have aJX:=nl hg OV;have aJY:=ng hg OV;replace rF:=bb rF hb;replace yU:=bb yU hb;replace OV:=bb OV hb;replace HB:=bs HB hb;clear hb hbox hg;have bc9:=aJM.out;have bdA:=aJN.out;have hnb27:=aJO.out;have hnc27:=aJP.out;have hnb28:=aJT.out;have hnc28:=aJU.out;obtain⟨aqG,aqH⟩:=bZ rF (.int .i64 bV) (.int .i64 bU);have bdB:=kd rF 2 (.int .i64 iL);have bdC:=kd rF 3 (.bool false);have aJ1:=aX rF.out 0;have aJ2:=aX rF.out 1;have bdD:=aX rF.out 2;have bdE:=aX rF.out 3;have aJ3:=aJR.out;have aJ4:=aJQ.out;have aqI:=aJX.out;have aqJ:=aJY.out;obtain⟨aqK,aqL⟩:=bZ OV (.int .i64 QZ) (.int .i64 RF);have aDE:=aX OV.out 0;have aDF:=aX OV.out 1;have aDG:=aJV.out;have aDH:=aJW.out;obtain⟨aJ5,aJ6⟩:=bZ yU (.int .i64 iR) (.int .i64 iK);have bdF:=aX yU.out 0;have bdG:=aX yU.out 1)|((with_reducible refine gJ (f:=120) rfl ?_);refine cE 14 Tryd.func120 #[.agg #[.int .i64 QZ,.int .i64 RF],.agg #[.int .i64 iR,.int .i64 iK]] ?_;(with_reducible refine(yT.calls QZ RF iR iK t132 t133 _ A21.out).mono ?_);rintro e FB ⟨rfl,hb⟩;refine⟨_,rfl,?_⟩;replace rF:=bb rF hb;replace yU:=bb yU hb;replace OV:=bb OV hb;replace ZA:=bb ZA hb;replace HB:=bs HB hb;(try clear hb);obtain⟨aDI,aDJ⟩:=bZ ZA (.int .i64 0) (.int .i64 0);have aJ7:=aX ZA.out 0;have aJ8:=aX ZA.out 1))
 refine bodyPost_ret (results_cell_row rfl _ _ aJS 42 #[.int .i64 t132,.int .i64 t133] (0,0) _ rfl (by exact dE (cs:=#[.int .i64 t132,.int .i64 0]) (dE (cs:=#[.int .i64 0,.int .i64 0]) (b_ ZA) 0 _ rfl) 1 _ rfl) Tryd.underlying42 rfl (by kernel_rfl)) rfl ?_
 exact eR HB
def mD.l0:Nat->List (aH)->List (aH)->Int->Option (Bool)
  |0,_,_,_=>none
  |k+1,x0,x1,x5=>if x5<(x0.length:Int)then(if 0<=x5 then(if x5<(x1.length:Int)then(if(!(((bM x0 x5).f0)==((bM x1 x5).f0))||(!(((bM x0 x5).f1)==((bM x1 x5).f1))))=true then(some false)else(mD.l0 k x0 x1 (wrap64 (x5+1))))else(none))else(none))else(some true)
def mD.f (k:Nat) (l0:List (aH)) (l1:List (aH)):Option (Bool):=if(l0.length:Int)=(l1.length:Int)then(mD.l0 k l0 l1 0)else(some false)
theorem mD.calls (k:Nat) (A0:Option Addr) (c0:Nat) (l0:List (aH)) (A1:Option Addr) (c1:Nat) (l1:List (aH)) (r:Bool) (w:World) (hr0:Kd.C iD w A0 l0.length l0) (hc0:l0.length<=c0) (hr1:Kd.C iD w A1 l1.length l1) (hc1:l1.length<=c1) (h:mD.f k l0 l1=some r):
    Calls Tryd.prog 26 #[.slice A0 l0.length c0,.slice A1 l1.length c1] w fun e w'=>e=.returned (.bool r)/\iI w w':=by
 have QY:=Tryd.underlying42
 have HR0:=aA.mk hr0
 have HC0:=aA.mk hc0
 clear hr0 hc0
 have HR1:=aA.mk hr1
 have HC1:=aA.mk hc1
 clear hr1 hc1
 have H:(if(l0.length:Int)=(l1.length:Int)then(mD.l0 k l0 l1 0)else(some false))=some r:=h
 clear h
 by_cases c3:(l0.length:Int)=(l1.length:Int)
 ·rw[if_pos c3]at H
  have WU:((l0.length:Int)==(l1.length:Int))=true:=beq_iff_eq.mpr c3
  have aaA:((l0.length:Int)!=(l1.length:Int))=false:=bne_eq_false_iff_eq.mpr c3
  have amR:(l0.length==l1.length)=true:=by first|simpa using c3|(simp at c3 ⊢;omega)
  clear c3
  have H':=aA.mk H
  clear H
  go_enter Tryd.func26,Tryd.ntmps26
  go_wp2
  repeat(go_quiet (fail);try go_wp2)
  go_loopg [5] k (fun kq v5 w'=>∃ (bC:Int),v5=.int .i64 bC/\aA (mD.l0 kq l0 l1 bC=some r)/\aA (kq<=k)/\iI w w')
  case atStart=>exact⟨(0),(by first|rfl|(simp;done)|(simp[*];done)),H',⟨Nat.le_refl _⟩,by repeat(first|exact iI.refl _|apply iI.step)⟩
  case round=>
   clear H'
   try clear c1
   try clear c3
   try clear WU
   try clear aaA
   try clear amR
   obtain⟨bC,rfl,HA,fV,⟨m1,rfl⟩⟩:=hrel
   rcases gk with _|k1
   ·exact absurd HA.out (by simp[mD.l0])
   have H:=HA.out
   clear HA
   simp only[mD.l0]at H
   by_cases c4:bC<(l0.length:Int)
   ·rw[if_pos c4]at H
    have yH:decide (bC<(l0.length:Int))=true:=decide_eq_true c4
    clear c4
    by_cases c5:0<=bC
    ·rw[if_pos c5]at H
     have ad8:decide (0<=bC)=true:=decide_eq_true c5
     clear c5
     by_cases c6:bC<(l1.length:Int)
     ·rw[if_pos c6]at H
      have zJ:decide (bC<(l1.length:Int))=true:=decide_eq_true c6
      clear c6
      by_cases c7:(!(((bM l0 bC).f0)==((bM l1 bC).f0))||(!(((bM l0 bC).f1)==((bM l1 bC).f1))))=true
      ·rw[if_pos c7]at H
       have afF:(!(((bM l0 bC).f0)==((bM l1 bC).f0))||(!(((bM l0 bC).f1)==((bM l1 bC).f1))))=true:=c7
       clear c7
       obtain rfl:=Option.some.inj H
       have DD:0<=(bC:Int):=od
       have DF:bC<(l0.length:Int):=od
       obtain⟨afG,abD,auG,auH⟩:=rE HR0.out bC DD DF
       cases abD
       replace DD:=eq_true DD
       replace DF:=eq_true DF
       have amS:0<=(bC:Int):=od
       have amT:bC<(l1.length:Int):=od
       obtain⟨bdH,aJ9,bdI,bdJ⟩:=rE HR1.out bC amS amT
       cases aJ9
       replace amS:=eq_true amS
       replace amT:=eq_true amT
       go_wp2
       repeat(go_quiet (fail);try go_wp2)
       go_ret
       exact⟨by first|rfl|(simp;done)|(simp[*];done),by repeat(first|exact iI.refl _|apply iI.step)⟩
      rw[if_neg c7]at H
      have afF:(!(((bM l0 bC).f0)==((bM l1 bC).f0))||(!(((bM l0 bC).f1)==((bM l1 bC).f1))))=false:=by simpa using c7
      clear c7
      have H':=aA.mk H
      clear H
      have DD:0<=(bC:Int):=od
      have DF:bC<(l0.length:Int):=od
      obtain⟨afG,abD,auG,auH⟩:=rE HR0.out bC DD DF
      cases abD
      replace DD:=eq_true DD
      replace DF:=eq_true DF
      have amS:0<=(bC:Int):=od
      have amT:bC<(l1.length:Int):=od
      obtain⟨bdH,aJ9,bdI,bdJ⟩:=rE HR1.out bC amS amT
      cases aJ9
      replace amS:=eq_true amS
      replace amT:=eq_true amT
      go_wp2
      repeat(go_quiet (fail);try go_wp2)
      go_roundg k1
      case measure=>have:=fV.out;omega
      case rel=>exact⟨(wrap64 (bC+1)),(by first|rfl|(simp;done)|(simp[*];done)),H',⟨by have:=fV.out;omega⟩,by repeat(first|exact iI.refl _|apply iI.step)⟩
     rw[if_neg c6]at H
     exact absurd H (by simp)
    rw[if_neg c5]at H
    exact absurd H (by simp)
   rw[if_neg c4]at H
   have yH:decide (bC<(l0.length:Int))=false:=decide_eq_false c4
   clear c4
   obtain rfl:=Option.some.inj H
   go_wp2
   repeat(go_quiet (fail);try go_wp2)
   go_ret
   exact⟨by first|rfl|(simp;done)|(simp[*];done),by repeat(first|exact iI.refl _|apply iI.step)⟩
 rw[if_neg c3]at H
 have WU:((l0.length:Int)==(l1.length:Int))=false:=beq_eq_false_iff_ne.mpr c3
 have aaA:((l0.length:Int)!=(l1.length:Int))=true:=bne_iff_ne.mpr c3
 have amR:(l0.length==l1.length)=false:=by first|simpa using c3|(simp at c3 ⊢;omega)
 obtain rfl:=Option.some.inj H
 go_enter Tryd.func26,Tryd.ntmps26
 go_wp2
 repeat(go_quiet (fail);try go_wp2)
 go_ret
 exact⟨by first|rfl|(simp;done)|(simp[*];done),by repeat(first|exact iI.refl _|apply iI.step)⟩
mutual
def oJ.l0:Nat->List Int->List Int->Int->Option (Int)
  |0,_,_,_=>none
  |k+1,x0,x1,x5=>if x5<(x0.length:Int)then(oJ.j1 k x0 x1 x5 (decide (x5<(x1.length:Int))))else(oJ.j1 k x0 x1 x5 false)
def oJ.j1:Nat->List Int->List Int->Int->Bool->Option (Int)
  |0,_,_,_,_=>none
  |k+1,x0,x1,x5,x15=>if x15=true then(if 0<=x5 then(if x5<(x0.length:Int)then(if x5<(x1.length:Int)then(if(rd x0 x5)=(rd x1 x5)then(oJ.l0 k x0 x1 (wrap64 (x5+1)))else(some (wrap64 ((rd x0 x5) - (rd x1 x5)))))else(none))else(none))else(none))else(some (wrap64 ((x0.length:Int) - (x1.length:Int))))
end
def oJ.f (k:Nat) (l0:List Int) (l1:List Int):Option (Int):=oJ.l0 k l0 l1 0
theorem oJ.calls (k:Nat) (A0:Option Addr) (c0:Nat) (l0:List Int) (A1:Option Addr) (c1:Nat) (l1:List Int) (r:Int) (w:World) (hr0:Kd.C (Kd.int .i64) w A0 l0.length l0) (hc0:l0.length<=c0) (hr1:Kd.C (Kd.int .i64) w A1 l1.length l1) (hc1:l1.length<=c1) (h:oJ.f k l0 l1=some r):
    Calls Tryd.prog 72 #[.slice A0 l0.length c0,.slice A1 l1.length c1] w fun e w'=>e=.returned (.int .i64 r)/\iI w w':=by
 have HR0:=aA.mk hr0
 have HC0:=aA.mk hc0
 clear hr0 hc0
 have HR1:=aA.mk hr1
 have HC1:=aA.mk hc1
 clear hr1 hc1
 have H:(oJ.l0 k l0 l1 0)=some r:=h
 clear h
 have H':=aA.mk H
 clear H
 go_enter Tryd.func72,Tryd.ntmps72
 go_wp2
 repeat(go_quiet (fail);try go_wp2)
 go_loopg [5] k (fun kq v5 w'=>∃ (bC:Int),v5=.int .i64 bC/\aA (oJ.l0 kq l0 l1 bC=some r)/\aA (kq<=k)/\iI w w')
 case atStart=>exact⟨(0),(by first|rfl|(simp;done)|(simp[*];done)),H',⟨Nat.le_refl _⟩,by repeat(first|exact iI.refl _|apply iI.step)⟩
 case round=>
  clear H'
  try clear c1
  obtain⟨bC,rfl,HA,fV,⟨m1,rfl⟩⟩:=hrel
  rcases gk with _|k1
  ·exact absurd HA.out (by simp[oJ.l0])
  have H:=HA.out
  clear HA
  simp only[oJ.l0]at H
  have HC3:=aA.mk H
  clear H
  go_upto_region 2 with(fail)
  repeat(go_quiet (fail);go_upto_region 2 with(fail))
  go_cut [15] (fun v15 wc=>∃ (kq:Nat) (aDK:Bool),v15=.bool aDK/\aA (oJ.j1 kq l0 l1 bC aDK=some r)/\aA (kq<=k1)/\iI w wc)
  case first=>
   have H:=HC3.out
   clear HC3
   by_cases c4:bC<(l0.length:Int)
   ·rw[if_pos c4]at H
    have yH:decide (bC<(l0.length:Int))=true:=decide_eq_true c4
    clear c4
    (first|rw[yH]|(simp only[wQ,yQ];rw[yH])|skip)
    have H':=aA.mk H
    clear H
    go_wp2
    repeat(go_quiet (fail);try go_wp2)
    go_meet
    case rel=>exact⟨_,(decide (bC<(l1.length:Int))),(by first|rfl|(simp;done)|(simp[*];done)),H',⟨by have:=fV.out;first|omega|exact Nat.le_refl _⟩,by repeat(first|exact iI.refl _|apply iI.step)⟩
   rw[if_neg c4]at H
   have yH:decide (bC<(l0.length:Int))=false:=decide_eq_false c4
   clear c4
   (first|rw[yH]|(simp only[wQ,yQ];rw[yH])|skip)
   have H':=aA.mk H
   clear H
   go_wp2
   repeat(go_quiet (fail);try go_wp2)
   go_meet
   case rel=>exact⟨_,(false),(by first|rfl|(simp;done)|(simp[*];done)),H',⟨by have:=fV.out;first|omega|exact Nat.le_refl _⟩,by repeat(first|exact iI.refl _|apply iI.step)⟩
  case rest=>
   clear HC3
   obtain⟨kq,aDK,rfl,HA,HJ2,⟨mc2,rfl⟩⟩:=hcut
   rcases kq with _|kj2
   ·exact absurd HA.out (by simp[oJ.j1])
   have H:=HA.out
   clear HA
   simp only[oJ.j1]at H
   by_cases c5:aDK=true
   ·subst c5
    replace H:(if 0<=bC then(if bC<(l0.length:Int)then(if bC<(l1.length:Int)then(if(rd l0 bC)=(rd l1 bC)then(oJ.l0 kj2 l0 l1 (wrap64 (bC+1)))else(some (wrap64 ((rd l0 bC) - (rd l1 bC)))))else(none))else(none))else(none))=some r:=by rw[if_pos rfl]at H;exact H
    by_cases c6:0<=bC
    ·rw[if_pos c6]at H
     have zJ:decide (0<=bC)=true:=decide_eq_true c6
     clear c6
     by_cases c7:bC<(l0.length:Int)
     ·rw[if_pos c7]at H
      have afF:decide (bC<(l0.length:Int))=true:=decide_eq_true c7
      clear c7
      by_cases c8:bC<(l1.length:Int)
      ·rw[if_pos c8]at H
       have aDL:decide (bC<(l1.length:Int))=true:=decide_eq_true c8
       clear c8
       by_cases c9:(rd l0 bC)=(rd l1 bC)
       ·rw[if_pos c9]at H
        have QC:((rd l0 bC)==(rd l1 bC))=true:=beq_iff_eq.mpr c9
        have afH:((rd l0 bC)!=(rd l1 bC))=false:=bne_eq_false_iff_eq.mpr c9
        clear c9
        have H':=aA.mk H
        clear H
        have amV:0<=(bC:Int):=od
        have amW:bC<(l0.length:Int):=od
        obtain⟨aUB,aKA,bdK⟩:=Kd.BL HR0.out bC amV amW
        cases aKA
        replace amV:=eq_true amV
        replace amW:=eq_true amW
        have amX:0<=(bC:Int):=od
        have amY:bC<(l1.length:Int):=od
        obtain⟨aUC,e143,bdL⟩:=Kd.BL HR1.out bC amX amY
        cases e143
        replace amX:=eq_true amX
        replace amY:=eq_true amY
        go_wp2
        repeat(go_quiet (fail);try go_wp2)
        go_roundg kj2
        case measure=>have:=fV.out;have:=HJ2.out;omega
        case rel=>exact⟨(wrap64 (bC+1)),(by first|rfl|(simp;done)|(simp[*];done)),H',⟨by have:=fV.out;have:=HJ2.out;omega⟩,by repeat(first|exact iI.refl _|apply iI.step)⟩
       rw[if_neg c9]at H
       have QC:((rd l0 bC)==(rd l1 bC))=false:=beq_eq_false_iff_ne.mpr c9
       have afH:((rd l0 bC)!=(rd l1 bC))=true:=bne_iff_ne.mpr c9
       obtain rfl:=Option.some.inj H
       have amV:0<=(bC:Int):=od
       have amW:bC<(l0.length:Int):=od
       obtain⟨aUB,aKA,bdK⟩:=Kd.BL HR0.out bC amV amW
       cases aKA
       replace amV:=eq_true amV
       replace amW:=eq_true amW
       have amX:0<=(bC:Int):=od
       have amY:bC<(l1.length:Int):=od
       obtain⟨aUC,e143,bdL⟩:=Kd.BL HR1.out bC amX amY
       cases e143
       replace amX:=eq_true amX
       replace amY:=eq_true amY
       have abE:0<=(bC:Int):=od
       have abG:bC<(l0.length:Int):=od
       obtain⟨auI,auJ,aUD⟩:=Kd.BL HR0.out bC abE abG
       obtain rfl:aUB=auI:=(by injection auJ)
       replace abE:=eq_true abE
       replace abG:=eq_true abG
       have abH:0<=(bC:Int):=od
       have abI:bC<(l1.length:Int):=od
       obtain⟨auK,auL,aUE⟩:=Kd.BL HR1.out bC abH abI
       obtain rfl:aUC=auK:=(by injection auL)
       replace abH:=eq_true abH
       replace abI:=eq_true abI
       go_wp2
       repeat(go_quiet (fail);try go_wp2)
       go_ret
       exact⟨by first|rfl|(simp;done)|(simp[*];done),by repeat(first|exact iI.refl _|apply iI.step)⟩
      rw[if_neg c8]at H
      exact absurd H (by simp)
     rw[if_neg c7]at H
     exact absurd H (by simp)
    rw[if_neg c6]at H
    exact absurd H (by simp)
   replace c5:=Bool.eq_false_iff.mpr c5
   subst c5
   replace H:(some (wrap64 ((l0.length:Int) - (l1.length:Int))))=some r:=by rw[if_neg (show ¬ (false=true) by decide)]at H;exact H
   obtain rfl:=Option.some.inj H
   go_wp2
   repeat(go_quiet (fail);try go_wp2)
   go_ret
   exact⟨by first|rfl|(simp;done)|(simp[*];done),by repeat(first|exact iI.refl _|apply iI.step)⟩
def oD.f (k:Nat) (l0:List Int) (l1:List Int):Option (Bool):=(oJ.f k l0 l1).bind fun t146=>(some (t146==0))
theorem oD.calls (k:Nat) (A0:Option Addr) (c0:Nat) (l0:List Int) (A1:Option Addr) (c1:Nat) (l1:List Int) (r:Bool) (w:World) (hr0:Kd.C (Kd.int .i64) w A0 l0.length l0) (hc0:l0.length<=c0) (hr1:Kd.C (Kd.int .i64) w A1 l1.length l1) (hc1:l1.length<=c1) (h:oD.f k l0 l1=some r):
    Calls Tryd.prog 28 #[.slice A0 l0.length c0,.slice A1 l1.length c1] w fun e w'=>e=.returned (.bool r)/\iI w w':=by
 have HR0:=aA.mk hr0
 have HC0:=aA.mk hc0
 clear hr0 hc0
 have HR1:=aA.mk hr1
 have HC1:=aA.mk hc1
 clear hr1 hc1
 have H:((oJ.f k l0 l1).bind fun t146=>(some (t146==0)))=some r:=h
 clear h
 replace H:=Option.bind_eq_some_iff.mp H
 obtain⟨t146,RG,H⟩:=H
 replace H:(some (t146==0))=some r:=H
 have A3:=aA.mk RG
 clear RG
 obtain rfl:=Option.some.inj H
 go_enter Tryd.func28,Tryd.ntmps28
 go_wp2_with (first|((with_reducible refine gJ (f:=72) rfl ?_);refine cE 7 Tryd.func72 #[.slice A0 l0.length c0,.slice A1 l1.length c1] ?_;refine(oJ.calls k _ _ l0 _ _ l1 t146 _ (by repeat(first|exact HR0.out|(with_reducible refine Kd.jZ ?_ _)|(with_reducible refine Kd.kD ?_ _)|(with_reducible refine Kd.kC ?_))) HC0.out (by repeat(first|exact HR1.out|(with_reducible refine Kd.jZ ?_ _)|(with_reducible refine Kd.kD ?_ _)|(with_reducible refine Kd.kC ?_))) HC1.out A3.out).mono ?_;rintro e w' ⟨rfl,⟨nd,rfl⟩⟩;refine⟨_,rfl,?_⟩))
 go_ret
 exact⟨by first|rfl|(simp;done)|(simp[*];done),by repeat(first|exact iI.refl _|apply iI.step)⟩
def cmp_isNaN_int.f (a0:Int):Option (Bool):=some (a0 !=a0)
theorem cmp_isNaN_int.calls (a0:Int) (r:Bool) (w:World) (h:cmp_isNaN_int.f a0=some r):
    Calls Tryd.prog 123 #[.int .i64 a0] w fun e w'=>e=.returned (.bool r)/\iI w w':=by
 have H:(some (a0 !=a0))=some r:=h
 clear h
 obtain rfl:=Option.some.inj H
 go_enter Tryd.func123,Tryd.ntmps123
 go_wp2
 go_ret
 exact⟨by first|rfl|(simp;done)|(simp[*];done),by repeat(first|exact iI.refl _|apply iI.step)⟩
def cmp_Compare_int.f (a0:Int) (a1:Int):Option (Int):=(cmp_isNaN_int.f a0).bind fun t147=>((cmp_isNaN_int.f a1).bind fun t148=>(if t147=true then(if t148=true then(some 0)else(some (-1)))else(if t148=true then(some 1)else(if a0<a1 then(some (-1))else(if a0>a1 then(some 1)else(some 0))))))
theorem cmp_Compare_int.calls (a0:Int) (a1:Int) (r:Int) (w:World) (h:cmp_Compare_int.f a0 a1=some r):
    Calls Tryd.prog 105 #[.int .i64 a0,.int .i64 a1] w fun e w'=>e=.returned (.int .i64 r)/\iI w w':=by
 have H:((cmp_isNaN_int.f a0).bind fun t147=>((cmp_isNaN_int.f a1).bind fun t148=>(if t147=true then(if t148=true then(some 0)else(some (-1)))else(if t148=true then(some 1)else(if a0<a1 then(some (-1))else(if a0>a1 then(some 1)else(some 0)))))))=some r:=h
 clear h
 replace H:=Option.bind_eq_some_iff.mp H
 obtain⟨t147,RG,H⟩:=H
 replace H:((cmp_isNaN_int.f a1).bind fun t148=>(if t147=true then(if t148=true then(some 0)else(some (-1)))else(if t148=true then(some 1)else(if a0<a1 then(some (-1))else(if a0>a1 then(some 1)else(some 0))))))=some r:=H
 have A3:=aA.mk RG
 clear RG
 replace H:=Option.bind_eq_some_iff.mp H
 obtain⟨t148,vG,H⟩:=H
 replace H:(if t147=true then(if t148=true then(some 0)else(some (-1)))else(if t148=true then(some 1)else(if a0<a1 then(some (-1))else(if a0>a1 then(some 1)else(some 0)))))=some r:=H
 have A4:=aA.mk vG
 clear vG
 by_cases c5:t147=true
 ·subst c5
  replace H:(if t148=true then(some 0)else(some (-1)))=some r:=by rw[if_pos rfl]at H;exact H
  by_cases c6:t148=true
  ·subst c6
   replace H:(some 0)=some r:=by rw[if_pos rfl]at H;exact H
   obtain rfl:=Option.some.inj H
   go_enter Tryd.func105,Tryd.ntmps105
   go_wp2_with (first|((with_reducible refine gJ (f:=123) rfl ?_);refine cE 8 Tryd.func123 #[.int .i64 a0] ?_;(with_reducible refine(cmp_isNaN_int.calls a0 true _ A3.out).mono ?_);rintro e w' ⟨rfl,⟨nd,rfl⟩⟩;refine⟨_,rfl,?_⟩)|((with_reducible refine gJ (f:=123) rfl ?_);refine cE 10 Tryd.func123 #[.int .i64 a1] ?_;(with_reducible refine(cmp_isNaN_int.calls a1 true _ A4.out).mono ?_);rintro e w' ⟨rfl,⟨nd,rfl⟩⟩;refine⟨_,rfl,?_⟩))
   go_ret
   exact⟨by first|rfl|(simp;done)|(simp[*];done),by repeat(first|exact iI.refl _|apply iI.step)⟩
  replace c6:=Bool.eq_false_iff.mpr c6
  subst c6
  replace H:(some (-1))=some r:=by rw[if_neg (show ¬ (false=true) by decide)]at H;exact H
  obtain rfl:=Option.some.inj H
  go_enter Tryd.func105,Tryd.ntmps105
  go_wp2_with (first|((with_reducible refine gJ (f:=123) rfl ?_);refine cE 8 Tryd.func123 #[.int .i64 a0] ?_;(with_reducible refine(cmp_isNaN_int.calls a0 true _ A3.out).mono ?_);rintro e w' ⟨rfl,⟨nd,rfl⟩⟩;refine⟨_,rfl,?_⟩)|((with_reducible refine gJ (f:=123) rfl ?_);refine cE 10 Tryd.func123 #[.int .i64 a1] ?_;(with_reducible refine(cmp_isNaN_int.calls a1 false _ A4.out).mono ?_);rintro e w' ⟨rfl,⟨nd,rfl⟩⟩;refine⟨_,rfl,?_⟩))
  go_ret
  exact⟨by first|rfl|(simp;done)|(simp[*];done),by repeat(first|exact iI.refl _|apply iI.step)⟩
 replace c5:=Bool.eq_false_iff.mpr c5
 subst c5
 replace H:(if t148=true then(some 1)else(if a0<a1 then(some (-1))else(if a0>a1 then(some 1)else(some 0))))=some r:=by rw[if_neg (show ¬ (false=true) by decide)]at H;exact H
 by_cases c7:t148=true
 ·subst c7
  replace H:(some 1)=some r:=by rw[if_pos rfl]at H;exact H
  obtain rfl:=Option.some.inj H
  go_enter Tryd.func105,Tryd.ntmps105
  go_wp2_with (first|((with_reducible refine gJ (f:=123) rfl ?_);refine cE 8 Tryd.func123 #[.int .i64 a0] ?_;(with_reducible refine(cmp_isNaN_int.calls a0 false _ A3.out).mono ?_);rintro e w' ⟨rfl,⟨nd,rfl⟩⟩;refine⟨_,rfl,?_⟩)|((with_reducible refine gJ (f:=123) rfl ?_);refine cE 10 Tryd.func123 #[.int .i64 a1] ?_;(with_reducible refine(cmp_isNaN_int.calls a1 true _ A4.out).mono ?_);rintro e w' ⟨rfl,⟨nd,rfl⟩⟩;refine⟨_,rfl,?_⟩))
  go_ret
  exact⟨by first|rfl|(simp;done)|(simp[*];done),by repeat(first|exact iI.refl _|apply iI.step)⟩
 replace c7:=Bool.eq_false_iff.mpr c7
 subst c7
 replace H:(if a0<a1 then(some (-1))else(if a0>a1 then(some 1)else(some 0)))=some r:=by rw[if_neg (show ¬ (false=true) by decide)]at H;exact H
 by_cases c8:a0<a1
 ·rw[if_pos c8]at H
  have aDL:decide (a0<a1)=true:=decide_eq_true c8
  clear c8
  obtain rfl:=Option.some.inj H
  go_enter Tryd.func105,Tryd.ntmps105
  go_wp2_with (first|((with_reducible refine gJ (f:=123) rfl ?_);refine cE 8 Tryd.func123 #[.int .i64 a0] ?_;(with_reducible refine(cmp_isNaN_int.calls a0 false _ A3.out).mono ?_);rintro e w' ⟨rfl,⟨nd,rfl⟩⟩;refine⟨_,rfl,?_⟩)|((with_reducible refine gJ (f:=123) rfl ?_);refine cE 10 Tryd.func123 #[.int .i64 a1] ?_;(with_reducible refine(cmp_isNaN_int.calls a1 false _ A4.out).mono ?_);rintro e w' ⟨rfl,⟨nd,rfl⟩⟩;refine⟨_,rfl,?_⟩))
  go_ret
  exact⟨by first|rfl|(simp;done)|(simp[*];done),by repeat(first|exact iI.refl _|apply iI.step)⟩
 rw[if_neg c8]at H
 have aDL:decide (a0<a1)=false:=decide_eq_false c8
 clear c8
 by_cases c9:a0>a1
 ·rw[if_pos c9]at H
  have QC:decide (a1<a0)=true:=decide_eq_true c9
  clear c9
  obtain rfl:=Option.some.inj H
  go_enter Tryd.func105,Tryd.ntmps105
  go_wp2_with (first|((with_reducible refine gJ (f:=123) rfl ?_);refine cE 8 Tryd.func123 #[.int .i64 a0] ?_;(with_reducible refine(cmp_isNaN_int.calls a0 false _ A3.out).mono ?_);rintro e w' ⟨rfl,⟨nd,rfl⟩⟩;refine⟨_,rfl,?_⟩)|((with_reducible refine gJ (f:=123) rfl ?_);refine cE 10 Tryd.func123 #[.int .i64 a1] ?_;(with_reducible refine(cmp_isNaN_int.calls a1 false _ A4.out).mono ?_);rintro e w' ⟨rfl,⟨nd,rfl⟩⟩;refine⟨_,rfl,?_⟩))
  go_ret
  exact⟨by first|rfl|(simp;done)|(simp[*];done),by repeat(first|exact iI.refl _|apply iI.step)⟩
 rw[if_neg c9]at H
 have QC:decide (a1<a0)=false:=decide_eq_false c9
 clear c9
 obtain rfl:=Option.some.inj H
 go_enter Tryd.func105,Tryd.ntmps105
 go_wp2_with (first|((with_reducible refine gJ (f:=123) rfl ?_);refine cE 8 Tryd.func123 #[.int .i64 a0] ?_;(with_reducible refine(cmp_isNaN_int.calls a0 false _ A3.out).mono ?_);rintro e w' ⟨rfl,⟨nd,rfl⟩⟩;refine⟨_,rfl,?_⟩)|((with_reducible refine gJ (f:=123) rfl ?_);refine cE 10 Tryd.func123 #[.int .i64 a1] ?_;(with_reducible refine(cmp_isNaN_int.calls a1 false _ A4.out).mono ?_);rintro e w' ⟨rfl,⟨nd,rfl⟩⟩;refine⟨_,rfl,?_⟩))
 go_ret
 exact⟨by first|rfl|(simp;done)|(simp[*];done),by repeat(first|exact iI.refl _|apply iI.step)⟩
end Go.Proofs.YtcmfnebcmmklkaaDoor.Q
namespace Go.Proofs.YtcmfnebcmmklkaaDoor.Hand
open Go.RowKit Go.Shelf Go.Proofs.YtcmfnebcmmklkaaDoorW.dQ Go.Proofs.YtcmfnebcmmklkaaDoorW.gG
theorem TY (W:World) (x:Int) (e:TypeId) (n:Nat) (hn:W.heap.size=n):Kd.C (Kd.int .i64) (W.alloc (.cells #[.int .i64 x] e)) (some ⟨n,0,none⟩) 1 [x]:=by
 subst hn
 refine⟨rfl,by omega,fun _=>⟨_,rfl,?_⟩⟩
 intro j p hp
 obtain rfl:j=0:=by
  rcases Nat.eq_zero_or_pos j with h|h
  ·exact h
  ·simp[show ¬ j=0 by omega]at hp
 obtain rfl:x=p:=by simpa using hp
 refine⟨[.int .i64 x],rfl,rfl,?_⟩
 intro i u hu
 obtain rfl:i=0:=by
  rcases Nat.eq_zero_or_pos i with h|h
  ·exact h
  ·simp[show ¬ i=0 by omega]at hu
 obtain rfl:.int .i64 x=u:=by simpa using hu
 go_simp
theorem auV (W:World) (x y:Int) (e:TypeId) (n:Nat) (hn:W.heap.size=n):Kd.C (Kd.int .i64) (W.alloc (.cells #[.int .i64 x,.int .i64 y] e)) (some ⟨n,0,none⟩) 2 [x,y]:=by
 subst hn
 refine⟨rfl,by omega,fun _=>⟨_,rfl,?_⟩⟩
 intro j p hp
 have hj:j<2:=by
  have:=(List.getElem?_eq_some_iff.1 hp).1
  simpa using this
 match j,hj with
 |0,_=>
  obtain rfl:x=p:=by simpa using hp
  refine⟨[.int .i64 x],rfl,rfl,?_⟩
  intro i u hu
  obtain rfl:i=0:=by
   rcases Nat.eq_zero_or_pos i with h|h
   ·exact h
   ·simp[show ¬ i=0 by omega]at hu
  obtain rfl:.int .i64 x=u:=by simpa using hu
  go_simp
 |1,_=>
  obtain rfl:y=p:=by simpa using hp
  refine⟨[.int .i64 y],rfl,rfl,?_⟩
  intro i u hu
  obtain rfl:i=0:=by
   rcases Nat.eq_zero_or_pos i with h|h
   ·exact h
   ·simp[show ¬ i=0 by omega]at hu
  obtain rfl:.int .i64 y=u:=by simpa using hu
  show _=_
  go_simp
  rfl
def Box (w:World) (b:Nat) (vs:Array Value) (t:TypeId):Prop:=w.heap[b]? =some (.cells vs t (0,0))
theorem Box.lt {w:World} {b:Nat} {vs:Array Value} {t:TypeId} (h:Box w b vs t):b<w.heap.size:=lt_of_block h
theorem Box.cell {w:World} {b:Nat} {vs:Array Value} {t:TypeId} (h:Box w b vs t) (i:Nat) {v:Value} (hv:vs[i]? =some v):w.cell? ⟨b,i,none⟩=some v:=by
 unfold Box at h
 simp[World.cell?,h,hv]
theorem Box.frozen {w:World} {b:Nat} {vs:Array Value} {t:TypeId} (h:Box w b vs t) (i:Nat):w.frozen? ⟨b,i,none⟩=false:=by
 unfold Box at h
 simp[World.frozen?,h]
theorem Box.new (w:World) (vs:Array Value) (t:TypeId):Box (w.alloc (.cells vs t)) w.heap.size vs t:=World.alloc_heap_new w _
theorem Box.new' {w:World} (vs:Array Value) (t:TypeId) (n:Nat) (h:w.heap.size=n):Box (w.alloc (.cells vs t)) n vs t:=by subst h;exact World.alloc_heap_new w _
theorem Box.below {w w':World} {b B:Nat} {vs:Array Value} {t:TypeId} (h:Box w b vs t) (hb:Below B w w') (hB:b<B):Box w' b vs t:=(hb.block b hB).trans h
theorem Box.alloc {w:World} {b:Nat} {vs:Array Value} {t:TypeId} (h:Box w b vs t) (o:Obj):Box (w.alloc o) b vs t:=(Below.heap_alloc w o b h.lt).trans h
theorem Box.step {w w':World} {b:Nat} {vs:Array Value} {t:TypeId} (h:Box w b vs t) (hb:Below w.heap.size w w'):Box w' b vs t:=h.below hb h.lt
abbrev FW:Fence:=Fence.wide
def ad9:Obj->Bool
 |.loop _=>true
 |.deferred _=>true
 |_=>false
structure nM (B:Nat) (W W':World):Prop where
 os:W'.os=W.os
 tape:W'.tape=W.tape
 output:W'.output=W.output
 size:W.heap.size<=W'.heap.size
 keep:∀ (k:Nat) (o:Obj),W.heap[k]? =some o->(k<B∨ad9 o=false)->W'.heap[k]? =some o
theorem nM.alloc (B:Nat) (W:World) (o:Obj):nM B W (W.alloc o):=
 ⟨rfl,rfl,rfl,by simp,fun k o' h _=>(Below.heap_alloc W o k (lt_of_block h)).trans h⟩
theorem nM.putObj {B l:Nat} {W:World} {o o':Obj} (hl:W.heap[l]? =some o) (hB:B<=l) (hb:ad9 o=true):nM B W (W.putObj l o'):=by
 refine⟨rfl,rfl,rfl,by simp,fun k p h hk=>?_⟩
 by_cases e:k=l
 ·subst e
  rw[hl]at h
  cases h
  rcases hk with hk|hk
  ·omega
  ·rw[hb]at hk
   cases hk
 ·exact(World.putObj_heap_other e).trans h
theorem nM.box {B b:Nat} {W W':World} {vs:Array Value} {t:TypeId} (h:Box W b vs t) (hi:nM B W W'):Box W' b vs t:=hi.keep b _ h (.inr rfl)
theorem nM.below {B n₀:Nat} {w W W':World} (h:Below n₀ w W) (hB:n₀<=B) (hn:n₀<=w.heap.size) (hi:nM B W W'):Below n₀ w W':=
 ⟨hi.os.trans h.os,hi.tape.trans h.tape,hi.output.trans h.output,Nat.le_trans h.size hi.size,fun k hk=>by
  have hlt:k<W.heap.size:=by have:=h.size;omega
  rw[hi.keep k _ (Array.getElem?_eq_getElem hlt) (.inl (by omega)),<-Array.getElem?_eq_getElem hlt]
  exact h.block k hk⟩
theorem nM.cell {B:Nat} {W W':World} (hi:nM B W W') {a:Addr} {v:Value} (h:W.cell? a=some v):W'.cell? a=some v:=by
 have hlt:=World.block_lt_of_cell? W a h
 have h1:=hi.keep a.block _ (Array.getElem?_eq_getElem hlt)
 rw[<-h]
 refine World.cell?_of_block ?_
 rw[h1,<-Array.getElem?_eq_getElem hlt]
 right
 have h2:W.heap[a.block]? =some W.heap[a.block]:=Array.getElem?_eq_getElem hlt
 unfold World.cell? at h
 rw[h2]at h
 generalize W.heap[a.block]=o at h
 cases o<;>simp[ad9]at h ⊢
theorem nM.tab {B:Nat} {W W':World} (hi:nM B W W') (h:lZ W):lZ W':=
 ⟨Nat.le_trans h.1 hi.size,fun j hj=>hi.cell (h.2 j hj)⟩
def iZ (W W':World):Prop:=∀ (k:Nat) (o:Obj),W.heap[k]? =some o->ad9 o=true->W'.heap[k]? =some o
theorem iZ.refl (W:World):iZ W W:=fun _ _ h _=>h
theorem iZ.trans {A B C:World} (h:iZ A B) (k:iZ B C):iZ A C:=fun i o hi ho=>k i o (h i o hi ho) ho
theorem iZ.of_below {W W':World} (h:Below W.heap.size W W'):iZ W W':=fun k o hk _=>(h.block k (lt_of_block hk)).trans hk
theorem iZ.alloc (W:World) (o:Obj):iZ W (W.alloc o):=fun k o' hk _=>(Below.heap_alloc W o k (lt_of_block hk)).trans hk
theorem iZ.setCell (W:World) (a:Addr) (v:Value):iZ W (W.setCell a v):=fun k o hk ho=>by
 by_cases e:k=a.block
 ·subst e
  have hlt:=lt_of_block hk
  have hk':W.heap[a.block]=o:=by simpa[Array.getElem?_eq_getElem hlt]using hk
  show(W.heap.modify a.block _)[a.block]? =_
  rw[Array.getElem?_eq_getElem (by simpa using hlt),Array.getElem_modify_self,hk']
  cases o<;>simp[ad9]at ho ⊢
 ·exact(Below.heap_setCell W a v k e).trans hk
theorem iZ.drew (W:World):iZ W W.drew:=fun _ _ h _=>h
theorem iZ.drewN (W:World) (n:Nat):iZ W (W.drewN n):=fun _ _ h _=>h
def Iter {α:Type} (P:Program) (g:Nat) (first lb:Array Value) (Enc:α->Array Value->World->Prop) (Inv:World->Prop) (St:World->World->Prop) (xs:List α):Prop:=
 ∀ (l:Nat) (J Jx:List α->World->Prop) (W:World),Inv W->
  (∀ pre A B,J pre A->St A B->J pre B)->(∀ pre A B,Jx pre A->St A B->Jx pre B)->
  (∀ pre x args W1,J pre W1->Inv W1->pre++[x]<+:xs->Enc x args W1->YieldAt FW 0 P l args W1 fun e W'=>
   (e=.returned (.bool true)/\J (pre++[x]) W'/\Inv W')∨(e=.returned (.bool false)/\Jx (pre++[x]) W'))->
  J [] W->
  CallsIn FW 0 P g (first++#[.func (.yield l) #[] #[]]++lb) W fun e W'=>(∃ v,e=.returned v)/\((J xs W'/\Inv W')∨(∃ pre,pre<+:xs/\Jx pre W'))
def aVL {α:Type} (Inv:World->Prop) (I:List α->World->Prop) (Ix:Code->List α->World->Prop) (xs:List α) (W:World):Exit->Act->World->Prop
 |.normal,_,W'=>iZ W W'/\Inv W'/\I xs W'
 |.ret,_,W'=>iZ W W'/\Ix .ret xs W'
 |.exit id,_,W'=>iZ W W'/\Ix (.exit id) xs W'
 |.goto t,_,W'=>iZ W W'/\Ix (.goto t) xs W'
 |.panic _,_,_=>False
 |.outgrown,_,_=>False
theorem aVM {α:Type} {P:Program} {g:Operand} {ps:Array Tmp} {assign body:Code} {Q:Exit->Act->World->Prop} {a:Act} {w:World}
  {gf:Nat} {first lb:Array Value} (hg:a.eval g=.func (.func gf) first lb) (eg:∀ args w,(callFunc gf args).run P w=.ok (.enter gf args) w)
  {Enc:α->Array Value->World->Prop} {Inv:World->Prop} {St:World->World->Prop} {xs:List α} (hit:Iter P gf first lb Enc Inv St xs)
  (hps:∀ x args W,Enc x args W->args.size=ps.size) (hInv:∀ A B,Inv A->nM w.heap.size A B->Inv B) (hSt:∀ A B,St A B->iZ A B)
  (I:List α->World->Prop) (Ix:Code->List α->World->Prop) (hI:∀ pre A B,I pre A->nM w.heap.size A B->I pre B) (hIs:∀ pre A B,I pre A->St A B->I pre B)
  (hIx:∀ c pre A B,Ix c pre A->nM w.heap.size A B->Ix c pre B) (auW:∀ c pre A B,Ix c pre A->St A B->Ix c pre B) (h0:I [] w) (hi0:Inv w)
  (Ax:α->Act->World->Prop) (hAx:∀ x a' A B,Ax x a' A->nM w.heap.size A B->Ax x a' B)
  (hassign:∀ (l:Nat) (pre:List α) (x:α) (args:Array Value) (W:World) (K:Act->World->Prop),I pre W->Inv W->pre++[x]<+:xs->Enc x args W->
   (∀ a' W',iZ W W'->I pre W'->Inv W'->Ax x a' W'->K a' W')->
   assign.wpIn (FW.inRound l) 0 P (Exit.then K (fun _ _ _=>False)) { tmps:=(ps.zip args).foldl (fun t (p,v)=>t.setIfInBounds p v) a.tmps,defers:=[]} W)
  (hbody:∀ (l:Nat) (pre:List α) (x:α) (a':Act) (W:World),w.heap.size<=l->(∃ r,W.heap[l]? =some (.loop r))->I pre W->Inv W->pre++[x]<+:xs->Ax x a' W->
   body.wpIn (FW.inRound l) 0 P (aVL Inv I Ix (pre++[x]) W) a' W)
  (hdone:∀ (D:Nat) (W:World),w.heap.size<=D->I xs W->Inv W->W.heap[D]? =some (.deferred (some []))->Q .normal { a with defers:={ target:=.collected D,args:=#[]}::a.defers} W)
  (hstop:∀ (D:Nat) (c:Code) (pre:List α) (W:World),w.heap.size<=D->pre<+:xs->Ix c pre W->W.heap[D]? =some (.deferred (some []))->c.wpIn FW 0 P Q { a with defers:={ target:=.collected D,args:=#[]}::a.defers} W):
  (Code.rangeFunc g ps assign body).wpIn FW 0 P Q a w:=by
 refine wpIn_rangeFunc ?_
 intro fn hfn
 obtain⟨rec,hrec⟩:∃ rec:LoopState->Option Code->Loop,rec=fun st pe=>{ state:=st,pending:=pe,fn,tmps:=a.tmps,params:=ps,assign,body,defers:=w.heap.size}:=⟨_,rfl⟩
 obtain⟨W1,hW1⟩:∃ W1,(w.alloc (.deferred (some []))).alloc (.loop (rec .ready none))=W1:=⟨_,rfl⟩
 have hL1:W1.heap[w.heap.size+1]? =some (.loop (rec .ready none)):=by
  rw[<-hW1];have:=World.alloc_heap_new (w.alloc (.deferred (some []))) (.loop (rec .ready none));rwa [World.size_alloc]at this
 have hK1:W1.heap[w.heap.size]? =some (.deferred (some [])):=by
  rw[<-hW1];exact(Below.heap_alloc _ _ _ (by simp)).trans (World.alloc_heap_new w _)
 have hI1:I [] W1:=by rw[<-hW1];exact hI _ _ _ (hI _ _ _ h0 (.alloc _ _ _)) (.alloc _ _ _)
 have hV1:Inv W1:=by rw[<-hW1];exact hInv _ _ (hInv _ _ hi0 (.alloc _ _ _)) (.alloc _ _ _)
 refine⟨w.heap.size+1,[{ target:=.collected w.heap.size,args:=#[]}],W1,{ target:=.fn (.func gf) lb,args:=first++#[.func (.yield (w.heap.size+1)) #[] #[]]},W1,gf,
  first++#[.func (.yield (w.heap.size+1)) #[] #[]]++lb,W1,?_,?_,?_,?_,fun h=>by simp[Fence.wide]at h,?_⟩
 ·rw[<-hW1,hrec];exact run_enterLoop_outer _ _ _ _ _
 ·simp only[resolve,hg]
  simp[go_sem]
 ·intro f' hf';trivial
 ·simp[invoke,go_sem,eg]
 ·refine(hit (w.heap.size+1)
   (fun pre W=>I pre W/\W.heap[w.heap.size+1]? =some (.loop (rec .ready none))/\W.heap[w.heap.size]? =some (.deferred (some [])))
   (fun pre W=>∃ c,Ix c pre W/\W.heap[w.heap.size+1]? =some (.loop (rec .done (some c)))/\W.heap[w.heap.size]? =some (.deferred (some [])))
   W1 hV1
   (fun pre A B hs hst=>⟨hIs _ _ _ hs.1 hst,hSt _ _ hst _ _ hs.2.1 rfl,hSt _ _ hst _ _ hs.2.2 rfl⟩)
   (fun pre A B hs hst=>by
    obtain⟨c,hc,hl,hk⟩:=hs
    exact⟨c,auW _ _ _ _ hc hst,hSt _ _ hst _ _ hl rfl,hSt _ _ hst _ _ hk rfl⟩)
   ?_ ⟨hI1,hL1,hK1⟩).mono ?_
  ·rintro pre x args W ⟨hi,hl,hk⟩ hv hpre henc
   have hy:=run_yield (P:=P) (args:=args) hl (by rw[hrec];exact hps x args W henc)
   rw[hrec]at hy
   refine⟨fn,_,assign,body,hy,roundIn_of_wpIn hfn (hassign _ pre x args W _ hi hv hpre henc ?_)⟩
   clear hy
   intro a' Wa hkfa hia hva hax
   replace hl:=hkfa _ _ hl rfl
   replace hk:=hkfa _ _ hk rfl
   replace hi:=hia
   replace hv:=hva
   clear hia hva hkfa henc W
   obtain⟨W,rfl⟩:∃ W,W=Wa:=⟨_,rfl⟩
   have hlt:w.heap.size+1<W.heap.size:=lt_of_block hl
   refine⟨_,run_beginRound hl (by rw[hrec]),?_⟩
   have hl2:(W.putObj (w.heap.size+1) (.loop { rec .ready none with state:=.busy})).heap[w.heap.size+1]? =some (.loop { rec .ready none with state:=.busy}):=World.putObj_heap_same hlt
   have hk2:(W.putObj (w.heap.size+1) (.loop { rec .ready none with state:=.busy})).heap[w.heap.size]? =some (.deferred (some [])):=(World.putObj_heap_other (by omega)).trans hk
   have hin:nM w.heap.size W (W.putObj (w.heap.size+1) (.loop { rec .ready none with state:=.busy})):=.putObj hl (by omega) rfl
   refine wpIn_mono (hbody _ pre x a' _ (by omega) ⟨_,hl2⟩ (hI _ _ _ hi hin) (hInv _ _ hv hin) hpre (hAx _ _ _ _ hax hin)) ?_
   have fin:∀ (jump:Option Code) (W3:World),iZ (W.putObj (w.heap.size+1) (.loop { rec .ready none with state:=.busy})) W3->
     (Instr.endRound (w.heap.size+1) jump).run P W3=.ok (.bool jump.isNone) (W3.putObj (w.heap.size+1) (.loop (rec (if jump.isNone then .ready else .done) jump)))/\
     W3.heap[w.heap.size+1]? =some (.loop { rec .ready none with state:=.busy})/\
     (W3.putObj (w.heap.size+1) (.loop (rec (if jump.isNone then .ready else .done) jump))).heap[w.heap.size+1]? =some (.loop (rec (if jump.isNone then .ready else .done) jump))/\
     (W3.putObj (w.heap.size+1) (.loop (rec (if jump.isNone then .ready else .done) jump))).heap[w.heap.size]? =some (.deferred (some [])):=fun jump W3 hk3=>by
    have hl3:=hk3 _ _ hl2 rfl
    have:=run_endRound (P:=P) jump hl3
    rw[hrec]at this ⊢
    exact⟨this,by rw[hrec]at hl3;exact hl3,World.putObj_heap_same (lt_of_block hl3),(World.putObj_heap_other (by omega)).trans (hk3 _ _ hk2 rfl)⟩
   rintro e a3 W3 hp
   cases e with
   |normal=>
    obtain⟨hk3,hv3,hi3⟩:=hp
    obtain⟨hr,hl3,hl4,hk4⟩:=fin none W3 hk3
    exact⟨_,_,hr,.inl ⟨rfl,⟨hI _ _ _ hi3 (.putObj hl3 (Nat.le_succ _) rfl),hl4,hk4⟩,hInv _ _ hv3 (.putObj hl3 (Nat.le_succ _) rfl)⟩⟩
   |ret=>
    obtain⟨hk3,hi3⟩:=hp
    obtain⟨hr,hl3,hl4,hk4⟩:=fin (some .ret) W3 hk3
    exact⟨_,_,hr,.inr ⟨rfl,.ret,hIx _ _ _ _ hi3 (.putObj hl3 (Nat.le_succ _) rfl),hl4,hk4⟩⟩
   |exit id=>
    obtain⟨hk3,hi3⟩:=hp
    obtain⟨hr,hl3,hl4,hk4⟩:=fin (some (.exit id)) W3 hk3
    exact⟨_,_,hr,.inr ⟨rfl,.exit id,hIx _ _ _ _ hi3 (.putObj hl3 (Nat.le_succ _) rfl),hl4,hk4⟩⟩
   |goto t=>
    obtain⟨hk3,hi3⟩:=hp
    obtain⟨hr,hl3,hl4,hk4⟩:=fin (some (.goto t)) W3 hk3
    exact⟨_,_,hr,.inr ⟨rfl,.goto t,hIx _ _ _ _ hi3 (.putObj hl3 (Nat.le_succ _) rfl),hl4,hk4⟩⟩
   |panic ch=>exact hp.elim
   |outgrown=>exact hp.elim
  ·rintro e W2 ⟨⟨v,rfl⟩,(⟨⟨hi,hl,hk⟩,hv⟩|⟨pre,hSp,c,hi,hl,hk⟩)⟩
   ·exact⟨none,_,by have:=run_endLoop (P:=P) hl (by rw[hrec];simp);rw[hrec]at this;exact this,hdone _ _ (Nat.le_refl _) (hI _ _ _ hi (.putObj hl (Nat.le_succ _) rfl)) (hInv _ _ hv (.putObj hl (Nat.le_succ _) rfl)) ((World.putObj_heap_other (by omega)).trans hk)⟩
   ·exact⟨some c,_,by have:=run_endLoop (P:=P) hl (by rw[hrec];simp);rw[hrec]at this;exact this,hstop _ c pre _ (Nat.le_refl _) hSp (hIx _ _ _ _ hi (.putObj hl (Nat.le_succ _) rfl)) ((World.putObj_heap_other (by omega)).trans hk)⟩
def aVN (l:List Oper):Bool:=l.all fun o=>match o.op with
 |.defer _=>false
 |_=>true
theorem beV {l:List Oper} (h:aVN l=true) {o:Oper} (ho:o∈l) (c:Call):o.op≠.defer c:=fun e=>by
 have:=List.all_eq_true.1 h o ho
 rw[e]at this
 cases this
theorem beW {P:Program} {fn:Func} {tmps:Array Value} {R:Ending->World->Prop} {D:Nat} {W:World} (v:Value) (hK:W.heap[D]? =some (.deferred (some [])))
  (hres:(results fn tmps).run P (W.putObj D (.deferred none))=.ok v (W.putObj D (.deferred none))) (hR:R (.returned v) (W.putObj D (.deferred none))):
  LeavesInM FW 0 P fn tmps R [{ target:=.collected D,args:=#[]}] .returning W:=
 ⟨by simp,.inl ⟨_,_,rfl,run_takeDeferred hK,v,hres,hR⟩⟩
theorem Box.set {w:World} {b:Nat} {vs:Array Value} {t:TypeId} (h:Box w b vs t) (i:Nat) (v:Value):Box (w.setCell ⟨b,i,none⟩ v) b (vs.setIfInBounds i v) t:=by
 have hlt:=h.lt
 have h':w.heap[b]=.cells vs t (0,0):=by
  have:=h
  unfold Box at this
  simpa[Array.getElem?_eq_getElem hlt]using this
 show(w.heap.modify b _)[b]? =_
 rw[Array.getElem?_eq_getElem (by simpa using hlt),Array.getElem_modify_self,h']
 rfl
theorem Box.other {w:World} {b b':Nat} {vs:Array Value} {t:TypeId} (h:Box w b vs t) (hne:b≠b') (i:Nat) (v:Value):Box (w.setCell ⟨b',i,none⟩ v) b vs t:=(Below.heap_setCell w ⟨b',i,none⟩ v b hne).trans h
theorem Box.put {w:World} {b D:Nat} {vs:Array Value} {t:TypeId} (h:Box w b vs t) (hK:w.heap[D]? =some (.deferred (some []))) (o:Obj):Box (w.putObj D o) b vs t:=nM.box h (nM.putObj (B:=0) hK (Nat.zero_le _) rfl)
theorem Below.put {w W:World} {n₀ D:Nat} {o:Obj} (h:Below n₀ w W) (hD:n₀<=D):Below n₀ w (W.putObj D o):=
 ⟨h.os,h.tape,h.output,by simpa using h.size,fun k hk=>(World.putObj_heap_other (by omega)).trans (h.block k hk)⟩
theorem lZ.setCell {w:World} (h:lZ w) {b:Nat} (hb:2<=b) (i:Nat) (v:Value):lZ (w.setCell ⟨b,i,none⟩ v):=
 ⟨by simpa[World.setCell]using h.1,fun j hj=>(World.cell?_of_block (w:=w) (a:=⟨1,j,none⟩) (Below.heap_setCell w ⟨b,i,none⟩ v 1 (by show 1≠b;omega))).trans (h.2 j hj)⟩
theorem lZ.drew {w:World} (h:lZ w):lZ w.drew:=h
theorem lZ.drewN {w:World} (h:lZ w) (n:Nat):lZ (w.drewN n):=h
theorem Box.drew {w:World} {b:Nat} {vs:Array Value} {t:TypeId} (h:Box w b vs t):Box w.drew b vs t:=h
section
variable {P:Program} {ops:Array Oper} {md:Region.Mode} {w:World}
end
section
variable {P:Program} {ops:Array Oper} {md:Region.Mode}
def aqR (w:World) (K:Value->Prop):Result Next->Prop
 |.ok (.value v) w'=>w'=w/\K v
 |.ok .skip w'=>w'=w/\K undef
 |_=>False
theorem beX (w:World) (K:Value->Prop) (v:Value):aqR w K (.ok (.value v) w)=K v:=by simp[aqR]
theorem beY (w:World) (K:Value->Prop):aqR w K (.ok .skip w)=K undef:=by simp[aqR]
def be0 (P:Program) (ops:Array Oper) (w:World) (o:Oper) (a:Act) (K:Value->Prop):Prop:=
 if Region.wanted o (yielded ops a.tmps)then aqR w K ((execOp a.eval o).run P w)else K undef
def be1 (P:Program) (ops:Array Oper) (w w1:World) (o:Oper) (a:Act):Prop:=
 Region.wanted o (yielded ops a.tmps)=true/\(execOp a.eval o).run P w=.ok .skip w1
def be3 (ops:Array Oper) (v:Nat->Value) (p:Nat->Bool) (a:Act) (i:Nat):Act:=if p i then a.put ((ops[i]?).bind (·.dst)) (v i)else a
def CY (ops:Array Oper) (v:Nat->Value) (n:Nat) (a:Act) (p:Nat->Bool):Act:=(List.range n).foldl (be3 ops v p) a
end
section
variable {P:Program} {ops:Array Oper} {md:Region.Mode}
def auX (o:Oper) (a:Act) (w:World) (K:Value->Act->Prop):Result Next->Prop
 |.ok (.value v) w'=>w'=w/\K v (a.put o.dst v)
 |.ok .skip w'=>w'=w/\K undef (a.put o.dst undef)
 |_=>False
theorem be5 (o:Oper) (a:Act) (w:World) (K:Value->Act->Prop) (v:Value):auX o a w K (.ok (.value v) w)=K v (a.put o.dst v):=by simp[auX]
theorem be6 (o:Oper) (a:Act) (w:World) (K:Value->Act->Prop):auX o a w K (.ok .skip w)=K undef (a.put o.dst undef):=by simp[auX]
end
attribute [go_sem] auX aqR be0 be1 be5 be6 beX beY
end Go.Proofs.YtcmfnebcmmklkaaDoor.Hand

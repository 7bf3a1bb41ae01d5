/- What the laws of chapter 9 share: words about rows and regions, the walks of the package dozen, and that known returns true. Part 9 of 15. -/
import Derived.Test.YtcmfnebcmmklkaaDoorM8
import Derived.Test.YtcmfnebcmmklkaaDoorM3
set_option linter.unusedVariables false
set_option linter.unusedSimpArgs false
set_option maxRecDepth 100000
set_option maxHeartbeats 8000000
namespace Go.Proofs.YtcmfnebcmmklkaaDoor.Q
open Go.RowKit Go.Proofs.YtcmfnebcmmklkaaDoorW.dQ Go.Proofs.YtcmfnebcmmklkaaDoorW.oU Go.Proofs.YtcmfnebcmmklkaaDoorW.gG
attribute [local go_sem] uA uB uC uD uM uN uO uP
attribute [local go_sem high] biL biM
attribute [local go_sem] Hand.run_store_func
def am8.f (k:Nat) (aG:List (aZ)) (aC:List (aI)) (a1:Int):Option (Bool):=(abZ.f).bind fun RP=>((vX.f k RP.1 RP.2.1 aG aC a1).bind fun awG=>(if awG.2.2=true then((uU.f k RP.2.2.1 RP.2.2.2 aG aC a1).bind fun afY=>(if afY.2.2=true then(some true)else(some false)))else(some false)))
theorem am8.calls (k:Nat) (aQ:Option Addr) (aK:Nat) (aG:List (aZ)) (aT:Option Addr) (aJ:Nat) (aC:List (aI)) (a1:Int) (r:Bool) (w:World) (jI:Kd.C iJ w aQ aG.length aG) (jU:aG.length<=aK) (jE:Kd.C iE w aT aC.length aC) (jS:aC.length<=aJ) (h:am8.f k aG aC a1=some r):
    Calls Tryd.prog 75 #[.agg #[.slice aQ aG.length aK,.slice aT aC.length aJ],.int .u64 a1] w fun e w'=>e=.returned (.bool r)/\Below w.heap.size w w':=by
 have zH:=Tryd.underlying25
 have aKB:=Tryd.underlying173
 have aWD:=Tryd.underlying124
 have eU:=aA.mk jI
 have fK:=aA.mk jU
 clear jI jU
 have fB:=aA.mk jE
 have fM:=aA.mk jS
 clear jE jS
 have HB:=aA.mk (Below.refl w.heap.size w)
 have H:((abZ.f).bind fun RP=>((vX.f k RP.1 RP.2.1 aG aC a1).bind fun awG=>(if awG.2.2=true then((uU.f k RP.2.2.1 RP.2.2.2 aG aC a1).bind fun afY=>(if afY.2.2=true then(some true)else(some false)))else(some false))))=some r:=h
 clear h
 replace H:=Option.bind_eq_some_iff.mp H
 obtain⟨⟨t102,t103,t104,t105⟩,RG,H⟩:=H
 replace H:((vX.f k t102 t103 aG aC a1).bind fun awG=>(if awG.2.2=true then((uU.f k t104 t105 aG aC a1).bind fun afY=>(if afY.2.2=true then(some true)else(some false)))else(some false)))=some r:=H
 have A3:=aA.mk RG
 clear RG
 go_enter Tryd.func75,Tryd.ntmps75
 go_wp2_with (first|((with_reducible refine dU (N:=2) rfl ?_);refine eX 2 #[.slice aQ aG.length aK,.slice aT aC.length aJ] 25 ?_;intro atM hg w4 hbox hb;have kE:=aA.mk (hbox);have atN:=gw hg HB;have atO:=gw hg HB;replace HB:=bs HB hb;clear hb hbox hg)|((with_reducible refine gJ (f:=99) rfl ?_);refine cE 9 Tryd.func99 #[] ?_;(with_reducible refine(abZ.calls  t102 t103 t104 t105 _ A3.out).mono ?_);rintro e w5 ⟨rfl,hb⟩;refine⟨_,rfl,?_⟩;replace kE:=bb kE hb;replace HB:=bs HB hb;(try clear hb)))
 refine aXE ?_
 replace H:=Option.bind_eq_some_iff.mp H
 obtain⟨⟨t107,t110,t113⟩,A60,H⟩:=H
 replace H:(if t113=true then((uU.f k t104 t105 aG aC a1).bind fun afY=>(if afY.2.2=true then(some true)else(some false)))else(some false))=some r:=H
 have A6:=aA.mk A60
 clear A60
 by_cases c7:t113=true
 ·subst c7
  replace H:((uU.f k t104 t105 aG aC a1).bind fun afY=>(if afY.2.2=true then(some true)else(some false)))=some r:=by rw[if_pos rfl]at H;exact H
  replace H:=Option.bind_eq_some_iff.mp H
  obtain⟨⟨t116,t119,t122⟩,DZ,H⟩:=H
  replace H:(if t122=true then(some true)else(some false))=some r:=H
  have A8:=aA.mk DZ
  clear DZ
  by_cases c9:t122=true
  ·subst c9
   replace H:(some true)=some r:=by rw[if_pos rfl]at H;exact H
   obtain rfl:=Option.some.inj H
   go_wp2_with (first|((with_reducible refine dU (N:=6) rfl ?_);refine eX 6 #[.nilFunc,.nilFunc] 173 ?_;intro GM hg w10 hbox hb;have fO:=aA.mk (hbox);have aC1:=gw hg HB;have aC2:=gw hg HB;have ab1:=nl hg kE;have awH:=ng hg kE;replace kE:=bb kE hb;replace HB:=bs HB hb;clear hb hbox hg;have ap9:=awH.out;have aqA:=ab1.out;obtain⟨ad6,ad7⟩:=bZ fO (.nilFunc) (.nilFunc);have amK:=aX fO.out 0;have amL:=aX fO.out 1;obtain⟨aqB,aqC⟩:=bZ kE (.slice aQ aG.length aK) (.slice aT aC.length aJ))|((with_reducible refine gJ (f:=100) rfl ?_);refine cE 17 Tryd.func100 #[.agg #[.func (.func 114) #[] #[],.func (.func 115) #[] #[]],.agg #[.slice aQ aG.length aK,.slice aT aC.length aJ],.int .u64 a1] ?_;refine(vX.calls k t102 t103 _ _ aG _ _ aC a1 t107 t110 true _ (Kd.bJ eU.out (Bq HB)) fK.out (Kd.bJ fB.out (Bq HB)) fM.out A6.out).mono ?_;rintro e rU ⟨aXF,aXG,rfl,ho0,ho1,hb⟩;refine⟨_,rfl,?_⟩;have zB:=aA.mk (Kd.eF ho0 (dH (Bq HB)));have zC:=aA.mk (Kd.eF ho1 (dH (Bq HB)));replace kE:=aA.mk (fC (by exact bG (bG (b_ kE) ab1.out _) ab1.out _) hb);replace fO:=aA.mk (fC (by exact dE (cs:=#[.func (.func 114) #[] #[],.nilFunc]) (dE (cs:=#[.nilFunc,.nilFunc]) (b_ fO) 0 _ rfl) 1 _ rfl) hb);replace HB:=bs HB hb;(try clear hb);(try clear ho0);(try clear ho1))|((with_reducible refine dU (N:=7) rfl ?_);refine eX 7 #[.slice none 0 0,.slice none 0 0] 124 ?_;intro WT hg vY hbox hb;have pX:=aA.mk (hbox);have aDA:=gw hg HB;have aDB:=gw hg HB;have RQ:=nl hg kE;have awI:=ng hg kE;have RS:=nl hg fO;have awJ:=ng hg fO;replace zB:=RB zB hb;replace zC:=RB zC hb;replace kE:=bb kE hb;replace fO:=aA.mk (fC (g:=GM) (o:=.cells #[.func (.func 114) #[] #[],.func (.func 115) #[] #[]] 173 (0,0)) (b_ fO) hb);replace HB:=bs HB hb;clear hb hbox hg;obtain⟨VL,VM,rfl⟩:=Kd.dA zB.out;have aJZ:=awI.out;have aJ0:=RQ.out;have aUP:=awJ.out;have aUQ:=RS.out;obtain⟨aXH,aXI⟩:=bZ pX (.slice none 0 0) (.slice none 0 0);have bC4:=aX pX.out 0;have bC5:=aX pX.out 1;obtain⟨aEN,aEO,rfl⟩:=Kd.dA zC.out)|((with_reducible refine dU (N:=6) rfl ?_);refine eX 6 #[.nilFunc,.nilFunc] 173 ?_;intro uV hg BR hbox hb;have sG:=aA.mk (hbox);have aXJ:=gw hg HB;have aXK:=gw hg HB;have afZ:=nL hg (by exact bG (bG (b_ kE) RQ.out _) RQ.out _);have awK:=nG hg (by exact bG (bG (b_ kE) RQ.out _) RQ.out _);have am9:=nL hg (by exact bG (bG (b_ fO) RS.out _) RS.out _);have aLS:=nG hg (by exact bG (bG (b_ fO) RS.out _) RS.out _);have anA:=nL hg (by exact dE (cs:=#[.slice VL t107.length VM,.slice none 0 0]) (dE (cs:=#[.slice none 0 0,.slice none 0 0]) (b_ pX) 0 _ rfl) 1 _ rfl);have aLT:=nG hg (by exact dE (cs:=#[.slice VL t107.length VM,.slice none 0 0]) (dE (cs:=#[.slice none 0 0,.slice none 0 0]) (b_ pX) 0 _ rfl) 1 _ rfl);replace zB:=aA.mk (Kd.rY (by(with_reducible repeat(first|apply Kd.fQ|apply Kd.fU|apply Kd.dG));exact(Kd.bQ (Kd.bK (p:=⟨WT,1,none⟩) (Kd.bK (p:=⟨WT,0,none⟩) (Kd.gB zB.out pX.out (by decide)) (fun _ hk=>hk.2) (.slice VL t107.length VM)) (fun _ hk=>hk.2) (.slice aEN t110.length aEO)) (fun _ h_=>h_.1))) hb);replace zC:=aA.mk (Kd.rY (by(with_reducible repeat(first|apply Kd.fQ|apply Kd.fU|apply Kd.dG));exact(Kd.bQ (Kd.bK (p:=⟨WT,1,none⟩) (Kd.bK (p:=⟨WT,0,none⟩) (Kd.gB zC.out pX.out (by decide)) (fun _ hk=>hk.2) (.slice VL t107.length VM)) (fun _ hk=>hk.2) (.slice aEN t110.length aEO)) (fun _ h_=>h_.1))) hb);replace kE:=aA.mk (fC (by exact bG (bG (b_ kE) RQ.out _) RQ.out _) hb);replace fO:=aA.mk (fC (by exact bG (bG (b_ fO) RS.out _) RS.out _) hb);replace pX:=aA.mk (fC (by exact dE (cs:=#[.slice VL t107.length VM,.slice none 0 0]) (dE (cs:=#[.slice none 0 0,.slice none 0 0]) (b_ pX) 0 _ rfl) 1 _ rfl) hb);replace HB:=bs HB hb;clear hb hbox hg;have at1:=awK.out;have at6:=afZ.out;have bgR:=aLS.out;have bgS:=am9.out;have aLU:=aLT.out;have aLV:=anA.out;obtain⟨ahI,ahJ⟩:=bZ sG (.nilFunc) (.nilFunc);have auB:=aX sG.out 0;have auC:=aX sG.out 1;obtain⟨aq2,aq3⟩:=bZ kE (.slice aQ aG.length aK) (.slice aT aC.length aJ))|((with_reducible refine gJ (f:=100) rfl ?_);refine cE 17 Tryd.func100 #[.agg #[.func (.func 116) #[] #[],.func (.func 117) #[] #[]],.agg #[.slice aQ aG.length aK,.slice aT aC.length aJ],.int .u64 a1] ?_;refine(uU.calls k t104 t105 _ _ aG _ _ aC a1 t116 t119 true _ (Kd.bJ eU.out (Bq HB)) fK.out (Kd.bJ fB.out (Bq HB)) fM.out A8.out).mono ?_;rintro e wF ⟨v117,biN,rfl,ho0,ho1,hb⟩;refine⟨_,rfl,?_⟩;have anB:=aA.mk (Kd.eF (Kd.fG (Kd.fG ho0 (Kd.dY (by(with_reducible repeat(first|apply Kd.fQ|apply Kd.fU|apply Kd.dG));exact(Kd.bQ (Kd.bK (p:=⟨uV,1,none⟩) (Kd.bK (p:=⟨uV,0,none⟩) (Kd.gB zB.out sG.out (by decide)) (fun _ hk=>hk.2) (.func (.func 116) #[] #[])) (fun _ hk=>hk.2) (.func (.func 117) #[] #[])) (fun _ h_=>h_.1))))) (Kd.dY (by(with_reducible repeat(first|apply Kd.fQ|apply Kd.fU|apply Kd.dG));exact(Kd.bQ (Kd.bK (p:=⟨uV,1,none⟩) (Kd.bK (p:=⟨uV,0,none⟩) (Kd.gB zC.out sG.out (by decide)) (fun _ hk=>hk.2) (.func (.func 116) #[] #[])) (fun _ hk=>hk.2) (.func (.func 117) #[] #[])) (fun _ h_=>h_.1))))) (dH (Bq HB)));have anC:=aA.mk (Kd.eF (Kd.fG (Kd.fG ho1 (Kd.dY (by(with_reducible repeat(first|apply Kd.fQ|apply Kd.fU|apply Kd.dG));exact(Kd.bQ (Kd.bK (p:=⟨uV,1,none⟩) (Kd.bK (p:=⟨uV,0,none⟩) (Kd.gB zB.out sG.out (by decide)) (fun _ hk=>hk.2) (.func (.func 116) #[] #[])) (fun _ hk=>hk.2) (.func (.func 117) #[] #[])) (fun _ h_=>h_.1))))) (Kd.dY (by(with_reducible repeat(first|apply Kd.fQ|apply Kd.fU|apply Kd.dG));exact(Kd.bQ (Kd.bK (p:=⟨uV,1,none⟩) (Kd.bK (p:=⟨uV,0,none⟩) (Kd.gB zC.out sG.out (by decide)) (fun _ hk=>hk.2) (.func (.func 116) #[] #[])) (fun _ hk=>hk.2) (.func (.func 117) #[] #[])) (fun _ h_=>h_.1))))) (dH (Bq HB)));replace zB:=aA.mk (Kd.bQ (Kd.MI (Kd.MI (Kd.ad3 (by(with_reducible repeat(first|apply Kd.fQ|apply Kd.fU|apply Kd.dG));exact(Kd.bQ (Kd.bK (p:=⟨uV,1,none⟩) (Kd.bK (p:=⟨uV,0,none⟩) (Kd.gB zB.out sG.out (by decide)) (fun _ hk=>hk.2) (.func (.func 116) #[] #[])) (fun _ hk=>hk.2) (.func (.func 117) #[] #[])) (fun _ h_=>h_.1))) hb) (Kd.fF ho0)) (Kd.fF ho1)) (fun _ h_=>h_.1));replace zC:=aA.mk (Kd.bQ (Kd.MI (Kd.MI (Kd.ad3 (by(with_reducible repeat(first|apply Kd.fQ|apply Kd.fU|apply Kd.dG));exact(Kd.bQ (Kd.bK (p:=⟨uV,1,none⟩) (Kd.bK (p:=⟨uV,0,none⟩) (Kd.gB zC.out sG.out (by decide)) (fun _ hk=>hk.2) (.func (.func 116) #[] #[])) (fun _ hk=>hk.2) (.func (.func 117) #[] #[])) (fun _ h_=>h_.1))) hb) (Kd.fF ho0)) (Kd.fF ho1)) (fun _ h_=>h_.1));replace kE:=aA.mk (fC (by exact bG (bG (b_ kE) afZ.out _) afZ.out _) hb);replace fO:=aA.mk (fC (by exact bG (bG (b_ fO) am9.out _) am9.out _) hb);replace pX:=aA.mk (fC (by exact bG (bG (b_ pX) anA.out _) anA.out _) hb);replace sG:=aA.mk (fC (by exact dE (cs:=#[.func (.func 116) #[] #[],.nilFunc]) (dE (cs:=#[.nilFunc,.nilFunc]) (b_ sG) 0 _ rfl) 1 _ rfl) hb);replace HB:=bs HB hb;(try clear hb);(try clear ho0);(try clear ho1))|((with_reducible refine dU (N:=7) rfl ?_);refine eX 7 #[.slice none 0 0,.slice none 0 0] 124 ?_;intro biO hg BQ hbox hb;have anD:=aA.mk (hbox);have biP:=gw hg HB;have biQ:=gw hg HB;have aLW:=nl hg kE;have aLX:=ng hg kE;have aLY:=nl hg fO;have aLZ:=ng hg fO;have aL0:=nl hg pX;have aL1:=ng hg pX;have aL2:=nl hg sG;have aL3:=ng hg sG;replace zB:=RB zB hb;replace zC:=RB zC hb;replace anB:=RB anB hb;replace anC:=RB anC hb;replace kE:=bb kE hb;replace fO:=aA.mk (fC (g:=GM) (o:=.cells #[.func (.func 114) #[] #[],.func (.func 115) #[] #[]] 173 (0,0)) (b_ fO) hb);replace pX:=bb pX hb;replace sG:=aA.mk (fC (g:=uV) (o:=.cells #[.func (.func 116) #[] #[],.func (.func 117) #[] #[]] 173 (0,0)) (b_ sG) hb);replace HB:=bs HB hb;clear hb hbox hg;obtain⟨aXL,aXM,rfl⟩:=Kd.dA anB.out;have aJ3:=aLX.out;have aJ4:=aLW.out;have aqI:=aLZ.out;have aqJ:=aLY.out;have aUV:=aL1.out;have aUW:=aL0.out;have aDG:=aL3.out;have aDH:=aL2.out;obtain⟨aJ5,aJ6⟩:=bZ anD (.slice none 0 0) (.slice none 0 0);have bdF:=aX anD.out 0;have bdG:=aX anD.out 1;obtain⟨aoC,aoJ,rfl⟩:=Kd.dA anC.out))
   go_ret
   exact eR HB
  replace c9:=Bool.eq_false_iff.mpr c9
  subst c9
  replace H:(some false)=some r:=by rw[if_neg (show ¬ (false=true) by decide)]at H;exact H
  obtain rfl:=Option.some.inj H
  go_wp2_with (first|((with_reducible refine dU (N:=6) rfl ?_);refine eX 6 #[.nilFunc,.nilFunc] 173 ?_;intro GM hg xK hbox hb;have fO:=aA.mk (hbox);have aC1:=gw hg HB;have aC2:=gw hg HB;have ab1:=nl hg kE;have awH:=ng hg kE;replace kE:=bb kE hb;replace HB:=bs HB hb;clear hb hbox hg;have aWK:=awH.out;have aWL:=ab1.out;obtain⟨aL4,aL5⟩:=bZ fO (.nilFunc) (.nilFunc);have biR:=aX fO.out 0;have biS:=aX fO.out 1;obtain⟨aXN,aXO⟩:=bZ kE (.slice aQ aG.length aK) (.slice aT aC.length aJ))|((with_reducible refine gJ (f:=100) rfl ?_);refine cE 17 Tryd.func100 #[.agg #[.func (.func 114) #[] #[],.func (.func 115) #[] #[]],.agg #[.slice aQ aG.length aK,.slice aT aC.length aJ],.int .u64 a1] ?_;refine(vX.calls k t102 t103 _ _ aG _ _ aC a1 t107 t110 true _ (Kd.bJ eU.out (Bq HB)) fK.out (Kd.bJ fB.out (Bq HB)) fM.out A6.out).mono ?_;rintro e PE ⟨aXF,aXG,rfl,ho0,ho1,hb⟩;refine⟨_,rfl,?_⟩;have zB:=aA.mk (Kd.eF ho0 (dH (Bq HB)));have zC:=aA.mk (Kd.eF ho1 (dH (Bq HB)));replace kE:=aA.mk (fC (by exact bG (bG (b_ kE) ab1.out _) ab1.out _) hb);replace fO:=aA.mk (fC (by exact dE (cs:=#[.func (.func 114) #[] #[],.nilFunc]) (dE (cs:=#[.nilFunc,.nilFunc]) (b_ fO) 0 _ rfl) 1 _ rfl) hb);replace HB:=bs HB hb;(try clear hb);(try clear ho0);(try clear ho1))|((with_reducible refine dU (N:=7) rfl ?_);refine eX 7 #[.slice none 0 0,.slice none 0 0] 124 ?_;intro WT hg AZ hbox hb;have pX:=aA.mk (hbox);have aDA:=gw hg HB;have aDB:=gw hg HB;have RQ:=nl hg kE;have awI:=ng hg kE;have RS:=nl hg fO;have awJ:=ng hg fO;replace zB:=RB zB hb;replace zC:=RB zC hb;replace kE:=bb kE hb;replace fO:=aA.mk (fC (g:=GM) (o:=.cells #[.func (.func 114) #[] #[],.func (.func 115) #[] #[]] 173 (0,0)) (b_ fO) hb);replace HB:=bs HB hb;clear hb hbox hg;obtain⟨arA,arB,rfl⟩:=Kd.dA zB.out;have aUZ:=awI.out;have aU0:=RQ.out;have aU1:=awJ.out;have aU2:=RS.out;obtain⟨aXP,aXQ⟩:=bZ pX (.slice none 0 0) (.slice none 0 0);have biT:=aX pX.out 0;have biU:=aX pX.out 1;obtain⟨MQ,MR,rfl⟩:=Kd.dA zC.out)|((with_reducible refine dU (N:=6) rfl ?_);refine eX 6 #[.nilFunc,.nilFunc] 173 ?_;intro uV hg VN hbox hb;have sG:=aA.mk (hbox);have aXJ:=gw hg HB;have aXK:=gw hg HB;have afZ:=nL hg (by exact bG (bG (b_ kE) RQ.out _) RQ.out _);have awK:=nG hg (by exact bG (bG (b_ kE) RQ.out _) RQ.out _);have am9:=nL hg (by exact bG (bG (b_ fO) RS.out _) RS.out _);have aLS:=nG hg (by exact bG (bG (b_ fO) RS.out _) RS.out _);have anA:=nL hg (by exact dE (cs:=#[.slice arA t107.length arB,.slice none 0 0]) (dE (cs:=#[.slice none 0 0,.slice none 0 0]) (b_ pX) 0 _ rfl) 1 _ rfl);have aLT:=nG hg (by exact dE (cs:=#[.slice arA t107.length arB,.slice none 0 0]) (dE (cs:=#[.slice none 0 0,.slice none 0 0]) (b_ pX) 0 _ rfl) 1 _ rfl);replace zB:=aA.mk (Kd.rY (by(with_reducible repeat(first|apply Kd.fQ|apply Kd.fU|apply Kd.dG));exact(Kd.bQ (Kd.bK (p:=⟨WT,1,none⟩) (Kd.bK (p:=⟨WT,0,none⟩) (Kd.gB zB.out pX.out (by decide)) (fun _ hk=>hk.2) (.slice arA t107.length arB)) (fun _ hk=>hk.2) (.slice MQ t110.length MR)) (fun _ h_=>h_.1))) hb);replace zC:=aA.mk (Kd.rY (by(with_reducible repeat(first|apply Kd.fQ|apply Kd.fU|apply Kd.dG));exact(Kd.bQ (Kd.bK (p:=⟨WT,1,none⟩) (Kd.bK (p:=⟨WT,0,none⟩) (Kd.gB zC.out pX.out (by decide)) (fun _ hk=>hk.2) (.slice arA t107.length arB)) (fun _ hk=>hk.2) (.slice MQ t110.length MR)) (fun _ h_=>h_.1))) hb);replace kE:=aA.mk (fC (by exact bG (bG (b_ kE) RQ.out _) RQ.out _) hb);replace fO:=aA.mk (fC (by exact bG (bG (b_ fO) RS.out _) RS.out _) hb);replace pX:=aA.mk (fC (by exact dE (cs:=#[.slice arA t107.length arB,.slice none 0 0]) (dE (cs:=#[.slice none 0 0,.slice none 0 0]) (b_ pX) 0 _ rfl) 1 _ rfl) hb);replace HB:=bs HB hb;clear hb hbox hg;have biV:=awK.out;have biW:=afZ.out;have aU5:=aLS.out;have aU6:=am9.out;have aKL:=aLT.out;have aKM:=anA.out;obtain⟨aXR,aXS⟩:=bZ sG (.nilFunc) (.nilFunc);have biX:=aX sG.out 0;have biY:=aX sG.out 1;obtain⟨biZ,bi0⟩:=bZ kE (.slice aQ aG.length aK) (.slice aT aC.length aJ))|((with_reducible refine gJ (f:=100) rfl ?_);refine cE 17 Tryd.func100 #[.agg #[.func (.func 116) #[] #[],.func (.func 117) #[] #[]],.agg #[.slice aQ aG.length aK,.slice aT aC.length aJ],.int .u64 a1] ?_;refine(uU.calls k t104 t105 _ _ aG _ _ aC a1 t116 t119 false _ (Kd.bJ eU.out (Bq HB)) fK.out (Kd.bJ fB.out (Bq HB)) fM.out A8.out).mono ?_;rintro e XI ⟨v117,biN,rfl,ho0,ho1,hb⟩;refine⟨_,rfl,?_⟩;have anB:=aA.mk (Kd.eF (Kd.fG (Kd.fG ho0 (Kd.dY (by(with_reducible repeat(first|apply Kd.fQ|apply Kd.fU|apply Kd.dG));exact(Kd.bQ (Kd.bK (p:=⟨uV,1,none⟩) (Kd.bK (p:=⟨uV,0,none⟩) (Kd.gB zB.out sG.out (by decide)) (fun _ hk=>hk.2) (.func (.func 116) #[] #[])) (fun _ hk=>hk.2) (.func (.func 117) #[] #[])) (fun _ h_=>h_.1))))) (Kd.dY (by(with_reducible repeat(first|apply Kd.fQ|apply Kd.fU|apply Kd.dG));exact(Kd.bQ (Kd.bK (p:=⟨uV,1,none⟩) (Kd.bK (p:=⟨uV,0,none⟩) (Kd.gB zC.out sG.out (by decide)) (fun _ hk=>hk.2) (.func (.func 116) #[] #[])) (fun _ hk=>hk.2) (.func (.func 117) #[] #[])) (fun _ h_=>h_.1))))) (dH (Bq HB)));have anC:=aA.mk (Kd.eF (Kd.fG (Kd.fG ho1 (Kd.dY (by(with_reducible repeat(first|apply Kd.fQ|apply Kd.fU|apply Kd.dG));exact(Kd.bQ (Kd.bK (p:=⟨uV,1,none⟩) (Kd.bK (p:=⟨uV,0,none⟩) (Kd.gB zB.out sG.out (by decide)) (fun _ hk=>hk.2) (.func (.func 116) #[] #[])) (fun _ hk=>hk.2) (.func (.func 117) #[] #[])) (fun _ h_=>h_.1))))) (Kd.dY (by(with_reducible repeat(first|apply Kd.fQ|apply Kd.fU|apply Kd.dG));exact(Kd.bQ (Kd.bK (p:=⟨uV,1,none⟩) (Kd.bK (p:=⟨uV,0,none⟩) (Kd.gB zC.out sG.out (by decide)) (fun _ hk=>hk.2) (.func (.func 116) #[] #[])) (fun _ hk=>hk.2) (.func (.func 117) #[] #[])) (fun _ h_=>h_.1))))) (dH (Bq HB)));replace zB:=aA.mk (Kd.bQ (Kd.MI (Kd.MI (Kd.ad3 (by(with_reducible repeat(first|apply Kd.fQ|apply Kd.fU|apply Kd.dG));exact(Kd.bQ (Kd.bK (p:=⟨uV,1,none⟩) (Kd.bK (p:=⟨uV,0,none⟩) (Kd.gB zB.out sG.out (by decide)) (fun _ hk=>hk.2) (.func (.func 116) #[] #[])) (fun _ hk=>hk.2) (.func (.func 117) #[] #[])) (fun _ h_=>h_.1))) hb) (Kd.fF ho0)) (Kd.fF ho1)) (fun _ h_=>h_.1));replace zC:=aA.mk (Kd.bQ (Kd.MI (Kd.MI (Kd.ad3 (by(with_reducible repeat(first|apply Kd.fQ|apply Kd.fU|apply Kd.dG));exact(Kd.bQ (Kd.bK (p:=⟨uV,1,none⟩) (Kd.bK (p:=⟨uV,0,none⟩) (Kd.gB zC.out sG.out (by decide)) (fun _ hk=>hk.2) (.func (.func 116) #[] #[])) (fun _ hk=>hk.2) (.func (.func 117) #[] #[])) (fun _ h_=>h_.1))) hb) (Kd.fF ho0)) (Kd.fF ho1)) (fun _ h_=>h_.1));replace kE:=aA.mk (fC (by exact bG (bG (b_ kE) afZ.out _) afZ.out _) hb);replace fO:=aA.mk (fC (by exact bG (bG (b_ fO) am9.out _) am9.out _) hb);replace pX:=aA.mk (fC (by exact bG (bG (b_ pX) anA.out _) anA.out _) hb);replace sG:=aA.mk (fC (by exact dE (cs:=#[.func (.func 116) #[] #[],.nilFunc]) (dE (cs:=#[.nilFunc,.nilFunc]) (b_ sG) 0 _ rfl) 1 _ rfl) hb);replace HB:=bs HB hb;(try clear hb);(try clear ho0);(try clear ho1))|((with_reducible refine dU (N:=7) rfl ?_);refine eX 7 #[.slice none 0 0,.slice none 0 0] 124 ?_;intro biO hg w54 hbox hb;have anD:=aA.mk (hbox);have biP:=gw hg HB;have biQ:=gw hg HB;have aLW:=nl hg kE;have aLX:=ng hg kE;have aLY:=nl hg fO;have aLZ:=ng hg fO;have aL0:=nl hg pX;have aL1:=ng hg pX;have aL2:=nl hg sG;have aL3:=ng hg sG;replace zB:=RB zB hb;replace zC:=RB zC hb;replace anB:=RB anB hb;replace anC:=RB anC hb;replace kE:=bb kE hb;replace fO:=aA.mk (fC (g:=GM) (o:=.cells #[.func (.func 114) #[] #[],.func (.func 115) #[] #[]] 173 (0,0)) (b_ fO) hb);replace pX:=bb pX hb;replace sG:=aA.mk (fC (g:=uV) (o:=.cells #[.func (.func 116) #[] #[],.func (.func 117) #[] #[]] 173 (0,0)) (b_ sG) hb);replace HB:=bs HB hb;clear hb hbox hg;obtain⟨Ao55,co55,rfl⟩:=Kd.dA anB.out;have beB:=aLX.out;have beC:=aLW.out;have bi2:=aLZ.out;have bi3:=aLY.out;have aVD:=aL1.out;have aVE:=aL0.out;have aVF:=aL3.out;have aVG:=aL2.out;obtain⟨aVH,aVI⟩:=bZ anD (.slice none 0 0) (.slice none 0 0);have aVJ:=aX anD.out 0;have aVK:=aX anD.out 1;obtain⟨VG,VH,rfl⟩:=Kd.dA anC.out))
  go_ret
  exact eR HB
 replace c7:=Bool.eq_false_iff.mpr c7
 subst c7
 replace H:(some false)=some r:=by rw[if_neg (show ¬ (false=true) by decide)]at H;exact H
 obtain rfl:=Option.some.inj H
 go_wp2_with (first|((with_reducible refine dU (N:=6) rfl ?_);refine eX 6 #[.nilFunc,.nilFunc] 173 ?_;intro GM hg w62 hbox hb;have fO:=aA.mk (hbox);have aC1:=gw hg HB;have aC2:=gw hg HB;have ab1:=nl hg kE;have awH:=ng hg kE;replace kE:=bb kE hb;replace HB:=bs HB hb;clear hb hbox hg;have hnb63:=awH.out;have hnc63:=ab1.out;obtain⟨hcz64_0,hcz64_1⟩:=bZ fO (.nilFunc) (.nilFunc);have hfz64_0:=aX fO.out 0;have hfz64_1:=aX fO.out 1;obtain⟨hcz65_0,hcz65_1⟩:=bZ kE (.slice aQ aG.length aK) (.slice aT aC.length aJ))|((with_reducible refine gJ (f:=100) rfl ?_);refine cE 17 Tryd.func100 #[.agg #[.func (.func 114) #[] #[],.func (.func 115) #[] #[]],.agg #[.slice aQ aG.length aK,.slice aT aC.length aJ],.int .u64 a1] ?_;refine(vX.calls k t102 t103 _ _ aG _ _ aC a1 t107 t110 false _ (Kd.bJ eU.out (Bq HB)) fK.out (Kd.bJ fB.out (Bq HB)) fM.out A6.out).mono ?_;rintro e w66 ⟨aXF,aXG,rfl,ho0,ho1,hb⟩;refine⟨_,rfl,?_⟩;have zB:=aA.mk (Kd.eF ho0 (dH (Bq HB)));have zC:=aA.mk (Kd.eF ho1 (dH (Bq HB)));replace kE:=aA.mk (fC (by exact bG (bG (b_ kE) ab1.out _) ab1.out _) hb);replace fO:=aA.mk (fC (by exact dE (cs:=#[.func (.func 114) #[] #[],.nilFunc]) (dE (cs:=#[.nilFunc,.nilFunc]) (b_ fO) 0 _ rfl) 1 _ rfl) hb);replace HB:=bs HB hb;(try clear hb);(try clear ho0);(try clear ho1))|((with_reducible refine dU (N:=7) rfl ?_);refine eX 7 #[.slice none 0 0,.slice none 0 0] 124 ?_;intro WT hg w67 hbox hb;have pX:=aA.mk (hbox);have aDA:=gw hg HB;have aDB:=gw hg HB;have RQ:=nl hg kE;have awI:=ng hg kE;have RS:=nl hg fO;have awJ:=ng hg fO;replace zB:=RB zB hb;replace zC:=RB zC hb;replace kE:=bb kE hb;replace fO:=aA.mk (fC (g:=GM) (o:=.cells #[.func (.func 114) #[] #[],.func (.func 115) #[] #[]] 173 (0,0)) (b_ fO) hb);replace HB:=bs HB hb;clear hb hbox hg;obtain⟨Ao68,co68,rfl⟩:=Kd.dA zB.out;have hnb69:=awI.out;have hnc69:=RQ.out;have bhU:=awJ.out;have bhV:=RS.out;obtain⟨aW8,aW9⟩:=bZ pX (.slice none 0 0) (.slice none 0 0);have bi5:=aX pX.out 0;have bi6:=aX pX.out 1;obtain⟨aiE,aiF,rfl⟩:=Kd.dA zC.out))
 go_ret
 exact eR HB
def aaM.f (k:Nat) (aG:List (aZ)) (aC:List (aI)):Option ((List (aH))×(List (aH))×(List (aH))×(List (aH))×Int):=(XH.f aG aC).bind fun t126=>(if t126=0 then((abZ.f).bind fun XJ=>((vX.f k XJ.1 XJ.2.1 aG aC 0).bind fun vW=>(if vW.2.2=true then((uU.f k XJ.2.2.1 XJ.2.2.2 aG aC 0).bind fun EC=>(if EC.2.2=true then(some (vW.1,vW.2.1,EC.1,EC.2.1,0))else(some (([]:List (aH)),([]:List (aH)),([]:List (aH)),([]:List (aH)),9))))else(some (([]:List (aH)),([]:List (aH)),([]:List (aH)),([]:List (aH)),9)))))else(some (([]:List (aH)),([]:List (aH)),([]:List (aH)),([]:List (aH)),t126)))
theorem aaM.calls (k:Nat) (aQ:Option Addr) (aK:Nat) (aG:List (aZ)) (aT:Option Addr) (aJ:Nat) (aC:List (aI)) (r1:List (aH)) (r2:List (aH)) (r3:List (aH)) (r4:List (aH)) (r5:Int) (w:World) (jI:Kd.C iJ w aQ aG.length aG) (jU:aG.length<=aK) (jE:Kd.C iE w aT aC.length aC) (jS:aC.length<=aJ) (h:aaM.f k aG aC=some (r1,r2,r3,r4,r5)):
    Calls Tryd.prog 67 #[.agg #[.slice aQ aG.length aK,.slice aT aC.length aJ]] w fun e w'=>∃ iG nC v2_ v3_:Value,e=.returned (.tuple #[.agg #[iG,nC,v2_,v3_],.int .i64 r5])/\Kd.R iD 42 w' w.heap.size (fun k_=>some k_≠(nC:Value).ownBlock/\some k_≠(v2_:Value).ownBlock/\some k_≠(v3_:Value).ownBlock) iG r1/\Kd.R iD 42 w' w.heap.size (fun k_=>some k_≠(iG:Value).ownBlock/\some k_≠(v2_:Value).ownBlock/\some k_≠(v3_:Value).ownBlock) nC r2/\Kd.R iD 42 w' w.heap.size (fun k_=>some k_≠(iG:Value).ownBlock/\some k_≠(nC:Value).ownBlock/\some k_≠(v3_:Value).ownBlock) v2_ r3/\Kd.R iD 42 w' w.heap.size (fun k_=>some k_≠(iG:Value).ownBlock/\some k_≠(nC:Value).ownBlock/\some k_≠(v2_:Value).ownBlock) v3_ r4/\Below w.heap.size w w':=by
 have zH:=Tryd.underlying25
 have aXT:=Tryd.underlying125
 have aKB:=Tryd.underlying173
 have aWD:=Tryd.underlying124
 have eU:=aA.mk jI
 have fK:=aA.mk jU
 clear jI jU
 have fB:=aA.mk jE
 have fM:=aA.mk jS
 clear jE jS
 have HB:=aA.mk (Below.refl w.heap.size w)
 have H:((XH.f aG aC).bind fun t126=>(if t126=0 then((abZ.f).bind fun XJ=>((vX.f k XJ.1 XJ.2.1 aG aC 0).bind fun vW=>(if vW.2.2=true then((uU.f k XJ.2.2.1 XJ.2.2.2 aG aC 0).bind fun EC=>(if EC.2.2=true then(some (vW.1,vW.2.1,EC.1,EC.2.1,0))else(some (([]:List (aH)),([]:List (aH)),([]:List (aH)),([]:List (aH)),9))))else(some (([]:List (aH)),([]:List (aH)),([]:List (aH)),([]:List (aH)),9)))))else(some (([]:List (aH)),([]:List (aH)),([]:List (aH)),([]:List (aH)),t126))))=some (r1,r2,r3,r4,r5):=h
 clear h
 replace H:=Option.bind_eq_some_iff.mp H
 obtain⟨t126,xY,H⟩:=H
 replace H:(if t126=0 then((abZ.f).bind fun XJ=>((vX.f k XJ.1 XJ.2.1 aG aC 0).bind fun vW=>(if vW.2.2=true then((uU.f k XJ.2.2.1 XJ.2.2.2 aG aC 0).bind fun EC=>(if EC.2.2=true then(some (vW.1,vW.2.1,EC.1,EC.2.1,0))else(some (([]:List (aH)),([]:List (aH)),([]:List (aH)),([]:List (aH)),9))))else(some (([]:List (aH)),([]:List (aH)),([]:List (aH)),([]:List (aH)),9)))))else(some (([]:List (aH)),([]:List (aH)),([]:List (aH)),([]:List (aH)),t126)))=some (r1,r2,r3,r4,r5):=H
 have A2:=aA.mk xY
 clear xY
 by_cases c3:t126=0
 ·rw[if_pos c3]at H
  have WU:(t126==0)=true:=beq_iff_eq.mpr c3
  have aaA:(t126 !=0)=false:=bne_eq_false_iff_eq.mpr c3
  clear c3
  replace H:=Option.bind_eq_some_iff.mp H
  obtain⟨⟨t127,t128,t129,t130⟩,vG,H⟩:=H
  replace H:((vX.f k t127 t128 aG aC 0).bind fun vW=>(if vW.2.2=true then((uU.f k t129 t130 aG aC 0).bind fun EC=>(if EC.2.2=true then(some (vW.1,vW.2.1,EC.1,EC.2.1,0))else(some (([]:List (aH)),([]:List (aH)),([]:List (aH)),([]:List (aH)),9))))else(some (([]:List (aH)),([]:List (aH)),([]:List (aH)),([]:List (aH)),9))))=some (r1,r2,r3,r4,r5):=H
  have A4:=aA.mk vG
  clear vG
  go_enter Tryd.func67,Tryd.ntmps67
  go_wp2_with (first|((with_reducible refine dU (N:=1) rfl ?_);refine eX 1 #[.slice aQ aG.length aK,.slice aT aC.length aJ] 25 ?_;intro af0 hg w5 hbox hb;have kX:=aA.mk (hbox);have bi7:=gw hg HB;have bi8:=gw hg HB;replace HB:=bs HB hb;clear hb hbox hg)|((with_reducible refine dU (N:=2) rfl ?_);refine eX 2 #[.slice none 0 0,.slice none 0 0,.slice none 0 0,.slice none 0 0] 125 ?_;intro qO hg w6 hbox hb;have gV:=aA.mk (hbox);have bi9:=gw hg HB;have bjA:=gw hg HB;have QJ:=nl hg kX;have arC:=ng hg kX;replace kX:=bb kX hb;replace HB:=bs HB hb;clear hb hbox hg;have aI3:=QJ.out;have aI4:=arC.out;obtain⟨ahD,ahE⟩:=bZ kX (.slice aQ aG.length aK) (.slice aT aC.length aJ))|((with_reducible refine gJ (f:=17) rfl ?_);refine cE 10 Tryd.func17 #[.agg #[.slice aQ aG.length aK,.slice aT aC.length aJ]] ?_;refine(XH.calls _ _ aG _ _ aC t126 _ (Kd.bJ eU.out (Bq HB)) fK.out (Kd.bJ fB.out (Bq HB)) fM.out A2.out).mono ?_;rintro e w9 ⟨rfl,hb⟩;refine⟨_,rfl,?_⟩;replace kX:=bb kX hb;replace gV:=bb gV hb;replace HB:=bs HB hb;(try clear hb))|((with_reducible refine gJ (f:=99) rfl ?_);refine cE 15 Tryd.func99 #[] ?_;(with_reducible refine(abZ.calls  t127 t128 t129 t130 _ A4.out).mono ?_);rintro e w10 ⟨rfl,hb⟩;refine⟨_,rfl,?_⟩;replace kX:=bb kX hb;replace gV:=bb gV hb;replace HB:=bs HB hb;(try clear hb)))
  refine aXE ?_
  replace H:=Option.bind_eq_some_iff.mp H
  obtain⟨⟨t132,t135,t138⟩,wJ,H⟩:=H
  replace H:(if t138=true then((uU.f k t129 t130 aG aC 0).bind fun EC=>(if EC.2.2=true then(some (t132,t135,EC.1,EC.2.1,0))else(some (([]:List (aH)),([]:List (aH)),([]:List (aH)),([]:List (aH)),9))))else(some (([]:List (aH)),([]:List (aH)),([]:List (aH)),([]:List (aH)),9)))=some (r1,r2,r3,r4,r5):=H
  have BU:=aA.mk wJ
  clear wJ
  by_cases c12:t138=true
  ·subst c12
   replace H:((uU.f k t129 t130 aG aC 0).bind fun EC=>(if EC.2.2=true then(some (t132,t135,EC.1,EC.2.1,0))else(some (([]:List (aH)),([]:List (aH)),([]:List (aH)),([]:List (aH)),9))))=some (r1,r2,r3,r4,r5):=by rw[if_pos rfl]at H;exact H
   replace H:=Option.bind_eq_some_iff.mp H
   obtain⟨⟨t141,t144,t147⟩,XK,H⟩:=H
   replace H:(if t147=true then(some (t132,t135,t141,t144,0))else(some (([]:List (aH)),([]:List (aH)),([]:List (aH)),([]:List (aH)),9)))=some (r1,r2,r3,r4,r5):=H
   have A13:=aA.mk XK
   clear XK
   by_cases c14:t147=true
   ·subst c14
    replace H:(some (t132,t135,t141,t144,0))=some (r1,r2,r3,r4,r5):=by rw[if_pos rfl]at H;exact H
    simp only[Option.some.injEq,Prod.mk.injEq]at H
    obtain⟨rfl,rfl,rfl,rfl,rfl⟩:=H
    go_wp2_with (first|((with_reducible refine dU (N:=6) rfl ?_);refine eX 6 #[.nilFunc,.nilFunc] 173 ?_;intro GY hg vY hbox hb;have kQ:=aA.mk (hbox);have aL6:=gw hg HB;have aL7:=gw hg HB;have ab2:=nl hg kX;have awN:=ng hg kX;have ab3:=nl hg gV;have RU:=ng hg gV;replace kX:=bb kX hb;replace gV:=bb gV hb;replace HB:=bs HB hb;clear hb hbox hg;have hnb16:=awN.out;have hnc16:=ab2.out;have aJZ:=RU.out;have aJ0:=ab3.out;obtain⟨OW,OX⟩:=bZ kQ (.nilFunc) (.nilFunc);have afD:=aX kQ.out 0;have afE:=aX kQ.out 1;have aJD:=QJ.out;have aJE:=arC.out;obtain⟨aqD,aqE⟩:=bZ kX (.slice aQ aG.length aK) (.slice aT aC.length aJ))|((with_reducible refine gJ (f:=100) rfl ?_);refine cE 23 Tryd.func100 #[.agg #[.func (.func 114) #[] #[],.func (.func 115) #[] #[]],.agg #[.slice aQ aG.length aK,.slice aT aC.length aJ],.int .u64 0] ?_;refine(vX.calls k t127 t128 _ _ aG _ _ aC 0 t132 t135 true _ (Kd.bJ eU.out (Bq HB)) fK.out (Kd.bJ fB.out (Bq HB)) fM.out BU.out).mono ?_;rintro e BR ⟨aL8,awO,rfl,ho0,ho1,hb⟩;refine⟨_,rfl,?_⟩;have wU:=aA.mk (Kd.eF ho0 (dH (Bq HB)));have xM:=aA.mk (Kd.eF ho1 (dH (Bq HB)));replace kX:=aA.mk (fC (by exact bG (bG (b_ kX) ab2.out _) ab2.out _) hb);replace gV:=aA.mk (fC (by exact bG (bG (b_ gV) ab3.out _) ab3.out _) hb);replace kQ:=aA.mk (fC (by exact dE (cs:=#[.func (.func 114) #[] #[],.nilFunc]) (dE (cs:=#[.nilFunc,.nilFunc]) (b_ kQ) 0 _ rfl) 1 _ rfl) hb);replace HB:=bs HB hb;(try clear hb);(try clear ho0);(try clear ho1))|((with_reducible refine dU (N:=7) rfl ?_);refine eX 7 #[.slice none 0 0,.slice none 0 0] 124 ?_;intro QK hg AU hbox hb;have vN:=aA.mk (hbox);have aXU:=gw hg HB;have aXV:=gw hg HB;have RV:=nl hg kX;have awP:=ng hg kX;have PG:=nl hg gV;have RX:=ng hg gV;have RY:=nl hg kQ;have awQ:=ng hg kQ;replace wU:=RB wU hb;replace xM:=RB xM hb;replace kX:=bb kX hb;replace gV:=bb gV hb;replace kQ:=aA.mk (fC (g:=GY) (o:=.cells #[.func (.func 114) #[] #[],.func (.func 115) #[] #[]] 173 (0,0)) (b_ kQ) hb);replace HB:=bs HB hb;clear hb hbox hg;obtain⟨qG,qA,rfl⟩:=Kd.dA wU.out;have aLU:=awP.out;have aLV:=RV.out;have bgX:=RX.out;have bgY:=PG.out;have bc9:=awQ.out;have bdA:=RY.out;obtain⟨aL9,aMA⟩:=bZ vN (.slice none 0 0) (.slice none 0 0);have bjB:=aX vN.out 0;have bjC:=aX vN.out 1;obtain⟨ED,EE,rfl⟩:=Kd.dA xM.out;obtain⟨aqG,aqH⟩:=bZ gV (.slice none 0 0) (.slice none 0 0);have bdB:=kd gV 2 (.slice none 0 0);have bdC:=kd gV 3 (.slice none 0 0);have aJ1:=aX gV.out 0;have aJ2:=aX gV.out 1;have bdD:=aX gV.out 2;have bdE:=aX gV.out 3)|((with_reducible refine dU (N:=6) rfl ?_);refine eX 6 #[.nilFunc,.nilFunc] 173 ?_;intro rH hg uF hbox hb;have wV:=aA.mk (hbox);have bjD:=gw hg HB;have bjE:=gw hg HB;have anF:=aA.mk ((by rw[hg];exact Nat.ne_of_lt (AO (g:=af0) (o:=.cells #[.slice aQ aG.length aK,.slice aT aC.length aJ] 25 (0,0)) (by exact bG (bG (bG (bG (b_ kX) RV.out _) RV.out _) QJ.out _) QJ.out _)):af0≠rH));have aMB:=aA.mk ((by rw[hg];exact Nat.ne_of_gt (AO (g:=af0) (o:=.cells #[.slice aQ aG.length aK,.slice aT aC.length aJ] 25 (0,0)) (by exact bG (bG (bG (bG (b_ kX) RV.out _) RV.out _) QJ.out _) QJ.out _)):rH≠af0));have anG:=aA.mk ((by rw[hg];exact Nat.ne_of_lt (AO (g:=qO) (o:=.cells #[.slice qG t132.length qA,.slice ED t135.length EE,.slice none 0 0,.slice none 0 0] 125 (0,0)) (by exact dE (cs:=#[.slice qG t132.length qA,.slice none 0 0,.slice none 0 0,.slice none 0 0]) (dE (cs:=#[.slice none 0 0,.slice none 0 0,.slice none 0 0,.slice none 0 0]) (bG (bG (b_ gV) PG.out _) PG.out _) 0 _ rfl) 1 _ rfl)):qO≠rH));have aMC:=aA.mk ((by rw[hg];exact Nat.ne_of_gt (AO (g:=qO) (o:=.cells #[.slice qG t132.length qA,.slice ED t135.length EE,.slice none 0 0,.slice none 0 0] 125 (0,0)) (by exact dE (cs:=#[.slice qG t132.length qA,.slice none 0 0,.slice none 0 0,.slice none 0 0]) (dE (cs:=#[.slice none 0 0,.slice none 0 0,.slice none 0 0,.slice none 0 0]) (bG (bG (b_ gV) PG.out _) PG.out _) 0 _ rfl) 1 _ rfl)):rH≠qO));have anH:=aA.mk ((by rw[hg];exact Nat.ne_of_lt (AO (g:=GY) (o:=.cells #[.func (.func 114) #[] #[],.func (.func 115) #[] #[]] 173 (0,0)) (by exact bG (bG (bG (bG (b_ kQ) RY.out _) RY.out _) RU.out _) RU.out _)):GY≠rH));have aMD:=aA.mk ((by rw[hg];exact Nat.ne_of_gt (AO (g:=GY) (o:=.cells #[.func (.func 114) #[] #[],.func (.func 115) #[] #[]] 173 (0,0)) (by exact bG (bG (bG (bG (b_ kQ) RY.out _) RY.out _) RU.out _) RU.out _)):rH≠GY));have anI:=aA.mk ((by rw[hg];exact Nat.ne_of_lt (AO (g:=QK) (o:=.cells #[.slice qG t132.length qA,.slice ED t135.length EE] 124 (0,0)) (by exact bG (bG (dE (cs:=#[.slice qG t132.length qA,.slice none 0 0]) (dE (cs:=#[.slice none 0 0,.slice none 0 0]) (b_ vN) 0 _ rfl) 1 _ rfl) RX.out _) RX.out _)):QK≠rH));have aME:=aA.mk ((by rw[hg];exact Nat.ne_of_gt (AO (g:=QK) (o:=.cells #[.slice qG t132.length qA,.slice ED t135.length EE] 124 (0,0)) (by exact bG (bG (dE (cs:=#[.slice qG t132.length qA,.slice none 0 0]) (dE (cs:=#[.slice none 0 0,.slice none 0 0]) (b_ vN) 0 _ rfl) 1 _ rfl) RX.out _) RX.out _)):rH≠QK));replace wU:=aA.mk (Kd.rY (by(with_reducible repeat(first|apply Kd.fQ|apply Kd.fU|apply Kd.dG));exact(Kd.bQ (Kd.bQ (Kd.bK (p:=⟨qO,1,none⟩) (Kd.bK (p:=⟨qO,0,none⟩) (Kd.bK (p:=⟨QK,1,none⟩) (Kd.bK (p:=⟨QK,0,none⟩) (Kd.gB (Kd.gB wU.out vN.out (by decide)) gV.out (by decide)) (fun _ hk=>hk.1.2) (.slice qG t132.length qA)) (fun _ hk=>hk.1.2) (.slice ED t135.length EE)) (fun _ hk=>hk.2) (.slice qG t132.length qA)) (fun _ hk=>hk.2) (.slice ED t135.length EE)) (fun _ h_=>h_.1)) (fun _ h_=>h_.1))) hb);replace xM:=aA.mk (Kd.rY (by(with_reducible repeat(first|apply Kd.fQ|apply Kd.fU|apply Kd.dG));exact(Kd.bQ (Kd.bQ (Kd.bK (p:=⟨qO,1,none⟩) (Kd.bK (p:=⟨qO,0,none⟩) (Kd.bK (p:=⟨QK,1,none⟩) (Kd.bK (p:=⟨QK,0,none⟩) (Kd.gB (Kd.gB xM.out vN.out (by decide)) gV.out (by decide)) (fun _ hk=>hk.1.2) (.slice qG t132.length qA)) (fun _ hk=>hk.1.2) (.slice ED t135.length EE)) (fun _ hk=>hk.2) (.slice qG t132.length qA)) (fun _ hk=>hk.2) (.slice ED t135.length EE)) (fun _ h_=>h_.1)) (fun _ h_=>h_.1))) hb);replace kX:=aA.mk (fC (by exact bG (bG (bG (bG (b_ kX) RV.out _) RV.out _) QJ.out _) QJ.out _) hb);replace gV:=aA.mk (fC (by exact dE (cs:=#[.slice qG t132.length qA,.slice none 0 0,.slice none 0 0,.slice none 0 0]) (dE (cs:=#[.slice none 0 0,.slice none 0 0,.slice none 0 0,.slice none 0 0]) (bG (bG (b_ gV) PG.out _) PG.out _) 0 _ rfl) 1 _ rfl) hb);replace kQ:=aA.mk (fC (by exact bG (bG (bG (bG (b_ kQ) RY.out _) RY.out _) RU.out _) RU.out _) hb);replace vN:=aA.mk (fC (by exact bG (bG (dE (cs:=#[.slice qG t132.length qA,.slice none 0 0]) (dE (cs:=#[.slice none 0 0,.slice none 0 0]) (b_ vN) 0 _ rfl) 1 _ rfl) RX.out _) RX.out _) hb);replace HB:=bs HB hb;clear hb hbox hg;have aqI:=aMB.out;have aqJ:=anF.out;have aUV:=aMC.out;have aUW:=anG.out;have aDG:=aMD.out;have aDH:=anH.out;have bdV:=aME.out;have bdW:=anI.out;obtain⟨aKH,aKI⟩:=bZ wV (.nilFunc) (.nilFunc);have bdX:=aX wV.out 0;have bdY:=aX wV.out 1;obtain⟨aDI,aDJ⟩:=bZ kX (.slice aQ aG.length aK) (.slice aT aC.length aJ))|((with_reducible refine gJ (f:=100) rfl ?_);refine cE 23 Tryd.func100 #[.agg #[.func (.func 116) #[] #[],.func (.func 117) #[] #[]],.agg #[.slice aQ aG.length aK,.slice aT aC.length aJ],.int .u64 0] ?_;refine(uU.calls k t129 t130 _ _ aG _ _ aC 0 t141 t144 true _ (Kd.bJ eU.out (Bq HB)) fK.out (Kd.bJ fB.out (Bq HB)) fM.out A13.out).mono ?_;rintro e BO ⟨aEP,v145,rfl,ho0,ho1,hb⟩;refine⟨_,rfl,?_⟩;have UF:=aA.mk (Kd.eF (Kd.fG (Kd.fG ho0 (Kd.dY (by(with_reducible repeat(first|apply Kd.fQ|apply Kd.fU|apply Kd.dG));exact(Kd.bQ (Kd.bK (p:=⟨rH,1,none⟩) (Kd.bK (p:=⟨rH,0,none⟩) (Kd.gB wU.out wV.out (by decide)) (fun _ hk=>hk.2) (.func (.func 116) #[] #[])) (fun _ hk=>hk.2) (.func (.func 117) #[] #[])) (fun _ h_=>h_.1))))) (Kd.dY (by(with_reducible repeat(first|apply Kd.fQ|apply Kd.fU|apply Kd.dG));exact(Kd.bQ (Kd.bK (p:=⟨rH,1,none⟩) (Kd.bK (p:=⟨rH,0,none⟩) (Kd.gB xM.out wV.out (by decide)) (fun _ hk=>hk.2) (.func (.func 116) #[] #[])) (fun _ hk=>hk.2) (.func (.func 117) #[] #[])) (fun _ h_=>h_.1))))) (dH (Bq HB)));have aiG:=aA.mk (Kd.eF (Kd.fG (Kd.fG ho1 (Kd.dY (by(with_reducible repeat(first|apply Kd.fQ|apply Kd.fU|apply Kd.dG));exact(Kd.bQ (Kd.bK (p:=⟨rH,1,none⟩) (Kd.bK (p:=⟨rH,0,none⟩) (Kd.gB wU.out wV.out (by decide)) (fun _ hk=>hk.2) (.func (.func 116) #[] #[])) (fun _ hk=>hk.2) (.func (.func 117) #[] #[])) (fun _ h_=>h_.1))))) (Kd.dY (by(with_reducible repeat(first|apply Kd.fQ|apply Kd.fU|apply Kd.dG));exact(Kd.bQ (Kd.bK (p:=⟨rH,1,none⟩) (Kd.bK (p:=⟨rH,0,none⟩) (Kd.gB xM.out wV.out (by decide)) (fun _ hk=>hk.2) (.func (.func 116) #[] #[])) (fun _ hk=>hk.2) (.func (.func 117) #[] #[])) (fun _ h_=>h_.1))))) (dH (Bq HB)));replace wU:=aA.mk (Kd.bQ (Kd.MI (Kd.MI (Kd.ad3 (by(with_reducible repeat(first|apply Kd.fQ|apply Kd.fU|apply Kd.dG));exact(Kd.bQ (Kd.bK (p:=⟨rH,1,none⟩) (Kd.bK (p:=⟨rH,0,none⟩) (Kd.gB wU.out wV.out (by decide)) (fun _ hk=>hk.2) (.func (.func 116) #[] #[])) (fun _ hk=>hk.2) (.func (.func 117) #[] #[])) (fun _ h_=>h_.1))) hb) (Kd.fF ho0)) (Kd.fF ho1)) (fun _ h_=>h_.1));replace xM:=aA.mk (Kd.bQ (Kd.MI (Kd.MI (Kd.ad3 (by(with_reducible repeat(first|apply Kd.fQ|apply Kd.fU|apply Kd.dG));exact(Kd.bQ (Kd.bK (p:=⟨rH,1,none⟩) (Kd.bK (p:=⟨rH,0,none⟩) (Kd.gB xM.out wV.out (by decide)) (fun _ hk=>hk.2) (.func (.func 116) #[] #[])) (fun _ hk=>hk.2) (.func (.func 117) #[] #[])) (fun _ h_=>h_.1))) hb) (Kd.fF ho0)) (Kd.fF ho1)) (fun _ h_=>h_.1));replace kX:=aA.mk (fC (by exact bG (bG (b_ kX) anF.out _) anF.out _) hb);replace gV:=aA.mk (fC (by exact bG (bG (b_ gV) anG.out _) anG.out _) hb);replace kQ:=aA.mk (fC (by exact bG (bG (b_ kQ) anH.out _) anH.out _) hb);replace vN:=aA.mk (fC (by exact bG (bG (b_ vN) anI.out _) anI.out _) hb);replace wV:=aA.mk (fC (by exact dE (cs:=#[.func (.func 116) #[] #[],.nilFunc]) (dE (cs:=#[.nilFunc,.nilFunc]) (b_ wV) 0 _ rfl) 1 _ rfl) hb);replace HB:=bs HB hb;(try clear hb);(try clear ho0);(try clear ho1))|((with_reducible refine dU (N:=7) rfl ?_);refine eX 7 #[.slice none 0 0,.slice none 0 0] 124 ?_;intro vM hg AX hbox hb;have dC:=aA.mk (hbox);have aK6:=gw hg HB;have aK7:=gw hg HB;have aMF:=nl hg kX;have aMG:=ng hg kX;have anJ:=nl hg gV;have aMH:=ng hg gV;have aMI:=nl hg kQ;have aMJ:=ng hg kQ;have aMK:=nl hg vN;have aML:=ng hg vN;have aMM:=nl hg wV;have aMN:=ng hg wV;replace wU:=RB wU hb;replace xM:=RB xM hb;replace UF:=RB UF hb;replace aiG:=RB aiG hb;replace kX:=bb kX hb;replace gV:=bb gV hb;replace kQ:=aA.mk (fC (g:=GY) (o:=.cells #[.func (.func 114) #[] #[],.func (.func 115) #[] #[]] 173 (0,0)) (b_ kQ) hb);replace vN:=bb vN hb;replace wV:=aA.mk (fC (g:=rH) (o:=.cells #[.func (.func 116) #[] #[],.func (.func 117) #[] #[]] 173 (0,0)) (b_ wV) hb);replace HB:=bs HB hb;clear hb hbox hg;obtain⟨MS,MV,rfl⟩:=Kd.dA UF.out;have bjF:=aMG.out;have bjG:=aMF.out;have bjH:=aMH.out;have bjI:=anJ.out;have hnb42:=aMJ.out;have hnc42:=aMI.out;have aUZ:=aML.out;have aU0:=aMK.out;have aU1:=aMN.out;have aU2:=aMM.out;obtain⟨aXP,aXQ⟩:=bZ dC (.slice none 0 0) (.slice none 0 0);have biT:=aX dC.out 0;have biU:=aX dC.out 1;obtain⟨MQ,MR,rfl⟩:=Kd.dA aiG.out;obtain⟨aU3,aU4⟩:=bZ gV (.slice qG t132.length qA) (.slice ED t135.length EE);have bd1:=kd gV 2 (.slice none 0 0);have bd2:=kd gV 3 (.slice none 0 0);have bd3:=aX gV.out 0;have bd4:=aX gV.out 1;have bd5:=aX gV.out 2;have bd6:=aX gV.out 3))
    refine bodyPost_ret (apY rfl _ _ qO 125 #[.slice qG t132.length qA,.slice ED t135.length EE,.slice MS t141.length MV,.slice MQ t144.length MR] (0,0) _ rfl (by exact dE (cs:=#[.slice qG t132.length qA,.slice ED t135.length EE,.slice MS t141.length MV,.slice MQ t144.length MR]) (dE (cs:=#[.slice qG t132.length qA,.slice ED t135.length EE,.slice MS t141.length MV,.slice MQ t144.length MR]) (dE (cs:=#[.slice qG t132.length qA,.slice ED t135.length EE,.slice MS t141.length MV,.slice MQ t144.length MR]) (dE (cs:=#[.slice qG t132.length qA,.slice ED t135.length EE,.slice MS t141.length MV,.slice MQ t144.length MR]) (dE (cs:=#[.slice qG t132.length qA,.slice ED t135.length EE,.slice MS t141.length MV,.slice none 0 0]) (dE (cs:=#[.slice qG t132.length qA,.slice ED t135.length EE,.slice none 0 0,.slice none 0 0]) (bG (bG (b_ gV) anJ.out _) anJ.out _) 2 _ rfl) 3 _ rfl) 0 _ rfl) 1 _ rfl) 2 _ rfl) 3 _ rfl) Tryd.underlying125 rfl (by kernel_rfl)) rfl ?_
    exact⟨_,_,_,_,by first|rfl|(simp[iU,iV]<;>rfl)|(simp[*,iU,iV]<;>rfl),by(with_reducible repeat(first|apply Kd.fQ|apply Kd.fU|apply Kd.dG));exact Kd.bQ (Kd.bK (p:=⟨qO,3,none⟩) (Kd.bK (p:=⟨qO,2,none⟩) (Kd.bK (p:=⟨qO,1,none⟩) (Kd.bK (p:=⟨qO,0,none⟩) (Kd.bK (p:=⟨qO,3,none⟩) (Kd.bK (p:=⟨qO,2,none⟩) (Kd.bK (p:=⟨vM,1,none⟩) (Kd.bK (p:=⟨vM,0,none⟩) (Kd.gB (Kd.gB wU.out dC.out (by decide)) gV.out (by decide)) (fun _ hk=>hk.1.2) (.slice MS t141.length MV)) (fun _ hk=>hk.1.2) (.slice MQ t144.length MR)) (fun _ hk=>hk.2) (.slice MS t141.length MV)) (fun _ hk=>hk.2) (.slice MQ t144.length MR)) (fun _ hk=>hk.2) (.slice qG t132.length qA)) (fun _ hk=>hk.2) (.slice ED t135.length EE)) (fun _ hk=>hk.2) (.slice MS t141.length MV)) (fun _ hk=>hk.2) (.slice MQ t144.length MR)) (fun _ hk=>⟨hk.1.1.1.1,⟨hk.1.1.1.2,hk.1.1.2⟩⟩),by(with_reducible repeat(first|apply Kd.fQ|apply Kd.fU|apply Kd.dG));exact Kd.bQ (Kd.bK (p:=⟨qO,3,none⟩) (Kd.bK (p:=⟨qO,2,none⟩) (Kd.bK (p:=⟨qO,1,none⟩) (Kd.bK (p:=⟨qO,0,none⟩) (Kd.bK (p:=⟨qO,3,none⟩) (Kd.bK (p:=⟨qO,2,none⟩) (Kd.bK (p:=⟨vM,1,none⟩) (Kd.bK (p:=⟨vM,0,none⟩) (Kd.gB (Kd.gB xM.out dC.out (by decide)) gV.out (by decide)) (fun _ hk=>hk.1.2) (.slice MS t141.length MV)) (fun _ hk=>hk.1.2) (.slice MQ t144.length MR)) (fun _ hk=>hk.2) (.slice MS t141.length MV)) (fun _ hk=>hk.2) (.slice MQ t144.length MR)) (fun _ hk=>hk.2) (.slice qG t132.length qA)) (fun _ hk=>hk.2) (.slice ED t135.length EE)) (fun _ hk=>hk.2) (.slice MS t141.length MV)) (fun _ hk=>hk.2) (.slice MQ t144.length MR)) (fun _ hk=>⟨hk.1.1.1.1,⟨hk.1.1.1.2,hk.1.1.2⟩⟩),by(with_reducible repeat(first|apply Kd.fQ|apply Kd.fU|apply Kd.dG));exact Kd.bQ (Kd.bK (p:=⟨qO,3,none⟩) (Kd.bK (p:=⟨qO,2,none⟩) (Kd.bK (p:=⟨qO,1,none⟩) (Kd.bK (p:=⟨qO,0,none⟩) (Kd.bK (p:=⟨qO,3,none⟩) (Kd.bK (p:=⟨qO,2,none⟩) (Kd.bK (p:=⟨vM,1,none⟩) (Kd.bK (p:=⟨vM,0,none⟩) (Kd.gB (Kd.gB UF.out dC.out (by decide)) gV.out (by decide)) (fun _ hk=>hk.1.2) (.slice MS t141.length MV)) (fun _ hk=>hk.1.2) (.slice MQ t144.length MR)) (fun _ hk=>hk.2) (.slice MS t141.length MV)) (fun _ hk=>hk.2) (.slice MQ t144.length MR)) (fun _ hk=>hk.2) (.slice qG t132.length qA)) (fun _ hk=>hk.2) (.slice ED t135.length EE)) (fun _ hk=>hk.2) (.slice MS t141.length MV)) (fun _ hk=>hk.2) (.slice MQ t144.length MR)) (fun _ hk=>⟨hk.1.1.1.2,⟨hk.1.1.2,hk.1.1.1.1⟩⟩),by(with_reducible repeat(first|apply Kd.fQ|apply Kd.fU|apply Kd.dG));exact Kd.bQ (Kd.bK (p:=⟨qO,3,none⟩) (Kd.bK (p:=⟨qO,2,none⟩) (Kd.bK (p:=⟨qO,1,none⟩) (Kd.bK (p:=⟨qO,0,none⟩) (Kd.bK (p:=⟨qO,3,none⟩) (Kd.bK (p:=⟨qO,2,none⟩) (Kd.bK (p:=⟨vM,1,none⟩) (Kd.bK (p:=⟨vM,0,none⟩) (Kd.gB (Kd.gB aiG.out dC.out (by decide)) gV.out (by decide)) (fun _ hk=>hk.1.2) (.slice MS t141.length MV)) (fun _ hk=>hk.1.2) (.slice MQ t144.length MR)) (fun _ hk=>hk.2) (.slice MS t141.length MV)) (fun _ hk=>hk.2) (.slice MQ t144.length MR)) (fun _ hk=>hk.2) (.slice qG t132.length qA)) (fun _ hk=>hk.2) (.slice ED t135.length EE)) (fun _ hk=>hk.2) (.slice MS t141.length MV)) (fun _ hk=>hk.2) (.slice MQ t144.length MR)) (fun _ hk=>⟨hk.1.1.1.2,⟨hk.1.1.2,hk.1.1.1.1⟩⟩),Bq HB⟩
   replace c14:=Bool.eq_false_iff.mpr c14
   subst c14
   replace H:(some (([]:List (aH)),([]:List (aH)),([]:List (aH)),([]:List (aH)),9))=some (r1,r2,r3,r4,r5):=by rw[if_neg (show ¬ (false=true) by decide)]at H;exact H
   simp only[Option.some.injEq,Prod.mk.injEq]at H
   obtain⟨rfl,rfl,rfl,rfl,rfl⟩:=H
   go_wp2_with (first|((with_reducible refine dU (N:=6) rfl ?_);refine eX 6 #[.nilFunc,.nilFunc] 173 ?_;intro GY hg TW hbox hb;have kQ:=aA.mk (hbox);have aL6:=gw hg HB;have aL7:=gw hg HB;have ab2:=nl hg kX;have awN:=ng hg kX;have ab3:=nl hg gV;have RU:=ng hg gV;replace kX:=bb kX hb;replace gV:=bb gV hb;replace HB:=bs HB hb;clear hb hbox hg;have aU5:=awN.out;have aU6:=ab2.out;have aKL:=RU.out;have aKM:=ab3.out;obtain⟨aXR,aXS⟩:=bZ kQ (.nilFunc) (.nilFunc);have biX:=aX kQ.out 0;have biY:=aX kQ.out 1;have aU9:=QJ.out;have aVA:=arC.out;obtain⟨aVB,aVC⟩:=bZ kX (.slice aQ aG.length aK) (.slice aT aC.length aJ))|((with_reducible refine gJ (f:=100) rfl ?_);refine cE 23 Tryd.func100 #[.agg #[.func (.func 114) #[] #[],.func (.func 115) #[] #[]],.agg #[.slice aQ aG.length aK,.slice aT aC.length aJ],.int .u64 0] ?_;refine(vX.calls k t127 t128 _ _ aG _ _ aC 0 t132 t135 true _ (Kd.bJ eU.out (Bq HB)) fK.out (Kd.bJ fB.out (Bq HB)) fM.out BU.out).mono ?_;rintro e w54 ⟨aL8,awO,rfl,ho0,ho1,hb⟩;refine⟨_,rfl,?_⟩;have wU:=aA.mk (Kd.eF ho0 (dH (Bq HB)));have xM:=aA.mk (Kd.eF ho1 (dH (Bq HB)));replace kX:=aA.mk (fC (by exact bG (bG (b_ kX) ab2.out _) ab2.out _) hb);replace gV:=aA.mk (fC (by exact bG (bG (b_ gV) ab3.out _) ab3.out _) hb);replace kQ:=aA.mk (fC (by exact dE (cs:=#[.func (.func 114) #[] #[],.nilFunc]) (dE (cs:=#[.nilFunc,.nilFunc]) (b_ kQ) 0 _ rfl) 1 _ rfl) hb);replace HB:=bs HB hb;(try clear hb);(try clear ho0);(try clear ho1))|((with_reducible refine dU (N:=7) rfl ?_);refine eX 7 #[.slice none 0 0,.slice none 0 0] 124 ?_;intro QK hg w55 hbox hb;have vN:=aA.mk (hbox);have aXU:=gw hg HB;have aXV:=gw hg HB;have RV:=nl hg kX;have awP:=ng hg kX;have PG:=nl hg gV;have RX:=ng hg gV;have RY:=nl hg kQ;have awQ:=ng hg kQ;replace wU:=RB wU hb;replace xM:=RB xM hb;replace kX:=bb kX hb;replace gV:=bb gV hb;replace kQ:=aA.mk (fC (g:=GY) (o:=.cells #[.func (.func 114) #[] #[],.func (.func 115) #[] #[]] 173 (0,0)) (b_ kQ) hb);replace HB:=bs HB hb;clear hb hbox hg;obtain⟨UG,UH,rfl⟩:=Kd.dA wU.out;have bi2:=awP.out;have bi3:=RV.out;have aVD:=RX.out;have aVE:=PG.out;have aVF:=awQ.out;have aVG:=RY.out;obtain⟨aVH,aVI⟩:=bZ vN (.slice none 0 0) (.slice none 0 0);have aVJ:=aX vN.out 0;have aVK:=aX vN.out 1;obtain⟨VG,VH,rfl⟩:=Kd.dA xM.out;obtain⟨bjJ,bjK⟩:=bZ gV (.slice none 0 0) (.slice none 0 0);have hcz62_2:=kd gV 2 (.slice none 0 0);have hcz62_3:=kd gV 3 (.slice none 0 0);have hfz62_0:=aX gV.out 0;have hfz62_1:=aX gV.out 1;have hfz62_2:=aX gV.out 2;have hfz62_3:=aX gV.out 3)|((with_reducible refine dU (N:=6) rfl ?_);refine eX 6 #[.nilFunc,.nilFunc] 173 ?_;intro rH hg w63 hbox hb;have wV:=aA.mk (hbox);have bjD:=gw hg HB;have bjE:=gw hg HB;have anF:=aA.mk ((by rw[hg];exact Nat.ne_of_lt (AO (g:=af0) (o:=.cells #[.slice aQ aG.length aK,.slice aT aC.length aJ] 25 (0,0)) (by exact bG (bG (bG (bG (b_ kX) RV.out _) RV.out _) QJ.out _) QJ.out _)):af0≠rH));have aMB:=aA.mk ((by rw[hg];exact Nat.ne_of_gt (AO (g:=af0) (o:=.cells #[.slice aQ aG.length aK,.slice aT aC.length aJ] 25 (0,0)) (by exact bG (bG (bG (bG (b_ kX) RV.out _) RV.out _) QJ.out _) QJ.out _)):rH≠af0));have anG:=aA.mk ((by rw[hg];exact Nat.ne_of_lt (AO (g:=qO) (o:=.cells #[.slice UG t132.length UH,.slice VG t135.length VH,.slice none 0 0,.slice none 0 0] 125 (0,0)) (by exact dE (cs:=#[.slice UG t132.length UH,.slice none 0 0,.slice none 0 0,.slice none 0 0]) (dE (cs:=#[.slice none 0 0,.slice none 0 0,.slice none 0 0,.slice none 0 0]) (bG (bG (b_ gV) PG.out _) PG.out _) 0 _ rfl) 1 _ rfl)):qO≠rH));have aMC:=aA.mk ((by rw[hg];exact Nat.ne_of_gt (AO (g:=qO) (o:=.cells #[.slice UG t132.length UH,.slice VG t135.length VH,.slice none 0 0,.slice none 0 0] 125 (0,0)) (by exact dE (cs:=#[.slice UG t132.length UH,.slice none 0 0,.slice none 0 0,.slice none 0 0]) (dE (cs:=#[.slice none 0 0,.slice none 0 0,.slice none 0 0,.slice none 0 0]) (bG (bG (b_ gV) PG.out _) PG.out _) 0 _ rfl) 1 _ rfl)):rH≠qO));have anH:=aA.mk ((by rw[hg];exact Nat.ne_of_lt (AO (g:=GY) (o:=.cells #[.func (.func 114) #[] #[],.func (.func 115) #[] #[]] 173 (0,0)) (by exact bG (bG (bG (bG (b_ kQ) RY.out _) RY.out _) RU.out _) RU.out _)):GY≠rH));have aMD:=aA.mk ((by rw[hg];exact Nat.ne_of_gt (AO (g:=GY) (o:=.cells #[.func (.func 114) #[] #[],.func (.func 115) #[] #[]] 173 (0,0)) (by exact bG (bG (bG (bG (b_ kQ) RY.out _) RY.out _) RU.out _) RU.out _)):rH≠GY));have anI:=aA.mk ((by rw[hg];exact Nat.ne_of_lt (AO (g:=QK) (o:=.cells #[.slice UG t132.length UH,.slice VG t135.length VH] 124 (0,0)) (by exact bG (bG (dE (cs:=#[.slice UG t132.length UH,.slice none 0 0]) (dE (cs:=#[.slice none 0 0,.slice none 0 0]) (b_ vN) 0 _ rfl) 1 _ rfl) RX.out _) RX.out _)):QK≠rH));have aME:=aA.mk ((by rw[hg];exact Nat.ne_of_gt (AO (g:=QK) (o:=.cells #[.slice UG t132.length UH,.slice VG t135.length VH] 124 (0,0)) (by exact bG (bG (dE (cs:=#[.slice UG t132.length UH,.slice none 0 0]) (dE (cs:=#[.slice none 0 0,.slice none 0 0]) (b_ vN) 0 _ rfl) 1 _ rfl) RX.out _) RX.out _)):rH≠QK));replace wU:=aA.mk (Kd.rY (by(with_reducible repeat(first|apply Kd.fQ|apply Kd.fU|apply Kd.dG));exact(Kd.bQ (Kd.bQ (Kd.bK (p:=⟨qO,1,none⟩) (Kd.bK (p:=⟨qO,0,none⟩) (Kd.bK (p:=⟨QK,1,none⟩) (Kd.bK (p:=⟨QK,0,none⟩) (Kd.gB (Kd.gB wU.out vN.out (by decide)) gV.out (by decide)) (fun _ hk=>hk.1.2) (.slice UG t132.length UH)) (fun _ hk=>hk.1.2) (.slice VG t135.length VH)) (fun _ hk=>hk.2) (.slice UG t132.length UH)) (fun _ hk=>hk.2) (.slice VG t135.length VH)) (fun _ h_=>h_.1)) (fun _ h_=>h_.1))) hb);replace xM:=aA.mk (Kd.rY (by(with_reducible repeat(first|apply Kd.fQ|apply Kd.fU|apply Kd.dG));exact(Kd.bQ (Kd.bQ (Kd.bK (p:=⟨qO,1,none⟩) (Kd.bK (p:=⟨qO,0,none⟩) (Kd.bK (p:=⟨QK,1,none⟩) (Kd.bK (p:=⟨QK,0,none⟩) (Kd.gB (Kd.gB xM.out vN.out (by decide)) gV.out (by decide)) (fun _ hk=>hk.1.2) (.slice UG t132.length UH)) (fun _ hk=>hk.1.2) (.slice VG t135.length VH)) (fun _ hk=>hk.2) (.slice UG t132.length UH)) (fun _ hk=>hk.2) (.slice VG t135.length VH)) (fun _ h_=>h_.1)) (fun _ h_=>h_.1))) hb);replace kX:=aA.mk (fC (by exact bG (bG (bG (bG (b_ kX) RV.out _) RV.out _) QJ.out _) QJ.out _) hb);replace gV:=aA.mk (fC (by exact dE (cs:=#[.slice UG t132.length UH,.slice none 0 0,.slice none 0 0,.slice none 0 0]) (dE (cs:=#[.slice none 0 0,.slice none 0 0,.slice none 0 0,.slice none 0 0]) (bG (bG (b_ gV) PG.out _) PG.out _) 0 _ rfl) 1 _ rfl) hb);replace kQ:=aA.mk (fC (by exact bG (bG (bG (bG (b_ kQ) RY.out _) RY.out _) RU.out _) RU.out _) hb);replace vN:=aA.mk (fC (by exact bG (bG (dE (cs:=#[.slice UG t132.length UH,.slice none 0 0]) (dE (cs:=#[.slice none 0 0,.slice none 0 0]) (b_ vN) 0 _ rfl) 1 _ rfl) RX.out _) RX.out _) hb);replace HB:=bs HB hb;clear hb hbox hg;have hnb64:=aMB.out;have hnc64:=anF.out;have hnb65:=aMC.out;have hnc65:=anG.out;have hnb66:=aMD.out;have hnc66:=anH.out;have aW6:=aME.out;have aW7:=anI.out;obtain⟨bjL,bjM⟩:=bZ wV (.nilFunc) (.nilFunc);have bjN:=aX wV.out 0;have bjO:=aX wV.out 1;obtain⟨bhS,bhT⟩:=bZ kX (.slice aQ aG.length aK) (.slice aT aC.length aJ))|((with_reducible refine gJ (f:=100) rfl ?_);refine cE 23 Tryd.func100 #[.agg #[.func (.func 116) #[] #[],.func (.func 117) #[] #[]],.agg #[.slice aQ aG.length aK,.slice aT aC.length aJ],.int .u64 0] ?_;refine(uU.calls k t129 t130 _ _ aG _ _ aC 0 t141 t144 false _ (Kd.bJ eU.out (Bq HB)) fK.out (Kd.bJ fB.out (Bq HB)) fM.out A13.out).mono ?_;rintro e w70 ⟨aEP,v145,rfl,ho0,ho1,hb⟩;refine⟨_,rfl,?_⟩;have UF:=aA.mk (Kd.eF (Kd.fG (Kd.fG ho0 (Kd.dY (by(with_reducible repeat(first|apply Kd.fQ|apply Kd.fU|apply Kd.dG));exact(Kd.bQ (Kd.bK (p:=⟨rH,1,none⟩) (Kd.bK (p:=⟨rH,0,none⟩) (Kd.gB wU.out wV.out (by decide)) (fun _ hk=>hk.2) (.func (.func 116) #[] #[])) (fun _ hk=>hk.2) (.func (.func 117) #[] #[])) (fun _ h_=>h_.1))))) (Kd.dY (by(with_reducible repeat(first|apply Kd.fQ|apply Kd.fU|apply Kd.dG));exact(Kd.bQ (Kd.bK (p:=⟨rH,1,none⟩) (Kd.bK (p:=⟨rH,0,none⟩) (Kd.gB xM.out wV.out (by decide)) (fun _ hk=>hk.2) (.func (.func 116) #[] #[])) (fun _ hk=>hk.2) (.func (.func 117) #[] #[])) (fun _ h_=>h_.1))))) (dH (Bq HB)));have aiG:=aA.mk (Kd.eF (Kd.fG (Kd.fG ho1 (Kd.dY (by(with_reducible repeat(first|apply Kd.fQ|apply Kd.fU|apply Kd.dG));exact(Kd.bQ (Kd.bK (p:=⟨rH,1,none⟩) (Kd.bK (p:=⟨rH,0,none⟩) (Kd.gB wU.out wV.out (by decide)) (fun _ hk=>hk.2) (.func (.func 116) #[] #[])) (fun _ hk=>hk.2) (.func (.func 117) #[] #[])) (fun _ h_=>h_.1))))) (Kd.dY (by(with_reducible repeat(first|apply Kd.fQ|apply Kd.fU|apply Kd.dG));exact(Kd.bQ (Kd.bK (p:=⟨rH,1,none⟩) (Kd.bK (p:=⟨rH,0,none⟩) (Kd.gB xM.out wV.out (by decide)) (fun _ hk=>hk.2) (.func (.func 116) #[] #[])) (fun _ hk=>hk.2) (.func (.func 117) #[] #[])) (fun _ h_=>h_.1))))) (dH (Bq HB)));replace wU:=aA.mk (Kd.bQ (Kd.MI (Kd.MI (Kd.ad3 (by(with_reducible repeat(first|apply Kd.fQ|apply Kd.fU|apply Kd.dG));exact(Kd.bQ (Kd.bK (p:=⟨rH,1,none⟩) (Kd.bK (p:=⟨rH,0,none⟩) (Kd.gB wU.out wV.out (by decide)) (fun _ hk=>hk.2) (.func (.func 116) #[] #[])) (fun _ hk=>hk.2) (.func (.func 117) #[] #[])) (fun _ h_=>h_.1))) hb) (Kd.fF ho0)) (Kd.fF ho1)) (fun _ h_=>h_.1));replace xM:=aA.mk (Kd.bQ (Kd.MI (Kd.MI (Kd.ad3 (by(with_reducible repeat(first|apply Kd.fQ|apply Kd.fU|apply Kd.dG));exact(Kd.bQ (Kd.bK (p:=⟨rH,1,none⟩) (Kd.bK (p:=⟨rH,0,none⟩) (Kd.gB xM.out wV.out (by decide)) (fun _ hk=>hk.2) (.func (.func 116) #[] #[])) (fun _ hk=>hk.2) (.func (.func 117) #[] #[])) (fun _ h_=>h_.1))) hb) (Kd.fF ho0)) (Kd.fF ho1)) (fun _ h_=>h_.1));replace kX:=aA.mk (fC (by exact bG (bG (b_ kX) anF.out _) anF.out _) hb);replace gV:=aA.mk (fC (by exact bG (bG (b_ gV) anG.out _) anG.out _) hb);replace kQ:=aA.mk (fC (by exact bG (bG (b_ kQ) anH.out _) anH.out _) hb);replace vN:=aA.mk (fC (by exact bG (bG (b_ vN) anI.out _) anI.out _) hb);replace wV:=aA.mk (fC (by exact dE (cs:=#[.func (.func 116) #[] #[],.nilFunc]) (dE (cs:=#[.nilFunc,.nilFunc]) (b_ wV) 0 _ rfl) 1 _ rfl) hb);replace HB:=bs HB hb;(try clear hb);(try clear ho0);(try clear ho1))|((with_reducible refine dU (N:=7) rfl ?_);refine eX 7 #[.slice none 0 0,.slice none 0 0] 124 ?_;intro vM hg w71 hbox hb;have dC:=aA.mk (hbox);have aK6:=gw hg HB;have aK7:=gw hg HB;have aMF:=nl hg kX;have aMG:=ng hg kX;have anJ:=nl hg gV;have aMH:=ng hg gV;have aMI:=nl hg kQ;have aMJ:=ng hg kQ;have aMK:=nl hg vN;have aML:=ng hg vN;have aMM:=nl hg wV;have aMN:=ng hg wV;replace wU:=RB wU hb;replace xM:=RB xM hb;replace UF:=RB UF hb;replace aiG:=RB aiG hb;replace kX:=bb kX hb;replace gV:=bb gV hb;replace kQ:=aA.mk (fC (g:=GY) (o:=.cells #[.func (.func 114) #[] #[],.func (.func 115) #[] #[]] 173 (0,0)) (b_ kQ) hb);replace vN:=bb vN hb;replace wV:=aA.mk (fC (g:=rH) (o:=.cells #[.func (.func 116) #[] #[],.func (.func 117) #[] #[]] 173 (0,0)) (b_ wV) hb);replace HB:=bs HB hb;clear hb hbox hg;obtain⟨aiE,aiF,rfl⟩:=Kd.dA UF.out;have hnb73:=aMG.out;have hnc73:=aMF.out;have bhY:=aMH.out;have bhZ:=anJ.out;have bh0:=aMJ.out;have bh2:=aMI.out;have bh3:=aML.out;have bh4:=aMK.out;have hnb77:=aMN.out;have hnc77:=aMM.out;obtain⟨hcz78_0,hcz78_1⟩:=bZ dC (.slice none 0 0) (.slice none 0 0);have hfz78_0:=aX dC.out 0;have hfz78_1:=aX dC.out 1;obtain⟨bQY,bQZ,rfl⟩:=Kd.dA aiG.out;obtain⟨bjP,bjQ⟩:=bZ gV (.slice UG t132.length UH) (.slice VG t135.length VH);have hcz80_2:=kd gV 2 (.slice none 0 0);have hcz80_3:=kd gV 3 (.slice none 0 0);have bjR:=aX gV.out 0;have bjS:=aX gV.out 1;have hfz80_2:=aX gV.out 2;have hfz80_3:=aX gV.out 3))
   refine bodyPost_ret (apY rfl _ _ qO 125 #[.slice none 0 0,.slice none 0 0,.slice none 0 0,.slice none 0 0] (0,0) _ rfl (by exact dE (cs:=#[.slice none 0 0,.slice none 0 0,.slice none 0 0,.slice none 0 0]) (dE (cs:=#[.slice none 0 0,.slice none 0 0,.slice none 0 0,.slice none 0 0]) (dE (cs:=#[.slice none 0 0,.slice VG t135.length VH,.slice none 0 0,.slice none 0 0]) (dE (cs:=#[.slice UG t132.length UH,.slice VG t135.length VH,.slice none 0 0,.slice none 0 0]) (bG (bG (b_ gV) anJ.out _) anJ.out _) 0 _ rfl) 1 _ rfl) 2 _ rfl) 3 _ rfl) Tryd.underlying125 rfl (by kernel_rfl)) rfl ?_
   exact⟨_,_,_,_,by first|rfl|(simp[iU,iV]<;>rfl)|(simp[*,iU,iV]<;>rfl),by first|exact Kd.xI _ _ _ _ _|exact Kd.TQ _ _ _ _ _|exact Kd.TR _ _ _ _ _|exact Kd.TM _ _ _ _ _|exact Kd.TP _ _ _ _ _,by first|exact Kd.xI _ _ _ _ _|exact Kd.TQ _ _ _ _ _|exact Kd.TR _ _ _ _ _|exact Kd.TM _ _ _ _ _|exact Kd.TP _ _ _ _ _,by first|exact Kd.xI _ _ _ _ _|exact Kd.TQ _ _ _ _ _|exact Kd.TR _ _ _ _ _|exact Kd.TM _ _ _ _ _|exact Kd.TP _ _ _ _ _,by first|exact Kd.xI _ _ _ _ _|exact Kd.TQ _ _ _ _ _|exact Kd.TR _ _ _ _ _|exact Kd.TM _ _ _ _ _|exact Kd.TP _ _ _ _ _,Bq HB⟩
  replace c12:=Bool.eq_false_iff.mpr c12
  subst c12
  replace H:(some (([]:List (aH)),([]:List (aH)),([]:List (aH)),([]:List (aH)),9))=some (r1,r2,r3,r4,r5):=by rw[if_neg (show ¬ (false=true) by decide)]at H;exact H
  simp only[Option.some.injEq,Prod.mk.injEq]at H
  obtain⟨rfl,rfl,rfl,rfl,rfl⟩:=H
  go_wp2_with (first|((with_reducible refine dU (N:=6) rfl ?_);refine eX 6 #[.nilFunc,.nilFunc] 173 ?_;intro GY hg w81 hbox hb;have kQ:=aA.mk (hbox);have aL6:=gw hg HB;have aL7:=gw hg HB;have ab2:=nl hg kX;have awN:=ng hg kX;have ab3:=nl hg gV;have RU:=ng hg gV;replace kX:=bb kX hb;replace gV:=bb gV hb;replace HB:=bs HB hb;clear hb hbox hg;have bh5:=awN.out;have bh6:=ab2.out;have bh7:=RU.out;have bh8:=ab3.out;obtain⟨bjT,bjU⟩:=bZ kQ (.nilFunc) (.nilFunc);have hfz84_0:=aX kQ.out 0;have hfz84_1:=aX kQ.out 1;have hnb85:=QJ.out;have hnc85:=arC.out;obtain⟨bh9,biA⟩:=bZ kX (.slice aQ aG.length aK) (.slice aT aC.length aJ))|((with_reducible refine gJ (f:=100) rfl ?_);refine cE 23 Tryd.func100 #[.agg #[.func (.func 114) #[] #[],.func (.func 115) #[] #[]],.agg #[.slice aQ aG.length aK,.slice aT aC.length aJ],.int .u64 0] ?_;refine(vX.calls k t127 t128 _ _ aG _ _ aC 0 t132 t135 false _ (Kd.bJ eU.out (Bq HB)) fK.out (Kd.bJ fB.out (Bq HB)) fM.out BU.out).mono ?_;rintro e w87 ⟨aL8,awO,rfl,ho0,ho1,hb⟩;refine⟨_,rfl,?_⟩;have wU:=aA.mk (Kd.eF ho0 (dH (Bq HB)));have xM:=aA.mk (Kd.eF ho1 (dH (Bq HB)));replace kX:=aA.mk (fC (by exact bG (bG (b_ kX) ab2.out _) ab2.out _) hb);replace gV:=aA.mk (fC (by exact bG (bG (b_ gV) ab3.out _) ab3.out _) hb);replace kQ:=aA.mk (fC (by exact dE (cs:=#[.func (.func 114) #[] #[],.nilFunc]) (dE (cs:=#[.nilFunc,.nilFunc]) (b_ kQ) 0 _ rfl) 1 _ rfl) hb);replace HB:=bs HB hb;(try clear hb);(try clear ho0);(try clear ho1))|((with_reducible refine dU (N:=7) rfl ?_);refine eX 7 #[.slice none 0 0,.slice none 0 0] 124 ?_;intro QK hg w88 hbox hb;have vN:=aA.mk (hbox);have aXU:=gw hg HB;have aXV:=gw hg HB;have RV:=nl hg kX;have awP:=ng hg kX;have PG:=nl hg gV;have RX:=ng hg gV;have RY:=nl hg kQ;have awQ:=ng hg kQ;replace wU:=RB wU hb;replace xM:=RB xM hb;replace kX:=bb kX hb;replace gV:=bb gV hb;replace kQ:=aA.mk (fC (g:=GY) (o:=.cells #[.func (.func 114) #[] #[],.func (.func 115) #[] #[]] 173 (0,0)) (b_ kQ) hb);replace HB:=bs HB hb;clear hb hbox hg;obtain⟨bjX,bjY,rfl⟩:=Kd.dA wU.out;have biB:=awP.out;have biC:=RV.out;have hnb91:=RX.out;have hnc91:=PG.out;have hnb92:=awQ.out;have hnc92:=RY.out;obtain⟨hcz93_0,hcz93_1⟩:=bZ vN (.slice none 0 0) (.slice none 0 0);have hfz93_0:=aX vN.out 0;have hfz93_1:=aX vN.out 1;obtain⟨bQ0,bQ1,rfl⟩:=Kd.dA xM.out;obtain⟨hcz95_0,hcz95_1⟩:=bZ gV (.slice none 0 0) (.slice none 0 0);have hcz95_2:=kd gV 2 (.slice none 0 0);have hcz95_3:=kd gV 3 (.slice none 0 0);have hfz95_0:=aX gV.out 0;have hfz95_1:=aX gV.out 1;have hfz95_2:=aX gV.out 2;have hfz95_3:=aX gV.out 3))
  refine bodyPost_ret (apY rfl _ _ qO 125 #[.slice none 0 0,.slice none 0 0,.slice none 0 0,.slice none 0 0] (0,0) _ rfl (by exact dE (cs:=#[.slice none 0 0,.slice none 0 0,.slice none 0 0,.slice none 0 0]) (dE (cs:=#[.slice none 0 0,.slice none 0 0,.slice none 0 0,.slice none 0 0]) (dE (cs:=#[.slice none 0 0,.slice none 0 0,.slice none 0 0,.slice none 0 0]) (dE (cs:=#[.slice none 0 0,.slice none 0 0,.slice none 0 0,.slice none 0 0]) (bG (bG (b_ gV) PG.out _) PG.out _) 0 _ rfl) 1 _ rfl) 2 _ rfl) 3 _ rfl) Tryd.underlying125 rfl (by kernel_rfl)) rfl ?_
  exact⟨_,_,_,_,by first|rfl|(simp[iU,iV]<;>rfl)|(simp[*,iU,iV]<;>rfl),by first|exact Kd.xI _ _ _ _ _|exact Kd.TQ _ _ _ _ _|exact Kd.TR _ _ _ _ _|exact Kd.TM _ _ _ _ _|exact Kd.TP _ _ _ _ _,by first|exact Kd.xI _ _ _ _ _|exact Kd.TQ _ _ _ _ _|exact Kd.TR _ _ _ _ _|exact Kd.TM _ _ _ _ _|exact Kd.TP _ _ _ _ _,by first|exact Kd.xI _ _ _ _ _|exact Kd.TQ _ _ _ _ _|exact Kd.TR _ _ _ _ _|exact Kd.TM _ _ _ _ _|exact Kd.TP _ _ _ _ _,by first|exact Kd.xI _ _ _ _ _|exact Kd.TQ _ _ _ _ _|exact Kd.TR _ _ _ _ _|exact Kd.TM _ _ _ _ _|exact Kd.TP _ _ _ _ _,Bq HB⟩
 rw[if_neg c3]at H
 have WU:(t126==0)=false:=beq_eq_false_iff_ne.mpr c3
 have aaA:(t126 !=0)=true:=bne_iff_ne.mpr c3
 simp only[Option.some.injEq,Prod.mk.injEq]at H
 obtain⟨rfl,rfl,rfl,rfl,rfl⟩:=H
 go_enter Tryd.func67,Tryd.ntmps67
 go_wp2_with (first|((with_reducible refine dU (N:=1) rfl ?_);refine eX 1 #[.slice aQ aG.length aK,.slice aT aC.length aJ] 25 ?_;intro af0 hg w96 hbox hb;have kX:=aA.mk (hbox);have bi7:=gw hg HB;have bi8:=gw hg HB;replace HB:=bs HB hb;clear hb hbox hg)|((with_reducible refine dU (N:=2) rfl ?_);refine eX 2 #[.slice none 0 0,.slice none 0 0,.slice none 0 0,.slice none 0 0] 125 ?_;intro qO hg w97 hbox hb;have gV:=aA.mk (hbox);have bi9:=gw hg HB;have bjA:=gw hg HB;have QJ:=nl hg kX;have arC:=ng hg kX;replace kX:=bb kX hb;replace HB:=bs HB hb;clear hb hbox hg;have hnb98:=QJ.out;have hnc98:=arC.out;obtain⟨hcz99_0,hcz99_1⟩:=bZ kX (.slice aQ aG.length aK) (.slice aT aC.length aJ))|((with_reducible refine gJ (f:=17) rfl ?_);refine cE 10 Tryd.func17 #[.agg #[.slice aQ aG.length aK,.slice aT aC.length aJ]] ?_;refine(XH.calls _ _ aG _ _ aC t126 _ (Kd.bJ eU.out (Bq HB)) fK.out (Kd.bJ fB.out (Bq HB)) fM.out A2.out).mono ?_;rintro e bQ3 ⟨rfl,hb⟩;refine⟨_,rfl,?_⟩;replace kX:=bb kX hb;replace gV:=bb gV hb;replace HB:=bs HB hb;(try clear hb);obtain⟨hcz101_0,hcz101_1⟩:=bZ gV (.slice none 0 0) (.slice none 0 0);have hcz101_2:=kd gV 2 (.slice none 0 0);have hcz101_3:=kd gV 3 (.slice none 0 0);have hfz101_0:=aX gV.out 0;have hfz101_1:=aX gV.out 1;have hfz101_2:=aX gV.out 2;have hfz101_3:=aX gV.out 3))
 refine bodyPost_ret (apY rfl _ _ qO 125 #[.slice none 0 0,.slice none 0 0,.slice none 0 0,.slice none 0 0] (0,0) _ rfl (by exact dE (cs:=#[.slice none 0 0,.slice none 0 0,.slice none 0 0,.slice none 0 0]) (dE (cs:=#[.slice none 0 0,.slice none 0 0,.slice none 0 0,.slice none 0 0]) (dE (cs:=#[.slice none 0 0,.slice none 0 0,.slice none 0 0,.slice none 0 0]) (dE (cs:=#[.slice none 0 0,.slice none 0 0,.slice none 0 0,.slice none 0 0]) (b_ gV) 0 _ rfl) 1 _ rfl) 2 _ rfl) 3 _ rfl) Tryd.underlying125 rfl (by kernel_rfl)) rfl ?_
 exact⟨_,_,_,_,by first|rfl|(simp[iU,iV]<;>rfl)|(simp[*,iU,iV]<;>rfl),by first|exact Kd.xI _ _ _ _ _|exact Kd.TQ _ _ _ _ _|exact Kd.TR _ _ _ _ _|exact Kd.TM _ _ _ _ _|exact Kd.TP _ _ _ _ _,by first|exact Kd.xI _ _ _ _ _|exact Kd.TQ _ _ _ _ _|exact Kd.TR _ _ _ _ _|exact Kd.TM _ _ _ _ _|exact Kd.TP _ _ _ _ _,by first|exact Kd.xI _ _ _ _ _|exact Kd.TQ _ _ _ _ _|exact Kd.TR _ _ _ _ _|exact Kd.TM _ _ _ _ _|exact Kd.TP _ _ _ _ _,by first|exact Kd.xI _ _ _ _ _|exact Kd.TQ _ _ _ _ _|exact Kd.TR _ _ _ _ _|exact Kd.TM _ _ _ _ _|exact Kd.TP _ _ _ _ _,Bq HB⟩
end Go.Proofs.YtcmfnebcmmklkaaDoor.Q
namespace Go.Proofs.YtcmfnebcmmklkaaDoor.Hand
open Go.RowKit Go.Shelf Go.Proofs.YtcmfnebcmmklkaaDoorW.dQ Go.Proofs.YtcmfnebcmmklkaaDoorW.gG Go.Proofs.YtcmfnebcmmklkaaDoor.Q
theorem aXX:∀ s:Nat,s<256->∀ i:Nat,i<8->(Go.bits .and .u64 (shr .u64 (s:Int) (i:Int)) 1=0↔s.testBit i=false):=by decide+kernel
def kZ (sd:aI->aH) (ls:List aI) (o:Int) (s:Nat) (n:Nat):List dR:=
 (List.range n).filterMap fun(i:Nat)=>if(aU ls i).f0=o/\s.testBit i=false then some ⟨sd (aU ls i),(i:Int),(aU ls i).f3⟩else none
theorem awR (sd:aI->aH) (ls:List aI) (o:Int) (s n:Nat):kZ sd ls o s (n+1)=kZ sd ls o s n++(if(aU ls n).f0=o/\s.testBit n=false then[⟨sd (aU ls n),(n:Int),(aU ls n).f3⟩]else[]):=by
 unfold kZ
 rw[List.range_succ,List.filterMap_append]
 congr 1
 simp only[List.filterMap_cons,List.filterMap_nil]
 split<;>simp_all
theorem arE (sd:aI->aH) (ls:List aI) (o:Int) (s n:Nat):(kZ sd ls o s n).length<=n:=by
 unfold kZ
 exact Nat.le_trans (List.length_filterMap_le _ _) (by simp)
theorem bjZ (ls:List aI) (h8:ls.length<=8) (o:Int) (s:Nat) (hs:s<256) (most:Int):∀ (m i k:Nat),i+m=ls.length->m<k->
  XB.l0 k o (s:Int) ls (ls.length:Int) (i:Int) most (kZ (fun x=>x.f1) ls o s i)=some (most,kZ (fun x=>x.f1) ls o s ls.length):=by
 intro m
 induction m with
 |zero=>
  intro i k hi hk
  obtain⟨k,rfl⟩:∃ j,k=j+1:=⟨k - 1,by omega⟩
  obtain rfl:i=ls.length:=by omega
  unfold XB.l0
  rw[if_neg (by omega)]
 |succ m ih=>
  intro i k hi hk
  obtain⟨k,rfl⟩:∃ j,k=j+1:=⟨k - 1,by omega⟩
  have hb:=aXX s hs i (by omega)
  have hw:wrap64 ((i:Int)+1)=((i+1:Nat):Int):=by rw[jF (by omega) (by omega)];simp
  have hn:=ih (i+1) k (by omega) (by omega)
  have hl:=arE (fun x=>x.f1) ls o s i
  rw[awR]at hn
  unfold XB.l0
  rw[if_pos (by omega),if_pos (by omega),if_pos (by omega),hw]
  by_cases h1:(aU ls i).f0=o
  ·rw[if_pos h1]
   by_cases h2:Go.bits .and .u64 (shr .u64 (s:Int) (i:Int)) 1=0
   ·rw[if_pos h2]
    rw[if_pos ⟨h1,hb.1 h2⟩]at hn
    unfold aqQ.f
    simp only[Option.bind_some]
    rw[if_pos (by omega)]
    exact hn
   ·rw[if_neg h2]
    rw[if_neg (fun hh=>h2 (hb.2 hh.2)),List.append_nil]at hn
    exact hn
  ·rw[if_neg h1]
   rw[if_neg (fun hh=>h1 hh.1),List.append_nil]at hn
   exact hn
theorem bj0 (os:List aZ) (ls:List aI) (h8:ls.length<=8) (o s:Nat) (ho:o<os.length) (hs:s<256) (k:Nat) (hk:9<=k):
  XB.f k () () os ls (o:Int) (s:Int)=some ((dK os o).f0,kZ (fun x=>x.f1) ls o s ls.length):=by
 unfold XB.f aqP.f
 rw[if_pos (by omega),if_pos (by omega)]
 simp only[Option.bind_some]
 exact bjZ ls h8 o s hs _ ls.length 0 k (by omega) (by omega)
theorem bj1 (ls:List aI) (h8:ls.length<=8) (o:Int) (s:Nat) (hs:s<256) (most:Int):∀ (m i k:Nat),i+m=ls.length->m<k->
  XG.l0 k o (s:Int) ls (ls.length:Int) (i:Int) most (kZ (fun x=>x.f2) ls o s i)=some (most,kZ (fun x=>x.f2) ls o s ls.length):=by
 intro m
 induction m with
 |zero=>
  intro i k hi hk
  obtain⟨k,rfl⟩:∃ j,k=j+1:=⟨k - 1,by omega⟩
  obtain rfl:i=ls.length:=by omega
  unfold XG.l0
  rw[if_neg (by omega)]
 |succ m ih=>
  intro i k hi hk
  obtain⟨k,rfl⟩:∃ j,k=j+1:=⟨k - 1,by omega⟩
  have hb:=aXX s hs i (by omega)
  have hw:wrap64 ((i:Int)+1)=((i+1:Nat):Int):=by rw[jF (by omega) (by omega)];simp
  have hn:=ih (i+1) k (by omega) (by omega)
  have hl:=arE (fun x=>x.f2) ls o s i
  rw[awR]at hn
  unfold XG.l0
  rw[if_pos (by omega),if_pos (by omega),if_pos (by omega),hw]
  by_cases h1:(aU ls i).f0=o
  ·rw[if_pos h1]
   by_cases h2:Go.bits .and .u64 (shr .u64 (s:Int) (i:Int)) 1=0
   ·rw[if_pos h2]
    rw[if_pos ⟨h1,hb.1 h2⟩]at hn
    unfold aq9.f
    simp only[Option.bind_some]
    rw[if_pos (by omega)]
    exact hn
   ·rw[if_neg h2]
    rw[if_neg (fun hh=>h2 (hb.2 hh.2)),List.append_nil]at hn
    exact hn
  ·rw[if_neg h1]
   rw[if_neg (fun hh=>h1 hh.1),List.append_nil]at hn
   exact hn
theorem bj2 (os:List aZ) (ls:List aI) (h8:ls.length<=8) (o s:Nat) (ho:o<os.length) (hs:s<256) (k:Nat) (hk:9<=k):
  XG.f k () () os ls (o:Int) (s:Int)=some ((dK os o).f1,kZ (fun x=>x.f2) ls o s ls.length):=by
 unfold XG.f aq8.f
 rw[if_pos (by omega),if_pos (by omega)]
 simp only[Option.bind_some]
 exact bj1 ls h8 o s hs _ ls.length 0 k (by omega) (by omega)
def QL (lots:List dR) (cnt:List aH) (counts:List aH):Nat->List aH
 |0=>counts
 |j+1=>(QL lots cnt counts j).set (dP lots j).f1.toNat ⟨(bM cnt j).f0,(bM cnt j).f1⟩
theorem aEQ (lots:List dR) (cnt:List aH) (counts:List aH):∀ j,(QL lots cnt counts j).length=counts.length:=by
 intro j
 induction j with
 |zero=>rfl
 |succ j ih=>rw[QL,List.length_set,ih]
def af1 (M:Int) (s:aH):aH:=⟨M - s.f1,M - s.f0⟩
theorem bj3 (os:List aZ) (ls:List aI) (s:Int) (lots:List dR) (cnt:List aH) (hc:cnt.length=lots.length) (h8:lots.length<=8) (counts lacks:List aH) (hf:∀ x∈lots,0<=x.f1/\x.f1<counts.length) (M l0 l1:Int) (hM:0<=M/\M<=144) (hl:(-100000<=l0/\l0<=100000)/\(-100000<=l1/\l1<=100000)) (hlk:lacks.length<=1000) (o n:Int) (ho:0<=o/\o<=100):∀ (m j k:Nat),j+m=lots.length->m<k->
  vX.l1 k s cnt n o lots (lots.length:Int) (j:Int) () () os ls lacks (QL lots cnt counts j) M lots l0 l1=vX.l0 (k - 1 - m) s n (o+1) () () os ls (lacks++[af1 M ⟨l0,l1⟩]) (QL lots cnt counts lots.length):=by
 intro m
 induction m with
 |zero=>
  intro j k hj hk
  obtain⟨k,rfl⟩:∃ i,k=i+1:=⟨k - 1,by omega⟩
  obtain rfl:j=lots.length:=by omega
  have hw:wrap64 (o+1)=o+1:=jF (by omega) (by omega)
  conv=>lhs;unfold vX.l1
  rw[if_neg (by omega)]
  unfold yT.f
  simp only[Option.bind_some]
  rw[if_pos (by omega),hw,jF (by omega) (by omega),jF (by omega) (by omega)]
  rfl
 |succ m ih=>
  intro j k hj hk
  obtain⟨k,rfl⟩:∃ i,k=i+1:=⟨k - 1,by omega⟩
  have hjl:j<lots.length:=by clear ih hf hlk hl hM ho;omega
  have hw:wrap64 ((j:Int)+1)=((j+1:Nat):Int):=by rw[jF (by clear ih hf hlk hl hM ho;omega) (by clear ih hf hlk hl hM ho;omega)];simp
  have hx:=hf _ (aqT (ls:=lots) (i:=j) hjl)
  have hs:=aEQ lots cnt counts j
  have e1:(j:Int)<(lots.length:Int):=Int.ofNat_lt.2 hjl
  have e2:(0:Int)<=(j:Int):=Int.natCast_nonneg j
  have e3:(j:Int)<(cnt.length:Int):=by rw[hc];exact e1
  have e4:0<=(dP lots j).f1:=hx.1
  have e5:(dP lots j).f1<((QL lots cnt counts j).length:Int):=by rw[hs];exact hx.2
  conv=>lhs;unfold vX.l1
  rw[if_pos e1,if_pos e2,if_pos e1,if_pos e3,if_pos e4,if_pos e5,hw]
  have:=ih (j+1) k (by clear ih hf hlk hl hM ho;omega) (by clear ih hf hlk hl hM ho;omega)
  rw[QL]at this
  rw[this]
  rw[show k+1 - 1 - (m+1)=k - 1 - m by clear ih hf hlk hl hM ho this;omega]
theorem bj4 (os:List aZ) (ls:List aI) (s:Int) (lots:List dR) (cnt:List aH) (hc:cnt.length=lots.length) (h8:lots.length<=8) (counts lacks:List aH) (hf:∀ x∈lots,0<=x.f1/\x.f1<counts.length) (M l0 l1:Int) (hM:0<=M/\M<=144) (hl:(-100000<=l0/\l0<=100000)/\(-100000<=l1/\l1<=100000)) (hlk:lacks.length<=1000) (o n:Int) (ho:0<=o/\o<=100):∀ (m j k:Nat),j+m=lots.length->m<k->
  uU.l1 k s cnt n o lots (lots.length:Int) (j:Int) () () os ls lacks (QL lots cnt counts j) M lots l0 l1=uU.l0 (k - 1 - m) s n (o+1) () () os ls (lacks++[af1 M ⟨l0,l1⟩]) (QL lots cnt counts lots.length):=by
 intro m
 induction m with
 |zero=>
  intro j k hj hk
  obtain⟨k,rfl⟩:∃ i,k=i+1:=⟨k - 1,by omega⟩
  obtain rfl:j=lots.length:=by omega
  have hw:wrap64 (o+1)=o+1:=jF (by omega) (by omega)
  conv=>lhs;unfold uU.l1
  rw[if_neg (by omega)]
  unfold yT.f
  simp only[Option.bind_some]
  rw[if_pos (by omega),hw,jF (by omega) (by omega),jF (by omega) (by omega)]
  rfl
 |succ m ih=>
  intro j k hj hk
  obtain⟨k,rfl⟩:∃ i,k=i+1:=⟨k - 1,by omega⟩
  have hjl:j<lots.length:=by clear ih hf hlk hl hM ho;omega
  have hw:wrap64 ((j:Int)+1)=((j+1:Nat):Int):=by rw[jF (by clear ih hf hlk hl hM ho;omega) (by clear ih hf hlk hl hM ho;omega)];simp
  have hx:=hf _ (aqT (ls:=lots) (i:=j) hjl)
  have hs:=aEQ lots cnt counts j
  have e1:(j:Int)<(lots.length:Int):=Int.ofNat_lt.2 hjl
  have e2:(0:Int)<=(j:Int):=Int.natCast_nonneg j
  have e3:(j:Int)<(cnt.length:Int):=by rw[hc];exact e1
  have e4:0<=(dP lots j).f1:=hx.1
  have e5:(dP lots j).f1<((QL lots cnt counts j).length:Int):=by rw[hs];exact hx.2
  conv=>lhs;unfold uU.l1
  rw[if_pos e1,if_pos e2,if_pos e1,if_pos e3,if_pos e4,if_pos e5,hw]
  have:=ih (j+1) k (by clear ih hf hlk hl hM ho;omega) (by clear ih hf hlk hl hM ho;omega)
  rw[QL]at this
  rw[this]
  rw[show k+1 - 1 - (m+1)=k - 1 - m by clear ih hf hlk hl hM ho this;omega]
def iP (od:aZ->Int) (sd:aI->aH) (os:List aZ) (ls:List aI) (s o:Nat):List aH×aH×Bool:=fE (od (dK os o)) (kZ sd ls o s ls.length)
def qP (od:aZ->Int) (sd:aI->aH) (os:List aZ) (ls:List aI) (s n:Nat):List aH:=(List.range n).map fun(o:Nat)=>af1 (od (dK os o)) (iP od sd os ls s o).2.1
def zN (od:aZ->Int) (sd:aI->aH) (os:List aZ) (ls:List aI) (s:Nat):Nat->List aH
 |0=>List.replicate ls.length ⟨0,0⟩
 |o+1=>QL (kZ sd ls o s ls.length) (iP od sd os ls s o).1 (zN od sd os ls s o) (kZ sd ls o s ls.length).length
theorem awS (od:aZ->Int) (sd:aI->aH) (os:List aZ) (ls:List aI) (s:Nat):∀ n,(zN od sd os ls s n).length=ls.length:=by
 intro n
 induction n with
 |zero=>exact List.length_replicate
 |succ n ih=>rw[zN,aEQ,ih]
theorem aaO (od:aZ->Int) (sd:aI->aH) (os:List aZ) (ls:List aI) (s n:Nat):(qP od sd os ls s n).length=n:=by simp[qP]
theorem aER (od:aZ->Int) (sd:aI->aH) (os:List aZ) (ls:List aI) (s n:Nat):qP od sd os ls s (n+1)=qP od sd os ls s n++[af1 (od (dK os n)) (iP od sd os ls s n).2.1]:=by
 unfold qP
 rw[List.range_succ,List.map_append,List.map_cons,List.map_nil]
structure RZ (od:aZ->Int) (sd:aI->aH) (os:List aZ) (ls:List aI):Prop where
 ord:∀ o:Nat,o<os.length->0<=od (dK os o)/\od (dK os o)<=144
 lot:∀ i:Nat,i<ls.length->0<=(sd (aU ls i)).f0/\(sd (aU ls i)).f0<=(sd (aU ls i)).f1/\(sd (aU ls i)).f1<=144
theorem aES {sd:aI->aH} {ls:List aI} {o:Int} {s n:Nat} {x:dR} (h:x∈kZ sd ls o s n):∃ i:Nat,i<n/\x=⟨sd (aU ls i),(i:Int),(aU ls i).f3⟩:=by
 unfold kZ at h
 obtain⟨i,h1,h2⟩:=List.mem_filterMap.1 h
 split at h2
 ·exact⟨i,List.mem_range.1 h1,(Option.some.inj h2).symm⟩
 ·cases h2
theorem RZ.lots {od:aZ->Int} {sd:aI->aH} {os:List aZ} {ls:List aI} (h:RZ od sd os ls) {o:Int} {s:Nat}:∀ x∈kZ sd ls o s ls.length,uH x:=by
 intro x hx
 obtain⟨i,hi,rfl⟩:=aES hx
 exact h.lot i hi
theorem RZ.aXY {od:aZ->Int} {sd:aI->aH} {os:List aZ} {ls:List aI} (h:RZ od sd os ls) (h8:ls.length<=8) {o s:Nat} (ho:o<os.length):avC (od (dK os o)) (kZ sd ls o s ls.length)=true:=by
 unfold avC
 have h1:=h.ord o ho
 have h2:=arE sd ls o s ls.length
 simp only[Bool.and_eq_true,decide_eq_true_iff,List.all_eq_true]
 refine⟨⟨⟨h1.1,h1.2⟩,fun x hx=>?_⟩,Nat.le_trans h2 h8⟩
 have:=h.lots x hx
 unfold uH at this
 unfold aK5
 simp only[Bool.and_eq_true,decide_eq_true_iff]
 exact⟨⟨this.1,this.2.1⟩,this.2.2⟩
theorem af2 {M:Int} {l:List dR} (h:(fE M l).2.2=true):(fE M l).1.length=l.length:=by
 unfold fE at h ⊢
 split
 ·simp
 ·rename_i hh
  rw[if_neg hh]at h
  cases h
theorem aXZ {M:Int} {l:List dR} (hM:0<=M/\M<=144) (hl:∀ x∈l,uH x):(-100000<=(fE M l).2.1.f0/\(fE M l).2.1.f0<=100000)/\(-100000<=(fE M l).2.1.f1/\(fE M l).2.1.f1<=100000):=by
 unfold fE
 split
 ·rename_i hh
  have:=au4 hM hl (Nat.le_refl _) hh
  show(-100000<=(gU M l l.length).f0/\(gU M l l.length).f0<=100000)/\(-100000<=(gU M l l.length).f1/\(gU M l l.length).f1<=100000)
  clear hM hl hh
  omega
 ·decide
abbrev rJ:aZ->Int:=fun x=>x.f0
abbrev qB:aI->aH:=fun x=>x.f1
theorem bj5 (os:List aZ) (ls:List aI) (h5:os.length<=5) (h8:ls.length<=8) (hk:RZ rJ qB os ls) (s:Nat) (hs:s<256):∀ (m o k:Nat),o+m=os.length->10*m+11<=k->
  ∃ r,vX.l0 k (s:Int) (os.length:Int) (o:Int) () () os ls (qP rJ qB os ls s o) (zN rJ qB os ls s o)=some r/\(r.2.2=true↔∀ j,o<=j->j<os.length->(iP rJ qB os ls s j).2.2=true)/\(r.2.2=true->r.1=qP rJ qB os ls s os.length/\r.2.1=zN rJ qB os ls s os.length):=by
 intro m
 induction m with
 |zero=>
  intro o k hi hk
  obtain⟨k,rfl⟩:∃ j,k=j+1:=⟨k - 1,by omega⟩
  obtain rfl:o=os.length:=by omega
  unfold vX.l0
  rw[if_neg (by omega)]
  exact⟨_,rfl,⟨fun _ j h1 h2=>absurd h2 (by omega),fun _=>rfl⟩,fun _=>⟨rfl,rfl⟩⟩
 |succ m ih=>
  intro o k hi hkk
  obtain⟨k,rfl⟩:∃ j,k=j+1:=⟨k - 1,by omega⟩
  have ho:o<os.length:=by omega
  have hlen:=arE qB ls o s ls.length
  have hst:=bj0 os ls h8 o s ho hs k (by omega)
  have hM:=hk.ord o ho
  unfold vX.l0
  rw[if_pos (by omega),hst]
  simp only[Option.bind_some]
  unfold abS.f
  rw[if_pos (hk.aXY h8 ho)]
  simp only[Option.bind_some]
  by_cases hr:(iP rJ qB os ls s o).2.2=true
  ·rw[if_pos (show(fE (dK os (o:Int)).f0 (kZ (fun x=>x.f1) ls (o:Int) s ls.length)).2.2=true from hr)]
   have hc:=af2 hr
   have hb:=aXZ (l:=kZ qB ls o s ls.length) hM hk.lots
   have h1:=bj3 os ls s (kZ qB ls o s ls.length) _ hc (Nat.le_trans hlen h8) (zN rJ qB os ls s o) (qP rJ qB os ls s o) (by
    intro x hx
    obtain⟨i,hi,rfl⟩:=aES hx
    rw[awS]
    exact⟨Int.natCast_nonneg _,Int.ofNat_lt.2 hi⟩) _ _ _ hM hb (by rw[aaO];omega) (o:Int) (os.length:Int) (by omega) (kZ qB ls o s ls.length).length 0 k (by omega) (by omega)
   rw[QL]at h1
   obtain⟨r,h2,h3,h4⟩:=ih (o+1) (k - 1 - (kZ qB ls o s ls.length).length) (by omega) (by omega)
   refine⟨r,h1.trans ?_,⟨fun h j hj1 hj2=>?_,fun h=>h3.2 fun j hj1 hj2=>h j (by omega) hj2⟩,h4⟩
   ·rw[aER,zN]at h2
    exact h2
   ·rcases Nat.eq_or_lt_of_le hj1 with rfl|hj
    ·exact hr
    ·exact h3.1 h j hj hj2
  ·rw[if_neg (show ¬ (fE (dK os (o:Int)).f0 (kZ (fun x=>x.f1) ls (o:Int) s ls.length)).2.2=true from hr)]
   exact⟨_,rfl,⟨fun h=>absurd h Bool.false_ne_true,fun h=>absurd (h o (Nat.le_refl _) ho) hr⟩,fun h=>absurd h Bool.false_ne_true⟩
theorem aX0 (os:List aZ) (ls:List aI) (h5:os.length<=5) (h8:ls.length<=8) (hk:RZ rJ qB os ls) (s:Nat) (hs:s<256) (k:Nat) (hkk:61<=k):
  ∃ r,vX.f k () () os ls (s:Int)=some r/\(r.2.2=true↔∀ j,j<os.length->(iP rJ qB os ls s j).2.2=true)/\(r.2.2=true->r.1=qP rJ qB os ls s os.length/\r.2.1=zN rJ qB os ls s os.length):=by
 obtain⟨r,h1,h2,h3⟩:=bj5 os ls h5 h8 hk s hs os.length 0 k (by omega) (by omega)
 refine⟨r,?_,⟨fun h j=>h2.1 h j (Nat.zero_le _),fun h=>h2.2 fun j _=>h j⟩,h3⟩
 unfold vX.f
 rw[if_pos (by omega),if_pos (by omega)]
 exact h1
abbrev tC:aZ->Int:=fun x=>x.f1
abbrev qQ:aI->aH:=fun x=>x.f2
theorem bj6 (os:List aZ) (ls:List aI) (h5:os.length<=5) (h8:ls.length<=8) (hk:RZ tC qQ os ls) (s:Nat) (hs:s<256):∀ (m o k:Nat),o+m=os.length->10*m+11<=k->
  ∃ r,uU.l0 k (s:Int) (os.length:Int) (o:Int) () () os ls (qP tC qQ os ls s o) (zN tC qQ os ls s o)=some r/\(r.2.2=true↔∀ j,o<=j->j<os.length->(iP tC qQ os ls s j).2.2=true)/\(r.2.2=true->r.1=qP tC qQ os ls s os.length/\r.2.1=zN tC qQ os ls s os.length):=by
 intro m
 induction m with
 |zero=>
  intro o k hi hk
  obtain⟨k,rfl⟩:∃ j,k=j+1:=⟨k - 1,by omega⟩
  obtain rfl:o=os.length:=by omega
  unfold uU.l0
  rw[if_neg (by omega)]
  exact⟨_,rfl,⟨fun _ j h1 h2=>absurd h2 (by omega),fun _=>rfl⟩,fun _=>⟨rfl,rfl⟩⟩
 |succ m ih=>
  intro o k hi hkk
  obtain⟨k,rfl⟩:∃ j,k=j+1:=⟨k - 1,by omega⟩
  have ho:o<os.length:=by omega
  have hlen:=arE qQ ls o s ls.length
  have hst:=bj2 os ls h8 o s ho hs k (by omega)
  have hM:=hk.ord o ho
  unfold uU.l0
  rw[if_pos (by omega),hst]
  simp only[Option.bind_some]
  unfold abS.f
  rw[if_pos (hk.aXY h8 ho)]
  simp only[Option.bind_some]
  by_cases hr:(iP tC qQ os ls s o).2.2=true
  ·rw[if_pos (show(fE (dK os (o:Int)).f1 (kZ (fun x=>x.f2) ls (o:Int) s ls.length)).2.2=true from hr)]
   have hc:=af2 hr
   have hb:=aXZ (l:=kZ qQ ls o s ls.length) hM hk.lots
   have h1:=bj4 os ls s (kZ qQ ls o s ls.length) _ hc (Nat.le_trans hlen h8) (zN tC qQ os ls s o) (qP tC qQ os ls s o) (by
    intro x hx
    obtain⟨i,hi,rfl⟩:=aES hx
    rw[awS]
    exact⟨Int.natCast_nonneg _,Int.ofNat_lt.2 hi⟩) _ _ _ hM hb (by rw[aaO];omega) (o:Int) (os.length:Int) (by omega) (kZ qQ ls o s ls.length).length 0 k (by omega) (by omega)
   rw[QL]at h1
   obtain⟨r,h2,h3,h4⟩:=ih (o+1) (k - 1 - (kZ qQ ls o s ls.length).length) (by omega) (by omega)
   refine⟨r,h1.trans ?_,⟨fun h j hj1 hj2=>?_,fun h=>h3.2 fun j hj1 hj2=>h j (by omega) hj2⟩,h4⟩
   ·rw[aER,zN]at h2
    exact h2
   ·rcases Nat.eq_or_lt_of_le hj1 with rfl|hj
    ·exact hr
    ·exact h3.1 h j hj hj2
  ·rw[if_neg (show ¬ (fE (dK os (o:Int)).f1 (kZ (fun x=>x.f2) ls (o:Int) s ls.length)).2.2=true from hr)]
   exact⟨_,rfl,⟨fun h=>absurd h Bool.false_ne_true,fun h=>absurd (h o (Nat.le_refl _) ho) hr⟩,fun h=>absurd h Bool.false_ne_true⟩
theorem aX1 (os:List aZ) (ls:List aI) (h5:os.length<=5) (h8:ls.length<=8) (hk:RZ tC qQ os ls) (s:Nat) (hs:s<256) (k:Nat) (hkk:61<=k):
  ∃ r,uU.f k () () os ls (s:Int)=some r/\(r.2.2=true↔∀ j,j<os.length->(iP tC qQ os ls s j).2.2=true)/\(r.2.2=true->r.1=qP tC qQ os ls s os.length/\r.2.1=zN tC qQ os ls s os.length):=by
 obtain⟨r,h1,h2,h3⟩:=bj6 os ls h5 h8 hk s hs os.length 0 k (by omega) (by omega)
 refine⟨r,?_,⟨fun h j=>h2.1 h j (Nat.zero_le _),fun h=>h2.2 fun j _=>h j⟩,h3⟩
 unfold uU.f
 rw[if_pos (by omega),if_pos (by omega)]
 exact h1
theorem FM {os:List aZ} {ls:List aI} (h:oP os ls=0):(1<=os.length/\os.length<=5)/\ls.length<=8/\(∀ x∈os,MP x=true)/\∀ x∈ls,DY os.length x=true:=by
 unfold oP at h
 split at h
 ·rename_i h1
  split at h
  ·cases h
  ·rename_i h2
   split at h
   ·cases h
   ·rename_i h3
    rw[Bool.or_eq_true,not_or,Bool.not_eq_true,Bool.not_eq_true,List.any_eq_false,List.any_eq_false]at h3
    simp only[allIn,xR,List.any_cons,List.any_nil,Bool.or_false,Bool.not_eq_true',Bool.or_eq_false_iff,decide_eq_false_iff_not]at h1
    refine⟨by omega,by omega,fun x hx=>?_,fun x hx=>?_⟩
    ·have:=h3.1 x hx
     simpa using this
    ·have:=h3.2 x hx
     simpa using this
 ·cases h
theorem aX2 {l:List aZ} {i:Nat} (h:i<l.length):dK l i∈l:=by
 unfold dK
 simp[List.getD_eq_getElem?_getD,h]
theorem aX3 {l:List aI} {i:Nat} (h:i<l.length):aU l i∈l:=by
 unfold aU
 simp[List.getD_eq_getElem?_getD,h]
theorem af4 {os:List aZ} {ls:List aI} (h:oP os ls=0):RZ rJ qB os ls/\RZ tC qQ os ls:=by
 obtain⟨_,_,h3,h4⟩:=FM h
 refine⟨⟨fun o ho=>?_,fun i hi=>?_⟩,⟨fun o ho=>?_,fun i hi=>?_⟩⟩
 ·have:=h3 _ (aX2 ho)
  simp[MP,allIn,xR]at this
  show 0<=(dK os o).f0/\(dK os o).f0<=144
  omega
 ·have:=h4 _ (aX3 hi)
  simp[DY,UE,allIn,xR]at this
  show 0<=(aU ls i).f1.f0/\(aU ls i).f1.f0<=(aU ls i).f1.f1/\(aU ls i).f1.f1<=144
  omega
 ·have:=h3 _ (aX2 ho)
  simp[MP,allIn,xR]at this
  show 0<=(dK os o).f1/\(dK os o).f1<=144
  omega
 ·have:=h4 _ (aX3 hi)
  simp[DY,UE,allIn,xR]at this
  show 0<=(aU ls i).f2.f0/\(aU ls i).f2.f0<=(aU ls i).f2.f1/\(aU ls i).f2.f1<=144
  omega
def vZ (os:List aZ) (ls:List aI) (s:Nat):Bool:=(List.range os.length).all (fun o=>(iP rJ qB os ls s o).2.2)&&(List.range os.length).all (fun o=>(iP tC qQ os ls s o).2.2)
theorem zO {n:Nat} {p:Nat->Bool}:(List.range n).all p=true↔∀ j,j<n->p j=true:=by simp
theorem bj7 {os:List aZ} {ls:List aI} (h:oP os ls=0) (s:Nat) (hs:s<256) (k:Nat) (hk:61<=k):am8.f k os ls (s:Int)=some (vZ os ls s):=by
 obtain⟨hL,hR⟩:=af4 h
 obtain⟨h5,h8,_,_⟩:=FM h
 obtain⟨r,a1,a2,a3⟩:=aX0 os ls h5.2 h8 hL s hs k hk
 obtain⟨q,b1,b2,b3⟩:=aX1 os ls h5.2 h8 hR s hs k hk
 unfold am8.f abZ.f
 simp only[Option.bind_some]
 rw[a1]
 simp only[Option.bind_some]
 unfold vZ
 by_cases hr:r.2.2=true
 ·rw[if_pos hr,b1]
  simp only[Option.bind_some]
  rw[show(List.range os.length).all (fun o=>(iP rJ qB os ls s o).2.2)=true from zO.2 (a2.1 hr),Bool.true_and]
  by_cases hq:q.2.2=true
  ·rw[if_pos hq,show(List.range os.length).all (fun o=>(iP tC qQ os ls s o).2.2)=true from zO.2 (b2.1 hq)]
  ·rw[if_neg hq,show(List.range os.length).all (fun o=>(iP tC qQ os ls s o).2.2)=false from Bool.eq_false_iff.2 fun hh=>hq (b2.2 (zO.1 hh))]
 ·rw[if_neg hr,show(List.range os.length).all (fun o=>(iP rJ qB os ls s o).2.2)=false from Bool.eq_false_iff.2 fun hh=>hr (a2.2 (zO.1 hh)),Bool.false_and]
def oG (os:List aZ) (ls:List aI):List aH×List aH×List aH×List aH×Int:=
 if oP os ls=0 then(if vZ os ls 0=true then(qP rJ qB os ls 0 os.length,zN rJ qB os ls 0 os.length,qP tC qQ os ls 0 os.length,zN tC qQ os ls 0 os.length,0)else([],[],[],[],9))else([],[],[],[],oP os ls)
theorem aX4 (os:List aZ) (ls:List aI) (k:Nat) (hk:61<=k):aaM.f k os ls=some (oG os ls):=by
 unfold aaM.f XH.f oG
 simp only[Option.bind_some]
 by_cases h:oP os ls=0
 ·rw[if_pos h,if_pos h]
  obtain⟨hL,hR⟩:=af4 h
  obtain⟨h5,h8,_,_⟩:=FM h
  obtain⟨r,a1,a2,a3⟩:=aX0 os ls h5.2 h8 hL 0 (by decide) k hk
  obtain⟨q,b1,b2,b3⟩:=aX1 os ls h5.2 h8 hR 0 (by decide) k hk
  unfold abZ.f
  simp only[Option.bind_some]
  rw[show((0:Nat):Int)=0 from rfl]at a1 b1
  rw[a1]
  simp only[Option.bind_some]
  unfold vZ
  by_cases hr:r.2.2=true
  ·rw[if_pos hr,b1]
   simp only[Option.bind_some]
   rw[show(List.range os.length).all (fun o=>(iP rJ qB os ls 0 o).2.2)=true from zO.2 (a2.1 hr),Bool.true_and]
   by_cases hq:q.2.2=true
   ·rw[if_pos hq,if_pos (show(List.range os.length).all (fun o=>(iP tC qQ os ls 0 o).2.2)=true from zO.2 (b2.1 hq)),(a3 hr).1,(a3 hr).2,(b3 hq).1,(b3 hq).2]
   ·rw[if_neg hq,if_neg (fun hh=>hq (b2.2 (zO.1 hh)))]
  ·rw[if_neg hr,show(List.range os.length).all (fun o=>(iP rJ qB os ls 0 o).2.2)=false from Bool.eq_false_iff.2 fun hh=>hr (a2.2 (zO.1 hh)),Bool.false_and,if_neg (by decide)]
 ·rw[if_neg h,if_neg h]
end Go.Proofs.YtcmfnebcmmklkaaDoor.Hand

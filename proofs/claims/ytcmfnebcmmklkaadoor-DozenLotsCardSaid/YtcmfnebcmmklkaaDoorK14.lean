/- What the laws of chapter 9 share: words about rows and regions, the walks of the package dozen, and that known returns true. Part 14 of 16. -/
import Derived.Test.YtcmfnebcmmklkaaDoorK8
import Derived.Test.YtcmfnebcmmklkaaDoorK2
import Derived.Test.YtcmfnebcmmklkaaDoorK11
set_option linter.unusedVariables false
set_option linter.unusedSimpArgs false
set_option maxRecDepth 100000
set_option maxHeartbeats 8000000
namespace Go.Proofs.YtcmfnebcmmklkaaDoor.Q
open Go.RowKit Go.Proofs.YtcmfnebcmmklkaaDoorW.dQ Go.Proofs.YtcmfnebcmmklkaaDoorW.oU Go.Proofs.YtcmfnebcmmklkaaDoorW.gG
attribute [local go_sem] uA uB uC uD uM uN uO uP
def UR.f (k:Nat) (aG:List (aZ)) (aC:List (aI)):Option ((List (aH))×(List (aH))×Int):=(aaM.f k aG aC).bind fun RP=>(some (RP.1,RP.2.2.1,RP.2.2.2.2))
theorem UR.calls (k:Nat) (aQ:Option Addr) (aK:Nat) (aG:List (aZ)) (aT:Option Addr) (aJ:Nat) (aC:List (aI)) (r1:List (aH)) (r2:List (aH)) (r3:Int) (w:World) (jI:Kd.C iJ w aQ aG.length aG) (jU:aG.length<=aK) (jE:Kd.C iE w aT aC.length aC) (jS:aC.length<=aJ) (h:UR.f k aG aC=some (r1,r2,r3)):
    Calls Tryd.prog 18 #[.agg #[.slice aQ aG.length aK,.slice aT aC.length aJ]] w fun e w'=>∃ iG nC:Value,e=.returned (.tuple #[iG,nC,.int .i64 r3])/\Kd.R iD 42 w' w.heap.size (fun k_=>some k_≠(nC:Value).ownBlock) iG r1/\Kd.R iD 42 w' w.heap.size (fun k_=>some k_≠(iG:Value).ownBlock) nC r2/\Below w.heap.size w w':=by
 have zH:=Tryd.underlying25
 have aXT:=Tryd.underlying125
 have eU:=aA.mk jI
 have fK:=aA.mk jU
 clear jI jU
 have fB:=aA.mk jE
 have fM:=aA.mk jS
 clear jE jS
 have HB:=aA.mk (Below.refl w.heap.size w)
 have H:((aaM.f k aG aC).bind fun RP=>(some (RP.1,RP.2.2.1,RP.2.2.2.2)))=some (r1,r2,r3):=h
 clear h
 replace H:=Option.bind_eq_some_iff.mp H
 obtain⟨⟨t102,t105,t108,t111,t114⟩,xY,H⟩:=H
 replace H:(some (t102,t108,t114))=some (r1,r2,r3):=H
 have A2:=aA.mk xY
 clear xY
 simp only[Option.some.injEq,Prod.mk.injEq]at H
 obtain⟨rfl,rfl,rfl⟩:=H
 go_enter Tryd.func18,Tryd.ntmps18
 go_wp2_with (first|((with_reducible refine dU (N:=1) rfl ?_);refine eX 1 #[.slice aQ aG.length aK,.slice aT aC.length aJ] 25 ?_;intro atM hg w3 hbox hb;have kE:=aA.mk (hbox);have atN:=gw hg HB;have atO:=gw hg HB;replace HB:=bs HB hb;clear hb hbox hg;obtain⟨atP,atQ⟩:=bZ kE (.slice aQ aG.length aK) (.slice aT aC.length aJ))|(go_at_call 67;refine(aaM.calls k _ _ aG _ _ aC t102 t105 t108 t111 t114 _ (Kd.bJ eU.out (Bq HB)) fK.out (Kd.bJ fB.out (Bq HB)) fM.out A2.out).mono ?_;rintro e w5 ⟨v103,v106,v109,v112,rfl,ho0,ho1,ho2,ho3,hb⟩;have aFZ:=aA.mk (Kd.eF ho0 (dH (Bq HB)));have aN9:=aA.mk (Kd.eF ho1 (dH (Bq HB)));have aF0:=aA.mk (Kd.eF ho2 (dH (Bq HB)));have aOA:=aA.mk (Kd.eF ho3 (dH (Bq HB)));replace kE:=bb kE hb;replace HB:=bs HB hb;(try clear hb);(try clear ho0);(try clear ho1);(try clear ho2);(try clear ho3))|((with_reducible refine dU (N:=5) rfl ?_);refine eX 5 #[.slice none 0 0,.slice none 0 0,.slice none 0 0,.slice none 0 0] 125 ?_;intro uV hg w6 hbox hb;have sG:=aA.mk (hbox);have aXJ:=gw hg HB;have aXK:=gw hg HB;have afZ:=nl hg kE;have awK:=ng hg kE;replace aFZ:=RB aFZ hb;replace aN9:=RB aN9 hb;replace aF0:=RB aF0 hb;replace aOA:=RB aOA hb;replace kE:=bb kE hb;replace HB:=bs HB hb;clear hb hbox hg;obtain⟨Ao7,co7,rfl⟩:=Kd.dA aFZ.out;have atS:=awK.out;have atT:=afZ.out;obtain⟨aM2,aM3⟩:=bZ sG (.slice none 0 0) (.slice none 0 0);have aYH:=kd sG 2 (.slice none 0 0);have aYI:=kd sG 3 (.slice none 0 0);have aYJ:=aX sG.out 0;have aYK:=aX sG.out 1;have aYL:=aX sG.out 2;have aYM:=aX sG.out 3;obtain⟨ayF,ayG,rfl⟩:=Kd.dA aN9.out;obtain⟨ayH,ayI,rfl⟩:=Kd.dA aF0.out;obtain⟨acQ,acR,rfl⟩:=Kd.dA aOA.out))
 repeat(go_quiet (fail);try go_wp2)
 go_ret3
 exact⟨_,_,by first|rfl|(simp[iU,iV]<;>rfl)|(simp[*,iU,iV]<;>rfl),by(with_reducible repeat(first|apply Kd.fQ|apply Kd.fU|apply Kd.dG));exact Kd.bQ (Kd.bK (p:=⟨uV,3,none⟩) (Kd.bK (p:=⟨uV,2,none⟩) (Kd.bK (p:=⟨uV,1,none⟩) (Kd.bK (p:=⟨uV,0,none⟩) (Kd.gB aFZ.out sG.out (by decide)) (fun _ hk=>hk.2) (.slice Ao7 t102.length co7)) (fun _ hk=>hk.2) (.slice ayF t105.length ayG)) (fun _ hk=>hk.2) (.slice ayH t108.length ayI)) (fun _ hk=>hk.2) (.slice acQ t111.length acR)) (fun _ hk=>hk.1.2.1),by(with_reducible repeat(first|apply Kd.fQ|apply Kd.fU|apply Kd.dG));exact Kd.bQ (Kd.bK (p:=⟨uV,3,none⟩) (Kd.bK (p:=⟨uV,2,none⟩) (Kd.bK (p:=⟨uV,1,none⟩) (Kd.bK (p:=⟨uV,0,none⟩) (Kd.gB aF0.out sG.out (by decide)) (fun _ hk=>hk.2) (.slice Ao7 t102.length co7)) (fun _ hk=>hk.2) (.slice ayF t105.length ayG)) (fun _ hk=>hk.2) (.slice ayH t108.length ayI)) (fun _ hk=>hk.2) (.slice acQ t111.length acR)) (fun _ hk=>hk.1.1),Bq HB⟩
def XX.f (k:Nat) (aG:List (aZ)) (aC:List (aI)):Option ((List (aH))×(List (aH))×Int):=(aaM.f k aG aC).bind fun TT=>(some (TT.2.1,TT.2.2.2.1,TT.2.2.2.2))
theorem XX.calls (k:Nat) (aQ:Option Addr) (aK:Nat) (aG:List (aZ)) (aT:Option Addr) (aJ:Nat) (aC:List (aI)) (r1:List (aH)) (r2:List (aH)) (r3:Int) (w:World) (jI:Kd.C iJ w aQ aG.length aG) (jU:aG.length<=aK) (jE:Kd.C iE w aT aC.length aC) (jS:aC.length<=aJ) (h:XX.f k aG aC=some (r1,r2,r3)):
    Calls Tryd.prog 19 #[.agg #[.slice aQ aG.length aK,.slice aT aC.length aJ]] w fun e w'=>∃ iG nC:Value,e=.returned (.tuple #[iG,nC,.int .i64 r3])/\Kd.R iD 42 w' w.heap.size (fun k_=>some k_≠(nC:Value).ownBlock) iG r1/\Kd.R iD 42 w' w.heap.size (fun k_=>some k_≠(iG:Value).ownBlock) nC r2/\Below w.heap.size w w':=by
 have zH:=Tryd.underlying25
 have aXT:=Tryd.underlying125
 have eU:=aA.mk jI
 have fK:=aA.mk jU
 clear jI jU
 have fB:=aA.mk jE
 have fM:=aA.mk jS
 clear jE jS
 have HB:=aA.mk (Below.refl w.heap.size w)
 have H:((aaM.f k aG aC).bind fun TT=>(some (TT.2.1,TT.2.2.2.1,TT.2.2.2.2)))=some (r1,r2,r3):=h
 clear h
 replace H:=Option.bind_eq_some_iff.mp H
 obtain⟨⟨t117,t120,t123,t126,t129⟩,xY,H⟩:=H
 replace H:(some (t120,t126,t129))=some (r1,r2,r3):=H
 have A2:=aA.mk xY
 clear xY
 simp only[Option.some.injEq,Prod.mk.injEq]at H
 obtain⟨rfl,rfl,rfl⟩:=H
 go_enter Tryd.func19,Tryd.ntmps19
 go_wp2_with (first|((with_reducible refine dU (N:=1) rfl ?_);refine eX 1 #[.slice aQ aG.length aK,.slice aT aC.length aJ] 25 ?_;intro gb116 hg w3 hbox hb;have aoE:=aA.mk (hbox);have GW116:=gw hg HB;have GE116:=gw hg HB;replace HB:=bs HB hb;clear hb hbox hg;obtain⟨atP,atQ⟩:=bZ aoE (.slice aQ aG.length aK) (.slice aT aC.length aJ))|(go_at_call 67;refine(aaM.calls k _ _ aG _ _ aC t117 t120 t123 t126 t129 _ (Kd.bJ eU.out (Bq HB)) fK.out (Kd.bJ fB.out (Bq HB)) fM.out A2.out).mono ?_;rintro e w5 ⟨v118,v121,v124,v127,rfl,ho0,ho1,ho2,ho3,hb⟩;have aOB:=aA.mk (Kd.eF ho0 (dH (Bq HB)));have aF1:=aA.mk (Kd.eF ho1 (dH (Bq HB)));have aOC:=aA.mk (Kd.eF ho2 (dH (Bq HB)));have aF2:=aA.mk (Kd.eF ho3 (dH (Bq HB)));replace aoE:=bb aoE hb;replace HB:=bs HB hb;(try clear hb);(try clear ho0);(try clear ho1);(try clear ho2);(try clear ho3))|((with_reducible refine dU (N:=5) rfl ?_);refine eX 5 #[.slice none 0 0,.slice none 0 0,.slice none 0 0,.slice none 0 0] 125 ?_;intro ajC hg w6 hbox hb;have agJ:=aA.mk (hbox);have GW130:=gw hg HB;have GE130:=gw hg HB;have bnP:=nl hg aoE;have bnQ:=ng hg aoE;replace aOB:=RB aOB hb;replace aF1:=RB aF1 hb;replace aOC:=RB aOC hb;replace aF2:=RB aF2 hb;replace aoE:=bb aoE hb;replace HB:=bs HB hb;clear hb hbox hg;obtain⟨Ao7,co7,rfl⟩:=Kd.dA aOB.out;have atS:=bnQ.out;have atT:=bnP.out;obtain⟨aM2,aM3⟩:=bZ agJ (.slice none 0 0) (.slice none 0 0);have aYH:=kd agJ 2 (.slice none 0 0);have aYI:=kd agJ 3 (.slice none 0 0);have aYJ:=aX agJ.out 0;have aYK:=aX agJ.out 1;have aYL:=aX agJ.out 2;have aYM:=aX agJ.out 3;obtain⟨ayF,ayG,rfl⟩:=Kd.dA aF1.out;obtain⟨ayH,ayI,rfl⟩:=Kd.dA aOC.out;obtain⟨acQ,acR,rfl⟩:=Kd.dA aF2.out))
 repeat(go_quiet (fail);try go_wp2)
 go_ret3
 exact⟨_,_,by first|rfl|(simp[iU,iV]<;>rfl)|(simp[*,iU,iV]<;>rfl),by(with_reducible repeat(first|apply Kd.fQ|apply Kd.fU|apply Kd.dG));exact Kd.bQ (Kd.bK (p:=⟨ajC,3,none⟩) (Kd.bK (p:=⟨ajC,2,none⟩) (Kd.bK (p:=⟨ajC,1,none⟩) (Kd.bK (p:=⟨ajC,0,none⟩) (Kd.gB aF1.out agJ.out (by decide)) (fun _ hk=>hk.2) (.slice Ao7 t117.length co7)) (fun _ hk=>hk.2) (.slice ayF t120.length ayG)) (fun _ hk=>hk.2) (.slice ayH t123.length ayI)) (fun _ hk=>hk.2) (.slice acQ t126.length acR)) (fun _ hk=>hk.1.2.2),by(with_reducible repeat(first|apply Kd.fQ|apply Kd.fU|apply Kd.dG));exact Kd.bQ (Kd.bK (p:=⟨ajC,3,none⟩) (Kd.bK (p:=⟨ajC,2,none⟩) (Kd.bK (p:=⟨ajC,1,none⟩) (Kd.bK (p:=⟨ajC,0,none⟩) (Kd.gB aF2.out agJ.out (by decide)) (fun _ hk=>hk.2) (.slice Ao7 t117.length co7)) (fun _ hk=>hk.2) (.slice ayF t120.length ayG)) (fun _ hk=>hk.2) (.slice ayH t123.length ayI)) (fun _ hk=>hk.2) (.slice acQ t126.length acR)) (fun _ hk=>hk.1.2.1),Bq HB⟩
def vO.l0:Nat->List Int->List Int->Int->List (aH)->List (aH)->Int->Int->Option (List Int×List Int×Int)
  |0,_,_,_,_,_,_,_=>none
  |k+1,x2,x3,x4,x5,x6,x15,x16=>if x16<x15 then(if 0<=x16 then(if x16<(x5.length:Int)then(if x16<(x6.length:Int)then(if(wrap64 (((bM x5 x16).f1)+((bM x6 x16).f1)))=0 then(if x2.length<17592186044416 then((some (x2++[x16]:List Int)).bind fun ajD=>(if(wrap64 (((bM x5 x16).f0)+((bM x6 x16).f0)))=0 then(if x3.length<17592186044416 then(vO.l0 k ajD (x3++[x16]) x4 x5 x6 x15 (wrap64 (x16+1)))else(none))else(vO.l0 k ajD x3 x4 x5 x6 x15 (wrap64 (x16+1)))))else(none))else(if(wrap64 (((bM x5 x16).f0)+((bM x6 x16).f0)))=0 then(if x3.length<17592186044416 then(vO.l0 k x2 (x3++[x16]) x4 x5 x6 x15 (wrap64 (x16+1)))else(none))else(vO.l0 k x2 x3 x4 x5 x6 x15 (wrap64 (x16+1)))))else(none))else(none))else(none))else(some (x2,x3,x4))
def vO.f (k:Nat) (aG:List (aZ)) (aC:List (aI)):Option (List Int×List Int×Int):=(UR.f k aG aC).bind fun vW=>(vO.l0 k ([]:List Int) ([]:List Int) vW.2.2 vW.1 vW.2.1 (vW.1.length:Int) 0)
theorem vO.calls (k:Nat) (aQ:Option Addr) (aK:Nat) (aG:List (aZ)) (aT:Option Addr) (aJ:Nat) (aC:List (aI)) (r1:List Int) (r2:List Int) (r3:Int) (w:World) (jI:Kd.C iJ w aQ aG.length aG) (jU:aG.length<=aK) (jE:Kd.C iE w aT aC.length aC) (jS:aC.length<=aJ) (h:vO.f k aG aC=some (r1,r2,r3)):
    Calls Tryd.prog 20 #[.agg #[.slice aQ aG.length aK,.slice aT aC.length aJ]] w fun e w'=>∃ iG nC:Value,e=.returned (.tuple #[iG,nC,.int .i64 r3])/\Kd.R (Kd.int .i64) 3 w' w.heap.size (fun k_=>some k_≠(nC:Value).ownBlock) iG r1/\Kd.R (Kd.int .i64) 3 w' w.heap.size (fun k_=>some k_≠(iG:Value).ownBlock) nC r2/\Below w.heap.size w w':=by
 have zH:=Tryd.underlying25
 have eU:=aA.mk jI
 have fK:=aA.mk jU
 clear jI jU
 have fB:=aA.mk jE
 have fM:=aA.mk jS
 clear jE jS
 have HB:=aA.mk (Below.refl w.heap.size w)
 have H:((UR.f k aG aC).bind fun vW=>(vO.l0 k ([]:List Int) ([]:List Int) vW.2.2 vW.1 vW.2.1 (vW.1.length:Int) 0))=some (r1,r2,r3):=h
 clear h
 replace H:=Option.bind_eq_some_iff.mp H
 obtain⟨⟨t132,t135,t138⟩,xY,H⟩:=H
 replace H:(vO.l0 k ([]:List Int) ([]:List Int) t138 t132 t135 (t132.length:Int) 0)=some (r1,r2,r3):=H
 have A2:=aA.mk xY
 clear xY
 have H':=aA.mk H
 clear H
 go_enter Tryd.func20,Tryd.ntmps20
 go_wp2_with (first|((with_reducible refine dU (N:=1) rfl ?_);refine eX 1 #[.slice aQ aG.length aK,.slice aT aC.length aJ] 25 ?_;intro GY hg w3 hbox hb;have kQ:=aA.mk (hbox);have aL6:=gw hg HB;have aL7:=gw hg HB;replace HB:=bs HB hb;clear hb hbox hg;obtain⟨atP,atQ⟩:=bZ kQ (.slice aQ aG.length aK) (.slice aT aC.length aJ))|(go_at_call 18;refine(UR.calls k _ _ aG _ _ aC t132 t135 t138 _ (Kd.bJ eU.out (Bq HB)) fK.out (Kd.bJ fB.out (Bq HB)) fM.out A2.out).mono ?_;rintro e w5 ⟨aL8,awO,rfl,ho0,ho1,hb⟩;have wU:=aA.mk (Kd.eF ho0 (dH (Bq HB)));have xM:=aA.mk (Kd.eF ho1 (dH (Bq HB)));replace kQ:=bb kQ hb;replace HB:=bs HB hb;(try clear hb);(try clear ho0);(try clear ho1);obtain⟨Ao6,co6,rfl⟩:=Kd.dA wU.out))
 repeat(go_quiet (fail);try go_wp2)
 go_loopg [2,3,16] k (fun kq v2 v3 v16 w'=>∃ (aeP:List Int) (iY:List Int) (gK:Int),v16=.int .i64 gK/\aA (vO.l0 kq aeP iY t138 t132 t135 (t132.length:Int) gK=some (r1,r2,r3))/\aA (kq<=k)/\aA (Kd.R (Kd.int .i64) 3 w' w.heap.size (fun k_=>some k_≠(v3:Value).ownBlock) v2 aeP)/\aA (Kd.R (Kd.int .i64) 3 w' w.heap.size (fun k_=>some k_≠(v2:Value).ownBlock) v3 iY)/\aA (Kd.R iD 42 w' w.heap.size (fun k_=>some k_≠(awO:Value).ownBlock) (.slice Ao6 t132.length co6) t132)/\aA (Kd.R iD 42 w' w.heap.size (fun k_=>some k_≠((.slice Ao6 t132.length co6):Value).ownBlock) awO t135)/\aA (w'.heap[GY]? =some (.cells #[(.slice aQ aG.length aK),(.slice aT aC.length aJ)] 25 (0,0)))/\aA (Below w.heap.size w w'))
 case atStart=>exact⟨(([]:List Int)),(([]:List Int)),(0),(by first|rfl|(simp;done)|(simp[*];done)),H',⟨Nat.le_refl _⟩,⟨by first|exact Kd.xI _ _ _ _ _|exact Kd.TQ _ _ _ _ _|exact Kd.TR _ _ _ _ _|exact Kd.TM _ _ _ _ _|exact Kd.TP _ _ _ _ _⟩,⟨by first|exact Kd.xI _ _ _ _ _|exact Kd.TQ _ _ _ _ _|exact Kd.TR _ _ _ _ _|exact Kd.TM _ _ _ _ _|exact Kd.TP _ _ _ _ _⟩,⟨R_ wU⟩,⟨R_ xM⟩,⟨b_ kQ⟩,⟨Bq HB⟩⟩
 case round=>as_aux_lemma=>
  clear H'
  try clear atP
  try clear atQ
  try clear bk4
  try clear bk5
  obtain⟨aeP,iY,gK,rfl,HA,fV,SK,gZ,bP,dS,kQ,HB⟩:=hrel
  rcases gk with _|k1
  ·exact absurd HA.out (by simp[vO.l0])
  have H:=HA.out
  clear HA
  simp only[vO.l0]at H
  by_cases c7:gK<(t132.length:Int)
  ·rw[if_pos c7]at H
   have afF:decide (gK<(t132.length:Int))=true:=decide_eq_true c7
   clear c7
   by_cases c8:0<=gK
   ·rw[if_pos c8]at H
    have aDL:decide (0<=gK)=true:=decide_eq_true c8
    clear c8
    by_cases c9:gK<(t132.length:Int)
    ·rw[if_pos c9]at H
     have QC:decide (gK<(t132.length:Int))=true:=decide_eq_true c9
     clear c9
     by_cases c10:gK<(t135.length:Int)
     ·rw[if_pos c10]at H
      have anN:decide (gK<(t135.length:Int))=true:=decide_eq_true c10
      clear c10
      by_cases c11:(wrap64 (((bM t132 gK).f1)+((bM t135 gK).f1)))=0
      ·rw[if_pos c11]at H
       have aZ2:((wrap64 (((bM t132 gK).f1)+((bM t135 gK).f1)))==0)=true:=beq_iff_eq.mpr c11
       have aZ3:((wrap64 (((bM t132 gK).f1)+((bM t135 gK).f1)))!=0)=false:=bne_eq_false_iff_eq.mpr c11
       clear c11
       by_cases c12:aeP.length<17592186044416
       ·rw[if_pos c12]at H
        have a0L:=aA.mk c12
        clear c12
        obtain⟨ajD,ayJ⟩:∃ y_:List Int,y_=(aeP++[gK]):=⟨_,rfl⟩
        replace H:(if(wrap64 (((bM t132 gK).f0)+((bM t135 gK).f0)))=0 then(if iY.length<17592186044416 then(vO.l0 k1 ajD (iY++[gK]) t138 t132 t135 (t132.length:Int) (wrap64 (gK+1)))else(none))else(vO.l0 k1 ajD iY t138 t132 t135 (t132.length:Int) (wrap64 (gK+1))))=some (r1,r2,r3):=by first|(rw[ayJ];with_reducible exact H)|(have dJ:=(Option.bind_some _ _).symm.trans H;rw[ayJ];with_reducible exact dJ)|(have dJ:=(Option.bind_some _ _).symm.trans H;with_reducible exact dJ)|with_reducible exact H|(rw[ayJ];exact H)|exact H
        have a0M:=aA.mk ayJ
        clear ayJ
        by_cases c13:(wrap64 (((bM t132 gK).f0)+((bM t135 gK).f0)))=0
        ·rw[if_pos c13]at H
         have aNZ:((wrap64 (((bM t132 gK).f0)+((bM t135 gK).f0)))==0)=true:=beq_iff_eq.mpr c13
         have aN0:((wrap64 (((bM t132 gK).f0)+((bM t135 gK).f0)))!=0)=false:=bne_eq_false_iff_eq.mpr c13
         clear c13
         by_cases c14:iY.length<17592186044416
         ·rw[if_pos c14]at H
          have aN1:=aA.mk c14
          clear c14
          obtain⟨a0N,ayK⟩:∃ y_:List Int,y_=(iY++[gK]):=⟨_,rfl⟩
          replace H:(vO.l0 k1 ajD a0N t138 t132 t135 (t132.length:Int) (wrap64 (gK+1)))=some (r1,r2,r3):=by first|(rw[ayK];with_reducible exact H)|(have dJ:=(Option.bind_some _ _).symm.trans H;rw[ayK];with_reducible exact dJ)|(have dJ:=(Option.bind_some _ _).symm.trans H;with_reducible exact dJ)|with_reducible exact H|(rw[ayK];exact H)|exact H
          have bnR:=aA.mk ayK
          clear ayK
          have H':=aA.mk H
          clear H
          have VW:0<=(gK:Int):=od
          have VX:gK<(t132.length:Int):=od
          obtain⟨aoF,aoG,aOD,aOE⟩:=rE (Kd.dB bP.out).2.2 gK VW VX
          cases aoG
          replace VW:=eq_true VW
          replace VX:=eq_true VX
          obtain⟨VY,VZ,rfl⟩:=Kd.dA dS.out
          have DD:0<=(gK:Int):=od
          have DF:gK<(t135.length:Int):=od
          obtain⟨afG,abD,auG,auH⟩:=rE (Kd.dB dS.out).2.2 gK DD DF
          cases abD
          replace DD:=eq_true DD
          replace DF:=eq_true DF
          go_wp2_with (fail)
          repeat(go_quiet (fail);try go_wp2_with (first|((with_reducible refine VC (b:=.append) (xs:=#[.tmp 31,.tmp 33]) rfl ?_);at_builtin;refine Kd.WR (Kd.int .i64) (w0:=w) w.heap.size rfl (.tmp 31) (.tmp 33) 34 3 (.int .i64 0) 8 rfl Tryd.underlying34 info3 rfl (by decide) (by omega) u2 aeP gK [.int .i64 gK] (fun k_=>some k_≠(u3:Value).ownBlock) (fun _=>False) rfl rfl ?aP (fun _ hk=>hk.elim) ?aF ?aO ?aB ?aS ?aL ?_;(case aP=>exact rfl);(case aB=>exact(Bq HB));(case aF=>exact(fun k_ hk=>Kd.fresh' (Kd.dY (R_ gZ)) k_ hk));(case aO=>exact(R_ SK));(case aS=>exact(dH (Bq HB)));(case aL=>have:=a0L.out;omega);intro aEP w16 ho hb hg hat;rw[<-a0M.out]at ho;have aV:=aA.mk (Kd.GI (ok:=(fun _=>True)) (Kd.bQ (R_ gZ) (fun _ hk=>⟨trivial,hk⟩)) hg hat);have aW:=aA.mk (Kd.mO (R_ bP) (Kd.mM (R_ SK)) (by decide) hg);have aY:=aA.mk (Kd.mO (R_ dS) (Kd.mM (R_ SK)) (by decide) hg);have bI:=aA.mk (oM (g:=GY) (o:=.cells #[.slice aQ aG.length aK,.slice aT aC.length aJ] 25 (0,0)) (b_ kQ) hg (Kd.mW SK.out kQ.out (by decide)));have cO:=aA.mk (hb);have gY:=aA.mk (ho);clear gZ;clear bP;clear dS;clear kQ;clear HB;clear SK;have gZ:=aV;have bP:=aW;have dS:=aY;have kQ:=bI;have HB:=cO;have UF:=gY;clear aV aW aY bI cO gY;clear ho hb hg hat;have abE:0<=(gK:Int):=od;have abG:gK<(t132.length:Int):=od;obtain⟨auI,auJ,aUD,bnS⟩:=rE (Kd.dB bP.out).2.2 gK abE abG;obtain rfl:aoF=auI:=(by injection auJ);replace abE:=eq_true abE;replace abG:=eq_true abG;have abH:0<=(gK:Int):=od;have abI:gK<(t135.length:Int):=od;obtain⟨auK,auL,aUE,bnT⟩:=rE (Kd.dB dS.out).2.2 gK abH abI;obtain rfl:afG=auK:=(by injection auL);replace abH:=eq_true abH;replace abI:=eq_true abI)|((with_reducible refine VC (b:=.append) (xs:=#[.tmp 47,.tmp 49]) rfl ?_);at_builtin;refine Kd.WR (Kd.int .i64) (w0:=w) w.heap.size rfl (.tmp 47) (.tmp 49) 34 3 (.int .i64 0) 8 rfl Tryd.underlying34 info3 rfl (by decide) (by omega) u3 iY gK [.int .i64 gK] (fun k_=>some k_≠(aEP:Value).ownBlock) (fun _=>False) rfl rfl ?aP (fun _ hk=>hk.elim) ?aF ?aO ?aB ?aS ?aL ?_;(case aP=>exact rfl);(case aB=>exact(Bq HB));(case aF=>exact(fun k_ hk=>Kd.fresh' (Kd.dY (R_ UF)) k_ hk));(case aO=>exact(Kd.bQ (R_ gZ) (fun _ hk=>hk.2)));(case aS=>exact(dH (Bq HB)));(case aL=>have:=aN1.out;omega);intro v147 uS ho hb hg hat;rw[<-bnR.out]at ho;have aV:=aA.mk (Kd.mO (R_ bP) (Kd.mM (R_ gZ)) (by decide) hg);have aW:=aA.mk (Kd.mO (R_ dS) (Kd.mM (R_ gZ)) (by decide) hg);have aY:=aA.mk (oM (g:=GY) (o:=.cells #[.slice aQ aG.length aK,.slice aT aC.length aJ] 25 (0,0)) (b_ kQ) hg (Kd.mW gZ.out kQ.out (by decide)));have bI:=aA.mk (Kd.GI (ok:=(fun _=>True)) (Kd.bQ (R_ UF) (fun _ hk=>⟨trivial,hk⟩)) hg hat);have cO:=aA.mk (hb);have gY:=aA.mk (ho);clear bP;clear dS;clear kQ;clear UF;clear HB;clear gZ;have bP:=aV;have dS:=aW;have kQ:=aY;have UF:=bI;have HB:=cO;have bnU:=gY;clear aV aW aY bI cO gY;clear ho hb hg hat)))
          go_roundg k1
          case measure=>have:=fV.out;omega
          case rel=>exact⟨(ajD),(a0N),(wrap64 (gK+1)),(by first|rfl|(simp;done)|(simp[*];done)),H',⟨by have:=fV.out;omega⟩,⟨Kd.bQ (R_ UF) (fun _ hk=>hk.2)⟩,⟨R_ bnU⟩,⟨R_ bP⟩,⟨R_ dS⟩,⟨b_ kQ⟩,⟨Bq HB⟩⟩
         rw[if_neg c14]at H
         exact absurd H (by simp)
        rw[if_neg c13]at H
        have aNZ:((wrap64 (((bM t132 gK).f0)+((bM t135 gK).f0)))==0)=false:=beq_eq_false_iff_ne.mpr c13
        have aN0:((wrap64 (((bM t132 gK).f0)+((bM t135 gK).f0)))!=0)=true:=bne_iff_ne.mpr c13
        have H':=aA.mk H
        clear H
        have VW:0<=(gK:Int):=od
        have VX:gK<(t132.length:Int):=od
        obtain⟨aoF,aoG,aOD,aOE⟩:=rE (Kd.dB bP.out).2.2 gK VW VX
        cases aoG
        replace VW:=eq_true VW
        replace VX:=eq_true VX
        obtain⟨aOF,aOG,rfl⟩:=Kd.dA dS.out
        have DD:0<=(gK:Int):=od
        have DF:gK<(t135.length:Int):=od
        obtain⟨afG,abD,auG,auH⟩:=rE (Kd.dB dS.out).2.2 gK DD DF
        cases abD
        replace DD:=eq_true DD
        replace DF:=eq_true DF
        go_wp2_with (fail)
        repeat(go_quiet (fail);try go_wp2_with (first|((with_reducible refine VC (b:=.append) (xs:=#[.tmp 31,.tmp 33]) rfl ?_);at_builtin;refine Kd.WR (Kd.int .i64) (w0:=w) w.heap.size rfl (.tmp 31) (.tmp 33) 34 3 (.int .i64 0) 8 rfl Tryd.underlying34 info3 rfl (by decide) (by omega) u2 aeP gK [.int .i64 gK] (fun k_=>some k_≠(u3:Value).ownBlock) (fun _=>False) rfl rfl ?aP (fun _ hk=>hk.elim) ?aF ?aO ?aB ?aS ?aL ?_;(case aP=>exact rfl);(case aB=>exact(Bq HB));(case aF=>exact(fun k_ hk=>Kd.fresh' (Kd.dY (R_ gZ)) k_ hk));(case aO=>exact(R_ SK));(case aS=>exact(dH (Bq HB)));(case aL=>have:=a0L.out;omega);intro aEP xU ho hb hg hat;rw[<-a0M.out]at ho;have aV:=aA.mk (Kd.GI (ok:=(fun _=>True)) (Kd.bQ (R_ gZ) (fun _ hk=>⟨trivial,hk⟩)) hg hat);have aW:=aA.mk (Kd.mO (R_ bP) (Kd.mM (R_ SK)) (by decide) hg);have aY:=aA.mk (Kd.mO (R_ dS) (Kd.mM (R_ SK)) (by decide) hg);have bI:=aA.mk (oM (g:=GY) (o:=.cells #[.slice aQ aG.length aK,.slice aT aC.length aJ] 25 (0,0)) (b_ kQ) hg (Kd.mW SK.out kQ.out (by decide)));have cO:=aA.mk (hb);have gY:=aA.mk (ho);clear gZ;clear bP;clear dS;clear kQ;clear HB;clear SK;have gZ:=aV;have bP:=aW;have dS:=aY;have kQ:=bI;have HB:=cO;have UF:=gY;clear aV aW aY bI cO gY;clear ho hb hg hat;have abE:0<=(gK:Int):=od;have abG:gK<(t132.length:Int):=od;obtain⟨auI,auJ,aUD,bnS⟩:=rE (Kd.dB bP.out).2.2 gK abE abG;obtain rfl:aoF=auI:=(by injection auJ);replace abE:=eq_true abE;replace abG:=eq_true abG;have abH:0<=(gK:Int):=od;have abI:gK<(t135.length:Int):=od;obtain⟨auK,auL,aUE,bnT⟩:=rE (Kd.dB dS.out).2.2 gK abH abI;obtain rfl:afG=auK:=(by injection auL);replace abH:=eq_true abH;replace abI:=eq_true abI)))
        go_roundg k1
        case measure=>have:=fV.out;omega
        case rel=>exact⟨(ajD),(iY),(wrap64 (gK+1)),(by first|rfl|(simp;done)|(simp[*];done)),H',⟨by have:=fV.out;omega⟩,⟨R_ UF⟩,⟨Kd.bQ (R_ gZ) (fun _ hk=>hk.2)⟩,⟨R_ bP⟩,⟨R_ dS⟩,⟨b_ kQ⟩,⟨Bq HB⟩⟩
       rw[if_neg c12]at H
       exact absurd H (by simp)
      rw[if_neg c11]at H
      have aZ2:((wrap64 (((bM t132 gK).f1)+((bM t135 gK).f1)))==0)=false:=beq_eq_false_iff_ne.mpr c11
      have aZ3:((wrap64 (((bM t132 gK).f1)+((bM t135 gK).f1)))!=0)=true:=bne_iff_ne.mpr c11
      by_cases c20:(wrap64 (((bM t132 gK).f0)+((bM t135 gK).f0)))=0
      ·rw[if_pos c20]at H
       have arX:((wrap64 (((bM t132 gK).f0)+((bM t135 gK).f0)))==0)=true:=beq_iff_eq.mpr c20
       have bnV:((wrap64 (((bM t132 gK).f0)+((bM t135 gK).f0)))!=0)=false:=bne_eq_false_iff_eq.mpr c20
       clear c20
       by_cases c21:iY.length<17592186044416
       ·rw[if_pos c21]at H
        have bnW:=aA.mk c21
        clear c21
        obtain⟨y151,hy151⟩:∃ y_:List Int,y_=(iY++[gK]):=⟨_,rfl⟩
        replace H:(vO.l0 k1 aeP y151 t138 t132 t135 (t132.length:Int) (wrap64 (gK+1)))=some (r1,r2,r3):=by first|(rw[hy151];with_reducible exact H)|(have dJ:=(Option.bind_some _ _).symm.trans H;rw[hy151];with_reducible exact dJ)|(have dJ:=(Option.bind_some _ _).symm.trans H;with_reducible exact dJ)|with_reducible exact H|(rw[hy151];exact H)|exact H
        have aD9:=aA.mk hy151
        clear hy151
        have H':=aA.mk H
        clear H
        have VW:0<=(gK:Int):=od
        have VX:gK<(t132.length:Int):=od
        obtain⟨aoF,aoG,aOD,aOE⟩:=rE (Kd.dB bP.out).2.2 gK VW VX
        cases aoG
        replace VW:=eq_true VW
        replace VX:=eq_true VX
        obtain⟨Ao22,co22,rfl⟩:=Kd.dA dS.out
        have DD:0<=(gK:Int):=od
        have DF:gK<(t135.length:Int):=od
        obtain⟨afG,abD,auG,auH⟩:=rE (Kd.dB dS.out).2.2 gK DD DF
        cases abD
        replace DD:=eq_true DD
        replace DF:=eq_true DF
        have PH:0<=(gK:Int):=od
        have PI:gK<(t132.length:Int):=od
        obtain⟨arI,af6,aEY,bnX⟩:=rE (Kd.dB bP.out).2.2 gK PH PI
        obtain rfl:aoF=arI:=(by injection af6)
        replace PH:=eq_true PH
        replace PI:=eq_true PI
        have VP:0<=(gK:Int):=od
        have VQ:gK<(t135.length:Int):=od
        obtain⟨awY,anM,aMZ,bnY⟩:=rE (Kd.dB dS.out).2.2 gK VP VQ
        obtain rfl:afG=awY:=(by injection anM)
        replace VP:=eq_true VP
        replace VQ:=eq_true VQ
        go_wp2_with (fail)
        repeat(go_quiet (fail);try go_wp2_with (first|((with_reducible refine VC (b:=.append) (xs:=#[.tmp 47,.tmp 49]) rfl ?_);at_builtin;refine Kd.WR (Kd.int .i64) (w0:=w) w.heap.size rfl (.tmp 47) (.tmp 49) 34 3 (.int .i64 0) 8 rfl Tryd.underlying34 info3 rfl (by decide) (by omega) u3 iY gK [.int .i64 gK] (fun k_=>some k_≠(u2:Value).ownBlock) (fun _=>False) rfl rfl ?aP (fun _ hk=>hk.elim) ?aF ?aO ?aB ?aS ?aL ?_;(case aP=>exact rfl);(case aB=>exact(Bq HB));(case aF=>exact(fun k_ hk=>Kd.fresh' (Kd.dY (R_ SK)) k_ hk));(case aO=>exact(R_ gZ));(case aS=>exact(dH (Bq HB)));(case aL=>have:=bnW.out;omega);intro v152 EZ ho hb hg hat;rw[<-aD9.out]at ho;have aV:=aA.mk (Kd.GI (ok:=(fun _=>True)) (Kd.bQ (R_ SK) (fun _ hk=>⟨trivial,hk⟩)) hg hat);have aW:=aA.mk (Kd.mO (R_ bP) (Kd.mM (R_ gZ)) (by decide) hg);have aY:=aA.mk (Kd.mO (R_ dS) (Kd.mM (R_ gZ)) (by decide) hg);have bI:=aA.mk (oM (g:=GY) (o:=.cells #[.slice aQ aG.length aK,.slice aT aC.length aJ] 25 (0,0)) (b_ kQ) hg (Kd.mW gZ.out kQ.out (by decide)));have cO:=aA.mk (hb);have gY:=aA.mk (ho);clear SK;clear bP;clear dS;clear kQ;clear HB;clear gZ;have SK:=aV;have bP:=aW;have dS:=aY;have kQ:=bI;have HB:=cO;have aEB:=gY;clear aV aW aY bI cO gY;clear ho hb hg hat)))
        go_roundg k1
        case measure=>have:=fV.out;omega
        case rel=>exact⟨(aeP),(y151),(wrap64 (gK+1)),(by first|rfl|(simp;done)|(simp[*];done)),H',⟨by have:=fV.out;omega⟩,⟨Kd.bQ (R_ SK) (fun _ hk=>hk.2)⟩,⟨R_ aEB⟩,⟨R_ bP⟩,⟨R_ dS⟩,⟨b_ kQ⟩,⟨Bq HB⟩⟩
       rw[if_neg c21]at H
       exact absurd H (by simp)
      rw[if_neg c20]at H
      have arX:((wrap64 (((bM t132 gK).f0)+((bM t135 gK).f0)))==0)=false:=beq_eq_false_iff_ne.mpr c20
      have bnV:((wrap64 (((bM t132 gK).f0)+((bM t135 gK).f0)))!=0)=true:=bne_iff_ne.mpr c20
      have H':=aA.mk H
      clear H
      have VW:0<=(gK:Int):=od
      have VX:gK<(t132.length:Int):=od
      obtain⟨aoF,aoG,aOD,aOE⟩:=rE (Kd.dB bP.out).2.2 gK VW VX
      cases aoG
      replace VW:=eq_true VW
      replace VX:=eq_true VX
      obtain⟨qM,qC,rfl⟩:=Kd.dA dS.out
      have DD:0<=(gK:Int):=od
      have DF:gK<(t135.length:Int):=od
      obtain⟨afG,abD,auG,auH⟩:=rE (Kd.dB dS.out).2.2 gK DD DF
      cases abD
      replace DD:=eq_true DD
      replace DF:=eq_true DF
      have PH:0<=(gK:Int):=od
      have PI:gK<(t132.length:Int):=od
      obtain⟨arI,af6,aEY,bnX⟩:=rE (Kd.dB bP.out).2.2 gK PH PI
      obtain rfl:aoF=arI:=(by injection af6)
      replace PH:=eq_true PH
      replace PI:=eq_true PI
      have VP:0<=(gK:Int):=od
      have VQ:gK<(t135.length:Int):=od
      obtain⟨awY,anM,aMZ,bnY⟩:=rE (Kd.dB dS.out).2.2 gK VP VQ
      obtain rfl:afG=awY:=(by injection anM)
      replace VP:=eq_true VP
      replace VQ:=eq_true VQ
      go_wp2
      repeat(go_quiet (fail);try go_wp2)
      go_roundg k1
      case measure=>have:=fV.out;omega
      case rel=>exact⟨(aeP),(iY),(wrap64 (gK+1)),(by first|rfl|(simp;done)|(simp[*];done)),H',⟨by have:=fV.out;omega⟩,⟨R_ SK⟩,⟨R_ gZ⟩,⟨R_ bP⟩,⟨R_ dS⟩,⟨b_ kQ⟩,⟨Bq HB⟩⟩
     rw[if_neg c10]at H
     exact absurd H (by simp)
    rw[if_neg c9]at H
    exact absurd H (by simp)
   rw[if_neg c8]at H
   exact absurd H (by simp)
  rw[if_neg c7]at H
  have afF:decide (gK<(t132.length:Int))=false:=decide_eq_false c7
  clear c7
  simp only[Option.some.injEq,Prod.mk.injEq]at H
  obtain⟨rfl,rfl,rfl⟩:=H
  go_wp2
  repeat(go_quiet (fail);try go_wp2)
  go_ret3
  exact⟨_,_,by first|rfl|(simp[iU,iV]<;>rfl)|(simp[*,iU,iV]<;>rfl),R_ SK,by(with_reducible repeat(first|apply Kd.fQ|apply Kd.fU|apply Kd.dG));exact gZ.out,Bq HB⟩
end Go.Proofs.YtcmfnebcmmklkaaDoor.Q
namespace Go.Proofs.YtcmfnebcmmklkaaDoor.Hand
open Go.RowKit Go.Shelf Go.Proofs.YtcmfnebcmmklkaaDoorW.dQ Go.Proofs.YtcmfnebcmmklkaaDoorW.gG Go.Proofs.YtcmfnebcmmklkaaDoor.Q
attribute [local go_sem] run_store_func
theorem a1D {w:World} {A:Option Addr} {n:Nat} {xs:List (List Int)} (h:Kd.C kLs w A n xs) (i:Nat) (h1:i<n):∃ ad A' c',A=some ad/\w.cell? (ad.add i)=some (.slice A' (xs.getD i []).length c')/\(xs.getD i []).length<=c'/\Kd.C (Kd.int .i64) w A' (xs.getD i []).length (xs.getD i []):=by
 obtain⟨ad,c,e,_,hK,hc⟩:=Kd.amH h [] (i:Int) (by omega) (by omega)
 rw[Int.toNat_natCast]at hK hc
 obtain⟨A',c',rfl,hl,hC⟩:=hK
 have:=hc 0 _ rfl
 rw[show kLs.sz=1 from rfl,Nat.mul_one,Nat.add_zero]at this
 exact⟨ad,A',c',e,this,hl,hC⟩
theorem a1E (d:List Int) (i b:Nat) (hi:i<d.length) (A:Option Addr) (c:Nat) (w:World) (hr:Kd.C (Kd.int .i64) w A d.length d) (hb:Box w b #[.int .i64 (i:Int)] 3):
  Calls Tryd.prog 81 #[.slice A d.length c,.pointer (some ⟨b,0,none⟩)] w fun e w'=>e=.returned (.bool (d.getD i 0 !=0))/\Below w.heap.size w w':=by
 obtain⟨ad,e,h0⟩:=Kd.BL hr i (by omega) (by omega)
 subst e
 rw[Int.toNat_natCast]at h0
 have h0:w.cell? (ad.add i)=some (.int .i64 (d.getD i 0)):=h0
 have hc:=hb.cell 0 rfl
 go_enter Tryd.func81,Tryd.ntmps81
 go_wp2
 go_ret
 exact⟨rfl,Below.refl _ _⟩
theorem boZ (d:List Int) (i b b2:Nat) (hi:i<d.length) (A:Option Addr) (c:Nat) (w:World) (hr:Kd.C (Kd.int .i64) w A d.length d) (hb:Box w b #[.int .i64 (i:Int)] 3) (hb2:Box w b2 #[.func (.func 81) #[] #[.pointer (some ⟨b,0,none⟩)]] 144):
  Calls Tryd.prog 83 #[.slice A d.length c,.pointer (some ⟨b2,0,none⟩)] w fun e w'=>e=.returned (.bool (!(d.getD i 0 !=0)))/\Below w.heap.size w w':=by
 have hm:=Lib.hid (a1E d i b hi A c w hr hb)
 obtain⟨x,hx⟩:∃ x,d.getD i 0=x:=⟨_,rfl⟩
 rw[hx]at hm ⊢
 clear hx
 have hc:w.cell? ⟨b2,0,none⟩=some (.func (.func 81) #[] #[.pointer (some ⟨b,0,none⟩)]):=hb2.cell 0 rfl
 go_enter Tryd.func83,Tryd.ntmps83
 go_wp2_with fail
 refine hm.out.mono ?_
 rintro e w1 ⟨rfl,hb1⟩
 clear hc
 go_wp2
 go_ret
 exact⟨rfl,hb1⟩
theorem bo0 (p:List Int->Bool) (xs:List (List Int)) (A:Option Addr) (c b:Nat) (w:World) (hr:Kd.C kLs w A xs.length xs)
  (hp:∀ x∈xs,∀ W,Below w.heap.size w W->∀ A' c',Kd.C (Kd.int .i64) W A' x.length x->Calls Tryd.prog 81 #[.slice A' x.length c',.pointer (some ⟨b,0,none⟩)] W fun e W'=>e=.returned (.bool (p x))/\Below W.heap.size W W'):
  Calls Tryd.prog 106 #[.slice A xs.length c,.func (.func 81) #[] #[.pointer (some ⟨b,0,none⟩)]] w fun e w'=>e=.returned (.int .i64 (DX p xs 0))/\Below w.heap.size w w':=by
 have hm:=hr.2.1
 have hq:=Lib.hid hp
 clear hp
 go_enter Tryd.func106,Tryd.ntmps106
 go_wp2
 go_loopw [5,8] (fun v i w'=>∃ k:Nat,k<=xs.length/\i=.int .i64 k/\Hid (DX p xs 0=DX p (xs.drop k) k)/\Below w.heap.size w w') (fun _ i _=>xs.length - (intOf i).toNat)
 case atStart=>exact⟨0,Nat.zero_le _,rfl,rfl,Below.refl _ _⟩
 case round=>
  obtain⟨k,hk,rfl,hf,hB⟩:=hrel
  by_cases hlt:k<xs.length
  ·obtain⟨ad,A',c',e,h0,hl,hC⟩:=a1D (Kd.bJ hr hB) k hlt
   subst e
   have hd':=awD p [] xs k hlt
   have hxm:xs.getD k []∈xs:=getD_mem (by simpa using hlt) _
   obtain⟨x,hx⟩:∃ x,xs.getD k []=x:=⟨_,rfl⟩
   rw[hx]at hd' hxm h0 hl hC
   have hd:=Lib.hid hd'
   clear hd' hx
   obtain⟨s,hs⟩:∃ s,p x=s:=⟨_,rfl⟩
   have Hs:=Lib.hid hs
   clear hs
   have hc:=Lib.hid (hq.out x hxm _ hB A' c' hC)
   clear hxm hC
   cases s
   all_goals
    go_wp2_with fail
    refine hc.out.mono ?_
    rintro e w1 ⟨rfl,hb1⟩
    rw[Hs.out]
    have hB1:Below w.heap.size w w1:=hB.trans (hb1.mono hB.size)
    go_wp2
   ·go_roundw
    case rel=>exact⟨k+1,by omega,by go_num,Lib.hid (by have h5:=hd.out;rw[Hs.out]at h5;rw[hf.out,h5];rfl),hB1⟩
    case measure=>simp[intOf];omega
   ·go_ret
    exact⟨TS (by have h5:=hd.out;rw[Hs.out]at h5;rw[hf.out,h5];rfl),hB1⟩
  ·go_wp2
   go_ret
   exact⟨TS (by rw[hf.out,List.drop_eq_nil_of_le (by omega)];rfl),hB⟩
theorem bo1 (p:List Int->Bool) (xs:List (List Int)) (A:Option Addr) (c b:Nat) (w:World) (hr:Kd.C kLs w A xs.length xs)
  (hp:∀ x∈xs,∀ W,Below w.heap.size w W->∀ A' c',Kd.C (Kd.int .i64) W A' x.length x->Calls Tryd.prog 81 #[.slice A' x.length c',.pointer (some ⟨b,0,none⟩)] W fun e W'=>e=.returned (.bool (p x))/\Below W.heap.size W W'):
  Calls Tryd.prog 82 #[.slice A xs.length c,.func (.func 81) #[] #[.pointer (some ⟨b,0,none⟩)]] w fun e w'=>e=.returned (.bool (xs.any p))/\Below w.heap.size w w':=by
 have hq:=Lib.hid (awE p xs)
 have hc:=Lib.hid (bo0 p xs A c b w hr hp)
 clear hp
 go_enter Tryd.func82,Tryd.ntmps82
 go_wp2_with fail
 refine hc.out.mono ?_
 rintro e w' ⟨rfl,hbl⟩
 go_wp2
 go_ret
 exact⟨QB hq.out,hbl⟩
theorem bo2 (p:List Int->Bool) (xs:List (List Int)) (A:Option Addr) (c b:Nat) (w:World) (hr:Kd.C kLs w A xs.length xs)
  (hp:∀ x∈xs,∀ W,Below w.heap.size w W->∀ A' c',Kd.C (Kd.int .i64) W A' x.length x->Calls Tryd.prog 83 #[.slice A' x.length c',.pointer (some ⟨b,0,none⟩)] W fun e W'=>e=.returned (.bool (p x))/\Below W.heap.size W W'):
  Calls Tryd.prog 106 #[.slice A xs.length c,.func (.func 83) #[] #[.pointer (some ⟨b,0,none⟩)]] w fun e w'=>e=.returned (.int .i64 (DX p xs 0))/\Below w.heap.size w w':=by
 have hm:=hr.2.1
 have hq:=Lib.hid hp
 clear hp
 go_enter Tryd.func106,Tryd.ntmps106
 go_wp2
 go_loopw [5,8] (fun v i w'=>∃ k:Nat,k<=xs.length/\i=.int .i64 k/\Hid (DX p xs 0=DX p (xs.drop k) k)/\Below w.heap.size w w') (fun _ i _=>xs.length - (intOf i).toNat)
 case atStart=>exact⟨0,Nat.zero_le _,rfl,rfl,Below.refl _ _⟩
 case round=>
  obtain⟨k,hk,rfl,hf,hB⟩:=hrel
  by_cases hlt:k<xs.length
  ·obtain⟨ad,A',c',e,h0,hl,hC⟩:=a1D (Kd.bJ hr hB) k hlt
   subst e
   have hd':=awD p [] xs k hlt
   have hxm:xs.getD k []∈xs:=getD_mem (by simpa using hlt) _
   obtain⟨x,hx⟩:∃ x,xs.getD k []=x:=⟨_,rfl⟩
   rw[hx]at hd' hxm h0 hl hC
   have hd:=Lib.hid hd'
   clear hd' hx
   obtain⟨s,hs⟩:∃ s,p x=s:=⟨_,rfl⟩
   have Hs:=Lib.hid hs
   clear hs
   have hc:=Lib.hid (hq.out x hxm _ hB A' c' hC)
   clear hxm hC
   cases s
   all_goals
    go_wp2_with fail
    refine hc.out.mono ?_
    rintro e w1 ⟨rfl,hb1⟩
    rw[Hs.out]
    have hB1:Below w.heap.size w w1:=hB.trans (hb1.mono hB.size)
    go_wp2
   ·go_roundw
    case rel=>exact⟨k+1,by omega,by go_num,Lib.hid (by have h5:=hd.out;rw[Hs.out]at h5;rw[hf.out,h5];rfl),hB1⟩
    case measure=>simp[intOf];omega
   ·go_ret
    exact⟨TS (by have h5:=hd.out;rw[Hs.out]at h5;rw[hf.out,h5];rfl),hB1⟩
  ·go_wp2
   go_ret
   exact⟨TS (by rw[hf.out,List.drop_eq_nil_of_le (by omega)];rfl),hB⟩
theorem bo3 (p:List Int->Bool) (xs:List (List Int)) (A:Option Addr) (c b:Nat) (w:World) (hr:Kd.C kLs w A xs.length xs)
  (hp:∀ x∈xs,∀ W,Below w.heap.size w W->∀ A' c',Kd.C (Kd.int .i64) W A' x.length x->Calls Tryd.prog 83 #[.slice A' x.length c',.pointer (some ⟨b,0,none⟩)] W fun e W'=>e=.returned (.bool (p x))/\Below W.heap.size W W'):
  Calls Tryd.prog 82 #[.slice A xs.length c,.func (.func 83) #[] #[.pointer (some ⟨b,0,none⟩)]] w fun e w'=>e=.returned (.bool (xs.any p))/\Below w.heap.size w w':=by
 have hq:=Lib.hid (awE p xs)
 have hc:=Lib.hid (bo2 p xs A c b w hr hp)
 clear hp
 go_enter Tryd.func82,Tryd.ntmps82
 go_wp2_with fail
 refine hc.out.mono ?_
 rintro e w' ⟨rfl,hbl⟩
 go_wp2
 go_ret
 exact⟨QB hq.out,hbl⟩
attribute [local go_sem] run_store_func
def agM (c:Nat) (d:List Int):Bool:=d.getD c 0 !=0
def UT (xs:List (List Int)) (n:Nat):List Int:=((List.range n).filter fun c=>xs.any (agM c)).map Int.ofNat
def QR (xs:List (List Int)) (n:Nat):List Int:=((List.range n).filter fun c=> !xs.any fun d=> !agM c d).map Int.ofNat
theorem bo4 (xs:List (List Int)) (n:Nat):(UT xs n).length<=n:=by
 unfold UT
 rw[List.length_map]
 exact Nat.le_trans (List.length_filter_le _ _) (by simp)
theorem bo5 (xs:List (List Int)) (n:Nat):(QR xs n).length<=n:=by
 unfold QR
 rw[List.length_map]
 exact Nat.le_trans (List.length_filter_le _ _) (by simp)
theorem bo6 (xs:List (List Int)) (n:Nat):UT xs (n+1)=UT xs n++(if xs.any (agM n)=true then[(n:Int)]else[]):=by
 unfold UT
 rw[List.range_succ,List.filter_append,List.map_append]
 congr 1
 simp only[List.filter_cons,List.filter_nil]
 split<;>simp
theorem bo7 (xs:List (List Int)) (n:Nat):QR xs (n+1)=QR xs n++(if(xs.any fun d=> !agM n d)=true then[]else[(n:Int)]):=by
 unfold QR
 rw[List.range_succ,List.filter_append,List.map_append]
 congr 1
 simp only[List.filter_cons,List.filter_nil]
 cases h:(xs.any fun d=> !agM n d)<;>simp
def aGE (R:pU) (cs:List gQ) (most:Int):List Int:=if xZ R cs most=0 then QR (wL R cs most) cs.length else[]
def aGF (R:pU) (cs:List gQ) (most:Int):List Int:=if xZ R cs most=0 then UT (wL R cs most) cs.length else[]
theorem bo8 (R:pU) (cs:List gQ) (most:Int) (A:Option Addr) (cp:Nat) (w:World) (hr:Kd.C vC w A cs.length cs):
  Calls Tryd.prog 36 #[aeI R,.slice A cs.length cp,.int .i64 most] w fun e w'=>∃ v6 v7,e=.returned (.tuple #[v6,v7,.int .i64 (xZ R cs most)])/\
   eH w' w.heap.size v6 (aGE R cs most)/\eH w' w.heap.size v7 (aGF R cs most)/\adY v6 v7/\Below w.heap.size w w':=by
 have hs:=Lib.hid (fun w (hr:Kd.C vC w A cs.length cs)=>aFI R cs most A cp w hr)
 have hb0:Below w.heap.size w (w.alloc (Obj.cells #[Value.int IntKind.i64 R.l.f0,Value.int IntKind.i64 R.l.f1,Value.int IntKind.i64 R.r.f0,Value.int IntKind.i64 R.r.f1,Value.int IntKind.i64 R.t.f0,Value.int IntKind.i64 R.t.f1,Value.int IntKind.i64 R.off] 53)):=(Below.refl _ _).alloc (Nat.le_refl _) _
 obtain⟨a0,a1,a2,a3,a4,a5,a6,a7,a8,B,m,k,hsv⟩:=aFJ R A cs.length cp most (BX R cs most)
 have hlen:Hid (∀ x∈wL R cs most,x.length=cs.length):=Lib.hid (by
  intro x hx
  unfold wL at hx
  split at hx
  ·rename_i h0
   obtain⟨_,_,h5,_,hm⟩:=arT h0
   unfold PM at hx
   exact((arS hm h5).2 x (List.mem_filter.1 hx).1).1
  ·cases hx)
 by_cases h0:xZ R cs most=0
 ·have hcl:cs.length<=5:=by
   unfold xZ at h0
   split at h0
   ·rename_i h1
    exact(arT h1).2.2.1
   ·rename_i h1
    exact absurd h0 h1
  have HS:Hid (aGE R cs most=QR (wL R cs most) cs.length):=Lib.hid (if_pos h0)
  have HP:Hid (aGF R cs most=UT (wL R cs most) cs.length):=Lib.hid (if_pos h0)
  go_enter Tryd.func36,Tryd.ntmps36
  go_wp2_with fail
  refine(hs.out _ (Kd.bJ hr hb0)).mono ?_
  rintro e w1 ⟨v,rfl,hrows,hb1⟩
  have hB1:Below w.heap.size w w1:=hb0.trans (hb1.mono hb0.size)
  obtain⟨Av,cv,rfl⟩:=hrows.slice
  have uQ:=(Kd.dB hrows.1).2.2
  rw[hsv,h0]
  obtain⟨xs,hxs⟩:∃ xs,wL R cs most=xs:=⟨_,rfl⟩
  rw[hxs]at uQ hlen ⊢
  have H0:=Lib.hid h0
  have Hxs:=Lib.hid hxs
  clear hb1 hb0 hsv hs hrows h0 hxs
  go_wp2
  obtain⟨W2,hW2⟩:∃ W2,w1.alloc (Obj.cells #[.int .i64 a0,.int .i64 a1,.int .i64 a2,.int .i64 a3,.int .i64 a4,.int .i64 a5,.int .i64 a6,.slice B m k,.int .i64 a8] 141)=W2:=⟨_,rfl⟩
  have hb2:Below w1.heap.size w1 W2:=by rw[<-hW2];exact(Below.refl _ _).alloc (Nat.le_refl _) _
  have hB2:=hB1.trans (hb2.mono hB1.size)
  have hC2:=Kd.bJ uQ hb2
  rw[hW2]
  clear hW2 hb2 uQ hB1
  go_loopw [6,7,26] (fun v6 v7 iv w'=>∃ k:Nat,k<=cs.length/\iv=.int .i64 k/\eH w' W2.heap.size v6 (QR xs k)/\eH w' W2.heap.size v7 (UT xs k)/\adY v6 v7/\Below W2.heap.size W2 w') (fun _ _ iv _=>cs.length - (intOf iv).toNat)
  case atStart=>exact⟨0,Nat.zero_le _,rfl,eH.nil _ _,eH.nil _ _,ne_nil _,Below.refl _ _⟩
  case round=>
   obtain⟨k,hk,rfl,h6,h7,hne,hB⟩:=hrel
   obtain⟨A6,c6,rfl⟩:=h6.slice
   obtain⟨A7,c7,rfl⟩:=h7.slice
   by_cases hlt:k<cs.length
   ·have hCr:=Kd.bJ hC2 hB
    obtain⟨Wb,hWb⟩:∃ Wb,(wr.alloc (.cells #[.int .i64 (k:Int)] 3)).alloc (.cells #[.func (.func 81) #[] #[.pointer (some ⟨wr.heap.size,0,none⟩)]] 144)=Wb:=⟨_,rfl⟩
    have hbb:Below wr.heap.size wr Wb:=by rw[<-hWb];exact((Below.refl _ _).alloc (Nat.le_refl _) _).alloc (by simp) _
    have z1:Box Wb wr.heap.size #[.int .i64 (k:Int)] 3:=by rw[<-hWb];exact(Box.new _ _ _).alloc _
    have z2:Box Wb (wr.heap.size+1) #[.func (.func 81) #[] #[.pointer (some ⟨wr.heap.size,0,none⟩)]] 144:=by rw[<-hWb];exact Box.new' _ _ _ (by simp)
    have hCb:=Kd.bJ hCr hbb
    have hq1:=Lib.hid (bo1 (agM k) xs Av cv wr.heap.size Wb hCb (fun x hx W hW A' c' hC=>a1E x k wr.heap.size (by rw[hlen.out x hx];exact hlt) A' c' W hC (z1.step hW)))
    have hd3:decide ((k:Int)<(cs.length:Int))=true:=decide_eq_true (by omega)
    obtain⟨s1,hs1⟩:∃ s1,xs.any (agM k)=s1:=⟨_,rfl⟩
    rw[hs1]at hq1
    have Hs1:=Lib.hid hs1
    clear hs1
    have hWd:=Lib.hid hWb
    clear hWb
    go_wp2_with fail
    rw[hWd.out]
    refine hq1.out.mono ?_
    rintro e w3 ⟨rfl,hb3⟩
    have aGG:=hbb.trans (hb3.mono hbb.size)
    have hl7:=aCK h7
    have j6:=h6.below' aGG
    have j7:=h7.below' aGG
    have hB3:=hB.trans (aGG.mono hB.size)
    have y1:=z1.step hb3
    have y2:=z2.step hb3
    have hsz3:=hB3.size
    have d1:w3.cell? ⟨wr.heap.size,0,none⟩=some (.int .i64 (k:Int)):=y1.cell 0 rfl
    have hp5:=bo4 xs k
    have hs5:=bo5 xs k
    have hps:=bo6 xs k
    rw[Hs1.out]at hps
    have Hps:=Lib.hid hps
    have y1l:=y1.lt
    clear hps hb3 hbb hWd hq1 h6 h7 hB aGG hCr hCb z1 z2
    have hC3:=Kd.bJ hC2 hB3
    cases s1
    case' false=>
     have hpe:Hid (UT xs (k+1)=UT xs k):=Lib.hid (by rw[Hps.out];simp)
     rw[<-hpe.out]at j7 hne ⊢
     obtain⟨w4,rfl⟩:∃ w4,w4=w3:=⟨_,rfl⟩
     obtain⟨A8,c8,hA8⟩:∃ A8 c8,A8=A7/\c8=c7:=⟨_,_,rfl,rfl⟩
     obtain⟨rfl,rfl⟩:=hA8
     have i6:=j6
     have i7:=j7
     have ine:=hne
     have x1:=y1
     have x2:=y2
     have hC4:=hC3
     have hB4:=hB3
     have x1l:=y1l
     have aOP:=hsz3
     have d4:=d1
     clear j6 j7 hne y1 y2 hC3 hB3 y1l hsz3 d1 hl7
    case' true=>
     go_wp2_with (at_builtin;refine aSN (w0:=W2) (W:=w3) W2.heap.size rfl (.tmp 33) (.tmp 35) 34 3 .i64 8 rfl Tryd.underlying34 info3 (by decide) (.slice A7 (UT xs k).length c7) (UT xs k) (k:Int) rfl rfl j7 hB3 hsz3 (by omega) ?_)
     intro v7 w4 ho7 hB4 hg hat
     have hpe:Hid (UT xs (k+1)=UT xs k++[(k:Int)]):=Lib.hid (by rw[Hps.out];simp)
     have i7:eH w4 W2.heap.size v7 (UT xs (k+1)):=by rw[hpe.out];unfold eH;simpa[nums]using ho7
     have i6:eH w4 W2.heap.size (.slice A6 (QR xs k).length c6) (QR xs k):=aIF j6 hg (aST (aIH hne))
     have ine:=a9G hne hat j6
     have x1:Box w4 wr.heap.size #[.int .i64 (k:Int)] 3:=(hg.block _ y1.lt (fun e=>by have:=hl7 _ e.symm;omega)).trans y1
     have x2:Box w4 (wr.heap.size+1) #[.func (.func 81) #[] #[.pointer (some ⟨wr.heap.size,0,none⟩)]] 144:=(hg.block _ y2.lt (fun e=>by have:=hl7 _ e.symm;omega)).trans y2
     have hC4:=Kd.bJ hC2 hB4
     have aOP:=hB4.size
     have x1l:=x1.lt
     clear ho7 hg hat j6 hne y1 y2 hC3 hB3 d1 y1l hsz3 j7 hl7
     obtain⟨A8,c8,rfl⟩:=i7.slice
     have d4:w4.cell? ⟨wr.heap.size,0,none⟩=some (.int .i64 (k:Int)):=x1.cell 0 rfl
    all_goals
     have hq2:=Lib.hid (bo3 (fun d=> !agM k d) xs Av cv (wr.heap.size+1) w4 hC4 (fun x hx W hW A' c' hC=>boZ x k wr.heap.size (wr.heap.size+1) (by rw[hlen.out x hx];exact hlt) A' c' W hC (x1.step hW) (x2.step hW)))
     obtain⟨s2,hs2⟩:∃ s2,(xs.any fun d=> !agM k d)=s2:=⟨_,rfl⟩
     rw[hs2]at hq2
     have Hs2:=Lib.hid hs2
     clear hs2
     have hss:=bo7 xs k
     rw[Hs2.out]at hss
     have Hss:=Lib.hid hss
     clear hss
     go_wp2_with fail
     refine hq2.out.mono ?_
     rintro e w5 ⟨rfl,hb5⟩
     have l6:=i6.below' hb5
     have l7:=i7.below' hb5
     have wX:=hB4.trans (hb5.mono aOP)
     have d5:w5.cell? ⟨wr.heap.size,0,none⟩=some (.int .i64 (k:Int)):=(x1.step hb5).cell 0 rfl
     have hsz5:=wX.size
     clear d4 hb5 hq2 i6 i7 hB4 hC4 x1 x2 aOP
     cases s2
     ·have hse:Hid (QR xs (k+1)=QR xs k++[(k:Int)]):=Lib.hid (by rw[Hss.out];simp)
      go_wp2_with (at_builtin;refine aSN (w0:=W2) (W:=w5) W2.heap.size rfl (.tmp 41) (.tmp 43) 34 3 .i64 8 rfl Tryd.underlying34 info3 (by decide) (.slice A6 (QR xs k).length c6) (QR xs k) (k:Int) rfl rfl l6 wX hsz5 (by omega) ?_)
      intro v6 w6 ZF hB6 hg hat
      have i6:eH w6 W2.heap.size v6 (QR xs (k+1)):=by rw[hse.out];unfold eH;simpa[nums]using ZF
      have i7:=aIF l7 hg (aST ine)
      have jne:=aSU ine hat l7
      clear d5 l6 l7 hg hat ZF wX
      go_wp2
      go_roundw
      case rel=>exact⟨k+1,by omega,by simp,i6,i7,jne,hB6⟩
      case measure=>simp[intOf];omega
     ·have hse:Hid (QR xs (k+1)=QR xs k):=Lib.hid (by rw[Hss.out];simp)
      go_wp2
      go_roundw
      case rel=>exact⟨k+1,by omega,by simp,by rw[hse.out];exact l6,l7,ine,wX⟩
      case measure=>simp[intOf];omega
   ·obtain rfl:k=cs.length:=by omega
    go_wp2
    refine bodyPost_ret (v:=.tuple #[.slice A6 (QR xs cs.length).length c6,.slice A7 (UT xs cs.length).length c7,.int .i64 0]) (by simp[results,Tryd.results36,go_sem]) rfl ?_
    exact⟨_,_,by rw[H0.out],by rw[HS.out,Hxs.out];exact h6.lower hB2.size,by rw[HP.out,Hxs.out];exact h7.lower hB2.size,hne,hB2.trans (hB.mono hB2.size)⟩
 ·obtain⟨er,her⟩:∃ er,xZ R cs most=er:=⟨_,rfl⟩
  rw[her]at h0
  have hne:(er !=0)=true:=by simp[h0]
  have h00:=Lib.hid h0
  have Her:=Lib.hid her
  clear h0 her
  have HS:Hid (aGE R cs most=[]):=Lib.hid (if_neg (by rw[Her.out];exact h00.out))
  have HP:Hid (aGF R cs most=[]):=Lib.hid (if_neg (by rw[Her.out];exact h00.out))
  go_enter Tryd.func36,Tryd.ntmps36
  go_wp2_with fail
  refine(hs.out _ (Kd.bJ hr hb0)).mono ?_
  rintro e w1 ⟨v,rfl,hrows,hb1⟩
  have hB1:Below w.heap.size w w1:=hb0.trans (hb1.mono hb0.size)
  obtain⟨Av,cv,rfl⟩:=hrows.slice
  rw[hsv,Her.out]
  clear hb1 hb0 hsv hs hrows
  go_wp2
  refine bodyPost_ret (v:=.tuple #[.slice none 0 0,.slice none 0 0,.int .i64 er]) (by simp[results,Tryd.results36,go_sem]) rfl ?_
  exact⟨_,_,by rw[Her.out],by rw[HS.out];exact eH.nil _ _,by rw[HP.out];exact eH.nil _ _,ne_nil _,hB1.alloc hB1.size _⟩
attribute [local go_sem] Oper.semAt_some run_store_func
theorem aOQ (a b:aH) (w:World):Calls Tryd.prog 91 #[vS a,vS b] w fun e w'=>e=.returned (vS ⟨mn a.f0 b.f0,mx a.f1 b.f1⟩)/\Below w.heap.size w w':=
 aM0.calls a.f0 a.f1 b.f0 b.f1 _ _ w rfl
def aOR (a b:aH):aH:=⟨mn a.f0 b.f0,mx a.f1 b.f1⟩
def mJ (s:aH×aH×aH) (x:Int×Int×aH):aH×aH×aH:=(aOR s.1 ⟨x.1,x.1⟩,aOR s.2.1 ⟨x.2.1,x.2.1⟩,aOR s.2.2 x.2.2)
def tX:aH×aH×aH:=(⟨61,-1⟩,⟨61,-1⟩,⟨61,-1⟩)
def zero3:aH×aH×aH:=(⟨0,0⟩,⟨0,0⟩,⟨0,0⟩)
def ajF (R:pU) (cs:List gQ) (xs:List (List Int)):List (Int×Int×aH):=xs.flatMap fun d=>anW R cs d 0
def acT (R:pU) (cs:List gQ) (most:Int):aH×aH×aH:=if xZ R cs most=0 then(ajF R cs (wL R cs most)).foldl mJ tX else zero3
structure CE (W:World) (b:Nat) (s:aH×aH×aH):Prop where
 x1:Box W b #[.int .i64 s.1.f0,.int .i64 s.1.f1] 42
 x2:Box W (b+1) #[.int .i64 s.2.1.f0,.int .i64 s.2.1.f1] 42
 x3:Box W (b+1+1) #[.int .i64 s.2.2.f0,.int .i64 s.2.2.f1] 42
theorem CE.step {W W':World} {b:Nat} {s:aH×aH×aH} (h:CE W b s) (hb:Below W.heap.size W W'):CE W' b s:=⟨h.x1.step hb,h.x2.step hb,h.x3.step hb⟩
theorem CE.aGJ {W:World} {b:Nat} {s:aH×aH×aH} (h:CE W b s) (t:aH):CE ((W.setCell ⟨b,0,none⟩ (.int .i64 t.f0)).setCell ⟨b,1,none⟩ (.int .i64 t.f1)) b (t,s.2.1,s.2.2):=
 ⟨(h.x1.set 0 (.int .i64 t.f0)).set 1 (.int .i64 t.f1),(h.x2.other (b':=b) (by omega) 0 _).other (b':=b) (by omega) 1 _,(h.x3.other (b':=b) (by omega) 0 _).other (b':=b) (by omega) 1 _⟩
theorem CE.aGK {W:World} {b:Nat} {s:aH×aH×aH} (h:CE W b s) (t:aH):CE ((W.setCell ⟨b+1,0,none⟩ (.int .i64 t.f0)).setCell ⟨b+1,1,none⟩ (.int .i64 t.f1)) b (s.1,t,s.2.2):=
 ⟨(h.x1.other (b':=b+1) (by omega) 0 _).other (b':=b+1) (by omega) 1 _,(h.x2.set 0 (.int .i64 t.f0)).set 1 (.int .i64 t.f1),(h.x3.other (b':=b+1) (by omega) 0 _).other (b':=b+1) (by omega) 1 _⟩
theorem CE.aGL {W:World} {b:Nat} {s:aH×aH×aH} (h:CE W b s) (t:aH):CE ((W.setCell ⟨b+1+1,0,none⟩ (.int .i64 t.f0)).setCell ⟨b+1+1,1,none⟩ (.int .i64 t.f1)) b (s.1,s.2.1,t):=
 ⟨(h.x1.other (b':=b+1+1) (by omega) 0 _).other (b':=b+1+1) (by omega) 1 _,(h.x2.other (b':=b+1+1) (by omega) 0 _).other (b':=b+1+1) (by omega) 1 _,(h.x3.set 0 (.int .i64 t.f0)).set 1 (.int .i64 t.f1)⟩
theorem Below.two {w W:World} {n₀ b:Nat} (h:Below n₀ w W) (hb:n₀<=b) (u v:Value):Below n₀ w ((W.setCell ⟨b,0,none⟩ u).setCell ⟨b,1,none⟩ v):=
 (h.setCell (p:=⟨b,0,none⟩) hb _).setCell (p:=⟨b,1,none⟩) hb _
theorem CE.frz {W:World} {b:Nat} {s:aH×aH×aH} (h:CE W b s):(∀ i,W.frozen? ⟨b,i,none⟩=false)/\(∀ i,W.frozen? ⟨b+1,i,none⟩=false)/\(∀ i,W.frozen? ⟨b+1+1,i,none⟩=false):=⟨fun i=>h.x1.frozen i,fun i=>h.x2.frozen i,fun i=>h.x3.frozen i⟩
structure ayV (b:Nat) (s:aH×aH×aH) (W:World):Prop where
 g0:W.cell? ⟨b,0,none⟩=some (.int .i64 s.1.f0)
 g1:W.cell? ⟨b,1,none⟩=some (.int .i64 s.1.f1)
 g2:W.cell? ⟨b+1,0,none⟩=some (.int .i64 s.2.1.f0)
 g3:W.cell? ⟨b+1,1,none⟩=some (.int .i64 s.2.1.f1)
 g4:W.cell? ⟨b+1+1,0,none⟩=some (.int .i64 s.2.2.f0)
 g5:W.cell? ⟨b+1+1,1,none⟩=some (.int .i64 s.2.2.f1)
theorem CE.reg {W:World} {b:Nat} {s:aH×aH×aH} (h:CE W b s):ayV b s W:=⟨h.x1.cell 0 rfl,h.x1.cell 1 rfl,h.x2.cell 0 rfl,h.x2.cell 1 rfl,h.x3.cell 0 rfl,h.x3.cell 1 rfl⟩
theorem eH.two {W:World} {n b:Nat} {v p q:Value} {xs:List Int} (h:eH W n v xs) (hb:Box W b #[p,q] 42) (u u':Value):eH ((W.setCell ⟨b,0,none⟩ u).setCell ⟨b,1,none⟩ u') n v xs:=
 aSX h fun k hk=>by
  obtain⟨cells,hc⟩:=OM h k hk
  have hne:k≠b:=by
   rintro rfl
   have hb':W.heap[k]? =some (.cells #[p,q] 42 (0,0)):=hb
   rw[hc]at hb'
   simp at hb'
  exact(Below.heap_setCell _ ⟨b,1,none⟩ u' k hne).trans (Below.heap_setCell W ⟨b,0,none⟩ u k hne)
theorem uX.two {W:World} {n b:Nat} {v p q:Value} {xs:List (List Int)} (h:uX W n v xs) (hb:Box W b #[p,q] 42) (u u':Value):uX ((W.setCell ⟨b,0,none⟩ u).setCell ⟨b,1,none⟩ u') n v xs:=
 (h.set hb (by decide) 0 u).set (hb.set 0 u) (by decide) 1 u'
theorem Box.two {W:World} {b c:Nat} {vs:Array Value} {t:TypeId} (h:Box W c vs t) (hne:c≠b) (u u':Value):Box ((W.setCell ⟨b,0,none⟩ u).setCell ⟨b,1,none⟩ u') c vs t:=
 (h.other hne 0 u).other hne 1 u'
theorem bpE {W:World} {n:Nat} {v:Value} {xs:List (List Int)} (h:uX W n v xs) (k:Nat) (hk:k<xs.length):∃ g c A' c',v=.slice (some ⟨g,0,none⟩) xs.length c/\W.cell? ⟨g,k,none⟩=some (.slice A' (xs.getD k []).length c')/\eH W n (.slice A' (xs.getD k []).length c') (xs.getD k []):=by
 obtain⟨inner,ho⟩:=Kd.amG h.1
 obtain⟨g,c,rfl,_⟩:=afR ho (by omega)
 obtain⟨cc,hl,hM,hc,_⟩:=Kd.atB h.1 [] (k:Int) (by omega) (by omega)
 rw[Int.toNat_natCast]at hM hc
 obtain⟨y,rfl,hy⟩:=hM
 have hyo:eH W n y (xs.getD k []):=Kd.a9L hy
 obtain⟨A',c',rfl⟩:=hyo.slice
 have:=hc 0 _ rfl
 rw[show kLs.sz=1 from rfl,Nat.mul_one,Nat.add_zero]at this
 exact⟨g,c,A',c',rfl,this,hyo⟩
structure aoK (b:Nat) (W:World):Prop where
 g0:W.cell? ⟨b,0,none⟩=some (.int .i64 61)
 g1:W.cell? ⟨b,1,none⟩=some (.int .i64 (-1))
theorem aoK.of {W:World} {b:Nat} (h:Box W b #[.int .i64 61,.int .i64 (-1)] 42):aoK b W:=⟨h.cell 0 rfl,h.cell 1 rfl⟩
structure aoL (b b15:Nat) (s:aH×aH×aH) (x:Int×Int×aH) (W:World):Prop where
 g0:W.cell? ⟨b,0,none⟩=some (.int .i64 s.1.f0)
 g1:W.cell? ⟨b,1,none⟩=some (.int .i64 s.1.f1)
 g2:W.cell? ⟨b+1,0,none⟩=some (.int .i64 s.2.1.f0)
 g3:W.cell? ⟨b+1,1,none⟩=some (.int .i64 s.2.1.f1)
 g4:W.cell? ⟨b+1+1,0,none⟩=some (.int .i64 s.2.2.f0)
 g5:W.cell? ⟨b+1+1,1,none⟩=some (.int .i64 s.2.2.f1)
 g6:W.cell? ⟨b15,0,none⟩=some (.int .i64 x.1)
 g7:W.cell? ⟨b15,1,none⟩=some (.int .i64 x.2.1)
 g8:W.cell? ⟨b15,2,none⟩=some (.int .i64 x.2.2.f0)
 g9:W.cell? ⟨b15,3,none⟩=some (.int .i64 x.2.2.f1)
theorem aoL.of {W:World} {b b15:Nat} {s:aH×aH×aH} {x:Int×Int×aH} (h:CE W b s) (k:Box W b15 #[.int .i64 x.1,.int .i64 x.2.1,.int .i64 x.2.2.f0,.int .i64 x.2.2.f1] 158):aoL b b15 s x W:=
 ⟨h.x1.cell 0 rfl,h.x1.cell 1 rfl,h.x2.cell 0 rfl,h.x2.cell 1 rfl,h.x3.cell 0 rfl,h.x3.cell 1 rfl,k.cell 0 rfl,k.cell 1 rfl,k.cell 2 rfl,k.cell 3 rfl⟩
theorem a1K (t:Array Value) (W:World) (b:Nat) (s:aH×aH×aH) (v:Value) (h6:t.getD 6 undef=.pointer (some ⟨b,0,none⟩)) (h7:t.getD 7 undef=.pointer (some ⟨b+1,0,none⟩)) (h8:t.getD 8 undef=.pointer (some ⟨b+1+1,0,none⟩)) (h9:t.getD 9 undef=v) (hb:CE W b s):
  (results Tryd.f44 t).run Tryd.prog W=.ok (.tuple #[vS s.1,vS s.2.1,vS s.2.2,v]) W:=by
 obtain⟨c0,c1,c2,c3,c4,c5⟩:=hb.reg
 simp only[Array.getD_eq_getD_getElem?]at h6 h7 h8 h9
 clear hb
 simp[results,Tryd.results44,go_sem,h6,h7,h8,h9,c0,c1,c2,c3,c4,c5]
theorem CE.xW {W W':World} {B b:Nat} {s:aH×aH×aH} (h:CE W b s) (hi:nM B W W'):CE W' b s:=⟨hi.box h.x1,hi.box h.x2,hi.box h.x3⟩
theorem bpF (R:pU) (cs:List gQ) (most:Int) (A:Option Addr) (cp:Nat) (w:World) (hr:Kd.C vC w A cs.length cs):
  Calls Tryd.prog 44 #[aeI R,.slice A cs.length cp,.int .i64 most] w fun e w'=>e=.returned (.tuple #[vS (acT R cs most).1,vS (acT R cs most).2.1,vS (acT R cs most).2.2,.int .i64 (xZ R cs most)])/\Below w.heap.size w w':=by
 have hs:=Lib.hid (fun w (hr:Kd.C vC w A cs.length cs)=>aFI R cs most A cp w hr)
 obtain⟨Wa,hWa⟩:∃ Wa,(((w.alloc (Obj.cells #[Value.int IntKind.i64 R.l.f0,Value.int IntKind.i64 R.l.f1,Value.int IntKind.i64 R.r.f0,Value.int IntKind.i64 R.r.f1,Value.int IntKind.i64 R.t.f0,Value.int IntKind.i64 R.t.f1,Value.int IntKind.i64 R.off] 53)).alloc (.cells #[.int .i64 0,.int .i64 0] 42)).alloc (.cells #[.int .i64 0,.int .i64 0] 42)).alloc (.cells #[.int .i64 0,.int .i64 0] 42)=Wa:=⟨_,rfl⟩
 have hba:Below w.heap.size w Wa:=by rw[<-hWa];exact((((Below.refl _ _).alloc (Nat.le_refl _) _).alloc (by simp) _).alloc (by simp;omega) _).alloc (by simp;omega) _
 have htr:CE Wa (w.heap.size+1) zero3:=by
  rw[<-hWa]
  exact⟨((Box.new' _ _ _ (by simp)).alloc _).alloc _,(Box.new' _ _ _ (by simp)).alloc _,Box.new' _ _ _ (by simp)⟩
 have hWd:=Lib.hid hWa
 clear hWa
 obtain⟨a0,a1,a2,a3,a4,a5,a6,a7,a8,B,m,k,hsv⟩:=aFJ R A cs.length cp most (BX R cs most)
 refine(callsIn_wide (n:=0)).1 ?_
 refine callsIn_of_wp_marks Tryd.func44 rfl trivial ?_
 simp only[Tryd.ntmps44,List.size_toArray,List.length_cons,List.length_nil,Nat.reduceAdd,Nat.reduceSub,Array.replicate_succ,Array.replicate_zero,List.push_toArray,List.append_toArray,List.nil_append,List.cons_append]
 gi_wp2_with fail
 refine⟨trivial,rfl,?_⟩
 rw[hWd.out]
 refine(callsIn_wide.2 (hs.out _ (Kd.bJ hr hba))).mono ?_
 rintro e w1 ⟨v,rfl,hrows,hb1⟩
 have hB1:Below w.heap.size w w1:=hba.trans (hb1.mono hba.size)
 have ht1:=htr.step hb1
 obtain⟨Av,cv,rfl⟩:=hrows.slice
 have uQ:=(Kd.dB hrows.1).2.2
 by_cases h0:xZ R cs most=0
 ·have h1:BX R cs most=0:=by
   unfold xZ at h0
   split at h0
   ·assumption
   ·rename_i hq
    exact absurd h0 hq
  obtain⟨hR,hcs,h5,_,hm⟩:=arT h1
  have e0:XO R A cs.length cp most (BX R cs most)=.agg (qH R A cs.length cp most):=by rw[h1];exact if_pos rfl
  have hwr:Hid (acT R cs most=(ajF R cs (wL R cs most)).foldl mJ tX):=Lib.hid (if_pos h0)
  have hxa:Hid (∀ x∈wL R cs most,x.length=cs.length/\∀ i,-2<=x.getD i 0/\x.getD i 0<=2):=Lib.hid (by
   intro x hx
   rw[show wL R cs most=PM R cs most 0 from if_pos h1]at hx
   exact(arS hm h5).2 x (List.mem_filter.1 hx).1)
  have hxl:(wL R cs most).length<=3125:=by
   rw[show wL R cs most=PM R cs most 0 from if_pos h1]
   unfold PM
   exact Nat.le_trans (List.length_filter_le _ _) (arS hm h5).1
  obtain⟨xs,hxs⟩:∃ xs,wL R cs most=xs:=⟨_,rfl⟩
  rw[hxs]at hwr hxa uQ hxl ⊢
  have H0:=Lib.hid h0
  rw[e0,h0]
  unfold qH
  obtain⟨W2,hW2⟩:∃ W2,w1.alloc (Obj.cells #[.int .i64 R.l.f0,.int .i64 R.l.f1,.int .i64 R.r.f0,.int .i64 R.r.f1,.int .i64 R.t.f0,.int .i64 R.t.f1,.int .i64 R.off,.slice A cs.length cp,.int .i64 most] 141)=W2:=⟨_,rfl⟩
  have hb2:Below w1.heap.size w1 W2:=by rw[<-hW2];exact(Below.refl _ _).alloc (Nat.le_refl _) _
  have hbS:Box W2 w1.heap.size (qH R A cs.length cp most) 141:=by rw[<-hW2];exact Box.new _ _ _
  have hsz2:W2.heap.size=w1.heap.size+1:=by rw[<-hW2];simp
  obtain⟨W3,hW3⟩:∃ W3,W2.alloc (Obj.cells #[.int .i64 61,.int .i64 (-1)] 42)=W3:=⟨_,rfl⟩
  have hb3:Below W2.heap.size W2 W3:=by rw[<-hW3];exact(Below.refl _ _).alloc (Nat.le_refl _) _
  have hbN:Box W3 W2.heap.size #[.int .i64 61,.int .i64 (-1)] 42:=by rw[<-hW3];exact Box.new _ _ _
  have ht3:=(ht1.step hb2).step hb3
  have hB2:=hB1.trans (hb2.mono hB1.size)
  have hB3:=hB2.trans (hb3.mono hB2.size)
  have a1L:=hbS.step hb3
  have hrw3:=(hrows.step hb2).step hb3
  rw[hxs]at hrw3
  have hWe:=Lib.hid hW2
  have hWf:=Lib.hid hW3
  have hbl:=ht1.x3.lt
  clear hb1 hsv hs uQ hba htr ht1 hb2 hb3 hWd hW2 hW3 e0 h0 h1 hxs hbS hB2 hB1 hrows
  gi_wp2
  rw[hWe.out,hWf.out]
  rw[hsz2]at hbN
  have htd:=ht3.step ((Below.refl _ _).drew)
  have hbd:=hbN.drew
  have hSd:=a1L.drew
  have aOS:=hrw3.step ((Below.refl _ _).drew)
  refine aaF 5 [(0,true),(1,true),(2,true),(3,false),(4,false)] (aoK (w1.heap.size+1)) (rZ.of (by kernel_rfl)) rfl (by kernel_rfl) (aoK.of hbd) ?_
  have hC0:=aoK.of hbd
  iterate 3 (apply FD rfl (fun _=>rfl) (by assumption);focus(intro K hK w' hw';obtain⟨g0,g1⟩:=hw';go_simp;exact hK))
  obtain⟨D,hD⟩:∃ D,W3.drew=D:=⟨_,rfl⟩
  have hBD:Below w.heap.size w D:=by rw[<-hD];exact hB3.trans (((Below.refl _ _).drew).mono hB3.size)
  have hrD:Kd.C vC D A cs.length cs:=Kd.bJ hr hBD
  rw[hD]at htd hbd hSd aOS ⊢
  clear hD ht3 hbN a1L hrw3 hWe hWf hB3 hC0
  obtain⟨f0,f1,f2⟩:=htd.frz
  obtain⟨g0,g1,g2,g3,g4,g5⟩:=htd.reg
  have t1:=htd.aGJ tX.1
  have b1:=Below.two hBD (b:=w.heap.size+1) (by omega) (.int .i64 tX.1.f0) (.int .i64 tX.1.f1)
  have n1:=(hbd.other (b':=w.heap.size+1) (by omega) 0 (.int .i64 tX.1.f0)).other (b':=w.heap.size+1) (by omega) 1 (.int .i64 tX.1.f1)
  have t2:=t1.aGK tX.2.1
  have b2:=Below.two b1 (b:=w.heap.size+1+1) (by omega) (.int .i64 tX.2.1.f0) (.int .i64 tX.2.1.f1)
  have n2:=(n1.other (b':=w.heap.size+1+1) (by omega) 0 (.int .i64 tX.2.1.f0)).other (b':=w.heap.size+1+1) (by omega) 1 (.int .i64 tX.2.1.f1)
  have t3:=t2.aGL tX.2.2
  have b3:=Below.two b2 (b:=w.heap.size+1+1+1) (by omega) (.int .i64 tX.2.2.f0) (.int .i64 tX.2.2.f1)
  refine uG rfl ?_
  gi_wp2
  refine⟨aoK.of n1,?_⟩
  refine uG rfl ?_
  gi_wp2
  refine⟨aoK.of n2,?_⟩
  show wpListIn _ _ _ _ _ _ _ _
  try simp only[List.drop_succ_cons,List.drop_zero]
  gi_wp2
  rw[yZ]
  have s3:=((hSd.two (b:=w.heap.size+1) (by omega) (.int .i64 tX.1.f0) (.int .i64 tX.1.f1)).two (b:=w.heap.size+1+1) (by omega) (.int .i64 tX.2.1.f0) (.int .i64 tX.2.1.f1)).two (b:=w.heap.size+1+1+1) (by omega) (.int .i64 tX.2.2.f0) (.int .i64 tX.2.2.f1)
  have r3:=((aOS.two htd.x1 (.int .i64 tX.1.f0) (.int .i64 tX.1.f1)).two t1.x2 (.int .i64 tX.2.1.f0) (.int .i64 tX.2.1.f1)).two t2.x3 (.int .i64 tX.2.2.f0) (.int .i64 tX.2.2.f1)
  obtain⟨W4,hW4⟩:∃ W4,((((((D.setCell ⟨w.heap.size+1,0,none⟩ (.int .i64 tX.1.f0)).setCell ⟨w.heap.size+1,1,none⟩ (.int .i64 tX.1.f1)).setCell ⟨w.heap.size+1+1,0,none⟩ (.int .i64 tX.2.1.f0)).setCell ⟨w.heap.size+1+1,1,none⟩ (.int .i64 tX.2.1.f1)).setCell ⟨w.heap.size+1+1+1,0,none⟩ (.int .i64 tX.2.2.f0)).setCell ⟨w.heap.size+1+1+1,1,none⟩ (.int .i64 tX.2.2.f1))=W4:=⟨_,rfl⟩
  rw[hW4]at s3 r3 t3 b3
  have hWg:=Lib.hid hW4
  clear hW4 t1 t2 b1 b2 n1 n2 g0 g1 g2 g3 g4 g5 f0 f1 f2 htd hBD hrD hSd hbd aOS
  gi_wp2
  have hWh:=hWg.out
  simp only[tX]at hWh
  rw[hWh]
  clear hWh hWg
  have bpH:W4.heap.size<=W4.heap.size:=Nat.le_refl _
  have bpI:=b3.size
  refine wpIn_loop (fun a' W=>∃ (k:Nat) (u14 u37 u38 u39 u40 u41 u42 u62:Value) (ds:List Deferred),a'={ tmps:=#[aeI R,.slice A cs.length cp,.int .i64 most,.pointer (some ⟨w.heap.size,0,none⟩),undef,undef,.pointer (some ⟨w.heap.size+1,0,none⟩),.pointer (some ⟨w.heap.size+1+1,0,none⟩),.pointer (some ⟨w.heap.size+1+1+1,0,none⟩),.int .i64 0,.pointer (some ⟨w1.heap.size,0,none⟩),.slice Av xs.length cv,.pointer (some ⟨w1.heap.size+1,0,none⟩),undef,u14,undef,.tuple #[.agg #[.int .i64 R.l.f0,.int .i64 R.l.f1,.int .i64 R.r.f0,.int .i64 R.r.f1,.int .i64 R.t.f0,.int .i64 R.t.f1,.int .i64 R.off,.slice A cs.length cp,.int .i64 most],.slice Av xs.length cv,.int .i64 0],.agg #[.int .i64 R.l.f0,.int .i64 R.l.f1,.int .i64 R.r.f0,.int .i64 R.r.f1,.int .i64 R.t.f0,.int .i64 R.t.f1,.int .i64 R.off],.slice A cs.length cp,.int .i64 most,.tuple #[.agg #[.int .i64 R.l.f0,.int .i64 R.l.f1,.int .i64 R.r.f0,.int .i64 R.r.f1,.int .i64 R.t.f0,.int .i64 R.t.f1,.int .i64 R.off,.slice A cs.length cp,.int .i64 most],.slice Av xs.length cv,.int .i64 0],.agg #[.int .i64 R.l.f0,.int .i64 R.l.f1,.int .i64 R.r.f0,.int .i64 R.r.f1,.int .i64 R.t.f0,.int .i64 R.t.f1,.int .i64 R.off,.slice A cs.length cp,.int .i64 most],.slice Av xs.length cv,.int .i64 0,.int .i64 0,.bool false,undef,undef,undef,undef,.agg #[.int .i64 61,.int .i64 (-1)],.agg #[.int .i64 61,.int .i64 (-1)],.agg #[.int .i64 61,.int .i64 (-1)],.agg #[.int .i64 61,.int .i64 (-1)],.slice Av xs.length cv,.int .i64 xs.length,.int .i64 k,u37,u38,u39,u40,u41,u42,undef,undef,undef,undef,undef,undef,undef,undef,undef,undef,undef,undef,undef,undef,undef,undef,undef,undef,undef,u62,undef,undef,undef],defers:=ds}/\k<=xs.length/\Marks W4.heap.size W.heap.size ds W/\CE W (w.heap.size+1) ((ajF R cs (xs.take k)).foldl mJ tX)/\Box W w1.heap.size (qH R A cs.length cp most) 141/\uX W Wa.heap.size (.slice Av xs.length cv) xs/\Below w.heap.size w W/\W4.heap.size<=W.heap.size)
   (fun a' _=>xs.length - (intOf (a'.tmps.getD 36 undef)).toNat) ?start ?round
  case start=>exact⟨0,_,_,_,_,_,_,_,_,_,rfl,Nat.zero_le _,Marks.nil _ _ _,t3,s3,r3,b3,bpH⟩
  case round=>
   rintro a' wr ⟨k,u14,u37,u38,u39,u40,u41,u42,u62,ds,rfl,hk,hmk,kt,ks,kr,kb,ksz⟩
   by_cases hlt:k<xs.length
   ·obtain⟨g,c,A1,c1,hv,hcell,hd⟩:=bpE kr k hlt
    simp only[Value.slice.injEq,true_and]at hv
    obtain⟨rfl,rfl⟩:=hv
    have hdm:xs.getD k []∈xs:=getD_mem (by simpa using hlt) _
    have hda:=hxa.out _ hdm
    have htk:Hid ((ajF R cs (xs.take (k+1))).foldl mJ tX=(anW R cs (xs.getD k []) 0).foldl mJ ((ajF R cs (xs.take k)).foldl mJ tX)):=Lib.hid (by
     unfold ajF
     rw[List.take_add_one,List.flatMap_append,List.foldl_append,List.getD_eq_getElem?_getD,List.getElem?_eq_getElem hlt]
     simp)
    obtain⟨d,hde⟩:∃ d,xs.getD k []=d:=⟨_,rfl⟩
    rw[hde]at hcell hd hda htk
    obtain⟨acc,hacc⟩:∃ acc,(ajF R cs (xs.take k)).foldl mJ tX=acc:=⟨_,rfl⟩
    rw[hacc]at kt htk
    obtain⟨m1,hm1⟩:∃ m1,d.length=m1:=⟨_,rfl⟩
    have aOU:=Lib.hid hda
    rw[hm1]at hcell hd
    have Hm1:=Lib.hid hm1
    clear hde hacc hdm hda hm1
    obtain⟨q0,q1,q2,q3,q4,q5,q6,q7,q8⟩:=aFC ks
    have hd3:decide ((k:Int)<(xs.length:Int))=true:=decide_eq_true (by omega)
    have hwc:=Lib.hid (aY2 _ _ _ (qH R A cs.length cp most) rfl A1 none m1 c1 0 rfl rfl wr)
    unfold qH at hwc
    gi_wp2_with fail
    refine⟨trivial,rfl,?_⟩
    refine(callsIn_wide.2 hwc.out).mono ?_
    rintro e W5 ⟨rfl,y1,y2,y3,hb5⟩
    obtain⟨b,hbe⟩:∃ b,wr.heap.size=b:=⟨_,rfl⟩
    have l1:=kt.step hb5
    have l2:=ks.step hb5
    have l3:=kr.step hb5
    have l4:=kb.trans (hb5.mono kb.size)
    have l5:=hd.below' hb5
    have l6:=hmk.book (iZ.of_below hb5)
    have hsz5:=hb5.size
    rw[hbe]at y1 y2 y3 hsz5 l6 ksz
    rw[hbe]
    have bpK:=kt.x3.lt
    rw[hbe]at bpK
    clear hwc q0 q1 q2 q3 q4 q5 q6 q7 q8 hb5 kt ks kr kb hd hmk hcell hd3
    have hC5:Kd.C (Kd.int .i64) W5 A1 d.length d:=by
     have:=(Kd.dB (eH.R l5)).2.2
     rw[Hm1.out]
     exact Hm1.out ▸ this
    have hiv:acB w.heap.size R A cs cp most A1 c1 d 0 b (b+2) (b+1) W5:=⟨⟨l4.size,Kd.bJ hr l4⟩,y1,y3,by rw[Hm1.out];exact y2,hC5⟩
    gi_wp2
    refine aVM (gf:=107) (first:=#[]) (lb:=#[.pointer (some ⟨b,0,none⟩),.pointer (some ⟨b+2,0,none⟩),.pointer (some ⟨b+1,0,none⟩)]) rfl (enters_of Tryd.func107 (by kernel_rfl) rfl) (aY7 R hR cs hcs h5 most A cp w.heap.size d aOU.out.1 aOU.out.2 A1 c1 0 (by omega) b (b+2) (b+1)) (by rintro z args W rfl;rfl) (fun X Y h hi=>h.xW hi) (fun X Y h=>iZ.of_below h)
     (fun pre X=>CE X (w.heap.size+1) (pre.foldl mJ acc)/\Box X w1.heap.size (qH R A cs.length cp most) 141/\uX X Wa.heap.size (.slice (some ⟨g,0,none⟩) xs.length cv) xs/\Below w.heap.size w X/\eH X Wa.heap.size (.slice A1 m1 c1) d/\Marks W4.heap.size b ds X/\W5.heap.size<=X.heap.size)
     (fun _ _ _=>False)
     (fun pre X Y ⟨h1,h2,h3,h4,h5,h6,h7⟩ hi=>⟨h1.xW hi,hi.box h2,h3.xW hi,nM.below h4 (by have:=l4.size;omega) (Nat.le_refl _) hi,h5.xW hi,h6.keep fun D hD hx=>hi.keep D _ hx (.inl (by omega)),Nat.le_trans h7 hi.size⟩)
     (fun pre X Y ⟨h1,h2,h3,h4,h5,h6,h7⟩ st=>⟨h1.step st,h2.step st,h3.step st,h4.trans (st.mono h4.size),h5.below' st,h6.book (iZ.of_below st),Nat.le_trans h7 st.size⟩)
     (fun _ _ _ _ h _=>h) (fun _ _ _ _ h _=>h)
     ⟨l1,l2,l3,l4,l5,l6,Nat.le_refl _⟩ hiv
     (fun x a' X=>∃ b15,a'={ tmps:=#[aeI R,.slice A cs.length cp,.int .i64 most,.pointer (some ⟨w.heap.size,0,none⟩),undef,undef,.pointer (some ⟨w.heap.size+1,0,none⟩),.pointer (some ⟨w.heap.size+1+1,0,none⟩),.pointer (some ⟨w.heap.size+1+1+1,0,none⟩),.int .i64 0,.pointer (some ⟨w1.heap.size,0,none⟩),.slice (some ⟨g,0,none⟩) xs.length cv,.pointer (some ⟨w1.heap.size+1,0,none⟩),undef,.slice A1 m1 c1,.pointer (some ⟨b15,0,none⟩),.tuple #[.agg #[.int .i64 R.l.f0,.int .i64 R.l.f1,.int .i64 R.r.f0,.int .i64 R.r.f1,.int .i64 R.t.f0,.int .i64 R.t.f1,.int .i64 R.off,.slice A cs.length cp,.int .i64 most],.slice (some ⟨g,0,none⟩) xs.length cv,.int .i64 0],.agg #[.int .i64 R.l.f0,.int .i64 R.l.f1,.int .i64 R.r.f0,.int .i64 R.r.f1,.int .i64 R.t.f0,.int .i64 R.t.f1,.int .i64 R.off],.slice A cs.length cp,.int .i64 most,.tuple #[.agg #[.int .i64 R.l.f0,.int .i64 R.l.f1,.int .i64 R.r.f0,.int .i64 R.r.f1,.int .i64 R.t.f0,.int .i64 R.t.f1,.int .i64 R.off,.slice A cs.length cp,.int .i64 most],.slice (some ⟨g,0,none⟩) xs.length cv,.int .i64 0],.agg #[.int .i64 R.l.f0,.int .i64 R.l.f1,.int .i64 R.r.f0,.int .i64 R.r.f1,.int .i64 R.t.f0,.int .i64 R.t.f1,.int .i64 R.off,.slice A cs.length cp,.int .i64 most],.slice (some ⟨g,0,none⟩) xs.length cv,.int .i64 0,.int .i64 0,.bool false,undef,undef,undef,undef,.agg #[.int .i64 61,.int .i64 (-1)],.agg #[.int .i64 61,.int .i64 (-1)],.agg #[.int .i64 61,.int .i64 (-1)],.agg #[.int .i64 61,.int .i64 (-1)],.slice (some ⟨g,0,none⟩) xs.length cv,.int .i64 xs.length,.int .i64 k,.bool true,.pointer (some ⟨g,k,none⟩),.slice A1 m1 c1,.agg #[.int .i64 R.l.f0,.int .i64 R.l.f1,.int .i64 R.r.f0,.int .i64 R.r.f1,.int .i64 R.t.f0,.int .i64 R.t.f1,.int .i64 R.off,.slice A cs.length cp,.int .i64 most],.slice A1 m1 c1,.func (.func 107) #[] #[.pointer (some ⟨b,0,none⟩),.pointer (some ⟨b+2,0,none⟩),.pointer (some ⟨b+1,0,none⟩)],vWt x,undef,undef,undef,undef,undef,undef,undef,undef,undef,undef,undef,undef,undef,undef,undef,undef,undef,undef,u62,undef,undef,undef],defers:=[]}/\Box X b15 #[.int .i64 x.1,.int .i64 x.2.1,.int .i64 x.2.2.f0,.int .i64 x.2.2.f1] 158/\w.heap.size+1+1+1<b15)
     (fun x a' X Y ⟨b15,h1,h2,h3⟩ hi=>⟨b15,h1,hi.box h2,h3⟩) ?assign ?body ?done ?stop
    case assign=>
     rintro l pre x args X K ⟨h1,h2,h3,h4,h5,h6,h7⟩ hv hp rfl hK
     have hb:Below X.heap.size X (X.alloc (.cells #[.int .i64 x.1,.int .i64 x.2.1,.int .i64 x.2.2.f0,.int .i64 x.2.2.f1] 158)):=(Below.refl _ _).alloc (Nat.le_refl _) _
     gi_wp2
     exact hK _ _ (iZ.of_below hb) ⟨h1.step hb,h2.step hb,h3.step hb,h4.trans (hb.mono h4.size),h5.below' hb,h6.book (iZ.of_below hb),Nat.le_trans h7 hb.size⟩ (hv.step hb) ⟨_,by simp[qH,aeI],Box.new _ _ _,h1.x3.lt⟩
    case body=>
     rintro l pre x a' X hl hlp ⟨h1,h2,h3,h4,h5,h6,h7⟩ hv hp ⟨b15,rfl,h8,h9⟩
     obtain⟨ac,hac⟩:∃ ac,pre.foldl mJ acc=ac:=⟨_,rfl⟩
     have hfo:Hid ((pre++[x]).foldl mJ acc=mJ ac x):=Lib.hid (by rw[List.foldl_append,hac];rfl)
     rw[hac]at h1
     clear hac
     have hC:=aoL.of (h1.step ((Below.refl _ _).drew)) (h8.step ((Below.refl _ _).drew))
     clear hxl hxa hwr H0 htk aOU hiv
     gi_wp2
     refine aaF 18 [(0,true),(1,true),(2,true),(3,true),(4,true),(5,true),(7,true),(8,true),(9,true),(10,true),(11,true),(12,true),(14,true),(15,true),(16,true),(6,false),(13,false),(17,false)] (aoL (w.heap.size+1) b15 ac x) (rZ.of (by kernel_rfl)) rfl (by kernel_rfl) hC ?_
     iterate 15 (apply FD rfl (fun _=>rfl) (by assumption);focus(intro K hK w' hw';obtain⟨g0,g1,g2,g3,g4,g5,g6,g7,g8,g9⟩:=hw';go_simp;exact hK))
     obtain⟨Xd,IC⟩:∃ Xd,X.drew=Xd:=⟨_,rfl⟩
     have hbd:Below X.heap.size X Xd:=by rw[<-IC];exact(Below.refl _ _).drew
     rw[IC]at hC ⊢
     clear IC
     refine uG rfl ?_
     gi_wp2_with fail
     refine⟨trivial,rfl,?_⟩
     refine((callsIn_wide.2 (aOQ ac.1 ⟨x.1,x.1⟩ _)).inRound l).mono ?_
     rintro e wa ⟨rfl,hba⟩
     have ha:=hbd.trans (hba.mono hbd.size)
     have hCa:=aoL.of (h1.step ha) (h8.step ha)
     clear hba hbd hC
     gi_wp2
     refine⟨hCa,?_⟩
     refine uG rfl ?_
     gi_wp2_with fail
     refine⟨trivial,rfl,?_⟩
     refine((callsIn_wide.2 (aOQ ac.2.1 ⟨x.2.1,x.2.1⟩ _)).inRound l).mono ?_
     rintro e wb ⟨rfl,hbb⟩
     have hb':=ha.trans (hbb.mono ha.size)
     have hCb:=aoL.of (h1.step hb') (h8.step hb')
     clear hbb ha hCa
     gi_wp2
     refine⟨hCb,?_⟩
     refine uG rfl ?_
     gi_wp2_with fail
     refine⟨trivial,rfl,?_⟩
     refine((callsIn_wide.2 (aOQ ac.2.2 x.2.2 _)).inRound l).mono ?_
     rintro e wc ⟨rfl,hbc⟩
     have hc':=hb'.trans (hbc.mono hb'.size)
     have hCc:=aoL.of (h1.step hc') (h8.step hc')
     clear hbc hb' hCb
     gi_wp2
     refine⟨hCc,?_⟩
     show wpListIn _ _ _ _ _ _ _ _
     try simp only[List.drop_succ_cons,List.drop_zero]
     have j1:=h1.step hc'
     have j2:=h2.step hc'
     have j3:=h3.step hc'
     have j4:=h4.trans (hc'.mono h4.size)
     have j5:=h5.below' hc'
     have j6:=h6.book (iZ.of_below hc')
     have j7:=Nat.le_trans h7 hc'.size
     have jk:=iZ.of_below hc'
     have jv:=hv.step hc'
     obtain⟨g0,g1,g2,g3,g4,g5,_,_,_,_⟩:=hCc
     obtain⟨f0,f1,f2⟩:=j1.frz
     clear hc' h1 h2 h3 h4 h5 h6 h7 h8
     gi_wp2
     rw[yZ]
     have t1:=j1.aGJ (mJ ac x).1
     have t2:=t1.aGK (mJ ac x).2.1
     have t3:=t2.aGL (mJ ac x).2.2
     have s3:=((j2.two (b:=w.heap.size+1) (by omega) (.int .i64 (mJ ac x).1.f0) (.int .i64 (mJ ac x).1.f1)).two (b:=w.heap.size+1+1) (by omega) (.int .i64 (mJ ac x).2.1.f0) (.int .i64 (mJ ac x).2.1.f1)).two (b:=w.heap.size+1+1+1) (by omega) (.int .i64 (mJ ac x).2.2.f0) (.int .i64 (mJ ac x).2.2.f1)
     have r3:=((j3.two j1.x1 (.int .i64 (mJ ac x).1.f0) (.int .i64 (mJ ac x).1.f1)).two t1.x2 (.int .i64 (mJ ac x).2.1.f0) (.int .i64 (mJ ac x).2.1.f1)).two t2.x3 (.int .i64 (mJ ac x).2.2.f0) (.int .i64 (mJ ac x).2.2.f1)
     have o3:=((eH.two j5 j1.x1 (.int .i64 (mJ ac x).1.f0) (.int .i64 (mJ ac x).1.f1)).two t1.x2 (.int .i64 (mJ ac x).2.1.f0) (.int .i64 (mJ ac x).2.1.f1)).two t2.x3 (.int .i64 (mJ ac x).2.2.f0) (.int .i64 (mJ ac x).2.2.f1)
     have b3:=Below.two (Below.two (Below.two j4 (b:=w.heap.size+1) (by omega) (.int .i64 (mJ ac x).1.f0) (.int .i64 (mJ ac x).1.f1)) (b:=w.heap.size+1+1) (by omega) (.int .i64 (mJ ac x).2.1.f0) (.int .i64 (mJ ac x).2.1.f1)) (b:=w.heap.size+1+1+1) (by omega) (.int .i64 (mJ ac x).2.2.f0) (.int .i64 (mJ ac x).2.2.f1)
     have y1':=((jv.2.1.two (b:=w.heap.size+1) (by omega) (.int .i64 (mJ ac x).1.f0) (.int .i64 (mJ ac x).1.f1)).two (b:=w.heap.size+1+1) (by omega) (.int .i64 (mJ ac x).2.1.f0) (.int .i64 (mJ ac x).2.1.f1)).two (b:=w.heap.size+1+1+1) (by omega) (.int .i64 (mJ ac x).2.2.f0) (.int .i64 (mJ ac x).2.2.f1)
     have y2':=((jv.2.2.1.two (b:=w.heap.size+1) (by omega) (.int .i64 (mJ ac x).1.f0) (.int .i64 (mJ ac x).1.f1)).two (b:=w.heap.size+1+1) (by omega) (.int .i64 (mJ ac x).2.1.f0) (.int .i64 (mJ ac x).2.1.f1)).two (b:=w.heap.size+1+1+1) (by omega) (.int .i64 (mJ ac x).2.2.f0) (.int .i64 (mJ ac x).2.2.f1)
     have y3':=((jv.2.2.2.1.two (b:=w.heap.size+1) (by omega) (.int .i64 (mJ ac x).1.f0) (.int .i64 (mJ ac x).1.f1)).two (b:=w.heap.size+1+1) (by omega) (.int .i64 (mJ ac x).2.1.f0) (.int .i64 (mJ ac x).2.1.f1)).two (b:=w.heap.size+1+1+1) (by omega) (.int .i64 (mJ ac x).2.2.f0) (.int .i64 (mJ ac x).2.2.f1)
     have kk:=(iZ.setCell wc ⟨w.heap.size+1,0,none⟩ (.int .i64 (mJ ac x).1.f0)).trans ((iZ.setCell _ ⟨w.heap.size+1,1,none⟩ (.int .i64 (mJ ac x).1.f1)).trans ((iZ.setCell _ ⟨w.heap.size+1+1,0,none⟩ (.int .i64 (mJ ac x).2.1.f0)).trans ((iZ.setCell _ ⟨w.heap.size+1+1,1,none⟩ (.int .i64 (mJ ac x).2.1.f1)).trans ((iZ.setCell _ ⟨w.heap.size+1+1+1,0,none⟩ (.int .i64 (mJ ac x).2.2.f0)).trans (iZ.setCell _ ⟨w.heap.size+1+1+1,1,none⟩ (.int .i64 (mJ ac x).2.2.f1))))))
     have m3:=j6.book kk
     have C3:=(Kd.dB (eH.R o3)).2.2
     gi_wp2
     refine⟨jk.trans kk,⟨⟨b3.size,Kd.bJ hr b3⟩,y1',y2',y3',C3⟩,by rw[hfo.out];exact t3,s3,r3,b3,o3,m3,by simpa using j7⟩
    case stop=>exact fun D c pre W _ _ h _=>h.elim
    case done=>
     rintro D X hD ⟨h1,h2,h3,h4,h5,h6,h7⟩ hv hK
     rw[<-htk.out]at h1
     have hw1:=Lib.hid (jF (x:=(k:Int)+1) (by omega) (by omega))
     clear hxl
     gi_wp2
     rw[hw1.out]
     refine⟨⟨k+1,_,_,_,_,_,_,_,_,_,rfl,hlt,Marks.cons (T:=b) h6 (by omega) (by omega) (lt_of_block hK) hK,h1,h2,h3,h4,by omega⟩,?_⟩
     simp[intOf]
     omega
   ·obtain rfl:k=xs.length:=by omega
    have hd3:decide ((xs.length:Int)<(xs.length:Int))=false:=decide_eq_false (by omega)
    rw[List.take_length]at kt
    obtain⟨acc,hacc⟩:∃ acc,(ajF R cs xs).foldl mJ tX=acc:=⟨_,rfl⟩
    rw[hacc]at kt hwr
    clear hacc
    have kz:=kt.x1.lt
    gi_wp2
    have htd:=kt.step ((Below.refl _ _).drew)
    have hC:ayV (w.heap.size+1) acc wr.drew:=htd.reg
    refine aaF 6 [(0,true),(1,true),(2,true),(3,false),(4,false),(5,false)] (ayV (w.heap.size+1) acc) (rZ.of (by kernel_rfl)) rfl (by kernel_rfl) hC ?_
    iterate 3 (apply FD rfl (fun _=>rfl) (by assumption);focus(intro K hK w' hw';obtain⟨g0,g1,g2,g3,g4,g5⟩:=hw';go_simp;exact hK))
    obtain⟨D,hD⟩:∃ D,wr.drew=D:=⟨_,rfl⟩
    have hBD:Below w.heap.size w D:=by rw[<-hD];exact kb.trans (((Below.refl _ _).drew).mono kb.size)
    have hmD:Marks W4.heap.size wr.heap.size ds D:=by rw[<-hD];exact hmk.book (iZ.drew _)
    rw[hD]at htd hC ⊢
    clear hD kt kb ks kr hmk
    obtain⟨f0,f1,f2⟩:=htd.frz
    obtain⟨g0,g1,g2,g3,g4,g5⟩:=id hC
    have t1:=htd.aGJ acc.1
    have b1:=Below.two hBD (b:=w.heap.size+1) (by omega) (.int .i64 acc.1.f0) (.int .i64 acc.1.f1)
    have t2:=t1.aGK acc.2.1
    have b2:=Below.two b1 (b:=w.heap.size+1+1) (by omega) (.int .i64 acc.2.1.f0) (.int .i64 acc.2.1.f1)
    have t3:=t2.aGL acc.2.2
    have b3:=Below.two b2 (b:=w.heap.size+1+1+1) (by omega) (.int .i64 acc.2.2.f0) (.int .i64 acc.2.2.f1)
    have kk:=(iZ.setCell D ⟨w.heap.size+1,0,none⟩ (.int .i64 acc.1.f0)).trans ((iZ.setCell _ ⟨w.heap.size+1,1,none⟩ (.int .i64 acc.1.f1)).trans ((iZ.setCell _ ⟨w.heap.size+1+1,0,none⟩ (.int .i64 acc.2.1.f0)).trans ((iZ.setCell _ ⟨w.heap.size+1+1,1,none⟩ (.int .i64 acc.2.1.f1)).trans ((iZ.setCell _ ⟨w.heap.size+1+1+1,0,none⟩ (.int .i64 acc.2.2.f0)).trans (iZ.setCell _ ⟨w.heap.size+1+1+1,1,none⟩ (.int .i64 acc.2.2.f1))))))
    have bpL:=hmD.book kk
    refine uG rfl ?_
    gi_wp2
    refine⟨t1.reg,?_⟩
    refine uG rfl ?_
    gi_wp2
    refine⟨t2.reg,?_⟩
    refine uG rfl ?_
    gi_wp2
    refine⟨t3.reg,?_⟩
    show wpListIn _ _ _ _ _ _ _ _
    try simp only[List.drop_succ_cons,List.drop_zero]
    clear g0 g1 g2 g3 g4 g5 f0 f1 f2 hC htd t1 t2 b1 b2 hBD kk hmD hd3
    gi_wp2
    rw[yZ]
    gi_wp2
    refine aDW (B:=W4.heap.size) (T:=wr.heap.size) _ _ bpL (fun W' hi=>⟨_,a1K _ W' (w.heap.size+1) acc _ rfl rfl rfl rfl (t3.xW hi),?_⟩)
    exact⟨by rw[H0.out,hwr.out];rfl,nM.below b3 (by have:=bpI;omega) (Nat.le_refl _) hi⟩
 ·obtain⟨er,her⟩:∃ er,xZ R cs most=er:=⟨_,rfl⟩
  have hR:Hid (acT R cs most=zero3):=Lib.hid (if_neg h0)
  rw[her]at h0 ⊢
  have hne:(er !=0)=true:=by simp[h0]
  have h00:=Lib.hid h0
  have Her:=Lib.hid her
  clear h0 her
  rw[hsv]
  obtain⟨W2,hW2⟩:∃ W2,w1.alloc (Obj.cells #[.int .i64 a0,.int .i64 a1,.int .i64 a2,.int .i64 a3,.int .i64 a4,.int .i64 a5,.int .i64 a6,.slice B m k,.int .i64 a8] 141)=W2:=⟨_,rfl⟩
  have hb2:Below w1.heap.size w1 W2:=by rw[<-hW2];exact(Below.refl _ _).alloc (Nat.le_refl _) _
  have ht2:=ht1.step hb2
  have hB2:=hB1.trans (hb2.mono hB1.size)
  have hWe:=Lib.hid hW2
  clear hb1 hsv hs hrows uQ hba htr hB1 ht1 hb2 hWd hW2
  gi_wp2
  rw[hWe.out]
  have htd:=ht2.step ((Below.refl _ _).drew)
  have hC:ayV (w.heap.size+1) zero3 W2.drew:=htd.reg
  refine aaF 7 [(0,true),(1,true),(2,true),(3,true),(4,false),(5,false),(6,false)] (ayV (w.heap.size+1) zero3) (rZ.of (by kernel_rfl)) rfl (by kernel_rfl) hC ?_
  iterate 4 (apply FD rfl (fun _=>rfl) (by assumption);focus(intro K hK w' hw';obtain⟨g0,g1,g2,g3,g4,g5⟩:=hw';go_simp;exact hK))
  obtain⟨D,hD⟩:∃ D,W2.drew=D:=⟨_,rfl⟩
  have hBD:Below w.heap.size w D:=by rw[<-hD];exact hB2.trans (((Below.refl _ _).drew).mono hB2.size)
  rw[hD]at htd hC ⊢
  clear hD ht2 hB2
  obtain⟨f0,f1,f2⟩:=htd.frz
  obtain⟨g0,g1,g2,g3,g4,g5⟩:=id hC
  have t1:=htd.aGJ zero3.1
  have b1:=Below.two hBD (b:=w.heap.size+1) (by omega) (.int .i64 zero3.1.f0) (.int .i64 zero3.1.f1)
  have t2:=t1.aGK zero3.2.1
  have b2:=Below.two b1 (b:=w.heap.size+1+1) (by omega) (.int .i64 zero3.2.1.f0) (.int .i64 zero3.2.1.f1)
  have t3:=t2.aGL zero3.2.2
  have b3:=Below.two b2 (b:=w.heap.size+1+1+1) (by omega) (.int .i64 zero3.2.2.f0) (.int .i64 zero3.2.2.f1)
  refine uG rfl ?_
  gi_wp2
  refine⟨t1.reg,?_⟩
  refine uG rfl ?_
  gi_wp2
  refine⟨t2.reg,?_⟩
  refine uG rfl ?_
  gi_wp2
  refine⟨t3.reg,?_⟩
  show wpListIn _ _ _ _ _ _ _ _
  try simp only[List.drop_succ_cons,List.drop_zero]
  clear g0 g1 g2 g3 g4 g5 f0 f1 f2 hC htd t1 t2 b1 b2 hBD
  gi_wp2
  rw[yZ]
  gi_wp2
  refine aDW (B:=w.heap.size) (T:=w.heap.size) _ _ (Marks.nil _ _ _) (fun W' hi=>⟨_,a1K _ W' (w.heap.size+1) zero3 _ rfl rfl rfl rfl (t3.xW hi),?_⟩)
  exact⟨by rw[Her.out,hR.out];rfl,nM.below b3 (Nat.le_refl _) (Nat.le_refl _) hi⟩
end Go.Proofs.YtcmfnebcmmklkaaDoor.Hand

/- What the laws of chapter 9 share: words about rows and regions, the walks of the package dozen, and that known returns true. Part 7 of 16. -/
import Derived.Test.YtcmfnebcmmklkaaDoorK4
import Derived.Test.YtcmfnebcmmklkaaDoorK2
import Derived.Test.YtcmfnebcmmklkaaDoorK6
import Derived.LoopN
set_option linter.unusedVariables false
set_option linter.unusedSimpArgs false
set_option maxRecDepth 100000
set_option maxHeartbeats 8000000
namespace Go.Proofs.YtcmfnebcmmklkaaDoor.Q
open Go.RowKit Go.Proofs.YtcmfnebcmmklkaaDoorW.dQ Go.Proofs.YtcmfnebcmmklkaaDoorW.oU Go.Proofs.YtcmfnebcmmklkaaDoorW.gG
attribute [local go_sem] uA uB uC uD uM uN uO uP
mutual
def oV.l0 (Z:afI):Nat->Int->Int->Int->Unit->Unit->List (aZ)->List (aI)->List (aH)->List (aH)->Option ((List (aH))×(List (aH))×Bool)
  |0,_,_,_,_,_,_,_,_,_=>none
  |k+1,x2,nU,vJ,yI,xX,RI,RJ,DR,DT=>if vJ<nU then((rG.f Z k yI xX RI RJ vJ x2).bind fun MK=>((abS.f MK.1 MK.2).bind fun PD=>(if PD.2.2.2=true then(oV.l1 Z k x2 PD.1 nU vJ MK.2 (MK.2.length:Int) 0 yI xX RI RJ DR DT MK.1 MK.2 PD.2.1 PD.2.2.1)else(some (DR,DT,false)))))else(some (DR,DT,true))
def oV.l1 (Z:afI):Nat->Int->List (aH)->Int->Int->List (dR)->Int->Int->Unit->Unit->List (aZ)->List (aI)->List (aH)->List (aH)->Int->List (dR)->Int->Int->Option ((List (aH))×(List (aH))×Bool)
  |0,_,_,_,_,_,_,_,_,_,_,_,_,_,_,_,_,_=>none
  |k+1,x2,x10,nU,vJ,x41,x42,x43,yI,xX,RI,RJ,DR,DT,abT,avD,ah9,aiA=>if x43<x42 then(if 0<=x43 then(if x43<(x41.length:Int)then(if x43<(x10.length:Int)then(if 0<=((dP x41 x43).f1)then(if((dP x41 x43).f1)<(DT.length:Int)then(oV.l1 Z k x2 x10 nU vJ x41 x42 (wrap64 (x43+1)) yI xX RI RJ DR (DT.set (((dP x41 x43).f1):Int).toNat (⟨(bM x10 x43).f0,(bM x10 x43).f1⟩:aH)) abT avD ah9 aiA)else(none))else(none))else(none))else(none))else(none))else((yT.f abT abT ah9 aiA).bind fun aiB=>(if DR.length<8796093022208 then(oV.l0 Z k x2 nU (wrap64 (vJ+1)) yI xX RI RJ (DR++[(⟨aiB.1,aiB.2⟩:aH)]) DT)else(none)))
end
def oV.f (Z:afI) (k:Nat) (bV:Unit) (bU:Unit) (dN:List (aZ)) (bH:List (aI)) (a2:Int):Option ((List (aH))×(List (aH))×Bool):=if 0<=(bH.length:Int)then(if((bH.length:Int):Int).toNat<=17592186044416 then(oV.l0 Z k a2 (dN.length:Int) 0 bV bU dN bH ([]:List (aH)) (List.replicate ((bH.length:Int):Int).toNat z42))else(none))else(none)
def oV.T12:Bool×List (List Nat×List Nat):=(true,[([],[]),([0],[0]),([],[]),([2],[2]),([],[]),([],[]),([4,5],[4,5]),([6],[6]),([1,3,0,1,2,3,4,5,6,7],[1,3]),([8,7,0,1,2,3,4,5,6,7],[7,8])])
def oV.B12:List Nat:=[0,1,0,4,0,0,48,112,255,511]
theorem oV.bgJ:qW .any (opsOf Tryd.f100 12)=oV.T12:=by kernel_rfl
theorem oV.bgK:CZ oV.T12.2 oV.B12=true:=by kernel_rfl
def oV.T14:Bool×List (List Nat×List Nat):=(true,[([],[]),([0],[0]),([],[]),([2],[2]),([],[]),([4],[4]),([3,5],[3,5]),([],[]),([6,7],[6,7]),([8],[8]),([1,9,8],[1,9]),([0,1,2,3,4,5,6,7,8,9,10],[]),([11,10,10,0,1,2,3,4,5,6,7,8,9,10],[10,11])])
def oV.B14:List Nat:=[0,1,0,4,0,16,60,0,252,508,1023,2047,4095]
theorem oV.bgM:qW .any (opsOf Tryd.f100 14)=oV.T14:=by kernel_rfl
theorem oV.bgN:CZ oV.T14.2 oV.B14=true:=by kernel_rfl
theorem oV.calls (Z:afI) (k:Nat) (bV:Unit) (bU:Unit) (sZ:Option Addr) (nX:Nat) (dN:List (aZ)) (oZ:Option Addr) (nY:Nat) (bH:List (aI)) (a2:Int) (r1:List (aH)) (r2:List (aH)) (r3:Bool) (w:World) (aaB:Kd.C iJ w sZ dN.length dN) (aaC:dN.length<=nX) (aaD:Kd.C iE w oZ bH.length bH) (aaE:bH.length<=nY) (h:oV.f Z k bV bU dN bH a2=some (r1,r2,r3)):
    Calls Tryd.prog 100 #[.agg #[.func (.func Z.fa) #[] #[],.func (.func Z.fb) #[] #[]],.agg #[.slice sZ dN.length nX,.slice oZ bH.length nY],.int .u64 a2] w fun e w'=>∃ iG nC:Value,e=.returned (.tuple #[.agg #[iG,nC],.bool r3])/\Kd.R iD 42 w' w.heap.size (fun k_=>some k_≠(nC:Value).ownBlock) iG r1/\Kd.R iD 42 w' w.heap.size (fun k_=>some k_≠(iG:Value).ownBlock) nC r2/\Below w.heap.size w w':=by
 have aKB:=Tryd.underlying173
 have zH:=Tryd.underlying25
 have aWD:=Tryd.underlying124
 have bdM:=Tryd.underlying192
 have QY:=Tryd.underlying42
 have aC9:=Tryd.underlying197
 have am1:=aA.mk aaB
 have aDM:=aA.mk aaC
 clear aaB aaC
 have afL:=aA.mk aaD
 have aDN:=aA.mk aaE
 clear aaD aaE
 have HB:=aA.mk (Below.refl w.heap.size w)
 have H:(if 0<=(bH.length:Int)then(if((bH.length:Int):Int).toNat<=17592186044416 then(oV.l0 Z k a2 (dN.length:Int) 0 bV bU dN bH ([]:List (aH)) (List.replicate ((bH.length:Int):Int).toNat z42))else(none))else(none))=some (r1,r2,r3):=h
 clear h
 by_cases c4:0<=(bH.length:Int)
 ·rw[if_pos c4]at H
  have yH:=eq_true c4
  have aq1:decide (0<=(bH.length:Int))=true:=decide_eq_true c4
  clear c4
  by_cases c5:((bH.length:Int):Int).toNat<=17592186044416
  ·rw[if_pos c5]at H
   have ad8:=eq_true c5
   have bgO:decide (((bH.length:Int):Int).toNat<=17592186044416)=true:=decide_eq_true c5
   clear c5
   obtain⟨y151,hy151⟩:∃ y_:List (aH),y_=(List.replicate ((bH.length:Int):Int).toNat z42):=⟨_,rfl⟩
   replace H:(oV.l0 Z k a2 (dN.length:Int) 0 bV bU dN bH ([]:List (aH)) y151)=some (r1,r2,r3):=by first|(rw[hy151];with_reducible exact H)|(have dJ:=(Option.bind_some _ _).symm.trans H;rw[hy151];with_reducible exact dJ)|(have dJ:=(Option.bind_some _ _).symm.trans H;with_reducible exact dJ)|with_reducible exact H|(rw[hy151];exact H)|exact H
   have aD9:=aA.mk hy151
   clear hy151
   have H':=aA.mk H
   clear H
   go_enter Tryd.func100,Tryd.ntmps100
   go_wp2_with (first|((with_reducible refine dU (N:=3) rfl ?_);refine eX 3 #[.func (.func Z.fa) #[] #[],.func (.func Z.fb) #[] #[]] 173 ?_;intro vM hg w6 hbox hb;have dC:=aA.mk (hbox);have aK6:=gw hg HB;have aK7:=gw hg HB;replace HB:=bs HB hb;clear hb hbox hg)|((with_reducible refine dU (N:=4) rfl ?_);refine eX 4 #[.slice sZ dN.length nX,.slice oZ bH.length nY] 25 ?_;intro aEA hg w7 hbox hb;have lX:=aA.mk (hbox);have GW149:=gw hg HB;have GE149:=gw hg HB;have aK8:=nl hg dC;have aK9:=ng hg dC;replace dC:=aA.mk (fC (g:=vM) (o:=.cells #[.func (.func Z.fa) #[] #[],.func (.func Z.fb) #[] #[]] 173 (0,0)) (b_ dC) hb);replace HB:=bs HB hb;clear hb hbox hg)|((with_reducible refine dU (N:=6) rfl ?_);refine eX 6 #[.slice none 0 0,.slice none 0 0] 124 ?_;intro FI hg w8 hbox hb;have jD:=aA.mk (hbox);have GW150:=gw hg HB;have GE150:=gw hg HB;have am4:=nl hg dC;have avE:=ng hg dC;have am5:=nl hg lX;have avF:=ng hg lX;replace dC:=aA.mk (fC (g:=vM) (o:=.cells #[.func (.func Z.fa) #[] #[],.func (.func Z.fb) #[] #[]] 173 (0,0)) (b_ dC) hb);replace lX:=bb lX hb;replace HB:=bs HB hb;clear hb hbox hg;have ap7:=aK9.out;have ap8:=aK8.out;have aT7:=am5.out;have aT8:=avF.out;obtain⟨aC6,aC7⟩:=bZ lX (.slice sZ dN.length nX) (.slice oZ bH.length nY))|((with_reducible refine dU (N:=18) rfl ?_);refine Kd.aS6 iD _ 42 rfl (N:=18) rfl 31 _ _ rfl (bH.length:Int) rfl rfl Tryd.underlying31 (.agg #[(.int .i64 0),(.int .i64 0)]) 16 ad5 rfl (by decide) (by omega) z42 (ok:=fun _=>True) (lS:=fun _=>True) (WS _ _ _ z42) (fun _ hk=>hk) trivial (od) (Nat.le_trans (Nat.mul_le_mul_right _ (od:(bH.length:Int).toNat<=17592186044416)) (by omega)) (Below.refl _ _) (Nat.le_refl _) ?_;intro v152 w12 avG hb mF mG;clear mF mG;(first|rw[<-aD9.out]at avG|(simp only[Int.reduceToNat]at avG;rw[<-aD9.out]at avG));have aEB:=aA.mk (Kd.eF avG (dH (Bq HB)));replace dC:=aA.mk (fC (g:=vM) (o:=.cells #[.func (.func Z.fa) #[] #[],.func (.func Z.fb) #[] #[]] 173 (0,0)) (b_ dC) hb);replace lX:=bb lX hb;replace jD:=bb jD hb;replace HB:=bs HB hb;clear hb avG;obtain⟨XE,XF,rfl⟩:=Kd.dA aEB.out;have bc7:=avE.out;have bc8:=am4.out;obtain⟨ahN,ahO⟩:=bZ jD (.slice none 0 0) (.slice none 0 0);have auD:=aX jD.out 0;have auE:=aX jD.out 1;obtain⟨avH,avI⟩:=bZ lX (.slice sZ dN.length nX) (.slice oZ bH.length nY)))
   go_loopg [23] k (fun kq v23 w'=>∃ (QH:Int) (ML:List (aH)) (MM:List (aH)) (BP:Value) (DU:Value),v23=.int .i64 QH/\aA (oV.l0 Z kq a2 (dN.length:Int) QH bV bU dN bH ML MM=some (r1,r2,r3))/\aA (kq<=k)/\aA (Kd.R iD 42 w' w.heap.size (fun k_=>some k_≠(DU:Value).ownBlock) BP ML)/\aA (Kd.R iD 42 w' w.heap.size (fun k_=>some k_≠(BP:Value).ownBlock) DU MM)/\aA (w'.heap[vM]? =some (.cells #[.func (.func Z.fa) #[] #[],.func (.func Z.fb) #[] #[]] 173 (0,0)))/\aA (w'.heap[aEA]? =some (.cells #[(.slice sZ dN.length nX),(.slice oZ bH.length nY)] 25 (0,0)))/\aA (w'.heap[FI]? =some (.cells #[BP,DU] 124 (0,0)))/\aA (Below w.heap.size w w'))
   case atStart=>exact⟨(0),(([]:List (aH))),(y151),(.slice none 0 0),(.slice XE y151.length XF),(by first|rfl|(simp;done)|(simp[*];done)),H',⟨Nat.le_refl _⟩,⟨by first|exact Kd.xI _ _ _ _ _|exact Kd.TQ _ _ _ _ _|exact Kd.TR _ _ _ _ _|exact Kd.TM _ _ _ _ _|exact Kd.TP _ _ _ _ _⟩,⟨by(with_reducible repeat(first|apply Kd.fQ|apply Kd.fU|apply Kd.dG));exact Kd.bQ (Kd.bK (p:=⟨FI,1,none⟩) (Kd.gB aEB.out jD.out (by decide)) (fun _ hk=>hk.2) (.slice XE y151.length XF)) (fun _ hk=>(by simp[Value.ownBlock]))⟩,⟨by exact bG (b_ dC) am4.out _⟩,⟨by exact bG (b_ lX) am5.out _⟩,⟨by exact dE (cs:=#[.slice none 0 0,.slice none 0 0]) (b_ jD) 1 _ rfl⟩,⟨Bq HB⟩⟩
   case round=>
    clear H'
    try clear c4
    try clear yH
    try clear aq1
    try clear c5
    try clear ad8
    try clear bgO
    try clear aC6
    try clear aC7
    try clear ahN
    try clear ahO
    try clear avH
    try clear avI
    try clear aT3
    try clear aT4
    try clear auD
    try clear auE
    try clear bgP
    try clear bgQ
    obtain⟨QH,ML,MM,BP,DU,rfl,HA,fV,pM,mX,dC,lX,jD,HB⟩:=hrel
    rcases gk with _|k1
    ·exact absurd HA.out (by simp[oV.l0])
    have H:=HA.out
    clear HA
    simp only[oV.l0]at H
    by_cases c18:QH<(dN.length:Int)
    ·rw[if_pos c18]at H
     have aWE:decide (QH<(dN.length:Int))=true:=decide_eq_true c18
     clear c18
     replace H:=Option.bind_eq_some_iff.mp H
     obtain⟨⟨t154,t155⟩,aWF,H⟩:=H
     replace H:((abS.f t154 t155).bind fun PD=>(if PD.2.2.2=true then(oV.l1 Z k1 a2 PD.1 (dN.length:Int) QH t155 (t155.length:Int) 0 bV bU dN bH ML MM t154 t155 PD.2.1 PD.2.2.1)else(some (ML,MM,false))))=some (r1,r2,r3):=H
     have A19:=aA.mk aWF
     clear aWF
     replace H:=Option.bind_eq_some_iff.mp H
     obtain⟨⟨t159,t162,t163,t164⟩,aWH,H⟩:=H
     replace H:(if t164=true then(oV.l1 Z k1 a2 t159 (dN.length:Int) QH t155 (t155.length:Int) 0 bV bU dN bH ML MM t154 t155 t162 t163)else(some (ML,MM,false)))=some (r1,r2,r3):=H
     have xY:=aA.mk aWH
     clear aWH
     by_cases c21:t164=true
     ·subst c21
      replace H:(oV.l1 Z k1 a2 t159 (dN.length:Int) QH t155 (t155.length:Int) 0 bV bU dN bH ML MM t154 t155 t162 t163)=some (r1,r2,r3):=by rw[if_pos rfl]at H;exact H
      have H':=aA.mk H
      clear H
      have at1:=aK8.out
      have at6:=aK9.out
      have bgR:=am4.out
      have bgS:=avE.out
      obtain⟨bgT,bgU⟩:=bZ dC (.func (.func Z.fa) #[] #[]) (.func (.func Z.fb) #[] #[])
      have bgV:=aX dC.out 0
      have bgW:=aX dC.out 1
      have bgX:=am5.out
      have bgY:=avF.out
      obtain⟨aq2,aq3⟩:=bZ lX (.slice sZ dN.length nX) (.slice oZ bH.length nY)
      go_wp2_with (first|((with_reducible refine gJ (f:=118) rfl ?_);refine cE 30 Tryd.func118 #[.agg #[.func (.func Z.fa) #[] #[],.func (.func Z.fb) #[] #[]],.agg #[.slice sZ dN.length nX,.slice oZ bH.length nY],.int .i64 QH,.int .u64 a2] ?_;refine(rG.calls Z k1 bV bU _ _ dN _ _ bH QH a2 t154 t155 _ (Kd.bJ am1.out (Bq HB)) aDM.out (Kd.bJ afL.out (Bq HB)) aDN.out A19.out).mono ?_;rintro e wF ⟨bgZ,rfl,ho0,hb⟩;refine⟨_,rfl,?_⟩;have GR:=aA.mk (Kd.eF ho0 (dH (Bq HB)));replace pM:=RB pM hb;replace mX:=RB mX hb;replace dC:=aA.mk (fC (g:=vM) (o:=.cells #[.func (.func Z.fa) #[] #[],.func (.func Z.fb) #[] #[]] 173 (0,0)) (b_ dC) hb);replace lX:=bb lX hb;replace jD:=bb jD hb;replace HB:=bs HB hb;(try clear hb);(try clear ho0))|((with_reducible refine dU (N:=9) rfl ?_);refine eX 9 #[.int .i64 0,.slice none 0 0] 192 ?_;intro wS hg BQ hbox hb;have lF:=aA.mk (hbox);have bg0:=gw hg HB;have bg1:=gw hg HB;have am6:=nl hg dC;have aLA:=ng hg dC;have am7:=nl hg lX;have aLB:=ng hg lX;have aiC:=nl hg jD;have aEC:=ng hg jD;replace pM:=RB pM hb;replace mX:=RB mX hb;replace GR:=RB GR hb;replace dC:=aA.mk (fC (g:=vM) (o:=.cells #[.func (.func Z.fa) #[] #[],.func (.func Z.fb) #[] #[]] 173 (0,0)) (b_ dC) hb);replace lX:=bb lX hb;replace jD:=bb jD hb;replace HB:=bs HB hb;clear hb hbox hg;have bg2:=aLA.out;have bg3:=am6.out;have aJ3:=aLB.out;have aJ4:=am7.out;have aqI:=aEC.out;have aqJ:=aiC.out;obtain⟨aqK,aqL⟩:=bZ lF (.int .i64 0) (.slice none 0 0);have aDE:=aX lF.out 0;have aDF:=aX lF.out 1;obtain⟨UB,GU,rfl⟩:=Kd.dA GR.out)|((with_reducible refine gJ (f:=119) rfl ?_);refine cE 33 Tryd.func119 #[.agg #[.int .i64 t154,.slice UB t155.length GU]] ?_;refine(abS.calls t154 _ _ t155 t159 t162 t163 true _ (by refine(Kd.dB (e:=197) (base:=w.heap.size) (ok:=fun k_=>True) (n:=t155.length) (c:=GU) ?_).2.2;exact(by(with_reducible repeat(first|apply Kd.fQ|apply Kd.fU|apply Kd.dG));exact(Kd.bQ (Kd.bK (p:=⟨wS,1,none⟩) (Kd.bK (p:=⟨wS,0,none⟩) (Kd.gB GR.out lF.out (by decide)) (fun _ hk=>hk.2) (.int .i64 t154)) (fun _ hk=>hk.2) (.slice UB t155.length GU)) (fun _ h_=>h_.1)))) ((Kd.dB GR.out).2.1) xY.out).mono ?_;rintro e MN ⟨v160,rfl,ho0,hb⟩;refine⟨_,rfl,?_⟩;have aq4:=aA.mk (Kd.eF (Kd.fG (Kd.fG ho0 (Kd.dY (by(with_reducible repeat(first|apply Kd.fQ|apply Kd.fU|apply Kd.dG));exact(Kd.bQ (Kd.bK (p:=⟨wS,1,none⟩) (Kd.bK (p:=⟨wS,0,none⟩) (Kd.gB pM.out lF.out (by decide)) (fun _ hk=>hk.2) (.int .i64 t154)) (fun _ hk=>hk.2) (.slice UB t155.length GU)) (fun _ h_=>h_.1))))) (Kd.dY (by(with_reducible repeat(first|apply Kd.fQ|apply Kd.fU|apply Kd.dG));exact(Kd.bQ (Kd.bK (p:=⟨wS,1,none⟩) (Kd.bK (p:=⟨wS,0,none⟩) (Kd.gB mX.out lF.out (by decide)) (fun _ hk=>hk.2) (.int .i64 t154)) (fun _ hk=>hk.2) (.slice UB t155.length GU)) (fun _ h_=>h_.1))))) (dH (Bq HB)));replace pM:=aA.mk (Kd.gW (by(with_reducible repeat(first|apply Kd.fQ|apply Kd.fU|apply Kd.dG));exact(Kd.bQ (Kd.bK (p:=⟨wS,1,none⟩) (Kd.bK (p:=⟨wS,0,none⟩) (Kd.gB pM.out lF.out (by decide)) (fun _ hk=>hk.2) (.int .i64 t154)) (fun _ hk=>hk.2) (.slice UB t155.length GU)) (fun _ h_=>h_.1))) (Kd.fF ho0) hb);replace mX:=aA.mk (Kd.gW (by(with_reducible repeat(first|apply Kd.fQ|apply Kd.fU|apply Kd.dG));exact(Kd.bQ (Kd.bK (p:=⟨wS,1,none⟩) (Kd.bK (p:=⟨wS,0,none⟩) (Kd.gB mX.out lF.out (by decide)) (fun _ hk=>hk.2) (.int .i64 t154)) (fun _ hk=>hk.2) (.slice UB t155.length GU)) (fun _ h_=>h_.1))) (Kd.fF ho0) hb);replace GR:=aA.mk (Kd.rY (by(with_reducible repeat(first|apply Kd.fQ|apply Kd.fU|apply Kd.dG));exact(Kd.bQ (Kd.bK (p:=⟨wS,1,none⟩) (Kd.bK (p:=⟨wS,0,none⟩) (Kd.gB GR.out lF.out (by decide)) (fun _ hk=>hk.2) (.int .i64 t154)) (fun _ hk=>hk.2) (.slice UB t155.length GU)) (fun _ h_=>h_.1))) hb);replace dC:=aA.mk (fC (by exact bG (bG (b_ dC) am6.out _) am6.out _) hb);replace lX:=aA.mk (fC (by exact bG (bG (b_ lX) am7.out _) am7.out _) hb);replace jD:=aA.mk (fC (by exact bG (bG (b_ jD) aiC.out _) aiC.out _) hb);replace lF:=aA.mk (fC (by exact dE (cs:=#[.int .i64 t154,.slice none 0 0]) (dE (cs:=#[.int .i64 0,.slice none 0 0]) (b_ lF) 0 _ rfl) 1 _ rfl) hb);replace HB:=bs HB hb;(try clear hb);(try clear ho0))|((with_reducible refine dU (N:=11) rfl ?_);refine eX 11 #[.int .i64 0,.int .i64 0] 42 ?_;intro sF hg FB hbox hb;have rV:=aA.mk (hbox);have bg4:=gw hg HB;have bg5:=gw hg HB;have avJ:=nl hg dC;have aLC:=ng hg dC;have avK:=nl hg lX;have aLD:=ng hg lX;have aiD:=nl hg jD;have aED:=ng hg jD;have avL:=nl hg lF;have aLE:=ng hg lF;replace pM:=aA.mk (Kd.rY (Kd.ZW (R_ pM) sF (Nat.le_of_eq hg.symm)) hb);replace mX:=aA.mk (Kd.rY (Kd.ZW (R_ mX) sF (Nat.le_of_eq hg.symm)) hb);replace GR:=RB GR hb;replace aq4:=aA.mk (Kd.rY (Kd.ZW (R_ aq4) sF (Nat.le_of_eq hg.symm)) hb);replace dC:=aA.mk (fC (g:=vM) (o:=.cells #[.func (.func Z.fa) #[] #[],.func (.func Z.fb) #[] #[]] 173 (0,0)) (b_ dC) hb);replace lX:=bb lX hb;replace jD:=bb jD hb;replace lF:=bb lF hb;replace HB:=bs HB hb;clear hb hbox hg;have aWI:=aLC.out;have aWJ:=avJ.out;have aWK:=aLD.out;have aWL:=avK.out;have hnb38:=aED.out;have hnc38:=aiD.out;have hnb39:=aLE.out;have hnc39:=avL.out;obtain⟨bg6,bg7⟩:=bZ rV (.int .i64 0) (.int .i64 0);have bg8:=aX rV.out 0;have bg9:=aX rV.out 1;obtain⟨aLF,aLG⟩:=bZ lF (.int .i64 t154) (.slice UB t155.length GU);have aWM:=aX lF.out 0;have aWN:=aX lF.out 1))
      go_loopg [43] k1 (fun kq v43 w'=>∃ (zA:List (aH)) (dV:Int) (abU:List (aH)) (RN:List (aH)) (abV:Int) (abW:Int) (BP:Value) (DU:Value),v43=.int .i64 dV/\aA (oV.l1 Z kq a2 zA (dN.length:Int) QH t155 (t155.length:Int) dV bV bU dN bH abU RN t154 t155 abV abW=some (r1,r2,r3))/\aA (kq<=k1)/\aA (Kd.R iD 42 w' w.heap.size (fun k_=>some k_≠(BP:Value).ownBlock/\some k_≠(DU:Value).ownBlock/\k_≠sF) v160 zA)/\aA (Kd.R QX 197 w' w.heap.size (fun _=>True) (.slice UB t155.length GU) t155)/\aA (Kd.R iD 42 w' w.heap.size (fun k_=>some k_≠(v160:Value).ownBlock/\some k_≠(DU:Value).ownBlock/\k_≠sF) BP abU)/\aA (Kd.R iD 42 w' w.heap.size (fun k_=>some k_≠(v160:Value).ownBlock/\some k_≠(BP:Value).ownBlock/\k_≠sF) DU RN)/\aA (Kd.R QX 197 w' w.heap.size (fun _=>True) (.slice UB t155.length GU) t155)/\aA (w'.heap[vM]? =some (.cells #[.func (.func Z.fa) #[] #[],.func (.func Z.fb) #[] #[]] 173 (0,0)))/\aA (w'.heap[aEA]? =some (.cells #[(.slice sZ dN.length nX),(.slice oZ bH.length nY)] 25 (0,0)))/\aA (w'.heap[FI]? =some (.cells #[BP,DU] 124 (0,0)))/\aA (w'.heap[wS]? =some (.cells #[.int .i64 t154,(.slice UB t155.length GU)] 192 (0,0)))/\aA (w'.heap[sF]? =some (.cells #[.int .i64 abV,.int .i64 abW] 42 (0,0)))/\aA (Below w.heap.size w w'))
      case atStart=>exact⟨(t159),(0),(ML),(MM),(t162),(t163),(BP),(DU),(by first|rfl|(simp;done)|(simp[*];done)),H',⟨Nat.le_refl _⟩,⟨by(with_reducible repeat(first|apply Kd.fQ|apply Kd.fU|apply Kd.dG));exact Kd.bQ (Kd.bK (p:=⟨sF,1,none⟩) (Kd.bK (p:=⟨sF,0,none⟩) (Kd.bQ aq4.out (fun k_ hk=>(⟨hk,hk.2⟩:_/\k_≠sF))) (fun _ hk=>hk.2) (.int .i64 t162)) (fun _ hk=>hk.2) (.int .i64 t163)) (fun _ hk=>⟨hk.1.1.1.2,⟨hk.1.1.2,hk.1.2⟩⟩)⟩,⟨by(with_reducible repeat(first|apply Kd.fQ|apply Kd.fU|apply Kd.dG));exact Kd.bQ (Kd.bK (p:=⟨sF,1,none⟩) (Kd.bK (p:=⟨sF,0,none⟩) (Kd.gB GR.out rV.out (by decide)) (fun _ hk=>hk.2) (.int .i64 t162)) (fun _ hk=>hk.2) (.int .i64 t163)) (fun _ hk=>trivial)⟩,⟨by(with_reducible repeat(first|apply Kd.fQ|apply Kd.fU|apply Kd.dG));exact Kd.bQ (Kd.bK (p:=⟨sF,1,none⟩) (Kd.bK (p:=⟨sF,0,none⟩) (Kd.bQ pM.out (fun k_ hk=>(⟨hk,hk.2⟩:_/\k_≠sF))) (fun _ hk=>hk.2) (.int .i64 t162)) (fun _ hk=>hk.2) (.int .i64 t163)) (fun _ hk=>⟨hk.1.1.2,⟨hk.1.1.1,hk.1.2⟩⟩)⟩,⟨by(with_reducible repeat(first|apply Kd.fQ|apply Kd.fU|apply Kd.dG));exact Kd.bQ (Kd.bK (p:=⟨sF,1,none⟩) (Kd.bK (p:=⟨sF,0,none⟩) (Kd.bQ mX.out (fun k_ hk=>(⟨hk,hk.2⟩:_/\k_≠sF))) (fun _ hk=>hk.2) (.int .i64 t162)) (fun _ hk=>hk.2) (.int .i64 t163)) (fun _ hk=>⟨hk.1.1.2,⟨hk.1.1.1,hk.1.2⟩⟩)⟩,⟨by(with_reducible repeat(first|apply Kd.fQ|apply Kd.fU|apply Kd.dG));exact Kd.bQ (Kd.bK (p:=⟨sF,1,none⟩) (Kd.bK (p:=⟨sF,0,none⟩) (Kd.gB GR.out rV.out (by decide)) (fun _ hk=>hk.2) (.int .i64 t162)) (fun _ hk=>hk.2) (.int .i64 t163)) (fun _ hk=>trivial)⟩,⟨by exact bG (bG (b_ dC) avJ.out _) avJ.out _⟩,⟨by exact bG (bG (b_ lX) avK.out _) avK.out _⟩,⟨by exact bG (bG (b_ jD) aiD.out _) aiD.out _⟩,⟨by exact bG (bG (b_ lF) avL.out _) avL.out _⟩,⟨by exact dE (cs:=#[.int .i64 t162,.int .i64 0]) (dE (cs:=#[.int .i64 0,.int .i64 0]) (b_ rV) 0 _ rfl) 1 _ rfl⟩,⟨Bq HB⟩⟩
      case round=>
       clear H'
       try clear c18
       try clear aWE
       try clear c21
       try clear bgT
       try clear bgU
       try clear aq2
       try clear aq3
       try clear aqK
       try clear aqL
       try clear bg6
       try clear bg7
       try clear aLF
       try clear aLG
       try clear bgV
       try clear bgW
       try clear aEE
       try clear aEF
       try clear aDE
       try clear aDF
       try clear bg8
       try clear bg9
       try clear aWM
       try clear aWN
       obtain⟨zA,dV,abU,RN,abV,abW,BP,DU,rfl,HA,mY,DV,GV,pM,mX,MO,dC,lX,jD,lF,rV,HB⟩:=hrel
       rcases gk with _|k2
       ·exact absurd HA.out (by simp[oV.l1])
       have H:=HA.out
       clear HA
       simp only[oV.l1]at H
       by_cases c42:dV<(t155.length:Int)
       ·rw[if_pos c42]at H
        have bhA:decide (dV<(t155.length:Int))=true:=decide_eq_true c42
        clear c42
        by_cases c43:0<=dV
        ·rw[if_pos c43]at H
         have aq6:decide (0<=dV)=true:=decide_eq_true c43
         clear c43
         by_cases c44:dV<(t155.length:Int)
         ·rw[if_pos c44]at H
          have aWO:decide (dV<(t155.length:Int))=true:=decide_eq_true c44
          clear c44
          by_cases DW:dV<(zA.length:Int)
          ·rw[if_pos DW]at H
           have aWP:decide (dV<(zA.length:Int))=true:=decide_eq_true DW
           clear DW
           by_cases c46:0<=((dP t155 dV).f1)
           ·rw[if_pos c46]at H
            have c46b0:decide (0<=((dP t155 dV).f1))=true:=decide_eq_true c46
            clear c46
            by_cases c47:((dP t155 dV).f1)<(RN.length:Int)
            ·rw[if_pos c47]at H
             have c47b0:decide (((dP t155 dV).f1)<(RN.length:Int))=true:=decide_eq_true c47
             clear c47
             obtain⟨aWQ,avM⟩:∃ y_:List (aH),y_=(RN.set (((dP t155 dV).f1):Int).toNat (⟨(bM zA dV).f0,(bM zA dV).f1⟩:aH)):=⟨_,rfl⟩
             replace H:(oV.l1 Z k2 a2 zA (dN.length:Int) QH t155 (t155.length:Int) (wrap64 (dV+1)) bV bU dN bH abU aWQ t154 t155 abV abW)=some (r1,r2,r3):=by first|(rw[avM];with_reducible exact H)|(have dJ:=(Option.bind_some _ _).symm.trans H;rw[avM];with_reducible exact dJ)|(have dJ:=(Option.bind_some _ _).symm.trans H;with_reducible exact dJ)|with_reducible exact H|(rw[avM];exact H)|exact H
             have bhB:=aA.mk avM
             clear avM
             have H':=aA.mk H
             clear H
             have aLH:0<=(dV:Int):=od
             have aLI:dV<(t155.length:Int):=od
             obtain⟨aEG,e166,hx166_0,hx166_1,hx166_2,hx166_3⟩:=aIX (Kd.dB GV.out).2.2 dV aLH aLI
             cases e166
             replace aLH:=eq_true aLH
             replace aLI:=eq_true aLI
             try go_wp2_with (first|((with_reducible refine dU (N:=14) rfl ?_);refine eX 14 #[.int .i64 0,.int .i64 0,.int .i64 0,.bool false] 197 ?_;intro jJ hg yJ hbox hb;have GX:=aA.mk (hbox);have GW167:=gw hg HB;have GE167:=gw hg HB;have avN:=nl hg dC;have bhC:=ng hg dC;have avO:=nl hg lX;have bhD:=ng hg lX;have avP:=nl hg jD;have bhE:=ng hg jD;have avQ:=nl hg lF;have bhF:=ng hg lF;have avR:=nl hg rV;have bhG:=ng hg rV;replace DV:=RB DV hb;replace GV:=aA.mk (Kd.rY (Kd.ZW (R_ GV) jJ (Nat.le_of_eq hg.symm)) hb);replace pM:=RB pM hb;replace mX:=RB mX hb;replace MO:=aA.mk (Kd.rY (Kd.ZW (R_ MO) jJ (Nat.le_of_eq hg.symm)) hb);replace dC:=aA.mk (fC (g:=vM) (o:=.cells #[.func (.func Z.fa) #[] #[],.func (.func Z.fb) #[] #[]] 173 (0,0)) (b_ dC) hb);replace lX:=bb lX hb;replace jD:=bb jD hb;replace lF:=aA.mk (fC (g:=wS) (o:=.cells #[.int .i64 t154,.slice (some aEG) t155.length GU] 192 (0,0)) (b_ lF) hb);replace rV:=bb rV hb;replace HB:=bs HB hb;clear hb hbox hg;have aKL:=bhC.out;have aKM:=avN.out;have aU7:=bhD.out;have aU8:=avO.out;have aU9:=bhE.out;have aVA:=avP.out;have hnb53:=bhF.out;have hnc53:=avQ.out;have bd7:=bhG.out;have bd8:=avR.out;obtain⟨hcz55_0,hcz55_1⟩:=bZ GX (.int .i64 0) (.int .i64 0);have hcz55_2:=kd GX 2 (.int .i64 0);have hcz55_3:=kd GX 3 (.bool false);have hfz55_0:=aX GX.out 0;have hfz55_1:=aX GX.out 1;have hfz55_2:=aX GX.out 2;have hfz55_3:=aX GX.out 3))
             have aV:aA (Kd.R iD 42 ((((yJ.setCell ⟨jJ,0,none⟩ (.int .i64 ((dP t155 dV).f0.f0))).setCell ⟨jJ,1,none⟩ (.int .i64 ((dP t155 dV).f0.f1))).setCell ⟨jJ,2,none⟩ (.int .i64 ((dP t155 dV).f1))).setCell ⟨jJ,3,none⟩ (.bool ((dP t155 dV).f2))) w.heap.size (fun k_=>some k_≠(BP:Value).ownBlock/\some k_≠(DU:Value).ownBlock/\k_≠sF) v160 zA):=⟨by(with_reducible repeat(first|apply Kd.fQ|apply Kd.fU|apply Kd.dG));exact Kd.bQ (Kd.bK (p:=⟨jJ,3,none⟩) (Kd.bK (p:=⟨jJ,2,none⟩) (Kd.bK (p:=⟨jJ,1,none⟩) (Kd.bK (p:=⟨jJ,0,none⟩) (Kd.gB DV.out GX.out (by decide)) (fun _ hk=>hk.2) (.int .i64 ((dP t155 dV).f0.f0))) (fun _ hk=>hk.2) (.int .i64 ((dP t155 dV).f0.f1))) (fun _ hk=>hk.2) (.int .i64 ((dP t155 dV).f1))) (fun _ hk=>hk.2) (.bool ((dP t155 dV).f2))) (fun _ hk=>⟨hk.1.1,⟨hk.1.2.1,hk.1.2.2⟩⟩)⟩
             have aW:aA (Kd.R QX 197 ((((yJ.setCell ⟨jJ,0,none⟩ (.int .i64 ((dP t155 dV).f0.f0))).setCell ⟨jJ,1,none⟩ (.int .i64 ((dP t155 dV).f0.f1))).setCell ⟨jJ,2,none⟩ (.int .i64 ((dP t155 dV).f1))).setCell ⟨jJ,3,none⟩ (.bool ((dP t155 dV).f2))) w.heap.size (fun k_=>k_≠jJ) (.slice (some aEG) t155.length GU) t155):=⟨by(with_reducible repeat(first|apply Kd.fQ|apply Kd.fU|apply Kd.dG));exact Kd.bQ (Kd.bK (p:=⟨jJ,3,none⟩) (Kd.bK (p:=⟨jJ,2,none⟩) (Kd.bK (p:=⟨jJ,1,none⟩) (Kd.bK (p:=⟨jJ,0,none⟩) (Kd.bQ GV.out (fun k_ hk=>(⟨hk,hk.2⟩:_/\k_≠jJ))) (fun _ hk=>hk.2) (.int .i64 ((dP t155 dV).f0.f0))) (fun _ hk=>hk.2) (.int .i64 ((dP t155 dV).f0.f1))) (fun _ hk=>hk.2) (.int .i64 ((dP t155 dV).f1))) (fun _ hk=>hk.2) (.bool ((dP t155 dV).f2))) (fun _ hk=>hk.1.2)⟩
             have aY:aA (Kd.R iD 42 ((((yJ.setCell ⟨jJ,0,none⟩ (.int .i64 ((dP t155 dV).f0.f0))).setCell ⟨jJ,1,none⟩ (.int .i64 ((dP t155 dV).f0.f1))).setCell ⟨jJ,2,none⟩ (.int .i64 ((dP t155 dV).f1))).setCell ⟨jJ,3,none⟩ (.bool ((dP t155 dV).f2))) w.heap.size (fun k_=>some k_≠(v160:Value).ownBlock/\some k_≠(DU:Value).ownBlock/\k_≠sF) BP abU):=⟨by(with_reducible repeat(first|apply Kd.fQ|apply Kd.fU|apply Kd.dG));exact Kd.bQ (Kd.bK (p:=⟨jJ,3,none⟩) (Kd.bK (p:=⟨jJ,2,none⟩) (Kd.bK (p:=⟨jJ,1,none⟩) (Kd.bK (p:=⟨jJ,0,none⟩) (Kd.gB pM.out GX.out (by decide)) (fun _ hk=>hk.2) (.int .i64 ((dP t155 dV).f0.f0))) (fun _ hk=>hk.2) (.int .i64 ((dP t155 dV).f0.f1))) (fun _ hk=>hk.2) (.int .i64 ((dP t155 dV).f1))) (fun _ hk=>hk.2) (.bool ((dP t155 dV).f2))) (fun _ hk=>⟨hk.1.1,⟨hk.1.2.1,hk.1.2.2⟩⟩)⟩
             have bI:aA (Kd.R iD 42 ((((yJ.setCell ⟨jJ,0,none⟩ (.int .i64 ((dP t155 dV).f0.f0))).setCell ⟨jJ,1,none⟩ (.int .i64 ((dP t155 dV).f0.f1))).setCell ⟨jJ,2,none⟩ (.int .i64 ((dP t155 dV).f1))).setCell ⟨jJ,3,none⟩ (.bool ((dP t155 dV).f2))) w.heap.size (fun k_=>some k_≠(v160:Value).ownBlock/\some k_≠(BP:Value).ownBlock/\k_≠sF) DU RN):=⟨by(with_reducible repeat(first|apply Kd.fQ|apply Kd.fU|apply Kd.dG));exact Kd.bQ (Kd.bK (p:=⟨jJ,3,none⟩) (Kd.bK (p:=⟨jJ,2,none⟩) (Kd.bK (p:=⟨jJ,1,none⟩) (Kd.bK (p:=⟨jJ,0,none⟩) (Kd.gB mX.out GX.out (by decide)) (fun _ hk=>hk.2) (.int .i64 ((dP t155 dV).f0.f0))) (fun _ hk=>hk.2) (.int .i64 ((dP t155 dV).f0.f1))) (fun _ hk=>hk.2) (.int .i64 ((dP t155 dV).f1))) (fun _ hk=>hk.2) (.bool ((dP t155 dV).f2))) (fun _ hk=>⟨hk.1.1,⟨hk.1.2.1,hk.1.2.2⟩⟩)⟩
             have cO:aA (Kd.R QX 197 ((((yJ.setCell ⟨jJ,0,none⟩ (.int .i64 ((dP t155 dV).f0.f0))).setCell ⟨jJ,1,none⟩ (.int .i64 ((dP t155 dV).f0.f1))).setCell ⟨jJ,2,none⟩ (.int .i64 ((dP t155 dV).f1))).setCell ⟨jJ,3,none⟩ (.bool ((dP t155 dV).f2))) w.heap.size (fun k_=>k_≠jJ) (.slice (some aEG) t155.length GU) t155):=⟨by(with_reducible repeat(first|apply Kd.fQ|apply Kd.fU|apply Kd.dG));exact Kd.bQ (Kd.bK (p:=⟨jJ,3,none⟩) (Kd.bK (p:=⟨jJ,2,none⟩) (Kd.bK (p:=⟨jJ,1,none⟩) (Kd.bK (p:=⟨jJ,0,none⟩) (Kd.bQ MO.out (fun k_ hk=>(⟨hk,hk.2⟩:_/\k_≠jJ))) (fun _ hk=>hk.2) (.int .i64 ((dP t155 dV).f0.f0))) (fun _ hk=>hk.2) (.int .i64 ((dP t155 dV).f0.f1))) (fun _ hk=>hk.2) (.int .i64 ((dP t155 dV).f1))) (fun _ hk=>hk.2) (.bool ((dP t155 dV).f2))) (fun _ hk=>hk.1.2)⟩
             have gY:aA (((((yJ.setCell ⟨jJ,0,none⟩ (.int .i64 ((dP t155 dV).f0.f0))).setCell ⟨jJ,1,none⟩ (.int .i64 ((dP t155 dV).f0.f1))).setCell ⟨jJ,2,none⟩ (.int .i64 ((dP t155 dV).f1))).setCell ⟨jJ,3,none⟩ (.bool ((dP t155 dV).f2))).heap[vM]? =some (.cells #[.func (.func Z.fa) #[] #[],.func (.func Z.fb) #[] #[]] 173 (0,0))):=⟨by exact bG (bG (bG (bG (b_ dC) avN.out _) avN.out _) avN.out _) avN.out _⟩
             have kR:aA (((((yJ.setCell ⟨jJ,0,none⟩ (.int .i64 ((dP t155 dV).f0.f0))).setCell ⟨jJ,1,none⟩ (.int .i64 ((dP t155 dV).f0.f1))).setCell ⟨jJ,2,none⟩ (.int .i64 ((dP t155 dV).f1))).setCell ⟨jJ,3,none⟩ (.bool ((dP t155 dV).f2))).heap[aEA]? =some (.cells #[.slice sZ dN.length nX,.slice oZ bH.length nY] 25 (0,0))):=⟨by exact bG (bG (bG (bG (b_ lX) avO.out _) avO.out _) avO.out _) avO.out _⟩
             have nD:aA (((((yJ.setCell ⟨jJ,0,none⟩ (.int .i64 ((dP t155 dV).f0.f0))).setCell ⟨jJ,1,none⟩ (.int .i64 ((dP t155 dV).f0.f1))).setCell ⟨jJ,2,none⟩ (.int .i64 ((dP t155 dV).f1))).setCell ⟨jJ,3,none⟩ (.bool ((dP t155 dV).f2))).heap[FI]? =some (.cells #[BP,DU] 124 (0,0))):=⟨by exact bG (bG (bG (bG (b_ jD) avP.out _) avP.out _) avP.out _) avP.out _⟩
             have nH:aA (((((yJ.setCell ⟨jJ,0,none⟩ (.int .i64 ((dP t155 dV).f0.f0))).setCell ⟨jJ,1,none⟩ (.int .i64 ((dP t155 dV).f0.f1))).setCell ⟨jJ,2,none⟩ (.int .i64 ((dP t155 dV).f1))).setCell ⟨jJ,3,none⟩ (.bool ((dP t155 dV).f2))).heap[wS]? =some (.cells #[.int .i64 t154,.slice (some aEG) t155.length GU] 192 (0,0))):=⟨by exact bG (bG (bG (bG (b_ lF) avQ.out _) avQ.out _) avQ.out _) avQ.out _⟩
             have nI:aA (((((yJ.setCell ⟨jJ,0,none⟩ (.int .i64 ((dP t155 dV).f0.f0))).setCell ⟨jJ,1,none⟩ (.int .i64 ((dP t155 dV).f0.f1))).setCell ⟨jJ,2,none⟩ (.int .i64 ((dP t155 dV).f1))).setCell ⟨jJ,3,none⟩ (.bool ((dP t155 dV).f2))).heap[sF]? =some (.cells #[.int .i64 abV,.int .i64 abW] 42 (0,0))):=⟨by exact bG (bG (bG (bG (b_ rV) avR.out _) avR.out _) avR.out _) avR.out _⟩
             have nJ:aA (((((yJ.setCell ⟨jJ,0,none⟩ (.int .i64 ((dP t155 dV).f0.f0))).setCell ⟨jJ,1,none⟩ (.int .i64 ((dP t155 dV).f0.f1))).setCell ⟨jJ,2,none⟩ (.int .i64 ((dP t155 dV).f1))).setCell ⟨jJ,3,none⟩ (.bool ((dP t155 dV).f2))).heap[jJ]? =some (.cells #[.int .i64 ((dP t155 dV).f0.f0),.int .i64 ((dP t155 dV).f0.f1),.int .i64 ((dP t155 dV).f1),.bool ((dP t155 dV).f2)] 197 (0,0))):=⟨by exact dE (cs:=#[.int .i64 ((dP t155 dV).f0.f0),.int .i64 ((dP t155 dV).f0.f1),.int .i64 ((dP t155 dV).f1),.bool false]) (dE (cs:=#[.int .i64 ((dP t155 dV).f0.f0),.int .i64 ((dP t155 dV).f0.f1),.int .i64 0,.bool false]) (dE (cs:=#[.int .i64 ((dP t155 dV).f0.f0),.int .i64 0,.int .i64 0,.bool false]) (dE (cs:=#[.int .i64 0,.int .i64 0,.int .i64 0,.bool false]) (b_ GX) 0 _ rfl) 1 _ rfl) 2 _ rfl) 3 _ rfl⟩
             have uT:aA (Below w.heap.size w ((((yJ.setCell ⟨jJ,0,none⟩ (.int .i64 ((dP t155 dV).f0.f0))).setCell ⟨jJ,1,none⟩ (.int .i64 ((dP t155 dV).f0.f1))).setCell ⟨jJ,2,none⟩ (.int .i64 ((dP t155 dV).f1))).setCell ⟨jJ,3,none⟩ (.bool ((dP t155 dV).f2)))):=⟨Bq HB⟩
             (try clear DV)
             (try clear GV)
             (try clear pM)
             (try clear mX)
             (try clear MO)
             (try clear dC)
             (try clear lX)
             (try clear jD)
             (try clear lF)
             (try clear rV)
             (try clear GX)
             (try clear HB)
             generalize ((((yJ.setCell ⟨jJ,0,none⟩ (.int .i64 ((dP t155 dV).f0.f0))).setCell ⟨jJ,1,none⟩ (.int .i64 ((dP t155 dV).f0.f1))).setCell ⟨jJ,2,none⟩ (.int .i64 ((dP t155 dV).f1))).setCell ⟨jJ,3,none⟩ (.bool ((dP t155 dV).f2)))=w56 at aV aW aY bI cO gY kR nD nH nI nJ uT ⊢
             have DV:=aV
             have GV:=aW
             have pM:=aY
             have mX:=bI
             have MO:=cO
             have dC:=gY
             have lX:=kR
             have jD:=nD
             have lF:=nH
             have rV:=nI
             have GX:=nJ
             have HB:=uT
             clear aV aW aY bI cO gY kR nD nH nI nJ uT
             have aV:=aA.mk (Kd.dG DV.out)
             have aW:=aA.mk (Kd.dG GV.out)
             have aY:=aA.mk (Kd.dG pM.out)
             have bI:=aA.mk (Kd.dG mX.out)
             have cO:=aA.mk (Kd.dG MO.out)
             have gY:=aA.mk (gI dC.out)
             have kR:=aA.mk (gI lX.out)
             have nD:=aA.mk (gI jD.out)
             have nH:=aA.mk (gI lF.out)
             have nI:=aA.mk (gI rV.out)
             have nJ:=aA.mk (gI GX.out)
             have uT:=aA.mk (sW HB.out)
             clear DV GV pM mX MO dC lX jD lF rV GX HB
             have DV:=aV
             have GV:=aW
             have pM:=aY
             have mX:=bI
             have MO:=cO
             have dC:=gY
             have lX:=kR
             have jD:=nD
             have lF:=nH
             have rV:=nI
             have GX:=nJ
             have HB:=uT
             clear aV aW aY bI cO gY kR nD nH nI nJ uT
             obtain⟨bhH,bhI,aWR⟩:=Kd.dA DV.out
             (first|subst aWR|(injection aWR with kG pF kH;have pG:=kG.symm;have pI:=kH.symm;clear kG pF kH;subst pG;subst pI))
             have abX:0<=(dV:Int):=od
             have abY:dV<(zA.length:Int):=od
             obtain⟨avT,e168,aEH,aWS⟩:=rE (Kd.dB DV.out).2.2 dV abX abY
             cases e168
             replace abX:=eq_true abX
             replace abY:=eq_true abY
             have p48:0<=(((dP t155 dV).f1):Int):=od
             have q48:(((dP t155 dV).f1):Int)<((RN.length:Int):Int):=od
             obtain⟨UC,aWT,aWU,aWV,bhJ,cl48,aWW⟩:=Kd.aS4 mX.out (by omega)
             (first|cases aWU|(injection aWU with ea_ en_ ec_;(first|subst ea_|(injection ea_ with ea_;subst ea_));subst ec_;clear en_))
             have GB48:=aA.mk aWV
             have aLM:=aA.mk aWW
             clear aWV bhJ aWW
             obtain⟨ce48,bhK,aWX,aLN,aLO⟩:=Kd.atB mX.out z42 (((dP t155 dV).f1):Int) p48 q48
             obtain rfl:=aCW aWX
             have bhL:World.cell? _ ⟨UC,(((dP t155 dV).f1):Int).toNat*2,none⟩=some (.int .i64 ((bM RN ((dP t155 dV).f1)).f0)):=aLN 0 _ rfl
             have bhM:World.cell? _ ⟨UC,(((dP t155 dV).f1):Int).toNat*2+1,none⟩=some (.int .i64 ((bM RN ((dP t155 dV).f1)).f1)):=aLN 1 _ rfl
             have bhN:World.frozen? _ ⟨UC,(((dP t155 dV).f1):Int).toNat*2,none⟩=false:=aLO 0
             have bhO:World.frozen? _ ⟨UC,(((dP t155 dV).f1):Int).toNat*2+1,none⟩=false:=aLO 1
             clear bhK aLN aLO aWX
             replace p48:=eq_true p48
             replace q48:=eq_true q48
             obtain⟨ce59,aWY,aWZ,aW0,bhP⟩:=Kd.atB mX.out z42 (((dP t155 dV).f1):Int) (od) (by have h_:(((dP t155 dV).f1):Int)<((RN.length:Int):Int):=od;first|exact h_|(have e_:=(Kd.dB mX.out).1;omega)|simpa using h_)
             obtain rfl:=aCW aWZ
             have aLP:=(Kd.aTB mX.out (((dP t155 dV).f1):Int) (od) (by have h_:(((dP t155 dV).f1):Int)<((RN.length:Int):Int):=od;first|exact h_|(have e_:=(Kd.dB mX.out).1;omega)|simpa using h_) (vV:=[.int .i64 ((bM zA dV).f0),.int .i64 ((bM zA dV).f1)]) (j:=0) aWY aW0 (show 2<=2 from by decide) (x':=(⟨(bM zA dV).f0,(bM zA dV).f1⟩:aH)) (WS _ _ _ (⟨(bM zA dV).f0,(bM zA dV).f1⟩:aH)) (fun _ hk=>hk)).1
             rw[<-bhB.out]at aLP
             have aW1:=aA.mk aLP
             clear aWY aW0 bhP aWZ aLP
             refine xP (n:=10) (S:=fun w'=>w'.cell? ⟨FI,0,none⟩=some (BP)/\w'.cell? ⟨FI,1,none⟩=some (.slice (some ⟨UC,0,none⟩) RN.length aWT)/\w'.cell? ⟨jJ,0,none⟩=some (.int .i64 ((dP t155 dV).f0.f0))/\w'.cell? ⟨jJ,1,none⟩=some (.int .i64 ((dP t155 dV).f0.f1))/\w'.cell? ⟨jJ,2,none⟩=some (.int .i64 ((dP t155 dV).f1))/\w'.cell? ⟨jJ,3,none⟩=some (.bool ((dP t155 dV).f2))/\w'.cell? (avT.add ((dV).toNat*2))=some (.int .i64 ((bM zA dV).f0))/\w'.cell? ⟨(avT.add ((dV).toNat*2)).block,(avT.add ((dV).toNat*2)).off+1,none⟩=some (.int .i64 ((bM zA dV).f1))) (ds:=[9]) (bl 10 0) (by kernel_rfl) rfl rfl ⟨kc jD 0,kc jD 1,kc GX 0,kc GX 1,kc GX 2,kc GX 3,aEH,aWS⟩ (fun hHeld=>?_);refine yS oV.bgJ oV.bgK (fun aN jG=>?_)
             generalize w56.drew=w57 at DV GV pM mX MO dC lX jD lF rV GX HB aLM aW1 bhN bhO aEH aWS bhL bhM hHeld ⊢
             refine pS 0 48 10 1 aN ?_
             refine pS 2 50 10 5 aN ?_
             refine pS 4 52 10 21 aN ?_
             refine pS 5 53 10 53 aN ?_
             refine pS 6 54 10 117 aN ?_
             refine tq 1 (some 49) (bl 10 119) aN jG hHeld (h:=?_)
             refine tq 3 (some 51) (bl 10 127) aN jG hHeld (h:=?_)
             refine tq 7 (some 55) (bl 10 255) aN jG hHeld (h:=?_)
             refine pS 8 56 10 511 aN ?_
             refine aCO (i:=9) (N:=none) (bl 10 1023) rfl rfl (lJ aN.out (by kernel_rfl)) (by decide) (fun K hK=>?_)
             refine ahB (w1:=?_) (by rfl) rfl ?_ ?_
             rotate_left
             ·go_simp
              rfl
             refine hK.out _ _ ?_
             clear hK K
             refine xQ (yR aN.out (by kernel_rfl)) ?_
             try go_wp2
             go_roundg k2
             case measure=>have:=fV.out;have:=mY.out;omega
             case rel=>exact⟨(zA),(wrap64 (dV+1)),(abU),(aWQ),(abV),(abW),(BP),(.slice (some ⟨UC,0,none⟩) RN.length aWT),(by first|rfl|(simp;done)|(simp[*];done)),H',⟨by have:=fV.out;have:=mY.out;omega⟩,⟨by(with_reducible repeat(first|apply Kd.fQ|apply Kd.fU|apply Kd.dG));exact Kd.bQ (Kd.bK (p:=⟨UC,(((dP t155 dV).f1):Int).toNat*2+1,none⟩) (Kd.bK (p:=⟨UC,(((dP t155 dV).f1):Int).toNat*2,none⟩) (Kd.bQ DV.out (fun k_ hk=>(⟨hk,fun e_=>hk.2.1 (by rw[e_];rfl)⟩:_/\k_≠UC))) (fun _ hk=>hk.2) (.int .i64 ((bM zA dV).f0))) (fun _ hk=>hk.2) (.int .i64 ((bM zA dV).f1))) (fun _ hk=>⟨hk.1.1,⟨hk.1.2.1,hk.1.2.2⟩⟩)⟩,⟨by(with_reducible repeat(first|apply Kd.fQ|apply Kd.fU|apply Kd.dG));exact Kd.bQ (Kd.bK (p:=⟨UC,(((dP t155 dV).f1):Int).toNat*2+1,none⟩) (Kd.bK (p:=⟨UC,(((dP t155 dV).f1):Int).toNat*2,none⟩) (Kd.gB GV.out aLM.out (by decide)) (fun _ hk=>hk.2) (.int .i64 ((bM zA dV).f0))) (fun _ hk=>hk.2) (.int .i64 ((bM zA dV).f1))) (fun _ hk=>trivial)⟩,⟨by(with_reducible repeat(first|apply Kd.fQ|apply Kd.fU|apply Kd.dG));exact Kd.bQ (Kd.bK (p:=⟨UC,(((dP t155 dV).f1):Int).toNat*2+1,none⟩) (Kd.bK (p:=⟨UC,(((dP t155 dV).f1):Int).toNat*2,none⟩) (Kd.bQ pM.out (fun k_ hk=>(⟨hk,fun e_=>hk.2.1 (by rw[e_];rfl)⟩:_/\k_≠UC))) (fun _ hk=>hk.2) (.int .i64 ((bM zA dV).f0))) (fun _ hk=>hk.2) (.int .i64 ((bM zA dV).f1))) (fun _ hk=>⟨hk.1.1,⟨hk.1.2.1,hk.1.2.2⟩⟩)⟩,⟨aW1.out⟩,⟨by(with_reducible repeat(first|apply Kd.fQ|apply Kd.fU|apply Kd.dG));exact Kd.bQ (Kd.bK (p:=⟨UC,(((dP t155 dV).f1):Int).toNat*2+1,none⟩) (Kd.bK (p:=⟨UC,(((dP t155 dV).f1):Int).toNat*2,none⟩) (Kd.gB MO.out aLM.out (by decide)) (fun _ hk=>hk.2) (.int .i64 ((bM zA dV).f0))) (fun _ hk=>hk.2) (.int .i64 ((bM zA dV).f1))) (fun _ hk=>trivial)⟩,⟨by(with_reducible repeat(first|refine mZ ?_ _|refine gI ?_|refine kK ?_ _));refine bG ?_ (by have h_:=Kd.mW mX.out dC.out (by decide);intro e_;exact h_ (by rw[e_];rfl)) _;(with_reducible repeat(first|refine mZ ?_ _|refine gI ?_|refine kK ?_ _));refine bG ?_ (by have h_:=Kd.mW mX.out dC.out (by decide);intro e_;exact h_ (by rw[e_];rfl)) _;(with_reducible repeat(first|refine mZ ?_ _|refine gI ?_|refine kK ?_ _));exact dC.out⟩,⟨by(with_reducible repeat(first|refine mZ ?_ _|refine gI ?_|refine kK ?_ _));refine bG ?_ (by have h_:=Kd.mW mX.out lX.out (by decide);intro e_;exact h_ (by rw[e_];rfl)) _;(with_reducible repeat(first|refine mZ ?_ _|refine gI ?_|refine kK ?_ _));refine bG ?_ (by have h_:=Kd.mW mX.out lX.out (by decide);intro e_;exact h_ (by rw[e_];rfl)) _;(with_reducible repeat(first|refine mZ ?_ _|refine gI ?_|refine kK ?_ _));exact lX.out⟩,⟨by(with_reducible repeat(first|refine mZ ?_ _|refine gI ?_|refine kK ?_ _));refine bG ?_ (by have h_:=Kd.mW mX.out jD.out (by decide);intro e_;exact h_ (by rw[e_];rfl)) _;(with_reducible repeat(first|refine mZ ?_ _|refine gI ?_|refine kK ?_ _));refine bG ?_ (by have h_:=Kd.mW mX.out jD.out (by decide);intro e_;exact h_ (by rw[e_];rfl)) _;(with_reducible repeat(first|refine mZ ?_ _|refine gI ?_|refine kK ?_ _));exact jD.out⟩,⟨by(with_reducible repeat(first|refine mZ ?_ _|refine gI ?_|refine kK ?_ _));refine bG ?_ (by have h_:=Kd.mW mX.out lF.out (by decide);intro e_;exact h_ (by rw[e_];rfl)) _;(with_reducible repeat(first|refine mZ ?_ _|refine gI ?_|refine kK ?_ _));refine bG ?_ (by have h_:=Kd.mW mX.out lF.out (by decide);intro e_;exact h_ (by rw[e_];rfl)) _;(with_reducible repeat(first|refine mZ ?_ _|refine gI ?_|refine kK ?_ _));exact lF.out⟩,⟨by(with_reducible repeat(first|refine mZ ?_ _|refine gI ?_|refine kK ?_ _));refine bG ?_ (by have h_:=Kd.as9 mX.out (fun _ hk=>hk.2.2);intro e_;exact h_ (by rw[e_];rfl)) _;(with_reducible repeat(first|refine mZ ?_ _|refine gI ?_|refine kK ?_ _));refine bG ?_ (by have h_:=Kd.as9 mX.out (fun _ hk=>hk.2.2);intro e_;exact h_ (by rw[e_];rfl)) _;(with_reducible repeat(first|refine mZ ?_ _|refine gI ?_|refine kK ?_ _));exact rV.out⟩,⟨Bq HB⟩⟩
            rw[if_neg c47]at H
            exact absurd H (by simp)
           rw[if_neg c46]at H
           exact absurd H (by simp)
          rw[if_neg DW]at H
          exact absurd H (by simp)
         rw[if_neg c44]at H
         exact absurd H (by simp)
        rw[if_neg c43]at H
        exact absurd H (by simp)
       rw[if_neg c42]at H
       have bhA:decide (dV<(t155.length:Int))=false:=decide_eq_false c42
       clear c42
       replace H:=Option.bind_eq_some_iff.mp H
       obtain⟨⟨t170,t171⟩,aW2,H⟩:=H
       replace H:(if abU.length<8796093022208 then(oV.l0 Z k2 a2 (dN.length:Int) (wrap64 (QH+1)) bV bU dN bH (abU++[(⟨t170,t171⟩:aH)]) RN)else(none))=some (r1,r2,r3):=H
       have A60:=aA.mk aW2
       clear aW2
       by_cases c61:abU.length<8796093022208
       ·rw[if_pos c61]at H
        have bhQ:=aA.mk c61
        clear c61
        obtain⟨avU,avV⟩:∃ y_:List (aH),y_=(abU++[(⟨t170,t171⟩:aH)]):=⟨_,rfl⟩
        replace H:(oV.l0 Z k2 a2 (dN.length:Int) (wrap64 (QH+1)) bV bU dN bH avU RN)=some (r1,r2,r3):=by first|(rw[avV];with_reducible exact H)|(have dJ:=(Option.bind_some _ _).symm.trans H;rw[avV];with_reducible exact dJ)|(have dJ:=(Option.bind_some _ _).symm.trans H;with_reducible exact dJ)|with_reducible exact H|(rw[avV];exact H)|exact H
        have bhR:=aA.mk avV
        clear avV
        have H':=aA.mk H
        clear H
        try go_wp2
        have aV:=aA.mk (Kd.dG DV.out)
        have aW:=aA.mk (Kd.dG GV.out)
        have aY:=aA.mk (Kd.dG pM.out)
        have bI:=aA.mk (Kd.dG mX.out)
        have cO:=aA.mk (Kd.dG MO.out)
        have gY:=aA.mk (gI dC.out)
        have kR:=aA.mk (gI lX.out)
        have nD:=aA.mk (gI jD.out)
        have nH:=aA.mk (gI lF.out)
        have nI:=aA.mk (gI rV.out)
        have nJ:=aA.mk (sW HB.out)
        clear DV GV pM mX MO dC lX jD lF rV HB
        have DV:=aV
        have GV:=aW
        have pM:=aY
        have mX:=bI
        have MO:=cO
        have dC:=gY
        have lX:=kR
        have jD:=nD
        have lF:=nH
        have rV:=nI
        have HB:=nJ
        clear aV aW aY bI cO gY kR nD nH nI nJ
        refine xP (n:=13) (S:=fun w'=>w'.cell? ⟨FI,0,none⟩=some (BP)/\w'.cell? ⟨FI,1,none⟩=some (DU)/\w'.cell? ⟨wS,0,none⟩=some (.int .i64 t154)/\w'.cell? ⟨wS,1,none⟩=some (.slice UB t155.length GU)/\w'.cell? ⟨sF,0,none⟩=some (.int .i64 abV)/\w'.cell? ⟨sF,1,none⟩=some (.int .i64 abW)) (ds:=[12]) (bl 13 0) (by kernel_rfl) rfl rfl ⟨kc jD 0,kc jD 1,kc lF 0,kc lF 1,kc rV 0,kc rV 1⟩ (fun hHeld=>?_);refine yS oV.bgM oV.bgN (fun aN jG=>?_)
        generalize wr.drew=w62 at DV GV pM mX MO dC lX jD lF rV HB hHeld ⊢
        refine pS 0 58 13 1 aN ?_
        refine pS 2 60 13 5 aN ?_
        refine pS 4 62 13 21 aN ?_
        refine tq 1 (some 59) (bl 13 23) aN jG hHeld (h:=?_)
        refine tq 3 (some 61) (bl 13 31) aN jG hHeld (h:=?_)
        refine tq 5 (some 63) (bl 13 63) aN jG hHeld (h:=?_)
        refine pS 6 64 13 127 aN ?_
        refine tq 7 (some 65) (bl 13 255) aN jG hHeld (h:=?_)
        refine lI (i:=8) (N:=some 66) (bl 13 511) rfl rfl (lJ aN.out (by kernel_rfl)) (by decide) (fun K hK=>?_)
        refine rD Tryd.func120 (by kernel_rfl) rfl #[.agg #[.int .i64 t154,.int .i64 t154],.agg #[.int .i64 abV,.int .i64 abW]] (by rfl) rfl rfl (by(try simp only[List.map_toArray,List.map_cons,List.map_nil]);first|done|rfl|(simp only[List.length_drop,List.length_take];rfl)) ?_
        with_reducible refine(yT.calls t154 t154 abV abW t170 t171 _ A60.out).mono ?_
        rintro e w63 ⟨rfl,hb⟩
        refine⟨_,rfl,?_⟩
        have aV:=RB DV hb
        have aW:=RB GV hb
        have aY:=RB pM hb
        have bI:=RB mX hb
        have cO:=RB MO hb
        have gY:=aA.mk (fC (g:=vM) (o:=.cells #[.func (.func Z.fa) #[] #[],.func (.func Z.fb) #[] #[]] 173 (0,0)) (b_ dC) hb)
        have kR:=bb lX hb
        have nD:=bb jD hb
        have nH:=bb lF hb
        have nI:=bb rV hb
        have nJ:=bs HB hb
        clear DV GV pM mX MO dC lX jD lF rV HB
        have DV:=aV
        have GV:=aW
        have pM:=aY
        have mX:=bI
        have MO:=cO
        have dC:=gY
        have lX:=kR
        have jD:=nD
        have lF:=nH
        have rV:=nI
        have HB:=nJ
        clear aV aW aY bI cO gY kR nD nH nI nJ
        (try clear hb)
        (try clear hb2)
        (try clear hk)
        (try clear hi)
        refine hK.out _ _ ⟨kc jD 0,kc jD 1,kc lF 0,kc lF 1,kc rV 0,kc rV 1⟩ (fun hHeld=>?_)
        clear hK K
        refine nq 66 ?_
        refine lI (i:=9) (N:=some 67) (bl 13 1023) rfl rfl (lJ aN.out (by kernel_rfl)) (by decide) (fun K hK=>?_)
        refine aTJ (w1:=?_) (v:=?_) (by rfl) rfl ?_ ?_
        rotate_left 2
        ·go_simp
         constructor
         ·rfl
         rfl
        refine hK.out _ _ ⟨(MC (kK jD.out _) 0).trans rfl,(MC (kK jD.out _) 1).trans rfl,(MC (kK lF.out _) 0).trans rfl,(MC (kK lF.out _) 1).trans rfl,(MC (kK rV.out _) 0).trans rfl,(MC (kK rV.out _) 1).trans rfl⟩ (fun hHeld=>?_)
        clear hK K
        refine nq 67 ?_
        refine lI (i:=10) (N:=some 68) (bl 13 2047) rfl rfl (lJ aN.out (by kernel_rfl)) (by decide) (fun K hK=>?_)
        refine Kd.aS1 iD (w0:=w) w.heap.size (by rfl) (.tmp 59) (.tmp 67) 31 42 (.agg #[(.int .i64 0),(.int .i64 0)]) 16 rfl Tryd.underlying31 ad5 rfl (by decide) (by omega) BP abU (⟨t170,t171⟩:aH) [.int .i64 t170,.int .i64 t171] (fun k_=>some k_≠(v160:Value).ownBlock/\some k_≠(DU:Value).ownBlock/\k_≠sF) (fun _=>False) rfl rfl ?aP (fun _ hk=>hk.elim) ?aF ?aO ?aB ?aS ?aL ?_
        (case aP=>exact WS _ _ _ (⟨t170,t171⟩:aH))
        (case aB=>exact(Bq HB))
        (case aF=>exact(fun k_ hk=>⟨Kd.fresh' (Kd.dY (R_ DV)) k_ hk,Kd.fresh' (Kd.dY (R_ mX)) k_ hk,Kd.aIM (g:=sF) (o:=.cells #[.int .i64 abV,.int .i64 abW] 42 (0,0)) (b_ rV) k_ hk⟩))
        (case aO=>exact(R_ pM))
        (case aS=>exact(dH (Bq HB)))
        (case aL=>have:=bhQ.out;omega)
        intro v173 jF ho hb hg hat
        rw[<-bhR.out]at ho
        have aV:=aA.mk (Kd.GI (ok:=(fun k_=>some k_≠(DU:Value).ownBlock/\k_≠sF)) (Kd.bQ (R_ DV) (fun _ hk=>⟨⟨hk.2.1,hk.2.2⟩,hk.1⟩)) hg hat)
        have aW:=aA.mk (Kd.mO (R_ GV) (Kd.mM (R_ pM)) (by decide) hg)
        have aY:=aA.mk (Kd.GI (ok:=(fun k_=>some k_≠(v160:Value).ownBlock/\k_≠sF)) (Kd.bQ (R_ mX) (fun _ hk=>⟨⟨hk.1,hk.2.2⟩,hk.2.1⟩)) hg hat)
        have bI:=aA.mk (Kd.mO (R_ MO) (Kd.mM (R_ pM)) (by decide) hg)
        have cO:=aA.mk (oM (g:=vM) (o:=.cells #[.func (.func Z.fa) #[] #[],.func (.func Z.fb) #[] #[]] 173 (0,0)) (b_ dC) hg (Kd.mW pM.out dC.out (by decide)))
        have gY:=aA.mk (oM (g:=aEA) (o:=.cells #[.slice sZ dN.length nX,.slice oZ bH.length nY] 25 (0,0)) (b_ lX) hg (Kd.mW pM.out lX.out (by decide)))
        have kR:=aA.mk (oM (g:=FI) (o:=.cells #[BP,DU] 124 (0,0)) (b_ jD) hg (Kd.mW pM.out jD.out (by decide)))
        have nD:=aA.mk (oM (g:=wS) (o:=.cells #[.int .i64 t154,.slice UB t155.length GU] 192 (0,0)) (b_ lF) hg (Kd.mW pM.out lF.out (by decide)))
        have nH:=aA.mk (oM (g:=sF) (o:=.cells #[.int .i64 abV,.int .i64 abW] 42 (0,0)) (b_ rV) hg (Kd.as9 pM.out (fun _ hk=>hk.2.2)))
        have nI:=aA.mk (hb)
        have nJ:=aA.mk (ho)
        clear DV GV mX MO dC lX jD lF rV HB pM
        have DV:=aV
        have GV:=aW
        have mX:=aY
        have MO:=bI
        have dC:=cO
        have lX:=gY
        have jD:=kR
        have lF:=nD
        have rV:=nH
        have HB:=nI
        have aW4:=nJ
        clear aV aW aY bI cO gY kR nD nH nI nJ ho hb hg hat
        obtain⟨aEJ,aEK,aW5⟩:=Kd.dA aW4.out
        (first|subst aW5|(injection aW5 with kG pF kH;have pG:=kG.symm;have pI:=kH.symm;clear kG pF kH;subst pG;subst pI))
        refine hK.out _ _ ⟨kc jD 0,kc jD 1,kc lF 0,kc lF 1,kc rV 0,kc rV 1⟩ (fun hHeld=>?_)
        clear hK K
        refine nq 68 ?_
        refine pS 11 69 13 4095 aN ?_
        refine aCO (i:=12) (N:=none) (bl 13 8191) rfl rfl (lJ aN.out (by kernel_rfl)) (by decide) (fun K hK=>?_)
        have hs66:jF.cell? ⟨FI,0,none⟩=some (BP):=kc jD 0
        have hfs66:=aX jD.out 0
        have hns66_0:=am4.out
        have hns66_1:=am5.out
        have hns66_3:=aEC.out
        have hns66_4:=aED.out
        have hms66_0:=avE.out
        have hms66_1:=avF.out
        have hms66_3:=aiC.out
        have hms66_4:=aiD.out
        refine ahB (w1:=?_) (by rfl) rfl ?_ ?_
        rotate_left
        ·go_simp
         rfl
        refine hK.out _ _ ?_
        clear hK K
        refine xQ (yR aN.out (by kernel_rfl)) ?_
        try go_wp2
        go_roundg k2
        case measure=>have:=fV.out;have:=mY.out;omega
        case rel=>exact⟨(wrap64 (QH+1)),(avU),(RN),(.slice aEJ avU.length aEK),(DU),(by first|rfl|(simp;done)|(simp[*];done)),H',⟨by have:=fV.out;have:=mY.out;omega⟩,⟨by(with_reducible repeat(first|apply Kd.fQ|apply Kd.fU|apply Kd.dG));exact Kd.bQ (Kd.bK (p:=⟨FI,0,none⟩) (Kd.gB aW4.out jD.out (by decide)) (fun _ hk=>hk.2) (.slice aEJ avU.length aEK)) (fun _ hk=>hk.1.2.1)⟩,⟨by(with_reducible repeat(first|apply Kd.fQ|apply Kd.fU|apply Kd.dG));exact Kd.bQ (Kd.bK (p:=⟨FI,0,none⟩) (Kd.gB mX.out jD.out (by decide)) (fun _ hk=>hk.2) (.slice aEJ avU.length aEK)) (fun _ hk=>hk.1.2)⟩,⟨by exact bG (b_ dC) am4.out _⟩,⟨by exact bG (b_ lX) am5.out _⟩,⟨by exact dE (cs:=#[BP,DU]) (b_ jD) 0 _ rfl⟩,⟨Bq HB⟩⟩
       rw[if_neg c61]at H
       exact absurd H (by simp)
     replace c21:=Bool.eq_false_iff.mpr c21
     subst c21
     replace H:(some (ML,MM,false))=some (r1,r2,r3):=by rw[if_neg (show ¬ (false=true) by decide)]at H;exact H
     simp only[Option.some.injEq,Prod.mk.injEq]at H
     obtain⟨rfl,rfl,rfl⟩:=H
     have aW6:=aK8.out
     have aW7:=aK9.out
     have hnb68:=am4.out
     have hnc68:=avE.out
     obtain⟨bhS,bhT⟩:=bZ dC (.func (.func Z.fa) #[] #[]) (.func (.func Z.fb) #[] #[])
     have hfz69_0:=aX dC.out 0
     have hfz69_1:=aX dC.out 1
     have bhU:=am5.out
     have bhV:=avF.out
     obtain⟨aW8,aW9⟩:=bZ lX (.slice sZ dN.length nX) (.slice oZ bH.length nY)
     go_wp2_with (first|((with_reducible refine gJ (f:=118) rfl ?_);refine cE 30 Tryd.func118 #[.agg #[.func (.func Z.fa) #[] #[],.func (.func Z.fb) #[] #[]],.agg #[.slice sZ dN.length nX,.slice oZ bH.length nY],.int .i64 QH,.int .u64 a2] ?_;refine(rG.calls Z k1 bV bU _ _ dN _ _ bH QH a2 t154 t155 _ (Kd.bJ am1.out (Bq HB)) aDM.out (Kd.bJ afL.out (Bq HB)) aDN.out A19.out).mono ?_;rintro e w72 ⟨bgZ,rfl,ho0,hb⟩;refine⟨_,rfl,?_⟩;have GR:=aA.mk (Kd.eF ho0 (dH (Bq HB)));replace pM:=RB pM hb;replace mX:=RB mX hb;replace dC:=aA.mk (fC (g:=vM) (o:=.cells #[.func (.func Z.fa) #[] #[],.func (.func Z.fb) #[] #[]] 173 (0,0)) (b_ dC) hb);replace lX:=bb lX hb;replace jD:=bb jD hb;replace HB:=bs HB hb;(try clear hb);(try clear ho0))|((with_reducible refine dU (N:=9) rfl ?_);refine eX 9 #[.int .i64 0,.slice none 0 0] 192 ?_;intro wS hg w73 hbox hb;have lF:=aA.mk (hbox);have bg0:=gw hg HB;have bg1:=gw hg HB;have am6:=nl hg dC;have aLA:=ng hg dC;have am7:=nl hg lX;have aLB:=ng hg lX;have aiC:=nl hg jD;have aEC:=ng hg jD;replace pM:=RB pM hb;replace mX:=RB mX hb;replace GR:=RB GR hb;replace dC:=aA.mk (fC (g:=vM) (o:=.cells #[.func (.func Z.fa) #[] #[],.func (.func Z.fb) #[] #[]] 173 (0,0)) (b_ dC) hb);replace lX:=bb lX hb;replace jD:=bb jD hb;replace HB:=bs HB hb;clear hb hbox hg;have bhY:=aLA.out;have bhZ:=am6.out;have bh0:=aLB.out;have bh2:=am7.out;have bh3:=aEC.out;have bh4:=aiC.out;obtain⟨hcz77_0,hcz77_1⟩:=bZ lF (.int .i64 0) (.slice none 0 0);have hfz77_0:=aX lF.out 0;have hfz77_1:=aX lF.out 1;obtain⟨UD,QI,rfl⟩:=Kd.dA GR.out)|((with_reducible refine gJ (f:=119) rfl ?_);refine cE 33 Tryd.func119 #[.agg #[.int .i64 t154,.slice UD t155.length QI]] ?_;refine(abS.calls t154 _ _ t155 t159 t162 t163 false _ (by refine(Kd.dB (e:=197) (base:=w.heap.size) (ok:=fun k_=>True) (n:=t155.length) (c:=QI) ?_).2.2;exact(by(with_reducible repeat(first|apply Kd.fQ|apply Kd.fU|apply Kd.dG));exact(Kd.bQ (Kd.bK (p:=⟨wS,1,none⟩) (Kd.bK (p:=⟨wS,0,none⟩) (Kd.gB GR.out lF.out (by decide)) (fun _ hk=>hk.2) (.int .i64 t154)) (fun _ hk=>hk.2) (.slice UD t155.length QI)) (fun _ h_=>h_.1)))) ((Kd.dB GR.out).2.1) xY.out).mono ?_;rintro e w79 ⟨v160,rfl,ho0,hb⟩;refine⟨_,rfl,?_⟩;have aq4:=aA.mk (Kd.eF (Kd.fG (Kd.fG ho0 (Kd.dY (by(with_reducible repeat(first|apply Kd.fQ|apply Kd.fU|apply Kd.dG));exact(Kd.bQ (Kd.bK (p:=⟨wS,1,none⟩) (Kd.bK (p:=⟨wS,0,none⟩) (Kd.gB pM.out lF.out (by decide)) (fun _ hk=>hk.2) (.int .i64 t154)) (fun _ hk=>hk.2) (.slice UD t155.length QI)) (fun _ h_=>h_.1))))) (Kd.dY (by(with_reducible repeat(first|apply Kd.fQ|apply Kd.fU|apply Kd.dG));exact(Kd.bQ (Kd.bK (p:=⟨wS,1,none⟩) (Kd.bK (p:=⟨wS,0,none⟩) (Kd.gB mX.out lF.out (by decide)) (fun _ hk=>hk.2) (.int .i64 t154)) (fun _ hk=>hk.2) (.slice UD t155.length QI)) (fun _ h_=>h_.1))))) (dH (Bq HB)));replace pM:=aA.mk (Kd.gW (by(with_reducible repeat(first|apply Kd.fQ|apply Kd.fU|apply Kd.dG));exact(Kd.bQ (Kd.bK (p:=⟨wS,1,none⟩) (Kd.bK (p:=⟨wS,0,none⟩) (Kd.gB pM.out lF.out (by decide)) (fun _ hk=>hk.2) (.int .i64 t154)) (fun _ hk=>hk.2) (.slice UD t155.length QI)) (fun _ h_=>h_.1))) (Kd.fF ho0) hb);replace mX:=aA.mk (Kd.gW (by(with_reducible repeat(first|apply Kd.fQ|apply Kd.fU|apply Kd.dG));exact(Kd.bQ (Kd.bK (p:=⟨wS,1,none⟩) (Kd.bK (p:=⟨wS,0,none⟩) (Kd.gB mX.out lF.out (by decide)) (fun _ hk=>hk.2) (.int .i64 t154)) (fun _ hk=>hk.2) (.slice UD t155.length QI)) (fun _ h_=>h_.1))) (Kd.fF ho0) hb);replace GR:=aA.mk (Kd.rY (by(with_reducible repeat(first|apply Kd.fQ|apply Kd.fU|apply Kd.dG));exact(Kd.bQ (Kd.bK (p:=⟨wS,1,none⟩) (Kd.bK (p:=⟨wS,0,none⟩) (Kd.gB GR.out lF.out (by decide)) (fun _ hk=>hk.2) (.int .i64 t154)) (fun _ hk=>hk.2) (.slice UD t155.length QI)) (fun _ h_=>h_.1))) hb);replace dC:=aA.mk (fC (by exact bG (bG (b_ dC) am6.out _) am6.out _) hb);replace lX:=aA.mk (fC (by exact bG (bG (b_ lX) am7.out _) am7.out _) hb);replace jD:=aA.mk (fC (by exact bG (bG (b_ jD) aiC.out _) aiC.out _) hb);replace lF:=aA.mk (fC (by exact dE (cs:=#[.int .i64 t154,.slice none 0 0]) (dE (cs:=#[.int .i64 0,.slice none 0 0]) (b_ lF) 0 _ rfl) 1 _ rfl) hb);replace HB:=bs HB hb;(try clear hb);(try clear ho0))|((with_reducible refine dU (N:=11) rfl ?_);refine eX 11 #[.int .i64 0,.int .i64 0] 42 ?_;intro sF hg w80 hbox hb;have rV:=aA.mk (hbox);have bg4:=gw hg HB;have bg5:=gw hg HB;have avJ:=nl hg dC;have aLC:=ng hg dC;have avK:=nl hg lX;have aLD:=ng hg lX;have aiD:=nl hg jD;have aED:=ng hg jD;have avL:=nl hg lF;have aLE:=ng hg lF;replace pM:=aA.mk (Kd.rY (Kd.ZW (R_ pM) sF (Nat.le_of_eq hg.symm)) hb);replace mX:=aA.mk (Kd.rY (Kd.ZW (R_ mX) sF (Nat.le_of_eq hg.symm)) hb);replace GR:=RB GR hb;replace aq4:=aA.mk (Kd.rY (Kd.ZW (R_ aq4) sF (Nat.le_of_eq hg.symm)) hb);replace dC:=aA.mk (fC (g:=vM) (o:=.cells #[.func (.func Z.fa) #[] #[],.func (.func Z.fb) #[] #[]] 173 (0,0)) (b_ dC) hb);replace lX:=bb lX hb;replace jD:=bb jD hb;replace lF:=bb lF hb;replace HB:=bs HB hb;clear hb hbox hg;have hnb81:=aLC.out;have hnc81:=avJ.out;have bh5:=aLD.out;have bh6:=avK.out;have bh7:=aED.out;have bh8:=aiD.out;have hnb84:=aLE.out;have hnc84:=avL.out;obtain⟨hcz85_0,hcz85_1⟩:=bZ rV (.int .i64 0) (.int .i64 0);have hfz85_0:=aX rV.out 0;have hfz85_1:=aX rV.out 1;obtain⟨bh9,biA⟩:=bZ jD (BP) (DU);have hfz86_0:=aX jD.out 0;have hfz86_1:=aX jD.out 1;obtain⟨avW,avX,rfl⟩:=Kd.dA pM.out;obtain⟨avY,avZ,rfl⟩:=Kd.dA mX.out))
     refine bodyPost_ret (apY rfl _ _ FI 124 #[.slice avW ML.length avX,.slice avY MM.length avZ] (0,0) _ rfl (by exact dE (cs:=#[.slice avW ML.length avX,.slice avY MM.length avZ]) (dE (cs:=#[.slice avW ML.length avX,.slice avY MM.length avZ]) (bG (bG (b_ jD) aiD.out _) aiD.out _) 0 _ rfl) 1 _ rfl) Tryd.underlying124 rfl (by kernel_rfl)) rfl ?_
     exact⟨_,_,by first|rfl|(simp[iU,iV]<;>rfl)|(simp[*,iU,iV]<;>rfl),by(with_reducible repeat(first|apply Kd.fQ|apply Kd.fU|apply Kd.dG));exact Kd.bQ (Kd.bK (p:=⟨FI,1,none⟩) (Kd.bK (p:=⟨FI,0,none⟩) (Kd.bK (p:=⟨sF,1,none⟩) (Kd.bK (p:=⟨sF,0,none⟩) (Kd.gB (Kd.bQ pM.out (fun k_ hk=>(⟨hk,hk.2⟩:_/\k_≠sF))) jD.out (by decide)) (fun _ hk=>hk.1.2) (.int .i64 t162)) (fun _ hk=>hk.1.2) (.int .i64 t163)) (fun _ hk=>hk.2) (.slice avW ML.length avX)) (fun _ hk=>hk.2) (.slice avY MM.length avZ)) (fun _ hk=>hk.1.1.1.1),by(with_reducible repeat(first|apply Kd.fQ|apply Kd.fU|apply Kd.dG));exact Kd.bQ (Kd.bK (p:=⟨FI,1,none⟩) (Kd.bK (p:=⟨FI,0,none⟩) (Kd.bK (p:=⟨sF,1,none⟩) (Kd.bK (p:=⟨sF,0,none⟩) (Kd.gB (Kd.bQ mX.out (fun k_ hk=>(⟨hk,hk.2⟩:_/\k_≠sF))) jD.out (by decide)) (fun _ hk=>hk.1.2) (.int .i64 t162)) (fun _ hk=>hk.1.2) (.int .i64 t163)) (fun _ hk=>hk.2) (.slice avW ML.length avX)) (fun _ hk=>hk.2) (.slice avY MM.length avZ)) (fun _ hk=>hk.1.1.1.1),Bq HB⟩
    rw[if_neg c18]at H
    have aWE:decide (QH<(dN.length:Int))=false:=decide_eq_false c18
    clear c18
    simp only[Option.some.injEq,Prod.mk.injEq]at H
    obtain⟨rfl,rfl,rfl⟩:=H
    have hnb89:=avE.out
    have hnc89:=am4.out
    have biB:=avF.out
    have biC:=am5.out
    obtain⟨hcz91_0,hcz91_1⟩:=bZ jD (BP) (DU)
    have hfz91_0:=aX jD.out 0
    have hfz91_1:=aX jD.out 1
    obtain⟨av1,av2,rfl⟩:=Kd.dA pM.out
    obtain⟨av3,av4,rfl⟩:=Kd.dA mX.out
    go_wp2
    refine bodyPost_ret (apY rfl _ _ FI 124 #[.slice av1 ML.length av2,.slice av3 MM.length av4] (0,0) _ rfl (by exact dE (cs:=#[.slice av1 ML.length av2,.slice av3 MM.length av4]) (dE (cs:=#[.slice av1 ML.length av2,.slice av3 MM.length av4]) (b_ jD) 0 _ rfl) 1 _ rfl) Tryd.underlying124 rfl (by kernel_rfl)) rfl ?_
    exact⟨_,_,by first|rfl|(simp[iU,iV]<;>rfl)|(simp[*,iU,iV]<;>rfl),by(with_reducible repeat(first|apply Kd.fQ|apply Kd.fU|apply Kd.dG));exact Kd.bQ (Kd.bK (p:=⟨FI,1,none⟩) (Kd.bK (p:=⟨FI,0,none⟩) (Kd.gB pM.out jD.out (by decide)) (fun _ hk=>hk.2) (.slice av1 ML.length av2)) (fun _ hk=>hk.2) (.slice av3 MM.length av4)) (fun _ hk=>hk.1),by(with_reducible repeat(first|apply Kd.fQ|apply Kd.fU|apply Kd.dG));exact Kd.bQ (Kd.bK (p:=⟨FI,1,none⟩) (Kd.bK (p:=⟨FI,0,none⟩) (Kd.gB mX.out jD.out (by decide)) (fun _ hk=>hk.2) (.slice av1 ML.length av2)) (fun _ hk=>hk.2) (.slice av3 MM.length av4)) (fun _ hk=>hk.1),Bq HB⟩
  rw[if_neg c5]at H
  exact absurd H (by simp)
 rw[if_neg c4]at H
 exact absurd H (by simp)
attribute [local go_sem] uA uB uC uD uM uN uO uP
mutual
def vX.l0:Nat->Int->Int->Int->Unit->Unit->List (aZ)->List (aI)->List (aH)->List (aH)->Option ((List (aH))×(List (aH))×Bool)
 |0,_,_,_,_,_,_,_,_,_=>none
 |k+1,x2,nU,vJ,yI,xX,RI,RJ,DR,DT=>if vJ<nU then((XB.f k yI xX RI RJ vJ x2).bind fun MK=>((abS.f MK.1 MK.2).bind fun PD=>(if PD.2.2.2=true then(vX.l1 k x2 PD.1 nU vJ MK.2 (MK.2.length:Int) 0 yI xX RI RJ DR DT MK.1 MK.2 PD.2.1 PD.2.2.1)else(some (DR,DT,false)))))else(some (DR,DT,true))
def vX.l1:Nat->Int->List (aH)->Int->Int->List (dR)->Int->Int->Unit->Unit->List (aZ)->List (aI)->List (aH)->List (aH)->Int->List (dR)->Int->Int->Option ((List (aH))×(List (aH))×Bool)
 |0,_,_,_,_,_,_,_,_,_,_,_,_,_,_,_,_,_=>none
 |k+1,x2,x10,nU,vJ,x41,x42,x43,yI,xX,RI,RJ,DR,DT,abT,avD,ah9,aiA=>if x43<x42 then(if 0<=x43 then(if x43<(x41.length:Int)then(if x43<(x10.length:Int)then(if 0<=((dP x41 x43).f1)then(if((dP x41 x43).f1)<(DT.length:Int)then(vX.l1 k x2 x10 nU vJ x41 x42 (wrap64 (x43+1)) yI xX RI RJ DR (DT.set (((dP x41 x43).f1):Int).toNat (⟨(bM x10 x43).f0,(bM x10 x43).f1⟩:aH)) abT avD ah9 aiA)else(none))else(none))else(none))else(none))else(none))else((yT.f abT abT ah9 aiA).bind fun aiB=>(if DR.length<8796093022208 then(vX.l0 k x2 nU (wrap64 (vJ+1)) yI xX RI RJ (DR++[(⟨aiB.1,aiB.2⟩:aH)]) DT)else(none)))
end
def vX.f (k:Nat) (bV:Unit) (bU:Unit) (dN:List (aZ)) (bH:List (aI)) (a2:Int):Option ((List (aH))×(List (aH))×Bool):=if 0<=(bH.length:Int)then(if((bH.length:Int):Int).toNat<=17592186044416 then(vX.l0 k a2 (dN.length:Int) 0 bV bU dN bH ([]:List (aH)) (List.replicate ((bH.length:Int):Int).toNat z42))else(none))else(none)
theorem biD:∀ k,(∀ y0 y1 y2 y3 y4 y5 y6 y7 y8,oV.l0 aDT k y0 y1 y2 y3 y4 y5 y6 y7 y8=vX.l0 k y0 y1 y2 y3 y4 y5 y6 y7 y8)/\(∀ y0 y1 y2 y3 y4 y5 y6 y7 y8 y9 y10 y11 y12 y13 y14 y15 y16,oV.l1 aDT k y0 y1 y2 y3 y4 y5 y6 y7 y8 y9 y10 y11 y12 y13 y14 y15 y16=vX.l1 k y0 y1 y2 y3 y4 y5 y6 y7 y8 y9 y10 y11 y12 y13 y14 y15 y16):=by
 intro k
 induction k with
 |zero=>exact⟨by intros;rfl,by intros;rfl⟩
 |succ k ih=>
  obtain⟨i0,i1⟩:=ih
  refine⟨?_,?_⟩
  ·intros
   unfold oV.l0 vX.l0 rG.f XB.f
   simp only[i1,beU]
   rfl
  ·intros
   unfold oV.l1 vX.l1
   simp only[i0,i1]
theorem vX.calls (k:Nat) (bV:Unit) (bU:Unit) (sZ:Option Addr) (nX:Nat) (dN:List (aZ)) (oZ:Option Addr) (nY:Nat) (bH:List (aI)) (a2:Int) (r1:List (aH)) (r2:List (aH)) (r3:Bool) (w:World) (aaB:Kd.C iJ w sZ dN.length dN) (aaC:dN.length<=nX) (aaD:Kd.C iE w oZ bH.length bH) (aaE:bH.length<=nY) (h:vX.f k bV bU dN bH a2=some (r1,r2,r3)):
  Calls Tryd.prog 100 #[.agg #[.func (.func 114) #[] #[],.func (.func 115) #[] #[]],.agg #[.slice sZ dN.length nX,.slice oZ bH.length nY],.int .u64 a2] w fun e w'=>∃ iG nC:Value,e=.returned (.tuple #[.agg #[iG,nC],.bool r3])/\Kd.R iD 42 w' w.heap.size (fun k_=>some k_≠(nC:Value).ownBlock) iG r1/\Kd.R iD 42 w' w.heap.size (fun k_=>some k_≠(iG:Value).ownBlock) nC r2/\Below w.heap.size w w':=by
 refine oV.calls aDT k bV bU sZ nX dN oZ nY bH a2 r1 r2 r3 w aaB aaC aaD aaE ?_
 unfold oV.f
 simp only[(biD _).1]
 exact h
attribute [local go_sem] uA uB uC uD uM uN uO uP
mutual
def uU.l0:Nat->Int->Int->Int->Unit->Unit->List (aZ)->List (aI)->List (aH)->List (aH)->Option ((List (aH))×(List (aH))×Bool)
 |0,_,_,_,_,_,_,_,_,_=>none
 |k+1,x2,nU,vJ,yI,xX,RI,RJ,DR,DT=>if vJ<nU then((XG.f k yI xX RI RJ vJ x2).bind fun MK=>((abS.f MK.1 MK.2).bind fun PD=>(if PD.2.2.2=true then(uU.l1 k x2 PD.1 nU vJ MK.2 (MK.2.length:Int) 0 yI xX RI RJ DR DT MK.1 MK.2 PD.2.1 PD.2.2.1)else(some (DR,DT,false)))))else(some (DR,DT,true))
def uU.l1:Nat->Int->List (aH)->Int->Int->List (dR)->Int->Int->Unit->Unit->List (aZ)->List (aI)->List (aH)->List (aH)->Int->List (dR)->Int->Int->Option ((List (aH))×(List (aH))×Bool)
 |0,_,_,_,_,_,_,_,_,_,_,_,_,_,_,_,_,_=>none
 |k+1,x2,x10,nU,vJ,x41,x42,x43,yI,xX,RI,RJ,DR,DT,abT,avD,ah9,aiA=>if x43<x42 then(if 0<=x43 then(if x43<(x41.length:Int)then(if x43<(x10.length:Int)then(if 0<=((dP x41 x43).f1)then(if((dP x41 x43).f1)<(DT.length:Int)then(uU.l1 k x2 x10 nU vJ x41 x42 (wrap64 (x43+1)) yI xX RI RJ DR (DT.set (((dP x41 x43).f1):Int).toNat (⟨(bM x10 x43).f0,(bM x10 x43).f1⟩:aH)) abT avD ah9 aiA)else(none))else(none))else(none))else(none))else(none))else((yT.f abT abT ah9 aiA).bind fun aiB=>(if DR.length<8796093022208 then(uU.l0 k x2 nU (wrap64 (vJ+1)) yI xX RI RJ (DR++[(⟨aiB.1,aiB.2⟩:aH)]) DT)else(none)))
end
def uU.f (k:Nat) (bV:Unit) (bU:Unit) (dN:List (aZ)) (bH:List (aI)) (a2:Int):Option ((List (aH))×(List (aH))×Bool):=if 0<=(bH.length:Int)then(if((bH.length:Int):Int).toNat<=17592186044416 then(uU.l0 k a2 (dN.length:Int) 0 bV bU dN bH ([]:List (aH)) (List.replicate ((bH.length:Int):Int).toNat z42))else(none))else(none)
theorem biF:∀ k,(∀ y0 y1 y2 y3 y4 y5 y6 y7 y8,oV.l0 aEL k y0 y1 y2 y3 y4 y5 y6 y7 y8=uU.l0 k y0 y1 y2 y3 y4 y5 y6 y7 y8)/\(∀ y0 y1 y2 y3 y4 y5 y6 y7 y8 y9 y10 y11 y12 y13 y14 y15 y16,oV.l1 aEL k y0 y1 y2 y3 y4 y5 y6 y7 y8 y9 y10 y11 y12 y13 y14 y15 y16=uU.l1 k y0 y1 y2 y3 y4 y5 y6 y7 y8 y9 y10 y11 y12 y13 y14 y15 y16):=by
 intro k
 induction k with
 |zero=>exact⟨by intros;rfl,by intros;rfl⟩
 |succ k ih=>
  obtain⟨i0,i1⟩:=ih
  refine⟨?_,?_⟩
  ·intros
   unfold oV.l0 uU.l0 rG.f XG.f
   simp only[i1,biE]
   rfl
  ·intros
   unfold oV.l1 uU.l1
   simp only[i0,i1]
theorem uU.calls (k:Nat) (bV:Unit) (bU:Unit) (sZ:Option Addr) (nX:Nat) (dN:List (aZ)) (oZ:Option Addr) (nY:Nat) (bH:List (aI)) (a2:Int) (r1:List (aH)) (r2:List (aH)) (r3:Bool) (w:World) (aaB:Kd.C iJ w sZ dN.length dN) (aaC:dN.length<=nX) (aaD:Kd.C iE w oZ bH.length bH) (aaE:bH.length<=nY) (h:uU.f k bV bU dN bH a2=some (r1,r2,r3)):
  Calls Tryd.prog 100 #[.agg #[.func (.func 116) #[] #[],.func (.func 117) #[] #[]],.agg #[.slice sZ dN.length nX,.slice oZ bH.length nY],.int .u64 a2] w fun e w'=>∃ iG nC:Value,e=.returned (.tuple #[.agg #[iG,nC],.bool r3])/\Kd.R iD 42 w' w.heap.size (fun k_=>some k_≠(nC:Value).ownBlock) iG r1/\Kd.R iD 42 w' w.heap.size (fun k_=>some k_≠(iG:Value).ownBlock) nC r2/\Below w.heap.size w w':=by
 refine oV.calls aEL k bV bU sZ nX dN oZ nY bH a2 r1 r2 r3 w aaB aaC aaD aaE ?_
 unfold oV.f
 simp only[(biF _).1]
 exact h
end Go.Proofs.YtcmfnebcmmklkaaDoor.Q
namespace Go.Proofs.YtcmfnebcmmklkaaDoor.Q
open Go Go.RowKit Go.Proofs.YtcmfnebcmmklkaaDoorW.dQ Go.Proofs.YtcmfnebcmmklkaaDoorW.oU Go.Proofs.YtcmfnebcmmklkaaDoorW.gG
theorem aXE {P:Program} {Q:Exit->Act->World->Prop} {a:Act} {w:World} {c:Code}
  (h:c.wp P (Exit.then (fun a w=>c.wp P (Exit.then (fun a w=>c.wp P (Exit.then (fun a w=>c.wp P (Exit.then (fun _ _=>False) Q) a w) Q) a w) Q) a w) Q) a w):(Code.loop c).wp P Q a w:=
 wp_loop_rounds 4 h
theorem biL {a b c d:Value} {w:World}:Sem.run Tryd.prog (Instr.index 174 (.agg #[a,b,c,d]) (.int .i64 0)) w=.ok (.agg #[a,b]) w:=by kernel_rfl
theorem biM {a b c d:Value} {w:World}:Sem.run Tryd.prog (Instr.index 174 (.agg #[a,b,c,d]) (.int .i64 1)) w=.ok (.agg #[c,d]) w:=by kernel_rfl
attribute [local go_sem] Hand.run_store_func
def abZ.f:Option (Unit×Unit×Unit×Unit):=some ((),(),(),())
theorem abZ.calls (r1:Unit) (r2:Unit) (r3:Unit) (r4:Unit) (w:World) (h:abZ.f=some (r1,r2,r3,r4)):
  Calls Tryd.prog 99 #[] w fun e w'=>e=.returned (.agg #[.func (.func 114) #[] #[],.func (.func 115) #[] #[],.func (.func 116) #[] #[],.func (.func 117) #[] #[]])/\Below w.heap.size w w':=by
 go_enter Tryd.func99,Tryd.ntmps99
 go_wp2
 refine bodyPost_ret (v:=.agg #[.func (.func 114) #[] #[],.func (.func 115) #[] #[],.func (.func 116) #[] #[],.func (.func 117) #[] #[]]) ?_ rfl ⟨rfl,?_⟩
 ·simp[results,Tryd.results99,go_sem]
 ·exact(Below.refl w.heap.size w).alloc (Nat.le_refl _) _
def XH.f (aG:List (aZ)) (aC:List (aI)):Option (Int):=some (Hand.oP aG aC)
theorem XH.calls (aQ:Option Addr) (aK:Nat) (aG:List (aZ)) (aT:Option Addr) (aJ:Nat) (aC:List (aI)) (r:Int) (w:World) (jI:Kd.C iJ w aQ aG.length aG) (jU:aG.length<=aK) (jE:Kd.C iE w aT aC.length aC) (jS:aC.length<=aJ) (h:XH.f aG aC=some r):
  Calls Tryd.prog 17 #[.agg #[.slice aQ aG.length aK,.slice aT aC.length aJ]] w fun e w'=>e=.returned (.int .i64 r)/\Below w.heap.size w w':=by
 obtain rfl:=Option.some.inj h
 exact Hand.aXD aG aC aQ aT aK aJ w jI jE
end Go.Proofs.YtcmfnebcmmklkaaDoor.Q

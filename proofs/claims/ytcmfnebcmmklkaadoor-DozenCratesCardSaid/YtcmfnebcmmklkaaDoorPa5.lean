/- What DozenCrates reaches beyond the shared texts, and its card. Part 5 of 7. -/
import Derived.Test.YtcmfnebcmmklkaaDoorM3
import Derived.Test.YtcmfnebcmmklkaaDoorPa1
set_option linter.unusedVariables false
set_option linter.unusedSimpArgs false
set_option maxRecDepth 100000
set_option maxHeartbeats 8000000
namespace Go.Proofs.YtcmfnebcmmklkaaDoor.Q
open Go.RowKit Go.Proofs.YtcmfnebcmmklkaaDoorW.dQ Go.Proofs.YtcmfnebcmmklkaaDoorW.oU Go.Proofs.YtcmfnebcmmklkaaDoorW.gG
attribute [local go_sem] uA uB uC uD uM uN uO uP   -- for this text's walks alone
mutual
def ag6.l0:Nat->List (List Int)->Int->List Int->List Int->Int->Option (List Int×List Int)
  |0,_,_,_,_,_=>none
  |k+1,x0,x1,x6,x7,x8=>if x8<x1 then(ag6.l1 k x0 x1 x6 x7 x8 0 0)else(some (x6,x7))
def ag6.l1:Nat->List (List Int)->Int->List Int->List Int->Int->Int->Int->Option (List Int×List Int)
  |0,_,_,_,_,_,_,_=>none
  |k+1,x0,x1,x6,x7,x8,x9,x10=>if x10<(x0.length:Int)then(if 0<=x10 then(if 0<=x8 then(if x8<((AP x0 x10).length:Int)then(if(rd (AP x0 x10) x8)=0 then(ag6.l1 k x0 x1 x6 x7 x8 x9 (wrap64 (x10+1)))else(ag6.l1 k x0 x1 x6 x7 x8 (wrap64 (x9+1)) (wrap64 (x10+1))))else(none))else(none))else(none))else(if x9=(x0.length:Int)then(if x6.length<17592186044416 then((some (x6++[x8]:List Int)).bind fun a3F=>(if x9>0 then(if x7.length<17592186044416 then(ag6.l0 k x0 x1 a3F (x7++[x8]) (wrap64 (x8+1)))else(none))else(ag6.l0 k x0 x1 a3F x7 (wrap64 (x8+1)))))else(none))else(if x9>0 then(if x7.length<17592186044416 then(ag6.l0 k x0 x1 x6 (x7++[x8]) (wrap64 (x8+1)))else(none))else(ag6.l0 k x0 x1 x6 x7 (wrap64 (x8+1)))))
end
def ag6.f (k:Nat) (l0:List (List Int)) (a1:Int):Option (List Int×List Int):=ag6.l0 k l0 a1 (([]:List Int)) (([]:List Int)) 0
theorem ag6.calls (k:Nat) (A0:Option Addr) (c0:Nat) (l0:List (List Int)) (a1:Int) (r1:List Int) (r2:List Int) (w:World) (hr0:Kd.C (Kd.slice 3 (Kd.int .i64)) w A0 l0.length l0) (hc0:l0.length<=c0) (h:ag6.f k l0 a1=some (r1,r2)):
    Calls Tryd.prog 41 #[.slice A0 l0.length c0,.int .i64 a1] w fun e w'=>∃ iG nC:Value,e=.returned (.tuple #[iG,nC])/\Kd.R (Kd.int .i64) 3 w' w.heap.size (fun k_=>some k_≠(nC:Value).ownBlock) iG r1/\Kd.R (Kd.int .i64) 3 w' w.heap.size (fun k_=>some k_≠(iG:Value).ownBlock) nC r2/\Below w.heap.size w w':=by
 have HR0:=aA.mk hr0
 have HC0:=aA.mk hc0
 clear hr0 hc0
 have HB:=aA.mk (Below.refl w.heap.size w)
 have H:(ag6.l0 k l0 a1 (([]:List Int)) (([]:List Int)) 0)=some (r1,r2):=h
 clear h
 obtain⟨bJM,bBI⟩:∃ y_:List Int,y_=(([]:List Int)):=⟨_,rfl⟩
 replace H:(ag6.l0 k l0 a1 bJM (([]:List Int)) 0)=some (r1,r2):=by first|(rw[bBI];with_reducible exact H)|(have dJ:=(Option.bind_some _ _).symm.trans H;rw[bBI];with_reducible exact dJ)|(have dJ:=(Option.bind_some _ _).symm.trans H;with_reducible exact dJ)|with_reducible exact H|(rw[bBI];exact H)|exact H
 have bNL:=aA.mk bBI
 clear bBI
 obtain⟨bNM,bBJ⟩:∃ y_:List Int,y_=(([]:List Int)):=⟨_,rfl⟩
 replace H:(ag6.l0 k l0 a1 bJM bNM 0)=some (r1,r2):=by first|(rw[bBJ];with_reducible exact H)|(have dJ:=(Option.bind_some _ _).symm.trans H;rw[bBJ];with_reducible exact dJ)|(have dJ:=(Option.bind_some _ _).symm.trans H;with_reducible exact dJ)|with_reducible exact H|(rw[bBJ];exact H)|exact H
 have bNN:=aA.mk bBJ
 clear bBJ
 have H':=aA.mk H
 clear H
 go_enter Tryd.func41,Tryd.ntmps41
 go_wp2_with (first|((with_reducible refine dU (N:=11) rfl ?_);refine Kd.YX (Kd.int .i64) _ 3 ?hg (N:=11) ?hd (xs:=([]:List Int)) (inner:=[]) (ok:=fun _=>True) (lS:=fun _=>True) ?hr ?hp (fun _ hk=>hk) trivial (Below.refl _ _) (Nat.le_refl _) (by simp) ?_;(case hd=>rfl);(case hg=>rfl);(case hr=>first|(go_simp;done)|(go_simp;rfl));(case hp=>exact(gX.none _ _));intro v422 w3 BF hb mF mG;clear mF mG;(first|rw[<-bNL.out]at BF|(simp only[Int.reduceToNat]at BF;rw[<-bNL.out]at BF));have bEB:=aA.mk (Kd.eF BF (dH (Bq HB)));replace HB:=bs HB hb;clear hb BF)|((with_reducible refine dU (N:=12) rfl ?_);refine Kd.YX (Kd.int .i64) _ 3 ?hg (N:=12) ?hd (xs:=([]:List Int)) (inner:=[]) (ok:=fun _=>True) (lS:=fun _=>True) ?hr ?hp (fun _ hk=>hk) trivial (Below.refl _ _) (Nat.le_refl _) (by simp) ?_;(case hd=>rfl);(case hg=>rfl);(case hr=>first|(go_simp;done)|(go_simp;rfl));(case hp=>exact(gX.none _ _));intro v425 w5 ZF hb mF mG;clear mF mG;(first|rw[<-bNN.out]at ZF|(simp only[Int.reduceToNat]at ZF;rw[<-bNN.out]at ZF));have bTZ:=aA.mk (Kd.eF (Kd.fG ZF (Kd.dY (R_ bEB))) (dH (Bq HB)));replace bEB:=aA.mk (Kd.gW (R_ bEB) (Kd.fF ZF) hb);replace HB:=bs HB hb;clear hb ZF))
 go_loopg [6,7,8] k (fun kq v6 v7 v8 w'=>∃ (dZ:List Int) (XU:List Int) (uY:Int),v8=.int .i64 uY/\aA (ag6.l0 kq l0 a1 dZ XU uY=some (r1,r2))/\aA (kq<=k)/\aA (Kd.R (Kd.int .i64) 3 w' w.heap.size (fun k_=>some k_≠(v7:Value).ownBlock) v6 dZ)/\aA (Kd.R (Kd.int .i64) 3 w' w.heap.size (fun k_=>some k_≠(v6:Value).ownBlock) v7 XU)/\aA (Below w.heap.size w w'))
 case atStart=>exact⟨(bJM),(bNM),(0),(by first|rfl|(simp;done)|(simp[*];done)),H',⟨Nat.le_refl _⟩,⟨Kd.bQ (R_ bEB) (fun _ hk=>hk.2)⟩,⟨Kd.bQ (R_ bTZ) (fun _ hk=>hk.2)⟩,⟨Bq HB⟩⟩
 case round=>
  clear H'
  obtain⟨dZ,XU,uY,rfl,HA,fV,dS,mQ,HB⟩:=hrel
  rcases gk with _|k1
  ·exact absurd HA.out (by simp[ag6.l0])
  have H:=HA.out
  clear HA
  simp only[ag6.l0]at H
  by_cases c7:uY<a1
  ·rw[if_pos c7]at H
   have afF:decide (uY<a1)=true:=decide_eq_true c7
   clear c7
   have H':=aA.mk H
   clear H
   go_wp2
   go_loopg [9,10] k1 (fun kq v9 v10 w'=>∃ (asY:Int) (zA:Int),v9=.int .i64 asY/\v10=.int .i64 zA/\aA (ag6.l1 kq l0 a1 dZ XU uY asY zA=some (r1,r2))/\aA (kq<=k1)/\aA (Kd.R (Kd.int .i64) 3 w' w.heap.size (fun k_=>some k_≠(u7:Value).ownBlock) u6 dZ)/\aA (Kd.R (Kd.int .i64) 3 w' w.heap.size (fun k_=>some k_≠(u6:Value).ownBlock) u7 XU)/\aA (Below w.heap.size w w'))
   case atStart=>exact⟨(0),(0),(by first|rfl|(simp;done)|(simp[*];done)),(by first|rfl|(simp;done)|(simp[*];done)),H',⟨Nat.le_refl _⟩,⟨R_ dS⟩,⟨R_ mQ⟩,⟨Bq HB⟩⟩
   case round=>
    clear H'
    try clear c7
    try clear afF
    obtain⟨asY,zA,rfl,rfl,HA,mY,dS,mQ,HB⟩:=hrel
    rcases gk with _|k2
    ·exact absurd HA.out (by simp[ag6.l1])
    have H:=HA.out
    clear HA
    simp only[ag6.l1]at H
    by_cases c8:zA<(l0.length:Int)
    ·rw[if_pos c8]at H
     have aDL:decide (zA<(l0.length:Int))=true:=decide_eq_true c8
     clear c8
     by_cases c9:0<=zA
     ·rw[if_pos c9]at H
      have QC:decide (0<=zA)=true:=decide_eq_true c9
      clear c9
      by_cases c10:0<=uY
      ·rw[if_pos c10]at H
       have anN:decide (0<=uY)=true:=decide_eq_true c10
       clear c10
       by_cases c11:uY<((AP l0 zA).length:Int)
       ·rw[if_pos c11]at H
        have aZ2:decide (uY<((AP l0 zA).length:Int))=true:=decide_eq_true c11
        clear c11
        by_cases c12:(rd (AP l0 zA) uY)=0
        ·rw[if_pos c12]at H
         have bD5:((rd (AP l0 zA) uY)==0)=true:=beq_iff_eq.mpr c12
         have bHM:((rd (AP l0 zA) uY)!=0)=false:=bne_eq_false_iff_eq.mpr c12
         clear c12
         have H':=aA.mk H
         clear H
         have blS:0<=(zA:Int):=od
         have blT:zA<(l0.length:Int):=od
         obtain⟨bT0,bT1,bT2,bJN,bBK,bBL,bBM⟩:=atL HR0.out zA blS blT
         cases bJN
         replace bBK:=xs HB bBK
         have bJO:=aA.mk bBM
         have bT3:=aA.mk bBL
         clear bBM bBL
         replace blS:=eq_true blS
         replace blT:=eq_true blT
         have blU:0<=(uY:Int):=od
         have blV:uY<((AP l0 zA).length:Int):=od
         obtain⟨bT4,bJP,bBN⟩:=Kd.BL bJO.out uY blU blV
         cases bJP
         replace bBN:=xs HB bBN
         replace blU:=eq_true blU
         replace blV:=eq_true blV
         go_wp2
         go_roundg k2
         case measure=>have:=fV.out;have:=mY.out;omega
         case rel=>exact⟨(asY),(wrap64 (zA+1)),(by first|rfl|(simp;done)|(simp[*];done)),(by first|rfl|(simp;done)|(simp[*];done)),H',⟨by have:=fV.out;have:=mY.out;omega⟩,⟨R_ dS⟩,⟨R_ mQ⟩,⟨Bq HB⟩⟩
        rw[if_neg c12]at H
        have bD5:((rd (AP l0 zA) uY)==0)=false:=beq_eq_false_iff_ne.mpr c12
        have bHM:((rd (AP l0 zA) uY)!=0)=true:=bne_iff_ne.mpr c12
        have H':=aA.mk H
        clear H
        have blS:0<=(zA:Int):=od
        have blT:zA<(l0.length:Int):=od
        obtain⟨bT0,bT1,bT2,bJN,bBK,bBL,bBM⟩:=atL HR0.out zA blS blT
        cases bJN
        replace bBK:=xs HB bBK
        have bJO:=aA.mk bBM
        have bT3:=aA.mk bBL
        clear bBM bBL
        replace blS:=eq_true blS
        replace blT:=eq_true blT
        have blU:0<=(uY:Int):=od
        have blV:uY<((AP l0 zA).length:Int):=od
        obtain⟨bT4,bJP,bBN⟩:=Kd.BL bJO.out uY blU blV
        cases bJP
        replace bBN:=xs HB bBN
        replace blU:=eq_true blU
        replace blV:=eq_true blV
        go_wp2
        go_roundg k2
        case measure=>have:=fV.out;have:=mY.out;omega
        case rel=>exact⟨(wrap64 (asY+1)),(wrap64 (zA+1)),(by first|rfl|(simp;done)|(simp[*];done)),(by first|rfl|(simp;done)|(simp[*];done)),H',⟨by have:=fV.out;have:=mY.out;omega⟩,⟨R_ dS⟩,⟨R_ mQ⟩,⟨Bq HB⟩⟩
       rw[if_neg c11]at H
       exact absurd H (by simp)
      rw[if_neg c10]at H
      exact absurd H (by simp)
     rw[if_neg c9]at H
     exact absurd H (by simp)
    rw[if_neg c8]at H
    have aDL:decide (zA<(l0.length:Int))=false:=decide_eq_false c8
    clear c8
    by_cases c13:asY=(l0.length:Int)
    ·rw[if_pos c13]at H
     have aNZ:(asY==(l0.length:Int))=true:=beq_iff_eq.mpr c13
     have aN0:(asY !=(l0.length:Int))=false:=bne_eq_false_iff_eq.mpr c13
     clear c13
     by_cases c14:dZ.length<17592186044416
     ·rw[if_pos c14]at H
      have aN1:=aA.mk c14
      clear c14
      obtain⟨a3F,bBO⟩:∃ y_:List Int,y_=(dZ++[uY]):=⟨_,rfl⟩
      replace H:(if asY>0 then(if XU.length<17592186044416 then(ag6.l0 k2 l0 a1 a3F (XU++[uY]) (wrap64 (uY+1)))else(none))else(ag6.l0 k2 l0 a1 a3F XU (wrap64 (uY+1))))=some (r1,r2):=by first|(rw[bBO];with_reducible exact H)|(have dJ:=(Option.bind_some _ _).symm.trans H;rw[bBO];with_reducible exact dJ)|(have dJ:=(Option.bind_some _ _).symm.trans H;with_reducible exact dJ)|with_reducible exact H|(rw[bBO];exact H)|exact H
      have bNO:=aA.mk bBO
      clear bBO
      by_cases c15:asY>0
      ·rw[if_pos c15]at H
       have bf5:decide (0<asY)=true:=decide_eq_true c15
       clear c15
       by_cases c16:XU.length<17592186044416
       ·rw[if_pos c16]at H
        have bT5:=aA.mk c16
        clear c16
        obtain⟨bNP,bBP⟩:∃ y_:List Int,y_=(XU++[uY]):=⟨_,rfl⟩
        replace H:(ag6.l0 k2 l0 a1 a3F bNP (wrap64 (uY+1)))=some (r1,r2):=by first|(rw[bBP];with_reducible exact H)|(have dJ:=(Option.bind_some _ _).symm.trans H;rw[bBP];with_reducible exact dJ)|(have dJ:=(Option.bind_some _ _).symm.trans H;with_reducible exact dJ)|with_reducible exact H|(rw[bBP];exact H)|exact H
        have bT6:=aA.mk bBP
        clear bBP
        have H':=aA.mk H
        clear H
        go_wp2_with (first|((with_reducible refine VC (b:=.append) (xs:=#[.tmp 38,.tmp 40]) rfl ?_);at_builtin;refine Kd.WR (Kd.int .i64) (w0:=w) w.heap.size rfl (.tmp 38) (.tmp 40) 34 3 (.int .i64 0) 8 rfl Tryd.underlying34 info3 rfl (by decide) (by omega) u6 dZ uY [.int .i64 uY] (fun k_=>some k_≠(u7:Value).ownBlock) (fun _=>False) rfl rfl ?aP (fun _ hk=>hk.elim) ?aF ?aO ?aB ?aS ?aL ?_;(case aP=>exact rfl);(case aB=>exact(Bq HB));(case aF=>exact(fun k_ hk=>Kd.fresh' (Kd.dY (R_ mQ)) k_ hk));(case aO=>exact(R_ dS));(case aS=>exact(dH (Bq HB)));(case aL=>have:=aN1.out;omega);intro bNQ uS ho hb hg hat;rw[<-bNO.out]at ho;have aV:=aA.mk (Kd.GI (ok:=(fun _=>True)) (Kd.bQ (R_ mQ) (fun _ hk=>⟨trivial,hk⟩)) hg hat);have aW:=aA.mk (hb);have aY:=aA.mk (ho);clear mQ;clear HB;clear dS;have mQ:=aV;have HB:=aW;have bl6:=aY;clear aV aW aY;clear ho hb hg hat)|((with_reducible refine VC (b:=.append) (xs:=#[.tmp 44,.tmp 46]) rfl ?_);at_builtin;refine Kd.WR (Kd.int .i64) (w0:=w) w.heap.size rfl (.tmp 44) (.tmp 46) 34 3 (.int .i64 0) 8 rfl Tryd.underlying34 info3 rfl (by decide) (by omega) u7 XU uY [.int .i64 uY] (fun k_=>some k_≠(bNQ:Value).ownBlock) (fun _=>False) rfl rfl ?aP (fun _ hk=>hk.elim) ?aF ?aO ?aB ?aS ?aL ?_;(case aP=>exact rfl);(case aB=>exact(Bq HB));(case aF=>exact(fun k_ hk=>Kd.fresh' (Kd.dY (R_ bl6)) k_ hk));(case aO=>exact(Kd.bQ (R_ mQ) (fun _ hk=>hk.2)));(case aS=>exact(dH (Bq HB)));(case aL=>have:=bT5.out;omega);intro v433 BM ho hb hg hat;rw[<-bT6.out]at ho;have aV:=aA.mk (Kd.GI (ok:=(fun _=>True)) (Kd.bQ (R_ bl6) (fun _ hk=>⟨trivial,hk⟩)) hg hat);have aW:=aA.mk (hb);have aY:=aA.mk (ho);clear bl6;clear HB;clear mQ;have bl6:=aV;have HB:=aW;have bT7:=aY;clear aV aW aY;clear ho hb hg hat))
        go_roundg k2
        case measure=>have:=fV.out;have:=mY.out;omega
        case rel=>exact⟨(a3F),(bNP),(wrap64 (uY+1)),(by first|rfl|(simp;done)|(simp[*];done)),H',⟨by have:=fV.out;have:=mY.out;omega⟩,⟨Kd.bQ (R_ bl6) (fun _ hk=>hk.2)⟩,⟨R_ bT7⟩,⟨Bq HB⟩⟩
       rw[if_neg c16]at H
       exact absurd H (by simp)
      rw[if_neg c15]at H
      have bf5:decide (0<asY)=false:=decide_eq_false c15
      clear c15
      have H':=aA.mk H
      clear H
      go_wp2_with (first|((with_reducible refine VC (b:=.append) (xs:=#[.tmp 38,.tmp 40]) rfl ?_);at_builtin;refine Kd.WR (Kd.int .i64) (w0:=w) w.heap.size rfl (.tmp 38) (.tmp 40) 34 3 (.int .i64 0) 8 rfl Tryd.underlying34 info3 rfl (by decide) (by omega) u6 dZ uY [.int .i64 uY] (fun k_=>some k_≠(u7:Value).ownBlock) (fun _=>False) rfl rfl ?aP (fun _ hk=>hk.elim) ?aF ?aO ?aB ?aS ?aL ?_;(case aP=>exact rfl);(case aB=>exact(Bq HB));(case aF=>exact(fun k_ hk=>Kd.fresh' (Kd.dY (R_ mQ)) k_ hk));(case aO=>exact(R_ dS));(case aS=>exact(dH (Bq HB)));(case aL=>have:=aN1.out;omega);intro bNQ xU ho hb hg hat;rw[<-bNO.out]at ho;have aV:=aA.mk (Kd.GI (ok:=(fun _=>True)) (Kd.bQ (R_ mQ) (fun _ hk=>⟨trivial,hk⟩)) hg hat);have aW:=aA.mk (hb);have aY:=aA.mk (ho);clear mQ;clear HB;clear dS;have mQ:=aV;have HB:=aW;have bl6:=aY;clear aV aW aY;clear ho hb hg hat))
      go_roundg k2
      case measure=>have:=fV.out;have:=mY.out;omega
      case rel=>exact⟨(a3F),(XU),(wrap64 (uY+1)),(by first|rfl|(simp;done)|(simp[*];done)),H',⟨by have:=fV.out;have:=mY.out;omega⟩,⟨R_ bl6⟩,⟨Kd.bQ (R_ mQ) (fun _ hk=>hk.2)⟩,⟨Bq HB⟩⟩
     rw[if_neg c14]at H
     exact absurd H (by simp)
    rw[if_neg c13]at H
    have aNZ:(asY==(l0.length:Int))=false:=beq_eq_false_iff_ne.mpr c13
    have aN0:(asY !=(l0.length:Int))=true:=bne_iff_ne.mpr c13
    by_cases c20:asY>0
    ·rw[if_pos c20]at H
     have arX:decide (0<asY)=true:=decide_eq_true c20
     clear c20
     by_cases c21:XU.length<17592186044416
     ·rw[if_pos c21]at H
      have bnW:=aA.mk c21
      clear c21
      obtain⟨bNR,bBQ⟩:∃ y_:List Int,y_=(XU++[uY]):=⟨_,rfl⟩
      replace H:(ag6.l0 k2 l0 a1 dZ bNR (wrap64 (uY+1)))=some (r1,r2):=by first|(rw[bBQ];with_reducible exact H)|(have dJ:=(Option.bind_some _ _).symm.trans H;rw[bBQ];with_reducible exact dJ)|(have dJ:=(Option.bind_some _ _).symm.trans H;with_reducible exact dJ)|with_reducible exact H|(rw[bBQ];exact H)|exact H
      have bT8:=aA.mk bBQ
      clear bBQ
      have H':=aA.mk H
      clear H
      go_wp2_with (first|((with_reducible refine VC (b:=.append) (xs:=#[.tmp 44,.tmp 46]) rfl ?_);at_builtin;refine Kd.WR (Kd.int .i64) (w0:=w) w.heap.size rfl (.tmp 44) (.tmp 46) 34 3 (.int .i64 0) 8 rfl Tryd.underlying34 info3 rfl (by decide) (by omega) u7 XU uY [.int .i64 uY] (fun k_=>some k_≠(u6:Value).ownBlock) (fun _=>False) rfl rfl ?aP (fun _ hk=>hk.elim) ?aF ?aO ?aB ?aS ?aL ?_;(case aP=>exact rfl);(case aB=>exact(Bq HB));(case aF=>exact(fun k_ hk=>Kd.fresh' (Kd.dY (R_ dS)) k_ hk));(case aO=>exact(R_ mQ));(case aS=>exact(dH (Bq HB)));(case aL=>have:=bnW.out;omega);intro v436 AU ho hb hg hat;rw[<-bT8.out]at ho;have aV:=aA.mk (Kd.GI (ok:=(fun _=>True)) (Kd.bQ (R_ dS) (fun _ hk=>⟨trivial,hk⟩)) hg hat);have aW:=aA.mk (hb);have aY:=aA.mk (ho);clear dS;clear HB;clear mQ;have dS:=aV;have HB:=aW;have bT9:=aY;clear aV aW aY;clear ho hb hg hat))
      go_roundg k2
      case measure=>have:=fV.out;have:=mY.out;omega
      case rel=>exact⟨(dZ),(bNR),(wrap64 (uY+1)),(by first|rfl|(simp;done)|(simp[*];done)),H',⟨by have:=fV.out;have:=mY.out;omega⟩,⟨Kd.bQ (R_ dS) (fun _ hk=>hk.2)⟩,⟨R_ bT9⟩,⟨Bq HB⟩⟩
     rw[if_neg c21]at H
     exact absurd H (by simp)
    rw[if_neg c20]at H
    have arX:decide (0<asY)=false:=decide_eq_false c20
    clear c20
    have H':=aA.mk H
    clear H
    go_wp2
    go_roundg k2
    case measure=>have:=fV.out;have:=mY.out;omega
    case rel=>exact⟨(dZ),(XU),(wrap64 (uY+1)),(by first|rfl|(simp;done)|(simp[*];done)),H',⟨by have:=fV.out;have:=mY.out;omega⟩,⟨R_ dS⟩,⟨R_ mQ⟩,⟨Bq HB⟩⟩
  rw[if_neg c7]at H
  have afF:decide (uY<a1)=false:=decide_eq_false c7
  clear c7
  simp only[Option.some.injEq,Prod.mk.injEq]at H
  obtain⟨rfl,rfl⟩:=H
  go_wp2
  go_ret2
  exact⟨_,_,by first|rfl|(simp[iU,iV]<;>rfl)|(simp[*,iU,iV]<;>rfl),R_ dS,by(with_reducible repeat(first|apply Kd.fQ|apply Kd.fU|apply Kd.dG));exact mQ.out,Bq HB⟩
mutual
def aeT.l0:Nat->List (List Int)->List Int->Int->Option (Bool)
  |0,_,_,_=>none
  |k+1,x0,x1,x5=>if x5<(x0.length:Int)then(aeT.l1 k x0 x1 x5 0)else(some true)
def aeT.l1:Nat->List (List Int)->List Int->Int->Int->Option (Bool)
  |0,_,_,_,_=>none
  |k+1,x0,x1,x5,x6=>if x6<x5 then(aeT.l2 k x0 x1 x5 x6 true 0)else(aeT.l0 k x0 x1 (wrap64 (x5+1)))
def aeT.l2:Nat->List (List Int)->List Int->Int->Int->Bool->Int->Option (Bool)
  |0,_,_,_,_,_,_=>none
  |k+1,x0,x1,x5,x6,x7,x8=>if x8<(x1.length:Int)then(if x7=true then(if 0<=x5 then(if x5<(x0.length:Int)then(if 0<=x8 then(if 0<=(rd x1 x8)then(if(rd x1 x8)<((AP x0 x5).length:Int)then(if 0<=x6 then(if x6<(x0.length:Int)then(if(rd x1 x8)<((AP x0 x6).length:Int)then(aeT.l2 k x0 x1 x5 x6 ((rd (AP x0 x5) (rd x1 x8))==(rd (AP x0 x6) (rd x1 x8))) (wrap64 (x8+1)))else(none))else(none))else(none))else(none))else(none))else(none))else(none))else(none))else(aeT.l2 k x0 x1 x5 x6 false (wrap64 (x8+1))))else(if x7=true then(some false)else(aeT.l1 k x0 x1 x5 (wrap64 (x6+1))))
end
def aeT.f (k:Nat) (l0:List (List Int)) (l1:List Int):Option (Bool):=aeT.l0 k l0 l1 0
theorem aeT.calls (k:Nat) (A0:Option Addr) (c0:Nat) (l0:List (List Int)) (A1:Option Addr) (c1:Nat) (l1:List Int) (r:Bool) (w:World) (hr0:Kd.C (Kd.slice 3 (Kd.int .i64)) w A0 l0.length l0) (hc0:l0.length<=c0) (hr1:Kd.C (Kd.int .i64) w A1 l1.length l1) (hc1:l1.length<=c1) (h:aeT.f k l0 l1=some r):
    Calls Tryd.prog 89 #[.slice A0 l0.length c0,.slice A1 l1.length c1] w fun e w'=>e=.returned (.bool r)/\iI w w':=by
 have HR0:=aA.mk hr0
 have HC0:=aA.mk hc0
 clear hr0 hc0
 have HR1:=aA.mk hr1
 have HC1:=aA.mk hc1
 clear hr1 hc1
 have H:(aeT.l0 k l0 l1 0)=some r:=h
 clear h
 have H':=aA.mk H
 clear H
 go_enter Tryd.func89,Tryd.ntmps89
 go_wp2
 repeat(go_quiet (fail);try go_wp2)
 go_loopg [5] k (fun kq v5 w'=>∃ (bC:Int),v5=.int .i64 bC/\aA (aeT.l0 kq l0 l1 bC=some r)/\aA (kq<=k)/\iI w w')
 case atStart=>exact⟨(0),(by first|rfl|(simp;done)|(simp[*];done)),H',⟨Nat.le_refl _⟩,by repeat(first|exact iI.refl _|apply iI.step)⟩
 case round=>
  clear H'
  try clear c1
  obtain⟨bC,rfl,HA,fV,⟨m1,rfl⟩⟩:=hrel
  rcases gk with _|k1
  ·exact absurd HA.out (by simp[aeT.l0])
  have H:=HA.out
  clear HA
  simp only[aeT.l0]at H
  by_cases c3:bC<(l0.length:Int)
  ·rw[if_pos c3]at H
   have WU:decide (bC<(l0.length:Int))=true:=decide_eq_true c3
   clear c3
   have H':=aA.mk H
   clear H
   go_wp2
   repeat(go_quiet (fail);try go_wp2)
   go_loopg [6] k1 (fun kq v6 w'=>∃ (qJ:Int),v6=.int .i64 qJ/\aA (aeT.l1 kq l0 l1 bC qJ=some r)/\aA (kq<=k1)/\iI w w')
   case atStart=>exact⟨(0),(by first|rfl|(simp;done)|(simp[*];done)),H',⟨Nat.le_refl _⟩,by repeat(first|exact iI.refl _|apply iI.step)⟩
   case round=>
    clear H'
    try clear c3
    try clear WU
    obtain⟨qJ,rfl,HA,mY,⟨m2,rfl⟩⟩:=hrel
    rcases gk with _|k2
    ·exact absurd HA.out (by simp[aeT.l1])
    have H:=HA.out
    clear HA
    simp only[aeT.l1]at H
    by_cases c4:qJ<bC
    ·rw[if_pos c4]at H
     have yH:decide (qJ<bC)=true:=decide_eq_true c4
     clear c4
     have H':=aA.mk H
     clear H
     go_wp2
     repeat(go_quiet (fail);try go_wp2)
     go_loopg [7,8] k2 (fun kq v7 v8 w'=>∃ (bBR:Bool) (aiU:Int),v7=.bool bBR/\v8=.int .i64 aiU/\aA (aeT.l2 kq l0 l1 bC qJ bBR aiU=some r)/\aA (kq<=k2)/\iI w w')
     case atStart=>exact⟨(true),(0),(by first|rfl|(simp;done)|(simp[*];done)),(by first|rfl|(simp;done)|(simp[*];done)),H',⟨Nat.le_refl _⟩,by repeat(first|exact iI.refl _|apply iI.step)⟩
     case round=>
      clear H'
      try clear c4
      try clear yH
      obtain⟨bBR,aiU,rfl,rfl,HA,HK3,⟨m3,rfl⟩⟩:=hrel
      rcases gk with _|k3
      ·exact absurd HA.out (by simp[aeT.l2])
      have H:=HA.out
      clear HA
      simp only[aeT.l2]at H
      by_cases c5:aiU<(l1.length:Int)
      ·rw[if_pos c5]at H
       have ad8:decide (aiU<(l1.length:Int))=true:=decide_eq_true c5
       clear c5
       by_cases c6:bBR=true
       ·subst c6
        replace H:(if 0<=bC then(if bC<(l0.length:Int)then(if 0<=aiU then(if 0<=(rd l1 aiU)then(if(rd l1 aiU)<((AP l0 bC).length:Int)then(if 0<=qJ then(if qJ<(l0.length:Int)then(if(rd l1 aiU)<((AP l0 qJ).length:Int)then(aeT.l2 k3 l0 l1 bC qJ ((rd (AP l0 bC) (rd l1 aiU))==(rd (AP l0 qJ) (rd l1 aiU))) (wrap64 (aiU+1)))else(none))else(none))else(none))else(none))else(none))else(none))else(none))else(none))=some r:=by rw[if_pos rfl]at H;exact H
        by_cases c7:0<=bC
        ·rw[if_pos c7]at H
         have afF:decide (0<=bC)=true:=decide_eq_true c7
         clear c7
         by_cases c8:bC<(l0.length:Int)
         ·rw[if_pos c8]at H
          have aDL:decide (bC<(l0.length:Int))=true:=decide_eq_true c8
          clear c8
          by_cases c9:0<=aiU
          ·rw[if_pos c9]at H
           have QC:decide (0<=aiU)=true:=decide_eq_true c9
           clear c9
           by_cases c10:0<=(rd l1 aiU)
           ·rw[if_pos c10]at H
            have anN:decide (0<=(rd l1 aiU))=true:=decide_eq_true c10
            clear c10
            by_cases c11:(rd l1 aiU)<((AP l0 bC).length:Int)
            ·rw[if_pos c11]at H
             have aZ2:decide ((rd l1 aiU)<((AP l0 bC).length:Int))=true:=decide_eq_true c11
             clear c11
             by_cases c12:0<=qJ
             ·rw[if_pos c12]at H
              have bD5:decide (0<=qJ)=true:=decide_eq_true c12
              clear c12
              by_cases c13:qJ<(l0.length:Int)
              ·rw[if_pos c13]at H
               have aNZ:decide (qJ<(l0.length:Int))=true:=decide_eq_true c13
               clear c13
               by_cases c14:(rd l1 aiU)<((AP l0 qJ).length:Int)
               ·rw[if_pos c14]at H
                have aFM:decide ((rd l1 aiU)<((AP l0 qJ).length:Int))=true:=decide_eq_true c14
                clear c14
                have H':=aA.mk H
                clear H
                have bJQ:0<=(bC:Int):=od
                have bJR:bC<(l0.length:Int):=od
                obtain⟨bUA,A438_0,c438_0,bUB,hx438_0,bNS,bNT⟩:=atL HR0.out bC bJQ bJR
                cases bUB
                have bUC:=aA.mk bNT
                have HC438_0:=aA.mk bNS
                clear bNT bNS
                replace bJQ:=eq_true bJQ
                replace bJR:=eq_true bJR
                have bJS:0<=(aiU:Int):=od
                have bJT:aiU<(l1.length:Int):=od
                obtain⟨bUD,bUE,hx439_0⟩:=Kd.BL HR1.out aiU bJS bJT
                cases bUE
                replace bJS:=eq_true bJS
                replace bJT:=eq_true bJT
                have bJU:0<=((rd l1 aiU):Int):=od
                have bJV:(rd l1 aiU)<((AP l0 bC).length:Int):=od
                obtain⟨ad440,bUF,hx440_0⟩:=Kd.BL bUC.out (rd l1 aiU) bJU bJV
                cases bUF
                replace bJU:=eq_true bJU
                replace bJV:=eq_true bJV
                have bJW:0<=(qJ:Int):=od
                have bJX:qJ<(l0.length:Int):=od
                obtain⟨bUG,A441_0,c441_0,bUH,hx441_0,bNU,bNV⟩:=atL HR0.out qJ bJW bJX
                obtain rfl:bUA=bUG:=(by injection bUH)
                have bUI:=aA.mk bNV
                have HC441_0:=aA.mk bNU
                clear bNV bNU
                replace bJW:=eq_true bJW
                replace bJX:=eq_true bJX
                have bJY:0<=(aiU:Int):=od
                have bJZ:aiU<(l1.length:Int):=od
                obtain⟨bUJ,bUK,hx442_0⟩:=Kd.BL HR1.out aiU bJY bJZ
                obtain rfl:bUD=bUJ:=(by injection bUK)
                replace bJY:=eq_true bJY
                replace bJZ:=eq_true bJZ
                have bJ0:0<=((rd l1 aiU):Int):=od
                have bJ1:(rd l1 aiU)<((AP l0 qJ).length:Int):=od
                obtain⟨ad443,bUL,hx443_0⟩:=Kd.BL bUI.out (rd l1 aiU) bJ0 bJ1
                cases bUL
                replace bJ0:=eq_true bJ0
                replace bJ1:=eq_true bJ1
                go_wp2
                repeat(go_quiet (fail);try go_wp2)
                go_roundg k3
                case measure=>have:=fV.out;have:=mY.out;have:=HK3.out;omega
                case rel=>exact⟨(((rd (AP l0 bC) (rd l1 aiU))==(rd (AP l0 qJ) (rd l1 aiU)))),(wrap64 (aiU+1)),(by first|rfl|(simp;done)|(simp[*];done)),(by first|rfl|(simp;done)|(simp[*];done)),H',⟨by have:=fV.out;have:=mY.out;have:=HK3.out;omega⟩,by repeat(first|exact iI.refl _|apply iI.step)⟩
               rw[if_neg c14]at H
               exact absurd H (by simp)
              rw[if_neg c13]at H
              exact absurd H (by simp)
             rw[if_neg c12]at H
             exact absurd H (by simp)
            rw[if_neg c11]at H
            exact absurd H (by simp)
           rw[if_neg c10]at H
           exact absurd H (by simp)
          rw[if_neg c9]at H
          exact absurd H (by simp)
         rw[if_neg c8]at H
         exact absurd H (by simp)
        rw[if_neg c7]at H
        exact absurd H (by simp)
       replace c6:=Bool.eq_false_iff.mpr c6
       subst c6
       replace H:(aeT.l2 k3 l0 l1 bC qJ false (wrap64 (aiU+1)))=some r:=by rw[if_neg (show ¬ (false=true) by decide)]at H;exact H
       have H':=aA.mk H
       clear H
       go_wp2
       repeat(go_quiet (fail);try go_wp2)
       go_roundg k3
       case measure=>have:=fV.out;have:=mY.out;have:=HK3.out;omega
       case rel=>exact⟨(false),(wrap64 (aiU+1)),(by first|rfl|(simp;done)|(simp[*];done)),(by first|rfl|(simp;done)|(simp[*];done)),H',⟨by have:=fV.out;have:=mY.out;have:=HK3.out;omega⟩,by repeat(first|exact iI.refl _|apply iI.step)⟩
      rw[if_neg c5]at H
      have ad8:decide (aiU<(l1.length:Int))=false:=decide_eq_false c5
      clear c5
      by_cases c15:bBR=true
      ·subst c15
       replace H:(some false)=some r:=by rw[if_pos rfl]at H;exact H
       obtain rfl:=Option.some.inj H
       go_wp2
       repeat(go_quiet (fail);try go_wp2)
       go_ret
       exact⟨by first|rfl|(simp;done)|(simp[*];done),by repeat(first|exact iI.refl _|apply iI.step)⟩
      replace c15:=Bool.eq_false_iff.mpr c15
      subst c15
      replace H:(aeT.l1 k3 l0 l1 bC (wrap64 (qJ+1)))=some r:=by rw[if_neg (show ¬ (false=true) by decide)]at H;exact H
      have H':=aA.mk H
      clear H
      go_wp2
      repeat(go_quiet (fail);try go_wp2)
      go_roundg k3
      case measure=>have:=fV.out;have:=mY.out;have:=HK3.out;omega
      case rel=>exact⟨(wrap64 (qJ+1)),(by first|rfl|(simp;done)|(simp[*];done)),H',⟨by have:=fV.out;have:=mY.out;have:=HK3.out;omega⟩,by repeat(first|exact iI.refl _|apply iI.step)⟩
    rw[if_neg c4]at H
    have yH:decide (qJ<bC)=false:=decide_eq_false c4
    clear c4
    have H':=aA.mk H
    clear H
    go_wp2
    repeat(go_quiet (fail);try go_wp2)
    go_roundg k2
    case measure=>have:=fV.out;have:=mY.out;omega
    case rel=>exact⟨(wrap64 (bC+1)),(by first|rfl|(simp;done)|(simp[*];done)),H',⟨by have:=fV.out;have:=mY.out;omega⟩,by repeat(first|exact iI.refl _|apply iI.step)⟩
  rw[if_neg c3]at H
  have WU:decide (bC<(l0.length:Int))=false:=decide_eq_false c3
  clear c3
  obtain rfl:=Option.some.inj H
  go_wp2
  repeat(go_quiet (fail);try go_wp2)
  go_ret
  exact⟨by first|rfl|(simp;done)|(simp[*];done),by repeat(first|exact iI.refl _|apply iI.step)⟩
def aeF.l0:Nat->List (List Int)->Int->List Int->Bool->Int->Option (List Int)
  |0,_,_,_,_,_=>none
  |k+1,x0,x1,x5,x6,x7=>if 0<=(IntKind.u64.wrap (x1))then(if x7<(shl .i64 1 (IntKind.u64.wrap (x1)))then((oW.f k x7 x1).bind fun aeX=>(if x6=true then((adI.f k aeX x5).bind fun aF4=>(if aF4=true then((aeT.f k x0 aeX).bind fun av5=>(if av5=true then(aeF.l0 k x0 x1 aeX true (wrap64 (x7+1)))else(aeF.l0 k x0 x1 x5 x6 (wrap64 (x7+1)))))else(aeF.l0 k x0 x1 x5 x6 (wrap64 (x7+1)))))else((aeT.f k x0 aeX).bind fun aF5=>(if aF5=true then(aeF.l0 k x0 x1 aeX true (wrap64 (x7+1)))else(aeF.l0 k x0 x1 x5 x6 (wrap64 (x7+1)))))))else(some x5))else(none)
def aeF.f (k:Nat) (l0:List (List Int)) (a1:Int):Option (List Int):=aeF.l0 k l0 a1 (([]:List Int)) false 0
theorem aeF.calls (k:Nat) (A0:Option Addr) (c0:Nat) (l0:List (List Int)) (a1:Int) (r:List Int) (w:World) (hr0:Kd.C (Kd.slice 3 (Kd.int .i64)) w A0 l0.length l0) (hc0:l0.length<=c0) (h:aeF.f k l0 a1=some r):
    Calls Tryd.prog 43 #[.slice A0 l0.length c0,.int .i64 a1] w fun e w'=>∃ iG:Value,e=.returned (iG)/\Kd.R (Kd.int .i64) 3 w' w.heap.size (fun _=>True) iG r/\Below w.heap.size w w':=by
 have HR0:=aA.mk hr0
 have HC0:=aA.mk hc0
 clear hr0 hc0
 have HB:=aA.mk (Below.refl w.heap.size w)
 have H:(aeF.l0 k l0 a1 (([]:List Int)) false 0)=some r:=h
 clear h
 obtain⟨bNW,bBS⟩:∃ y_:List Int,y_=(([]:List Int)):=⟨_,rfl⟩
 replace H:(aeF.l0 k l0 a1 bNW false 0)=some r:=by first|(rw[bBS];with_reducible exact H)|(have dJ:=(Option.bind_some _ _).symm.trans H;rw[bBS];with_reducible exact dJ)|(have dJ:=(Option.bind_some _ _).symm.trans H;with_reducible exact dJ)|with_reducible exact H|(rw[bBS];exact H)|exact H
 have bNX:=aA.mk bBS
 clear bBS
 have H':=aA.mk H
 clear H
 go_enter Tryd.func43,Tryd.ntmps43
 go_wp2_with (first|((with_reducible refine dU (N:=9) rfl ?_);refine Kd.YX (Kd.int .i64) _ 3 ?hg (N:=9) ?hd (xs:=([]:List Int)) (inner:=[]) (ok:=fun _=>True) (lS:=fun _=>True) ?hr ?hp (fun _ hk=>hk) trivial (Below.refl _ _) (Nat.le_refl _) (by simp) ?_;(case hd=>rfl);(case hg=>rfl);(case hr=>first|(go_simp;done)|(go_simp;rfl));(case hp=>exact(gX.none _ _));intro v445 w3 BF hb mF mG;clear mF mG;(first|rw[<-bNX.out]at BF|(simp only[Int.reduceToNat]at BF;rw[<-bNX.out]at BF));have bUM:=aA.mk (Kd.eF BF (dH (Bq HB)));replace HB:=bs HB hb;clear hb BF))
 go_loopg [5,6,7] k (fun kq v5 v6 v7 w'=>∃ (bC:List Int) (dZ:Bool) (XU:Int),v6=.bool dZ/\v7=.int .i64 XU/\aA (aeF.l0 kq l0 a1 bC dZ XU=some r)/\aA (kq<=k)/\aA (Kd.R (Kd.int .i64) 3 w' w.heap.size (fun _=>True) v5 bC)/\aA (Below w.heap.size w w'))
 case atStart=>exact⟨(bNW),(false),(0),(by first|rfl|(simp;done)|(simp[*];done)),(by first|rfl|(simp;done)|(simp[*];done)),H',⟨Nat.le_refl _⟩,⟨R_ bUM⟩,⟨Bq HB⟩⟩
 case round=>
  clear H'
  obtain⟨bC,dZ,XU,rfl,rfl,HA,fV,bP,HB⟩:=hrel
  rcases gk with _|k1
  ·exact absurd HA.out (by simp[aeF.l0])
  have H:=HA.out
  clear HA
  simp only[aeF.l0]at H
  obtain⟨ji5,bJ2⟩:∃ j_:Int,(IntKind.u64.wrap (a1))=j_:=⟨_,rfl⟩
  replace H:(if 0<=(ji5)then(if XU<(shl .i64 1 (ji5))then((oW.f k1 XU a1).bind fun aeX=>(if dZ=true then((adI.f k1 aeX bC).bind fun aF4=>(if aF4=true then((aeT.f k1 l0 aeX).bind fun av5=>(if av5=true then(aeF.l0 k1 l0 a1 aeX true (wrap64 (XU+1)))else(aeF.l0 k1 l0 a1 bC dZ (wrap64 (XU+1)))))else(aeF.l0 k1 l0 a1 bC dZ (wrap64 (XU+1)))))else((aeT.f k1 l0 aeX).bind fun aF5=>(if aF5=true then(aeF.l0 k1 l0 a1 aeX true (wrap64 (XU+1)))else(aeF.l0 k1 l0 a1 bC dZ (wrap64 (XU+1)))))))else(some bC))else(none))=some r:=by first|(rw[bJ2]at H;exact H)|(simp only[bJ2]at H ⊢;exact H)
  by_cases c6:0<=(ji5)
  ·rw[if_pos c6]at H
   have zJ:=eq_true c6
   have bmO:decide (0<=(ji5))=true:=decide_eq_true c6
   clear c6
   obtain⟨ji7,bBT⟩:∃ j_:Int,(shl .i64 1 (ji5))=j_:=⟨_,rfl⟩
   replace H:(if XU<(ji7)then((oW.f k1 XU a1).bind fun aeX=>(if dZ=true then((adI.f k1 aeX bC).bind fun aF4=>(if aF4=true then((aeT.f k1 l0 aeX).bind fun av5=>(if av5=true then(aeF.l0 k1 l0 a1 aeX true (wrap64 (XU+1)))else(aeF.l0 k1 l0 a1 bC dZ (wrap64 (XU+1)))))else(aeF.l0 k1 l0 a1 bC dZ (wrap64 (XU+1)))))else((aeT.f k1 l0 aeX).bind fun aF5=>(if aF5=true then(aeF.l0 k1 l0 a1 aeX true (wrap64 (XU+1)))else(aeF.l0 k1 l0 a1 bC dZ (wrap64 (XU+1)))))))else(some bC))=some r:=by first|(rw[bBT]at H;exact H)|(simp only[bBT]at H ⊢;exact H)
   have bNY:(IntKind.i64.wrap (1*2^min (ji5).toNat 64))=ji7:=bBT
   have bNZ:(ji5)<=64->(IntKind.i64.wrap (1*2^(ji5).toNat))=ji7:=aTM bBT
   have hji7u:(IntKind.i64.wrap (2^min (ji5).toNat 64))=ji7:=by have h_:=bNY;rw[Int.one_mul]at h_;exact h_
   have hji7v:(ji5)<=64->(IntKind.i64.wrap (2^(ji5).toNat))=ji7:=fun aN4=>by have h_:=bNZ aN4;rw[Int.one_mul]at h_;exact h_
   have hji7y:(wrap64 (1*2^min (ji5).toNat 64))=ji7:=(wQ _).symm.trans bNY
   have hji7x:(ji5)<=64->(wrap64 (1*2^(ji5).toNat))=ji7:=fun h_=>(wQ _).symm.trans (bNZ h_)
   by_cases c8:XU<(ji7)
   ·rw[if_pos c8]at H
    have aDL:decide (XU<(ji7))=true:=decide_eq_true c8
    clear c8
    replace H:=Option.bind_eq_some_iff.mp H
    obtain⟨aeX,YM,H⟩:=H
    replace H:(if dZ=true then((adI.f k1 aeX bC).bind fun aF4=>(if aF4=true then((aeT.f k1 l0 aeX).bind fun av5=>(if av5=true then(aeF.l0 k1 l0 a1 aeX true (wrap64 (XU+1)))else(aeF.l0 k1 l0 a1 bC dZ (wrap64 (XU+1)))))else(aeF.l0 k1 l0 a1 bC dZ (wrap64 (XU+1)))))else((aeT.f k1 l0 aeX).bind fun aF5=>(if aF5=true then(aeF.l0 k1 l0 a1 aeX true (wrap64 (XU+1)))else(aeF.l0 k1 l0 a1 bC dZ (wrap64 (XU+1))))))=some r:=H
    have A9:=aA.mk YM
    clear YM
    by_cases c10:dZ=true
    ·subst c10
     replace H:((adI.f k1 aeX bC).bind fun aF4=>(if aF4=true then((aeT.f k1 l0 aeX).bind fun av5=>(if av5=true then(aeF.l0 k1 l0 a1 aeX true (wrap64 (XU+1)))else(aeF.l0 k1 l0 a1 bC true (wrap64 (XU+1)))))else(aeF.l0 k1 l0 a1 bC true (wrap64 (XU+1)))))=some r:=by rw[if_pos rfl]at H;exact H
     replace H:=Option.bind_eq_some_iff.mp H
     obtain⟨aF4,wJ,H⟩:=H
     replace H:(if aF4=true then((aeT.f k1 l0 aeX).bind fun av5=>(if av5=true then(aeF.l0 k1 l0 a1 aeX true (wrap64 (XU+1)))else(aeF.l0 k1 l0 a1 bC true (wrap64 (XU+1)))))else(aeF.l0 k1 l0 a1 bC true (wrap64 (XU+1))))=some r:=H
     have BU:=aA.mk wJ
     clear wJ
     by_cases c12:aF4=true
     ·subst c12
      replace H:((aeT.f k1 l0 aeX).bind fun av5=>(if av5=true then(aeF.l0 k1 l0 a1 aeX true (wrap64 (XU+1)))else(aeF.l0 k1 l0 a1 bC true (wrap64 (XU+1)))))=some r:=by rw[if_pos rfl]at H;exact H
      replace H:=Option.bind_eq_some_iff.mp H
      obtain⟨av5,XK,H⟩:=H
      replace H:(if av5=true then(aeF.l0 k1 l0 a1 aeX true (wrap64 (XU+1)))else(aeF.l0 k1 l0 a1 bC true (wrap64 (XU+1))))=some r:=H
      have A13:=aA.mk XK
      clear XK
      by_cases c14:av5=true
      ·subst c14
       replace H:(aeF.l0 k1 l0 a1 aeX true (wrap64 (XU+1)))=some r:=by rw[if_pos rfl]at H;exact H
       have H':=aA.mk H
       clear H
       go_wp2_with (first|((with_reducible refine gJ (f:=76) rfl ?_);refine cE 19 Tryd.func76 #[.int .i64 XU,.int .i64 a1] ?_;(with_reducible refine(oW.calls k1 XU a1 aeX _ A9.out).mono ?_);rintro e vY ⟨bEC,rfl,ho0,hb⟩;refine⟨_,rfl,?_⟩;have akE:=aA.mk (Kd.eF (Kd.fG ho0 (Kd.dY (R_ bP))) (dH (Bq HB)));replace bP:=aA.mk (Kd.gW (R_ bP) (Kd.fF ho0) hb);replace HB:=bs HB hb;(try clear hb);(try clear ho0);obtain⟨VL,VM,rfl⟩:=Kd.dA akE.out;obtain⟨bUN,bUO,rfl⟩:=Kd.dA bP.out)|(go_at_call 77;refine(adI.calls k1 _ _ aeX _ _ bC true _ (rC akE) ((Kd.dB akE.out).2.1) (rC bP) ((Kd.dB bP.out).2.1) BU.out).mono ?_;rintro e w' ⟨rfl,⟨nd,rfl⟩⟩)|(go_at_call 89;refine(aeT.calls k1 _ _ l0 _ _ aeX true _ (by repeat(first|exact(Kd.bJ HR0.out (Bq HB))|(with_reducible refine Kd.jZ ?_ _)|(with_reducible refine Kd.kD ?_ _)|(with_reducible refine Kd.kC ?_))) HC0.out (rC akE) ((Kd.dB akE.out).2.1) A13.out).mono ?_;rintro e w' ⟨rfl,⟨nd,rfl⟩⟩))
       go_roundg k1
       case measure=>have:=fV.out;omega
       case rel=>exact⟨(aeX),(true),(wrap64 (XU+1)),(by first|rfl|(simp;done)|(simp[*];done)),(by first|rfl|(simp;done)|(simp[*];done)),H',⟨by have:=fV.out;omega⟩,⟨Kd.bQ (R_ akE) (fun _ hk=>trivial)⟩,⟨Bq HB⟩⟩
      replace c14:=Bool.eq_false_iff.mpr c14
      subst c14
      replace H:(aeF.l0 k1 l0 a1 bC true (wrap64 (XU+1)))=some r:=by rw[if_neg (show ¬ (false=true) by decide)]at H;exact H
      have H':=aA.mk H
      clear H
      go_wp2_with (first|((with_reducible refine gJ (f:=76) rfl ?_);refine cE 19 Tryd.func76 #[.int .i64 XU,.int .i64 a1] ?_;(with_reducible refine(oW.calls k1 XU a1 aeX _ A9.out).mono ?_);rintro e BM ⟨bEC,rfl,ho0,hb⟩;refine⟨_,rfl,?_⟩;have akE:=aA.mk (Kd.eF (Kd.fG ho0 (Kd.dY (R_ bP))) (dH (Bq HB)));replace bP:=aA.mk (Kd.gW (R_ bP) (Kd.fF ho0) hb);replace HB:=bs HB hb;(try clear hb);(try clear ho0);obtain⟨bqT,bqU,rfl⟩:=Kd.dA akE.out;obtain⟨aEN,aEO,rfl⟩:=Kd.dA bP.out)|(go_at_call 77;refine(adI.calls k1 _ _ aeX _ _ bC true _ (rC akE) ((Kd.dB akE.out).2.1) (rC bP) ((Kd.dB bP.out).2.1) BU.out).mono ?_;rintro e w' ⟨rfl,⟨nd,rfl⟩⟩)|(go_at_call 89;refine(aeT.calls k1 _ _ l0 _ _ aeX false _ (by repeat(first|exact(Kd.bJ HR0.out (Bq HB))|(with_reducible refine Kd.jZ ?_ _)|(with_reducible refine Kd.kD ?_ _)|(with_reducible refine Kd.kC ?_))) HC0.out (rC akE) ((Kd.dB akE.out).2.1) A13.out).mono ?_;rintro e w' ⟨rfl,⟨nd,rfl⟩⟩))
      go_roundg k1
      case measure=>have:=fV.out;omega
      case rel=>exact⟨(bC),(true),(wrap64 (XU+1)),(by first|rfl|(simp;done)|(simp[*];done)),(by first|rfl|(simp;done)|(simp[*];done)),H',⟨by have:=fV.out;omega⟩,⟨Kd.bQ (R_ bP) (fun _ hk=>trivial)⟩,⟨Bq HB⟩⟩
     replace c12:=Bool.eq_false_iff.mpr c12
     subst c12
     replace H:(aeF.l0 k1 l0 a1 bC true (wrap64 (XU+1)))=some r:=by rw[if_neg (show ¬ (false=true) by decide)]at H;exact H
     have H':=aA.mk H
     clear H
     go_wp2_with (first|((with_reducible refine gJ (f:=76) rfl ?_);refine cE 19 Tryd.func76 #[.int .i64 XU,.int .i64 a1] ?_;(with_reducible refine(oW.calls k1 XU a1 aeX _ A9.out).mono ?_);rintro e BR ⟨bEC,rfl,ho0,hb⟩;refine⟨_,rfl,?_⟩;have akE:=aA.mk (Kd.eF (Kd.fG ho0 (Kd.dY (R_ bP))) (dH (Bq HB)));replace bP:=aA.mk (Kd.gW (R_ bP) (Kd.fF ho0) hb);replace HB:=bs HB hb;(try clear hb);(try clear ho0);obtain⟨bRF,bRG,rfl⟩:=Kd.dA akE.out;obtain⟨qG,qA,rfl⟩:=Kd.dA bP.out)|(go_at_call 77;refine(adI.calls k1 _ _ aeX _ _ bC false _ (rC akE) ((Kd.dB akE.out).2.1) (rC bP) ((Kd.dB bP.out).2.1) BU.out).mono ?_;rintro e w' ⟨rfl,⟨nd,rfl⟩⟩))
     go_roundg k1
     case measure=>have:=fV.out;omega
     case rel=>exact⟨(bC),(true),(wrap64 (XU+1)),(by first|rfl|(simp;done)|(simp[*];done)),(by first|rfl|(simp;done)|(simp[*];done)),H',⟨by have:=fV.out;omega⟩,⟨Kd.bQ (R_ bP) (fun _ hk=>trivial)⟩,⟨Bq HB⟩⟩
    replace c10:=Bool.eq_false_iff.mpr c10
    subst c10
    replace H:((aeT.f k1 l0 aeX).bind fun aF5=>(if aF5=true then(aeF.l0 k1 l0 a1 aeX true (wrap64 (XU+1)))else(aeF.l0 k1 l0 a1 bC false (wrap64 (XU+1)))))=some r:=by rw[if_neg (show ¬ (false=true) by decide)]at H;exact H
    replace H:=Option.bind_eq_some_iff.mp H
    obtain⟨aF5,bN0,H⟩:=H
    replace H:(if aF5=true then(aeF.l0 k1 l0 a1 aeX true (wrap64 (XU+1)))else(aeF.l0 k1 l0 a1 bC false (wrap64 (XU+1))))=some r:=H
    have A24:=aA.mk bN0
    clear bN0
    by_cases c25:aF5=true
    ·subst c25
     replace H:(aeF.l0 k1 l0 a1 aeX true (wrap64 (XU+1)))=some r:=by rw[if_pos rfl]at H;exact H
     have H':=aA.mk H
     clear H
     go_wp2_with (first|((with_reducible refine gJ (f:=76) rfl ?_);refine cE 19 Tryd.func76 #[.int .i64 XU,.int .i64 a1] ?_;(with_reducible refine(oW.calls k1 XU a1 aeX _ A9.out).mono ?_);rintro e xN ⟨bEC,rfl,ho0,hb⟩;refine⟨_,rfl,?_⟩;have akE:=aA.mk (Kd.eF (Kd.fG ho0 (Kd.dY (R_ bP))) (dH (Bq HB)));replace bP:=aA.mk (Kd.gW (R_ bP) (Kd.fF ho0) hb);replace HB:=bs HB hb;(try clear hb);(try clear ho0);obtain⟨br1,br2,rfl⟩:=Kd.dA akE.out)|(go_at_call 89;refine(aeT.calls k1 _ _ l0 _ _ aeX true _ (Kd.bJ HR0.out (Bq HB)) HC0.out (rC akE) ((Kd.dB akE.out).2.1) A24.out).mono ?_;rintro e w' ⟨rfl,⟨nd,rfl⟩⟩))
     go_roundg k1
     case measure=>have:=fV.out;omega
     case rel=>exact⟨(aeX),(true),(wrap64 (XU+1)),(by first|rfl|(simp;done)|(simp[*];done)),(by first|rfl|(simp;done)|(simp[*];done)),H',⟨by have:=fV.out;omega⟩,⟨Kd.bQ (R_ akE) (fun _ hk=>trivial)⟩,⟨Bq HB⟩⟩
    replace c25:=Bool.eq_false_iff.mpr c25
    subst c25
    replace H:(aeF.l0 k1 l0 a1 bC false (wrap64 (XU+1)))=some r:=by rw[if_neg (show ¬ (false=true) by decide)]at H;exact H
    have H':=aA.mk H
    clear H
    go_wp2_with (first|((with_reducible refine gJ (f:=76) rfl ?_);refine cE 19 Tryd.func76 #[.int .i64 XU,.int .i64 a1] ?_;(with_reducible refine(oW.calls k1 XU a1 aeX _ A9.out).mono ?_);rintro e BQ ⟨bEC,rfl,ho0,hb⟩;refine⟨_,rfl,?_⟩;have akE:=aA.mk (Kd.eF (Kd.fG ho0 (Kd.dY (R_ bP))) (dH (Bq HB)));replace bP:=aA.mk (Kd.gW (R_ bP) (Kd.fF ho0) hb);replace HB:=bs HB hb;(try clear hb);(try clear ho0);obtain⟨aXL,aXM,rfl⟩:=Kd.dA akE.out)|(go_at_call 89;refine(aeT.calls k1 _ _ l0 _ _ aeX false _ (Kd.bJ HR0.out (Bq HB)) HC0.out (rC akE) ((Kd.dB akE.out).2.1) A24.out).mono ?_;rintro e w' ⟨rfl,⟨nd,rfl⟩⟩))
    go_roundg k1
    case measure=>have:=fV.out;omega
    case rel=>exact⟨(bC),(false),(wrap64 (XU+1)),(by first|rfl|(simp;done)|(simp[*];done)),(by first|rfl|(simp;done)|(simp[*];done)),H',⟨by have:=fV.out;omega⟩,⟨Kd.bQ (R_ bP) (fun _ hk=>trivial)⟩,⟨Bq HB⟩⟩
   rw[if_neg c8]at H
   have aDL:decide (XU<(ji7))=false:=decide_eq_false c8
   clear c8
   obtain rfl:=Option.some.inj H
   go_wp2
   go_ret
   exact⟨_,by first|rfl|(simp[iU,iV]<;>rfl)|(simp only[<-bJ2,<-bBT];first|rfl|(simp[iU,iV]<;>rfl))|(simp[*,iU,iV]<;>rfl),R_ bP,Bq HB⟩
  rw[if_neg c6]at H
  exact absurd H (by simp)
end Go.Proofs.YtcmfnebcmmklkaaDoor.Q

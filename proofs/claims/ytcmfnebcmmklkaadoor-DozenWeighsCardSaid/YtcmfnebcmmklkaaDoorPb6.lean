/- DozenWeighs: the law returns true for every input; each argument reads behind the call as it read before (for worlds in which the two tables of the library hold what its initialisers lay). Part 6 of 6. -/
import Derived.Test.YtcmfnebcmmklkaaDoorPb5
import Derived.Test.YtcmfnebcmmklkaaDoorM3
import Derived.Test.YtcmfnebcmmklkaaDoorM15
import Derived.Test.YtcmfnebcmmklkaaDoorPb1
import Derived.Test.YtcmfnebcmmklkaaDoorCards
import Derived.Test.YtcmfnebcmmklkaaDoorTie
set_option linter.unusedVariables false
set_option linter.unusedSimpArgs false
set_option maxRecDepth 100000
set_option maxHeartbeats 8000000
namespace Go.Proofs.YtcmfnebcmmklkaaDoor.Q
open Go.RowKit Go.Proofs.YtcmfnebcmmklkaaDoorW.dQ Go.Proofs.YtcmfnebcmmklkaaDoorW.oU Go.Proofs.YtcmfnebcmmklkaaDoorW.gG
attribute [local go_sem] uA uB uC uD uM uN uO uP
theorem bZW.calls (k:Nat) (bV:Int) (bU:Int) (iL:Int) (iO:Int) (kV:Int) (lW:Int) (rW:Int) (A1:Option Addr) (c1:Nat) (l1:List (gQ)) (a2:Int) (r:List Int) (w:World) (hr1:Kd.C vC w A1 l1.length l1) (hc1:l1.length<=c1) (h:bZW.f k bV bU iL iO kV lW rW l1 a2=some r):
    Calls Tryd.prog 47 #[.agg #[.int .i64 bV,.int .i64 bU,.int .i64 iL,.int .i64 iO,.int .i64 kV,.int .i64 lW,.int .i64 rW],.slice A1 l1.length c1,.int .i64 a2] w fun e w'=>∃ iG:Value,e=.returned (iG)/\Kd.R (Kd.int .i64) 3 w' w.heap.size (fun _=>True) iG r/\Below w.heap.size w w':=by
 have aPM:=Tryd.underlying53
 have HR1:=aA.mk hr1
 have HC1:=aA.mk hc1
 clear hr1 hc1
 have HB:=aA.mk (Below.refl w.heap.size w)
 have H:(if 0<=(IntKind.u64.wrap ((l1.length:Int)))then(bZW.l0 k l1 a2 (([]:List Int)) false (wrap64 ((shl .i64 1 (IntKind.u64.wrap ((l1.length:Int)))) - 1)) 0 bV bU iL iO kV lW rW)else(none))=some r:=h
 clear h
 obtain⟨bEI,bB9⟩:∃ y_:List Int,y_=(([]:List Int)):=⟨_,rfl⟩
 replace H:(if 0<=(IntKind.u64.wrap ((l1.length:Int)))then(bZW.l0 k l1 a2 bEI false (wrap64 ((shl .i64 1 (IntKind.u64.wrap ((l1.length:Int)))) - 1)) 0 bV bU iL iO kV lW rW)else(none))=some r:=by first|(rw[bB9];with_reducible exact H)|(have dJ:=(Option.bind_some _ _).symm.trans H;rw[bB9];with_reducible exact dJ)|(have dJ:=(Option.bind_some _ _).symm.trans H;with_reducible exact dJ)|with_reducible exact H|(rw[bB9];exact H)|exact H
 have bPE:=aA.mk bB9
 clear bB9
 obtain⟨VD,VE⟩:∃ j_:Int,(IntKind.u64.wrap ((l1.length:Int)))=j_:=⟨_,rfl⟩
 replace H:(if 0<=(VD)then(bZW.l0 k l1 a2 bEI false (wrap64 ((shl .i64 1 (VD)) - 1)) 0 bV bU iL iO kV lW rW)else(none))=some r:=by first|(rw[VE]at H;exact H)|(simp only[VE]at H ⊢;exact H)
 by_cases c5:0<=(VD)
 ·rw[if_pos c5]at H
  have ad8:=eq_true c5
  have bgO:decide (0<=(VD))=true:=decide_eq_true c5
  clear c5
  obtain⟨TF,aBD⟩:∃ j_:Int,(shl .i64 1 (VD))=j_:=⟨_,rfl⟩
  replace H:(bZW.l0 k l1 a2 bEI false (wrap64 ((TF) - 1)) 0 bV bU iL iO kV lW rW)=some r:=by first|(rw[aBD]at H;exact H)|(simp only[aBD]at H ⊢;exact H)
  have bD4:(IntKind.i64.wrap (1*2^min (VD).toNat 64))=TF:=aBD
  have bPF:(VD)<=64->(IntKind.i64.wrap (1*2^(VD).toNat))=TF:=aTM aBD
  have hji6u:(IntKind.i64.wrap (2^min (VD).toNat 64))=TF:=by have h_:=bD4;rw[Int.one_mul]at h_;exact h_
  have hji6v:(VD)<=64->(IntKind.i64.wrap (2^(VD).toNat))=TF:=fun aN4=>by have h_:=bPF aN4;rw[Int.one_mul]at h_;exact h_
  have hji6y:(wrap64 (1*2^min (VD).toNat 64))=TF:=(wQ _).symm.trans bD4
  have hji6x:(VD)<=64->(wrap64 (1*2^(VD).toNat))=TF:=fun h_=>(wQ _).symm.trans (bPF h_)
  have H':=aA.mk H
  clear H
  go_enter Tryd.func47,Tryd.ntmps47
  go_wp2_with (first|((with_reducible refine dU (N:=3) rfl ?_);refine a9U ?hg (N:=3) ?hd (cs:=#[.int .i64 bV,.int .i64 bU,.int .i64 iL,.int .i64 iO,.int .i64 kV,.int .i64 lW,.int .i64 rW]) (t:=53) ?hr ?_;(case hd=>rfl);(case hg=>rfl);(case hr=>first|(go_simp;done)|(go_simp;rfl));intro akA hg w7 hbox hb;have aV:=aA.mk (a9T (B_ HB) hb);have aW:=aA.mk (hbox);have aY:=aA.mk ((by rw[hg];exact(dH (B_ HB)):w.heap.size<=akA));have bI:=aA.mk ((by rw[hg];exact(dH (B_ HB)):w.heap.size<=akA));clear HB;have HB:=aV;have aeY:=aW;have GW283:=aY;have avA:=bI;clear aV aW aY bI;clear hb hbox hg)|((with_reducible refine dU (N:=14) rfl ?_);refine Kd.YX (Kd.int .i64) _ 3 ?hg (N:=14) ?hd (xs:=([]:List Int)) (inner:=[]) (ok:=fun _=>True) (lS:=fun _=>True) ?hr ?hp (fun _ hk=>hk) trivial (Below.refl _ _) (Nat.le_refl _) (by simp) ?_;(case hd=>rfl);(case hg=>rfl);(case hr=>first|(go_simp;done)|(go_simp;rfl));(case hp=>exact(gX.none _ _));intro v285 w8 ho9 hb mF mG;clear mF mG;(first|rw[<-bPE.out]at ho9|(simp only[Int.reduceToNat]at ho9;rw[<-bPE.out]at ho9));have aV:=aA.mk (Kd.eF ho9 (dH (by repeat(first|(with_reducible first|exact HB.out|apply PW|apply YV|apply sW|refine aCM ?_ avA.out)|exact HB.out))));have aW:=aA.mk (fC (g:=akA) (o:=.cells #[.int .i64 bV,.int .i64 bU,.int .i64 iL,.int .i64 iO,.int .i64 kV,.int .i64 lW,.int .i64 rW] 53 (0,0)) (b_ aeY) hb);have aY:=aA.mk (a9T (by repeat(first|(with_reducible first|exact HB.out|apply PW|apply YV|apply sW|refine aCM ?_ avA.out)|exact HB.out)) hb);clear aeY;clear HB;have bZI:=aV;have aeY:=aW;have HB:=aY;clear aV aW aY;clear hb ho9))
  go_loopg [7,8,10] k (fun kq v7 v8 v10 w'=>∃ (XU:List Int) (uY:Bool) (CP:Int),v8=.bool uY/\v10=.int .i64 CP/\aA (bZW.l0 kq l1 a2 XU uY (wrap64 ((TF) - 1)) CP bV bU iL iO kV lW rW=some r)/\aA (kq<=k)/\aA (Kd.R (Kd.int .i64) 3 w' w.heap.size (fun _=>True) v7 XU)/\aA (w'.heap[akA]? =some (.cells #[.int .i64 bV,.int .i64 bU,.int .i64 iL,.int .i64 iO,.int .i64 kV,.int .i64 lW,.int .i64 rW] 53 (0,0)))/\aA (Below w.heap.size w w'))
  case atStart=>exact⟨(bEI),(false),(0),(by first|rfl|(simp;done)|(simp[*];done)),(by first|rfl|(simp;done)|(simp[*];done)),H',⟨Nat.le_refl _⟩,⟨R_ bZI⟩,⟨b_ aeY⟩,⟨by repeat(first|(with_reducible first|exact HB.out|apply PW|apply YV|apply sW|refine aCM ?_ avA.out)|exact HB.out)⟩⟩
  case round=>
   clear H'
   try clear c1
   try clear c5
   try clear ad8
   try clear bgO
   obtain⟨XU,uY,CP,rfl,rfl,HA,fV,mQ,aeY,HB⟩:=hrel
   rcases gk with _|k1
   ·exact absurd HA.out (by simp[bZW.l0])
   have H:=HA.out
   clear HA
   simp only[bZW.l0]at H
   by_cases c10:CP<=(wrap64 ((TF) - 1))
   ·rw[if_pos c10]at H
    have anN:decide (CP<=(wrap64 ((TF) - 1)))=true:=decide_eq_true c10
    clear c10
    replace H:=Option.bind_eq_some_iff.mp H
    obtain⟨aq7,wJ,H⟩:=H
    replace H:(if uY=true then((adI.f k1 aq7 XU).bind fun a0U=>(bZW.j1 k1 l1 a2 XU uY (wrap64 ((TF) - 1)) CP aq7 (!a0U) bV bU iL iO kV lW rW))else(bZW.j1 k1 l1 a2 XU uY (wrap64 ((TF) - 1)) CP aq7 false bV bU iL iO kV lW rW))=some r:=H
    have BU:=aA.mk wJ
    clear wJ
    have bK1:=aA.mk H
    clear H
    go_upto_region 6 with(first|((with_reducible refine gJ (f:=76) rfl ?_);refine baF (some 28) rfl rfl Tryd.func76 (by kernel_rfl) rfl #[.int .i64 CP,.int .i64 (l1.length:Int)] rfl (by(try simp only[List.map_toArray,List.map_cons,List.map_nil]);first|done|rfl|(simp only[List.length_drop,List.length_take];rfl)) ?_;(with_reducible refine(oW.calls k1 CP (l1.length:Int) aq7 _ BU.out).mono ?_);rintro e tV ⟨bEJ,rfl,ho0,hb⟩;refine⟨_,rfl,?_⟩;have aV:=aA.mk (Kd.gW (R_ mQ) (Kd.fF ho0) hb);have aW:=aA.mk (Kd.eF (Kd.fG ho0 (Kd.dY (R_ mQ))) (dH (by repeat(first|(with_reducible first|exact HB.out|apply PW|apply YV|apply sW|refine aCM ?_ avA.out)|exact HB.out))));have aY:=aA.mk (fC (g:=akA) (o:=.cells #[.int .i64 bV,.int .i64 bU,.int .i64 iL,.int .i64 iO,.int .i64 kV,.int .i64 lW,.int .i64 rW] 53 (0,0)) (b_ aeY) hb);have bI:=aA.mk (a9T (by repeat(first|(with_reducible first|exact HB.out|apply PW|apply YV|apply sW|refine aCM ?_ avA.out)|exact HB.out)) hb);clear mQ;clear aeY;clear HB;have mQ:=aV;have bnI:=aW;have aeY:=aY;have HB:=bI;clear aV aW aY bI;(try clear hb);(try clear hb2);(try clear hk);(try clear hi);(try clear ho0)))
    (try simp only[Act.put,List.setIfInBounds_toArray,List.set_cons_zero,List.set_cons_succ])
    go_cut [35] (fun v35 wc=>∃ (kq:Nat) (bEK:Bool),v35=.bool bEK/\aA (bZW.j1 kq l1 a2 XU uY (wrap64 ((TF) - 1)) CP aq7 bEK bV bU iL iO kV lW rW=some r)/\aA (kq<=k1)/\aA (Kd.R (Kd.int .i64) 3 wc w.heap.size (fun k_=>some k_≠(bEJ:Value).ownBlock) u7 XU)/\aA (Kd.R (Kd.int .i64) 3 wc w.heap.size (fun k_=>some k_≠(u7:Value).ownBlock) bEJ aq7)/\aA (wc.heap[akA]? =some (.cells #[.int .i64 bV,.int .i64 bU,.int .i64 iL,.int .i64 iO,.int .i64 kV,.int .i64 lW,.int .i64 rW] 53 (0,0)))/\aA (Below w.heap.size w wc))
    case first=>
     have H:=bK1.out
     clear bK1
     by_cases c14:uY=true
     ·subst c14
      have H1:((adI.f k1 aq7 XU).bind fun a0U=>(bZW.j1 k1 l1 a2 XU true (wrap64 ((TF) - 1)) CP aq7 (!a0U) bV bU iL iO kV lW rW))=some r:=by rw[if_pos rfl]at H;exact H
      clear H
      have H:=H1
      clear H1
      replace H:=Option.bind_eq_some_iff.mp H
      obtain⟨a0U,ahH,H⟩:=H
      replace H:(bZW.j1 k1 l1 a2 XU true (wrap64 ((TF) - 1)) CP aq7 (!a0U) bV bU iL iO kV lW rW)=some r:=H
      have A15:=aA.mk ahH
      clear ahH
      have H':=aA.mk H
      clear H
      obtain⟨VL,VM,YH⟩:=Kd.dA bnI.out
      subst YH
      obtain⟨bUN,bUO,bZJ⟩:=Kd.dA mQ.out
      subst bZJ
      go_wp2_with (first|(go_at_call 77;(with_reducible refine(adI.calls k1 _ _ aq7 _ _ XU a0U _ ?jK ?jL ?jM ?jO A15.out).mono ?_);(case jK=>repeat(first|exact(Kd.dB bnI.out).2.2|(with_reducible refine Kd.jZ ?_ _)|(with_reducible refine Kd.kD ?_ _)|(with_reducible refine Kd.kC ?_)));(case jL=>exact(Kd.dB bnI.out).2.1);(case jM=>repeat(first|exact(Kd.dB mQ.out).2.2|(with_reducible refine Kd.jZ ?_ _)|(with_reducible refine Kd.kD ?_ _)|(with_reducible refine Kd.kC ?_)));(case jO=>exact(Kd.dB mQ.out).2.1);rintro e w' ⟨rfl,⟨nd,rfl⟩⟩))
      go_meet
      case rel=>exact⟨_,(!a0U),(by first|rfl|(simp;done)|(simp[*];done)),H',⟨by have:=fV.out;first|omega|exact Nat.le_refl _⟩,⟨Kd.bQ (R_ mQ) (fun _ hk=>hk.2)⟩,⟨Kd.bQ (R_ bnI) (fun _ hk=>hk.2)⟩,⟨b_ aeY⟩,⟨by repeat(first|(with_reducible first|exact HB.out|apply PW|apply YV|apply sW|refine aCM ?_ avA.out)|exact HB.out)⟩⟩
     replace c14:=Bool.eq_false_iff.mpr c14
     subst c14
     have H1:(bZW.j1 k1 l1 a2 XU false (wrap64 ((TF) - 1)) CP aq7 false bV bU iL iO kV lW rW)=some r:=by rw[if_neg (show ¬ (false=true) by decide)]at H;exact H
     clear H
     have H:=H1
     clear H1
     have H':=aA.mk H
     clear H
     go_wp2
     go_meet
     case rel=>exact⟨_,(false),(by first|rfl|(simp;done)|(simp[*];done)),H',⟨by have:=fV.out;first|omega|exact Nat.le_refl _⟩,⟨Kd.bQ (R_ mQ) (fun _ hk=>hk.2)⟩,⟨Kd.bQ (R_ bnI) (fun _ hk=>hk.2)⟩,⟨b_ aeY⟩,⟨by repeat(first|(with_reducible first|exact HB.out|apply PW|apply YV|apply sW|refine aCM ?_ avA.out)|exact HB.out)⟩⟩
    case rest=>
     clear bK1
     try clear c10
     try clear anN
     obtain⟨kq,bEK,rfl,HA,bxT,mQ,fH,aeY,HB⟩:=hcut
     rcases kq with _|aPB
     ·exact absurd HA.out (by simp[bZW.j1])
     have H:=HA.out
     clear HA
     simp only[bZW.j1]at H
     by_cases c18:bEK=true
     ·subst c18
      have H1:(bZW.l0 aPB l1 a2 XU uY (wrap64 ((TF) - 1)) (wrap64 (CP+1)) bV bU iL iO kV lW rW)=some r:=by rw[if_pos rfl]at H;exact H
      clear H
      have H:=H1
      clear H1
      have H':=aA.mk H
      clear H
      go_wp2
      go_roundg aPB
      case measure=>have:=fV.out;have:=bxT.out;omega
      case rel=>exact⟨(XU),(uY),(wrap64 (CP+1)),(by first|rfl|(simp;done)|(simp[*];done)),(by first|rfl|(simp;done)|(simp[*];done)),H',⟨by have:=fV.out;have:=bxT.out;omega⟩,⟨Kd.bQ (R_ mQ) (fun _ hk=>trivial)⟩,⟨b_ aeY⟩,⟨by repeat(first|(with_reducible first|exact HB.out|apply PW|apply YV|apply sW|refine aCM ?_ avA.out)|exact HB.out)⟩⟩
     replace c18:=Bool.eq_false_iff.mpr c18
     subst c18
     have H1:((abB.f aPB bV bU iL iO kV lW rW l1 a2 (wrap64 ((wrap64 ((TF) - 1)) - CP))).bind fun bKP=>(if(bKP.1.length:Int)>0 then(bZW.l0 aPB l1 a2 aq7 true (wrap64 ((TF) - 1)) (wrap64 (CP+1)) bV bU iL iO kV lW rW)else(bZW.l0 aPB l1 a2 XU uY (wrap64 ((TF) - 1)) (wrap64 (CP+1)) bV bU iL iO kV lW rW)))=some r:=by rw[if_neg (show ¬ (false=true) by decide)]at H;exact H
     clear H
     have H:=H1
     clear H1
     replace H:=Option.bind_eq_some_iff.mp H
     obtain⟨⟨a3O,bPG⟩,aWF,H⟩:=H
     replace H:(if(a3O.length:Int)>0 then(bZW.l0 aPB l1 a2 aq7 true (wrap64 ((TF) - 1)) (wrap64 (CP+1)) bV bU iL iO kV lW rW)else(bZW.l0 aPB l1 a2 XU uY (wrap64 ((TF) - 1)) (wrap64 (CP+1)) bV bU iL iO kV lW rW))=some r:=H
     have A19:=aA.mk aWF
     clear aWF
     by_cases c20:(a3O.length:Int)>0
     ·rw[if_pos c20]at H
      have arX:decide (0<(a3O.length:Int))=true:=decide_eq_true c20
      have bnV:decide (0<a3O.length)=true:=decide_eq_true (by omega)
      clear c20
      have H':=aA.mk H
      clear H
      have bcC:wc.cell? ⟨akA,0,none⟩=some (.int .i64 bV):=(MC aeY.out 0).trans rfl
      have bcD:wc.cell? ⟨akA,1,none⟩=some (.int .i64 bU):=(MC aeY.out 1).trans rfl
      have bcE:wc.cell? ⟨akA,2,none⟩=some (.int .i64 iL):=(MC aeY.out 2).trans rfl
      have bcF:wc.cell? ⟨akA,3,none⟩=some (.int .i64 iO):=(MC aeY.out 3).trans rfl
      have bOI:wc.cell? ⟨akA,4,none⟩=some (.int .i64 kV):=(MC aeY.out 4).trans rfl
      have bOJ:wc.cell? ⟨akA,5,none⟩=some (.int .i64 lW):=(MC aeY.out 5).trans rfl
      have bOK:wc.cell? ⟨akA,6,none⟩=some (.int .i64 rW):=(MC aeY.out 6).trans rfl
      have bcG:=aX aeY.out 0
      have bcH:=aX aeY.out 1
      have bcI:=aX aeY.out 2
      have bcJ:=aX aeY.out 3
      have bOL:=aX aeY.out 4
      have bOM:=aX aeY.out 5
      have bON:=aX aeY.out 6
      go_wp2_with (first|((with_reducible refine gJ (f:=40) rfl ?_);refine baF (some 43) rfl rfl Tryd.func40 (by kernel_rfl) rfl #[.agg #[.int .i64 bV,.int .i64 bU,.int .i64 iL,.int .i64 iO,.int .i64 kV,.int .i64 lW,.int .i64 rW],.slice A1 l1.length c1,.int .i64 a2,.int .i64 (wrap64 ((wrap64 ((TF) - 1)) - CP))] rfl (by(try simp only[List.map_toArray,List.map_cons,List.map_nil]);first|done|(simp only[aBD];rfl)|rfl|(simp only[List.length_drop,List.length_take];rfl)) ?_;(with_reducible refine(abB.calls aPB bV bU iL iO kV lW rW _ _ l1 a2 (wrap64 ((wrap64 ((TF) - 1)) - CP)) a3O bPG _ ?jK ?jL A19.out).mono ?_);(case jK=>repeat(first|exact(Kd.bJ HR1.out HB.out)|(with_reducible refine Kd.jZ ?_ _)|(with_reducible refine Kd.kD ?_ _)|(with_reducible refine Kd.kC ?_)));(case jL=>exact HC1.out);rintro e AU ⟨bZK,bK2,rfl,ho0,ho1,hb⟩;refine⟨_,rfl,?_⟩;have aV:=aA.mk (Kd.rY (R_ mQ) hb);have aW:=aA.mk (Kd.rY (R_ fH) hb);have aY:=aA.mk (Kd.apI (Kd.ac8 (ok':=fun k_=>some k_≠(bK2:Value).ownBlock/\some k_≠(u7:Value).ownBlock/\some k_≠(bEJ:Value).ownBlock/\k_≠akA) ho0 (fun k_ hk_=>⟨hk_.2,(Kd.fresh' (Kd.dY (R_ mQ)) k_ hk_.1),(Kd.fresh' (Kd.dY (R_ fH)) k_ hk_.1),(Kd.aIM (g:=akA) (o:=.cells #[.int .i64 bV,.int .i64 bU,.int .i64 iL,.int .i64 iO,.int .i64 kV,.int .i64 lW,.int .i64 rW] 53 (0,0)) (b_ aeY) k_ hk_.1)⟩)) (dH (by repeat(first|(with_reducible first|exact HB.out|apply PW|apply YV|apply sW|refine aCM ?_ avA.out)|exact HB.out))));have bI:=aA.mk (Kd.eF (Kd.bQ (ok':=fun k_=>True) ho1 (fun _ hk_=>trivial)) (dH (by repeat(first|(with_reducible first|exact HB.out|apply PW|apply YV|apply sW|refine aCM ?_ avA.out)|exact HB.out))));have cO:=aA.mk (fC (g:=akA) (o:=.cells #[.int .i64 bV,.int .i64 bU,.int .i64 iL,.int .i64 iO,.int .i64 kV,.int .i64 lW,.int .i64 rW] 53 (0,0)) (b_ aeY) hb);have gY:=aA.mk (a9T (by repeat(first|(with_reducible first|exact HB.out|apply PW|apply YV|apply sW|refine aCM ?_ avA.out)|exact HB.out)) hb);clear mQ;clear fH;clear aeY;clear HB;have mQ:=aV;have fH:=aW;have bK3:=aY;have bZL:=bI;have aeY:=cO;have HB:=gY;clear aV aW aY bI cO gY;(try clear hb);(try clear hb2);(try clear hk);(try clear hi);(try clear ho0);(try clear ho1);obtain⟨qG,qA,bZM⟩:=Kd.aj3 bK3.out;subst bZM))
      go_roundg aPB
      case measure=>have:=fV.out;have:=bxT.out;omega
      case rel=>exact⟨(aq7),(true),(wrap64 (CP+1)),(by first|rfl|(simp;done)|(simp[*];done)),(by first|rfl|(simp;done)|(simp[*];done)),H',⟨by have:=fV.out;have:=bxT.out;omega⟩,⟨Kd.bQ (R_ fH) (fun _ hk=>trivial)⟩,⟨b_ aeY⟩,⟨by repeat(first|(with_reducible first|exact HB.out|apply PW|apply YV|apply sW|refine aCM ?_ avA.out)|exact HB.out)⟩⟩
     rw[if_neg c20]at H
     have arX:decide (0<(a3O.length:Int))=false:=decide_eq_false c20
     have bnV:decide (0<a3O.length)=false:=decide_eq_false (by omega)
     clear c20
     have H':=aA.mk H
     clear H
     have bgT:wc.cell? ⟨akA,0,none⟩=some (.int .i64 bV):=(MC aeY.out 0).trans rfl
     have bgU:wc.cell? ⟨akA,1,none⟩=some (.int .i64 bU):=(MC aeY.out 1).trans rfl
     have bD6:wc.cell? ⟨akA,2,none⟩=some (.int .i64 iL):=(MC aeY.out 2).trans rfl
     have bN2:wc.cell? ⟨akA,3,none⟩=some (.int .i64 iO):=(MC aeY.out 3).trans rfl
     have bN3:wc.cell? ⟨akA,4,none⟩=some (.int .i64 kV):=(MC aeY.out 4).trans rfl
     have bN4:wc.cell? ⟨akA,5,none⟩=some (.int .i64 lW):=(MC aeY.out 5).trans rfl
     have bN5:wc.cell? ⟨akA,6,none⟩=some (.int .i64 rW):=(MC aeY.out 6).trans rfl
     have bgV:=aX aeY.out 0
     have bgW:=aX aeY.out 1
     have bD7:=aX aeY.out 2
     have bN6:=aX aeY.out 3
     have bN7:=aX aeY.out 4
     have bN8:=aX aeY.out 5
     have bN9:=aX aeY.out 6
     go_wp2_with (first|((with_reducible refine gJ (f:=40) rfl ?_);refine baF (some 43) rfl rfl Tryd.func40 (by kernel_rfl) rfl #[.agg #[.int .i64 bV,.int .i64 bU,.int .i64 iL,.int .i64 iO,.int .i64 kV,.int .i64 lW,.int .i64 rW],.slice A1 l1.length c1,.int .i64 a2,.int .i64 (wrap64 ((wrap64 ((TF) - 1)) - CP))] rfl (by(try simp only[List.map_toArray,List.map_cons,List.map_nil]);first|done|(simp only[aBD];rfl)|rfl|(simp only[List.length_drop,List.length_take];rfl)) ?_;(with_reducible refine(abB.calls aPB bV bU iL iO kV lW rW _ _ l1 a2 (wrap64 ((wrap64 ((TF) - 1)) - CP)) a3O bPG _ ?jK ?jL A19.out).mono ?_);(case jK=>repeat(first|exact(Kd.bJ HR1.out HB.out)|(with_reducible refine Kd.jZ ?_ _)|(with_reducible refine Kd.kD ?_ _)|(with_reducible refine Kd.kC ?_)));(case jL=>exact HC1.out);rintro e AV ⟨bZK,bK2,rfl,ho0,ho1,hb⟩;refine⟨_,rfl,?_⟩;have aV:=aA.mk (Kd.rY (R_ mQ) hb);have aW:=aA.mk (Kd.rY (R_ fH) hb);have aY:=aA.mk (Kd.apI (Kd.ac8 (ok':=fun k_=>some k_≠(bK2:Value).ownBlock/\some k_≠(u7:Value).ownBlock/\some k_≠(bEJ:Value).ownBlock/\k_≠akA) ho0 (fun k_ hk_=>⟨hk_.2,(Kd.fresh' (Kd.dY (R_ mQ)) k_ hk_.1),(Kd.fresh' (Kd.dY (R_ fH)) k_ hk_.1),(Kd.aIM (g:=akA) (o:=.cells #[.int .i64 bV,.int .i64 bU,.int .i64 iL,.int .i64 iO,.int .i64 kV,.int .i64 lW,.int .i64 rW] 53 (0,0)) (b_ aeY) k_ hk_.1)⟩)) (dH (by repeat(first|(with_reducible first|exact HB.out|apply PW|apply YV|apply sW|refine aCM ?_ avA.out)|exact HB.out))));have bI:=aA.mk (Kd.eF (Kd.bQ (ok':=fun k_=>True) ho1 (fun _ hk_=>trivial)) (dH (by repeat(first|(with_reducible first|exact HB.out|apply PW|apply YV|apply sW|refine aCM ?_ avA.out)|exact HB.out))));have cO:=aA.mk (fC (g:=akA) (o:=.cells #[.int .i64 bV,.int .i64 bU,.int .i64 iL,.int .i64 iO,.int .i64 kV,.int .i64 lW,.int .i64 rW] 53 (0,0)) (b_ aeY) hb);have gY:=aA.mk (a9T (by repeat(first|(with_reducible first|exact HB.out|apply PW|apply YV|apply sW|refine aCM ?_ avA.out)|exact HB.out)) hb);clear mQ;clear fH;clear aeY;clear HB;have mQ:=aV;have fH:=aW;have bK3:=aY;have bZL:=bI;have aeY:=cO;have HB:=gY;clear aV aW aY bI cO gY;(try clear hb);(try clear hb2);(try clear hk);(try clear hi);(try clear ho0);(try clear ho1);obtain⟨WM,VA,bZN⟩:=Kd.aj3 bK3.out;subst bZN))
     go_roundg aPB
     case measure=>have:=fV.out;have:=bxT.out;omega
     case rel=>exact⟨(XU),(uY),(wrap64 (CP+1)),(by first|rfl|(simp;done)|(simp[*];done)),(by first|rfl|(simp;done)|(simp[*];done)),H',⟨by have:=fV.out;have:=bxT.out;omega⟩,⟨Kd.bQ (R_ mQ) (fun _ hk=>trivial)⟩,⟨b_ aeY⟩,⟨by repeat(first|(with_reducible first|exact HB.out|apply PW|apply YV|apply sW|refine aCM ?_ avA.out)|exact HB.out)⟩⟩
   rw[if_neg c10]at H
   have anN:decide (CP<=(wrap64 ((TF) - 1)))=false:=decide_eq_false c10
   clear c10
   obtain rfl:=Option.some.inj H
   go_wp2
   go_ret
   exact⟨_,by first|rfl|(simp[iU,iV]<;>rfl)|(simp only[<-VE,<-aBD];first|rfl|(simp[iU,iV]<;>rfl))|(simp[*,iU,iV]<;>rfl),R_ mQ,by repeat(first|(with_reducible first|exact HB.out|apply PW|apply YV|apply sW|refine aCM ?_ avA.out)|exact HB.out)⟩
 rw[if_neg c5]at H
 exact absurd H (by simp)
end Go.Proofs.YtcmfnebcmmklkaaDoor.Q
namespace Go.Proofs.YtcmfnebcmmklkaaDoor.Hand
open Go.RowKit Go.Shelf Go.Proofs.YtcmfnebcmmklkaaDoorW.dQ Go.Proofs.YtcmfnebcmmklkaaDoorW.gG Go.Proofs.YtcmfnebcmmklkaaDoor.Q
attribute [local go_sem] Oper.semAt_some run_store_func
attribute [local go_sem high] aIZ
def ruC (R:pU):Array Value:=#[.int .i64 R.l.f0,.int .i64 R.l.f1,.int .i64 R.r.f0,.int .i64 R.r.f1,.int .i64 R.t.f0,.int .i64 R.t.f1,.int .i64 R.off]
structure bZX (w:World) (R:pU) (cs:List gQ) (A A7:Option Addr) (b:Nat) (s:aH×aH×aH) (Am:Option Addr) (ml:List Int) (W:World):Prop where
 box:Box W w.heap.size (ruC R) 53
 tri:CE W b s
 own:Kd.C vC W A7 cs.length cs
 arg:Kd.C vC W A cs.length cs
 mis:Kd.C (Kd.int .i64) W Am ml.length ml
 tab:lZ W
 bel:Below w.heap.size w W
theorem bZX.step {w:World} {R:pU} {cs:List gQ} {A A7:Option Addr} {b:Nat} {s:aH×aH×aH} {Am:Option Addr} {ml:List Int} {W W':World} (h:bZX w R cs A A7 b s Am ml W) (hb:Below W.heap.size W W'):bZX w R cs A A7 b s Am ml W':=
 ⟨h.box.step hb,h.tri.step hb,Kd.bJ h.own hb,Kd.bJ h.arg hb,Kd.bJ h.mis hb,h.tab.below hb,h.bel.trans (hb.mono h.bel.size)⟩
structure bK4 (w:World) (R:pU) (b:Nat) (s:aH×aH×aH) (W:World):Prop where
 c0:W.cell? ⟨w.heap.size,0,none⟩=some (.int .i64 R.l.f0)
 c1:W.cell? ⟨w.heap.size,1,none⟩=some (.int .i64 R.l.f1)
 c2:W.cell? ⟨w.heap.size,2,none⟩=some (.int .i64 R.r.f0)
 c3:W.cell? ⟨w.heap.size,3,none⟩=some (.int .i64 R.r.f1)
 c4:W.cell? ⟨w.heap.size,4,none⟩=some (.int .i64 R.t.f0)
 c5:W.cell? ⟨w.heap.size,5,none⟩=some (.int .i64 R.t.f1)
 c6:W.cell? ⟨w.heap.size,6,none⟩=some (.int .i64 R.off)
 t0:W.cell? ⟨b,0,none⟩=some (.int .i64 s.1.f0)
 t1:W.cell? ⟨b,1,none⟩=some (.int .i64 s.1.f1)
 t2:W.cell? ⟨b+1,0,none⟩=some (.int .i64 s.2.1.f0)
 t3:W.cell? ⟨b+1,1,none⟩=some (.int .i64 s.2.1.f1)
 t4:W.cell? ⟨b+1+1,0,none⟩=some (.int .i64 s.2.2.f0)
 t5:W.cell? ⟨b+1+1,1,none⟩=some (.int .i64 s.2.2.f1)
theorem bZX.reg {w:World} {R:pU} {cs:List gQ} {A A7:Option Addr} {b:Nat} {s:aH×aH×aH} {Am:Option Addr} {ml:List Int} {W:World} (h:bZX w R cs A A7 b s Am ml W):bK4 w R b s W:=
 ⟨h.box.cell 0 rfl,h.box.cell 1 rfl,h.box.cell 2 rfl,h.box.cell 3 rfl,h.box.cell 4 rfl,h.box.cell 5 rfl,h.box.cell 6 rfl,h.tri.x1.cell 0 rfl,h.tri.x1.cell 1 rfl,h.tri.x2.cell 0 rfl,h.tri.x2.cell 1 rfl,h.tri.x3.cell 0 rfl,h.tri.x3.cell 1 rfl⟩
structure Ru7 (R:pU) (b:Nat) (W:World):Prop where
 q0:W.cell? ⟨b,0,none⟩=some (.int .i64 R.l.f0)
 q1:W.cell? ⟨b,1,none⟩=some (.int .i64 R.l.f1)
 q2:W.cell? ⟨b,2,none⟩=some (.int .i64 R.r.f0)
 q3:W.cell? ⟨b,3,none⟩=some (.int .i64 R.r.f1)
 q4:W.cell? ⟨b,4,none⟩=some (.int .i64 R.t.f0)
 q5:W.cell? ⟨b,5,none⟩=some (.int .i64 R.t.f1)
 q6:W.cell? ⟨b,6,none⟩=some (.int .i64 R.off)
theorem Ru7.of {R:pU} {b:Nat} {W:World} (h:Box W b (ruC R) 53):Ru7 R b W:=⟨h.cell 0 rfl,h.cell 1 rfl,h.cell 2 rfl,h.cell 3 rfl,h.cell 4 rfl,h.cell 5 rfl,h.cell 6 rfl⟩
theorem bEM (t:Array Value) (W:World) (v:Value) (h:t.getD 6 undef=v):(results Tryd.f7 t).run Tryd.prog W=.ok v W:=by
 simp only[Array.getD_eq_getD_getElem?]at h
 simp[results,Tryd.results7,go_sem,h]
theorem bZO (R:pU) (cs:List gQ) (most:Int) (A:Option Addr) (cp:Nat) (w:World) (hc:cs.length<=cp) (hr:Kd.C vC w A cs.length cs) (hT:lZ w)
  (hkn:Hid (∀ W,lZ W->Calls Tryd.prog 15 #[] W fun e W'=>e=.returned (.bool true)/\Below W.heap.size W W')):
  Calls Tryd.prog 7 #[aeI R,.slice A cs.length cp,.int .i64 most] w fun e w'=>e=.returned (.bool true)/\Below w.heap.size w w':=by
 obtain⟨Wa,hWa⟩:∃ Wa,w.alloc (.cells (ruC R) 53)=Wa:=⟨_,rfl⟩
 have hba:Below w.heap.size w Wa:=by rw[<-hWa];exact(Below.refl _ _).alloc (Nat.le_refl _) _
 have hbx:Box Wa w.heap.size (ruC R) 53:=by rw[<-hWa];exact Box.new _ _ _
 have hWd:Hid (w.alloc (.cells #[.int .i64 R.l.f0,.int .i64 R.l.f1,.int .i64 R.r.f0,.int .i64 R.r.f1,.int .i64 R.t.f0,.int .i64 R.t.f1,.int .i64 R.off] 53)=Wa):=Lib.hid hWa
 clear hWa
 refine(callsIn_wide (n:=0)).1 ?_
 refine callsIn_of_wp Tryd.func7 rfl trivial ?_
 simp only[Tryd.ntmps7,List.size_toArray,List.length_cons,List.length_nil,Nat.reduceAdd,Nat.reduceSub,Array.replicate_succ,Array.replicate_zero,List.push_toArray,List.append_toArray,List.nil_append,List.cons_append]
 by_cases hbig:12<cs.length
 ·have hd1:decide ((12:Int)<(cs.length:Int))=true:=decide_eq_true (by omega)
  gi_wp2_with fail
  rw[hWd.out]
  refine⟨trivial,rfl,?_⟩
  refine(callsIn_wide.2 (hkn.out _ (hT.below hba))).mono ?_
  rintro e w1 ⟨rfl,hb1⟩
  gi_wp2
  exact bodyPost_ret (bEM _ _ _ rfl) rfl ⟨rfl,hba.trans (hb1.mono hba.size)⟩
 ·have hd1:decide ((12:Int)<(cs.length:Int))=false:=decide_eq_false (by omega)
  have hown:=bED cs (by omega)
  gi_wp2_with fail
  rw[hWd.out]
  refine⟨trivial,rfl,?_⟩
  refine(callsIn_wide.2 (aAE.calls A cp cs cs _ (Kd.bJ hr hba) hc (bED cs (by omega)))).mono ?_
  rintro e w1 ⟨v7,rfl,hR7,hb1⟩
  obtain⟨A7,c7,rfl⟩:=Kd.dA hR7
  have SX:=(Kd.dB hR7).2.2
  have hc7:=(Kd.dB hR7).2.1
  have hB1:Below w.heap.size w w1:=hba.trans (hb1.mono hba.size)
  have hx1:=hbx.step hb1
  clear hR7 hb1 hbx hba hWd hown
  obtain⟨q0,q1,q2,q3,q4,q5,q6⟩:=Ru7.of hx1
  gi_wp2_with fail
  refine⟨trivial,rfl,?_⟩
  refine(callsIn_wide.2 (bpF R cs most A7 c7 w1 SX)).mono ?_
  rintro e w2 ⟨rfl,hb2⟩
  have hB2:Below w.heap.size w w2:=hB1.trans (hb2.mono hB1.size)
  have hx2:=hx1.step hb2
  have bPI:=Kd.bJ SX hb2
  clear q0 q1 q2 q3 q4 q5 q6 SX hx1 hb2
  have hlt:=hx2.lt
  obtain⟨s,hs⟩:∃ s,acT R cs most=s:=⟨_,rfl⟩
  rw[hs]
  obtain⟨W3,hW3⟩:∃ W3,((w2.alloc (.cells #[.int .i64 s.1.f0,.int .i64 s.1.f1] 42)).alloc (.cells #[.int .i64 s.2.1.f0,.int .i64 s.2.1.f1] 42)).alloc (.cells #[.int .i64 s.2.2.f0,.int .i64 s.2.2.f1] 42)=W3:=⟨_,rfl⟩
  have hb3:Below w2.heap.size w2 W3:=by rw[<-hW3];exact(((Below.refl _ _).alloc (Nat.le_refl _) _).alloc (by simp) _).alloc (by simp;omega) _
  have htr:CE W3 w2.heap.size s:=by
   rw[<-hW3]
   exact⟨((Box.new w2 _ _).alloc _).alloc _,(Box.new' _ _ _ (by simp)).alloc _,Box.new' _ _ _ (by simp)⟩
  have hx3:=hx2.step hb3
  have bK5:=Kd.bJ bPI hb3
  have hB3:Below w.heap.size w W3:=hB2.trans (hb3.mono hB2.size)
  obtain⟨q0,q1,q2,q3,q4,q5,q6⟩:=Ru7.of hx3
  rw[<-hW3]at q0 q1 q2 q3 q4 q5 q6
  have hWe:=Lib.hid hW3
  clear hW3 hb3 bPI hx2 hB2 hB1
  gi_wp2_with fail
  clear q0 q1 q2 q3 q4 q5 q6
  rw[hWe.out]
  refine⟨trivial,rfl,?_⟩
  have hT3:=hT.below hB3
  refine(callsIn_wide.2 (bmH R cs most A7 c7 W3 hT3 bK5)).mono ?_
  rintro e w4 ⟨v12,rfl,hM,hb4⟩
  have hS4:∃ Am cm,v12=.slice Am (arV R cs most).length cm/\(arV R cs most).length<=cm/\bZX w R cs A A7 w2.heap.size s Am (arV R cs most) w4:=by
   obtain⟨Am,cm,rfl⟩:=hM.slice
   have hr1:=Kd.dB (eH.R hM)
   have hB4:=hB3.trans (hb4.mono hB3.size)
   exact⟨Am,cm,rfl,hr1.2.1,hx3.step hb4,htr.step hb4,Kd.bJ bK5 hb4,Kd.bJ hr hB4,hr1.2.2,hT.below hB4,hB4⟩
  clear hM hb4 hx3 htr bK5 hB3 hT3 hWe
  obtain⟨Am,cm,rfl,hcm,hS⟩:=hS4
  gi_wp2_with fail
  refine⟨trivial,rfl,?_⟩
  refine(callsIn_wide.2 (aiS.calls 2000 A7 c7 cs A cp cs true w4 hS.own hc7 hS.arg hc (bKA cs (by omega) 2000 (by omega)))).mono ?_
  rintro e w5 ⟨rfl,hd5⟩
  replace hS:=hS.step (iI.below hd5)
  clear hd5
  obtain⟨q0,q1,q2,q3,q4,q5,q6⟩:=Ru7.of hS.box
  gi_wp2_with fail
  refine⟨trivial,rfl,?_⟩
  refine(callsIn_wide.2 (aaU.calls 9 R.l.f0 R.l.f1 R.r.f0 R.r.f1 R.t.f0 R.t.f1 R.off A cp cs most (BX R cs most) w5 hS.arg hc (bJ7 _ _ _ _ _ _ _ cs most 9 (Nat.le_refl _)))).mono ?_
  rintro e w6 ⟨rfl,hb6⟩
  replace hS:=hS.step hb6
  clear hb6 q0 q1 q2 q3 q4 q5 q6
  by_cases h0:BX R cs most=0
  ·obtain⟨hn,h5,hcs,hm⟩:=bJ8 h0
   obtain⟨z1,z2⟩:=bO2 cs.length (by omega)
   have hZ:=Lib.hid (And.intro z1 z2)
   clear z1 z2
   have H0:=Lib.hid h0
   rw[h0]
   clear h0
   obtain⟨q0,q1,q2,q3,q4,q5,q6⟩:=Ru7.of hS.box
   gi_wp2_with fail
   rw[bZH cs.length (by omega)]
   refine⟨trivial,rfl,?_⟩
   have hcr:∀ x∈cs,aaP x:=fun x hx=>(hcs x hx).1
   have htr:=bD9 hn hm h5.2 hcs (2^cs.length - 1) (asX (by omega)) 1900000 (Nat.le_refl _)
   rw[bEA (s:=0) ao9]at htr
   obtain⟨ws,hws⟩:∃ ws,trW R cs (2^cs.length - 1) (exL most cs)=ws:=⟨_,rfl⟩
   rw[hws]at htr
   have hwl:ws.length<=100000000:=by
    rw[<-hws]
    have h1:=bD8 hn cs (2^cs.length - 1) (exL most cs)
    have h2:=(bBF hm h5.2 hcr).1
    omega
   refine(callsIn_wide.2 (abB.calls 1900000 R.l.f0 R.l.f1 R.r.f0 R.r.f1 R.t.f0 R.t.f1 R.off A cp cs most _ (PM R cs most 0) ws w6 hS.arg hc htr)).mono ?_
   rintro e w7 ⟨v15,v16,rfl,hN,hRw,hb7⟩
   obtain⟨A15,c15,rfl⟩:=Kd.aj3 hN
   obtain⟨A16,c16,rfl⟩:=Kd.dA hRw
   have bK7:=(Kd.dB hRw).2.2
   replace hS:=hS.step hb7
   clear hN hRw hb7 htr q0 q1 q2 q3 q4 q5 q6
   have h0:=H0.out
   by_cases hnil:PM R cs most 0=[]
   ·have e1:xZ R cs most=9:=by unfold xZ;rw[if_pos h0,if_pos hnil]
    have hmk:=bZF hn.ok hm.1 h5.2 hcr hnil
    have e2:arU R cs most=0:=by unfold arU;rw[if_pos h0,if_neg hmk]
    have e3:s=zero3:=by rw[<-hs];unfold acT;rw[e1,if_neg (by decide)]
    have e4:arV R cs most=(aiV R cs most).getD []:=by unfold arV;rw[if_pos h0]
    have hml:=(a4U (agF R cs most) (2^cs.length)).1
    have hmi:=Lib.hid (bY3 hn hm h5.2 hcs 1900100 (Nat.le_refl _))
    subst e3
    rw[e1,e2,e4,hnil]
    rw[e4]at hS hcm
    clear e1 e2 e4 hs hmk bK7 hwl hws hnil h0 H0 hZ hcr hcs
    obtain⟨ml,bK8⟩:∃ ml,(aiV R cs most).getD []=ml:=⟨_,rfl⟩
    rw[bK8]at hmi hS hcm ⊢
    replace hml:ml.length<=8:=by rw[<-bK8];exact hml
    clear bK8
    have hif:=Lib.hid (asQ ml (by omega) 100 (by omega))
    replace hS:bZX w R cs A A7 w2.heap.size (⟨0,0⟩,⟨0,0⟩,⟨0,0⟩) Am ml w7:=hS
    gi_wp2
    have hSd:=hS.step ((Below.refl _ _).drew)
    have kW:=hSd.reg
    refine aaF 32 [(0,true),(1,true),(2,true),(3,true),(4,false),(5,true),(6,true),(7,true),(8,true),(9,false),(10,true),(11,true),(12,true),(13,true),(14,false),(15,true),(16,true),(17,true),(18,true),(19,true),(20,true),(21,true),(22,true),(23,true),(24,true),(25,true),(26,false),(27,false),(28,true),(29,true),(30,false),(31,true)] (bK4 w R w2.heap.size (⟨0,0⟩,⟨0,0⟩,⟨0,0⟩)) (rZ.of (by kernel_rfl)) rfl (by kernel_rfl) kW ?_
    clear hS
    iterate 4 (apply FD rfl (fun _=>rfl) (by assumption);focus(intro K hK w' hw';obtain⟨c0,c1,c2,c3,c4,c5,c6,t0,t1,t2,t3,t4,t5⟩:=hw';go_simp;exact hK))
    refine uG rfl ?_
    gi_wp2_with fail
    refine⟨trivial,rfl,?_⟩
    refine(callsIn_wide.2 (lT.calls 0 0 0 0 _ rfl)).mono ?_
    rintro e wa ⟨rfl,bCB⟩
    have bpD:=hSd.step bCB
    have bCC:=bpD.reg
    clear bCB kW hSd
    gi_wp2
    first|refine⟨bCC,?_⟩|skip
    iterate 4 (apply FD rfl (fun _=>rfl) (by assumption);focus(intro K hK w' hw';obtain⟨c0,c1,c2,c3,c4,c5,c6,t0,t1,t2,t3,t4,t5⟩:=hw';go_simp;exact hK))
    refine uG rfl ?_
    gi_wp2_with fail
    refine⟨trivial,rfl,?_⟩
    refine(callsIn_wide.2 (lT.calls 0 0 0 0 _ rfl)).mono ?_
    rintro e wb ⟨rfl,bCD⟩
    have bpG:=bpD.step bCD
    have bCE:=bpG.reg
    clear bCD bCC bpD
    gi_wp2
    first|refine⟨bCE,?_⟩|skip
    iterate 4 (apply FD rfl (fun _=>rfl) (by assumption);focus(intro K hK w' hw';obtain⟨c0,c1,c2,c3,c4,c5,c6,t0,t1,t2,t3,t4,t5⟩:=hw';go_simp;exact hK))
    refine uG rfl ?_
    gi_wp2_with fail
    refine⟨trivial,rfl,?_⟩
    refine(callsIn_wide.2 (lT.calls 0 0 0 0 _ rfl)).mono ?_
    rintro e wc ⟨rfl,bCF⟩
    have a0X:=bpG.step bCF
    have bCG:=a0X.reg
    clear bCF bCE bpG
    gi_wp2
    first|refine⟨bCG,?_⟩|skip
    iterate 11 (apply FD rfl (fun _=>rfl) (by assumption);focus(intro K hK w' hw';obtain⟨c0,c1,c2,c3,c4,c5,c6,t0,t1,t2,t3,t4,t5⟩:=hw';go_simp;exact hK))
    refine uG rfl ?_
    gi_wp2_with fail
    refine⟨trivial,rfl,?_⟩
    refine(callsIn_wide.2 (bZW.calls 1900100 R.l.f0 R.l.f1 R.r.f0 R.r.f1 R.t.f0 R.t.f1 R.off A cp cs most ml _ a0X.arg hc hmi.out)).mono ?_
    rintro e wd ⟨vr,rfl,hRr,bCH⟩
    obtain⟨Ar,cr',rfl⟩:=Kd.dA hRr
    have hr1:=Kd.dB hRr
    have bpJ:=a0X.step bCH
    have bEO:=bpJ.reg
    clear bCH bCG a0X hRr
    gi_wp2
    first|refine⟨bEO,?_⟩|skip
    refine uG rfl ?_
    gi_wp2_with fail
    refine⟨trivial,rfl,?_⟩
    refine(callsIn_wide.2 (oD.calls 100 Am cm ml Ar cr' ml true _ bpJ.mis hcm hr1.2.2 hr1.2.1 hif.out)).mono ?_
    rintro e we ⟨rfl,bPK⟩
    have bEP:=bpJ.step (iI.below bPK)
    have bPL:=bEP.reg
    clear bPK bEO bpJ hr1
    gi_wp2
    first|refine⟨bPL,?_⟩|skip
    iterate 2 (apply FD rfl (fun _=>rfl) (by assumption);focus(intro K hK w' hw';obtain⟨c0,c1,c2,c3,c4,c5,c6,t0,t1,t2,t3,t4,t5⟩:=hw';go_simp;exact hK))
    refine uG rfl ?_
    gi_wp2_with fail
    refine⟨trivial,rfl,?_⟩
    refine(callsIn_wide.2 (hkn.out _ bEP.tab)).mono ?_
    rintro e wf ⟨rfl,bPM⟩
    have bPN:=bEP.step bPM
    have bZS:=bPN.reg
    clear bPM bPL bEP
    gi_wp2
    first|refine⟨bZS,?_⟩|skip
    iterate 1 (apply FD rfl (fun _=>rfl) (by assumption);focus(intro K hK w' hw';obtain⟨c0,c1,c2,c3,c4,c5,c6,t0,t1,t2,t3,t4,t5⟩:=hw';go_simp;exact hK))
    show wpListIn _ _ _ _ _ _ _ _
    try simp only[List.drop_succ_cons,List.drop_zero]
    gi_wp2
    rw[yZ]
    gi_wp2
    exact bodyPost_ret (bEM _ _ _ rfl) rfl ⟨rfl,bPN.bel⟩
   ·have e1:xZ R cs most=0:=by unfold xZ;rw[if_pos h0,if_neg hnil]
    have hmk:=bZG hnil
    have e2:arU R cs most=6:=by unfold arU;rw[if_pos h0,if_pos hmk]
    have e4:arV R cs most=[]:=by unfold arV;rw[if_pos h0,hmk]
    have e3:bpB ws=s:=by
     rw[<-hs]
     unfold acT
     rw[if_pos e1,show wL R cs most=PM R cs most 0 from if_pos h0,bZA hn.ok (t:=2^cs.length - 1) ao9 hnil,hws]
    rw[e1,e2,e4]
    rw[e4]at hS
    have hll:¬ ((PM R cs most 0).length:Int)=0:=by
     have:=List.length_pos_iff.2 hnil
     omega
    have bPO:(((PM R cs most 0).length:Int)==0)=false:=by simpa using hll
    clear e1 e2 e4 hs hmk h0 H0 hZ hcr hws
    obtain⟨nl,hnl⟩:∃ nl,(PM R cs most 0).length=nl:=⟨_,rfl⟩
    rw[hnl]at hll bPO ⊢
    clear hnl hnil hcs
    gi_wp2_with fail
    refine⟨trivial,rfl,?_⟩
    refine(callsIn_wide.2 (bY5 ws A16 c16 w7 bK7 hwl)).mono ?_
    rintro e w8 ⟨rfl,hb8⟩
    rw[e3]
    replace hS:=hS.step hb8
    obtain⟨W9,hW9⟩:∃ W9,((w8.alloc (.cells #[.int .i64 s.1.f0,.int .i64 s.1.f1] 42)).alloc (.cells #[.int .i64 s.2.1.f0,.int .i64 s.2.1.f1] 42)).alloc (.cells #[.int .i64 s.2.2.f0,.int .i64 s.2.2.f1] 42)=W9:=⟨_,rfl⟩
    have hb9:Below w8.heap.size w8 W9:=by rw[<-hW9];exact(((Below.refl _ _).alloc (Nat.le_refl _) _).alloc (by simp) _).alloc (by simp;omega) _
    have htr:CE W9 w8.heap.size s:=by
     rw[<-hW9]
     exact⟨((Box.new w8 _ _).alloc _).alloc _,(Box.new' _ _ _ (by simp)).alloc _,Box.new' _ _ _ (by simp)⟩
    replace hS:=hS.step hb9
    obtain⟨t0,t1,t2,t3,t4,t5⟩:=hS.tri.reg
    obtain⟨u0,u1,u2,u3,u4,u5⟩:=htr.reg
    rw[<-hW9]at t0 t1 t2 t3 t4 t5 u0 u1 u2 u3 u4 u5
    have hWe:=Lib.hid hW9
    clear hW9 hb9 hb8 htr bK7 hwl e3 hll bPO
    gi_wp2_with fail
    rw[hWe.out]
    refine⟨trivial,rfl,?_⟩
    refine(callsIn_wide.2 (hkn.out _ hS.tab)).mono ?_
    rintro e wf ⟨rfl,hbf⟩
    have hbl:=hS.bel.trans (hbf.mono hS.bel.size)
    clear t0 t1 t2 t3 t4 t5 u0 u1 u2 u3 u4 u5 hS hbf hWe
    gi_wp2
    exact bodyPost_ret (bEM _ _ _ rfl) rfl ⟨rfl,hbl⟩
  ·have e1:xZ R cs most=BX R cs most:=by unfold xZ;rw[if_neg h0]
   have e2:arU R cs most=BX R cs most:=by unfold arU;rw[if_neg h0]
   have e3:s=zero3:=by rw[<-hs];unfold acT;rw[e1,if_neg h0]
   have e4:arV R cs most=[]:=by unfold arV;rw[if_neg h0]
   subst e3
   rw[e1,e2,e4]
   rw[e4]at hS
   clear e1 e2 e4 hs
   obtain⟨er,her⟩:∃ er,BX R cs most=er:=⟨_,rfl⟩
   rw[her]at h0 ⊢
   clear her
   have h01:decide (er=0)=false:=decide_eq_false h0
   have h02:(er==0)=false:=by simpa using h0
   replace hS:bZX w R cs A A7 w2.heap.size (⟨0,0⟩,⟨0,0⟩,⟨0,0⟩) Am [] w6:=hS
   gi_wp2
   have hSd:=hS.step ((Below.refl _ _).drew)
   have kW:=hSd.reg
   refine aaF 31 [(0,true),(1,true),(2,true),(3,true),(4,true),(5,true),(6,true),(7,true),(8,true),(9,true),(10,false),(11,true),(12,true),(13,true),(14,true),(15,false),(16,true),(17,true),(18,true),(19,true),(20,false),(21,true),(22,true),(23,true),(24,true),(25,true),(26,true),(27,true),(28,true),(29,false),(30,true)] (bK4 w R w2.heap.size (⟨0,0⟩,⟨0,0⟩,⟨0,0⟩)) (rZ.of (by kernel_rfl)) rfl (by kernel_rfl) kW ?_
   clear hS
   iterate 10 (apply FD rfl (fun _=>rfl) (by assumption);focus(intro K hK w' hw';obtain⟨c0,c1,c2,c3,c4,c5,c6,t0,t1,t2,t3,t4,t5⟩:=hw';go_simp;exact hK))
   refine uG rfl ?_
   gi_wp2_with fail
   refine⟨trivial,rfl,?_⟩
   refine(callsIn_wide.2 (lT.calls 0 0 0 0 _ rfl)).mono ?_
   rintro e wa ⟨rfl,bCB⟩
   have bpD:=hSd.step bCB
   have bCC:=bpD.reg
   clear bCB kW hSd
   gi_wp2
   first|refine⟨bCC,?_⟩|skip
   iterate 4 (apply FD rfl (fun _=>rfl) (by assumption);focus(intro K hK w' hw';obtain⟨c0,c1,c2,c3,c4,c5,c6,t0,t1,t2,t3,t4,t5⟩:=hw';go_simp;exact hK))
   refine uG rfl ?_
   gi_wp2_with fail
   refine⟨trivial,rfl,?_⟩
   refine(callsIn_wide.2 (lT.calls 0 0 0 0 _ rfl)).mono ?_
   rintro e wb ⟨rfl,bCD⟩
   have bpG:=bpD.step bCD
   have bCE:=bpG.reg
   clear bCD bCC bpD
   gi_wp2
   first|refine⟨bCE,?_⟩|skip
   iterate 4 (apply FD rfl (fun _=>rfl) (by assumption);focus(intro K hK w' hw';obtain⟨c0,c1,c2,c3,c4,c5,c6,t0,t1,t2,t3,t4,t5⟩:=hw';go_simp;exact hK))
   refine uG rfl ?_
   gi_wp2_with fail
   refine⟨trivial,rfl,?_⟩
   refine(callsIn_wide.2 (lT.calls 0 0 0 0 _ rfl)).mono ?_
   rintro e wc ⟨rfl,bCF⟩
   have a0X:=bpG.step bCF
   have bCG:=a0X.reg
   clear bCF bCE bpG
   gi_wp2
   first|refine⟨bCG,?_⟩|skip
   iterate 8 (apply FD rfl (fun _=>rfl) (by assumption);focus(intro K hK w' hw';obtain⟨c0,c1,c2,c3,c4,c5,c6,t0,t1,t2,t3,t4,t5⟩:=hw';go_simp;exact hK))
   refine uG rfl ?_
   gi_wp2_with fail
   refine⟨trivial,rfl,?_⟩
   refine(callsIn_wide.2 (hkn.out _ a0X.tab)).mono ?_
   rintro e wd ⟨rfl,bCH⟩
   have bpJ:=a0X.step bCH
   have bEO:=bpJ.reg
   clear bCH bCG a0X
   gi_wp2
   first|refine⟨bEO,?_⟩|skip
   iterate 1 (apply FD rfl (fun _=>rfl) (by assumption);focus(intro K hK w' hw';obtain⟨c0,c1,c2,c3,c4,c5,c6,t0,t1,t2,t3,t4,t5⟩:=hw';go_simp;exact hK))
   show wpListIn _ _ _ _ _ _ _ _
   try simp only[List.drop_succ_cons,List.drop_zero]
   gi_wp2
   rw[yZ]
   gi_wp2
   exact bodyPost_ret (bEM _ _ _ rfl) rfl ⟨rfl,bpJ.bel⟩
theorem bZT {w:World} (a b c d e f g:Int) (cs:List gQ) (A:Option Addr) (cp:Nat) (hc:cs.length<=cp) (hr:Kd.C vC w A cs.length cs) (most:Int) (hT:lZ w):
  Calls Tryd.prog 7 #[.agg #[.int .i64 a,.int .i64 b,.int .i64 c,.int .i64 d,.int .i64 e,.int .i64 f,.int .i64 g],.slice A cs.length cp,.int .i64 most] w fun e w'=>e=.returned (.bool true)/\Below w.heap.size w w':=
 bZO (IE a b c d e f g) cs most A cp w hc hr hT (Lib.hid fun W hW=>aQG W hW)
end Go.Proofs.YtcmfnebcmmklkaaDoor.Hand
namespace Go.Proofs.YtcmfnebcmmklkaaDoor.dozenWeighs
open Go.ChangeShapes Go.WideShapes Go.ChangeAt Go.RowKit Go.Proofs.YtcmfnebcmmklkaaDoor.Hand
theorem contract (H:Type) (enc:TypeId×Value->H) (W:World) (base:Nat) (args:Array Value) (ds gs:List (DataW H)) (before:List MemPlace)
  (hval:∀ (j:Nat) t v,Tryd.f7.params[j]? =some t->args[j]? =some v->Value.okWide Tryd.prog W .any base t v)
  (hW:DataW.Whole enc Tryd.prog Tryd.f7.params.toList Rows.dozenWeighsSpec.vars false W args.toList ds gs before) (hL:laidMetH Tryd.prog Rows.dozenWeighsRow.laid W):
  Calls Tryd.prog 7 args W fun e W'=>∃ v,e=.returned v/\Rows.dozenWeighsSpec.post enc Tryd.prog Tryd.f7 false true false false W args v W':=by
 have hT:lZ W:=azI hL
 have hW':=hW
 obtain⟨p,q,hA0,hV,rfl,hfz,hnd⟩:=hW
 have hA:DataW.TrodAll enc Tryd.prog W 0 (fun _=>true) true Tryd.f7.params.toList args.toList ds p:=hA0
 rw[Tryd.params7]at hA hval
 obtain⟨v0,vs0,d0,ds0,p0,q0,hargs,rfl,rfl,k0,r0⟩:=trodAll_cons hA
 obtain⟨v1,vs1,d1,ds1,p1,q1,rfl,rfl,rfl,k1,r1⟩:=trodAll_cons r0
 obtain⟨v2,vs2,d2,ds2,p2,q2,rfl,rfl,rfl,k2,r2⟩:=trodAll_cons r1
 obtain⟨rfl,rfl,rfl⟩:=trodAll_nil r2
 obtain rfl:args=#[v0,v1,v2]:=by cases args;simp_all
 obtain⟨rfl,rfl⟩:=trodVars_none hV
 have lt0:∀ x∈p0,x.block<W.heap.size:=by obtain⟨m,hm⟩:=k0;exact DataW.trod_lt m _ _ _ hm
 have lt1:∀ x∈p1,x.block<W.heap.size:=by obtain⟨m,hm⟩:=k1;exact DataW.trod_lt m _ _ _ hm
 have lt2:∀ x∈p2,x.block<W.heap.size:=by obtain⟨m,hm⟩:=k2;exact DataW.trod_lt m _ _ _ hm
 obtain⟨bKH,bKI,bKJ,bKK,bKL,bKM,bKN,rfl⟩:=bF3 (hval 0 53 v0 rfl rfl) k0
 obtain⟨A1,l1,c1,rfl,hc1,hr1⟩:=bF2 (hval 1 54 v1 rfl rfl) k1
 obtain⟨a2,rfl⟩:=a5Q (hval 2 3 v2 rfl rfl) k2
 clear hA0 hval
 refine(bZT bKH bKI bKJ bKK bKL bKM bKN l1 A1 c1 hc1 hr1 a2 hT).mono fun e' W' ⟨he,bel⟩=>?_
 subst he
 exact⟨_,rfl,_,_,_,[],_,[],hW',trodAll_mk1 (shut_bool Tryd.underlying4 _),(trodAll_cons_mk (Below.trod laidOut (by kernel_rfl) (of_decide_eq_true (by kernel_rfl)) k0 bel lt0) (trodAll_cons_mk (Below.trod laidOut (by kernel_rfl) (of_decide_eq_true (by kernel_rfl)) k1 bel lt1) (trodAll_cons_mk (Below.trod laidOut (by kernel_rfl) (of_decide_eq_true (by kernel_rfl)) k2 bel lt2) trodAll_mk0))),rfl,bel.frame _,fun h=>by cases h⟩
def aBO:Obj->Obj
 |.cells _ t frozen=>.cells (Lib.deBruijn32tab.map fun(n:Nat)=>Value.int .u8 n).toArray t frozen
 |o=>o
def aBP:Obj->Obj
 |.cells _ t frozen=>.cells (Lib.deBruijn64tab.map fun(n:Nat)=>Value.int .u8 n).toArray t frozen
 |o=>o
noncomputable def laidWorld (os:Os):World:={ World.holding Tryd.prog os ⟨#[],#[],[]⟩with heap:=((World.holding Tryd.prog os ⟨#[],#[],[]⟩).heap.modify 0 aBO).modify 1 aBP}
theorem laid_met (os:Os):laidMet Tryd.prog Rows.dozenWeighsRow.laid ((laidWorld os).forCall (fun _ _=>0) ⟨#[],#[.agg #[.int .i64 0,.int .i64 0,.int .i64 0,.int .i64 0,.int .i64 0,.int .i64 0,.int .i64 0],.slice none 0 0,.int .i64 0],[]⟩).memory:=
 laidMet_of_run' 8 (by kernel_rfl) (by kernel_rfl)
theorem reads (os:Os) {H:Type} (enc:TypeId×Value->H):∃ places,DataW.whole enc Tryd.prog ((laidWorld os).forCall (fun _ _=>0) ⟨#[],#[.agg #[.int .i64 0,.int .i64 0,.int .i64 0,.int .i64 0,.int .i64 0,.int .i64 0,.int .i64 0],.slice none 0 0,.int .i64 0],[]⟩).memory Tryd.f7.params.toList Rows.dozenWeighsSpec.vars false (#[.agg #[.int .i64 0,.int .i64 0,.int .i64 0,.int .i64 0,.int .i64 0,.int .i64 0,.int .i64 0],.slice none 0 0,.int .i64 0]:Array Value).toList 8=some ([.agg [.agg [.lit (.int .i64 0),.lit (.int .i64 0)],.agg [.lit (.int .i64 0),.lit (.int .i64 0)],.agg [.lit (.int .i64 0),.lit (.int .i64 0)],.lit (.int .i64 0)],.nil,.lit (.int .i64 0)],[],places):=
 ⟨[],by kernel_rfl⟩
theorem lifted (os:Os) (started:os.Started) (H:Type) (enc:TypeId×Value->H) (F:Stop.Interp):
  ReturnsInHanded {} Tryd.checked os 7 .any ((OpenSpec.ofChange Rows.dozenWeighsSpec).preRow enc Tryd.prog Tryd.f7 Rows.dozenWeighsRow.domain false Rows.dozenWeighsRow.laid) (((OpenSpec.ofChange Rows.dozenWeighsSpec).at F).post enc Tryd.prog Tryd.f7 false true false false):=by
 obtain⟨places,hx⟩:=reads os enc
 refine returnsInHanded_of_row (C:=Tryd.checked) (s:=OpenSpec.ofChange Rows.dozenWeighsSpec) own started (by kernel_rfl) Tryd.func7
  (witness_row_at (enc:=enc) (C:=Tryd.checked) false (laidWorld os) #[.agg #[.int .i64 0,.int .i64 0,.int .i64 0,.int .i64 0,.int .i64 0,.int .i64 0,.int .i64 0],.slice none 0 0,.int .i64 0] rfl (by kernel_rfl) (by kernel_rfl) (by kernel_rfl)
   (OpenSpec.preRow_of_cond 8 hx (by kernel_rfl) (fun k hk=>by cases hk) (by kernel_rfl) (laid_met os))) ?_
 intro W base args ds gs before hval hW _ _ _ hL _ _
 exact contract H enc W base args ds gs before hval hW hL
theorem said:Rows.DozenWeighsSaid:=
 OpenClaim.holds_of_cond 7 Tryd.f7 rfl rfl rfl rfl rfl rfl rfl ⟨rfl,rfl,rfl,rfl,rfl⟩ rfl rfl rfl rfl rfl (by kernel_rfl) Tryd.func7 (by kernel_rfl)
  (of_decide_eq_true (by kernel_rfl)) (by unfold Func.isWrapper;first|(rw[if_pos (by decide+kernel)];kernel_rfl)|(rw[if_neg (by decide+kernel)];exact⟨rfl,rfl⟩))
  (fun os started H enc _ F=>by rw[OpenClaim.pre_eq_preRow];exact lifted os started H enc F)
theorem plain (f:FuncId) (fn:Func) (hf:Tryd.pinned.checked.prog.funcNamed "smalto/smaltolaw09.DozenWeighs" =some f) (hfn:Tryd.pinned.checked.prog.funcs[f]? =some fn):
  false=Tryd.pinned.checked.prog.looks []/\∀ (j:Nat) t,fn.params[j]? =some t->Tryd.pinned.checked.prog.wantsStandIn t=false:=by
 obtain rfl:f=7:=Option.some.inj ((show Tryd.prog.funcNamed "smalto/smaltolaw09.DozenWeighs" =some 7 by kernel_rfl).symm.trans hf) |>.symm
 obtain rfl:fn=Tryd.f7:=(Option.some.inj (Tryd.func7.symm.trans hfn)).symm
 refine⟨by kernel_rfl,fun j t ht=>?_⟩
 rw[Tryd.params7]at ht
 have hm:=Array.mem_of_getElem? ht
 simp only[List.mem_toArray,List.mem_cons,List.not_mem_nil,or_false]at hm
 rcases hm with rfl|rfl|rfl
 ·exact(show Tryd.prog.wantsStandIn 53=false by kernel_rfl)
 ·exact(show Tryd.prog.wantsStandIn 54=false by kernel_rfl)
 ·exact(show Tryd.prog.wantsStandIn 3=false by kernel_rfl)
theorem card:Rows.DozenWeighsCardSaid:=
 Claim7.holds_tied_plain_at .later [] _ _ _ _ said (fun _ h=>by cases h) (by kernel_rfl) (fun _ h=>by cases h) dozenWeighs_row_tie rfl ⟨rfl,rfl⟩ (by kernel_rfl) rfl plain (by kernel_rfl)
end Go.Proofs.YtcmfnebcmmklkaaDoor.dozenWeighs
namespace Go.Proofs.YtcmfnebcmmklkaaDoor
theorem dozenWeighs_card:Rows.DozenWeighsCardSaid:=dozenWeighs.card
end Go.Proofs.YtcmfnebcmmklkaaDoor

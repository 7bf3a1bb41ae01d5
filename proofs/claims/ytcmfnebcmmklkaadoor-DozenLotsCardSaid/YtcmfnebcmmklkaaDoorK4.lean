/- What the laws of chapter 9 share: words about rows and regions, the walks of the package dozen, and that known returns true. Part 4 of 16. -/
import Derived.Test.YtcmfnebcmmklkaaDoorK2
import Derived.Test.YtcmfnebcmmklkaaDoorK3
set_option linter.unusedVariables false
set_option linter.unusedSimpArgs false
set_option maxRecDepth 100000
set_option maxHeartbeats 8000000
namespace Go.Proofs.YtcmfnebcmmklkaaDoor.Q
open Go.RowKit Go.Proofs.YtcmfnebcmmklkaaDoorW.dQ Go.Proofs.YtcmfnebcmmklkaaDoorW.oU Go.Proofs.YtcmfnebcmmklkaaDoorW.gG
attribute [local go_sem] uA uB uC uD uM uN uO uP
structure afI where
  fa:FuncId
  fb:FuncId
  Fa:Func
  Fb:Func
  ha:Tryd.prog.funcs[fa]? =some Fa
  hb:Tryd.prog.funcs[fb]? =some Fb
  na:(Fa.name== "runtime.NumGoroutine")=false
  nb:(Fb.name== "runtime.NumGoroutine")=false
  ba:Fa.body.isSome=true
  bb:Fb.body.isSome=true
  sa:Int->Int->Option Int
  sb:Int->Int->Int->Int->Int->Bool->Option (Int×Int)
  ca:∀ (bV:Int) (bU:Int) (r:Int) (w:World) (h:sa bV bU=some r),Calls Tryd.prog fa #[.agg #[.int .i64 bV,.int .i64 bU]] w fun e w'=>e=.returned (.int .i64 r)/\Below w.heap.size w w'
  cb:∀ (bV:Int) (bU:Int) (iL:Int) (iO:Int) (kV:Int) (lW:Bool) (r1:Int) (r2:Int) (w:World) (h:sb bV bU iL iO kV lW=some (r1,r2)),Calls Tryd.prog fb #[.agg #[.int .i64 bV,.int .i64 bU,.int .i64 iL,.int .i64 iO,.int .i64 kV,.bool lW]] w fun e w'=>e=.returned (.agg #[.int .i64 r1,.int .i64 r2])/\Below w.heap.size w w'
def rG.l0 (Z:afI):Nat->Int->Int->List (aI)->Int->Int->Int->List (dR)->Option (Int×(List (dR)))
  |0,_,_,_,_,_,_,_=>none
  |k+1,x2,x3,nU,vJ,x24,WV,RH=>if x24<vJ then(if 0<=x24 then(if x24<(nU.length:Int)then(if((aU nU x24).f0)=x2 then(if(Go.bits .and .u64 (shr .u64 x3 x24) 1)=0 then((Z.sb ((aU nU x24).f0) ((aU nU x24).f1.f0) ((aU nU x24).f1.f1) ((aU nU x24).f2.f0) ((aU nU x24).f2.f1) ((aU nU x24).f3)).bind fun abJ=>(if RH.length<4398046511104 then(rG.l0 Z k x2 x3 nU vJ (wrap64 (x24+1)) WV (RH++[(⟨(⟨abJ.1,abJ.2⟩:aH),x24,(aU nU x24).f3⟩:dR)]))else(none)))else(rG.l0 Z k x2 x3 nU vJ (wrap64 (x24+1)) WV RH))else(rG.l0 Z k x2 x3 nU vJ (wrap64 (x24+1)) WV RH))else(none))else(none))else(some (WV,RH))
def rG.f (Z:afI) (k:Nat) (bV:Unit) (bU:Unit) (dN:List (aZ)) (bH:List (aI)) (a2:Int) (a3:Int):Option (Int×(List (dR))):=if 0<=a2 then(if a2<(dN.length:Int)then((Z.sa ((dK dN a2).f0) ((dK dN a2).f1)).bind fun t108=>(rG.l0 Z k a2 a3 bH (bH.length:Int) 0 t108 ([]:List (dR))))else(none))else(none)
def rG.T1:Bool×List (List Nat×List Nat):=(true,[([],[]),([0],[0]),([],[]),([2],[2]),([],[]),([3,4],[3,4]),([5],[5]),([1,6],[1,6]),([7],[7]),([],[]),([9,8,7,0,1,2,3,4,5,6,7,8,9],[8,9])])
def rG.B1:List Nat:=[0,1,0,4,0,28,60,127,255,0,1023]
theorem rG.afJ:qW .any (opsOf Tryd.f118 1)=rG.T1:=by kernel_rfl
theorem rG.afK:CZ rG.T1.2 rG.B1=true:=by kernel_rfl
def rG.T6:Bool×List (List Nat×List Nat):=(true,[([],[]),([0],[0]),([],[]),([2],[2]),([],[]),([3,4],[3,4]),([],[]),([],[]),([7],[7]),([5,6,8],[5,6,8]),([9],[9]),([1,10,5],[1,10]),([0,1,2,3,4,5,6,7,8,9,10,11],[]),([12,11,11,0,1,2,3,4,5,6,7,8,9,10,11],[11,12])])
def rG.B6:List Nat:=[0,1,0,4,0,28,0,0,128,508,1020,2047,4095,8191]
theorem rG.tab6:qW .any (opsOf Tryd.f118 6)=rG.T6:=by kernel_rfl
theorem rG.amZ:CZ rG.T6.2 rG.B6=true:=by kernel_rfl
theorem rG.calls (Z:afI) (k:Nat) (bV:Unit) (bU:Unit) (sZ:Option Addr) (nX:Nat) (dN:List (aZ)) (oZ:Option Addr) (nY:Nat) (bH:List (aI)) (a2:Int) (a3:Int) (r1:Int) (r2:List (dR)) (w:World) (aaB:Kd.C iJ w sZ dN.length dN) (aaC:dN.length<=nX) (aaD:Kd.C iE w oZ bH.length bH) (aaE:bH.length<=nY) (h:rG.f Z k bV bU dN bH a2 a3=some (r1,r2)):
    Calls Tryd.prog 118 #[.agg #[.func (.func Z.fa) #[] #[],.func (.func Z.fb) #[] #[]],.agg #[.slice sZ dN.length nX,.slice oZ bH.length nY],.int .i64 a2,.int .u64 a3] w fun e w'=>∃ nC:Value,e=.returned (.agg #[.int .i64 r1,nC])/\Kd.R QX 197 w' w.heap.size (fun _=>True) nC r2/\Below w.heap.size w w':=by
 have aKB:=Tryd.underlying173
 have zH:=Tryd.underlying25
 have bdM:=Tryd.underlying192
 have am0:=Tryd.underlying89
 have aqN:=Tryd.underlying91
 have aC9:=Tryd.underlying197
 have am1:=aA.mk aaB
 have aDM:=aA.mk aaC
 clear aaB aaC
 have afL:=aA.mk aaD
 have aDN:=aA.mk aaE
 clear aaD aaE
 have HB:=aA.mk (Below.refl w.heap.size w)
 have H:(if 0<=a2 then(if a2<(dN.length:Int)then((Z.sa ((dK dN a2).f0) ((dK dN a2).f1)).bind fun t108=>(rG.l0 Z k a2 a3 bH (bH.length:Int) 0 t108 ([]:List (dR))))else(none))else(none))=some (r1,r2):=h
 clear h
 by_cases c5:0<=a2
 ·rw[if_pos c5]at H
  have ad8:decide (0<=a2)=true:=decide_eq_true c5
  clear c5
  by_cases c6:a2<(dN.length:Int)
  ·rw[if_pos c6]at H
   have zJ:decide (a2<(dN.length:Int))=true:=decide_eq_true c6
   clear c6
   replace H:=Option.bind_eq_some_iff.mp H
   obtain⟨t108,zK,H⟩:=H
   replace H:(rG.l0 Z k a2 a3 bH (bH.length:Int) 0 t108 ([]:List (dR)))=some (r1,r2):=H
   have A7:=aA.mk zK
   clear zK
   have H':=aA.mk H
   clear H
   go_enter Tryd.func118,Tryd.ntmps118
   try go_wp2_with (first|((with_reducible refine dU (N:=4) rfl ?_);refine eX 4 #[.func (.func Z.fa) #[] #[],.func (.func Z.fb) #[] #[]] 173 ?_;intro yG hg w8 hbox hb;have iW:=aA.mk (hbox);have bbB:=gw hg HB;have bbC:=gw hg HB;replace HB:=bs HB hb;clear hb hbox hg)|((with_reducible refine dU (N:=5) rfl ?_);refine eX 5 #[.slice sZ dN.length nX,.slice oZ bH.length nY] 25 ?_;intro AQ hg w9 hbox hb;have kP:=aA.mk (hbox);have bbF:=gw hg HB;have bbG:=gw hg HB;have aI1:=nl hg iW;have aI2:=ng hg iW;replace iW:=aA.mk (fC (g:=yG) (o:=.cells #[.func (.func Z.fa) #[] #[],.func (.func Z.fb) #[] #[]] 173 (0,0)) (b_ iW) hb);replace HB:=bs HB hb;clear hb hbox hg)|((with_reducible refine dU (N:=8) rfl ?_);refine eX 8 #[.int .i64 0,.slice none 0 0] 192 ?_;intro GM hg w10 hbox hb;have fO:=aA.mk (hbox);have aC1:=gw hg HB;have aC2:=gw hg HB;have bdN:=nl hg iW;have bdO:=ng hg iW;have aUF:=nl hg kP;have aUG:=ng hg kP;replace iW:=aA.mk (fC (g:=yG) (o:=.cells #[.func (.func Z.fa) #[] #[],.func (.func Z.fb) #[] #[]] 173 (0,0)) (b_ iW) hb);replace kP:=bb kP hb;replace HB:=bs HB hb;clear hb hbox hg))
   have aV:=aA.mk (gI iW.out)
   have aW:=aA.mk (gI kP.out)
   have aY:=aA.mk (gI fO.out)
   have bI:=aA.mk (sW HB.out)
   clear iW kP fO HB
   have iW:=aV
   have kP:=aW
   have fO:=aY
   have HB:=bI
   clear aV aW aY bI
   have aDO:0<=(a2:Int):=od
   have aDP:a2<(dN.length:Int):=od
   obtain⟨zL,bdP,auM,auN⟩:=QW am1.out a2 aDO aDP
   have QD:=auN
   have QE:=auM
   cases bdP
   replace auM:=xs HB auM
   replace auN:=xs HB auN
   replace aDO:=eq_true aDO
   replace aDP:=eq_true aDP
   refine xP (n:=11) (S:=fun w'=>w'.cell? ⟨yG,0,none⟩=some (.func (.func Z.fa) #[] #[])/\w'.cell? ⟨yG,1,none⟩=some (.func (.func Z.fb) #[] #[])/\w'.cell? ⟨AQ,0,none⟩=some (.slice (some zL) dN.length nX)/\w'.cell? ⟨AQ,1,none⟩=some (.slice oZ bH.length nY)/\w'.cell? (zL.add ((a2).toNat*2))=some (.int .i64 ((dK dN a2).f0))/\w'.cell? ⟨(zL.add ((a2).toNat*2)).block,(zL.add ((a2).toNat*2)).off+1,none⟩=some (.int .i64 ((dK dN a2).f1))) (ds:=[]) (bl 11 0) (by kernel_rfl) rfl rfl ⟨kc iW 0,kc iW 1,kc kP 0,kc kP 1,((HB.out.cell (World.block_lt_of_cell? w _ QE)).trans QE),((HB.out.cell (World.block_lt_of_cell? w _ QD)).trans QD)⟩ (fun hHeld=>?_);refine yS rG.afJ rG.afK (fun aN jG=>?_)
   generalize w10.drew=vK at iW kP fO HB auM auN hHeld ⊢
   refine pS 0 12 11 1 aN ?_
   refine pS 2 14 11 5 aN ?_
   refine pS 4 16 11 21 aN ?_
   refine tq 1 (some 13) (bl 11 23) aN jG hHeld (h:=?_)
   refine tq 3 (some 15) (bl 11 31) aN jG hHeld (h:=?_)
   refine pS 5 17 11 63 aN ?_
   refine tq 6 (some 18) (bl 11 127) aN jG hHeld (h:=?_)
   refine atD (σ:=Nat) 1 (bl 11 1023) (fun s_=>[(19,.int .i64 t108),(9,.pointer (some ⟨s_,0,none⟩)),(20,.agg #[.int .i64 t108,.slice none 0 0])]) (fun s_ w'=>(w'.cell? ⟨yG,0,none⟩=some (.func (.func Z.fa) #[] #[])/\w'.cell? ⟨yG,1,none⟩=some (.func (.func Z.fb) #[] #[])/\w'.cell? ⟨AQ,0,none⟩=some (.slice (some zL) dN.length nX)/\w'.cell? ⟨AQ,1,none⟩=some (.slice oZ bH.length nY)/\w'.cell? (zL.add ((a2).toNat*2))=some (.int .i64 ((dK dN a2).f0))/\w'.cell? ⟨(zL.add ((a2).toNat*2)).block,(zL.add ((a2).toNat*2)).off+1,none⟩=some (.int .i64 ((dK dN a2).f1)))/\(w'.heap[yG]? =some (.cells #[.func (.func Z.fa) #[] #[],.func (.func Z.fb) #[] #[]] 173 (0,0)))/\(w'.heap[AQ]? =some (.cells #[.slice (some zL) dN.length nX,.slice oZ bH.length nY] 25 (0,0)))/\(w'.heap[GM]? =some (.cells #[.int .i64 0,.slice none 0 0] 192 (0,0)))/\(w'.heap[s_]? =some (.cells #[.int .i64 0,.slice none 0 0] 192 (0,0)))/\(w.heap.size<=s_)/\(w.heap.size<=s_)/\(yG≠s_)/\(s_≠yG)/\(AQ≠s_)/\(s_≠AQ)/\(GM≠s_)/\(s_≠GM)/\(Below w.heap.size w w')) ?_ ?_
   rotate_left
   ·intro QF
    refine ae6 (i:=7) (j:=9) (Ni:=some 19) (Nj:=some 9) (bl 11 255) (bl 11 639) rfl rfl rfl rfl (ae7 aN.out (by kernel_rfl)) (by decide) (by decide) (fun K hK=>?_) (fun K hK=>?_)
    ·skip
     refine aIY Z.ha Z.na Z.ba #[.agg #[.int .i64 ((dK dN a2).f0),.int .i64 ((dK dN a2).f1)]] (by rfl) rfl rfl (by(try simp only[List.map_toArray,List.map_cons,List.map_nil]);first|done|rfl|(simp only[List.length_drop,List.length_take];rfl)) ?_
     with_reducible refine(Z.ca ((dK dN a2).f0) ((dK dN a2).f1) t108 _ A7.out).mono ?_
     rintro e w12 ⟨rfl,hb⟩
     refine⟨_,rfl,?_⟩
     have aV:=aA.mk (fC (g:=yG) (o:=.cells #[.func (.func Z.fa) #[] #[],.func (.func Z.fb) #[] #[]] 173 (0,0)) (b_ iW) hb)
     have aW:=aA.mk (fC (g:=AQ) (o:=.cells #[.slice (some zL) dN.length nX,.slice oZ bH.length nY] 25 (0,0)) (b_ kP) hb)
     have aY:=bb fO hb
     have bI:=bs HB hb
     clear iW kP fO HB
     have iW:=aV
     have kP:=aW
     have fO:=aY
     have HB:=bI
     clear aV aW aY bI
     (try clear hb)
     (try clear hb2)
     (try clear hk)
     (try clear hi)
     refine hK.out _ _ ⟨kc iW 0,kc iW 1,kc kP 0,kc kP 1,((HB.out.cell (World.block_lt_of_cell? w _ QE)).trans QE),((HB.out.cell (World.block_lt_of_cell? w _ QD)).trans QD)⟩ (fun hHeld=>?_)
     clear hK K
     refine nq 19 ?_
     refine pS 8 20 11 511 aN ?_
     refine lI (i:=9) (N:=some 9) (bl 11 1023) rfl rfl (lJ aN.out (by kernel_rfl)) (by decide) (fun K hK=>?_)
     refine aTG ?hg (N:=9) ?hd (cs:=#[.int .i64 0,.slice none 0 0]) (t:=192) ?hr ?_;(case hd=>rfl);(case hg=>rfl);(case hr=>first|(go_simp;done)|(go_simp;rfl))
     intro vF hg tV hbox hb
     have aV:=aA.mk (fC (g:=yG) (o:=.cells #[.func (.func Z.fa) #[] #[],.func (.func Z.fb) #[] #[]] 173 (0,0)) (b_ iW) hb)
     have aW:=aA.mk (fC (g:=AQ) (o:=.cells #[.slice (some zL) dN.length nX,.slice oZ bH.length nY] 25 (0,0)) (b_ kP) hb)
     have aY:=bb fO hb
     have bI:=bs HB hb
     have cO:=aA.mk (hbox)
     have gY:=gw hg HB
     have kR:=gw hg HB
     have nD:=nl hg iW
     have nH:=ng hg iW
     have nI:=nl hg kP
     have nJ:=ng hg kP
     have uT:=nl hg fO
     have zM:=ng hg fO
     clear iW kP fO HB
     have iW:=aV
     have kP:=aW
     have fO:=aY
     have HB:=bI
     have lK:=cO
     have GN:=gY
     have atY:=kR
     have VF:=nD
     have ahQ:=nH
     have TU:=nI
     have afM:=nJ
     have abK:=uT
     have ahR:=zM
     clear aV aW aY bI cO gY kR nD nH nI nJ uT zM hb hbox hg
     refine hK.out _ _ ⟨kc iW 0,kc iW 1,kc kP 0,kc kP 1,((HB.out.cell (World.block_lt_of_cell? w _ QE)).trans QE),((HB.out.cell (World.block_lt_of_cell? w _ QD)).trans QD)⟩ (fun hHeld=>?_)
     clear hK K
     refine nq 9 ?_
     exact MH (by simp only[CY,Act.put,List.setIfInBounds_toArray,List.set_cons_zero,List.set_cons_succ]) (QF (vF) _ ⟨hHeld,(b_ iW),(b_ kP),(b_ fO),(b_ lK),GN.out,atY.out,VF.out,ahQ.out,TU.out,afM.out,abK.out,ahR.out,(Bq HB)⟩)
    skip
    refine aTG ?hg (N:=9) ?hd (cs:=#[.int .i64 0,.slice none 0 0]) (t:=192) ?hr ?_;(case hd=>rfl);(case hg=>rfl);(case hr=>first|(go_simp;done)|(go_simp;rfl))
    intro vF hg w12 hbox hb
    have aV:=aA.mk (fC (g:=yG) (o:=.cells #[.func (.func Z.fa) #[] #[],.func (.func Z.fb) #[] #[]] 173 (0,0)) (b_ iW) hb)
    have aW:=aA.mk (fC (g:=AQ) (o:=.cells #[.slice (some zL) dN.length nX,.slice oZ bH.length nY] 25 (0,0)) (b_ kP) hb)
    have aY:=bb fO hb
    have bI:=bs HB hb
    have cO:=aA.mk (hbox)
    have gY:=gw hg HB
    have kR:=gw hg HB
    have nD:=nl hg iW
    have nH:=ng hg iW
    have nI:=nl hg kP
    have nJ:=ng hg kP
    have uT:=nl hg fO
    have zM:=ng hg fO
    clear iW kP fO HB
    have iW:=aV
    have kP:=aW
    have fO:=aY
    have HB:=bI
    have lK:=cO
    have GN:=gY
    have atY:=kR
    have VF:=nD
    have ahQ:=nH
    have TU:=nI
    have afM:=nJ
    have abK:=uT
    have ahR:=zM
    clear aV aW aY bI cO gY kR nD nH nI nJ uT zM hb hbox hg
    refine hK.out _ _ ⟨kc iW 0,kc iW 1,kc kP 0,kc kP 1,((HB.out.cell (World.block_lt_of_cell? w _ QE)).trans QE),((HB.out.cell (World.block_lt_of_cell? w _ QD)).trans QD)⟩ (fun hHeld=>?_)
    clear hK K
    refine nq 9 ?_
    refine lI (i:=7) (N:=some 19) (bl 11 767) rfl rfl (lJ aN.out (by kernel_rfl)) (by decide) (fun K hK=>?_)
    refine aIY Z.ha Z.na Z.ba #[.agg #[.int .i64 ((dK dN a2).f0),.int .i64 ((dK dN a2).f1)]] (by rfl) rfl rfl (by(try simp only[List.map_toArray,List.map_cons,List.map_nil]);first|done|rfl|(simp only[List.length_drop,List.length_take];rfl)) ?_
    with_reducible refine(Z.ca ((dK dN a2).f0) ((dK dN a2).f1) t108 _ A7.out).mono ?_
    rintro e tV ⟨rfl,hb⟩
    refine⟨_,rfl,?_⟩
    have aV:=aA.mk (fC (g:=yG) (o:=.cells #[.func (.func Z.fa) #[] #[],.func (.func Z.fb) #[] #[]] 173 (0,0)) (b_ iW) hb)
    have aW:=aA.mk (fC (g:=AQ) (o:=.cells #[.slice (some zL) dN.length nX,.slice oZ bH.length nY] 25 (0,0)) (b_ kP) hb)
    have aY:=bb fO hb
    have bI:=bb lK hb
    have cO:=bs HB hb
    clear iW kP fO lK HB
    have iW:=aV
    have kP:=aW
    have fO:=aY
    have lK:=bI
    have HB:=cO
    clear aV aW aY bI cO
    (try clear hb)
    (try clear hb2)
    (try clear hk)
    (try clear hi)
    refine hK.out _ _ ⟨kc iW 0,kc iW 1,kc kP 0,kc kP 1,((HB.out.cell (World.block_lt_of_cell? w _ QE)).trans QE),((HB.out.cell (World.block_lt_of_cell? w _ QD)).trans QD)⟩ (fun hHeld=>?_)
    clear hK K
    refine nq 19 ?_
    refine pS 8 20 11 1023 aN ?_
    exact MH (by simp only[CY,Act.put,List.setIfInBounds_toArray,List.set_cons_zero,List.set_cons_succ]) (QF (vF) _ ⟨hHeld,(b_ iW),(b_ kP),(b_ fO),(b_ lK),GN.out,atY.out,VF.out,ahQ.out,TU.out,afM.out,abK.out,ahR.out,(Bq HB)⟩)
   rintro vF rU ⟨hS_,WW,WX,WY,WZ,XA,h5_,h6_,h7_,h8_,h9_,aUM,aUN,aUO⟩
   have aV:aA (rU.heap[yG]? =some (.cells #[.func (.func Z.fa) #[] #[],.func (.func Z.fb) #[] #[]] 173 (0,0))):=⟨WW⟩
   have aW:aA (rU.heap[AQ]? =some (.cells #[.slice (some zL) dN.length nX,.slice oZ bH.length nY] 25 (0,0))):=⟨WX⟩
   have aY:aA (rU.heap[GM]? =some (.cells #[.int .i64 0,.slice none 0 0] 192 (0,0))):=⟨WY⟩
   have bI:aA (rU.heap[vF]? =some (.cells #[.int .i64 0,.slice none 0 0] 192 (0,0))):=⟨WZ⟩
   have cO:aA (w.heap.size<=vF):=⟨XA⟩
   have gY:aA (w.heap.size<=vF):=⟨h5_⟩
   have kR:aA (yG≠vF):=⟨h6_⟩
   have nD:aA (vF≠yG):=⟨h7_⟩
   have nH:aA (AQ≠vF):=⟨h8_⟩
   have nI:aA (vF≠AQ):=⟨h9_⟩
   have nJ:aA (GM≠vF):=⟨aUM⟩
   have uT:aA (vF≠GM):=⟨aUN⟩
   have zM:aA (Below w.heap.size w rU):=⟨aUO⟩
   clear iW kP fO HB WW WX WY WZ XA h5_ h6_ h7_ h8_ h9_ aUM aUN aUO
   have iW:=aV
   have kP:=aW
   have fO:=aY
   have lK:=bI
   have GN:=cO
   have atY:=gY
   have VF:=kR
   have ahQ:=nD
   have TU:=nH
   have afM:=nI
   have abK:=nJ
   have ahR:=uT
   have HB:=zM
   clear aV aW aY bI cO gY kR nD nH nI nJ uT zM
   have hHeld:rU.cell? ⟨yG,0,none⟩=some (.func (.func Z.fa) #[] #[])/\rU.cell? ⟨yG,1,none⟩=some (.func (.func Z.fb) #[] #[])/\rU.cell? ⟨AQ,0,none⟩=some (.slice (some zL) dN.length nX)/\rU.cell? ⟨AQ,1,none⟩=some (.slice oZ bH.length nY)/\rU.cell? (zL.add ((a2).toNat*2))=some (.int .i64 ((dK dN a2).f0))/\rU.cell? ⟨(zL.add ((a2).toNat*2)).block,(zL.add ((a2).toNat*2)).off+1,none⟩=some (.int .i64 ((dK dN a2).f1)):=hS_
   refine MH (a':=?_) ?_ ?_
   rotate_left
   ·simp only[CY,Act.put,List.setIfInBounds_toArray,List.set_cons_zero,List.set_cons_succ]
    rfl
   refine lI (i:=10) (N:=none) (bl 11 2047) rfl rfl (lJ aN.out (by kernel_rfl)) (by decide) (fun K hK=>?_)
   have hs15:rU.cell? ⟨vF,0,none⟩=some (.int .i64 0):=kc lK 0
   have hfs15:=aX lK.out 0
   have hns15_0:=VF.out
   have hns15_1:=TU.out
   have hns15_2:=abK.out
   have hms15_0:=ahQ.out
   have hms15_1:=afM.out
   have hms15_2:=ahR.out
   have aKC:rU.cell? ⟨vF,1,none⟩=some (.slice none 0 0):=kc lK 1
   have aKD:=aX lK.out 1
   have aKE:=VF.out
   have hns16_1:=TU.out
   have hns16_2:=abK.out
   have aKF:=ahQ.out
   have hms16_1:=afM.out
   have hms16_2:=ahR.out
   refine ahB (w1:=?_) (by rfl) rfl ?_ ?_
   rotate_left
   ·go_simp
    rfl
   refine hK.out _ _ ⟨((cell_far (p:=⟨vF,_,none⟩) VF.out _).trans (((cell_far (p:=⟨vF,_,none⟩) VF.out _).trans (hHeld.1)))),((cell_far (p:=⟨vF,_,none⟩) VF.out _).trans (((cell_far (p:=⟨vF,_,none⟩) VF.out _).trans (hHeld.2.1)))),((cell_far (p:=⟨vF,_,none⟩) TU.out _).trans (((cell_far (p:=⟨vF,_,none⟩) TU.out _).trans (hHeld.2.2.1)))),((cell_far (p:=⟨vF,_,none⟩) TU.out _).trans (((cell_far (p:=⟨vF,_,none⟩) TU.out _).trans (hHeld.2.2.2.1)))),((cell_far (p:=⟨vF,_,none⟩) (by first|exact Nat.ne_of_lt (Nat.lt_of_lt_of_le (by have:=World.block_lt_of_cell? _ _ QE;first|rwa [add_block]at this|exact this) GN.out)|(rw[add_block];exact Nat.ne_of_lt (Nat.lt_of_lt_of_le (by have:=World.block_lt_of_cell? _ _ QE;first|rwa [add_block]at this|exact this) GN.out))|(show(Addr.add _ _).block≠_;rw[add_block];exact Nat.ne_of_lt (Nat.lt_of_lt_of_le (by have:=World.block_lt_of_cell? _ _ QE;first|rwa [add_block]at this|exact this) GN.out))|(dsimp only;exact Nat.ne_of_lt (Nat.lt_of_lt_of_le (by have:=World.block_lt_of_cell? _ _ QE;first|rwa [add_block]at this|exact this) GN.out))) _).trans (((cell_far (p:=⟨vF,_,none⟩) (by first|exact Nat.ne_of_lt (Nat.lt_of_lt_of_le (by have:=World.block_lt_of_cell? _ _ QE;first|rwa [add_block]at this|exact this) GN.out)|(rw[add_block];exact Nat.ne_of_lt (Nat.lt_of_lt_of_le (by have:=World.block_lt_of_cell? _ _ QE;first|rwa [add_block]at this|exact this) GN.out))|(show(Addr.add _ _).block≠_;rw[add_block];exact Nat.ne_of_lt (Nat.lt_of_lt_of_le (by have:=World.block_lt_of_cell? _ _ QE;first|rwa [add_block]at this|exact this) GN.out))|(dsimp only;exact Nat.ne_of_lt (Nat.lt_of_lt_of_le (by have:=World.block_lt_of_cell? _ _ QE;first|rwa [add_block]at this|exact this) GN.out))) _).trans (hHeld.2.2.2.2.1)))),((cell_far (p:=⟨vF,_,none⟩) (by first|exact Nat.ne_of_lt (Nat.lt_of_lt_of_le (by have:=World.block_lt_of_cell? _ _ QD;first|rwa [add_block]at this|exact this) GN.out)|(rw[add_block];exact Nat.ne_of_lt (Nat.lt_of_lt_of_le (by have:=World.block_lt_of_cell? _ _ QD;first|rwa [add_block]at this|exact this) GN.out))|(show(Addr.add _ _).block≠_;rw[add_block];exact Nat.ne_of_lt (Nat.lt_of_lt_of_le (by have:=World.block_lt_of_cell? _ _ QD;first|rwa [add_block]at this|exact this) GN.out))|(dsimp only;exact Nat.ne_of_lt (Nat.lt_of_lt_of_le (by have:=World.block_lt_of_cell? _ _ QD;first|rwa [add_block]at this|exact this) GN.out))) _).trans (((cell_far (p:=⟨vF,_,none⟩) (by first|exact Nat.ne_of_lt (Nat.lt_of_lt_of_le (by have:=World.block_lt_of_cell? _ _ QD;first|rwa [add_block]at this|exact this) GN.out)|(rw[add_block];exact Nat.ne_of_lt (Nat.lt_of_lt_of_le (by have:=World.block_lt_of_cell? _ _ QD;first|rwa [add_block]at this|exact this) GN.out))|(show(Addr.add _ _).block≠_;rw[add_block];exact Nat.ne_of_lt (Nat.lt_of_lt_of_le (by have:=World.block_lt_of_cell? _ _ QD;first|rwa [add_block]at this|exact this) GN.out))|(dsimp only;exact Nat.ne_of_lt (Nat.lt_of_lt_of_le (by have:=World.block_lt_of_cell? _ _ QD;first|rwa [add_block]at this|exact this) GN.out))) _).trans (hHeld.2.2.2.2.2))))⟩ (fun hHeld=>?_)
   clear hK K
   refine xQ (yR aN.out (by kernel_rfl)) ?_
   have aJZ:=aI2.out
   have aJ0:=aI1.out
   have aUP:=aUF.out
   have aUQ:=aUG.out
   have aJD:=TU.out
   have aJE:=afM.out
   obtain⟨aqD,aqE⟩:=bZ kP (.slice (some zL) dN.length nX) (.slice oZ bH.length nY)
   try go_wp2
   go_loopg [24] k (fun kq v24 w'=>∃ (dI:Int) (TV:List (dR)) (ZB:Value),v24=.int .i64 dI/\aA (rG.l0 Z kq a2 a3 bH (bH.length:Int) dI t108 TV=some (r1,r2))/\aA (kq<=k)/\aA (Kd.R QX 197 w' w.heap.size (fun _=>True) ZB TV)/\aA (w'.heap[yG]? =some (.cells #[.func (.func Z.fa) #[] #[],.func (.func Z.fb) #[] #[]] 173 (0,0)))/\aA (w'.heap[AQ]? =some (.cells #[(.slice (some zL) dN.length nX),(.slice oZ bH.length nY)] 25 (0,0)))/\aA (w'.heap[GM]? =some (.cells #[.int .i64 0,(.slice none 0 0)] 192 (0,0)))/\aA (w'.heap[vF]? =some (.cells #[.int .i64 t108,ZB] 192 (0,0)))/\aA (Below w.heap.size w w'))
   case atStart=>exact⟨(0),(([]:List (dR))),(.slice none 0 0),(by first|rfl|(simp;done)|(simp[*];done)),H',⟨Nat.le_refl _⟩,⟨by first|exact Kd.xI _ _ _ _ _|exact Kd.TQ _ _ _ _ _|exact Kd.TR _ _ _ _ _|exact Kd.TM _ _ _ _ _|exact Kd.TP _ _ _ _ _⟩,⟨by exact bG (bG (b_ iW) VF.out _) VF.out _⟩,⟨by exact bG (bG (b_ kP) TU.out _) TU.out _⟩,⟨by exact bG (bG (b_ fO) abK.out _) abK.out _⟩,⟨by exact dE (cs:=#[.int .i64 t108,.slice none 0 0]) (dE (cs:=#[.int .i64 0,.slice none 0 0]) (b_ lK) 0 _ rfl) 1 _ rfl⟩,⟨Bq HB⟩⟩
   case round=>
    clear H'
    try clear c5
    try clear ad8
    try clear c6
    try clear zJ
    try clear aqD
    try clear aqE
    try clear aT9
    try clear aUA
    try clear auM
    try clear auN
    try clear aDO
    try clear aDP
    obtain⟨dI,TV,ZB,rfl,HA,fV,yV,iW,kP,fO,lK,HB⟩:=hrel
    rcases gk with _|k1
    ·exact absurd HA.out (by simp[rG.l0])
    have H:=HA.out
    clear HA
    simp only[rG.l0]at H
    by_cases c21:dI<(bH.length:Int)
    ·rw[if_pos c21]at H
     have aKG:decide (dI<(bH.length:Int))=true:=decide_eq_true c21
     clear c21
     by_cases OY:0<=dI
     ·rw[if_pos OY]at H
      have aUR:decide (0<=dI)=true:=decide_eq_true OY
      clear OY
      by_cases c23:dI<(bH.length:Int)
      ·rw[if_pos c23]at H
       have aqO:decide (dI<(bH.length:Int))=true:=decide_eq_true c23
       clear c23
       by_cases c24:((aU bH dI).f0)=a2
       ·rw[if_pos c24]at H
        have auO:(((aU bH dI).f0)==a2)=true:=beq_iff_eq.mpr c24
        have bdQ:(((aU bH dI).f0)!=a2)=false:=bne_eq_false_iff_eq.mpr c24
        clear c24
        have aUS:=eq_true (od:0<=dI)
        obtain⟨ahS,aDQ⟩:∃ j_:Int,(shr .u64 a3 dI)=j_:=⟨_,rfl⟩
        replace H:(if(Go.bits .and .u64 (ahS) 1)=0 then((Z.sb ((aU bH dI).f0) ((aU bH dI).f1.f0) ((aU bH dI).f1.f1) ((aU bH dI).f2.f0) ((aU bH dI).f2.f1) ((aU bH dI).f3)).bind fun abJ=>(if TV.length<4398046511104 then(rG.l0 Z k1 a2 a3 bH (bH.length:Int) (wrap64 (dI+1)) t108 (TV++[(⟨(⟨abJ.1,abJ.2⟩:aH),dI,(aU bH dI).f3⟩:dR)]))else(none)))else(rG.l0 Z k1 a2 a3 bH (bH.length:Int) (wrap64 (dI+1)) t108 TV))=some (r1,r2):=by first|(rw[aDQ]at H;exact H)|(simp only[aDQ]at H ⊢;exact H)
        have hji26_:(a3 / 2^min dI.toNat 64)=ahS:=aDQ
        have hji26z:dI<=64->(a3 / 2^dI.toNat)=ahS:=aCP aDQ
        by_cases FC:(Go.bits .and .u64 (ahS) 1)=0
        ·rw[if_pos FC]at H
         have aUT:((Go.bits .and .u64 (ahS) 1)==0)=true:=beq_iff_eq.mpr FC
         have bdR:((Go.bits .and .u64 (ahS) 1)!=0)=false:=bne_eq_false_iff_eq.mpr FC
         clear FC
         replace H:=Option.bind_eq_some_iff.mp H
         obtain⟨⟨t112,t113⟩,aUU,H⟩:=H
         replace H:(if TV.length<4398046511104 then(rG.l0 Z k1 a2 a3 bH (bH.length:Int) (wrap64 (dI+1)) t108 (TV++[(⟨(⟨t112,t113⟩:aH),dI,(aU bH dI).f3⟩:dR)]))else(none))=some (r1,r2):=H
         have A28:=aA.mk aUU
         clear aUU
         by_cases c29:TV.length<4398046511104
         ·rw[if_pos c29]at H
          have bdT:=aA.mk c29
          clear c29
          obtain⟨y114,hy114⟩:∃ y_:List (dR),y_=(TV++[(⟨(⟨t112,t113⟩:aH),dI,(aU bH dI).f3⟩:dR)]):=⟨_,rfl⟩
          replace H:(rG.l0 Z k1 a2 a3 bH (bH.length:Int) (wrap64 (dI+1)) t108 y114)=some (r1,r2):=by first|(rw[hy114];with_reducible exact H)|(have dJ:=(Option.bind_some _ _).symm.trans H;rw[hy114];with_reducible exact dJ)|(have dJ:=(Option.bind_some _ _).symm.trans H;with_reducible exact dJ)|with_reducible exact H|(rw[hy114];exact H)|exact H
          have bdU:=aA.mk hy114
          clear hy114
          have H':=aA.mk H
          clear H
          have abL:0<=(dI:Int):=od
          have abM:dI<(bH.length:Int):=od
          obtain⟨ahT,auP,ahU,ahV,ahW,ahX,ahY,ahZ⟩:=OO afL.out dI abL abM
          cases auP
          replace ahU:=xs HB ahU
          replace ahV:=xs HB ahV
          replace ahW:=xs HB ahW
          replace ahX:=xs HB ahX
          replace ahY:=xs HB ahY
          replace ahZ:=xs HB ahZ
          replace abL:=eq_true abL
          replace abM:=eq_true abM
          try go_wp2_with (first|((with_reducible refine dU (N:=11) rfl ?_);refine eX 11 #[.int .i64 0,.int .i64 0,.int .i64 0,.int .i64 0,.int .i64 0,.bool false] 91 ?_;intro jV hg uF hbox hb;have jQ:=aA.mk (hbox);have aI5:=gw hg HB;have aI6:=gw hg HB;have DI:=nl hg iW;have auQ:=ng hg iW;have DJ:=nl hg kP;have auR:=ng hg kP;have DK:=nl hg fO;have auS:=ng hg fO;have zI:=nl hg lK;have ahF:=ng hg lK;replace yV:=RB yV hb;replace iW:=aA.mk (fC (g:=yG) (o:=.cells #[.func (.func Z.fa) #[] #[],.func (.func Z.fb) #[] #[]] 173 (0,0)) (b_ iW) hb);replace kP:=aA.mk (fC (g:=AQ) (o:=.cells #[.slice (some zL) dN.length nX,.slice (some ahT) bH.length nY] 25 (0,0)) (b_ kP) hb);replace fO:=bb fO hb;replace lK:=bb lK hb;replace HB:=bs HB hb;clear hb hbox hg;have aqI:=auQ.out;have aqJ:=DI.out;have aUV:=auR.out;have aUW:=DJ.out;have aDG:=auS.out;have aDH:=DK.out;have bdV:=ahF.out;have bdW:=zI.out;obtain⟨aKH,aKI⟩:=bZ jQ (.int .i64 0) (.int .i64 0);have hcz35_2:=kd jQ 2 (.int .i64 0);have hcz35_3:=kd jQ 3 (.int .i64 0);have hcz35_4:=kd jQ 4 (.int .i64 0);have hcz35_5:=kd jQ 5 (.bool false);have bdX:=aX jQ.out 0;have bdY:=aX jQ.out 1;have hfz35_2:=aX jQ.out 2;have hfz35_3:=aX jQ.out 3;have hfz35_4:=aX jQ.out 4;have hfz35_5:=aX jQ.out 5))
          have aV:aA (Kd.R QX 197 ((((((uF.setCell ⟨jV,0,none⟩ (.int .i64 ((aU bH dI).f0))).setCell ⟨jV,1,none⟩ (.int .i64 ((aU bH dI).f1.f0))).setCell ⟨jV,2,none⟩ (.int .i64 ((aU bH dI).f1.f1))).setCell ⟨jV,3,none⟩ (.int .i64 ((aU bH dI).f2.f0))).setCell ⟨jV,4,none⟩ (.int .i64 ((aU bH dI).f2.f1))).setCell ⟨jV,5,none⟩ (.bool ((aU bH dI).f3))) w.heap.size (fun _=>True) ZB TV):=⟨by(with_reducible repeat(first|apply Kd.fQ|apply Kd.fU|apply Kd.dG));exact Kd.bQ (Kd.bK (p:=⟨jV,5,none⟩) (Kd.bK (p:=⟨jV,4,none⟩) (Kd.bK (p:=⟨jV,3,none⟩) (Kd.bK (p:=⟨jV,2,none⟩) (Kd.bK (p:=⟨jV,1,none⟩) (Kd.bK (p:=⟨jV,0,none⟩) (Kd.gB yV.out jQ.out (by decide)) (fun _ hk=>hk.2) (.int .i64 ((aU bH dI).f0))) (fun _ hk=>hk.2) (.int .i64 ((aU bH dI).f1.f0))) (fun _ hk=>hk.2) (.int .i64 ((aU bH dI).f1.f1))) (fun _ hk=>hk.2) (.int .i64 ((aU bH dI).f2.f0))) (fun _ hk=>hk.2) (.int .i64 ((aU bH dI).f2.f1))) (fun _ hk=>hk.2) (.bool ((aU bH dI).f3))) (fun _ hk=>trivial)⟩
          have aW:aA (((((((uF.setCell ⟨jV,0,none⟩ (.int .i64 ((aU bH dI).f0))).setCell ⟨jV,1,none⟩ (.int .i64 ((aU bH dI).f1.f0))).setCell ⟨jV,2,none⟩ (.int .i64 ((aU bH dI).f1.f1))).setCell ⟨jV,3,none⟩ (.int .i64 ((aU bH dI).f2.f0))).setCell ⟨jV,4,none⟩ (.int .i64 ((aU bH dI).f2.f1))).setCell ⟨jV,5,none⟩ (.bool ((aU bH dI).f3))).heap[yG]? =some (.cells #[.func (.func Z.fa) #[] #[],.func (.func Z.fb) #[] #[]] 173 (0,0))):=⟨by exact bG (bG (bG (bG (bG (bG (b_ iW) DI.out _) DI.out _) DI.out _) DI.out _) DI.out _) DI.out _⟩
          have aY:aA (((((((uF.setCell ⟨jV,0,none⟩ (.int .i64 ((aU bH dI).f0))).setCell ⟨jV,1,none⟩ (.int .i64 ((aU bH dI).f1.f0))).setCell ⟨jV,2,none⟩ (.int .i64 ((aU bH dI).f1.f1))).setCell ⟨jV,3,none⟩ (.int .i64 ((aU bH dI).f2.f0))).setCell ⟨jV,4,none⟩ (.int .i64 ((aU bH dI).f2.f1))).setCell ⟨jV,5,none⟩ (.bool ((aU bH dI).f3))).heap[AQ]? =some (.cells #[.slice (some zL) dN.length nX,.slice (some ahT) bH.length nY] 25 (0,0))):=⟨by exact bG (bG (bG (bG (bG (bG (b_ kP) DJ.out _) DJ.out _) DJ.out _) DJ.out _) DJ.out _) DJ.out _⟩
          have bI:aA (((((((uF.setCell ⟨jV,0,none⟩ (.int .i64 ((aU bH dI).f0))).setCell ⟨jV,1,none⟩ (.int .i64 ((aU bH dI).f1.f0))).setCell ⟨jV,2,none⟩ (.int .i64 ((aU bH dI).f1.f1))).setCell ⟨jV,3,none⟩ (.int .i64 ((aU bH dI).f2.f0))).setCell ⟨jV,4,none⟩ (.int .i64 ((aU bH dI).f2.f1))).setCell ⟨jV,5,none⟩ (.bool ((aU bH dI).f3))).heap[GM]? =some (.cells #[.int .i64 0,.slice none 0 0] 192 (0,0))):=⟨by exact bG (bG (bG (bG (bG (bG (b_ fO) DK.out _) DK.out _) DK.out _) DK.out _) DK.out _) DK.out _⟩
          have cO:aA (((((((uF.setCell ⟨jV,0,none⟩ (.int .i64 ((aU bH dI).f0))).setCell ⟨jV,1,none⟩ (.int .i64 ((aU bH dI).f1.f0))).setCell ⟨jV,2,none⟩ (.int .i64 ((aU bH dI).f1.f1))).setCell ⟨jV,3,none⟩ (.int .i64 ((aU bH dI).f2.f0))).setCell ⟨jV,4,none⟩ (.int .i64 ((aU bH dI).f2.f1))).setCell ⟨jV,5,none⟩ (.bool ((aU bH dI).f3))).heap[vF]? =some (.cells #[.int .i64 t108,ZB] 192 (0,0))):=⟨by exact bG (bG (bG (bG (bG (bG (b_ lK) zI.out _) zI.out _) zI.out _) zI.out _) zI.out _) zI.out _⟩
          have gY:aA (((((((uF.setCell ⟨jV,0,none⟩ (.int .i64 ((aU bH dI).f0))).setCell ⟨jV,1,none⟩ (.int .i64 ((aU bH dI).f1.f0))).setCell ⟨jV,2,none⟩ (.int .i64 ((aU bH dI).f1.f1))).setCell ⟨jV,3,none⟩ (.int .i64 ((aU bH dI).f2.f0))).setCell ⟨jV,4,none⟩ (.int .i64 ((aU bH dI).f2.f1))).setCell ⟨jV,5,none⟩ (.bool ((aU bH dI).f3))).heap[jV]? =some (.cells #[.int .i64 ((aU bH dI).f0),.int .i64 ((aU bH dI).f1.f0),.int .i64 ((aU bH dI).f1.f1),.int .i64 ((aU bH dI).f2.f0),.int .i64 ((aU bH dI).f2.f1),.bool ((aU bH dI).f3)] 91 (0,0))):=⟨by exact dE (cs:=#[.int .i64 ((aU bH dI).f0),.int .i64 ((aU bH dI).f1.f0),.int .i64 ((aU bH dI).f1.f1),.int .i64 ((aU bH dI).f2.f0),.int .i64 ((aU bH dI).f2.f1),.bool false]) (dE (cs:=#[.int .i64 ((aU bH dI).f0),.int .i64 ((aU bH dI).f1.f0),.int .i64 ((aU bH dI).f1.f1),.int .i64 ((aU bH dI).f2.f0),.int .i64 0,.bool false]) (dE (cs:=#[.int .i64 ((aU bH dI).f0),.int .i64 ((aU bH dI).f1.f0),.int .i64 ((aU bH dI).f1.f1),.int .i64 0,.int .i64 0,.bool false]) (dE (cs:=#[.int .i64 ((aU bH dI).f0),.int .i64 ((aU bH dI).f1.f0),.int .i64 0,.int .i64 0,.int .i64 0,.bool false]) (dE (cs:=#[.int .i64 ((aU bH dI).f0),.int .i64 0,.int .i64 0,.int .i64 0,.int .i64 0,.bool false]) (dE (cs:=#[.int .i64 0,.int .i64 0,.int .i64 0,.int .i64 0,.int .i64 0,.bool false]) (b_ jQ) 0 _ rfl) 1 _ rfl) 2 _ rfl) 3 _ rfl) 4 _ rfl) 5 _ rfl⟩
          have kR:aA (Below w.heap.size w ((((((uF.setCell ⟨jV,0,none⟩ (.int .i64 ((aU bH dI).f0))).setCell ⟨jV,1,none⟩ (.int .i64 ((aU bH dI).f1.f0))).setCell ⟨jV,2,none⟩ (.int .i64 ((aU bH dI).f1.f1))).setCell ⟨jV,3,none⟩ (.int .i64 ((aU bH dI).f2.f0))).setCell ⟨jV,4,none⟩ (.int .i64 ((aU bH dI).f2.f1))).setCell ⟨jV,5,none⟩ (.bool ((aU bH dI).f3)))):=⟨Bq HB⟩
          (try clear yV)
          (try clear iW)
          (try clear kP)
          (try clear fO)
          (try clear lK)
          (try clear jQ)
          (try clear HB)
          generalize ((((((uF.setCell ⟨jV,0,none⟩ (.int .i64 ((aU bH dI).f0))).setCell ⟨jV,1,none⟩ (.int .i64 ((aU bH dI).f1.f0))).setCell ⟨jV,2,none⟩ (.int .i64 ((aU bH dI).f1.f1))).setCell ⟨jV,3,none⟩ (.int .i64 ((aU bH dI).f2.f0))).setCell ⟨jV,4,none⟩ (.int .i64 ((aU bH dI).f2.f1))).setCell ⟨jV,5,none⟩ (.bool ((aU bH dI).f3)))=xK at aV aW aY bI cO gY kR ⊢
          have yV:=aV
          have iW:=aW
          have kP:=aY
          have fO:=bI
          have lK:=cO
          have jQ:=gY
          have HB:=kR
          clear aV aW aY bI cO gY kR
          have aV:=aA.mk (Kd.dG yV.out)
          have aW:=aA.mk (gI iW.out)
          have aY:=aA.mk (gI kP.out)
          have bI:=aA.mk (gI fO.out)
          have cO:=aA.mk (gI lK.out)
          have gY:=aA.mk (gI jQ.out)
          have kR:=aA.mk (sW HB.out)
          clear yV iW kP fO lK jQ HB
          have yV:=aV
          have iW:=aW
          have kP:=aY
          have fO:=bI
          have lK:=cO
          have jQ:=gY
          have HB:=kR
          clear aV aW aY bI cO gY kR
          refine xP (n:=14) (S:=fun w'=>w'.cell? ⟨vF,0,none⟩=some (.int .i64 t108)/\w'.cell? ⟨vF,1,none⟩=some (ZB)/\w'.cell? ⟨yG,0,none⟩=some (.func (.func Z.fa) #[] #[])/\w'.cell? ⟨yG,1,none⟩=some (.func (.func Z.fb) #[] #[])/\w'.cell? ⟨jV,0,none⟩=some (.int .i64 ((aU bH dI).f0))/\w'.cell? ⟨jV,1,none⟩=some (.int .i64 ((aU bH dI).f1.f0))/\w'.cell? ⟨jV,2,none⟩=some (.int .i64 ((aU bH dI).f1.f1))/\w'.cell? ⟨jV,3,none⟩=some (.int .i64 ((aU bH dI).f2.f0))/\w'.cell? ⟨jV,4,none⟩=some (.int .i64 ((aU bH dI).f2.f1))/\w'.cell? ⟨jV,5,none⟩=some (.bool ((aU bH dI).f3))) (ds:=[13]) (bl 14 0) (by kernel_rfl) rfl rfl ⟨kc lK 0,kc lK 1,kc iW 0,kc iW 1,kc jQ 0,kc jQ 1,kc jQ 2,kc jQ 3,kc jQ 4,kc jQ 5⟩ (fun hHeld=>?_);refine yS rG.tab6 rG.amZ (fun aN jG=>?_)
          generalize xK.drew=BO at yV iW kP fO lK jQ HB hHeld ⊢
          refine pS 0 40 14 1 aN ?_
          refine pS 2 42 14 5 aN ?_
          refine pS 6 46 14 69 aN ?_
          refine pS 7 47 14 197 aN ?_
          refine tq 1 (some 41) (bl 14 199) aN jG hHeld (h:=?_)
          refine tq 3 (some 43) (bl 14 207) aN jG hHeld (h:=?_)
          refine tq 4 (some 44) (bl 14 223) aN jG hHeld (h:=?_)
          refine tq 8 (some 48) (bl 14 479) aN jG hHeld (h:=?_)
          refine lI (i:=5) (N:=some 45) (bl 14 511) rfl rfl (lJ aN.out (by kernel_rfl)) (by decide) (fun K hK=>?_)
          refine aIY Z.hb Z.nb Z.bb #[.agg #[.int .i64 ((aU bH dI).f0),.int .i64 ((aU bH dI).f1.f0),.int .i64 ((aU bH dI).f1.f1),.int .i64 ((aU bH dI).f2.f0),.int .i64 ((aU bH dI).f2.f1),.bool ((aU bH dI).f3)]] (by rfl) rfl rfl (by(try simp only[List.map_toArray,List.map_cons,List.map_nil]);first|done|rfl|(simp only[List.length_drop,List.length_take];rfl)) ?_
          with_reducible refine(Z.cb ((aU bH dI).f0) ((aU bH dI).f1.f0) ((aU bH dI).f1.f1) ((aU bH dI).f2.f0) ((aU bH dI).f2.f1) ((aU bH dI).f3) t112 t113 _ A28.out).mono ?_
          rintro e AX ⟨rfl,hb⟩
          refine⟨_,rfl,?_⟩
          have aV:=RB yV hb
          have aW:=aA.mk (fC (g:=yG) (o:=.cells #[.func (.func Z.fa) #[] #[],.func (.func Z.fb) #[] #[]] 173 (0,0)) (b_ iW) hb)
          have aY:=aA.mk (fC (g:=AQ) (o:=.cells #[.slice (some zL) dN.length nX,.slice (some ahT) bH.length nY] 25 (0,0)) (b_ kP) hb)
          have bI:=bb fO hb
          have cO:=bb lK hb
          have gY:=aA.mk (fC (g:=jV) (o:=.cells #[.int .i64 ((aU bH dI).f0),.int .i64 ((aU bH dI).f1.f0),.int .i64 ((aU bH dI).f1.f1),.int .i64 ((aU bH dI).f2.f0),.int .i64 ((aU bH dI).f2.f1),.bool ((aU bH dI).f3)] 91 (0,0)) (b_ jQ) hb)
          have kR:=bs HB hb
          clear yV iW kP fO lK jQ HB
          have yV:=aV
          have iW:=aW
          have kP:=aY
          have fO:=bI
          have lK:=cO
          have jQ:=gY
          have HB:=kR
          clear aV aW aY bI cO gY kR
          (try clear hb)
          (try clear hb2)
          (try clear hk)
          (try clear hi)
          refine hK.out _ _ ⟨kc lK 0,kc lK 1,kc iW 0,kc iW 1,kc jQ 0,kc jQ 1,kc jQ 2,kc jQ 3,kc jQ 4,kc jQ 5⟩ (fun hHeld=>?_)
          clear hK K
          refine nq 45 ?_
          refine pS 9 49 14 1023 aN ?_
          refine lI (i:=10) (N:=some 50) (bl 14 2047) rfl rfl (lJ aN.out (by kernel_rfl)) (by decide) (fun K hK=>?_)
          refine aTJ (w1:=?_) (v:=?_) (by rfl) rfl ?_ ?_
          rotate_left 2
          ·go_simp
           constructor
           ·rfl
           rfl
          refine hK.out _ _ ⟨(MC (kK lK.out _) 0).trans rfl,(MC (kK lK.out _) 1).trans rfl,(MC (kK iW.out _) 0).trans rfl,(MC (kK iW.out _) 1).trans rfl,(MC (kK jQ.out _) 0).trans rfl,(MC (kK jQ.out _) 1).trans rfl,(MC (kK jQ.out _) 2).trans rfl,(MC (kK jQ.out _) 3).trans rfl,(MC (kK jQ.out _) 4).trans rfl,(MC (kK jQ.out _) 5).trans rfl⟩ (fun hHeld=>?_)
          clear hK K
          refine nq 50 ?_
          refine lI (i:=11) (N:=some 51) (bl 14 4095) rfl rfl (lJ aN.out (by kernel_rfl)) (by decide) (fun K hK=>?_)
          refine Kd.aS1 QX (w0:=w) w.heap.size (by rfl) (.tmp 41) (.tmp 50) 190 197 (.agg #[(.int .i64 0),(.int .i64 0),(.int .i64 0),(.bool false)]) 32 rfl Tryd.underlying190 ba5 rfl (by decide) (by omega) ZB TV (⟨(⟨t112,t113⟩:aH),dI,(aU bH dI).f3⟩:dR) [.int .i64 t112,.int .i64 t113,.int .i64 dI,.bool ((aU bH dI).f3)] (fun _=>True) (fun _=>False) rfl rfl ?aP (fun _ hk=>hk.elim) ?aF ?aO ?aB ?aS ?aL ?_
          (case aP=>exact ba7 _ _ _ (⟨(⟨t112,t113⟩:aH),dI,(aU bH dI).f3⟩:dR))
          (case aB=>exact(Bq HB))
          (case aF=>exact(fun _ _=>trivial))
          (case aO=>exact(R_ yV))
          (case aS=>exact(dH (Bq HB)))
          (case aL=>have:=bdT.out;omega)
          intro v115 OZ ho hb hg hat
          rw[<-bdU.out]at ho
          have aV:=aA.mk (oM (g:=yG) (o:=.cells #[.func (.func Z.fa) #[] #[],.func (.func Z.fb) #[] #[]] 173 (0,0)) (b_ iW) hg (Kd.mW yV.out iW.out (by decide)))
          have aW:=aA.mk (oM (g:=AQ) (o:=.cells #[.slice (some zL) dN.length nX,.slice (some ahT) bH.length nY] 25 (0,0)) (b_ kP) hg (Kd.mW yV.out kP.out (by decide)))
          have aY:=aA.mk (oM (g:=GM) (o:=.cells #[.int .i64 0,.slice none 0 0] 192 (0,0)) (b_ fO) hg (Kd.mW yV.out fO.out (by decide)))
          have bI:=aA.mk (oM (g:=vF) (o:=.cells #[.int .i64 t108,ZB] 192 (0,0)) (b_ lK) hg (Kd.mW yV.out lK.out (by decide)))
          have cO:=aA.mk (oM (g:=jV) (o:=.cells #[.int .i64 ((aU bH dI).f0),.int .i64 ((aU bH dI).f1.f0),.int .i64 ((aU bH dI).f1.f1),.int .i64 ((aU bH dI).f2.f0),.int .i64 ((aU bH dI).f2.f1),.bool ((aU bH dI).f3)] 91 (0,0)) (b_ jQ) hg (Kd.mW yV.out jQ.out (by decide)))
          have gY:=aA.mk (hb)
          have kR:=aA.mk (ho)
          clear iW kP fO lK jQ HB yV
          have iW:=aV
          have kP:=aW
          have fO:=aY
          have lK:=bI
          have jQ:=cO
          have HB:=gY
          have aUX:=kR
          clear aV aW aY bI cO gY kR ho hb hg hat
          obtain⟨aKJ,aKK,aUY⟩:=Kd.dA aUX.out
          (first|subst aUY|(injection aUY with kG pF kH;have pG:=kG.symm;have pI:=kH.symm;clear kG pF kH;subst pG;subst pI))
          refine hK.out _ _ ⟨kc lK 0,kc lK 1,kc iW 0,kc iW 1,kc jQ 0,kc jQ 1,kc jQ 2,kc jQ 3,kc jQ 4,kc jQ 5⟩ (fun hHeld=>?_)
          clear hK K
          refine nq 51 ?_
          refine pS 12 52 14 8191 aN ?_
          refine aCO (i:=13) (N:=none) (bl 14 16383) rfl rfl (lJ aN.out (by kernel_rfl)) (by decide) (fun K hK=>?_)
          have hs41:OZ.cell? ⟨vF,1,none⟩=some (ZB):=kc lK 1
          have hfs41:=aX lK.out 1
          have hns41_0:=VF.out
          have hns41_1:=TU.out
          have hns41_2:=abK.out
          have hns41_4:=ahF.out
          have hms41_0:=ahQ.out
          have hms41_1:=afM.out
          have hms41_2:=ahR.out
          have hms41_4:=zI.out
          refine ahB (w1:=?_) (by rfl) rfl ?_ ?_
          rotate_left
          ·go_simp
           rfl
          refine hK.out _ _ ?_
          clear hK K
          refine xQ (yR aN.out (by kernel_rfl)) ?_
          try go_wp2
          go_roundg k1
          case measure=>have:=fV.out;omega
          case rel=>exact⟨(wrap64 (dI+1)),(y114),(.slice aKJ y114.length aKK),(by first|rfl|(simp;done)|(simp[*];done)),H',⟨by have:=fV.out;omega⟩,⟨by(with_reducible repeat(first|apply Kd.fQ|apply Kd.fU|apply Kd.dG));exact Kd.bQ (Kd.bK (p:=⟨vF,1,none⟩) (Kd.gB aUX.out lK.out (by decide)) (fun _ hk=>hk.2) (.slice aKJ y114.length aKK)) (fun _ hk=>trivial)⟩,⟨by exact bG (b_ iW) VF.out _⟩,⟨by exact bG (b_ kP) TU.out _⟩,⟨by exact bG (b_ fO) abK.out _⟩,⟨by exact dE (cs:=#[.int .i64 t108,ZB]) (b_ lK) 1 _ rfl⟩,⟨Bq HB⟩⟩
         rw[if_neg c29]at H
         exact absurd H (by simp)
        rw[if_neg FC]at H
        have aUT:((Go.bits .and .u64 (ahS) 1)==0)=false:=beq_eq_false_iff_ne.mpr FC
        have bdR:((Go.bits .and .u64 (ahS) 1)!=0)=true:=bne_iff_ne.mpr FC
        have H':=aA.mk H
        clear H
        have abL:0<=(dI:Int):=od
        have abM:dI<(bH.length:Int):=od
        obtain⟨ahT,auP,ahU,ahV,ahW,ahX,ahY,ahZ⟩:=OO afL.out dI abL abM
        cases auP
        replace ahU:=xs HB ahU
        replace ahV:=xs HB ahV
        replace ahW:=xs HB ahW
        replace ahX:=xs HB ahX
        replace ahY:=xs HB ahY
        replace ahZ:=xs HB ahZ
        replace abL:=eq_true abL
        replace abM:=eq_true abM
        go_wp2_with (first|((with_reducible refine dU (N:=11) rfl ?_);refine eX 11 #[.int .i64 0,.int .i64 0,.int .i64 0,.int .i64 0,.int .i64 0,.bool false] 91 ?_;intro jV hg MJ hbox hb;have jQ:=aA.mk (hbox);have aI5:=gw hg HB;have aI6:=gw hg HB;have DI:=nl hg iW;have auQ:=ng hg iW;have DJ:=nl hg kP;have auR:=ng hg kP;have DK:=nl hg fO;have auS:=ng hg fO;have zI:=nl hg lK;have ahF:=ng hg lK;replace yV:=RB yV hb;replace iW:=aA.mk (fC (g:=yG) (o:=.cells #[.func (.func Z.fa) #[] #[],.func (.func Z.fb) #[] #[]] 173 (0,0)) (b_ iW) hb);replace kP:=aA.mk (fC (g:=AQ) (o:=.cells #[.slice (some zL) dN.length nX,.slice (some ahT) bH.length nY] 25 (0,0)) (b_ kP) hb);replace fO:=bb fO hb;replace lK:=bb lK hb;replace HB:=bs HB hb;clear hb hbox hg;have aUZ:=auQ.out;have aU0:=DI.out;have aU1:=auR.out;have aU2:=DJ.out;have bdZ:=auS.out;have bd0:=DK.out;have hnb46:=ahF.out;have hnc46:=zI.out;obtain⟨aU3,aU4⟩:=bZ jQ (.int .i64 0) (.int .i64 0);have bd1:=kd jQ 2 (.int .i64 0);have bd2:=kd jQ 3 (.int .i64 0);have hcz47_4:=kd jQ 4 (.int .i64 0);have hcz47_5:=kd jQ 5 (.bool false);have bd3:=aX jQ.out 0;have bd4:=aX jQ.out 1;have bd5:=aX jQ.out 2;have bd6:=aX jQ.out 3;have hfz47_4:=aX jQ.out 4;have hfz47_5:=aX jQ.out 5))
        go_roundg k1
        case measure=>have:=fV.out;omega
        case rel=>exact⟨(wrap64 (dI+1)),(TV),(ZB),(by first|rfl|(simp;done)|(simp[*];done)),H',⟨by have:=fV.out;omega⟩,⟨by(with_reducible repeat(first|apply Kd.fQ|apply Kd.fU|apply Kd.dG));exact Kd.bQ (Kd.bK (p:=⟨jV,5,none⟩) (Kd.bK (p:=⟨jV,4,none⟩) (Kd.bK (p:=⟨jV,3,none⟩) (Kd.bK (p:=⟨jV,2,none⟩) (Kd.bK (p:=⟨jV,1,none⟩) (Kd.bK (p:=⟨jV,0,none⟩) (Kd.gB yV.out jQ.out (by decide)) (fun _ hk=>hk.2) (.int .i64 ((aU bH dI).f0))) (fun _ hk=>hk.2) (.int .i64 ((aU bH dI).f1.f0))) (fun _ hk=>hk.2) (.int .i64 ((aU bH dI).f1.f1))) (fun _ hk=>hk.2) (.int .i64 ((aU bH dI).f2.f0))) (fun _ hk=>hk.2) (.int .i64 ((aU bH dI).f2.f1))) (fun _ hk=>hk.2) (.bool ((aU bH dI).f3))) (fun _ hk=>trivial)⟩,⟨by exact bG (bG (bG (bG (bG (bG (b_ iW) DI.out _) DI.out _) DI.out _) DI.out _) DI.out _) DI.out _⟩,⟨by exact bG (bG (bG (bG (bG (bG (b_ kP) DJ.out _) DJ.out _) DJ.out _) DJ.out _) DJ.out _) DJ.out _⟩,⟨by exact bG (bG (bG (bG (bG (bG (b_ fO) DK.out _) DK.out _) DK.out _) DK.out _) DK.out _) DK.out _⟩,⟨by exact bG (bG (bG (bG (bG (bG (b_ lK) zI.out _) zI.out _) zI.out _) zI.out _) zI.out _) zI.out _⟩,⟨Bq HB⟩⟩
       rw[if_neg c24]at H
       have auO:(((aU bH dI).f0)==a2)=false:=beq_eq_false_iff_ne.mpr c24
       have bdQ:(((aU bH dI).f0)!=a2)=true:=bne_iff_ne.mpr c24
       have H':=aA.mk H
       clear H
       have abL:0<=(dI:Int):=od
       have abM:dI<(bH.length:Int):=od
       obtain⟨ahT,auP,ahU,ahV,ahW,ahX,ahY,ahZ⟩:=OO afL.out dI abL abM
       cases auP
       replace ahU:=xs HB ahU
       replace ahV:=xs HB ahV
       replace ahW:=xs HB ahW
       replace ahX:=xs HB ahX
       replace ahY:=xs HB ahY
       replace ahZ:=xs HB ahZ
       replace abL:=eq_true abL
       replace abM:=eq_true abM
       go_wp2_with (first|((with_reducible refine dU (N:=11) rfl ?_);refine eX 11 #[.int .i64 0,.int .i64 0,.int .i64 0,.int .i64 0,.int .i64 0,.bool false] 91 ?_;intro jV hg TW hbox hb;have jQ:=aA.mk (hbox);have aI5:=gw hg HB;have aI6:=gw hg HB;have DI:=nl hg iW;have auQ:=ng hg iW;have DJ:=nl hg kP;have auR:=ng hg kP;have DK:=nl hg fO;have auS:=ng hg fO;have zI:=nl hg lK;have ahF:=ng hg lK;replace yV:=RB yV hb;replace iW:=aA.mk (fC (g:=yG) (o:=.cells #[.func (.func Z.fa) #[] #[],.func (.func Z.fb) #[] #[]] 173 (0,0)) (b_ iW) hb);replace kP:=aA.mk (fC (g:=AQ) (o:=.cells #[.slice (some zL) dN.length nX,.slice (some ahT) bH.length nY] 25 (0,0)) (b_ kP) hb);replace fO:=bb fO hb;replace lK:=bb lK hb;replace HB:=bs HB hb;clear hb hbox hg;have aU5:=auQ.out;have aU6:=DI.out;have aKL:=auR.out;have aKM:=DJ.out;have aU7:=auS.out;have aU8:=DK.out;have aU9:=ahF.out;have aVA:=zI.out;obtain⟨aVB,aVC⟩:=bZ jQ (.int .i64 0) (.int .i64 0);have hcz53_2:=kd jQ 2 (.int .i64 0);have hcz53_3:=kd jQ 3 (.int .i64 0);have hcz53_4:=kd jQ 4 (.int .i64 0);have hcz53_5:=kd jQ 5 (.bool false);have hfz53_0:=aX jQ.out 0;have hfz53_1:=aX jQ.out 1;have hfz53_2:=aX jQ.out 2;have hfz53_3:=aX jQ.out 3;have hfz53_4:=aX jQ.out 4;have hfz53_5:=aX jQ.out 5))
       go_roundg k1
       case measure=>have:=fV.out;omega
       case rel=>exact⟨(wrap64 (dI+1)),(TV),(ZB),(by first|rfl|(simp;done)|(simp[*];done)),H',⟨by have:=fV.out;omega⟩,⟨by(with_reducible repeat(first|apply Kd.fQ|apply Kd.fU|apply Kd.dG));exact Kd.bQ (Kd.bK (p:=⟨jV,5,none⟩) (Kd.bK (p:=⟨jV,4,none⟩) (Kd.bK (p:=⟨jV,3,none⟩) (Kd.bK (p:=⟨jV,2,none⟩) (Kd.bK (p:=⟨jV,1,none⟩) (Kd.bK (p:=⟨jV,0,none⟩) (Kd.gB yV.out jQ.out (by decide)) (fun _ hk=>hk.2) (.int .i64 ((aU bH dI).f0))) (fun _ hk=>hk.2) (.int .i64 ((aU bH dI).f1.f0))) (fun _ hk=>hk.2) (.int .i64 ((aU bH dI).f1.f1))) (fun _ hk=>hk.2) (.int .i64 ((aU bH dI).f2.f0))) (fun _ hk=>hk.2) (.int .i64 ((aU bH dI).f2.f1))) (fun _ hk=>hk.2) (.bool ((aU bH dI).f3))) (fun _ hk=>trivial)⟩,⟨by exact bG (bG (bG (bG (bG (bG (b_ iW) DI.out _) DI.out _) DI.out _) DI.out _) DI.out _) DI.out _⟩,⟨by exact bG (bG (bG (bG (bG (bG (b_ kP) DJ.out _) DJ.out _) DJ.out _) DJ.out _) DJ.out _) DJ.out _⟩,⟨by exact bG (bG (bG (bG (bG (bG (b_ fO) DK.out _) DK.out _) DK.out _) DK.out _) DK.out _) DK.out _⟩,⟨by exact bG (bG (bG (bG (bG (bG (b_ lK) zI.out _) zI.out _) zI.out _) zI.out _) zI.out _) zI.out _⟩,⟨Bq HB⟩⟩
      rw[if_neg c23]at H
      exact absurd H (by simp)
     rw[if_neg OY]at H
     exact absurd H (by simp)
    rw[if_neg c21]at H
    have aKG:decide (dI<(bH.length:Int))=false:=decide_eq_false c21
    clear c21
    simp only[Option.some.injEq,Prod.mk.injEq]at H
    obtain⟨rfl,rfl⟩:=H
    have bd7:=ahQ.out
    have bd8:=VF.out
    have bd9:=afM.out
    have beA:=TU.out
    have beB:=ahR.out
    have beC:=abK.out
    obtain⟨hcz57_0,hcz57_1⟩:=bZ lK (.int .i64 t108) (ZB)
    have hfz57_0:=aX lK.out 0
    have hfz57_1:=aX lK.out 1
    have aVD:=bdO.out
    have aVE:=bdN.out
    have aVF:=aUG.out
    have aVG:=aUF.out
    obtain⟨aVH,aVI⟩:=bZ fO (.int .i64 0) (.slice none 0 0)
    have aVJ:=aX fO.out 0
    have aVK:=aX fO.out 1
    obtain⟨VG,VH,rfl⟩:=Kd.dA yV.out
    go_wp2
    refine bodyPost_ret (results_cell_row rfl _ _ GM 192 #[.int .i64 t108,.slice VG TV.length VH] (0,0) _ rfl (by exact dE (cs:=#[.int .i64 t108,.slice none 0 0]) (dE (cs:=#[.int .i64 0,.slice none 0 0]) (b_ fO) 0 _ rfl) 1 _ rfl) Tryd.underlying192 rfl (by kernel_rfl)) rfl ?_
    exact⟨_,by first|rfl|(simp[iU,iV]<;>rfl)|(simp[*,iU,iV]<;>rfl),by(with_reducible repeat(first|apply Kd.fQ|apply Kd.fU|apply Kd.dG));exact Kd.bQ (Kd.bK (p:=⟨GM,1,none⟩) (Kd.bK (p:=⟨GM,0,none⟩) (Kd.gB yV.out fO.out (by decide)) (fun _ hk=>hk.2) (.int .i64 t108)) (fun _ hk=>hk.2) (.slice VG TV.length VH)) (fun _ hk=>trivial),Bq HB⟩
  rw[if_neg c6]at H
  exact absurd H (by simp)
 rw[if_neg c5]at H
 exact absurd H (by simp)
attribute [local go_sem] uA uB uC uD uM uN uO uP
def aqP.f (bV:Int) (bU:Int):Option (Int):=some bV
theorem aqP.calls (bV:Int) (bU:Int) (r:Int) (w:World) (h:aqP.f bV bU=some r):
    Calls Tryd.prog 114 #[.agg #[.int .i64 bV,.int .i64 bU]] w fun e w'=>e=.returned (.int .i64 r)/\Below w.heap.size w w':=by
 have am0:=Tryd.underlying89
 have HB:=aA.mk (Below.refl w.heap.size w)
 have H:(some bV)=some r:=h
 clear h
 obtain rfl:=Option.some.inj H
 go_enter Tryd.func114,Tryd.ntmps114
 go_wp2_with (first|((with_reducible refine dU (N:=1) rfl ?_);refine eX 1 #[.int .i64 bV,.int .i64 bU] 89 ?_;intro atM hg w2 hbox hb;have kE:=aA.mk (hbox);have atN:=gw hg HB;have atO:=gw hg HB;replace HB:=bs HB hb;clear hb hbox hg;obtain⟨beD,beE⟩:=bZ kE (.int .i64 bV) (.int .i64 bU);have beF:=aX kE.out 0;have beG:=aX kE.out 1))
 go_ret
 exact eR HB
def aqQ.f (bV:Int) (bU:Int) (iL:Int) (iO:Int) (kV:Int) (lW:Bool):Option (Int×Int):=some (bU,iL)
theorem aqQ.calls (bV:Int) (bU:Int) (iL:Int) (iO:Int) (kV:Int) (lW:Bool) (r1:Int) (r2:Int) (w:World) (h:aqQ.f bV bU iL iO kV lW=some (r1,r2)):
    Calls Tryd.prog 115 #[.agg #[.int .i64 bV,.int .i64 bU,.int .i64 iL,.int .i64 iO,.int .i64 kV,.bool lW]] w fun e w'=>e=.returned (.agg #[.int .i64 r1,.int .i64 r2])/\Below w.heap.size w w':=by
 have aqN:=Tryd.underlying91
 have QY:=Tryd.underlying42
 have HB:=aA.mk (Below.refl w.heap.size w)
 have H:(some (bU,iL))=some (r1,r2):=h
 clear h
 simp only[Option.some.injEq,Prod.mk.injEq]at H
 obtain⟨rfl,rfl⟩:=H
 go_enter Tryd.func115,Tryd.ntmps115
 go_wp2_with (first|((with_reducible refine dU (N:=1) rfl ?_);refine eX 1 #[.int .i64 bV,.int .i64 bU,.int .i64 iL,.int .i64 iO,.int .i64 kV,.bool lW] 91 ?_;intro beH hg w2 hbox hb;have wR:=aA.mk (hbox);have beI:=gw hg HB;have beJ:=gw hg HB;replace HB:=bs HB hb;clear hb hbox hg)|((with_reducible refine dU (N:=2) rfl ?_);refine eX 2 #[.int .i64 0,.int .i64 0] 42 ?_;intro aCY hg w3 hbox hb;have GL:=aA.mk (hbox);have aTZ:=gw hg HB;have aT0:=gw hg HB;have aKN:=nl hg wR;have aKO:=ng hg wR;replace wR:=bb wR hb;replace HB:=bs HB hb;clear hb hbox hg;have beK:=aKN.out;have beL:=aKO.out;obtain⟨ah0,ah1⟩:=bZ wR (.int .i64 bV) (.int .i64 bU);have beM:=kd wR 2 (.int .i64 iL);have beN:=kd wR 3 (.int .i64 iO);have beO:=kd wR 4 (.int .i64 kV);have beP:=kd wR 5 (.bool lW);have auT:=aX wR.out 0;have auU:=aX wR.out 1;have beQ:=aX wR.out 2;have beR:=aX wR.out 3;have beS:=aX wR.out 4;have beT:=aX wR.out 5;obtain⟨afA,afB⟩:=bZ GL (.int .i64 0) (.int .i64 0);have aDR:=aX GL.out 0;have aDS:=aX GL.out 1))
 refine bodyPost_ret (results_cell_row rfl _ _ aCY 42 #[.int .i64 bU,.int .i64 iL] (0,0) _ rfl (by exact dE (cs:=#[.int .i64 bU,.int .i64 0]) (dE (cs:=#[.int .i64 0,.int .i64 0]) (b_ GL) 0 _ rfl) 1 _ rfl) Tryd.underlying42 rfl (by kernel_rfl)) rfl ?_
 exact eR HB
def XB.l0:Nat->Int->Int->List (aI)->Int->Int->Int->List (dR)->Option (Int×(List (dR)))
  |0,_,_,_,_,_,_,_=>none
  |k+1,x2,x3,nU,vJ,x24,WV,RH=>if x24<vJ then(if 0<=x24 then(if x24<(nU.length:Int)then(if((aU nU x24).f0)=x2 then(if(Go.bits .and .u64 (shr .u64 x3 x24) 1)=0 then((aqQ.f ((aU nU x24).f0) ((aU nU x24).f1.f0) ((aU nU x24).f1.f1) ((aU nU x24).f2.f0) ((aU nU x24).f2.f1) ((aU nU x24).f3)).bind fun abJ=>(if RH.length<4398046511104 then(XB.l0 k x2 x3 nU vJ (wrap64 (x24+1)) WV (RH++[(⟨(⟨abJ.1,abJ.2⟩:aH),x24,(aU nU x24).f3⟩:dR)]))else(none)))else(XB.l0 k x2 x3 nU vJ (wrap64 (x24+1)) WV RH))else(XB.l0 k x2 x3 nU vJ (wrap64 (x24+1)) WV RH))else(none))else(none))else(some (WV,RH))
def XB.f (k:Nat) (bV:Unit) (bU:Unit) (dN:List (aZ)) (bH:List (aI)) (a2:Int) (a3:Int):Option (Int×(List (dR))):=if 0<=a2 then(if a2<(dN.length:Int)then((aqP.f ((dK dN a2).f0) ((dK dN a2).f1)).bind fun t108=>(XB.l0 k a2 a3 bH (bH.length:Int) 0 t108 ([]:List (dR))))else(none))else(none)
noncomputable def aDT:afI:=⟨114,115,_,_,Tryd.func114,Tryd.func115,by kernel_rfl,by kernel_rfl,rfl,rfl,aqP.f,aqQ.f,aqP.calls,aqQ.calls⟩
theorem beU:∀ k y0 y1 y2 y3 y4 y5 y6,rG.l0 aDT k y0 y1 y2 y3 y4 y5 y6=XB.l0 k y0 y1 y2 y3 y4 y5 y6:=by
  intro k
  induction k with
  |zero=>intros;rfl
  |succ k ih=>
    intros
    unfold rG.l0 XB.l0
    simp only[ih]
    rfl
attribute [local go_sem] uA uB uC uD uM uN uO uP
def aq8.f (bV:Int) (bU:Int):Option (Int):=some bU
theorem aq8.calls (bV:Int) (bU:Int) (r:Int) (w:World) (h:aq8.f bV bU=some r):
    Calls Tryd.prog 116 #[.agg #[.int .i64 bV,.int .i64 bU]] w fun e w'=>e=.returned (.int .i64 r)/\Below w.heap.size w w':=by
 have am0:=Tryd.underlying89
 have HB:=aA.mk (Below.refl w.heap.size w)
 have H:(some bU)=some r:=h
 clear h
 obtain rfl:=Option.some.inj H
 go_enter Tryd.func116,Tryd.ntmps116
 go_wp2_with (first|((with_reducible refine dU (N:=1) rfl ?_);refine eX 1 #[.int .i64 bV,.int .i64 bU] 89 ?_;intro atM hg w2 hbox hb;have kE:=aA.mk (hbox);have atN:=gw hg HB;have atO:=gw hg HB;replace HB:=bs HB hb;clear hb hbox hg;obtain⟨beD,beE⟩:=bZ kE (.int .i64 bV) (.int .i64 bU);have beF:=aX kE.out 0;have beG:=aX kE.out 1))
 go_ret
 exact eR HB
def aq9.f (bV:Int) (bU:Int) (iL:Int) (iO:Int) (kV:Int) (lW:Bool):Option (Int×Int):=some (iO,kV)
theorem aq9.calls (bV:Int) (bU:Int) (iL:Int) (iO:Int) (kV:Int) (lW:Bool) (r1:Int) (r2:Int) (w:World) (h:aq9.f bV bU iL iO kV lW=some (r1,r2)):
    Calls Tryd.prog 117 #[.agg #[.int .i64 bV,.int .i64 bU,.int .i64 iL,.int .i64 iO,.int .i64 kV,.bool lW]] w fun e w'=>e=.returned (.agg #[.int .i64 r1,.int .i64 r2])/\Below w.heap.size w w':=by
 have aqN:=Tryd.underlying91
 have QY:=Tryd.underlying42
 have HB:=aA.mk (Below.refl w.heap.size w)
 have H:(some (iO,kV))=some (r1,r2):=h
 clear h
 simp only[Option.some.injEq,Prod.mk.injEq]at H
 obtain⟨rfl,rfl⟩:=H
 go_enter Tryd.func117,Tryd.ntmps117
 go_wp2_with (first|((with_reducible refine dU (N:=1) rfl ?_);refine eX 1 #[.int .i64 bV,.int .i64 bU,.int .i64 iL,.int .i64 iO,.int .i64 kV,.bool lW] 91 ?_;intro beH hg w2 hbox hb;have wR:=aA.mk (hbox);have beI:=gw hg HB;have beJ:=gw hg HB;replace HB:=bs HB hb;clear hb hbox hg)|((with_reducible refine dU (N:=2) rfl ?_);refine eX 2 #[.int .i64 0,.int .i64 0] 42 ?_;intro aCY hg w3 hbox hb;have GL:=aA.mk (hbox);have aTZ:=gw hg HB;have aT0:=gw hg HB;have aKN:=nl hg wR;have aKO:=ng hg wR;replace wR:=bb wR hb;replace HB:=bs HB hb;clear hb hbox hg;have beK:=aKN.out;have beL:=aKO.out;obtain⟨ah0,ah1⟩:=bZ wR (.int .i64 bV) (.int .i64 bU);have beM:=kd wR 2 (.int .i64 iL);have beN:=kd wR 3 (.int .i64 iO);have beO:=kd wR 4 (.int .i64 kV);have beP:=kd wR 5 (.bool lW);have auT:=aX wR.out 0;have auU:=aX wR.out 1;have beQ:=aX wR.out 2;have beR:=aX wR.out 3;have beS:=aX wR.out 4;have beT:=aX wR.out 5;obtain⟨afA,afB⟩:=bZ GL (.int .i64 0) (.int .i64 0);have aDR:=aX GL.out 0;have aDS:=aX GL.out 1))
 refine bodyPost_ret (results_cell_row rfl _ _ aCY 42 #[.int .i64 iO,.int .i64 kV] (0,0) _ rfl (by exact dE (cs:=#[.int .i64 iO,.int .i64 0]) (dE (cs:=#[.int .i64 0,.int .i64 0]) (b_ GL) 0 _ rfl) 1 _ rfl) Tryd.underlying42 rfl (by kernel_rfl)) rfl ?_
 exact eR HB
def XG.l0:Nat->Int->Int->List (aI)->Int->Int->Int->List (dR)->Option (Int×(List (dR)))
  |0,_,_,_,_,_,_,_=>none
  |k+1,x2,x3,nU,vJ,x24,WV,RH=>if x24<vJ then(if 0<=x24 then(if x24<(nU.length:Int)then(if((aU nU x24).f0)=x2 then(if(Go.bits .and .u64 (shr .u64 x3 x24) 1)=0 then((aq9.f ((aU nU x24).f0) ((aU nU x24).f1.f0) ((aU nU x24).f1.f1) ((aU nU x24).f2.f0) ((aU nU x24).f2.f1) ((aU nU x24).f3)).bind fun abJ=>(if RH.length<4398046511104 then(XG.l0 k x2 x3 nU vJ (wrap64 (x24+1)) WV (RH++[(⟨(⟨abJ.1,abJ.2⟩:aH),x24,(aU nU x24).f3⟩:dR)]))else(none)))else(XG.l0 k x2 x3 nU vJ (wrap64 (x24+1)) WV RH))else(XG.l0 k x2 x3 nU vJ (wrap64 (x24+1)) WV RH))else(none))else(none))else(some (WV,RH))
def XG.f (k:Nat) (bV:Unit) (bU:Unit) (dN:List (aZ)) (bH:List (aI)) (a2:Int) (a3:Int):Option (Int×(List (dR))):=if 0<=a2 then(if a2<(dN.length:Int)then((aq8.f ((dK dN a2).f0) ((dK dN a2).f1)).bind fun t108=>(XG.l0 k a2 a3 bH (bH.length:Int) 0 t108 ([]:List (dR))))else(none))else(none)
noncomputable def aEL:afI:=⟨116,117,_,_,Tryd.func116,Tryd.func117,by kernel_rfl,by kernel_rfl,rfl,rfl,aq8.f,aq9.f,aq8.calls,aq9.calls⟩
theorem biE:∀ k y0 y1 y2 y3 y4 y5 y6,rG.l0 aEL k y0 y1 y2 y3 y4 y5 y6=XG.l0 k y0 y1 y2 y3 y4 y5 y6:=by
  intro k
  induction k with
  |zero=>intros;rfl
  |succ k ih=>
    intros
    unfold rG.l0 XG.l0
    simp only[ih]
    rfl
end Go.Proofs.YtcmfnebcmmklkaaDoor.Q
namespace Go.Proofs.YtcmfnebcmmklkaaDoor.Hand
open Go.RowKit Go.Proofs.YtcmfnebcmmklkaaDoorW.dQ Go.Proofs.YtcmfnebcmmklkaaDoor.Q
def DX {α:Type} (p:α->Bool):List α->Int->Int
 |[],_=> -1
 |x::xs,i=>if p x then i else DX p xs (i+1)
theorem awD {α:Type} (p:α->Bool) (z:α) (xs:List α) (k:Nat) (h:k<xs.length):DX p (xs.drop k) k=if p (xs.getD k z)then(k:Int)else DX p (xs.drop (k+1)) ((k+1:Nat):Int):=by
 rw[List.drop_eq_getElem_cons h]
 simp only[DX]
 rw[show xs.getD k z=xs[k]from by simp[List.getD_eq_getElem?_getD,List.getElem?_eq_getElem h]]
 rfl
theorem biG {α:Type} (p:α->Bool) (xs:List α):∀ i:Int,0<=i->(0<=DX p xs i↔xs.any p=true):=by
 induction xs with
 |nil=>intro i _;simp[DX]
 |cons x xs ih=>
  intro i hi
  unfold DX
  rw[List.any_cons]
  by_cases hp:p x=true
  ·rw[if_pos hp,hp]
   simp[hi]
  ·rw[if_neg hp,Bool.eq_false_iff.mpr hp,Bool.false_or]
   exact ih (i+1) (by omega)
theorem awE {α:Type} (p:α->Bool) (xs:List α):decide (0<=DX p xs 0)=xs.any p:=by
 rw[Bool.eq_iff_iff,decide_eq_true_iff]
 exact biG p xs 0 (Int.le_refl 0)
abbrev v89 (x:aZ):Value:=.agg #[.int .i64 x.f0,.int .i64 x.f1]
theorem getD_mem {α:Type} {xs:List α} {k:Nat} (h:k<xs.length) (z:α):xs.getD k z∈xs:=by
 rw[List.getD_eq_getElem?_getD,List.getElem?_eq_getElem h]
 exact List.getElem_mem h
abbrev v91 (x:aI):Value:=.agg #[.int .i64 x.f0,.int .i64 x.f1.f0,.int .i64 x.f1.f1,.int .i64 x.f2.f0,.int .i64 x.f2.f1,.bool x.f3]
theorem biH (p:aZ->Bool) (xs:List aZ) (A:Option Addr) (c:Nat) (w:World) (hr:Kd.C iJ w A xs.length xs)
  (hp:∀ x∈xs,∀ W,Below w.heap.size w W->Calls Tryd.prog 61 #[v89 x] W fun e W'=>e=.returned (.bool (p x))/\Below W.heap.size W W'):
  Calls Tryd.prog 97 #[.slice A xs.length c,.func (.func 61) #[] #[]] w fun e w'=>e=.returned (.int .i64 (DX p xs 0))/\Below w.heap.size w w':=by
 have hm:=hr.2.1
 have hq:=Lib.hid hp
 clear hp
 go_enter Tryd.func97,Tryd.ntmps97
 go_wp2
 go_loopw [5,8] (fun v i w'=>∃ k:Nat,k<=xs.length/\i=.int .i64 k/\Hid (DX p xs 0=DX p (xs.drop k) k)/\Below w.heap.size w w') (fun _ i _=>xs.length - (intOf i).toNat)
 case atStart=>exact⟨0,Nat.zero_le _,rfl,rfl,Below.refl _ _⟩
 case round=>
  obtain⟨k,hk,rfl,hf,hB⟩:=hrel
  by_cases hlt:k<xs.length
  ·obtain⟨ad,e,h0,h1⟩:=QW (Kd.bJ hr hB) k (by omega) (by omega)
   subst e
   rw[Int.toNat_natCast]at h0 h1
   have hd:=Lib.hid (awD p z89 xs k hlt)
   obtain⟨s,hs⟩:∃ s,p (dK xs k)=s:=⟨_,rfl⟩
   have Hs:=Lib.hid hs
   clear hs
   have hc:=Lib.hid (hq.out (dK xs k) (getD_mem (by simpa using hlt) _) _ hB)
   cases s
   all_goals
    go_wp2_with fail
    refine hc.out.mono ?_
    rintro e w1 ⟨rfl,hb1⟩
    rw[Hs.out]
    have hB1:Below w.heap.size w w1:=hB.trans (hb1.mono hB.size)
    go_wp2
   ·go_roundw
    case rel=>exact⟨k+1,by omega,by go_num,Lib.hid (by have h5:=hd.out;rw[show p (xs.getD k z89)=_ from Hs.out]at h5;rw[hf.out,h5];rfl),hB1⟩
    case measure=>simp[intOf];omega
   ·go_ret
    exact⟨TS (by have h5:=hd.out;rw[show p (xs.getD k z89)=_ from Hs.out]at h5;rw[hf.out,h5];rfl),hB1⟩
  ·go_wp2
   go_ret
   exact⟨TS (by rw[hf.out,List.drop_eq_nil_of_le (by omega)];rfl),hB⟩
theorem aXA (p:aZ->Bool) (xs:List aZ) (A:Option Addr) (c:Nat) (w:World) (hr:Kd.C iJ w A xs.length xs)
  (hp:∀ x∈xs,∀ W,Below w.heap.size w W->Calls Tryd.prog 61 #[v89 x] W fun e W'=>e=.returned (.bool (p x))/\Below W.heap.size W W'):
  Calls Tryd.prog 65 #[.slice A xs.length c,.func (.func 61) #[] #[]] w fun e w'=>e=.returned (.bool (xs.any p))/\Below w.heap.size w w':=by
 have hq:=Lib.hid (awE p xs)
 have hc:=Lib.hid (biH p xs A c w hr hp)
 clear hp
 go_enter Tryd.func65,Tryd.ntmps65
 go_wp2_with fail
 refine hc.out.mono ?_
 rintro e w' ⟨rfl,hbl⟩
 go_wp2
 go_ret
 exact⟨QB hq.out,hbl⟩
theorem biI (p:aI->Bool) (b0:Nat) (xs:List aI) (A:Option Addr) (c:Nat) (w:World) (hr:Kd.C iE w A xs.length xs)
  (hp:∀ x∈xs,∀ W,Below w.heap.size w W->Calls Tryd.prog 63 #[v91 x,.pointer (some ⟨b0,0,none⟩)] W fun e W'=>e=.returned (.bool (p x))/\Below W.heap.size W W'):
  Calls Tryd.prog 98 #[.slice A xs.length c,.func (.func 63) #[] #[.pointer (some ⟨b0,0,none⟩)]] w fun e w'=>e=.returned (.int .i64 (DX p xs 0))/\Below w.heap.size w w':=by
 have hm:=hr.2.1
 have hq:=Lib.hid hp
 clear hp
 go_enter Tryd.func98,Tryd.ntmps98
 go_wp2
 go_loopw [5,8] (fun v i w'=>∃ k:Nat,k<=xs.length/\i=.int .i64 k/\Hid (DX p xs 0=DX p (xs.drop k) k)/\Below w.heap.size w w') (fun _ i _=>xs.length - (intOf i).toNat)
 case atStart=>exact⟨0,Nat.zero_le _,rfl,rfl,Below.refl _ _⟩
 case round=>
  obtain⟨k,hk,rfl,hf,hB⟩:=hrel
  by_cases hlt:k<xs.length
  ·obtain⟨ad,e,h0,h1,h2,h3,h4,h5⟩:=OO (Kd.bJ hr hB) k (by omega) (by omega)
   subst e
   rw[Int.toNat_natCast]at h0 h1 h2 h3 h4 h5
   have hd:=Lib.hid (awD p z91 xs k hlt)
   obtain⟨s,hs⟩:∃ s,p (aU xs k)=s:=⟨_,rfl⟩
   have Hs:=Lib.hid hs
   clear hs
   have hc:=Lib.hid (hq.out (aU xs k) (getD_mem (by simpa using hlt) _) _ hB)
   cases s
   all_goals
    go_wp2_with fail
    refine hc.out.mono ?_
    rintro e w1 ⟨rfl,hb1⟩
    rw[Hs.out]
    have hB1:Below w.heap.size w w1:=hB.trans (hb1.mono hB.size)
    go_wp2
   ·go_roundw
    case rel=>exact⟨k+1,by omega,by go_num,Lib.hid (by have h5:=hd.out;rw[show p (xs.getD k z91)=_ from Hs.out]at h5;rw[hf.out,h5];rfl),hB1⟩
    case measure=>simp[intOf];omega
   ·go_ret
    exact⟨TS (by have h5:=hd.out;rw[show p (xs.getD k z91)=_ from Hs.out]at h5;rw[hf.out,h5];rfl),hB1⟩
  ·go_wp2
   go_ret
   exact⟨TS (by rw[hf.out,List.drop_eq_nil_of_le (by omega)];rfl),hB⟩
theorem biJ (p:aI->Bool) (b0:Nat) (xs:List aI) (A:Option Addr) (c:Nat) (w:World) (hr:Kd.C iE w A xs.length xs)
  (hp:∀ x∈xs,∀ W,Below w.heap.size w W->Calls Tryd.prog 63 #[v91 x,.pointer (some ⟨b0,0,none⟩)] W fun e W'=>e=.returned (.bool (p x))/\Below W.heap.size W W'):
  Calls Tryd.prog 66 #[.slice A xs.length c,.func (.func 63) #[] #[.pointer (some ⟨b0,0,none⟩)]] w fun e w'=>e=.returned (.bool (xs.any p))/\Below w.heap.size w w':=by
 have hq:=Lib.hid (awE p xs)
 have hc:=Lib.hid (biI p b0 xs A c w hr hp)
 clear hp
 go_enter Tryd.func66,Tryd.ntmps66
 go_wp2_with fail
 refine hc.out.mono ?_
 rintro e w' ⟨rfl,hbl⟩
 go_wp2
 go_ret
 exact⟨QB hq.out,hbl⟩
theorem aXB (a b x:Int):allIn a b [x]=(decide (a<=x)&&decide (x<=b)):=by
 rw[Bool.eq_iff_iff];simp[allIn,xR]
theorem aLR (a b x y:Int):allIn a b [x,y]=(decide (a<=x)&&decide (x<=b)&&(decide (a<=y)&&decide (y<=b))):=by
 rw[Bool.eq_iff_iff];simp[allIn,xR]
def UE (lo hi b:Int):Bool:=decide (lo<=hi)&&allIn 0 b [lo,hi]
theorem awF (lo hi b:Int) (w:World):
  Calls Tryd.prog 64 #[.agg #[.int .i64 lo,.int .i64 hi],.int .i64 b] w fun e w'=>e=.returned (.bool (UE lo hi b))/\Below w.heap.size w w':=by
 go_enter Tryd.func64,Tryd.ntmps64
 by_cases h:lo<=hi
 ·have h1:decide (lo<=hi)=true:=decide_eq_true h
  go_wp2_with (go_at_call 62;refine(GK 0 b [lo,hi] _ 2 _ ?h1).mono ?_;(case h1=>exact auV _ _ _ _ _ (by simp));rintro e w' ⟨rfl,hb⟩)
  go_ret
  exact⟨QB (by simp[UE,h1]),(((Below.refl _ _).alloc (Nat.le_refl _) _).alloc (by simp) _).trans (hb.mono (by simp;omega))⟩
 ·have h1:decide (lo<=hi)=false:=decide_eq_false h
  go_wp2
  go_ret
  exact⟨QB (by simp[UE,h1]),(Below.refl _ _).alloc (Nat.le_refl _) _⟩
def MP (x:aZ):Bool:=allIn 0 144 [x.f0,x.f1]
theorem aXC (x:aZ) (w:World):Calls Tryd.prog 61 #[v89 x] w fun e w'=>e=.returned (.bool (!MP x))/\Below w.heap.size w w':=by
 go_enter Tryd.func61,Tryd.ntmps61
 go_wp2_with fail
 refine(GK 0 144 [x.f0,x.f1] _ 2 _ (auV _ _ _ _ _ (by simp))).mono ?_
 rintro e w' ⟨rfl,hb⟩
 go_wp2
 go_ret
 exact⟨QB rfl,(((Below.refl _ _).alloc (Nat.le_refl _) _).alloc (by simp) _).trans (hb.mono (by simp;omega))⟩
def DY (n:Nat) (x:aI):Bool:=allIn 0 ((n:Int) - 1) [x.f0]&&UE x.f1.f0 x.f1.f1 144&&UE x.f2.f0 x.f2.f1 144
theorem biK (x:aI) (n:Nat) (hn:n<=1000) (b0:Nat) (A1:Option Addr) (cp:Nat) (u:Value) (w:World) (hb0:Box w b0 #[.slice A1 n cp,u] 25):
  Calls Tryd.prog 63 #[v91 x,.pointer (some ⟨b0,0,none⟩)] w fun e w'=>e=.returned (.bool (!DY n x))/\Below w.heap.size w w':=by
 have h0:=hb0.cell 0 rfl
 have hlt:=hb0.lt
 clear hb0
 obtain⟨c1,b1⟩:∃ c,allIn 0 ((n:Int) - 1) [x.f0]=c:=⟨_,rfl⟩
 obtain⟨c2,b2⟩:∃ c,UE x.f1.f0 x.f1.f1 144=c:=⟨_,rfl⟩
 obtain⟨c3,b3⟩:∃ c,UE x.f2.f0 x.f2.f1 144=c:=⟨_,rfl⟩
 have hs:DY n x=(c1&&c2&&c3):=by rw[<-b1,<-b2,<-b3];rfl
 rw[hs]
 clear hs
 cases c1
 ·go_enter Tryd.func63,Tryd.ntmps63
  go_wp2_with fail
  refine(GK 0 ((n:Int) - 1) [x.f0] _ 1 _ (TY _ _ _ _ (by simp))).mono ?_
  rintro e w1 ⟨rfl,hb1⟩
  rw[b1]
  have bx1:Box w1 w.heap.size _ 91:=((Box.new w _ _).alloc _).step hb1
  have hB1:Below w.heap.size w w1:=(((Below.refl _ _).alloc (Nat.le_refl _) _).alloc (by simp) _).trans (hb1.mono (by simp;omega))
  clear hb1
  go_wp2
  go_ret
  exact⟨QB (by simp),hB1⟩
 ·cases c2
  ·go_enter Tryd.func63,Tryd.ntmps63
   go_wp2_with fail
   refine(GK 0 ((n:Int) - 1) [x.f0] _ 1 _ (TY _ _ _ _ (by simp))).mono ?_
   rintro e w1 ⟨rfl,hb1⟩
   rw[b1]
   have bx1:Box w1 w.heap.size _ 91:=((Box.new w _ _).alloc _).step hb1
   have hB1:Below w.heap.size w w1:=(((Below.refl _ _).alloc (Nat.le_refl _) _).alloc (by simp) _).trans (hb1.mono (by simp;omega))
   clear hb1
   have k1:=bx1.cell 1 rfl
   have k2:=bx1.cell 2 rfl
   go_wp2_with fail
   refine(awF x.f1.f0 x.f1.f1 144 _).mono ?_
   rintro e w2 ⟨rfl,hb2⟩
   rw[b2]
   have qL:=bx1.step hb2
   have hB2:Below w.heap.size w w2:=hB1.trans (hb2.mono hB1.size)
   clear hb2 hB1 k1 k2 bx1
   go_wp2
   go_ret
   exact⟨QB (by simp),hB2⟩
  ·cases c3
   all_goals
    go_enter Tryd.func63,Tryd.ntmps63
    go_wp2_with fail
    refine(GK 0 ((n:Int) - 1) [x.f0] _ 1 _ (TY _ _ _ _ (by simp))).mono ?_
    rintro e w1 ⟨rfl,hb1⟩
    rw[b1]
    have bx1:Box w1 w.heap.size _ 91:=((Box.new w _ _).alloc _).step hb1
    have hB1:Below w.heap.size w w1:=(((Below.refl _ _).alloc (Nat.le_refl _) _).alloc (by simp) _).trans (hb1.mono (by simp;omega))
    clear hb1
    have k1:=bx1.cell 1 rfl
    have k2:=bx1.cell 2 rfl
    go_wp2_with fail
    refine(awF x.f1.f0 x.f1.f1 144 _).mono ?_
    rintro e w2 ⟨rfl,hb2⟩
    rw[b2]
    have qL:=bx1.step hb2
    have hB2:Below w.heap.size w w2:=hB1.trans (hb2.mono hB1.size)
    clear hb2 hB1 k1 k2 bx1
    have k1:=qL.cell 3 rfl
    have k2:=qL.cell 4 rfl
    go_wp2_with fail
    refine(awF x.f2.f0 x.f2.f1 144 _).mono ?_
    rintro e w3 ⟨rfl,hb3⟩
    rw[b3]
    have hB3:Below w.heap.size w w3:=hB2.trans (hb3.mono hB2.size)
    clear hb3 hB2 k1 k2 qL
    go_wp2
    go_ret
    exact⟨QB (by simp),hB3⟩
def oP (l1:List aZ) (l2:List aI):Int:=
 if allIn 1 5 [(l1.length:Int)]=true then(if 8<l2.length then 5 else if(l1.any (fun x=> !MP x)||l2.any (fun x=> !DY l1.length x))=true then 2 else 0)else 4
theorem aXD (l1:List aZ) (l2:List aI) (A1 A2:Option Addr) (cp1 cp2:Nat) (w:World) (hr1:Kd.C iJ w A1 l1.length l1) (hr2:Kd.C iE w A2 l2.length l2):
  Calls Tryd.prog 17 #[.agg #[.slice A1 l1.length cp1,.slice A2 l2.length cp2]] w fun e w'=>e=.returned (.int .i64 (oP l1 l2))/\Below w.heap.size w w':=by
 have hm1:=hr1.2.1
 have hm2:=hr2.2.1
 obtain⟨c1,b1⟩:∃ c,allIn 1 5 [(l1.length:Int)]=c:=⟨_,rfl⟩
 obtain⟨c2,b2'⟩:∃ c,l1.any (fun x=> !MP x)=c:=⟨_,rfl⟩
 obtain⟨c3,b3'⟩:∃ c,l2.any (fun x=> !DY l1.length x)=c:=⟨_,rfl⟩
 have hs:oP l1 l2=if c1=true then(if 8<l2.length then 5 else if(c2||c3)=true then 2 else 0)else 4:=by rw[<-b1,<-b2',<-b3'];rfl
 have b2:=Lib.hid b2'
 have b3:=Lib.hid b3'
 clear b2' b3'
 rw[hs]
 clear hs
 cases c1
 ·go_enter Tryd.func17,Tryd.ntmps17
  go_wp2_with fail
  refine(GK 1 5 [(l1.length:Int)] _ 1 _ (TY _ _ _ _ (by simp))).mono ?_
  rintro e w1 ⟨rfl,hb1⟩
  rw[b1]
  have bx1:Box w1 w.heap.size _ 25:=((Box.new w _ _).alloc _).step hb1
  have hB1:Below w.heap.size w w1:=(((Below.refl _ _).alloc (Nat.le_refl _) _).alloc (by simp) _).trans (hb1.mono (by simp;omega))
  clear hb1
  have k0:=bx1.cell 0 rfl
  have k1:=bx1.cell 1 rfl
  go_wp2
  go_ret
  exact⟨TS (by simp),hB1⟩
 ·have hl5:l1.length<=5:=by
   rw[aXB]at b1
   simp at b1
   omega
  by_cases hl:8<l2.length
  ·have hl1:decide (8<l2.length)=true:=decide_eq_true hl
   have hl2:decide (8<(l2.length:Int))=true:=decide_eq_true (by omega)
   go_enter Tryd.func17,Tryd.ntmps17
   go_wp2_with fail
   refine(GK 1 5 [(l1.length:Int)] _ 1 _ (TY _ _ _ _ (by simp))).mono ?_
   rintro e w1 ⟨rfl,hb1⟩
   rw[b1]
   have bx1:Box w1 w.heap.size _ 25:=((Box.new w _ _).alloc _).step hb1
   have hB1:Below w.heap.size w w1:=(((Below.refl _ _).alloc (Nat.le_refl _) _).alloc (by simp) _).trans (hb1.mono (by simp;omega))
   clear hb1
   have k0:=bx1.cell 0 rfl
   have k1:=bx1.cell 1 rfl
   go_wp2
   go_ret
   exact⟨TS (by simp[hl]),hB1⟩
  ·have hl1:decide (8<l2.length)=false:=decide_eq_false hl
   have hl2:decide (8<(l2.length:Int))=false:=decide_eq_false (by omega)
   cases c2
   ·cases c3
    all_goals
     go_enter Tryd.func17,Tryd.ntmps17
     go_wp2_with fail
     refine(GK 1 5 [(l1.length:Int)] _ 1 _ (TY _ _ _ _ (by simp))).mono ?_
     rintro e w1 ⟨rfl,hb1⟩
     rw[b1]
     have bx1:Box w1 w.heap.size _ 25:=((Box.new w _ _).alloc _).step hb1
     have hB1:Below w.heap.size w w1:=(((Below.refl _ _).alloc (Nat.le_refl _) _).alloc (by simp) _).trans (hb1.mono (by simp;omega))
     clear hb1
     have k0:=bx1.cell 0 rfl
     have k1:=bx1.cell 1 rfl
     go_wp2_with fail
     refine(aXA (fun x=> !MP x) l1 A1 cp1 _ (Kd.bJ hr1 hB1) (fun x _ W _=>aXC x W)).mono ?_
     rintro e w2 ⟨rfl,hb2⟩
     rw[b2.out]
     have qL:=bx1.step hb2
     have hB2:Below w.heap.size w w2:=hB1.trans (hb2.mono hB1.size)
     clear hb2 hB1 k0 k1 bx1
     have k1:=qL.cell 1 rfl
     go_wp2_with fail
     refine(biJ (fun x=> !DY l1.length x) w.heap.size l2 A2 cp2 _ (Kd.bJ hr2 hB2) (fun x _ W hW=>biK x l1.length (by omega) _ A1 cp1 (.slice A2 l2.length cp2) W (qL.step hW))).mono ?_
     rintro e w3 ⟨rfl,hb3⟩
     rw[b3.out]
     have hB3:Below w.heap.size w w3:=hB2.trans (hb3.mono hB2.size)
     clear hb3 hB2 k1 qL
     go_wp2
     go_ret
     exact⟨TS (by simp[hl]),hB3⟩
   ·go_enter Tryd.func17,Tryd.ntmps17
    go_wp2_with fail
    refine(GK 1 5 [(l1.length:Int)] _ 1 _ (TY _ _ _ _ (by simp))).mono ?_
    rintro e w1 ⟨rfl,hb1⟩
    rw[b1]
    have bx1:Box w1 w.heap.size _ 25:=((Box.new w _ _).alloc _).step hb1
    have hB1:Below w.heap.size w w1:=(((Below.refl _ _).alloc (Nat.le_refl _) _).alloc (by simp) _).trans (hb1.mono (by simp;omega))
    clear hb1
    have k0:=bx1.cell 0 rfl
    have k1:=bx1.cell 1 rfl
    go_wp2_with fail
    refine(aXA (fun x=> !MP x) l1 A1 cp1 _ (Kd.bJ hr1 hB1) (fun x _ W _=>aXC x W)).mono ?_
    rintro e w2 ⟨rfl,hb2⟩
    rw[b2.out]
    have qL:=bx1.step hb2
    have hB2:Below w.heap.size w w2:=hB1.trans (hb2.mono hB1.size)
    clear hb2 hB1 k0 k1 bx1
    have k1:=qL.cell 1 rfl
    go_wp2
    go_ret
    exact⟨TS (by simp[hl]),hB2⟩
abbrev v109 (x:gQ):Value:=.agg #[.int .i64 x.f0,.int .i64 x.f1,.int .i64 x.f2]
theorem blG (p:gQ->Bool) (xs:List gQ) (A:Option Addr) (c:Nat) (w:World) (hr:Kd.C vC w A xs.length xs)
  (hp:∀ x∈xs,∀ W,Below w.heap.size w W->Calls Tryd.prog 109 #[v109 x] W fun e W'=>e=.returned (.bool (p x))/\Below W.heap.size W W'):
  Calls Tryd.prog 124 #[.slice A xs.length c,.func (.func 109) #[] #[]] w fun e w'=>e=.returned (.int .i64 (DX p xs 0))/\Below w.heap.size w w':=by
 have hm:=hr.2.1
 have hq:=Lib.hid hp
 clear hp
 go_enter Tryd.func124,Tryd.ntmps124
 go_wp2
 go_loopw [5,8] (fun v i w'=>∃ k:Nat,k<=xs.length/\i=.int .i64 k/\Hid (DX p xs 0=DX p (xs.drop k) k)/\Below w.heap.size w w') (fun _ i _=>xs.length - (intOf i).toNat)
 case atStart=>exact⟨0,Nat.zero_le _,rfl,rfl,Below.refl _ _⟩
 case round=>
  obtain⟨k,hk,rfl,hf,hB⟩:=hrel
  by_cases hlt:k<xs.length
  ·obtain⟨ad,e,h0,h1,h2⟩:=aIW (Kd.bJ hr hB) k (by omega) (by omega)
   subst e
   rw[Int.toNat_natCast]at h0 h1 h2
   have hd:=Lib.hid (awD p z109 xs k hlt)
   obtain⟨s,hs⟩:∃ s,p (DC xs k)=s:=⟨_,rfl⟩
   have Hs:=Lib.hid hs
   clear hs
   have hc:=Lib.hid (hq.out (DC xs k) (getD_mem (by simpa using hlt) _) _ hB)
   cases s
   all_goals
    go_wp2_with fail
    refine hc.out.mono ?_
    rintro e w1 ⟨rfl,hb1⟩
    rw[Hs.out]
    have hB1:Below w.heap.size w w1:=hB.trans (hb1.mono hB.size)
    go_wp2
   ·go_roundw
    case rel=>exact⟨k+1,by omega,by go_num,Lib.hid (by have h5:=hd.out;rw[show p (xs.getD k z109)=_ from Hs.out]at h5;rw[hf.out,h5];rfl),hB1⟩
    case measure=>simp[intOf];omega
   ·go_ret
    exact⟨TS (by have h5:=hd.out;rw[show p (xs.getD k z109)=_ from Hs.out]at h5;rw[hf.out,h5];rfl),hB1⟩
  ·go_wp2
   go_ret
   exact⟨TS (by rw[hf.out,List.drop_eq_nil_of_le (by omega)];rfl),hB⟩
theorem aM7 (p:gQ->Bool) (xs:List gQ) (A:Option Addr) (c:Nat) (w:World) (hr:Kd.C vC w A xs.length xs)
  (hp:∀ x∈xs,∀ W,Below w.heap.size w W->Calls Tryd.prog 109 #[v109 x] W fun e W'=>e=.returned (.bool (p x))/\Below W.heap.size W W'):
  Calls Tryd.prog 111 #[.slice A xs.length c,.func (.func 109) #[] #[]] w fun e w'=>e=.returned (.bool (xs.any p))/\Below w.heap.size w w':=by
 have hq:=Lib.hid (awE p xs)
 have hc:=Lib.hid (blG p xs A c w hr hp)
 clear hp
 go_enter Tryd.func111,Tryd.ntmps111
 go_wp2_with fail
 refine hc.out.mono ?_
 rintro e w' ⟨rfl,hbl⟩
 go_wp2
 go_ret
 exact⟨QB hq.out,hbl⟩
def aiQ (x:gQ):Bool:=allIn 0 24 [x.f0,x.f1]&&allIn 0 5000 [x.f2]
theorem aM8 (x:gQ) (w:World):Calls Tryd.prog 109 #[v109 x] w fun e w'=>e=.returned (.bool (!aiQ x))/\Below w.heap.size w w':=by
 obtain⟨c1,b1⟩:∃ c,allIn 0 24 [x.f0,x.f1]=c:=⟨_,rfl⟩
 obtain⟨c2,b2⟩:∃ c,allIn 0 5000 [x.f2]=c:=⟨_,rfl⟩
 have hs:aiQ x=(c1&&c2):=by rw[<-b1,<-b2];rfl
 rw[hs]
 clear hs
 cases c1
 ·go_enter Tryd.func109,Tryd.ntmps109
  go_wp2_with fail
  refine(GK 0 24 [x.f0,x.f1] _ 2 _ (auV _ _ _ _ _ (by simp))).mono ?_
  rintro e w1 ⟨rfl,hb1⟩
  rw[b1]
  have bx1:Box w1 w.heap.size _ 109:=((Box.new w _ _).alloc _).step hb1
  have hB1:Below w.heap.size w w1:=(((Below.refl _ _).alloc (Nat.le_refl _) _).alloc (by simp) _).trans (hb1.mono (by simp;omega))
  clear hb1
  go_wp2
  go_ret
  exact⟨QB (by simp),hB1⟩
 ·cases c2
  all_goals
   go_enter Tryd.func109,Tryd.ntmps109
   go_wp2_with fail
   refine(GK 0 24 [x.f0,x.f1] _ 2 _ (auV _ _ _ _ _ (by simp))).mono ?_
   rintro e w1 ⟨rfl,hb1⟩
   rw[b1]
   have bx1:Box w1 w.heap.size _ 109:=((Box.new w _ _).alloc _).step hb1
   have hB1:Below w.heap.size w w1:=(((Below.refl _ _).alloc (Nat.le_refl _) _).alloc (by simp) _).trans (hb1.mono (by simp;omega))
   clear hb1
   have k1:=bx1.cell 2 rfl
   go_wp2_with fail
   refine(GK 0 5000 [x.f2] _ 1 _ (TY _ _ _ _ rfl)).mono ?_
   rintro e w2 ⟨rfl,hb2⟩
   rw[b2]
   have hB2:Below w.heap.size w w2:=hB1.trans (((Below.refl _ _).alloc hB1.size _).trans (hb2.mono (by have:=hB1.size;simp;omega)))
   clear hb2 hB1 k1 bx1
   go_wp2
   go_ret
   exact⟨QB (by simp),hB2⟩
def agB (x:aH):Bool:=UE x.f0 x.f1 60&&decide (x.f1 - x.f0<8)
theorem BV (x:aH) (w:World):Calls Tryd.prog 110 #[.agg #[.int .i64 x.f0,.int .i64 x.f1]] w fun e w'=>e=.returned (.bool (agB x))/\Below w.heap.size w w':=by
 obtain⟨c1,b1⟩:∃ c,UE x.f0 x.f1 60=c:=⟨_,rfl⟩
 have hs:agB x=(c1&&decide (x.f1 - x.f0<8)):=by rw[<-b1];rfl
 rw[hs]
 clear hs
 cases c1
 ·go_enter Tryd.func110,Tryd.ntmps110
  go_wp2_with fail
  refine(awF x.f0 x.f1 60 _).mono ?_
  rintro e w1 ⟨rfl,hb1⟩
  rw[b1]
  have hB1:Below w.heap.size w w1:=((Below.refl _ _).alloc (Nat.le_refl _) _).trans (hb1.mono (by simp))
  clear hb1
  go_wp2
  go_ret
  exact⟨QB (by simp),hB1⟩
 ·have hr:(0<=x.f0/\x.f0<=60)/\(0<=x.f1/\x.f1<=60):=by
   unfold UE at b1
   rw[aLR]at b1
   simp at b1
   omega
  obtain⟨c2,b2⟩:∃ c,decide (x.f1 - x.f0<8)=c:=⟨_,rfl⟩
  cases c2
  all_goals
   go_enter Tryd.func110,Tryd.ntmps110
   go_wp2_with fail
   refine(awF x.f0 x.f1 60 _).mono ?_
   rintro e w1 ⟨rfl,hb1⟩
   rw[b1]
   have bx1:Box w1 w.heap.size _ 42:=(Box.new w _ _).step hb1
   have k0:=bx1.cell 0 rfl
   have k1:=bx1.cell 1 rfl
   have hB1:Below w.heap.size w w1:=((Below.refl _ _).alloc (Nat.le_refl _) _).trans (hb1.mono (by simp))
   clear hb1
   go_wp2
   go_ret
   exact⟨QB (by simp[b2]),hB1⟩
end Go.Proofs.YtcmfnebcmmklkaaDoor.Hand

/- What the laws of chapter 9 share: words about rows and regions, the walks of the package dozen, and that known returns true. Part 16 of 16. -/
import Derived.Test.YtcmfnebcmmklkaaDoorK15
set_option linter.unusedVariables false
set_option linter.unusedSimpArgs false
set_option maxRecDepth 100000
set_option maxHeartbeats 8000000
namespace Go.Proofs.YtcmfnebcmmklkaaDoor.Hand
open Go.RowKit Go.Shelf Go.Proofs.YtcmfnebcmmklkaaDoorW.dQ Go.Proofs.YtcmfnebcmmklkaaDoorW.gG Go.Proofs.YtcmfnebcmmklkaaDoor.Q
attribute [local go_sem] Oper.semAt_some run_store_func undef
noncomputable def a3Z:{G:Prop // G->aP1.1}:=by
  refine⟨?_,?_⟩
  rotate_left
  intro tY
  replace tY:aA (True->_):=⟨fun _=>tY⟩
  intro w hT NU w1 IG II IJ IK IL IM w2 FN IP IQ FO IU IV w3 IW IX IY IZ JA JB w4 NF NG NH NI w5 JC JD JE JG JH JI w6 NJ NK NL NM NP NQ w7 JJ JL JM JO JP JQ w8 FP JR JS w9 w10 JU JV JW JX JY JZ vK FQ KA KC w12 tV KF KG KH rU FT KI KJ vY w16 KL KN KO uS FU KP KR BM xU KT KU KW zD FV KX KY NR NS NT BR AU KZ LC LD EZ FX LG LH BN AV LJ LK LM xN wF xa xb xc BQ EK LP LQ LU uF FY LV LW NV NW a1 a2 D hl2 yA w32 NY MN FB xK BO AX OZ PE AZ UU MJ BH PN EL UW UX E FZ VN TW fl yJ a6_ z6_ a7_ z7_ a8_ z8_ a9_ z9_ w50 ZP w52 XI K53 B53 azA
  refine YB rfl ?_
  gi_wp2
  obtain⟨w54,hwn⟩:∃ W,XI.alloc (Obj.cells #[.int .i64 0,.int .i64 1] 3)=W:=⟨_,rfl⟩
  have hb:Below XI.heap.size XI w54:=by rw[<-hwn];exact wC _ _
  have vP:=(show Kd.C (Kd.int .i64) (XI.alloc (Obj.cells #[.int .i64 0,.int .i64 1] 3)) (some ⟨XI.heap.size,0,none⟩) 2 [0,1]from au0 XI [0,1] _ rfl (by decide))
  rw[hwn]at vP ⊢
  clear hwn
  have K54:=K53.step hb
  have B54:=B53.trans (hb.mono B53.size)
  have aP7:=azA.step hb
  clear K53 B53 azA hb
  replace K54:=K54.ZO vP
  clear vP
  refine⟨aP7,?_⟩
  refine YB rfl ?_
  gi_wp2_with fail
  refine⟨trivial,rfl,?_⟩
  refine(callsIn_wide.2 (oD.calls 9 FX LG [0,1] (some ⟨XI.heap.size,0,none⟩) 2 [0,1] true _ (K54.hi (FX,[0,1]) (by simp)) LH (K54.hi (some ⟨XI.heap.size,0,none⟩,[0,1]) (by simp)) (Nat.le_refl _) (by kernel_rfl))).mono ?_
  rintro e_ w55 ⟨rfl,hdr⟩
  have hb:=hdr.below
  clear hdr
  have K55:=K54.step hb
  have B55:=B54.trans (hb.mono B54.size)
  have aP9:=aP7.step hb
  clear K54 B54 aP7 hb
  gi_wp2
  refine⟨aP9,?_⟩
  iterate 3
   apply agO rfl (fun _=>rfl) (by assumption)
   intro KQ wH wq hwq
   obtain⟨x0,x1,x2,x3,x4,x5⟩:=hwq
   go_simp
   exact wH
  refine YB rfl ?_
  gi_wp2_with fail
  refine⟨trivial,rfl,?_⟩
  refine(callsIn_wide.2 (lT.calls 10 10 10 10 _ rfl)).mono ?_
  rintro e_ w56 ⟨rfl,hb⟩
  have K56:=K55.step hb
  have B56:=B55.trans (hb.mono B55.size)
  have aQB:=aP9.step hb
  clear K55 B55 aP9 hb
  gi_wp2
  refine⟨aQB,?_⟩
  iterate 4
   apply agO rfl (fun _=>rfl) (by assumption)
   intro KQ wH wq hwq
   obtain⟨x0,x1,x2,x3,x4,x5⟩:=hwq
   go_simp
   exact wH
  refine YB rfl ?_
  gi_wp2_with fail
  refine⟨trivial,rfl,?_⟩
  refine(callsIn_wide.2 (lT.calls 12 12 12 12 _ rfl)).mono ?_
  rintro e_ w57 ⟨rfl,hb⟩
  have K57:=K56.step hb
  have B57:=B56.trans (hb.mono B56.size)
  have aQD:=aQB.step hb
  clear K56 B56 aQB hb
  gi_wp2
  refine⟨aQD,?_⟩
  iterate 4
   apply agO rfl (fun _=>rfl) (by assumption)
   intro KQ wH wq hwq
   obtain⟨x0,x1,x2,x3,x4,x5⟩:=hwq
   go_simp
   exact wH
  refine YB rfl ?_
  gi_wp2_with fail
  refine⟨trivial,rfl,?_⟩
  refine(callsIn_wide.2 (lT.calls 20 20 20 20 _ rfl)).mono ?_
  rintro e_ w58 ⟨rfl,hb⟩
  have K58:=K57.step hb
  have B58:=B57.trans (hb.mono B57.size)
  have azC:=aQD.step hb
  clear K57 B57 aQD hb
  gi_wp2
  refine⟨azC,?_⟩
  iterate 4
   apply agO rfl (fun _=>rfl) (by assumption)
   intro KQ wH wq hwq
   obtain⟨x0,x1,x2,x3,x4,x5⟩:=hwq
   go_simp
   exact wH
  revert w hT NU w1 IG II IJ IK IL IM w2 FN IP IQ FO IU IV w3 IW IX IY IZ JA JB w4 NF NG NH NI w5 JC JD JE JG JH JI w6 NJ NK NL NM NP NQ w7 JJ JL JM JO JP JQ w8 FP JR JS w9 w10 JU JV JW JX JY JZ vK FQ KA KC w12 tV KF KG KH rU FT KI KJ vY w16 KL KN KO uS FU KP KR BM xU KT KU KW zD FV KX KY NR NS NT BR AU KZ LC LD EZ FX LG LH BN AV LJ LK LM xN wF xa xb xc BQ EK LP LQ LU uF FY LV LW NV NW a1 a2 D hl2 yA w32 NY MN FB xK BO AX OZ PE AZ UU MJ BH PN EL UW UX E FZ VN TW fl yJ a6_ z6_ a7_ z7_ a8_ z8_ a9_ z9_ w50 ZP w52 XI w54 w55 w56 w57 w58 K58 B58 azC
  exact tY.out trivial
attribute [local go_sem] Oper.semAt_some run_store_func undef
theorem bp5:a3Z.1:=by
  intro w hT NU w1 IG II IJ IK IL IM w2 FN IP IQ FO IU IV w3 IW IX IY IZ JA JB w4 NF NG NH NI w5 JC JD JE JG JH JI w6 NJ NK NL NM NP NQ w7 JJ JL JM JO JP JQ w8 FP JR JS w9 w10 JU JV JW JX JY JZ vK FQ KA KC w12 tV KF KG KH rU FT KI KJ vY w16 KL KN KO uS FU KP KR BM xU KT KU KW zD FV KX KY NR NS NT BR AU KZ LC LD EZ FX LG LH BN AV LJ LK LM xN wF xa xb xc BQ EK LP LQ LU uF FY LV LW NV NW a1 a2 D hl2 yA w32 NY MN FB xK BO AX OZ PE AZ UU MJ BH PN EL UW UX E FZ VN TW fl yJ a6_ z6_ a7_ z7_ a8_ z8_ a9_ z9_ w50 ZP w52 XI w54 w55 w56 w57 w58 K58 B58 azC
  refine YB rfl ?_
  gi_wp2
  obtain⟨w59,hwn⟩:∃ W,w58.alloc (Obj.cells #[.int .i64 1,.int .i64 2] 3)=W:=⟨_,rfl⟩
  have hb:Below w58.heap.size w58 w59:=by rw[<-hwn];exact wC _ _
  have vP:=(show Kd.C (Kd.int .i64) (w58.alloc (Obj.cells #[.int .i64 1,.int .i64 2] 3)) (some ⟨w58.heap.size,0,none⟩) 2 [1,2]from au0 w58 [1,2] _ rfl (by decide))
  rw[hwn]at vP ⊢
  clear hwn
  have K59:=K58.step hb
  have B59:=B58.trans (hb.mono B58.size)
  have aQF:=azC.step hb
  clear K58 B58 azC hb
  replace K59:=K59.ZO vP
  clear vP
  refine⟨aQF,?_⟩
  refine YB rfl ?_
  gi_wp2_with fail
  refine⟨trivial,rfl,?_⟩
  refine(callsIn_wide.2 (oD.calls 9 FY LV [1,2] (some ⟨w58.heap.size,0,none⟩) 2 [1,2] true _ (K59.hi (FY,[1,2]) (by simp)) LW (K59.hi (some ⟨w58.heap.size,0,none⟩,[1,2]) (by simp)) (Nat.le_refl _) (by kernel_rfl))).mono ?_
  rintro e_ w60 ⟨rfl,hdr⟩
  have hb:=hdr.below
  clear hdr
  have K60:=K59.step hb
  have B60:=B59.trans (hb.mono B59.size)
  have bp8:=aQF.step hb
  clear K59 B59 aQF hb
  gi_wp2
  refine⟨bp8,?_⟩
  iterate 1
   apply agO rfl (fun _=>rfl) (by assumption)
   intro KQ wH wq hwq
   obtain⟨x0,x1,x2,x3,x4,x5⟩:=hwq
   go_simp
   exact wH
  show wpListIn _ _ _ _ _ _ _ _
  try simp only[List.drop_succ_cons,List.drop_zero]
  gi_wp2
  rw[yZ]
  gi_wp2_with fail
  go_ret
  exact⟨rfl,K60.below⟩
theorem aeZ {A:Prop} (s:{G:Prop // G->A}) (h:s.1):A:=s.2 h
theorem bp9:aP1.1:=aeZ a3Z bp5
theorem bqA:aP0.1:=aeZ aP1 bp9
theorem bqB:aPZ.1:=aeZ aP0 bqA
theorem bqC:aPY.1:=aeZ aPZ bqB
theorem bqD:aPX.1:=aeZ aPY bqC
theorem bqE:aPW.1:=aeZ aPX bqD
theorem bqF:aPJ.1:=aeZ aPW bqE
theorem bqG:aO4.1:=aeZ aPJ bqF
theorem bqH:aOX.1:=aeZ aO4 bqG
theorem aQG (w:World) (hT:lZ w):Calls Tryd.prog 15 #[] w fun e_ w'=>e_=.returned (.bool true)/\Below w.heap.size w w':=aeZ aOX bqH w hT
end Go.Proofs.YtcmfnebcmmklkaaDoor.Hand

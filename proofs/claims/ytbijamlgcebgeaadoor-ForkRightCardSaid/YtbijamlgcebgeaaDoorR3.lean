/- ForkRight: the law returns true for every input; each argument reads behind the call as it read before (for worlds in which the two tables of the library hold what its initialisers lay). Part 3 of 7. -/
import Derived.Test.YtbijamlgcebgeaaDoorR2
set_option linter.unusedVariables false
set_option linter.unusedSimpArgs false
-- part SO1
namespace Go.Proofs.YtbijamlgcebgeaaDoor.Q
open Go.RowKit Go.Proofs.YtbijamlgcebgeaaDoorW.PrintWords Go.Proofs.YtbijamlgcebgeaaDoorW.PrintLast Go.Proofs.YtbijamlgcebgeaaDoorW.PrintMore
attribute [local go_sem] max2_int min2_int max_two min_two max_three min_three max_four min_four
attribute [local go_sem high] eqA36
set_option maxHeartbeats 8000000 in
set_option maxRecDepth 100000 in
theorem lR.p1 : lR.c0.1.1 := by
 intro k a0_0 a0_1 a0_2 a0_3 a0_4 A0_5 c0_5 l0_5 a1 a2_0 a2_1 a2_2 a2_3 a2_4 a2_5 r w hu66 hu67 hu23 hu36 HTAB HR0_5 HC0_5 t103 t104 t105 t106 t107 t108 A4 t112 A5 y115 Ny115 z0_1 gb101 w6 GW101 GE101 gb102 w7 GW102 GE102 NB101_102 NB102_101 hnb8 hnc8 w10 gb111 w11 GW111 GE111 NB101_111 NB111_101 NB102_111 NB111_102 hnb12 hnc12 hnb13 hnc13 Ao15 co15 w16 v116 w17 HO110 z0_2 z0_3 z0_4 z0_5 z0_6 wr u10 u38 u39 u40 u41 u42 u43 u44 u45 u46 u47 u48 u49 u50 u51 u52 u53 z0_7 z0_8 x10_1 x11_1 k1 z0_9 HK1 c19b0 t122 A27 t125 A28 t128 t129 A29 t131 A30 t134 A31 t137 t140 A32 t141 A33 t144 A34 t147 t148 t149 A35 HC36 Ao37 co37 HO114 HO117 z0_10 z0_11 z0_12 z0_13 z0_14 w38 z0_15 w39 z0_16 w40 Ao41 co41 Ao42 co42 z0_17 w43 z0_18 z0_19 z0_20 w44 z0_21 w45 z0_22 w46 Ao47 co47 Ao48 co48 z0_23 w49 v138 z0_24 z0_25 z0_26 HT_ HW_ w50 HO_8 HO_9 HO_10 HO124 HO127 HO133 HO136 HO139 BK101 BK102 BK111 HB hHeld
 intro hCont
 refine two_ (i := 2) (j := 9) (Ni := some 76) (Nj := some 17) (bl 12 15) (bl 12 523) rfl rfl rfl rfl (two_of HT_.out (by kernel_rfl)) (by decide) (by decide) (fun K hK => ?_) (fun K hK => ?_)
 ·skip
  refine goes_ Tryd.func43 (by kernel_rfl) rfl #[.slice Ao15 t108.length co15] (by rfl) rfl rfl (by (try simp only [List.map_toArray, List.map_cons, List.map_nil]); first | done | rfl | (simp only [List.length_drop, List.length_take]; rfl)) ?_
  with_reducible refine (smaltolaw03_own.calls _ _ t108 t141 _ ?side1 ?side2 A33.out).mono ?_
  (case side1 => exact rC HO_8)
  (case side2 => exact (Kd.R_reads' HO_8.out).2.1)
  rintro e w51 ⟨v142, rfl, ho0, hb⟩
  refine ⟨_, rfl, ?_⟩
  have n0_ := Aside0.mk (Kd.R_elder' (R_ HO_8) (Kd.R_base ho0) hb)
  have n1_ := RB HO_9 hb
  have n2_ := RB HO_10 hb
  have n3_ := Aside0.mk (Kd.R_elder' (R_ HO124) (Kd.R_base ho0) hb)
  have n4_ := RB HO127 hb
  have n5_ := Aside0.mk (Kd.R_elder' (R_ HO133) (Kd.R_base ho0) hb)
  have n6_ := RB HO136 hb
  have n7_ := RB HO139 hb
  have n8_ := Aside0.mk (Kd.R_lower (Kd.R_new' (Kd.R_new' (Kd.R_new' ho0 (Kd.R_lt (R_ HO_8))) (Kd.R_lt (R_ HO124))) (Kd.R_lt (R_ HO133))) (below_size (Bq HB)))
  have n9_ := bb BK101 hb
  have n10_ := bb BK102 hb
  have n11_ := bb BK111 hb
  have n12_ := Aside0.mk (below_step (Bq HB) hb)
  clear HO_8
  clear HO_9
  clear HO_10
  clear HO124
  clear HO127
  clear HO133
  clear HO136
  clear HO139
  clear BK101
  clear BK102
  clear BK111
  clear HB
  have HO_8 := n0_
  have HO_9 := n1_
  have HO_10 := n2_
  have HO124 := n3_
  have HO127 := n4_
  have HO133 := n5_
  have HO136 := n6_
  have HO139 := n7_
  have HO143 := n8_
  have BK101 := n9_
  have BK102 := n10_
  have BK111 := n11_
  have HB := n12_
  clear n0_ n1_ n2_ n3_ n4_ n5_ n6_ n7_ n8_ n9_ n10_ n11_ n12_
  (try clear hb)
  (try clear hb2)
  (try clear hk)
  (try clear hi)
  (try clear ho0)
  refine hK.out _ _ ⟨kc BK111 0, kc BK111 1, kc BK111 2, kc BK111 3, kc BK111 4⟩ (fun hHeld => ?_)
  clear hK K
  refine nq 76 ?_
  refine two_ (i := 4) (j := 9) (Ni := some 78) (Nj := some 17) (bl 12 31) (bl 12 527) rfl rfl rfl rfl (two_of HT_.out (by kernel_rfl)) (by decide) (by decide) (fun K hK => ?_) (fun K hK => ?_)
  ·skip
   refine goes_ Tryd.func15 (by kernel_rfl) rfl #[.slice Ao37 t112.length co37] (by rfl) rfl rfl (by (try simp only [List.map_toArray, List.map_cons, List.map_nil]); first | done | rfl | (simp only [List.length_drop, List.length_take]; rfl)) ?_
   with_reducible refine (smaltolaw03_ints.calls _ _ t112 t144 _ ?side1 ?side2 A34.out).mono ?_
   (case side1 => exact rC HO_9)
   (case side2 => exact (Kd.R_reads' HO_9.out).2.1)
   rintro e w52 ⟨v145, rfl, ho0, hb⟩
   refine ⟨_, rfl, ?_⟩
   have n0_ := RB HO_8 hb
   have n1_ := Aside0.mk (Kd.R_elder' (R_ HO_9) (Kd.R_base ho0) hb)
   have n2_ := Aside0.mk (Kd.R_elder' (R_ HO_10) (Kd.R_base ho0) hb)
   have n3_ := RB HO124 hb
   have n4_ := Aside0.mk (Kd.R_elder' (R_ HO127) (Kd.R_base ho0) hb)
   have n5_ := RB HO133 hb
   have n6_ := Aside0.mk (Kd.R_elder' (R_ HO136) (Kd.R_base ho0) hb)
   have n7_ := Aside0.mk (Kd.R_elder' (R_ HO139) (Kd.R_base ho0) hb)
   have n8_ := RB HO143 hb
   have n9_ := Aside0.mk (Kd.R_lower (Kd.R_new' (Kd.R_new' (Kd.R_new' (Kd.R_new' (Kd.R_new' ho0 (Kd.R_lt (R_ HO_9))) (Kd.R_lt (R_ HO_10))) (Kd.R_lt (R_ HO127))) (Kd.R_lt (R_ HO136))) (Kd.R_lt (R_ HO139))) (below_size (Bq HB)))
   have n10_ := bb BK101 hb
   have n11_ := bb BK102 hb
   have n12_ := bb BK111 hb
   have n13_ := Aside0.mk (below_step (Bq HB) hb)
   clear HO_8
   clear HO_9
   clear HO_10
   clear HO124
   clear HO127
   clear HO133
   clear HO136
   clear HO139
   clear HO143
   clear BK101
   clear BK102
   clear BK111
   clear HB
   have HO_8 := n0_
   have HO_9 := n1_
   have HO_10 := n2_
   have HO124 := n3_
   have HO127 := n4_
   have HO133 := n5_
   have HO136 := n6_
   have HO139 := n7_
   have HO143 := n8_
   have HO146 := n9_
   have BK101 := n10_
   have BK102 := n11_
   have BK111 := n12_
   have HB := n13_
   clear n0_ n1_ n2_ n3_ n4_ n5_ n6_ n7_ n8_ n9_ n10_ n11_ n12_ n13_
   (try clear hb)
   (try clear hb2)
   (try clear hk)
   (try clear hi)
   (try clear ho0)
   obtain ⟨Ao53, co53, eo53⟩ := Kd.R_slice HO143.out
   (first | subst eo53 | (injection eo53 with f1_ f2_ f3_; have f4_ := f1_.symm; have f5_ := f3_.symm; clear f1_ f2_ f3_; subst f4_; subst f5_))
   obtain ⟨Ao54, co54, eo54⟩ := Kd.R_slice HO146.out
   (first | subst eo54 | (injection eo54 with f1_ f2_ f3_; have f4_ := f1_.symm; have f5_ := f3_.symm; clear f1_ f2_ f3_; subst f4_; subst f5_))
   refine hK.out _ _ ⟨kc BK111 0, kc BK111 1, kc BK111 2, kc BK111 3, kc BK111 4⟩ (fun hHeld => ?_)
   clear hK K
   refine nq 78 ?_
   refine two_ (i := 5) (j := 9) (Ni := some 79) (Nj := some 17) (bl 12 63) (bl 12 543) rfl rfl rfl rfl (two_of HT_.out (by kernel_rfl)) (by decide) (by decide) (fun K hK => ?_) (fun K hK => ?_)
   ·skip
    refine goes_ Tryd.func19 (by kernel_rfl) rfl #[.agg #[.int .i64 t103, .int .i64 t104, .int .i64 t105, .int .i64 t106, .int .i64 t107], .slice Ao53 t141.length co53, .slice Ao54 t144.length co54] (by rfl) rfl rfl (by (try simp only [List.map_toArray, List.map_cons, List.map_nil]); first | done | rfl | (simp only [List.length_drop, List.length_take]; rfl)) ?_
    with_reducible refine (fork_Heat.calls t103 t104 t105 t106 t107 _ _ t141 _ _ t144 t147 t148 t149 _ ?side5 ?side1 ?side2 ?side3 ?side4 A35.out).mono ?_
    (case side1 => exact rC HO143)
    (case side2 => exact (Kd.R_reads' HO143.out).2.1)
    (case side3 => exact rC HO146)
    (case side4 => exact (Kd.R_reads' HO146.out).2.1)
    (case side5 => exact Hand.TabW.below HTAB.out (Bq HB))
    rintro e w55 ⟨rfl, hb⟩
    refine ⟨_, rfl, ?_⟩
    have n0_ := RB HO_8 hb
    have n1_ := RB HO_9 hb
    have n2_ := RB HO_10 hb
    have n3_ := RB HO124 hb
    have n4_ := RB HO127 hb
    have n5_ := RB HO133 hb
    have n6_ := RB HO136 hb
    have n7_ := RB HO139 hb
    have n8_ := RB HO143 hb
    have n9_ := RB HO146 hb
    have n10_ := bb BK101 hb
    have n11_ := bb BK102 hb
    have n12_ := bb BK111 hb
    have n13_ := Aside0.mk (below_step (Bq HB) hb)
    clear HO_8
    clear HO_9
    clear HO_10
    clear HO124
    clear HO127
    clear HO133
    clear HO136
    clear HO139
    clear HO143
    clear HO146
    clear BK101
    clear BK102
    clear BK111
    clear HB
    have HO_8 := n0_
    have HO_9 := n1_
    have HO_10 := n2_
    have HO124 := n3_
    have HO127 := n4_
    have HO133 := n5_
    have HO136 := n6_
    have HO139 := n7_
    have HO143 := n8_
    have HO146 := n9_
    have BK101 := n10_
    have BK102 := n11_
    have BK111 := n12_
    have HB := n13_
    clear n0_ n1_ n2_ n3_ n4_ n5_ n6_ n7_ n8_ n9_ n10_ n11_ n12_ n13_
    (try clear hb)
    (try clear hb2)
    (try clear hk)
    (try clear hi)
    refine hK.out _ _ ⟨kc BK111 0, kc BK111 1, kc BK111 2, kc BK111 3, kc BK111 4⟩ (fun hHeld => ?_)
    clear hK K
    refine nq 79 ?_
    refine pS 6 73 12 127 HT_ ?_
    refine pS 7 80 12 255 HT_ ?_
    refine pS 8 81 12 511 HT_ ?_
    refine one_ (i := 9) (N := some 17) (bl 12 1023) rfl rfl (one_of HT_.out (by kernel_rfl)) (by decide) (fun K hK => ?_)
    refine box_step ?hg (N := 17) ?hd (cs := #[.int .i64 0, .int .i64 0]) (t := 36) ?hr ?_; (case hd => rfl); (case hg => rfl); (case hr => first | (go_simp; done) | (go_simp; rfl))
    intro gb150 hg w56 hbox hb
    have n0_ := RB HO_8 hb
    have n1_ := RB HO_9 hb
    have n2_ := RB HO_10 hb
    have n3_ := RB HO124 hb
    have n4_ := RB HO127 hb
    have n5_ := RB HO133 hb
    have n6_ := RB HO136 hb
    have n7_ := RB HO139 hb
    have n8_ := RB HO143 hb
    have n9_ := RB HO146 hb
    have n10_ := bb BK101 hb
    have n11_ := bb BK102 hb
    have n12_ := bb BK111 hb
    have n13_ := Aside0.mk (below_step (Bq HB) hb)
    have n14_ := Aside0.mk (hbox)
    have n15_ := Aside0.mk ((by rw [hg]; exact (below_size (Bq HB)) : w.heap.size ≤ gb150))
    have n16_ := Aside0.mk ((by rw [hg]; exact (below_size (Bq HB)) : w.heap.size ≤ gb150))
    have n17_ := Aside0.mk ((by rw [hg]; exact Nat.ne_of_lt (blk_lt (g := gb101) (o := .cells #[.int .u8 a0_0, .int .u8 a0_1, .int .u8 a0_2, .int .u8 a0_3, .int .u8 a0_4, .slice A0_5 l0_5.length c0_5] 66 (0, 0)) (b_ BK101)) : gb101 ≠ gb150))
    have n18_ := Aside0.mk ((by rw [hg]; exact Nat.ne_of_gt (blk_lt (g := gb101) (o := .cells #[.int .u8 a0_0, .int .u8 a0_1, .int .u8 a0_2, .int .u8 a0_3, .int .u8 a0_4, .slice A0_5 l0_5.length c0_5] 66 (0, 0)) (b_ BK101)) : gb150 ≠ gb101))
    have n19_ := Aside0.mk ((by rw [hg]; exact Nat.ne_of_lt (blk_lt (g := gb102) (o := .cells #[.int .u8 a2_0, .int .u8 a2_1, .int .u8 a2_2, .int .u8 a2_3, .int .u8 a2_4, .int .u8 a2_5] 67 (0, 0)) (b_ BK102)) : gb102 ≠ gb150))
    have n20_ := Aside0.mk ((by rw [hg]; exact Nat.ne_of_gt (blk_lt (g := gb102) (o := .cells #[.int .u8 a2_0, .int .u8 a2_1, .int .u8 a2_2, .int .u8 a2_3, .int .u8 a2_4, .int .u8 a2_5] 67 (0, 0)) (b_ BK102)) : gb150 ≠ gb102))
    have n21_ := Aside0.mk ((by rw [hg]; exact Nat.ne_of_lt (blk_lt (g := gb111) (o := .cells #[.int .i64 t103, .int .i64 t104, .int .i64 t105, .int .i64 t106, .int .i64 t107] 23 (0, 0)) (b_ BK111)) : gb111 ≠ gb150))
    have n22_ := Aside0.mk ((by rw [hg]; exact Nat.ne_of_gt (blk_lt (g := gb111) (o := .cells #[.int .i64 t103, .int .i64 t104, .int .i64 t105, .int .i64 t106, .int .i64 t107] 23 (0, 0)) (b_ BK111)) : gb150 ≠ gb111))
    clear HO_8
    clear HO_9
    clear HO_10
    clear HO124
    clear HO127
    clear HO133
    clear HO136
    clear HO139
    clear HO143
    clear HO146
    clear BK101
    clear BK102
    clear BK111
    clear HB
    have HO_8 := n0_
    have HO_9 := n1_
    have HO_10 := n2_
    have HO124 := n3_
    have HO127 := n4_
    have HO133 := n5_
    have HO136 := n6_
    have HO139 := n7_
    have HO143 := n8_
    have HO146 := n9_
    have BK101 := n10_
    have BK102 := n11_
    have BK111 := n12_
    have HB := n13_
    have BK150 := n14_
    have GW150 := n15_
    have GE150 := n16_
    have NB101_150 := n17_
    have NB150_101 := n18_
    have NB102_150 := n19_
    have NB150_102 := n20_
    have NB111_150 := n21_
    have NB150_111 := n22_
    clear n0_ n1_ n2_ n3_ n4_ n5_ n6_ n7_ n8_ n9_ n10_ n11_ n12_ n13_ n14_ n15_ n16_ n17_ n18_ n19_ n20_ n21_ n22_
    clear hb hbox hg
    refine hK.out _ _ ⟨kc BK111 0, kc BK111 1, kc BK111 2, kc BK111 3, kc BK111 4⟩ (fun hHeld => ?_)
    clear hK K
    refine nq 17 ?_
    exact norm_ (by simp only [putAll, Act.put, List.setIfInBounds_toArray, List.set_cons_zero, List.set_cons_succ]) (hCont (.slice Ao53 t141.length co53, .slice Ao54 t144.length co54, gb150) _ ⟨hHeld, (Kd.R_mono (R_ HO124) (fun _ hk => ⟨hk.1.2, ⟨hk.2, hk.1.1.2⟩⟩)), (Kd.R_mono (R_ HO127) (fun _ hk => ⟨hk.1.1.2, ⟨hk.1.2, ⟨hk.2, ⟨hk.1.1.1.2, hk.1.1.1.1.2⟩⟩⟩⟩)), (Kd.R_mono (R_ HO133) (fun _ hk => ⟨hk.1.2, ⟨hk.2, hk.1.1.2⟩⟩)), (Kd.R_mono (R_ HO136) (fun _ hk => ⟨hk.1.1.2, ⟨hk.1.2, ⟨hk.2, ⟨hk.1.1.1.2, hk.1.1.1.1.2⟩⟩⟩⟩)), (Kd.R_mono (R_ HO139) (fun _ hk => ⟨hk.1.1.2, ⟨hk.1.2, ⟨hk.2, ⟨hk.1.1.1.2, hk.1.1.1.1.2⟩⟩⟩⟩)), (Kd.R_mono (R_ HO143) (fun _ hk => ⟨hk.1.2, ⟨hk.2, hk.1.1.2⟩⟩)), (Kd.R_mono (R_ HO146) (fun _ hk => ⟨hk.1.1.2, ⟨hk.1.2, ⟨hk.2, ⟨hk.1.1.1.2, hk.1.1.1.1.2⟩⟩⟩⟩)), (Kd.R_mono (R_ HO_10) (fun _ hk => ⟨hk.1.1.1.2, ⟨hk.1.1.2, ⟨hk.1.2, ⟨hk.2, hk.1.1.1.1⟩⟩⟩⟩)), (Kd.R_mono (R_ HO_8) (fun _ hk => ⟨hk.1.1.2, ⟨hk.1.2, hk.2⟩⟩)), (Kd.R_mono (R_ HO_9) (fun _ hk => ⟨hk.1.1.1.2, ⟨hk.1.1.2, ⟨hk.1.2, ⟨hk.2, hk.1.1.1.1⟩⟩⟩⟩)), (b_ BK101), (b_ BK102), (b_ BK111), (b_ BK150), GW150.out, GE150.out, NB101_150.out, NB150_101.out, NB102_150.out, NB150_102.out, NB111_150.out, NB150_111.out, (Bq HB)⟩)
   skip
   refine box_step ?hg (N := 17) ?hd (cs := #[.int .i64 0, .int .i64 0]) (t := 36) ?hr ?_; (case hd => rfl); (case hg => rfl); (case hr => first | (go_simp; done) | (go_simp; rfl))
   intro gb150 hg w53 hbox hb
   have n0_ := RB HO_8 hb
   have n1_ := RB HO_9 hb
   have n2_ := RB HO_10 hb
   have n3_ := RB HO124 hb
   have n4_ := RB HO127 hb
   have n5_ := RB HO133 hb
   have n6_ := RB HO136 hb
   have n7_ := RB HO139 hb
   have n8_ := RB HO143 hb
   have n9_ := RB HO146 hb
   have n10_ := bb BK101 hb
   have n11_ := bb BK102 hb
   have n12_ := bb BK111 hb
   have n13_ := Aside0.mk (below_step (Bq HB) hb)
   have n14_ := Aside0.mk (hbox)
   have n15_ := Aside0.mk ((by rw [hg]; exact (below_size (Bq HB)) : w.heap.size ≤ gb150))
   have n16_ := Aside0.mk ((by rw [hg]; exact (below_size (Bq HB)) : w.heap.size ≤ gb150))
   have n17_ := Aside0.mk ((by rw [hg]; exact Nat.ne_of_lt (blk_lt (g := gb101) (o := .cells #[.int .u8 a0_0, .int .u8 a0_1, .int .u8 a0_2, .int .u8 a0_3, .int .u8 a0_4, .slice A0_5 l0_5.length c0_5] 66 (0, 0)) (b_ BK101)) : gb101 ≠ gb150))
   have n18_ := Aside0.mk ((by rw [hg]; exact Nat.ne_of_gt (blk_lt (g := gb101) (o := .cells #[.int .u8 a0_0, .int .u8 a0_1, .int .u8 a0_2, .int .u8 a0_3, .int .u8 a0_4, .slice A0_5 l0_5.length c0_5] 66 (0, 0)) (b_ BK101)) : gb150 ≠ gb101))
   have n19_ := Aside0.mk ((by rw [hg]; exact Nat.ne_of_lt (blk_lt (g := gb102) (o := .cells #[.int .u8 a2_0, .int .u8 a2_1, .int .u8 a2_2, .int .u8 a2_3, .int .u8 a2_4, .int .u8 a2_5] 67 (0, 0)) (b_ BK102)) : gb102 ≠ gb150))
   have n20_ := Aside0.mk ((by rw [hg]; exact Nat.ne_of_gt (blk_lt (g := gb102) (o := .cells #[.int .u8 a2_0, .int .u8 a2_1, .int .u8 a2_2, .int .u8 a2_3, .int .u8 a2_4, .int .u8 a2_5] 67 (0, 0)) (b_ BK102)) : gb150 ≠ gb102))
   have n21_ := Aside0.mk ((by rw [hg]; exact Nat.ne_of_lt (blk_lt (g := gb111) (o := .cells #[.int .i64 t103, .int .i64 t104, .int .i64 t105, .int .i64 t106, .int .i64 t107] 23 (0, 0)) (b_ BK111)) : gb111 ≠ gb150))
   have n22_ := Aside0.mk ((by rw [hg]; exact Nat.ne_of_gt (blk_lt (g := gb111) (o := .cells #[.int .i64 t103, .int .i64 t104, .int .i64 t105, .int .i64 t106, .int .i64 t107] 23 (0, 0)) (b_ BK111)) : gb150 ≠ gb111))
   clear HO_8
   clear HO_9
   clear HO_10
   clear HO124
   clear HO127
   clear HO133
   clear HO136
   clear HO139
   clear HO143
   clear HO146
   clear BK101
   clear BK102
   clear BK111
   clear HB
   have HO_8 := n0_
   have HO_9 := n1_
   have HO_10 := n2_
   have HO124 := n3_
   have HO127 := n4_
   have HO133 := n5_
   have HO136 := n6_
   have HO139 := n7_
   have HO143 := n8_
   have HO146 := n9_
   have BK101 := n10_
   have BK102 := n11_
   have BK111 := n12_
   have HB := n13_
   have BK150 := n14_
   have GW150 := n15_
   have GE150 := n16_
   have NB101_150 := n17_
   have NB150_101 := n18_
   have NB102_150 := n19_
   have NB150_102 := n20_
   have NB111_150 := n21_
   have NB150_111 := n22_
   clear n0_ n1_ n2_ n3_ n4_ n5_ n6_ n7_ n8_ n9_ n10_ n11_ n12_ n13_ n14_ n15_ n16_ n17_ n18_ n19_ n20_ n21_ n22_
   clear hb hbox hg
   obtain ⟨Ao54, co54, eo54⟩ := Kd.R_slice HO143.out
   (first | subst eo54 | (injection eo54 with f1_ f2_ f3_; have f4_ := f1_.symm; have f5_ := f3_.symm; clear f1_ f2_ f3_; subst f4_; subst f5_))
   obtain ⟨Ao55, co55, eo55⟩ := Kd.R_slice HO146.out
   (first | subst eo55 | (injection eo55 with f1_ f2_ f3_; have f4_ := f1_.symm; have f5_ := f3_.symm; clear f1_ f2_ f3_; subst f4_; subst f5_))
   refine hK.out _ _ ⟨kc BK111 0, kc BK111 1, kc BK111 2, kc BK111 3, kc BK111 4⟩ (fun hHeld => ?_)
   clear hK K
   refine nq 17 ?_
   refine one_ (i := 5) (N := some 79) (bl 12 575) rfl rfl (one_of HT_.out (by kernel_rfl)) (by decide) (fun K hK => ?_)
   refine goes_ Tryd.func19 (by kernel_rfl) rfl #[.agg #[.int .i64 t103, .int .i64 t104, .int .i64 t105, .int .i64 t106, .int .i64 t107], .slice Ao54 t141.length co54, .slice Ao55 t144.length co55] (by rfl) rfl rfl (by (try simp only [List.map_toArray, List.map_cons, List.map_nil]); first | done | rfl | (simp only [List.length_drop, List.length_take]; rfl)) ?_
   with_reducible refine (fork_Heat.calls t103 t104 t105 t106 t107 _ _ t141 _ _ t144 t147 t148 t149 _ ?side5 ?side1 ?side2 ?side3 ?side4 A35.out).mono ?_
   (case side1 => exact rC HO143)
   (case side2 => exact (Kd.R_reads' HO143.out).2.1)
   (case side3 => exact rC HO146)
   (case side4 => exact (Kd.R_reads' HO146.out).2.1)
   (case side5 => exact Hand.TabW.below HTAB.out (Bq HB))
   rintro e w56 ⟨rfl, hb⟩
   refine ⟨_, rfl, ?_⟩
   have n0_ := RB HO_8 hb
   have n1_ := RB HO_9 hb
   have n2_ := RB HO_10 hb
   have n3_ := RB HO124 hb
   have n4_ := RB HO127 hb
   have n5_ := RB HO133 hb
   have n6_ := RB HO136 hb
   have n7_ := RB HO139 hb
   have n8_ := RB HO143 hb
   have n9_ := RB HO146 hb
   have n10_ := bb BK101 hb
   have n11_ := bb BK102 hb
   have n12_ := bb BK111 hb
   have n13_ := bb BK150 hb
   have n14_ := Aside0.mk (below_step (Bq HB) hb)
   clear HO_8
   clear HO_9
   clear HO_10
   clear HO124
   clear HO127
   clear HO133
   clear HO136
   clear HO139
   clear HO143
   clear HO146
   clear BK101
   clear BK102
   clear BK111
   clear BK150
   clear HB
   have HO_8 := n0_
   have HO_9 := n1_
   have HO_10 := n2_
   have HO124 := n3_
   have HO127 := n4_
   have HO133 := n5_
   have HO136 := n6_
   have HO139 := n7_
   have HO143 := n8_
   have HO146 := n9_
   have BK101 := n10_
   have BK102 := n11_
   have BK111 := n12_
   have BK150 := n13_
   have HB := n14_
   clear n0_ n1_ n2_ n3_ n4_ n5_ n6_ n7_ n8_ n9_ n10_ n11_ n12_ n13_ n14_
   (try clear hb)
   (try clear hb2)
   (try clear hk)
   (try clear hi)
   refine hK.out _ _ ⟨kc BK111 0, kc BK111 1, kc BK111 2, kc BK111 3, kc BK111 4⟩ (fun hHeld => ?_)
   clear hK K
   refine nq 79 ?_
   refine pS 6 73 12 639 HT_ ?_
   refine pS 7 80 12 767 HT_ ?_
   refine pS 8 81 12 1023 HT_ ?_
   exact norm_ (by simp only [putAll, Act.put, List.setIfInBounds_toArray, List.set_cons_zero, List.set_cons_succ]) (hCont (.slice Ao54 t141.length co54, .slice Ao55 t144.length co55, gb150) _ ⟨hHeld, (Kd.R_mono (R_ HO124) (fun _ hk => ⟨hk.1.2, ⟨hk.2, hk.1.1.2⟩⟩)), (Kd.R_mono (R_ HO127) (fun _ hk => ⟨hk.1.1.2, ⟨hk.1.2, ⟨hk.2, ⟨hk.1.1.1.2, hk.1.1.1.1.2⟩⟩⟩⟩)), (Kd.R_mono (R_ HO133) (fun _ hk => ⟨hk.1.2, ⟨hk.2, hk.1.1.2⟩⟩)), (Kd.R_mono (R_ HO136) (fun _ hk => ⟨hk.1.1.2, ⟨hk.1.2, ⟨hk.2, ⟨hk.1.1.1.2, hk.1.1.1.1.2⟩⟩⟩⟩)), (Kd.R_mono (R_ HO139) (fun _ hk => ⟨hk.1.1.2, ⟨hk.1.2, ⟨hk.2, ⟨hk.1.1.1.2, hk.1.1.1.1.2⟩⟩⟩⟩)), (Kd.R_mono (R_ HO143) (fun _ hk => ⟨hk.1.2, ⟨hk.2, hk.1.1.2⟩⟩)), (Kd.R_mono (R_ HO146) (fun _ hk => ⟨hk.1.1.2, ⟨hk.1.2, ⟨hk.2, ⟨hk.1.1.1.2, hk.1.1.1.1.2⟩⟩⟩⟩)), (Kd.R_mono (R_ HO_10) (fun _ hk => ⟨hk.1.1.1.2, ⟨hk.1.1.2, ⟨hk.1.2, ⟨hk.2, hk.1.1.1.1⟩⟩⟩⟩)), (Kd.R_mono (R_ HO_8) (fun _ hk => ⟨hk.1.1.2, ⟨hk.1.2, hk.2⟩⟩)), (Kd.R_mono (R_ HO_9) (fun _ hk => ⟨hk.1.1.1.2, ⟨hk.1.1.2, ⟨hk.1.2, ⟨hk.2, hk.1.1.1.1⟩⟩⟩⟩)), (b_ BK101), (b_ BK102), (b_ BK111), (b_ BK150), GW150.out, GE150.out, NB101_150.out, NB150_101.out, NB102_150.out, NB150_102.out, NB111_150.out, NB150_111.out, (Bq HB)⟩)
  skip
  refine box_step ?hg (N := 17) ?hd (cs := #[.int .i64 0, .int .i64 0]) (t := 36) ?hr ?_; (case hd => rfl); (case hg => rfl); (case hr => first | (go_simp; done) | (go_simp; rfl))
  intro gb150 hg w52 hbox hb
  have n0_ := RB HO_8 hb
  have n1_ := RB HO_9 hb
  have n2_ := RB HO_10 hb
  have n3_ := RB HO124 hb
  have n4_ := RB HO127 hb
  have n5_ := RB HO133 hb
  have n6_ := RB HO136 hb
  have n7_ := RB HO139 hb
  have n8_ := RB HO143 hb
  have n9_ := bb BK101 hb
  have n10_ := bb BK102 hb
  have n11_ := bb BK111 hb
  have n12_ := Aside0.mk (below_step (Bq HB) hb)
  have n13_ := Aside0.mk (hbox)
  have n14_ := Aside0.mk ((by rw [hg]; exact (below_size (Bq HB)) : w.heap.size ≤ gb150))
  have n15_ := Aside0.mk ((by rw [hg]; exact (below_size (Bq HB)) : w.heap.size ≤ gb150))
  have n16_ := Aside0.mk ((by rw [hg]; exact Nat.ne_of_lt (blk_lt (g := gb101) (o := .cells #[.int .u8 a0_0, .int .u8 a0_1, .int .u8 a0_2, .int .u8 a0_3, .int .u8 a0_4, .slice A0_5 l0_5.length c0_5] 66 (0, 0)) (b_ BK101)) : gb101 ≠ gb150))
  have n17_ := Aside0.mk ((by rw [hg]; exact Nat.ne_of_gt (blk_lt (g := gb101) (o := .cells #[.int .u8 a0_0, .int .u8 a0_1, .int .u8 a0_2, .int .u8 a0_3, .int .u8 a0_4, .slice A0_5 l0_5.length c0_5] 66 (0, 0)) (b_ BK101)) : gb150 ≠ gb101))
  have n18_ := Aside0.mk ((by rw [hg]; exact Nat.ne_of_lt (blk_lt (g := gb102) (o := .cells #[.int .u8 a2_0, .int .u8 a2_1, .int .u8 a2_2, .int .u8 a2_3, .int .u8 a2_4, .int .u8 a2_5] 67 (0, 0)) (b_ BK102)) : gb102 ≠ gb150))
  have n19_ := Aside0.mk ((by rw [hg]; exact Nat.ne_of_gt (blk_lt (g := gb102) (o := .cells #[.int .u8 a2_0, .int .u8 a2_1, .int .u8 a2_2, .int .u8 a2_3, .int .u8 a2_4, .int .u8 a2_5] 67 (0, 0)) (b_ BK102)) : gb150 ≠ gb102))
  have n20_ := Aside0.mk ((by rw [hg]; exact Nat.ne_of_lt (blk_lt (g := gb111) (o := .cells #[.int .i64 t103, .int .i64 t104, .int .i64 t105, .int .i64 t106, .int .i64 t107] 23 (0, 0)) (b_ BK111)) : gb111 ≠ gb150))
  have n21_ := Aside0.mk ((by rw [hg]; exact Nat.ne_of_gt (blk_lt (g := gb111) (o := .cells #[.int .i64 t103, .int .i64 t104, .int .i64 t105, .int .i64 t106, .int .i64 t107] 23 (0, 0)) (b_ BK111)) : gb150 ≠ gb111))
  clear HO_8
  clear HO_9
  clear HO_10
  clear HO124
  clear HO127
  clear HO133
  clear HO136
  clear HO139
  clear HO143
  clear BK101
  clear BK102
  clear BK111
  clear HB
  have HO_8 := n0_
  have HO_9 := n1_
  have HO_10 := n2_
  have HO124 := n3_
  have HO127 := n4_
  have HO133 := n5_
  have HO136 := n6_
  have HO139 := n7_
  have HO143 := n8_
  have BK101 := n9_
  have BK102 := n10_
  have BK111 := n11_
  have HB := n12_
  have BK150 := n13_
  have GW150 := n14_
  have GE150 := n15_
  have NB101_150 := n16_
  have NB150_101 := n17_
  have NB102_150 := n18_
  have NB150_102 := n19_
  have NB111_150 := n20_
  have NB150_111 := n21_
  clear n0_ n1_ n2_ n3_ n4_ n5_ n6_ n7_ n8_ n9_ n10_ n11_ n12_ n13_ n14_ n15_ n16_ n17_ n18_ n19_ n20_ n21_
  clear hb hbox hg
  refine hK.out _ _ ⟨kc BK111 0, kc BK111 1, kc BK111 2, kc BK111 3, kc BK111 4⟩ (fun hHeld => ?_)
  clear hK K
  refine nq 17 ?_
  refine one_ (i := 4) (N := some 78) (bl 12 543) rfl rfl (one_of HT_.out (by kernel_rfl)) (by decide) (fun K hK => ?_)
  refine goes_ Tryd.func15 (by kernel_rfl) rfl #[.slice Ao37 t112.length co37] (by rfl) rfl rfl (by (try simp only [List.map_toArray, List.map_cons, List.map_nil]); first | done | rfl | (simp only [List.length_drop, List.length_take]; rfl)) ?_
  with_reducible refine (smaltolaw03_ints.calls _ _ t112 t144 _ ?side1 ?side2 A34.out).mono ?_
  (case side1 => exact rC HO_9)
  (case side2 => exact (Kd.R_reads' HO_9.out).2.1)
  rintro e w53 ⟨v145, rfl, ho0, hb⟩
  refine ⟨_, rfl, ?_⟩
  have n0_ := RB HO_8 hb
  have n1_ := Aside0.mk (Kd.R_elder' (R_ HO_9) (Kd.R_base ho0) hb)
  have n2_ := Aside0.mk (Kd.R_elder' (R_ HO_10) (Kd.R_base ho0) hb)
  have n3_ := RB HO124 hb
  have n4_ := Aside0.mk (Kd.R_elder' (R_ HO127) (Kd.R_base ho0) hb)
  have n5_ := RB HO133 hb
  have n6_ := Aside0.mk (Kd.R_elder' (R_ HO136) (Kd.R_base ho0) hb)
  have n7_ := Aside0.mk (Kd.R_elder' (R_ HO139) (Kd.R_base ho0) hb)
  have n8_ := RB HO143 hb
  have n9_ := Aside0.mk (Kd.R_lower (Kd.R_new' (Kd.R_new' (Kd.R_new' (Kd.R_new' (Kd.R_new' ho0 (Kd.R_lt (R_ HO_9))) (Kd.R_lt (R_ HO_10))) (Kd.R_lt (R_ HO127))) (Kd.R_lt (R_ HO136))) (Kd.R_lt (R_ HO139))) (below_size (Bq HB)))
  have n10_ := bb BK101 hb
  have n11_ := bb BK102 hb
  have n12_ := bb BK111 hb
  have n13_ := bb BK150 hb
  have n14_ := Aside0.mk (below_step (Bq HB) hb)
  clear HO_8
  clear HO_9
  clear HO_10
  clear HO124
  clear HO127
  clear HO133
  clear HO136
  clear HO139
  clear HO143
  clear BK101
  clear BK102
  clear BK111
  clear BK150
  clear HB
  have HO_8 := n0_
  have HO_9 := n1_
  have HO_10 := n2_
  have HO124 := n3_
  have HO127 := n4_
  have HO133 := n5_
  have HO136 := n6_
  have HO139 := n7_
  have HO143 := n8_
  have HO146 := n9_
  have BK101 := n10_
  have BK102 := n11_
  have BK111 := n12_
  have BK150 := n13_
  have HB := n14_
  clear n0_ n1_ n2_ n3_ n4_ n5_ n6_ n7_ n8_ n9_ n10_ n11_ n12_ n13_ n14_
  (try clear hb)
  (try clear hb2)
  (try clear hk)
  (try clear hi)
  (try clear ho0)
  obtain ⟨Ao54, co54, eo54⟩ := Kd.R_slice HO143.out
  (first | subst eo54 | (injection eo54 with f1_ f2_ f3_; have f4_ := f1_.symm; have f5_ := f3_.symm; clear f1_ f2_ f3_; subst f4_; subst f5_))
  obtain ⟨Ao55, co55, eo55⟩ := Kd.R_slice HO146.out
  (first | subst eo55 | (injection eo55 with f1_ f2_ f3_; have f4_ := f1_.symm; have f5_ := f3_.symm; clear f1_ f2_ f3_; subst f4_; subst f5_))
  refine hK.out _ _ ⟨kc BK111 0, kc BK111 1, kc BK111 2, kc BK111 3, kc BK111 4⟩ (fun hHeld => ?_)
  clear hK K
  refine nq 78 ?_
  refine one_ (i := 5) (N := some 79) (bl 12 575) rfl rfl (one_of HT_.out (by kernel_rfl)) (by decide) (fun K hK => ?_)
  refine goes_ Tryd.func19 (by kernel_rfl) rfl #[.agg #[.int .i64 t103, .int .i64 t104, .int .i64 t105, .int .i64 t106, .int .i64 t107], .slice Ao54 t141.length co54, .slice Ao55 t144.length co55] (by rfl) rfl rfl (by (try simp only [List.map_toArray, List.map_cons, List.map_nil]); first | done | rfl | (simp only [List.length_drop, List.length_take]; rfl)) ?_
  with_reducible refine (fork_Heat.calls t103 t104 t105 t106 t107 _ _ t141 _ _ t144 t147 t148 t149 _ ?side5 ?side1 ?side2 ?side3 ?side4 A35.out).mono ?_
  (case side1 => exact rC HO143)
  (case side2 => exact (Kd.R_reads' HO143.out).2.1)
  (case side3 => exact rC HO146)
  (case side4 => exact (Kd.R_reads' HO146.out).2.1)
  (case side5 => exact Hand.TabW.below HTAB.out (Bq HB))
  rintro e w56 ⟨rfl, hb⟩
  refine ⟨_, rfl, ?_⟩
  have n0_ := RB HO_8 hb
  have n1_ := RB HO_9 hb
  have n2_ := RB HO_10 hb
  have n3_ := RB HO124 hb
  have n4_ := RB HO127 hb
  have n5_ := RB HO133 hb
  have n6_ := RB HO136 hb
  have n7_ := RB HO139 hb
  have n8_ := RB HO143 hb
  have n9_ := RB HO146 hb
  have n10_ := bb BK101 hb
  have n11_ := bb BK102 hb
  have n12_ := bb BK111 hb
  have n13_ := bb BK150 hb
  have n14_ := Aside0.mk (below_step (Bq HB) hb)
  clear HO_8
  clear HO_9
  clear HO_10
  clear HO124
  clear HO127
  clear HO133
  clear HO136
  clear HO139
  clear HO143
  clear HO146
  clear BK101
  clear BK102
  clear BK111
  clear BK150
  clear HB
  have HO_8 := n0_
  have HO_9 := n1_
  have HO_10 := n2_
  have HO124 := n3_
  have HO127 := n4_
  have HO133 := n5_
  have HO136 := n6_
  have HO139 := n7_
  have HO143 := n8_
  have HO146 := n9_
  have BK101 := n10_
  have BK102 := n11_
  have BK111 := n12_
  have BK150 := n13_
  have HB := n14_
  clear n0_ n1_ n2_ n3_ n4_ n5_ n6_ n7_ n8_ n9_ n10_ n11_ n12_ n13_ n14_
  (try clear hb)
  (try clear hb2)
  (try clear hk)
  (try clear hi)
  refine hK.out _ _ ⟨kc BK111 0, kc BK111 1, kc BK111 2, kc BK111 3, kc BK111 4⟩ (fun hHeld => ?_)
  clear hK K
  refine nq 79 ?_
  refine pS 6 73 12 639 HT_ ?_
  refine pS 7 80 12 767 HT_ ?_
  refine pS 8 81 12 1023 HT_ ?_
  exact norm_ (by simp only [putAll, Act.put, List.setIfInBounds_toArray, List.set_cons_zero, List.set_cons_succ]) (hCont (.slice Ao54 t141.length co54, .slice Ao55 t144.length co55, gb150) _ ⟨hHeld, (Kd.R_mono (R_ HO124) (fun _ hk => ⟨hk.1.2, ⟨hk.2, hk.1.1.2⟩⟩)), (Kd.R_mono (R_ HO127) (fun _ hk => ⟨hk.1.1.2, ⟨hk.1.2, ⟨hk.2, ⟨hk.1.1.1.2, hk.1.1.1.1.2⟩⟩⟩⟩)), (Kd.R_mono (R_ HO133) (fun _ hk => ⟨hk.1.2, ⟨hk.2, hk.1.1.2⟩⟩)), (Kd.R_mono (R_ HO136) (fun _ hk => ⟨hk.1.1.2, ⟨hk.1.2, ⟨hk.2, ⟨hk.1.1.1.2, hk.1.1.1.1.2⟩⟩⟩⟩)), (Kd.R_mono (R_ HO139) (fun _ hk => ⟨hk.1.1.2, ⟨hk.1.2, ⟨hk.2, ⟨hk.1.1.1.2, hk.1.1.1.1.2⟩⟩⟩⟩)), (Kd.R_mono (R_ HO143) (fun _ hk => ⟨hk.1.2, ⟨hk.2, hk.1.1.2⟩⟩)), (Kd.R_mono (R_ HO146) (fun _ hk => ⟨hk.1.1.2, ⟨hk.1.2, ⟨hk.2, ⟨hk.1.1.1.2, hk.1.1.1.1.2⟩⟩⟩⟩)), (Kd.R_mono (R_ HO_10) (fun _ hk => ⟨hk.1.1.1.2, ⟨hk.1.1.2, ⟨hk.1.2, ⟨hk.2, hk.1.1.1.1⟩⟩⟩⟩)), (Kd.R_mono (R_ HO_8) (fun _ hk => ⟨hk.1.1.2, ⟨hk.1.2, hk.2⟩⟩)), (Kd.R_mono (R_ HO_9) (fun _ hk => ⟨hk.1.1.1.2, ⟨hk.1.1.2, ⟨hk.1.2, ⟨hk.2, hk.1.1.1.1⟩⟩⟩⟩)), (b_ BK101), (b_ BK102), (b_ BK111), (b_ BK150), GW150.out, GE150.out, NB101_150.out, NB150_101.out, NB102_150.out, NB150_102.out, NB111_150.out, NB150_111.out, (Bq HB)⟩)
 skip
 refine box_step ?hg (N := 17) ?hd (cs := #[.int .i64 0, .int .i64 0]) (t := 36) ?hr ?_; (case hd => rfl); (case hg => rfl); (case hr => first | (go_simp; done) | (go_simp; rfl))
 intro gb150 hg w51 hbox hb
 have n0_ := RB HO_8 hb
 have n1_ := RB HO_9 hb
 have n2_ := RB HO_10 hb
 have n3_ := RB HO124 hb
 have n4_ := RB HO127 hb
 have n5_ := RB HO133 hb
 have n6_ := RB HO136 hb
 have n7_ := RB HO139 hb
 have n8_ := bb BK101 hb
 have n9_ := bb BK102 hb
 have n10_ := bb BK111 hb
 have n11_ := Aside0.mk (below_step (Bq HB) hb)
 have n12_ := Aside0.mk (hbox)
 have n13_ := Aside0.mk ((by rw [hg]; exact (below_size (Bq HB)) : w.heap.size ≤ gb150))
 have n14_ := Aside0.mk ((by rw [hg]; exact (below_size (Bq HB)) : w.heap.size ≤ gb150))
 have n15_ := Aside0.mk ((by rw [hg]; exact Nat.ne_of_lt (blk_lt (g := gb101) (o := .cells #[.int .u8 a0_0, .int .u8 a0_1, .int .u8 a0_2, .int .u8 a0_3, .int .u8 a0_4, .slice A0_5 l0_5.length c0_5] 66 (0, 0)) (b_ BK101)) : gb101 ≠ gb150))
 have n16_ := Aside0.mk ((by rw [hg]; exact Nat.ne_of_gt (blk_lt (g := gb101) (o := .cells #[.int .u8 a0_0, .int .u8 a0_1, .int .u8 a0_2, .int .u8 a0_3, .int .u8 a0_4, .slice A0_5 l0_5.length c0_5] 66 (0, 0)) (b_ BK101)) : gb150 ≠ gb101))
 have n17_ := Aside0.mk ((by rw [hg]; exact Nat.ne_of_lt (blk_lt (g := gb102) (o := .cells #[.int .u8 a2_0, .int .u8 a2_1, .int .u8 a2_2, .int .u8 a2_3, .int .u8 a2_4, .int .u8 a2_5] 67 (0, 0)) (b_ BK102)) : gb102 ≠ gb150))
 have n18_ := Aside0.mk ((by rw [hg]; exact Nat.ne_of_gt (blk_lt (g := gb102) (o := .cells #[.int .u8 a2_0, .int .u8 a2_1, .int .u8 a2_2, .int .u8 a2_3, .int .u8 a2_4, .int .u8 a2_5] 67 (0, 0)) (b_ BK102)) : gb150 ≠ gb102))
 have n19_ := Aside0.mk ((by rw [hg]; exact Nat.ne_of_lt (blk_lt (g := gb111) (o := .cells #[.int .i64 t103, .int .i64 t104, .int .i64 t105, .int .i64 t106, .int .i64 t107] 23 (0, 0)) (b_ BK111)) : gb111 ≠ gb150))
 have n20_ := Aside0.mk ((by rw [hg]; exact Nat.ne_of_gt (blk_lt (g := gb111) (o := .cells #[.int .i64 t103, .int .i64 t104, .int .i64 t105, .int .i64 t106, .int .i64 t107] 23 (0, 0)) (b_ BK111)) : gb150 ≠ gb111))
 clear HO_8
 clear HO_9
 clear HO_10
 clear HO124
 clear HO127
 clear HO133
 clear HO136
 clear HO139
 clear BK101
 clear BK102
 clear BK111
 clear HB
 have HO_8 := n0_
 have HO_9 := n1_
 have HO_10 := n2_
 have HO124 := n3_
 have HO127 := n4_
 have HO133 := n5_
 have HO136 := n6_
 have HO139 := n7_
 have BK101 := n8_
 have BK102 := n9_
 have BK111 := n10_
 have HB := n11_
 have BK150 := n12_
 have GW150 := n13_
 have GE150 := n14_
 have NB101_150 := n15_
 have NB150_101 := n16_
 have NB102_150 := n17_
 have NB150_102 := n18_
 have NB111_150 := n19_
 have NB150_111 := n20_
 clear n0_ n1_ n2_ n3_ n4_ n5_ n6_ n7_ n8_ n9_ n10_ n11_ n12_ n13_ n14_ n15_ n16_ n17_ n18_ n19_ n20_
 clear hb hbox hg
 refine hK.out _ _ ⟨kc BK111 0, kc BK111 1, kc BK111 2, kc BK111 3, kc BK111 4⟩ (fun hHeld => ?_)
 clear hK K
 refine nq 17 ?_
 refine one_ (i := 2) (N := some 76) (bl 12 527) rfl rfl (one_of HT_.out (by kernel_rfl)) (by decide) (fun K hK => ?_)
 refine goes_ Tryd.func43 (by kernel_rfl) rfl #[.slice Ao15 t108.length co15] (by rfl) rfl rfl (by (try simp only [List.map_toArray, List.map_cons, List.map_nil]); first | done | rfl | (simp only [List.length_drop, List.length_take]; rfl)) ?_
 with_reducible refine (smaltolaw03_own.calls _ _ t108 t141 _ ?side1 ?side2 A33.out).mono ?_
 (case side1 => exact rC HO_8)
 (case side2 => exact (Kd.R_reads' HO_8.out).2.1)
 rintro e w52 ⟨v142, rfl, ho0, hb⟩
 refine ⟨_, rfl, ?_⟩
 have n0_ := Aside0.mk (Kd.R_elder' (R_ HO_8) (Kd.R_base ho0) hb)
 have n1_ := RB HO_9 hb
 have n2_ := RB HO_10 hb
 have n3_ := Aside0.mk (Kd.R_elder' (R_ HO124) (Kd.R_base ho0) hb)
 have n4_ := RB HO127 hb
 have n5_ := Aside0.mk (Kd.R_elder' (R_ HO133) (Kd.R_base ho0) hb)
 have n6_ := RB HO136 hb
 have n7_ := RB HO139 hb
 have n8_ := Aside0.mk (Kd.R_lower (Kd.R_new' (Kd.R_new' (Kd.R_new' ho0 (Kd.R_lt (R_ HO_8))) (Kd.R_lt (R_ HO124))) (Kd.R_lt (R_ HO133))) (below_size (Bq HB)))
 have n9_ := bb BK101 hb
 have n10_ := bb BK102 hb
 have n11_ := bb BK111 hb
 have n12_ := bb BK150 hb
 have n13_ := Aside0.mk (below_step (Bq HB) hb)
 clear HO_8
 clear HO_9
 clear HO_10
 clear HO124
 clear HO127
 clear HO133
 clear HO136
 clear HO139
 clear BK101
 clear BK102
 clear BK111
 clear BK150
 clear HB
 have HO_8 := n0_
 have HO_9 := n1_
 have HO_10 := n2_
 have HO124 := n3_
 have HO127 := n4_
 have HO133 := n5_
 have HO136 := n6_
 have HO139 := n7_
 have HO143 := n8_
 have BK101 := n9_
 have BK102 := n10_
 have BK111 := n11_
 have BK150 := n12_
 have HB := n13_
 clear n0_ n1_ n2_ n3_ n4_ n5_ n6_ n7_ n8_ n9_ n10_ n11_ n12_ n13_
 (try clear hb)
 (try clear hb2)
 (try clear hk)
 (try clear hi)
 (try clear ho0)
 refine hK.out _ _ ⟨kc BK111 0, kc BK111 1, kc BK111 2, kc BK111 3, kc BK111 4⟩ (fun hHeld => ?_)
 clear hK K
 refine nq 76 ?_
 refine one_ (i := 4) (N := some 78) (bl 12 543) rfl rfl (one_of HT_.out (by kernel_rfl)) (by decide) (fun K hK => ?_)
 refine goes_ Tryd.func15 (by kernel_rfl) rfl #[.slice Ao37 t112.length co37] (by rfl) rfl rfl (by (try simp only [List.map_toArray, List.map_cons, List.map_nil]); first | done | rfl | (simp only [List.length_drop, List.length_take]; rfl)) ?_
 with_reducible refine (smaltolaw03_ints.calls _ _ t112 t144 _ ?side1 ?side2 A34.out).mono ?_
 (case side1 => exact rC HO_9)
 (case side2 => exact (Kd.R_reads' HO_9.out).2.1)
 rintro e w53 ⟨v145, rfl, ho0, hb⟩
 refine ⟨_, rfl, ?_⟩
 have n0_ := RB HO_8 hb
 have n1_ := Aside0.mk (Kd.R_elder' (R_ HO_9) (Kd.R_base ho0) hb)
 have n2_ := Aside0.mk (Kd.R_elder' (R_ HO_10) (Kd.R_base ho0) hb)
 have n3_ := RB HO124 hb
 have n4_ := Aside0.mk (Kd.R_elder' (R_ HO127) (Kd.R_base ho0) hb)
 have n5_ := RB HO133 hb
 have n6_ := Aside0.mk (Kd.R_elder' (R_ HO136) (Kd.R_base ho0) hb)
 have n7_ := Aside0.mk (Kd.R_elder' (R_ HO139) (Kd.R_base ho0) hb)
 have n8_ := RB HO143 hb
 have n9_ := Aside0.mk (Kd.R_lower (Kd.R_new' (Kd.R_new' (Kd.R_new' (Kd.R_new' (Kd.R_new' ho0 (Kd.R_lt (R_ HO_9))) (Kd.R_lt (R_ HO_10))) (Kd.R_lt (R_ HO127))) (Kd.R_lt (R_ HO136))) (Kd.R_lt (R_ HO139))) (below_size (Bq HB)))
 have n10_ := bb BK101 hb
 have n11_ := bb BK102 hb
 have n12_ := bb BK111 hb
 have n13_ := bb BK150 hb
 have n14_ := Aside0.mk (below_step (Bq HB) hb)
 clear HO_8
 clear HO_9
 clear HO_10
 clear HO124
 clear HO127
 clear HO133
 clear HO136
 clear HO139
 clear HO143
 clear BK101
 clear BK102
 clear BK111
 clear BK150
 clear HB
 have HO_8 := n0_
 have HO_9 := n1_
 have HO_10 := n2_
 have HO124 := n3_
 have HO127 := n4_
 have HO133 := n5_
 have HO136 := n6_
 have HO139 := n7_
 have HO143 := n8_
 have HO146 := n9_
 have BK101 := n10_
 have BK102 := n11_
 have BK111 := n12_
 have BK150 := n13_
 have HB := n14_
 clear n0_ n1_ n2_ n3_ n4_ n5_ n6_ n7_ n8_ n9_ n10_ n11_ n12_ n13_ n14_
 (try clear hb)
 (try clear hb2)
 (try clear hk)
 (try clear hi)
 (try clear ho0)
 obtain ⟨Ao54, co54, eo54⟩ := Kd.R_slice HO143.out
 (first | subst eo54 | (injection eo54 with f1_ f2_ f3_; have f4_ := f1_.symm; have f5_ := f3_.symm; clear f1_ f2_ f3_; subst f4_; subst f5_))
 obtain ⟨Ao55, co55, eo55⟩ := Kd.R_slice HO146.out
 (first | subst eo55 | (injection eo55 with f1_ f2_ f3_; have f4_ := f1_.symm; have f5_ := f3_.symm; clear f1_ f2_ f3_; subst f4_; subst f5_))
 refine hK.out _ _ ⟨kc BK111 0, kc BK111 1, kc BK111 2, kc BK111 3, kc BK111 4⟩ (fun hHeld => ?_)
 clear hK K
 refine nq 78 ?_
 refine one_ (i := 5) (N := some 79) (bl 12 575) rfl rfl (one_of HT_.out (by kernel_rfl)) (by decide) (fun K hK => ?_)
 refine goes_ Tryd.func19 (by kernel_rfl) rfl #[.agg #[.int .i64 t103, .int .i64 t104, .int .i64 t105, .int .i64 t106, .int .i64 t107], .slice Ao54 t141.length co54, .slice Ao55 t144.length co55] (by rfl) rfl rfl (by (try simp only [List.map_toArray, List.map_cons, List.map_nil]); first | done | rfl | (simp only [List.length_drop, List.length_take]; rfl)) ?_
 with_reducible refine (fork_Heat.calls t103 t104 t105 t106 t107 _ _ t141 _ _ t144 t147 t148 t149 _ ?side5 ?side1 ?side2 ?side3 ?side4 A35.out).mono ?_
 (case side1 => exact rC HO143)
 (case side2 => exact (Kd.R_reads' HO143.out).2.1)
 (case side3 => exact rC HO146)
 (case side4 => exact (Kd.R_reads' HO146.out).2.1)
 (case side5 => exact Hand.TabW.below HTAB.out (Bq HB))
 rintro e w56 ⟨rfl, hb⟩
 refine ⟨_, rfl, ?_⟩
 have n0_ := RB HO_8 hb
 have n1_ := RB HO_9 hb
 have n2_ := RB HO_10 hb
 have n3_ := RB HO124 hb
 have n4_ := RB HO127 hb
 have n5_ := RB HO133 hb
 have n6_ := RB HO136 hb
 have n7_ := RB HO139 hb
 have n8_ := RB HO143 hb
 have n9_ := RB HO146 hb
 have n10_ := bb BK101 hb
 have n11_ := bb BK102 hb
 have n12_ := bb BK111 hb
 have n13_ := bb BK150 hb
 have n14_ := Aside0.mk (below_step (Bq HB) hb)
 clear HO_8
 clear HO_9
 clear HO_10
 clear HO124
 clear HO127
 clear HO133
 clear HO136
 clear HO139
 clear HO143
 clear HO146
 clear BK101
 clear BK102
 clear BK111
 clear BK150
 clear HB
 have HO_8 := n0_
 have HO_9 := n1_
 have HO_10 := n2_
 have HO124 := n3_
 have HO127 := n4_
 have HO133 := n5_
 have HO136 := n6_
 have HO139 := n7_
 have HO143 := n8_
 have HO146 := n9_
 have BK101 := n10_
 have BK102 := n11_
 have BK111 := n12_
 have BK150 := n13_
 have HB := n14_
 clear n0_ n1_ n2_ n3_ n4_ n5_ n6_ n7_ n8_ n9_ n10_ n11_ n12_ n13_ n14_
 (try clear hb)
 (try clear hb2)
 (try clear hk)
 (try clear hi)
 refine hK.out _ _ ⟨kc BK111 0, kc BK111 1, kc BK111 2, kc BK111 3, kc BK111 4⟩ (fun hHeld => ?_)
 clear hK K
 refine nq 79 ?_
 refine pS 6 73 12 639 HT_ ?_
 refine pS 7 80 12 767 HT_ ?_
 refine pS 8 81 12 1023 HT_ ?_
 exact norm_ (by simp only [putAll, Act.put, List.setIfInBounds_toArray, List.set_cons_zero, List.set_cons_succ]) (hCont (.slice Ao54 t141.length co54, .slice Ao55 t144.length co55, gb150) _ ⟨hHeld, (Kd.R_mono (R_ HO124) (fun _ hk => ⟨hk.1.2, ⟨hk.2, hk.1.1.2⟩⟩)), (Kd.R_mono (R_ HO127) (fun _ hk => ⟨hk.1.1.2, ⟨hk.1.2, ⟨hk.2, ⟨hk.1.1.1.2, hk.1.1.1.1.2⟩⟩⟩⟩)), (Kd.R_mono (R_ HO133) (fun _ hk => ⟨hk.1.2, ⟨hk.2, hk.1.1.2⟩⟩)), (Kd.R_mono (R_ HO136) (fun _ hk => ⟨hk.1.1.2, ⟨hk.1.2, ⟨hk.2, ⟨hk.1.1.1.2, hk.1.1.1.1.2⟩⟩⟩⟩)), (Kd.R_mono (R_ HO139) (fun _ hk => ⟨hk.1.1.2, ⟨hk.1.2, ⟨hk.2, ⟨hk.1.1.1.2, hk.1.1.1.1.2⟩⟩⟩⟩)), (Kd.R_mono (R_ HO143) (fun _ hk => ⟨hk.1.2, ⟨hk.2, hk.1.1.2⟩⟩)), (Kd.R_mono (R_ HO146) (fun _ hk => ⟨hk.1.1.2, ⟨hk.1.2, ⟨hk.2, ⟨hk.1.1.1.2, hk.1.1.1.1.2⟩⟩⟩⟩)), (Kd.R_mono (R_ HO_10) (fun _ hk => ⟨hk.1.1.1.2, ⟨hk.1.1.2, ⟨hk.1.2, ⟨hk.2, hk.1.1.1.1⟩⟩⟩⟩)), (Kd.R_mono (R_ HO_8) (fun _ hk => ⟨hk.1.1.2, ⟨hk.1.2, hk.2⟩⟩)), (Kd.R_mono (R_ HO_9) (fun _ hk => ⟨hk.1.1.1.2, ⟨hk.1.1.2, ⟨hk.1.2, ⟨hk.2, hk.1.1.1.1⟩⟩⟩⟩)), (b_ BK101), (b_ BK102), (b_ BK111), (b_ BK150), GW150.out, GE150.out, NB101_150.out, NB150_101.out, NB102_150.out, NB150_102.out, NB111_150.out, NB150_111.out, (Bq HB)⟩)
end Go.Proofs.YtbijamlgcebgeaaDoor.Q
-- part SO2
namespace Go.Proofs.YtbijamlgcebgeaaDoor.Q
open Go.RowKit Go.Proofs.YtbijamlgcebgeaaDoorW.PrintWords Go.Proofs.YtbijamlgcebgeaaDoorW.PrintLast Go.Proofs.YtbijamlgcebgeaaDoorW.PrintMore
attribute [local go_sem] max2_int min2_int max_two min_two max_three min_three max_four min_four
attribute [local go_sem high] eqA36
set_option maxHeartbeats 8000000 in
set_option maxRecDepth 100000 in
theorem lR.p2 : lR.c0.1.2.1 := by
 intro k a0_0 a0_1 a0_2 a0_3 a0_4 A0_5 c0_5 l0_5 a1 a2_0 a2_1 a2_2 a2_3 a2_4 a2_5 r w hu66 hu67 hu23 hu36 HTAB HR0_5 HC0_5 t103 t104 t105 t106 t107 t108 A4 t112 A5 y115 Ny115 z0_1 gb101 w6 GW101 GE101 gb102 w7 GW102 GE102 NB101_102 NB102_101 hnb8 hnc8 w10 gb111 w11 GW111 GE111 NB101_111 NB111_101 NB102_111 NB111_102 hnb12 hnc12 hnb13 hnc13 Ao15 co15 w16 v116 w17 HO110 z0_2 z0_3 z0_4 z0_5 z0_6 wr u10 u38 u39 u40 u41 u42 u43 u44 u45 u46 u47 u48 u49 u50 u51 u52 u53 z0_7 z0_8 x10_1 x11_1 k1 z0_9 HK1 c19b0 t122 A27 t125 A28 t128 t129 A29 t131 A30 t134 A31 t137 t140 A32 t141 A33 t144 A34 t147 t148 t149 A35 Ao37 co37 HO114 HO117 z0_10 z0_11 z0_12 z0_13 z0_14 w38 z0_15 w39 z0_16 w40 Ao41 co41 Ao42 co42 z0_17 w43 z0_18 z0_19 z0_20 w44 z0_21 w45 z0_22 w46 Ao47 co47 Ao48 co48 z0_23 w49 v138 z0_24 HT_ HW_ w50 z0_25 v142 v145 gb150 w57 hS_ HO124 HO127 HO133 HO136 HO139 HO143 HO146 HO_10 HO_8 HO_9 BK101 BK102 BK111 BK150 GW150 GE150 NB101_150 NB150_101 NB102_150 NB150_102 NB111_150 NB150_111 HB z0_26 hs58 hfs58 hns58_0 hns58_1 hns58_2 hms58_0 hms58_1 hms58_2 hs59 hfs59 hns59_0 hns59_1 hns59_2 hms59_0 hms59_1 hms59_2 hHeld z0_27 z0_28 z0_29 z0_30 z0_31 z0_32 z0_33 z0_34 H c60
 rw [if_pos c60] at H
 have c60b0 : (t140 == 0) = true := beq_iff_eq.mpr c60
 have c60b1 : (t140 != 0) = false := bne_eq_false_iff_eq.mpr c60
 clear c60
 (first | rw [c60b0] | (simp only [i64_w, i32_w]; rw [c60b0]) | skip)
 by_cases c61 : t149 = 0
 ·rw [if_pos c61] at H
  have c61b0 : (t149 == 0) = true := beq_iff_eq.mpr c61
  have c61b1 : (t149 != 0) = false := bne_eq_false_iff_eq.mpr c61
  clear c61
  by_cases c62 : t128 = true
  ·subst c62
   have H1 : (if t129 = true then (lR.j1 k1 t108 t112 x10_1 true t129 t137 t140 t149 (t149 != 0) t103 t104 t105 t106 t107 t147 t148) else (lR.j1 k1 t108 t112 x10_1 true t129 t137 t140 t149 true t103 t104 t105 t106 t107 t147 t148)) = some r := by rw [if_pos rfl] at H; exact H
   clear H
   have H := H1
   clear H1
   by_cases c63 : t129 = true
   ·subst c63
    have H1 : (lR.j1 k1 t108 t112 x10_1 true true t137 t140 t149 (t149 != 0) t103 t104 t105 t106 t107 t147 t148) = some r := by rw [if_pos rfl] at H; exact H
    clear H
    have H := H1
    clear H1
    have H' := Aside0.mk H
    clear H
    try go_wp2
    have n0_ := fR2 HO_8 BK150 0 1 (.int .i64 t147) (.int .i64 t148) (fun k_ => some k_ ≠ (.slice Ao41 t122.length co41 : Value).ownBlock ∧ some k_ ≠ (.slice Ao47 t131.length co47 : Value).ownBlock ∧ some k_ ≠ (v142 : Value).ownBlock) (fun _ hk => ⟨hk.1.1, ⟨hk.1.2.1, hk.1.2.2⟩⟩)
    have n1_ := fR2 HO_9 BK150 0 1 (.int .i64 t147) (.int .i64 t148) (fun k_ => some k_ ≠ (u10 : Value).ownBlock ∧ some k_ ≠ (.slice Ao42 t125.length co42 : Value).ownBlock ∧ some k_ ≠ (.slice Ao48 t134.length co48 : Value).ownBlock ∧ some k_ ≠ (v138 : Value).ownBlock ∧ some k_ ≠ (v145 : Value).ownBlock) (fun _ hk => ⟨hk.1.2.2.2.2, ⟨hk.1.1, ⟨hk.1.2.1, ⟨hk.1.2.2.1, hk.1.2.2.2.1⟩⟩⟩⟩)
    have n2_ := fR2 HO_10 BK150 0 1 (.int .i64 t147) (.int .i64 t148) (fun k_ => some k_ ≠ (.slice Ao37 t112.length co37 : Value).ownBlock ∧ some k_ ≠ (.slice Ao42 t125.length co42 : Value).ownBlock ∧ some k_ ≠ (.slice Ao48 t134.length co48 : Value).ownBlock ∧ some k_ ≠ (v138 : Value).ownBlock ∧ some k_ ≠ (v145 : Value).ownBlock) (fun _ hk => ⟨hk.1.2.2.2.2, ⟨hk.1.1, ⟨hk.1.2.1, ⟨hk.1.2.2.1, hk.1.2.2.2.1⟩⟩⟩⟩)
    have n3_ := fR2 HO124 BK150 0 1 (.int .i64 t147) (.int .i64 t148) (fun k_ => some k_ ≠ (.slice Ao15 t108.length co15 : Value).ownBlock ∧ some k_ ≠ (.slice Ao47 t131.length co47 : Value).ownBlock ∧ some k_ ≠ (v142 : Value).ownBlock) (fun _ hk => ⟨hk.1.2.2, ⟨hk.1.1, hk.1.2.1⟩⟩)
    have n4_ := fR2 HO127 BK150 0 1 (.int .i64 t147) (.int .i64 t148) (fun k_ => some k_ ≠ (.slice Ao37 t112.length co37 : Value).ownBlock ∧ some k_ ≠ (u10 : Value).ownBlock ∧ some k_ ≠ (.slice Ao48 t134.length co48 : Value).ownBlock ∧ some k_ ≠ (v138 : Value).ownBlock ∧ some k_ ≠ (v145 : Value).ownBlock) (fun _ hk => ⟨hk.1.2.2.2.2, ⟨hk.1.2.2.2.1, ⟨hk.1.1, ⟨hk.1.2.1, hk.1.2.2.1⟩⟩⟩⟩)
    have n5_ := fR2 HO133 BK150 0 1 (.int .i64 t147) (.int .i64 t148) (fun k_ => some k_ ≠ (.slice Ao15 t108.length co15 : Value).ownBlock ∧ some k_ ≠ (.slice Ao41 t122.length co41 : Value).ownBlock ∧ some k_ ≠ (v142 : Value).ownBlock) (fun _ hk => ⟨hk.1.2.2, ⟨hk.1.1, hk.1.2.1⟩⟩)
    have n6_ := fR2 HO136 BK150 0 1 (.int .i64 t147) (.int .i64 t148) (fun k_ => some k_ ≠ (.slice Ao37 t112.length co37 : Value).ownBlock ∧ some k_ ≠ (u10 : Value).ownBlock ∧ some k_ ≠ (.slice Ao42 t125.length co42 : Value).ownBlock ∧ some k_ ≠ (v138 : Value).ownBlock ∧ some k_ ≠ (v145 : Value).ownBlock) (fun _ hk => ⟨hk.1.2.2.2.2, ⟨hk.1.2.2.2.1, ⟨hk.1.1, ⟨hk.1.2.1, hk.1.2.2.1⟩⟩⟩⟩)
    have n7_ := fR2 HO139 BK150 0 1 (.int .i64 t147) (.int .i64 t148) (fun k_ => some k_ ≠ (.slice Ao37 t112.length co37 : Value).ownBlock ∧ some k_ ≠ (u10 : Value).ownBlock ∧ some k_ ≠ (.slice Ao42 t125.length co42 : Value).ownBlock ∧ some k_ ≠ (.slice Ao48 t134.length co48 : Value).ownBlock ∧ some k_ ≠ (v145 : Value).ownBlock) (fun _ hk => ⟨hk.1.2.2.2.2, ⟨hk.1.2.2.2.1, ⟨hk.1.1, ⟨hk.1.2.1, hk.1.2.2.1⟩⟩⟩⟩)
    have n8_ := fR2 HO143 BK150 0 1 (.int .i64 t147) (.int .i64 t148) (fun k_ => some k_ ≠ (.slice Ao15 t108.length co15 : Value).ownBlock ∧ some k_ ≠ (.slice Ao41 t122.length co41 : Value).ownBlock ∧ some k_ ≠ (.slice Ao47 t131.length co47 : Value).ownBlock) (fun _ hk => ⟨hk.1.2.2, ⟨hk.1.1, hk.1.2.1⟩⟩)
    have n9_ := fR2 HO146 BK150 0 1 (.int .i64 t147) (.int .i64 t148) (fun k_ => some k_ ≠ (.slice Ao37 t112.length co37 : Value).ownBlock ∧ some k_ ≠ (u10 : Value).ownBlock ∧ some k_ ≠ (.slice Ao42 t125.length co42 : Value).ownBlock ∧ some k_ ≠ (.slice Ao48 t134.length co48 : Value).ownBlock ∧ some k_ ≠ (v138 : Value).ownBlock) (fun _ hk => ⟨hk.1.2.2.2.2, ⟨hk.1.2.2.2.1, ⟨hk.1.1, ⟨hk.1.2.1, hk.1.2.2.1⟩⟩⟩⟩)
    have n10_ := fB2 BK101 NB101_150 0 1 (.int .i64 t147) (.int .i64 t148)
    have n11_ := fB2 BK102 NB102_150 0 1 (.int .i64 t147) (.int .i64 t148)
    have n12_ := fB2 BK111 NB111_150 0 1 (.int .i64 t147) (.int .i64 t148)
    have n13_ : Aside0 (((w57.setCell ⟨gb150, 0, none⟩ (.int .i64 t147)).setCell ⟨gb150, 1, none⟩ (.int .i64 t148)).heap[gb150]? = some (.cells #[.int .i64 t147, .int .i64 t148] 36 (0, 0))) := ⟨by (with_reducible repeat (first | refine blk_drewN ?_ _ | refine blk_drew ?_ | refine blk_alloc ?_ _)); refine blk_put (cs := #[.int .i64 t147, .int .i64 0]) ?_ 1 _ rfl; (with_reducible repeat (first | refine blk_drewN ?_ _ | refine blk_drew ?_ | refine blk_alloc ?_ _)); refine blk_put (cs := #[.int .i64 0, .int .i64 0]) ?_ 0 _ rfl; (with_reducible repeat (first | refine blk_drewN ?_ _ | refine blk_drew ?_ | refine blk_alloc ?_ _)); exact BK150.out⟩
    have n14_ : Aside0 (Below w.heap.size w ((w57.setCell ⟨gb150, 0, none⟩ (.int .i64 t147)).setCell ⟨gb150, 1, none⟩ (.int .i64 t148))) := ⟨Bq HB⟩
    (try clear HO_8)
    (try clear HO_9)
    (try clear HO_10)
    (try clear HO124)
    (try clear HO127)
    (try clear HO133)
    (try clear HO136)
    (try clear HO139)
    (try clear HO143)
    (try clear HO146)
    (try clear BK101)
    (try clear BK102)
    (try clear BK111)
    (try clear BK150)
    (try clear HB)
    generalize ((w57.setCell ⟨gb150, 0, none⟩ (.int .i64 t147)).setCell ⟨gb150, 1, none⟩ (.int .i64 t148)) = w64 at n0_ n1_ n2_ n3_ n4_ n5_ n6_ n7_ n8_ n9_ n10_ n11_ n12_ n13_ n14_ ⊢
    have HO_8 := n0_
    have HO_9 := n1_
    have HO_10 := n2_
    have HO124 := n3_
    have HO127 := n4_
    have HO133 := n5_
    have HO136 := n6_
    have HO139 := n7_
    have HO143 := n8_
    have HO146 := n9_
    have BK101 := n10_
    have BK102 := n11_
    have BK111 := n12_
    have BK150 := n13_
    have HB := n14_
    clear n0_ n1_ n2_ n3_ n4_ n5_ n6_ n7_ n8_ n9_ n10_ n11_ n12_ n13_ n14_
    have n0_ := Aside0.mk (Kd.R_drew HO_8.out)
    have n1_ := Aside0.mk (Kd.R_drew HO_9.out)
    have n2_ := Aside0.mk (Kd.R_drew HO_10.out)
    have n3_ := Aside0.mk (Kd.R_drew HO124.out)
    have n4_ := Aside0.mk (Kd.R_drew HO127.out)
    have n5_ := Aside0.mk (Kd.R_drew HO133.out)
    have n6_ := Aside0.mk (Kd.R_drew HO136.out)
    have n7_ := Aside0.mk (Kd.R_drew HO139.out)
    have n8_ := Aside0.mk (Kd.R_drew HO143.out)
    have n9_ := Aside0.mk (Kd.R_drew HO146.out)
    have n10_ := Aside0.mk (blk_drew BK101.out)
    have n11_ := Aside0.mk (blk_drew BK102.out)
    have n12_ := Aside0.mk (blk_drew BK111.out)
    have n13_ := Aside0.mk (blk_drew BK150.out)
    have n14_ := Aside0.mk (below_drew1 HB.out)
    clear HO_8
    clear HO_9
    clear HO_10
    clear HO124
    clear HO127
    clear HO133
    clear HO136
    clear HO139
    clear HO143
    clear HO146
    clear BK101
    clear BK102
    clear BK111
    clear BK150
    clear HB
    have HO_8 := n0_
    have HO_9 := n1_
    have HO_10 := n2_
    have HO124 := n3_
    have HO127 := n4_
    have HO133 := n5_
    have HO136 := n6_
    have HO139 := n7_
    have HO143 := n8_
    have HO146 := n9_
    have BK101 := n10_
    have BK102 := n11_
    have BK111 := n12_
    have BK150 := n13_
    have HB := n14_
    clear n0_ n1_ n2_ n3_ n4_ n5_ n6_ n7_ n8_ n9_ n10_ n11_ n12_ n13_ n14_
    refine start_ (n := 43) (S := fun w' => True) (ds := []) (bl 43 0) (by kernel_rfl) rfl rfl trivial (fun hHeld => ?_); refine with_tabW lR.tab10 lR.bits10 (fun HT_ HW_ => ?_)
    generalize w64.drew = w65 at HO_8 HO_9 HO_10 HO124 HO127 HO133 HO136 HO139 HO143 HO146 BK101 BK102 BK111 BK150 HB hHeld ⊢
    refine pS 0 82 43 1 HT_ ?_
    refine pS 1 83 43 3 HT_ ?_
    refine pS 2 84 43 7 HT_ ?_
    refine pS 3 85 43 15 HT_ ?_
    refine pS 4 86 43 31 HT_ ?_
    refine pS 5 87 43 63 HT_ ?_
    refine oS 6 88 43 127 HT_ ?_
    refine oS 7 89 43 255 HT_ ?_
    refine oS 8 90 43 511 HT_ ?_
    refine oS 9 91 43 1023 HT_ ?_
    refine oS 10 92 43 2047 HT_ ?_
    refine oS 11 93 43 4095 HT_ ?_
    refine oS 12 94 43 8191 HT_ ?_
    refine pS 13 95 43 16383 HT_ ?_
    refine pS 14 96 43 32767 HT_ ?_
    refine pS 15 97 43 65535 HT_ ?_
    refine pS 16 98 43 131071 HT_ ?_
    refine pS 17 99 43 262143 HT_ ?_
    refine pS 18 100 43 524287 HT_ ?_
    refine oS 19 101 43 1048575 HT_ ?_
    refine oS 20 102 43 2097151 HT_ ?_
    refine oS 21 103 43 4194303 HT_ ?_
    refine oS 22 104 43 8388607 HT_ ?_
    refine oS 23 105 43 16777215 HT_ ?_
    refine oS 24 106 43 33554431 HT_ ?_
    refine oS 25 107 43 67108863 HT_ ?_
    refine pS 26 108 43 134217727 HT_ ?_
    refine pS 27 109 43 268435455 HT_ ?_
    refine pS 28 110 43 536870911 HT_ ?_
    refine pS 29 111 43 1073741823 HT_ ?_
    refine pS 30 112 43 2147483647 HT_ ?_
    refine pS 31 113 43 4294967295 HT_ ?_
    refine pS 32 114 43 8589934591 HT_ ?_
    refine pS 33 115 43 17179869183 HT_ ?_
    refine pS 34 116 43 34359738367 HT_ ?_
    refine pS 35 117 43 68719476735 HT_ ?_
    refine pS 36 118 43 137438953471 HT_ ?_
    refine pS 37 119 43 274877906943 HT_ ?_
    refine pS 38 120 43 549755813887 HT_ ?_
    refine pS 39 121 43 1099511627775 HT_ ?_
    refine pS 40 122 43 2199023255551 HT_ ?_
    refine pS 41 123 43 4398046511103 HT_ ?_
    refine pS 42 124 43 8796093022207 HT_ ?_
    refine done_ (done_of HT_.out (by kernel_rfl)) ?_
    try go_wp2
    go_meet
    case rel => exact ⟨_, ((t149 != 0)), (by first | rfl | (simp; done) | (simp [*]; done)), H', ⟨by have := HK1.out; first | omega | exact Nat.le_refl _⟩, ⟨Kd.R_mono (R_ HO_8) (fun _ hk => trivial)⟩, ⟨Kd.R_mono (R_ HO_9) (fun _ hk => ⟨hk.1, hk.2.2.2.1⟩)⟩, ⟨Kd.R_mono (R_ HO_10) (fun _ hk => ⟨hk.1, hk.2.2.2.1⟩)⟩, ⟨Kd.R_mono (R_ HO139) (fun _ hk => ⟨hk.1, hk.2.1⟩)⟩, ⟨b_ BK101⟩, ⟨b_ BK102⟩, ⟨b_ BK111⟩, ⟨b_ BK150⟩, ⟨Bq HB⟩⟩
   replace c63 := Bool.eq_false_iff.mpr c63
   subst c63
   have H1 : (lR.j1 k1 t108 t112 x10_1 true false t137 t140 t149 true t103 t104 t105 t106 t107 t147 t148) = some r := by rw [if_neg (show ¬ (false = true) by decide)] at H; exact H
   clear H
   have H := H1
   clear H1
   have H' := Aside0.mk H
   clear H
   try go_wp2
   have n0_ := fR2 HO_8 BK150 0 1 (.int .i64 t147) (.int .i64 t148) (fun k_ => some k_ ≠ (.slice Ao41 t122.length co41 : Value).ownBlock ∧ some k_ ≠ (.slice Ao47 t131.length co47 : Value).ownBlock ∧ some k_ ≠ (v142 : Value).ownBlock) (fun _ hk => ⟨hk.1.1, ⟨hk.1.2.1, hk.1.2.2⟩⟩)
   have n1_ := fR2 HO_9 BK150 0 1 (.int .i64 t147) (.int .i64 t148) (fun k_ => some k_ ≠ (u10 : Value).ownBlock ∧ some k_ ≠ (.slice Ao42 t125.length co42 : Value).ownBlock ∧ some k_ ≠ (.slice Ao48 t134.length co48 : Value).ownBlock ∧ some k_ ≠ (v138 : Value).ownBlock ∧ some k_ ≠ (v145 : Value).ownBlock) (fun _ hk => ⟨hk.1.2.2.2.2, ⟨hk.1.1, ⟨hk.1.2.1, ⟨hk.1.2.2.1, hk.1.2.2.2.1⟩⟩⟩⟩)
   have n2_ := fR2 HO_10 BK150 0 1 (.int .i64 t147) (.int .i64 t148) (fun k_ => some k_ ≠ (.slice Ao37 t112.length co37 : Value).ownBlock ∧ some k_ ≠ (.slice Ao42 t125.length co42 : Value).ownBlock ∧ some k_ ≠ (.slice Ao48 t134.length co48 : Value).ownBlock ∧ some k_ ≠ (v138 : Value).ownBlock ∧ some k_ ≠ (v145 : Value).ownBlock) (fun _ hk => ⟨hk.1.2.2.2.2, ⟨hk.1.1, ⟨hk.1.2.1, ⟨hk.1.2.2.1, hk.1.2.2.2.1⟩⟩⟩⟩)
   have n3_ := fR2 HO124 BK150 0 1 (.int .i64 t147) (.int .i64 t148) (fun k_ => some k_ ≠ (.slice Ao15 t108.length co15 : Value).ownBlock ∧ some k_ ≠ (.slice Ao47 t131.length co47 : Value).ownBlock ∧ some k_ ≠ (v142 : Value).ownBlock) (fun _ hk => ⟨hk.1.2.2, ⟨hk.1.1, hk.1.2.1⟩⟩)
   have n4_ := fR2 HO127 BK150 0 1 (.int .i64 t147) (.int .i64 t148) (fun k_ => some k_ ≠ (.slice Ao37 t112.length co37 : Value).ownBlock ∧ some k_ ≠ (u10 : Value).ownBlock ∧ some k_ ≠ (.slice Ao48 t134.length co48 : Value).ownBlock ∧ some k_ ≠ (v138 : Value).ownBlock ∧ some k_ ≠ (v145 : Value).ownBlock) (fun _ hk => ⟨hk.1.2.2.2.2, ⟨hk.1.2.2.2.1, ⟨hk.1.1, ⟨hk.1.2.1, hk.1.2.2.1⟩⟩⟩⟩)
   have n5_ := fR2 HO133 BK150 0 1 (.int .i64 t147) (.int .i64 t148) (fun k_ => some k_ ≠ (.slice Ao15 t108.length co15 : Value).ownBlock ∧ some k_ ≠ (.slice Ao41 t122.length co41 : Value).ownBlock ∧ some k_ ≠ (v142 : Value).ownBlock) (fun _ hk => ⟨hk.1.2.2, ⟨hk.1.1, hk.1.2.1⟩⟩)
   have n6_ := fR2 HO136 BK150 0 1 (.int .i64 t147) (.int .i64 t148) (fun k_ => some k_ ≠ (.slice Ao37 t112.length co37 : Value).ownBlock ∧ some k_ ≠ (u10 : Value).ownBlock ∧ some k_ ≠ (.slice Ao42 t125.length co42 : Value).ownBlock ∧ some k_ ≠ (v138 : Value).ownBlock ∧ some k_ ≠ (v145 : Value).ownBlock) (fun _ hk => ⟨hk.1.2.2.2.2, ⟨hk.1.2.2.2.1, ⟨hk.1.1, ⟨hk.1.2.1, hk.1.2.2.1⟩⟩⟩⟩)
   have n7_ := fR2 HO139 BK150 0 1 (.int .i64 t147) (.int .i64 t148) (fun k_ => some k_ ≠ (.slice Ao37 t112.length co37 : Value).ownBlock ∧ some k_ ≠ (u10 : Value).ownBlock ∧ some k_ ≠ (.slice Ao42 t125.length co42 : Value).ownBlock ∧ some k_ ≠ (.slice Ao48 t134.length co48 : Value).ownBlock ∧ some k_ ≠ (v145 : Value).ownBlock) (fun _ hk => ⟨hk.1.2.2.2.2, ⟨hk.1.2.2.2.1, ⟨hk.1.1, ⟨hk.1.2.1, hk.1.2.2.1⟩⟩⟩⟩)
   have n8_ := fR2 HO143 BK150 0 1 (.int .i64 t147) (.int .i64 t148) (fun k_ => some k_ ≠ (.slice Ao15 t108.length co15 : Value).ownBlock ∧ some k_ ≠ (.slice Ao41 t122.length co41 : Value).ownBlock ∧ some k_ ≠ (.slice Ao47 t131.length co47 : Value).ownBlock) (fun _ hk => ⟨hk.1.2.2, ⟨hk.1.1, hk.1.2.1⟩⟩)
   have n9_ := fR2 HO146 BK150 0 1 (.int .i64 t147) (.int .i64 t148) (fun k_ => some k_ ≠ (.slice Ao37 t112.length co37 : Value).ownBlock ∧ some k_ ≠ (u10 : Value).ownBlock ∧ some k_ ≠ (.slice Ao42 t125.length co42 : Value).ownBlock ∧ some k_ ≠ (.slice Ao48 t134.length co48 : Value).ownBlock ∧ some k_ ≠ (v138 : Value).ownBlock) (fun _ hk => ⟨hk.1.2.2.2.2, ⟨hk.1.2.2.2.1, ⟨hk.1.1, ⟨hk.1.2.1, hk.1.2.2.1⟩⟩⟩⟩)
   have n10_ := fB2 BK101 NB101_150 0 1 (.int .i64 t147) (.int .i64 t148)
   have n11_ := fB2 BK102 NB102_150 0 1 (.int .i64 t147) (.int .i64 t148)
   have n12_ := fB2 BK111 NB111_150 0 1 (.int .i64 t147) (.int .i64 t148)
   have n13_ : Aside0 (((w57.setCell ⟨gb150, 0, none⟩ (.int .i64 t147)).setCell ⟨gb150, 1, none⟩ (.int .i64 t148)).heap[gb150]? = some (.cells #[.int .i64 t147, .int .i64 t148] 36 (0, 0))) := ⟨by (with_reducible repeat (first | refine blk_drewN ?_ _ | refine blk_drew ?_ | refine blk_alloc ?_ _)); refine blk_put (cs := #[.int .i64 t147, .int .i64 0]) ?_ 1 _ rfl; (with_reducible repeat (first | refine blk_drewN ?_ _ | refine blk_drew ?_ | refine blk_alloc ?_ _)); refine blk_put (cs := #[.int .i64 0, .int .i64 0]) ?_ 0 _ rfl; (with_reducible repeat (first | refine blk_drewN ?_ _ | refine blk_drew ?_ | refine blk_alloc ?_ _)); exact BK150.out⟩
   have n14_ : Aside0 (Below w.heap.size w ((w57.setCell ⟨gb150, 0, none⟩ (.int .i64 t147)).setCell ⟨gb150, 1, none⟩ (.int .i64 t148))) := ⟨Bq HB⟩
   (try clear HO_8)
   (try clear HO_9)
   (try clear HO_10)
   (try clear HO124)
   (try clear HO127)
   (try clear HO133)
   (try clear HO136)
   (try clear HO139)
   (try clear HO143)
   (try clear HO146)
   (try clear BK101)
   (try clear BK102)
   (try clear BK111)
   (try clear BK150)
   (try clear HB)
   generalize ((w57.setCell ⟨gb150, 0, none⟩ (.int .i64 t147)).setCell ⟨gb150, 1, none⟩ (.int .i64 t148)) = w66 at n0_ n1_ n2_ n3_ n4_ n5_ n6_ n7_ n8_ n9_ n10_ n11_ n12_ n13_ n14_ ⊢
   have HO_8 := n0_
   have HO_9 := n1_
   have HO_10 := n2_
   have HO124 := n3_
   have HO127 := n4_
   have HO133 := n5_
   have HO136 := n6_
   have HO139 := n7_
   have HO143 := n8_
   have HO146 := n9_
   have BK101 := n10_
   have BK102 := n11_
   have BK111 := n12_
   have BK150 := n13_
   have HB := n14_
   clear n0_ n1_ n2_ n3_ n4_ n5_ n6_ n7_ n8_ n9_ n10_ n11_ n12_ n13_ n14_
   have n0_ := Aside0.mk (Kd.R_drew HO_8.out)
   have n1_ := Aside0.mk (Kd.R_drew HO_9.out)
   have n2_ := Aside0.mk (Kd.R_drew HO_10.out)
   have n3_ := Aside0.mk (Kd.R_drew HO124.out)
   have n4_ := Aside0.mk (Kd.R_drew HO127.out)
   have n5_ := Aside0.mk (Kd.R_drew HO133.out)
   have n6_ := Aside0.mk (Kd.R_drew HO136.out)
   have n7_ := Aside0.mk (Kd.R_drew HO139.out)
   have n8_ := Aside0.mk (Kd.R_drew HO143.out)
   have n9_ := Aside0.mk (Kd.R_drew HO146.out)
   have n10_ := Aside0.mk (blk_drew BK101.out)
   have n11_ := Aside0.mk (blk_drew BK102.out)
   have n12_ := Aside0.mk (blk_drew BK111.out)
   have n13_ := Aside0.mk (blk_drew BK150.out)
   have n14_ := Aside0.mk (below_drew1 HB.out)
   clear HO_8
   clear HO_9
   clear HO_10
   clear HO124
   clear HO127
   clear HO133
   clear HO136
   clear HO139
   clear HO143
   clear HO146
   clear BK101
   clear BK102
   clear BK111
   clear BK150
   clear HB
   have HO_8 := n0_
   have HO_9 := n1_
   have HO_10 := n2_
   have HO124 := n3_
   have HO127 := n4_
   have HO133 := n5_
   have HO136 := n6_
   have HO139 := n7_
   have HO143 := n8_
   have HO146 := n9_
   have BK101 := n10_
   have BK102 := n11_
   have BK111 := n12_
   have BK150 := n13_
   have HB := n14_
   clear n0_ n1_ n2_ n3_ n4_ n5_ n6_ n7_ n8_ n9_ n10_ n11_ n12_ n13_ n14_
   refine start_ (n := 43) (S := fun w' => True) (ds := []) (bl 43 0) (by kernel_rfl) rfl rfl trivial (fun hHeld => ?_); refine with_tabW lR.tab10 lR.bits10 (fun HT_ HW_ => ?_)
   generalize w66.drew = w67 at HO_8 HO_9 HO_10 HO124 HO127 HO133 HO136 HO139 HO143 HO146 BK101 BK102 BK111 BK150 HB hHeld ⊢
   refine pS 0 82 43 1 HT_ ?_
   refine pS 1 83 43 3 HT_ ?_
   refine pS 2 84 43 7 HT_ ?_
   refine pS 3 85 43 15 HT_ ?_
   refine pS 4 86 43 31 HT_ ?_
   refine pS 5 87 43 63 HT_ ?_
   refine oS 6 88 43 127 HT_ ?_
   refine oS 7 89 43 255 HT_ ?_
   refine oS 8 90 43 511 HT_ ?_
   refine oS 9 91 43 1023 HT_ ?_
   refine oS 10 92 43 2047 HT_ ?_
   refine oS 11 93 43 4095 HT_ ?_
   refine oS 12 94 43 8191 HT_ ?_
   refine pS 13 95 43 16383 HT_ ?_
   refine pS 14 96 43 32767 HT_ ?_
   refine pS 15 97 43 65535 HT_ ?_
   refine pS 16 98 43 131071 HT_ ?_
   refine pS 17 99 43 262143 HT_ ?_
   refine pS 18 100 43 524287 HT_ ?_
   refine oS 19 101 43 1048575 HT_ ?_
   refine oS 20 102 43 2097151 HT_ ?_
   refine oS 21 103 43 4194303 HT_ ?_
   refine oS 22 104 43 8388607 HT_ ?_
   refine oS 23 105 43 16777215 HT_ ?_
   refine oS 24 106 43 33554431 HT_ ?_
   refine oS 25 107 43 67108863 HT_ ?_
   refine pS 26 108 43 134217727 HT_ ?_
   refine pS 27 109 43 268435455 HT_ ?_
   refine pS 28 110 43 536870911 HT_ ?_
   refine pS 29 111 43 1073741823 HT_ ?_
   refine pS 30 112 43 2147483647 HT_ ?_
   refine pS 31 113 43 4294967295 HT_ ?_
   refine pS 32 114 43 8589934591 HT_ ?_
   refine pS 33 115 43 17179869183 HT_ ?_
   refine oS 34 116 43 34359738367 HT_ ?_
   refine oS 35 117 43 68719476735 HT_ ?_
   refine pS 36 118 43 137438953471 HT_ ?_
   refine pS 37 119 43 274877906943 HT_ ?_
   refine oS 38 120 43 549755813887 HT_ ?_
   refine oS 39 121 43 1099511627775 HT_ ?_
   refine pS 40 122 43 2199023255551 HT_ ?_
   refine pS 41 123 43 4398046511103 HT_ ?_
   refine pS 42 124 43 8796093022207 HT_ ?_
   refine done_ (done_of HT_.out (by kernel_rfl)) ?_
   try go_wp2
   go_meet
   case rel => exact ⟨_, (true), (by first | rfl | (simp; done) | (simp [*]; done)), H', ⟨by have := HK1.out; first | omega | exact Nat.le_refl _⟩, ⟨Kd.R_mono (R_ HO_8) (fun _ hk => trivial)⟩, ⟨Kd.R_mono (R_ HO_9) (fun _ hk => ⟨hk.1, hk.2.2.2.1⟩)⟩, ⟨Kd.R_mono (R_ HO_10) (fun _ hk => ⟨hk.1, hk.2.2.2.1⟩)⟩, ⟨Kd.R_mono (R_ HO139) (fun _ hk => ⟨hk.1, hk.2.1⟩)⟩, ⟨b_ BK101⟩, ⟨b_ BK102⟩, ⟨b_ BK111⟩, ⟨b_ BK150⟩, ⟨Bq HB⟩⟩
  replace c62 := Bool.eq_false_iff.mpr c62
  subst c62
  have H1 : (lR.j1 k1 t108 t112 x10_1 false t129 t137 t140 t149 false t103 t104 t105 t106 t107 t147 t148) = some r := by rw [if_neg (show ¬ (false = true) by decide)] at H; exact H
  clear H
  have H := H1
  clear H1
  have H' := Aside0.mk H
  clear H
  try go_wp2
  have n0_ := fR2 HO_8 BK150 0 1 (.int .i64 t147) (.int .i64 t148) (fun k_ => some k_ ≠ (.slice Ao41 t122.length co41 : Value).ownBlock ∧ some k_ ≠ (.slice Ao47 t131.length co47 : Value).ownBlock ∧ some k_ ≠ (v142 : Value).ownBlock) (fun _ hk => ⟨hk.1.1, ⟨hk.1.2.1, hk.1.2.2⟩⟩)
  have n1_ := fR2 HO_9 BK150 0 1 (.int .i64 t147) (.int .i64 t148) (fun k_ => some k_ ≠ (u10 : Value).ownBlock ∧ some k_ ≠ (.slice Ao42 t125.length co42 : Value).ownBlock ∧ some k_ ≠ (.slice Ao48 t134.length co48 : Value).ownBlock ∧ some k_ ≠ (v138 : Value).ownBlock ∧ some k_ ≠ (v145 : Value).ownBlock) (fun _ hk => ⟨hk.1.2.2.2.2, ⟨hk.1.1, ⟨hk.1.2.1, ⟨hk.1.2.2.1, hk.1.2.2.2.1⟩⟩⟩⟩)
  have n2_ := fR2 HO_10 BK150 0 1 (.int .i64 t147) (.int .i64 t148) (fun k_ => some k_ ≠ (.slice Ao37 t112.length co37 : Value).ownBlock ∧ some k_ ≠ (.slice Ao42 t125.length co42 : Value).ownBlock ∧ some k_ ≠ (.slice Ao48 t134.length co48 : Value).ownBlock ∧ some k_ ≠ (v138 : Value).ownBlock ∧ some k_ ≠ (v145 : Value).ownBlock) (fun _ hk => ⟨hk.1.2.2.2.2, ⟨hk.1.1, ⟨hk.1.2.1, ⟨hk.1.2.2.1, hk.1.2.2.2.1⟩⟩⟩⟩)
  have n3_ := fR2 HO124 BK150 0 1 (.int .i64 t147) (.int .i64 t148) (fun k_ => some k_ ≠ (.slice Ao15 t108.length co15 : Value).ownBlock ∧ some k_ ≠ (.slice Ao47 t131.length co47 : Value).ownBlock ∧ some k_ ≠ (v142 : Value).ownBlock) (fun _ hk => ⟨hk.1.2.2, ⟨hk.1.1, hk.1.2.1⟩⟩)
  have n4_ := fR2 HO127 BK150 0 1 (.int .i64 t147) (.int .i64 t148) (fun k_ => some k_ ≠ (.slice Ao37 t112.length co37 : Value).ownBlock ∧ some k_ ≠ (u10 : Value).ownBlock ∧ some k_ ≠ (.slice Ao48 t134.length co48 : Value).ownBlock ∧ some k_ ≠ (v138 : Value).ownBlock ∧ some k_ ≠ (v145 : Value).ownBlock) (fun _ hk => ⟨hk.1.2.2.2.2, ⟨hk.1.2.2.2.1, ⟨hk.1.1, ⟨hk.1.2.1, hk.1.2.2.1⟩⟩⟩⟩)
  have n5_ := fR2 HO133 BK150 0 1 (.int .i64 t147) (.int .i64 t148) (fun k_ => some k_ ≠ (.slice Ao15 t108.length co15 : Value).ownBlock ∧ some k_ ≠ (.slice Ao41 t122.length co41 : Value).ownBlock ∧ some k_ ≠ (v142 : Value).ownBlock) (fun _ hk => ⟨hk.1.2.2, ⟨hk.1.1, hk.1.2.1⟩⟩)
  have n6_ := fR2 HO136 BK150 0 1 (.int .i64 t147) (.int .i64 t148) (fun k_ => some k_ ≠ (.slice Ao37 t112.length co37 : Value).ownBlock ∧ some k_ ≠ (u10 : Value).ownBlock ∧ some k_ ≠ (.slice Ao42 t125.length co42 : Value).ownBlock ∧ some k_ ≠ (v138 : Value).ownBlock ∧ some k_ ≠ (v145 : Value).ownBlock) (fun _ hk => ⟨hk.1.2.2.2.2, ⟨hk.1.2.2.2.1, ⟨hk.1.1, ⟨hk.1.2.1, hk.1.2.2.1⟩⟩⟩⟩)
  have n7_ := fR2 HO139 BK150 0 1 (.int .i64 t147) (.int .i64 t148) (fun k_ => some k_ ≠ (.slice Ao37 t112.length co37 : Value).ownBlock ∧ some k_ ≠ (u10 : Value).ownBlock ∧ some k_ ≠ (.slice Ao42 t125.length co42 : Value).ownBlock ∧ some k_ ≠ (.slice Ao48 t134.length co48 : Value).ownBlock ∧ some k_ ≠ (v145 : Value).ownBlock) (fun _ hk => ⟨hk.1.2.2.2.2, ⟨hk.1.2.2.2.1, ⟨hk.1.1, ⟨hk.1.2.1, hk.1.2.2.1⟩⟩⟩⟩)
  have n8_ := fR2 HO143 BK150 0 1 (.int .i64 t147) (.int .i64 t148) (fun k_ => some k_ ≠ (.slice Ao15 t108.length co15 : Value).ownBlock ∧ some k_ ≠ (.slice Ao41 t122.length co41 : Value).ownBlock ∧ some k_ ≠ (.slice Ao47 t131.length co47 : Value).ownBlock) (fun _ hk => ⟨hk.1.2.2, ⟨hk.1.1, hk.1.2.1⟩⟩)
  have n9_ := fR2 HO146 BK150 0 1 (.int .i64 t147) (.int .i64 t148) (fun k_ => some k_ ≠ (.slice Ao37 t112.length co37 : Value).ownBlock ∧ some k_ ≠ (u10 : Value).ownBlock ∧ some k_ ≠ (.slice Ao42 t125.length co42 : Value).ownBlock ∧ some k_ ≠ (.slice Ao48 t134.length co48 : Value).ownBlock ∧ some k_ ≠ (v138 : Value).ownBlock) (fun _ hk => ⟨hk.1.2.2.2.2, ⟨hk.1.2.2.2.1, ⟨hk.1.1, ⟨hk.1.2.1, hk.1.2.2.1⟩⟩⟩⟩)
  have n10_ := fB2 BK101 NB101_150 0 1 (.int .i64 t147) (.int .i64 t148)
  have n11_ := fB2 BK102 NB102_150 0 1 (.int .i64 t147) (.int .i64 t148)
  have n12_ := fB2 BK111 NB111_150 0 1 (.int .i64 t147) (.int .i64 t148)
  have n13_ : Aside0 (((w57.setCell ⟨gb150, 0, none⟩ (.int .i64 t147)).setCell ⟨gb150, 1, none⟩ (.int .i64 t148)).heap[gb150]? = some (.cells #[.int .i64 t147, .int .i64 t148] 36 (0, 0))) := ⟨by (with_reducible repeat (first | refine blk_drewN ?_ _ | refine blk_drew ?_ | refine blk_alloc ?_ _)); refine blk_put (cs := #[.int .i64 t147, .int .i64 0]) ?_ 1 _ rfl; (with_reducible repeat (first | refine blk_drewN ?_ _ | refine blk_drew ?_ | refine blk_alloc ?_ _)); refine blk_put (cs := #[.int .i64 0, .int .i64 0]) ?_ 0 _ rfl; (with_reducible repeat (first | refine blk_drewN ?_ _ | refine blk_drew ?_ | refine blk_alloc ?_ _)); exact BK150.out⟩
  have n14_ : Aside0 (Below w.heap.size w ((w57.setCell ⟨gb150, 0, none⟩ (.int .i64 t147)).setCell ⟨gb150, 1, none⟩ (.int .i64 t148))) := ⟨Bq HB⟩
  (try clear HO_8)
  (try clear HO_9)
  (try clear HO_10)
  (try clear HO124)
  (try clear HO127)
  (try clear HO133)
  (try clear HO136)
  (try clear HO139)
  (try clear HO143)
  (try clear HO146)
  (try clear BK101)
  (try clear BK102)
  (try clear BK111)
  (try clear BK150)
  (try clear HB)
  generalize ((w57.setCell ⟨gb150, 0, none⟩ (.int .i64 t147)).setCell ⟨gb150, 1, none⟩ (.int .i64 t148)) = w68 at n0_ n1_ n2_ n3_ n4_ n5_ n6_ n7_ n8_ n9_ n10_ n11_ n12_ n13_ n14_ ⊢
  have HO_8 := n0_
  have HO_9 := n1_
  have HO_10 := n2_
  have HO124 := n3_
  have HO127 := n4_
  have HO133 := n5_
  have HO136 := n6_
  have HO139 := n7_
  have HO143 := n8_
  have HO146 := n9_
  have BK101 := n10_
  have BK102 := n11_
  have BK111 := n12_
  have BK150 := n13_
  have HB := n14_
  clear n0_ n1_ n2_ n3_ n4_ n5_ n6_ n7_ n8_ n9_ n10_ n11_ n12_ n13_ n14_
  have n0_ := Aside0.mk (Kd.R_drew HO_8.out)
  have n1_ := Aside0.mk (Kd.R_drew HO_9.out)
  have n2_ := Aside0.mk (Kd.R_drew HO_10.out)
  have n3_ := Aside0.mk (Kd.R_drew HO124.out)
  have n4_ := Aside0.mk (Kd.R_drew HO127.out)
  have n5_ := Aside0.mk (Kd.R_drew HO133.out)
  have n6_ := Aside0.mk (Kd.R_drew HO136.out)
  have n7_ := Aside0.mk (Kd.R_drew HO139.out)
  have n8_ := Aside0.mk (Kd.R_drew HO143.out)
  have n9_ := Aside0.mk (Kd.R_drew HO146.out)
  have n10_ := Aside0.mk (blk_drew BK101.out)
  have n11_ := Aside0.mk (blk_drew BK102.out)
  have n12_ := Aside0.mk (blk_drew BK111.out)
  have n13_ := Aside0.mk (blk_drew BK150.out)
  have n14_ := Aside0.mk (below_drew1 HB.out)
  clear HO_8
  clear HO_9
  clear HO_10
  clear HO124
  clear HO127
  clear HO133
  clear HO136
  clear HO139
  clear HO143
  clear HO146
  clear BK101
  clear BK102
  clear BK111
  clear BK150
  clear HB
  have HO_8 := n0_
  have HO_9 := n1_
  have HO_10 := n2_
  have HO124 := n3_
  have HO127 := n4_
  have HO133 := n5_
  have HO136 := n6_
  have HO139 := n7_
  have HO143 := n8_
  have HO146 := n9_
  have BK101 := n10_
  have BK102 := n11_
  have BK111 := n12_
  have BK150 := n13_
  have HB := n14_
  clear n0_ n1_ n2_ n3_ n4_ n5_ n6_ n7_ n8_ n9_ n10_ n11_ n12_ n13_ n14_
  refine start_ (n := 43) (S := fun w' => True) (ds := []) (bl 43 0) (by kernel_rfl) rfl rfl trivial (fun hHeld => ?_); refine with_tabW lR.tab10 lR.bits10 (fun HT_ HW_ => ?_)
  generalize w68.drew = w69 at HO_8 HO_9 HO_10 HO124 HO127 HO133 HO136 HO139 HO143 HO146 BK101 BK102 BK111 BK150 HB hHeld ⊢
  refine pS 0 82 43 1 HT_ ?_
  refine pS 1 83 43 3 HT_ ?_
  refine pS 2 84 43 7 HT_ ?_
  refine pS 3 85 43 15 HT_ ?_
  refine pS 4 86 43 31 HT_ ?_
  refine pS 5 87 43 63 HT_ ?_
  refine oS 6 88 43 127 HT_ ?_
  refine oS 7 89 43 255 HT_ ?_
  refine oS 8 90 43 511 HT_ ?_
  refine oS 9 91 43 1023 HT_ ?_
  refine oS 10 92 43 2047 HT_ ?_
  refine oS 11 93 43 4095 HT_ ?_
  refine oS 12 94 43 8191 HT_ ?_
  refine pS 13 95 43 16383 HT_ ?_
  refine pS 14 96 43 32767 HT_ ?_
  refine pS 15 97 43 65535 HT_ ?_
  refine pS 16 98 43 131071 HT_ ?_
  refine pS 17 99 43 262143 HT_ ?_
  refine pS 18 100 43 524287 HT_ ?_
  refine oS 19 101 43 1048575 HT_ ?_
  refine oS 20 102 43 2097151 HT_ ?_
  refine oS 21 103 43 4194303 HT_ ?_
  refine oS 22 104 43 8388607 HT_ ?_
  refine oS 23 105 43 16777215 HT_ ?_
  refine oS 24 106 43 33554431 HT_ ?_
  refine oS 25 107 43 67108863 HT_ ?_
  refine pS 26 108 43 134217727 HT_ ?_
  refine pS 27 109 43 268435455 HT_ ?_
  refine pS 28 110 43 536870911 HT_ ?_
  refine pS 29 111 43 1073741823 HT_ ?_
  refine pS 30 112 43 2147483647 HT_ ?_
  refine oS 31 113 43 4294967295 HT_ ?_
  refine oS 32 114 43 8589934591 HT_ ?_
  refine oS 33 115 43 17179869183 HT_ ?_
  refine oS 34 116 43 34359738367 HT_ ?_
  refine oS 35 117 43 68719476735 HT_ ?_
  refine oS 36 118 43 137438953471 HT_ ?_
  refine oS 37 119 43 274877906943 HT_ ?_
  refine oS 38 120 43 549755813887 HT_ ?_
  refine oS 39 121 43 1099511627775 HT_ ?_
  refine oS 40 122 43 2199023255551 HT_ ?_
  refine pS 41 123 43 4398046511103 HT_ ?_
  refine pS 42 124 43 8796093022207 HT_ ?_
  refine done_ (done_of HT_.out (by kernel_rfl)) ?_
  try go_wp2
  go_meet
  case rel => exact ⟨_, (false), (by first | rfl | (simp; done) | (simp [*]; done)), H', ⟨by have := HK1.out; first | omega | exact Nat.le_refl _⟩, ⟨Kd.R_mono (R_ HO_8) (fun _ hk => trivial)⟩, ⟨Kd.R_mono (R_ HO_9) (fun _ hk => ⟨hk.1, hk.2.2.2.1⟩)⟩, ⟨Kd.R_mono (R_ HO_10) (fun _ hk => ⟨hk.1, hk.2.2.2.1⟩)⟩, ⟨Kd.R_mono (R_ HO139) (fun _ hk => ⟨hk.1, hk.2.1⟩)⟩, ⟨b_ BK101⟩, ⟨b_ BK102⟩, ⟨b_ BK111⟩, ⟨b_ BK150⟩, ⟨Bq HB⟩⟩
 rw [if_neg c61] at H
 have c61b0 : (t149 == 0) = false := beq_eq_false_iff_ne.mpr c61
 have c61b1 : (t149 != 0) = true := bne_iff_ne.mpr c61
 by_cases c70 : t149 = 7
 ·rw [if_pos c70] at H
  have c70b0 : (t149 == 7) = true := beq_iff_eq.mpr c70
  have c70b1 : (t149 != 7) = false := bne_eq_false_iff_eq.mpr c70
  clear c70
  replace H := Option.bind_eq_some_iff.mp H
  obtain ⟨⟨t151, t152⟩, A710, H⟩ := H
  replace H : (if (!(t147 == t151) || (!(t148 == t152))) = true then (lR.j1 k1 t108 t112 x10_1 t128 t129 t137 t140 t149 true t103 t104 t105 t106 t107 t147 t148) else (if t128 = true then (if t129 = true then (lR.j1 k1 t108 t112 x10_1 t128 t129 t137 t140 t149 (t149 != 0) t103 t104 t105 t106 t107 t147 t148) else (lR.j1 k1 t108 t112 x10_1 t128 t129 t137 t140 t149 true t103 t104 t105 t106 t107 t147 t148)) else (lR.j1 k1 t108 t112 x10_1 t128 t129 t137 t140 t149 false t103 t104 t105 t106 t107 t147 t148))) = some r := H
  have A71 := Aside0.mk A710
  clear A710
  by_cases c72 : (!(t147 == t151) || (!(t148 == t152))) = true
  ·rw [if_pos c72] at H
   have c72b0 : (!(t147 == t151) || (!(t148 == t152))) = true := c72
   clear c72
   have H' := Aside0.mk H
   clear H
   try go_wp2
   have n0_ := fR2 HO_8 BK150 0 1 (.int .i64 t147) (.int .i64 t148) (fun k_ => some k_ ≠ (.slice Ao41 t122.length co41 : Value).ownBlock ∧ some k_ ≠ (.slice Ao47 t131.length co47 : Value).ownBlock ∧ some k_ ≠ (v142 : Value).ownBlock) (fun _ hk => ⟨hk.1.1, ⟨hk.1.2.1, hk.1.2.2⟩⟩)
   have n1_ := fR2 HO_9 BK150 0 1 (.int .i64 t147) (.int .i64 t148) (fun k_ => some k_ ≠ (u10 : Value).ownBlock ∧ some k_ ≠ (.slice Ao42 t125.length co42 : Value).ownBlock ∧ some k_ ≠ (.slice Ao48 t134.length co48 : Value).ownBlock ∧ some k_ ≠ (v138 : Value).ownBlock ∧ some k_ ≠ (v145 : Value).ownBlock) (fun _ hk => ⟨hk.1.2.2.2.2, ⟨hk.1.1, ⟨hk.1.2.1, ⟨hk.1.2.2.1, hk.1.2.2.2.1⟩⟩⟩⟩)
   have n2_ := fR2 HO_10 BK150 0 1 (.int .i64 t147) (.int .i64 t148) (fun k_ => some k_ ≠ (.slice Ao37 t112.length co37 : Value).ownBlock ∧ some k_ ≠ (.slice Ao42 t125.length co42 : Value).ownBlock ∧ some k_ ≠ (.slice Ao48 t134.length co48 : Value).ownBlock ∧ some k_ ≠ (v138 : Value).ownBlock ∧ some k_ ≠ (v145 : Value).ownBlock) (fun _ hk => ⟨hk.1.2.2.2.2, ⟨hk.1.1, ⟨hk.1.2.1, ⟨hk.1.2.2.1, hk.1.2.2.2.1⟩⟩⟩⟩)
   have n3_ := fR2 HO124 BK150 0 1 (.int .i64 t147) (.int .i64 t148) (fun k_ => some k_ ≠ (.slice Ao15 t108.length co15 : Value).ownBlock ∧ some k_ ≠ (.slice Ao47 t131.length co47 : Value).ownBlock ∧ some k_ ≠ (v142 : Value).ownBlock) (fun _ hk => ⟨hk.1.2.2, ⟨hk.1.1, hk.1.2.1⟩⟩)
   have n4_ := fR2 HO127 BK150 0 1 (.int .i64 t147) (.int .i64 t148) (fun k_ => some k_ ≠ (.slice Ao37 t112.length co37 : Value).ownBlock ∧ some k_ ≠ (u10 : Value).ownBlock ∧ some k_ ≠ (.slice Ao48 t134.length co48 : Value).ownBlock ∧ some k_ ≠ (v138 : Value).ownBlock ∧ some k_ ≠ (v145 : Value).ownBlock) (fun _ hk => ⟨hk.1.2.2.2.2, ⟨hk.1.2.2.2.1, ⟨hk.1.1, ⟨hk.1.2.1, hk.1.2.2.1⟩⟩⟩⟩)
   have n5_ := fR2 HO133 BK150 0 1 (.int .i64 t147) (.int .i64 t148) (fun k_ => some k_ ≠ (.slice Ao15 t108.length co15 : Value).ownBlock ∧ some k_ ≠ (.slice Ao41 t122.length co41 : Value).ownBlock ∧ some k_ ≠ (v142 : Value).ownBlock) (fun _ hk => ⟨hk.1.2.2, ⟨hk.1.1, hk.1.2.1⟩⟩)
   have n6_ := fR2 HO136 BK150 0 1 (.int .i64 t147) (.int .i64 t148) (fun k_ => some k_ ≠ (.slice Ao37 t112.length co37 : Value).ownBlock ∧ some k_ ≠ (u10 : Value).ownBlock ∧ some k_ ≠ (.slice Ao42 t125.length co42 : Value).ownBlock ∧ some k_ ≠ (v138 : Value).ownBlock ∧ some k_ ≠ (v145 : Value).ownBlock) (fun _ hk => ⟨hk.1.2.2.2.2, ⟨hk.1.2.2.2.1, ⟨hk.1.1, ⟨hk.1.2.1, hk.1.2.2.1⟩⟩⟩⟩)
   have n7_ := fR2 HO139 BK150 0 1 (.int .i64 t147) (.int .i64 t148) (fun k_ => some k_ ≠ (.slice Ao37 t112.length co37 : Value).ownBlock ∧ some k_ ≠ (u10 : Value).ownBlock ∧ some k_ ≠ (.slice Ao42 t125.length co42 : Value).ownBlock ∧ some k_ ≠ (.slice Ao48 t134.length co48 : Value).ownBlock ∧ some k_ ≠ (v145 : Value).ownBlock) (fun _ hk => ⟨hk.1.2.2.2.2, ⟨hk.1.2.2.2.1, ⟨hk.1.1, ⟨hk.1.2.1, hk.1.2.2.1⟩⟩⟩⟩)
   have n8_ := fR2 HO143 BK150 0 1 (.int .i64 t147) (.int .i64 t148) (fun k_ => some k_ ≠ (.slice Ao15 t108.length co15 : Value).ownBlock ∧ some k_ ≠ (.slice Ao41 t122.length co41 : Value).ownBlock ∧ some k_ ≠ (.slice Ao47 t131.length co47 : Value).ownBlock) (fun _ hk => ⟨hk.1.2.2, ⟨hk.1.1, hk.1.2.1⟩⟩)
   have n9_ := fR2 HO146 BK150 0 1 (.int .i64 t147) (.int .i64 t148) (fun k_ => some k_ ≠ (.slice Ao37 t112.length co37 : Value).ownBlock ∧ some k_ ≠ (u10 : Value).ownBlock ∧ some k_ ≠ (.slice Ao42 t125.length co42 : Value).ownBlock ∧ some k_ ≠ (.slice Ao48 t134.length co48 : Value).ownBlock ∧ some k_ ≠ (v138 : Value).ownBlock) (fun _ hk => ⟨hk.1.2.2.2.2, ⟨hk.1.2.2.2.1, ⟨hk.1.1, ⟨hk.1.2.1, hk.1.2.2.1⟩⟩⟩⟩)
   have n10_ := fB2 BK101 NB101_150 0 1 (.int .i64 t147) (.int .i64 t148)
   have n11_ := fB2 BK102 NB102_150 0 1 (.int .i64 t147) (.int .i64 t148)
   have n12_ := fB2 BK111 NB111_150 0 1 (.int .i64 t147) (.int .i64 t148)
   have n13_ : Aside0 (((w57.setCell ⟨gb150, 0, none⟩ (.int .i64 t147)).setCell ⟨gb150, 1, none⟩ (.int .i64 t148)).heap[gb150]? = some (.cells #[.int .i64 t147, .int .i64 t148] 36 (0, 0))) := ⟨by (with_reducible repeat (first | refine blk_drewN ?_ _ | refine blk_drew ?_ | refine blk_alloc ?_ _)); refine blk_put (cs := #[.int .i64 t147, .int .i64 0]) ?_ 1 _ rfl; (with_reducible repeat (first | refine blk_drewN ?_ _ | refine blk_drew ?_ | refine blk_alloc ?_ _)); refine blk_put (cs := #[.int .i64 0, .int .i64 0]) ?_ 0 _ rfl; (with_reducible repeat (first | refine blk_drewN ?_ _ | refine blk_drew ?_ | refine blk_alloc ?_ _)); exact BK150.out⟩
   have n14_ : Aside0 (Below w.heap.size w ((w57.setCell ⟨gb150, 0, none⟩ (.int .i64 t147)).setCell ⟨gb150, 1, none⟩ (.int .i64 t148))) := ⟨Bq HB⟩
   (try clear HO_8)
   (try clear HO_9)
   (try clear HO_10)
   (try clear HO124)
   (try clear HO127)
   (try clear HO133)
   (try clear HO136)
   (try clear HO139)
   (try clear HO143)
   (try clear HO146)
   (try clear BK101)
   (try clear BK102)
   (try clear BK111)
   (try clear BK150)
   (try clear HB)
   generalize ((w57.setCell ⟨gb150, 0, none⟩ (.int .i64 t147)).setCell ⟨gb150, 1, none⟩ (.int .i64 t148)) = w73 at n0_ n1_ n2_ n3_ n4_ n5_ n6_ n7_ n8_ n9_ n10_ n11_ n12_ n13_ n14_ ⊢
   have HO_8 := n0_
   have HO_9 := n1_
   have HO_10 := n2_
   have HO124 := n3_
   have HO127 := n4_
   have HO133 := n5_
   have HO136 := n6_
   have HO139 := n7_
   have HO143 := n8_
   have HO146 := n9_
   have BK101 := n10_
   have BK102 := n11_
   have BK111 := n12_
   have BK150 := n13_
   have HB := n14_
   clear n0_ n1_ n2_ n3_ n4_ n5_ n6_ n7_ n8_ n9_ n10_ n11_ n12_ n13_ n14_
   have n0_ := Aside0.mk (Kd.R_drew HO_8.out)
   have n1_ := Aside0.mk (Kd.R_drew HO_9.out)
   have n2_ := Aside0.mk (Kd.R_drew HO_10.out)
   have n3_ := Aside0.mk (Kd.R_drew HO124.out)
   have n4_ := Aside0.mk (Kd.R_drew HO127.out)
   have n5_ := Aside0.mk (Kd.R_drew HO133.out)
   have n6_ := Aside0.mk (Kd.R_drew HO136.out)
   have n7_ := Aside0.mk (Kd.R_drew HO139.out)
   have n8_ := Aside0.mk (Kd.R_drew HO143.out)
   have n9_ := Aside0.mk (Kd.R_drew HO146.out)
   have n10_ := Aside0.mk (blk_drew BK101.out)
   have n11_ := Aside0.mk (blk_drew BK102.out)
   have n12_ := Aside0.mk (blk_drew BK111.out)
   have n13_ := Aside0.mk (blk_drew BK150.out)
   have n14_ := Aside0.mk (below_drew1 HB.out)
   clear HO_8
   clear HO_9
   clear HO_10
   clear HO124
   clear HO127
   clear HO133
   clear HO136
   clear HO139
   clear HO143
   clear HO146
   clear BK101
   clear BK102
   clear BK111
   clear BK150
   clear HB
   have HO_8 := n0_
   have HO_9 := n1_
   have HO_10 := n2_
   have HO124 := n3_
   have HO127 := n4_
   have HO133 := n5_
   have HO136 := n6_
   have HO139 := n7_
   have HO143 := n8_
   have HO146 := n9_
   have BK101 := n10_
   have BK102 := n11_
   have BK111 := n12_
   have BK150 := n13_
   have HB := n14_
   clear n0_ n1_ n2_ n3_ n4_ n5_ n6_ n7_ n8_ n9_ n10_ n11_ n12_ n13_ n14_
   refine start_ (n := 43) (S := fun w' => w'.cell? ⟨gb150, 0, none⟩ = some (.int .i64 t147) ∧ w'.cell? ⟨gb150, 1, none⟩ = some (.int .i64 t148)) (ds := []) (bl 43 0) (by kernel_rfl) rfl rfl ⟨kc BK150 0, kc BK150 1⟩ (fun hHeld => ?_); refine with_tabW lR.tab10 lR.bits10 (fun HT_ HW_ => ?_)
   generalize w73.drew = w74 at HO_8 HO_9 HO_10 HO124 HO127 HO133 HO136 HO139 HO143 HO146 BK101 BK102 BK111 BK150 HB hHeld ⊢
   refine pS 0 82 43 1 HT_ ?_
   refine pS 1 83 43 3 HT_ ?_
   refine pS 2 84 43 7 HT_ ?_
   refine pS 3 85 43 15 HT_ ?_
   refine pS 4 86 43 31 HT_ ?_
   refine pS 5 87 43 63 HT_ ?_
   refine oS 6 88 43 127 HT_ ?_
   refine oS 7 89 43 255 HT_ ?_
   refine oS 8 90 43 511 HT_ ?_
   refine oS 9 91 43 1023 HT_ ?_
   refine oS 10 92 43 2047 HT_ ?_
   refine oS 11 93 43 4095 HT_ ?_
   refine oS 12 94 43 8191 HT_ ?_
   refine pS 13 95 43 16383 HT_ ?_
   refine pS 14 96 43 32767 HT_ ?_
   refine pS 15 97 43 65535 HT_ ?_
   refine pS 16 98 43 131071 HT_ ?_
   refine pS 17 99 43 262143 HT_ ?_
   refine pS 18 100 43 524287 HT_ ?_
   refine pS 19 101 43 1048575 HT_ ?_
   refine pS 20 102 43 2097151 HT_ ?_
   refine pS 21 103 43 4194303 HT_ ?_
   refine tq 22 (some 104) (bl 43 8388607) HT_ HW_ hHeld (h := ?_)
   refine one_ (i := 23) (N := some 105) (bl 43 16777215) rfl rfl (one_of HT_.out (by kernel_rfl)) (by decide) (fun K hK => ?_)
   refine goes_ Tryd.func44 (by kernel_rfl) rfl #[.int .i64 0, .int .i64 0] (by rfl) rfl rfl (by (try simp only [List.map_toArray, List.map_cons, List.map_nil]); first | done | rfl | (simp only [List.length_drop, List.length_take]; rfl)) ?_
   with_reducible refine (smaltolaw03_span.calls 0 0 t151 t152 _ A71.out).mono ?_
   rintro e w75 ⟨rfl, hb⟩
   refine ⟨_, rfl, ?_⟩
   have n0_ := RB HO_8 hb
   have n1_ := RB HO_9 hb
   have n2_ := RB HO_10 hb
   have n3_ := RB HO124 hb
   have n4_ := RB HO127 hb
   have n5_ := RB HO133 hb
   have n6_ := RB HO136 hb
   have n7_ := RB HO139 hb
   have n8_ := RB HO143 hb
   have n9_ := RB HO146 hb
   have n10_ := bb BK101 hb
   have n11_ := bb BK102 hb
   have n12_ := bb BK111 hb
   have n13_ := bb BK150 hb
   have n14_ := Aside0.mk (below_step (Bq HB) hb)
   clear HO_8
   clear HO_9
   clear HO_10
   clear HO124
   clear HO127
   clear HO133
   clear HO136
   clear HO139
   clear HO143
   clear HO146
   clear BK101
   clear BK102
   clear BK111
   clear BK150
   clear HB
   have HO_8 := n0_
   have HO_9 := n1_
   have HO_10 := n2_
   have HO124 := n3_
   have HO127 := n4_
   have HO133 := n5_
   have HO136 := n6_
   have HO139 := n7_
   have HO143 := n8_
   have HO146 := n9_
   have BK101 := n10_
   have BK102 := n11_
   have BK111 := n12_
   have BK150 := n13_
   have HB := n14_
   clear n0_ n1_ n2_ n3_ n4_ n5_ n6_ n7_ n8_ n9_ n10_ n11_ n12_ n13_ n14_
   (try clear hb)
   (try clear hb2)
   (try clear hk)
   (try clear hi)
   refine hK.out _ _ ⟨kc BK150 0, kc BK150 1⟩ (fun hHeld => ?_)
   clear hK K
   refine nq 105 ?_
   refine pS 24 106 43 33554431 HT_ ?_
   refine pS 25 107 43 67108863 HT_ ?_
   refine pS 26 108 43 134217727 HT_ ?_
   refine pS 27 109 43 268435455 HT_ ?_
   refine pS 28 110 43 536870911 HT_ ?_
   refine oS 29 111 43 1073741823 HT_ ?_
   refine oS 30 112 43 2147483647 HT_ ?_
   refine oS 31 113 43 4294967295 HT_ ?_
   refine oS 32 114 43 8589934591 HT_ ?_
   refine oS 33 115 43 17179869183 HT_ ?_
   refine oS 34 116 43 34359738367 HT_ ?_
   refine oS 35 117 43 68719476735 HT_ ?_
   refine oS 36 118 43 137438953471 HT_ ?_
   refine oS 37 119 43 274877906943 HT_ ?_
   refine oS 38 120 43 549755813887 HT_ ?_
   refine oS 39 121 43 1099511627775 HT_ ?_
   refine oS 40 122 43 2199023255551 HT_ ?_
   refine oS 41 123 43 4398046511103 HT_ ?_
   refine pS 42 124 43 8796093022207 HT_ ?_
   refine done_ (done_of HT_.out (by kernel_rfl)) ?_
   try go_wp2
   go_meet
   case rel => exact ⟨_, (true), (by first | rfl | (simp; done) | (simp [*]; done)), H', ⟨by have := HK1.out; first | omega | exact Nat.le_refl _⟩, ⟨Kd.R_mono (R_ HO_8) (fun _ hk => trivial)⟩, ⟨Kd.R_mono (R_ HO_9) (fun _ hk => ⟨hk.1, hk.2.2.2.1⟩)⟩, ⟨Kd.R_mono (R_ HO_10) (fun _ hk => ⟨hk.1, hk.2.2.2.1⟩)⟩, ⟨Kd.R_mono (R_ HO139) (fun _ hk => ⟨hk.1, hk.2.1⟩)⟩, ⟨b_ BK101⟩, ⟨b_ BK102⟩, ⟨b_ BK111⟩, ⟨b_ BK150⟩, ⟨Bq HB⟩⟩
  rw [if_neg c72] at H
  have c72b0 : (!(t147 == t151) || (!(t148 == t152))) = false := by simpa using c72
  clear c72
  by_cases c76 : t128 = true
  ·subst c76
   have H1 : (if t129 = true then (lR.j1 k1 t108 t112 x10_1 true t129 t137 t140 t149 (t149 != 0) t103 t104 t105 t106 t107 t147 t148) else (lR.j1 k1 t108 t112 x10_1 true t129 t137 t140 t149 true t103 t104 t105 t106 t107 t147 t148)) = some r := by rw [if_pos rfl] at H; exact H
   clear H
   have H := H1
   clear H1
   by_cases c77 : t129 = true
   ·subst c77
    have H1 : (lR.j1 k1 t108 t112 x10_1 true true t137 t140 t149 (t149 != 0) t103 t104 t105 t106 t107 t147 t148) = some r := by rw [if_pos rfl] at H; exact H
    clear H
    have H := H1
    clear H1
    have H' := Aside0.mk H
    clear H
    try go_wp2
    have n0_ := fR2 HO_8 BK150 0 1 (.int .i64 t147) (.int .i64 t148) (fun k_ => some k_ ≠ (.slice Ao41 t122.length co41 : Value).ownBlock ∧ some k_ ≠ (.slice Ao47 t131.length co47 : Value).ownBlock ∧ some k_ ≠ (v142 : Value).ownBlock) (fun _ hk => ⟨hk.1.1, ⟨hk.1.2.1, hk.1.2.2⟩⟩)
    have n1_ := fR2 HO_9 BK150 0 1 (.int .i64 t147) (.int .i64 t148) (fun k_ => some k_ ≠ (u10 : Value).ownBlock ∧ some k_ ≠ (.slice Ao42 t125.length co42 : Value).ownBlock ∧ some k_ ≠ (.slice Ao48 t134.length co48 : Value).ownBlock ∧ some k_ ≠ (v138 : Value).ownBlock ∧ some k_ ≠ (v145 : Value).ownBlock) (fun _ hk => ⟨hk.1.2.2.2.2, ⟨hk.1.1, ⟨hk.1.2.1, ⟨hk.1.2.2.1, hk.1.2.2.2.1⟩⟩⟩⟩)
    have n2_ := fR2 HO_10 BK150 0 1 (.int .i64 t147) (.int .i64 t148) (fun k_ => some k_ ≠ (.slice Ao37 t112.length co37 : Value).ownBlock ∧ some k_ ≠ (.slice Ao42 t125.length co42 : Value).ownBlock ∧ some k_ ≠ (.slice Ao48 t134.length co48 : Value).ownBlock ∧ some k_ ≠ (v138 : Value).ownBlock ∧ some k_ ≠ (v145 : Value).ownBlock) (fun _ hk => ⟨hk.1.2.2.2.2, ⟨hk.1.1, ⟨hk.1.2.1, ⟨hk.1.2.2.1, hk.1.2.2.2.1⟩⟩⟩⟩)
    have n3_ := fR2 HO124 BK150 0 1 (.int .i64 t147) (.int .i64 t148) (fun k_ => some k_ ≠ (.slice Ao15 t108.length co15 : Value).ownBlock ∧ some k_ ≠ (.slice Ao47 t131.length co47 : Value).ownBlock ∧ some k_ ≠ (v142 : Value).ownBlock) (fun _ hk => ⟨hk.1.2.2, ⟨hk.1.1, hk.1.2.1⟩⟩)
    have n4_ := fR2 HO127 BK150 0 1 (.int .i64 t147) (.int .i64 t148) (fun k_ => some k_ ≠ (.slice Ao37 t112.length co37 : Value).ownBlock ∧ some k_ ≠ (u10 : Value).ownBlock ∧ some k_ ≠ (.slice Ao48 t134.length co48 : Value).ownBlock ∧ some k_ ≠ (v138 : Value).ownBlock ∧ some k_ ≠ (v145 : Value).ownBlock) (fun _ hk => ⟨hk.1.2.2.2.2, ⟨hk.1.2.2.2.1, ⟨hk.1.1, ⟨hk.1.2.1, hk.1.2.2.1⟩⟩⟩⟩)
    have n5_ := fR2 HO133 BK150 0 1 (.int .i64 t147) (.int .i64 t148) (fun k_ => some k_ ≠ (.slice Ao15 t108.length co15 : Value).ownBlock ∧ some k_ ≠ (.slice Ao41 t122.length co41 : Value).ownBlock ∧ some k_ ≠ (v142 : Value).ownBlock) (fun _ hk => ⟨hk.1.2.2, ⟨hk.1.1, hk.1.2.1⟩⟩)
    have n6_ := fR2 HO136 BK150 0 1 (.int .i64 t147) (.int .i64 t148) (fun k_ => some k_ ≠ (.slice Ao37 t112.length co37 : Value).ownBlock ∧ some k_ ≠ (u10 : Value).ownBlock ∧ some k_ ≠ (.slice Ao42 t125.length co42 : Value).ownBlock ∧ some k_ ≠ (v138 : Value).ownBlock ∧ some k_ ≠ (v145 : Value).ownBlock) (fun _ hk => ⟨hk.1.2.2.2.2, ⟨hk.1.2.2.2.1, ⟨hk.1.1, ⟨hk.1.2.1, hk.1.2.2.1⟩⟩⟩⟩)
    have n7_ := fR2 HO139 BK150 0 1 (.int .i64 t147) (.int .i64 t148) (fun k_ => some k_ ≠ (.slice Ao37 t112.length co37 : Value).ownBlock ∧ some k_ ≠ (u10 : Value).ownBlock ∧ some k_ ≠ (.slice Ao42 t125.length co42 : Value).ownBlock ∧ some k_ ≠ (.slice Ao48 t134.length co48 : Value).ownBlock ∧ some k_ ≠ (v145 : Value).ownBlock) (fun _ hk => ⟨hk.1.2.2.2.2, ⟨hk.1.2.2.2.1, ⟨hk.1.1, ⟨hk.1.2.1, hk.1.2.2.1⟩⟩⟩⟩)
    have n8_ := fR2 HO143 BK150 0 1 (.int .i64 t147) (.int .i64 t148) (fun k_ => some k_ ≠ (.slice Ao15 t108.length co15 : Value).ownBlock ∧ some k_ ≠ (.slice Ao41 t122.length co41 : Value).ownBlock ∧ some k_ ≠ (.slice Ao47 t131.length co47 : Value).ownBlock) (fun _ hk => ⟨hk.1.2.2, ⟨hk.1.1, hk.1.2.1⟩⟩)
    have n9_ := fR2 HO146 BK150 0 1 (.int .i64 t147) (.int .i64 t148) (fun k_ => some k_ ≠ (.slice Ao37 t112.length co37 : Value).ownBlock ∧ some k_ ≠ (u10 : Value).ownBlock ∧ some k_ ≠ (.slice Ao42 t125.length co42 : Value).ownBlock ∧ some k_ ≠ (.slice Ao48 t134.length co48 : Value).ownBlock ∧ some k_ ≠ (v138 : Value).ownBlock) (fun _ hk => ⟨hk.1.2.2.2.2, ⟨hk.1.2.2.2.1, ⟨hk.1.1, ⟨hk.1.2.1, hk.1.2.2.1⟩⟩⟩⟩)
    have n10_ := fB2 BK101 NB101_150 0 1 (.int .i64 t147) (.int .i64 t148)
    have n11_ := fB2 BK102 NB102_150 0 1 (.int .i64 t147) (.int .i64 t148)
    have n12_ := fB2 BK111 NB111_150 0 1 (.int .i64 t147) (.int .i64 t148)
    have n13_ : Aside0 (((w57.setCell ⟨gb150, 0, none⟩ (.int .i64 t147)).setCell ⟨gb150, 1, none⟩ (.int .i64 t148)).heap[gb150]? = some (.cells #[.int .i64 t147, .int .i64 t148] 36 (0, 0))) := ⟨by (with_reducible repeat (first | refine blk_drewN ?_ _ | refine blk_drew ?_ | refine blk_alloc ?_ _)); refine blk_put (cs := #[.int .i64 t147, .int .i64 0]) ?_ 1 _ rfl; (with_reducible repeat (first | refine blk_drewN ?_ _ | refine blk_drew ?_ | refine blk_alloc ?_ _)); refine blk_put (cs := #[.int .i64 0, .int .i64 0]) ?_ 0 _ rfl; (with_reducible repeat (first | refine blk_drewN ?_ _ | refine blk_drew ?_ | refine blk_alloc ?_ _)); exact BK150.out⟩
    have n14_ : Aside0 (Below w.heap.size w ((w57.setCell ⟨gb150, 0, none⟩ (.int .i64 t147)).setCell ⟨gb150, 1, none⟩ (.int .i64 t148))) := ⟨Bq HB⟩
    (try clear HO_8)
    (try clear HO_9)
    (try clear HO_10)
    (try clear HO124)
    (try clear HO127)
    (try clear HO133)
    (try clear HO136)
    (try clear HO139)
    (try clear HO143)
    (try clear HO146)
    (try clear BK101)
    (try clear BK102)
    (try clear BK111)
    (try clear BK150)
    (try clear HB)
    generalize ((w57.setCell ⟨gb150, 0, none⟩ (.int .i64 t147)).setCell ⟨gb150, 1, none⟩ (.int .i64 t148)) = w78 at n0_ n1_ n2_ n3_ n4_ n5_ n6_ n7_ n8_ n9_ n10_ n11_ n12_ n13_ n14_ ⊢
    have HO_8 := n0_
    have HO_9 := n1_
    have HO_10 := n2_
    have HO124 := n3_
    have HO127 := n4_
    have HO133 := n5_
    have HO136 := n6_
    have HO139 := n7_
    have HO143 := n8_
    have HO146 := n9_
    have BK101 := n10_
    have BK102 := n11_
    have BK111 := n12_
    have BK150 := n13_
    have HB := n14_
    clear n0_ n1_ n2_ n3_ n4_ n5_ n6_ n7_ n8_ n9_ n10_ n11_ n12_ n13_ n14_
    have n0_ := Aside0.mk (Kd.R_drew HO_8.out)
    have n1_ := Aside0.mk (Kd.R_drew HO_9.out)
    have n2_ := Aside0.mk (Kd.R_drew HO_10.out)
    have n3_ := Aside0.mk (Kd.R_drew HO124.out)
    have n4_ := Aside0.mk (Kd.R_drew HO127.out)
    have n5_ := Aside0.mk (Kd.R_drew HO133.out)
    have n6_ := Aside0.mk (Kd.R_drew HO136.out)
    have n7_ := Aside0.mk (Kd.R_drew HO139.out)
    have n8_ := Aside0.mk (Kd.R_drew HO143.out)
    have n9_ := Aside0.mk (Kd.R_drew HO146.out)
    have n10_ := Aside0.mk (blk_drew BK101.out)
    have n11_ := Aside0.mk (blk_drew BK102.out)
    have n12_ := Aside0.mk (blk_drew BK111.out)
    have n13_ := Aside0.mk (blk_drew BK150.out)
    have n14_ := Aside0.mk (below_drew1 HB.out)
    clear HO_8
    clear HO_9
    clear HO_10
    clear HO124
    clear HO127
    clear HO133
    clear HO136
    clear HO139
    clear HO143
    clear HO146
    clear BK101
    clear BK102
    clear BK111
    clear BK150
    clear HB
    have HO_8 := n0_
    have HO_9 := n1_
    have HO_10 := n2_
    have HO124 := n3_
    have HO127 := n4_
    have HO133 := n5_
    have HO136 := n6_
    have HO139 := n7_
    have HO143 := n8_
    have HO146 := n9_
    have BK101 := n10_
    have BK102 := n11_
    have BK111 := n12_
    have BK150 := n13_
    have HB := n14_
    clear n0_ n1_ n2_ n3_ n4_ n5_ n6_ n7_ n8_ n9_ n10_ n11_ n12_ n13_ n14_
    refine start_ (n := 43) (S := fun w' => w'.cell? ⟨gb150, 0, none⟩ = some (.int .i64 t147) ∧ w'.cell? ⟨gb150, 1, none⟩ = some (.int .i64 t148)) (ds := []) (bl 43 0) (by kernel_rfl) rfl rfl ⟨kc BK150 0, kc BK150 1⟩ (fun hHeld => ?_); refine with_tabW lR.tab10 lR.bits10 (fun HT_ HW_ => ?_)
    generalize w78.drew = w79 at HO_8 HO_9 HO_10 HO124 HO127 HO133 HO136 HO139 HO143 HO146 BK101 BK102 BK111 BK150 HB hHeld ⊢
    refine pS 0 82 43 1 HT_ ?_
    refine pS 1 83 43 3 HT_ ?_
    refine pS 2 84 43 7 HT_ ?_
    refine pS 3 85 43 15 HT_ ?_
    refine pS 4 86 43 31 HT_ ?_
    refine pS 5 87 43 63 HT_ ?_
    refine oS 6 88 43 127 HT_ ?_
    refine oS 7 89 43 255 HT_ ?_
    refine oS 8 90 43 511 HT_ ?_
    refine oS 9 91 43 1023 HT_ ?_
    refine oS 10 92 43 2047 HT_ ?_
    refine oS 11 93 43 4095 HT_ ?_
    refine oS 12 94 43 8191 HT_ ?_
    refine pS 13 95 43 16383 HT_ ?_
    refine pS 14 96 43 32767 HT_ ?_
    refine pS 15 97 43 65535 HT_ ?_
    refine pS 16 98 43 131071 HT_ ?_
    refine pS 17 99 43 262143 HT_ ?_
    refine pS 18 100 43 524287 HT_ ?_
    refine pS 19 101 43 1048575 HT_ ?_
    refine pS 20 102 43 2097151 HT_ ?_
    refine pS 21 103 43 4194303 HT_ ?_
    refine tq 22 (some 104) (bl 43 8388607) HT_ HW_ hHeld (h := ?_)
    refine one_ (i := 23) (N := some 105) (bl 43 16777215) rfl rfl (one_of HT_.out (by kernel_rfl)) (by decide) (fun K hK => ?_)
    refine goes_ Tryd.func44 (by kernel_rfl) rfl #[.int .i64 0, .int .i64 0] (by rfl) rfl rfl (by (try simp only [List.map_toArray, List.map_cons, List.map_nil]); first | done | rfl | (simp only [List.length_drop, List.length_take]; rfl)) ?_
    with_reducible refine (smaltolaw03_span.calls 0 0 t151 t152 _ A71.out).mono ?_
    rintro e w80 ⟨rfl, hb⟩
    refine ⟨_, rfl, ?_⟩
    have n0_ := RB HO_8 hb
    have n1_ := RB HO_9 hb
    have n2_ := RB HO_10 hb
    have n3_ := RB HO124 hb
    have n4_ := RB HO127 hb
    have n5_ := RB HO133 hb
    have n6_ := RB HO136 hb
    have n7_ := RB HO139 hb
    have n8_ := RB HO143 hb
    have n9_ := RB HO146 hb
    have n10_ := bb BK101 hb
    have n11_ := bb BK102 hb
    have n12_ := bb BK111 hb
    have n13_ := bb BK150 hb
    have n14_ := Aside0.mk (below_step (Bq HB) hb)
    clear HO_8
    clear HO_9
    clear HO_10
    clear HO124
    clear HO127
    clear HO133
    clear HO136
    clear HO139
    clear HO143
    clear HO146
    clear BK101
    clear BK102
    clear BK111
    clear BK150
    clear HB
    have HO_8 := n0_
    have HO_9 := n1_
    have HO_10 := n2_
    have HO124 := n3_
    have HO127 := n4_
    have HO133 := n5_
    have HO136 := n6_
    have HO139 := n7_
    have HO143 := n8_
    have HO146 := n9_
    have BK101 := n10_
    have BK102 := n11_
    have BK111 := n12_
    have BK150 := n13_
    have HB := n14_
    clear n0_ n1_ n2_ n3_ n4_ n5_ n6_ n7_ n8_ n9_ n10_ n11_ n12_ n13_ n14_
    (try clear hb)
    (try clear hb2)
    (try clear hk)
    (try clear hi)
    refine hK.out _ _ ⟨kc BK150 0, kc BK150 1⟩ (fun hHeld => ?_)
    clear hK K
    refine nq 105 ?_
    refine pS 24 106 43 33554431 HT_ ?_
    refine pS 25 107 43 67108863 HT_ ?_
    refine pS 26 108 43 134217727 HT_ ?_
    refine pS 27 109 43 268435455 HT_ ?_
    refine pS 28 110 43 536870911 HT_ ?_
    refine pS 29 111 43 1073741823 HT_ ?_
    refine pS 30 112 43 2147483647 HT_ ?_
    refine pS 31 113 43 4294967295 HT_ ?_
    refine pS 32 114 43 8589934591 HT_ ?_
    refine pS 33 115 43 17179869183 HT_ ?_
    refine pS 34 116 43 34359738367 HT_ ?_
    refine pS 35 117 43 68719476735 HT_ ?_
    refine pS 36 118 43 137438953471 HT_ ?_
    refine pS 37 119 43 274877906943 HT_ ?_
    refine pS 38 120 43 549755813887 HT_ ?_
    refine pS 39 121 43 1099511627775 HT_ ?_
    refine pS 40 122 43 2199023255551 HT_ ?_
    refine pS 41 123 43 4398046511103 HT_ ?_
    refine pS 42 124 43 8796093022207 HT_ ?_
    refine done_ (done_of HT_.out (by kernel_rfl)) ?_
    try go_wp2
    go_meet
    case rel => exact ⟨_, ((t149 != 0)), (by first | rfl | (simp; done) | (simp [*]; done)), H', ⟨by have := HK1.out; first | omega | exact Nat.le_refl _⟩, ⟨Kd.R_mono (R_ HO_8) (fun _ hk => trivial)⟩, ⟨Kd.R_mono (R_ HO_9) (fun _ hk => ⟨hk.1, hk.2.2.2.1⟩)⟩, ⟨Kd.R_mono (R_ HO_10) (fun _ hk => ⟨hk.1, hk.2.2.2.1⟩)⟩, ⟨Kd.R_mono (R_ HO139) (fun _ hk => ⟨hk.1, hk.2.1⟩)⟩, ⟨b_ BK101⟩, ⟨b_ BK102⟩, ⟨b_ BK111⟩, ⟨b_ BK150⟩, ⟨Bq HB⟩⟩
   replace c77 := Bool.eq_false_iff.mpr c77
   subst c77
   have H1 : (lR.j1 k1 t108 t112 x10_1 true false t137 t140 t149 true t103 t104 t105 t106 t107 t147 t148) = some r := by rw [if_neg (show ¬ (false = true) by decide)] at H; exact H
   clear H
   have H := H1
   clear H1
   have H' := Aside0.mk H
   clear H
   try go_wp2
   have n0_ := fR2 HO_8 BK150 0 1 (.int .i64 t147) (.int .i64 t148) (fun k_ => some k_ ≠ (.slice Ao41 t122.length co41 : Value).ownBlock ∧ some k_ ≠ (.slice Ao47 t131.length co47 : Value).ownBlock ∧ some k_ ≠ (v142 : Value).ownBlock) (fun _ hk => ⟨hk.1.1, ⟨hk.1.2.1, hk.1.2.2⟩⟩)
   have n1_ := fR2 HO_9 BK150 0 1 (.int .i64 t147) (.int .i64 t148) (fun k_ => some k_ ≠ (u10 : Value).ownBlock ∧ some k_ ≠ (.slice Ao42 t125.length co42 : Value).ownBlock ∧ some k_ ≠ (.slice Ao48 t134.length co48 : Value).ownBlock ∧ some k_ ≠ (v138 : Value).ownBlock ∧ some k_ ≠ (v145 : Value).ownBlock) (fun _ hk => ⟨hk.1.2.2.2.2, ⟨hk.1.1, ⟨hk.1.2.1, ⟨hk.1.2.2.1, hk.1.2.2.2.1⟩⟩⟩⟩)
   have n2_ := fR2 HO_10 BK150 0 1 (.int .i64 t147) (.int .i64 t148) (fun k_ => some k_ ≠ (.slice Ao37 t112.length co37 : Value).ownBlock ∧ some k_ ≠ (.slice Ao42 t125.length co42 : Value).ownBlock ∧ some k_ ≠ (.slice Ao48 t134.length co48 : Value).ownBlock ∧ some k_ ≠ (v138 : Value).ownBlock ∧ some k_ ≠ (v145 : Value).ownBlock) (fun _ hk => ⟨hk.1.2.2.2.2, ⟨hk.1.1, ⟨hk.1.2.1, ⟨hk.1.2.2.1, hk.1.2.2.2.1⟩⟩⟩⟩)
   have n3_ := fR2 HO124 BK150 0 1 (.int .i64 t147) (.int .i64 t148) (fun k_ => some k_ ≠ (.slice Ao15 t108.length co15 : Value).ownBlock ∧ some k_ ≠ (.slice Ao47 t131.length co47 : Value).ownBlock ∧ some k_ ≠ (v142 : Value).ownBlock) (fun _ hk => ⟨hk.1.2.2, ⟨hk.1.1, hk.1.2.1⟩⟩)
   have n4_ := fR2 HO127 BK150 0 1 (.int .i64 t147) (.int .i64 t148) (fun k_ => some k_ ≠ (.slice Ao37 t112.length co37 : Value).ownBlock ∧ some k_ ≠ (u10 : Value).ownBlock ∧ some k_ ≠ (.slice Ao48 t134.length co48 : Value).ownBlock ∧ some k_ ≠ (v138 : Value).ownBlock ∧ some k_ ≠ (v145 : Value).ownBlock) (fun _ hk => ⟨hk.1.2.2.2.2, ⟨hk.1.2.2.2.1, ⟨hk.1.1, ⟨hk.1.2.1, hk.1.2.2.1⟩⟩⟩⟩)
   have n5_ := fR2 HO133 BK150 0 1 (.int .i64 t147) (.int .i64 t148) (fun k_ => some k_ ≠ (.slice Ao15 t108.length co15 : Value).ownBlock ∧ some k_ ≠ (.slice Ao41 t122.length co41 : Value).ownBlock ∧ some k_ ≠ (v142 : Value).ownBlock) (fun _ hk => ⟨hk.1.2.2, ⟨hk.1.1, hk.1.2.1⟩⟩)
   have n6_ := fR2 HO136 BK150 0 1 (.int .i64 t147) (.int .i64 t148) (fun k_ => some k_ ≠ (.slice Ao37 t112.length co37 : Value).ownBlock ∧ some k_ ≠ (u10 : Value).ownBlock ∧ some k_ ≠ (.slice Ao42 t125.length co42 : Value).ownBlock ∧ some k_ ≠ (v138 : Value).ownBlock ∧ some k_ ≠ (v145 : Value).ownBlock) (fun _ hk => ⟨hk.1.2.2.2.2, ⟨hk.1.2.2.2.1, ⟨hk.1.1, ⟨hk.1.2.1, hk.1.2.2.1⟩⟩⟩⟩)
   have n7_ := fR2 HO139 BK150 0 1 (.int .i64 t147) (.int .i64 t148) (fun k_ => some k_ ≠ (.slice Ao37 t112.length co37 : Value).ownBlock ∧ some k_ ≠ (u10 : Value).ownBlock ∧ some k_ ≠ (.slice Ao42 t125.length co42 : Value).ownBlock ∧ some k_ ≠ (.slice Ao48 t134.length co48 : Value).ownBlock ∧ some k_ ≠ (v145 : Value).ownBlock) (fun _ hk => ⟨hk.1.2.2.2.2, ⟨hk.1.2.2.2.1, ⟨hk.1.1, ⟨hk.1.2.1, hk.1.2.2.1⟩⟩⟩⟩)
   have n8_ := fR2 HO143 BK150 0 1 (.int .i64 t147) (.int .i64 t148) (fun k_ => some k_ ≠ (.slice Ao15 t108.length co15 : Value).ownBlock ∧ some k_ ≠ (.slice Ao41 t122.length co41 : Value).ownBlock ∧ some k_ ≠ (.slice Ao47 t131.length co47 : Value).ownBlock) (fun _ hk => ⟨hk.1.2.2, ⟨hk.1.1, hk.1.2.1⟩⟩)
   have n9_ := fR2 HO146 BK150 0 1 (.int .i64 t147) (.int .i64 t148) (fun k_ => some k_ ≠ (.slice Ao37 t112.length co37 : Value).ownBlock ∧ some k_ ≠ (u10 : Value).ownBlock ∧ some k_ ≠ (.slice Ao42 t125.length co42 : Value).ownBlock ∧ some k_ ≠ (.slice Ao48 t134.length co48 : Value).ownBlock ∧ some k_ ≠ (v138 : Value).ownBlock) (fun _ hk => ⟨hk.1.2.2.2.2, ⟨hk.1.2.2.2.1, ⟨hk.1.1, ⟨hk.1.2.1, hk.1.2.2.1⟩⟩⟩⟩)
   have n10_ := fB2 BK101 NB101_150 0 1 (.int .i64 t147) (.int .i64 t148)
   have n11_ := fB2 BK102 NB102_150 0 1 (.int .i64 t147) (.int .i64 t148)
   have n12_ := fB2 BK111 NB111_150 0 1 (.int .i64 t147) (.int .i64 t148)
   have n13_ : Aside0 (((w57.setCell ⟨gb150, 0, none⟩ (.int .i64 t147)).setCell ⟨gb150, 1, none⟩ (.int .i64 t148)).heap[gb150]? = some (.cells #[.int .i64 t147, .int .i64 t148] 36 (0, 0))) := ⟨by (with_reducible repeat (first | refine blk_drewN ?_ _ | refine blk_drew ?_ | refine blk_alloc ?_ _)); refine blk_put (cs := #[.int .i64 t147, .int .i64 0]) ?_ 1 _ rfl; (with_reducible repeat (first | refine blk_drewN ?_ _ | refine blk_drew ?_ | refine blk_alloc ?_ _)); refine blk_put (cs := #[.int .i64 0, .int .i64 0]) ?_ 0 _ rfl; (with_reducible repeat (first | refine blk_drewN ?_ _ | refine blk_drew ?_ | refine blk_alloc ?_ _)); exact BK150.out⟩
   have n14_ : Aside0 (Below w.heap.size w ((w57.setCell ⟨gb150, 0, none⟩ (.int .i64 t147)).setCell ⟨gb150, 1, none⟩ (.int .i64 t148))) := ⟨Bq HB⟩
   (try clear HO_8)
   (try clear HO_9)
   (try clear HO_10)
   (try clear HO124)
   (try clear HO127)
   (try clear HO133)
   (try clear HO136)
   (try clear HO139)
   (try clear HO143)
   (try clear HO146)
   (try clear BK101)
   (try clear BK102)
   (try clear BK111)
   (try clear BK150)
   (try clear HB)
   generalize ((w57.setCell ⟨gb150, 0, none⟩ (.int .i64 t147)).setCell ⟨gb150, 1, none⟩ (.int .i64 t148)) = w81 at n0_ n1_ n2_ n3_ n4_ n5_ n6_ n7_ n8_ n9_ n10_ n11_ n12_ n13_ n14_ ⊢
   have HO_8 := n0_
   have HO_9 := n1_
   have HO_10 := n2_
   have HO124 := n3_
   have HO127 := n4_
   have HO133 := n5_
   have HO136 := n6_
   have HO139 := n7_
   have HO143 := n8_
   have HO146 := n9_
   have BK101 := n10_
   have BK102 := n11_
   have BK111 := n12_
   have BK150 := n13_
   have HB := n14_
   clear n0_ n1_ n2_ n3_ n4_ n5_ n6_ n7_ n8_ n9_ n10_ n11_ n12_ n13_ n14_
   have n0_ := Aside0.mk (Kd.R_drew HO_8.out)
   have n1_ := Aside0.mk (Kd.R_drew HO_9.out)
   have n2_ := Aside0.mk (Kd.R_drew HO_10.out)
   have n3_ := Aside0.mk (Kd.R_drew HO124.out)
   have n4_ := Aside0.mk (Kd.R_drew HO127.out)
   have n5_ := Aside0.mk (Kd.R_drew HO133.out)
   have n6_ := Aside0.mk (Kd.R_drew HO136.out)
   have n7_ := Aside0.mk (Kd.R_drew HO139.out)
   have n8_ := Aside0.mk (Kd.R_drew HO143.out)
   have n9_ := Aside0.mk (Kd.R_drew HO146.out)
   have n10_ := Aside0.mk (blk_drew BK101.out)
   have n11_ := Aside0.mk (blk_drew BK102.out)
   have n12_ := Aside0.mk (blk_drew BK111.out)
   have n13_ := Aside0.mk (blk_drew BK150.out)
   have n14_ := Aside0.mk (below_drew1 HB.out)
   clear HO_8
   clear HO_9
   clear HO_10
   clear HO124
   clear HO127
   clear HO133
   clear HO136
   clear HO139
   clear HO143
   clear HO146
   clear BK101
   clear BK102
   clear BK111
   clear BK150
   clear HB
   have HO_8 := n0_
   have HO_9 := n1_
   have HO_10 := n2_
   have HO124 := n3_
   have HO127 := n4_
   have HO133 := n5_
   have HO136 := n6_
   have HO139 := n7_
   have HO143 := n8_
   have HO146 := n9_
   have BK101 := n10_
   have BK102 := n11_
   have BK111 := n12_
   have BK150 := n13_
   have HB := n14_
   clear n0_ n1_ n2_ n3_ n4_ n5_ n6_ n7_ n8_ n9_ n10_ n11_ n12_ n13_ n14_
   refine start_ (n := 43) (S := fun w' => w'.cell? ⟨gb150, 0, none⟩ = some (.int .i64 t147) ∧ w'.cell? ⟨gb150, 1, none⟩ = some (.int .i64 t148)) (ds := []) (bl 43 0) (by kernel_rfl) rfl rfl ⟨kc BK150 0, kc BK150 1⟩ (fun hHeld => ?_); refine with_tabW lR.tab10 lR.bits10 (fun HT_ HW_ => ?_)
   generalize w81.drew = w82 at HO_8 HO_9 HO_10 HO124 HO127 HO133 HO136 HO139 HO143 HO146 BK101 BK102 BK111 BK150 HB hHeld ⊢
   refine pS 0 82 43 1 HT_ ?_
   refine pS 1 83 43 3 HT_ ?_
   refine pS 2 84 43 7 HT_ ?_
   refine pS 3 85 43 15 HT_ ?_
   refine pS 4 86 43 31 HT_ ?_
   refine pS 5 87 43 63 HT_ ?_
   refine oS 6 88 43 127 HT_ ?_
   refine oS 7 89 43 255 HT_ ?_
   refine oS 8 90 43 511 HT_ ?_
   refine oS 9 91 43 1023 HT_ ?_
   refine oS 10 92 43 2047 HT_ ?_
   refine oS 11 93 43 4095 HT_ ?_
   refine oS 12 94 43 8191 HT_ ?_
   refine pS 13 95 43 16383 HT_ ?_
   refine pS 14 96 43 32767 HT_ ?_
   refine pS 15 97 43 65535 HT_ ?_
   refine pS 16 98 43 131071 HT_ ?_
   refine pS 17 99 43 262143 HT_ ?_
   refine pS 18 100 43 524287 HT_ ?_
   refine pS 19 101 43 1048575 HT_ ?_
   refine pS 20 102 43 2097151 HT_ ?_
   refine pS 21 103 43 4194303 HT_ ?_
   refine tq 22 (some 104) (bl 43 8388607) HT_ HW_ hHeld (h := ?_)
   refine one_ (i := 23) (N := some 105) (bl 43 16777215) rfl rfl (one_of HT_.out (by kernel_rfl)) (by decide) (fun K hK => ?_)
   refine goes_ Tryd.func44 (by kernel_rfl) rfl #[.int .i64 0, .int .i64 0] (by rfl) rfl rfl (by (try simp only [List.map_toArray, List.map_cons, List.map_nil]); first | done | rfl | (simp only [List.length_drop, List.length_take]; rfl)) ?_
   with_reducible refine (smaltolaw03_span.calls 0 0 t151 t152 _ A71.out).mono ?_
   rintro e w83 ⟨rfl, hb⟩
   refine ⟨_, rfl, ?_⟩
   have n0_ := RB HO_8 hb
   have n1_ := RB HO_9 hb
   have n2_ := RB HO_10 hb
   have n3_ := RB HO124 hb
   have n4_ := RB HO127 hb
   have n5_ := RB HO133 hb
   have n6_ := RB HO136 hb
   have n7_ := RB HO139 hb
   have n8_ := RB HO143 hb
   have n9_ := RB HO146 hb
   have n10_ := bb BK101 hb
   have n11_ := bb BK102 hb
   have n12_ := bb BK111 hb
   have n13_ := bb BK150 hb
   have n14_ := Aside0.mk (below_step (Bq HB) hb)
   clear HO_8
   clear HO_9
   clear HO_10
   clear HO124
   clear HO127
   clear HO133
   clear HO136
   clear HO139
   clear HO143
   clear HO146
   clear BK101
   clear BK102
   clear BK111
   clear BK150
   clear HB
   have HO_8 := n0_
   have HO_9 := n1_
   have HO_10 := n2_
   have HO124 := n3_
   have HO127 := n4_
   have HO133 := n5_
   have HO136 := n6_
   have HO139 := n7_
   have HO143 := n8_
   have HO146 := n9_
   have BK101 := n10_
   have BK102 := n11_
   have BK111 := n12_
   have BK150 := n13_
   have HB := n14_
   clear n0_ n1_ n2_ n3_ n4_ n5_ n6_ n7_ n8_ n9_ n10_ n11_ n12_ n13_ n14_
   (try clear hb)
   (try clear hb2)
   (try clear hk)
   (try clear hi)
   refine hK.out _ _ ⟨kc BK150 0, kc BK150 1⟩ (fun hHeld => ?_)
   clear hK K
   refine nq 105 ?_
   refine pS 24 106 43 33554431 HT_ ?_
   refine pS 25 107 43 67108863 HT_ ?_
   refine pS 26 108 43 134217727 HT_ ?_
   refine pS 27 109 43 268435455 HT_ ?_
   refine pS 28 110 43 536870911 HT_ ?_
   refine pS 29 111 43 1073741823 HT_ ?_
   refine pS 30 112 43 2147483647 HT_ ?_
   refine pS 31 113 43 4294967295 HT_ ?_
   refine pS 32 114 43 8589934591 HT_ ?_
   refine pS 33 115 43 17179869183 HT_ ?_
   refine oS 34 116 43 34359738367 HT_ ?_
   refine oS 35 117 43 68719476735 HT_ ?_
   refine pS 36 118 43 137438953471 HT_ ?_
   refine pS 37 119 43 274877906943 HT_ ?_
   refine oS 38 120 43 549755813887 HT_ ?_
   refine oS 39 121 43 1099511627775 HT_ ?_
   refine pS 40 122 43 2199023255551 HT_ ?_
   refine pS 41 123 43 4398046511103 HT_ ?_
   refine pS 42 124 43 8796093022207 HT_ ?_
   refine done_ (done_of HT_.out (by kernel_rfl)) ?_
   try go_wp2
   go_meet
   case rel => exact ⟨_, (true), (by first | rfl | (simp; done) | (simp [*]; done)), H', ⟨by have := HK1.out; first | omega | exact Nat.le_refl _⟩, ⟨Kd.R_mono (R_ HO_8) (fun _ hk => trivial)⟩, ⟨Kd.R_mono (R_ HO_9) (fun _ hk => ⟨hk.1, hk.2.2.2.1⟩)⟩, ⟨Kd.R_mono (R_ HO_10) (fun _ hk => ⟨hk.1, hk.2.2.2.1⟩)⟩, ⟨Kd.R_mono (R_ HO139) (fun _ hk => ⟨hk.1, hk.2.1⟩)⟩, ⟨b_ BK101⟩, ⟨b_ BK102⟩, ⟨b_ BK111⟩, ⟨b_ BK150⟩, ⟨Bq HB⟩⟩
  replace c76 := Bool.eq_false_iff.mpr c76
  subst c76
  have H1 : (lR.j1 k1 t108 t112 x10_1 false t129 t137 t140 t149 false t103 t104 t105 t106 t107 t147 t148) = some r := by rw [if_neg (show ¬ (false = true) by decide)] at H; exact H
  clear H
  have H := H1
  clear H1
  have H' := Aside0.mk H
  clear H
  try go_wp2
  have n0_ := fR2 HO_8 BK150 0 1 (.int .i64 t147) (.int .i64 t148) (fun k_ => some k_ ≠ (.slice Ao41 t122.length co41 : Value).ownBlock ∧ some k_ ≠ (.slice Ao47 t131.length co47 : Value).ownBlock ∧ some k_ ≠ (v142 : Value).ownBlock) (fun _ hk => ⟨hk.1.1, ⟨hk.1.2.1, hk.1.2.2⟩⟩)
  have n1_ := fR2 HO_9 BK150 0 1 (.int .i64 t147) (.int .i64 t148) (fun k_ => some k_ ≠ (u10 : Value).ownBlock ∧ some k_ ≠ (.slice Ao42 t125.length co42 : Value).ownBlock ∧ some k_ ≠ (.slice Ao48 t134.length co48 : Value).ownBlock ∧ some k_ ≠ (v138 : Value).ownBlock ∧ some k_ ≠ (v145 : Value).ownBlock) (fun _ hk => ⟨hk.1.2.2.2.2, ⟨hk.1.1, ⟨hk.1.2.1, ⟨hk.1.2.2.1, hk.1.2.2.2.1⟩⟩⟩⟩)
  have n2_ := fR2 HO_10 BK150 0 1 (.int .i64 t147) (.int .i64 t148) (fun k_ => some k_ ≠ (.slice Ao37 t112.length co37 : Value).ownBlock ∧ some k_ ≠ (.slice Ao42 t125.length co42 : Value).ownBlock ∧ some k_ ≠ (.slice Ao48 t134.length co48 : Value).ownBlock ∧ some k_ ≠ (v138 : Value).ownBlock ∧ some k_ ≠ (v145 : Value).ownBlock) (fun _ hk => ⟨hk.1.2.2.2.2, ⟨hk.1.1, ⟨hk.1.2.1, ⟨hk.1.2.2.1, hk.1.2.2.2.1⟩⟩⟩⟩)
  have n3_ := fR2 HO124 BK150 0 1 (.int .i64 t147) (.int .i64 t148) (fun k_ => some k_ ≠ (.slice Ao15 t108.length co15 : Value).ownBlock ∧ some k_ ≠ (.slice Ao47 t131.length co47 : Value).ownBlock ∧ some k_ ≠ (v142 : Value).ownBlock) (fun _ hk => ⟨hk.1.2.2, ⟨hk.1.1, hk.1.2.1⟩⟩)
  have n4_ := fR2 HO127 BK150 0 1 (.int .i64 t147) (.int .i64 t148) (fun k_ => some k_ ≠ (.slice Ao37 t112.length co37 : Value).ownBlock ∧ some k_ ≠ (u10 : Value).ownBlock ∧ some k_ ≠ (.slice Ao48 t134.length co48 : Value).ownBlock ∧ some k_ ≠ (v138 : Value).ownBlock ∧ some k_ ≠ (v145 : Value).ownBlock) (fun _ hk => ⟨hk.1.2.2.2.2, ⟨hk.1.2.2.2.1, ⟨hk.1.1, ⟨hk.1.2.1, hk.1.2.2.1⟩⟩⟩⟩)
  have n5_ := fR2 HO133 BK150 0 1 (.int .i64 t147) (.int .i64 t148) (fun k_ => some k_ ≠ (.slice Ao15 t108.length co15 : Value).ownBlock ∧ some k_ ≠ (.slice Ao41 t122.length co41 : Value).ownBlock ∧ some k_ ≠ (v142 : Value).ownBlock) (fun _ hk => ⟨hk.1.2.2, ⟨hk.1.1, hk.1.2.1⟩⟩)
  have n6_ := fR2 HO136 BK150 0 1 (.int .i64 t147) (.int .i64 t148) (fun k_ => some k_ ≠ (.slice Ao37 t112.length co37 : Value).ownBlock ∧ some k_ ≠ (u10 : Value).ownBlock ∧ some k_ ≠ (.slice Ao42 t125.length co42 : Value).ownBlock ∧ some k_ ≠ (v138 : Value).ownBlock ∧ some k_ ≠ (v145 : Value).ownBlock) (fun _ hk => ⟨hk.1.2.2.2.2, ⟨hk.1.2.2.2.1, ⟨hk.1.1, ⟨hk.1.2.1, hk.1.2.2.1⟩⟩⟩⟩)
  have n7_ := fR2 HO139 BK150 0 1 (.int .i64 t147) (.int .i64 t148) (fun k_ => some k_ ≠ (.slice Ao37 t112.length co37 : Value).ownBlock ∧ some k_ ≠ (u10 : Value).ownBlock ∧ some k_ ≠ (.slice Ao42 t125.length co42 : Value).ownBlock ∧ some k_ ≠ (.slice Ao48 t134.length co48 : Value).ownBlock ∧ some k_ ≠ (v145 : Value).ownBlock) (fun _ hk => ⟨hk.1.2.2.2.2, ⟨hk.1.2.2.2.1, ⟨hk.1.1, ⟨hk.1.2.1, hk.1.2.2.1⟩⟩⟩⟩)
  have n8_ := fR2 HO143 BK150 0 1 (.int .i64 t147) (.int .i64 t148) (fun k_ => some k_ ≠ (.slice Ao15 t108.length co15 : Value).ownBlock ∧ some k_ ≠ (.slice Ao41 t122.length co41 : Value).ownBlock ∧ some k_ ≠ (.slice Ao47 t131.length co47 : Value).ownBlock) (fun _ hk => ⟨hk.1.2.2, ⟨hk.1.1, hk.1.2.1⟩⟩)
  have n9_ := fR2 HO146 BK150 0 1 (.int .i64 t147) (.int .i64 t148) (fun k_ => some k_ ≠ (.slice Ao37 t112.length co37 : Value).ownBlock ∧ some k_ ≠ (u10 : Value).ownBlock ∧ some k_ ≠ (.slice Ao42 t125.length co42 : Value).ownBlock ∧ some k_ ≠ (.slice Ao48 t134.length co48 : Value).ownBlock ∧ some k_ ≠ (v138 : Value).ownBlock) (fun _ hk => ⟨hk.1.2.2.2.2, ⟨hk.1.2.2.2.1, ⟨hk.1.1, ⟨hk.1.2.1, hk.1.2.2.1⟩⟩⟩⟩)
  have n10_ := fB2 BK101 NB101_150 0 1 (.int .i64 t147) (.int .i64 t148)
  have n11_ := fB2 BK102 NB102_150 0 1 (.int .i64 t147) (.int .i64 t148)
  have n12_ := fB2 BK111 NB111_150 0 1 (.int .i64 t147) (.int .i64 t148)
  have n13_ : Aside0 (((w57.setCell ⟨gb150, 0, none⟩ (.int .i64 t147)).setCell ⟨gb150, 1, none⟩ (.int .i64 t148)).heap[gb150]? = some (.cells #[.int .i64 t147, .int .i64 t148] 36 (0, 0))) := ⟨by (with_reducible repeat (first | refine blk_drewN ?_ _ | refine blk_drew ?_ | refine blk_alloc ?_ _)); refine blk_put (cs := #[.int .i64 t147, .int .i64 0]) ?_ 1 _ rfl; (with_reducible repeat (first | refine blk_drewN ?_ _ | refine blk_drew ?_ | refine blk_alloc ?_ _)); refine blk_put (cs := #[.int .i64 0, .int .i64 0]) ?_ 0 _ rfl; (with_reducible repeat (first | refine blk_drewN ?_ _ | refine blk_drew ?_ | refine blk_alloc ?_ _)); exact BK150.out⟩
  have n14_ : Aside0 (Below w.heap.size w ((w57.setCell ⟨gb150, 0, none⟩ (.int .i64 t147)).setCell ⟨gb150, 1, none⟩ (.int .i64 t148))) := ⟨Bq HB⟩
  (try clear HO_8)
  (try clear HO_9)
  (try clear HO_10)
  (try clear HO124)
  (try clear HO127)
  (try clear HO133)
  (try clear HO136)
  (try clear HO139)
  (try clear HO143)
  (try clear HO146)
  (try clear BK101)
  (try clear BK102)
  (try clear BK111)
  (try clear BK150)
  (try clear HB)
  generalize ((w57.setCell ⟨gb150, 0, none⟩ (.int .i64 t147)).setCell ⟨gb150, 1, none⟩ (.int .i64 t148)) = w84 at n0_ n1_ n2_ n3_ n4_ n5_ n6_ n7_ n8_ n9_ n10_ n11_ n12_ n13_ n14_ ⊢
  have HO_8 := n0_
  have HO_9 := n1_
  have HO_10 := n2_
  have HO124 := n3_
  have HO127 := n4_
  have HO133 := n5_
  have HO136 := n6_
  have HO139 := n7_
  have HO143 := n8_
  have HO146 := n9_
  have BK101 := n10_
  have BK102 := n11_
  have BK111 := n12_
  have BK150 := n13_
  have HB := n14_
  clear n0_ n1_ n2_ n3_ n4_ n5_ n6_ n7_ n8_ n9_ n10_ n11_ n12_ n13_ n14_
  have n0_ := Aside0.mk (Kd.R_drew HO_8.out)
  have n1_ := Aside0.mk (Kd.R_drew HO_9.out)
  have n2_ := Aside0.mk (Kd.R_drew HO_10.out)
  have n3_ := Aside0.mk (Kd.R_drew HO124.out)
  have n4_ := Aside0.mk (Kd.R_drew HO127.out)
  have n5_ := Aside0.mk (Kd.R_drew HO133.out)
  have n6_ := Aside0.mk (Kd.R_drew HO136.out)
  have n7_ := Aside0.mk (Kd.R_drew HO139.out)
  have n8_ := Aside0.mk (Kd.R_drew HO143.out)
  have n9_ := Aside0.mk (Kd.R_drew HO146.out)
  have n10_ := Aside0.mk (blk_drew BK101.out)
  have n11_ := Aside0.mk (blk_drew BK102.out)
  have n12_ := Aside0.mk (blk_drew BK111.out)
  have n13_ := Aside0.mk (blk_drew BK150.out)
  have n14_ := Aside0.mk (below_drew1 HB.out)
  clear HO_8
  clear HO_9
  clear HO_10
  clear HO124
  clear HO127
  clear HO133
  clear HO136
  clear HO139
  clear HO143
  clear HO146
  clear BK101
  clear BK102
  clear BK111
  clear BK150
  clear HB
  have HO_8 := n0_
  have HO_9 := n1_
  have HO_10 := n2_
  have HO124 := n3_
  have HO127 := n4_
  have HO133 := n5_
  have HO136 := n6_
  have HO139 := n7_
  have HO143 := n8_
  have HO146 := n9_
  have BK101 := n10_
  have BK102 := n11_
  have BK111 := n12_
  have BK150 := n13_
  have HB := n14_
  clear n0_ n1_ n2_ n3_ n4_ n5_ n6_ n7_ n8_ n9_ n10_ n11_ n12_ n13_ n14_
  refine start_ (n := 43) (S := fun w' => w'.cell? ⟨gb150, 0, none⟩ = some (.int .i64 t147) ∧ w'.cell? ⟨gb150, 1, none⟩ = some (.int .i64 t148)) (ds := []) (bl 43 0) (by kernel_rfl) rfl rfl ⟨kc BK150 0, kc BK150 1⟩ (fun hHeld => ?_); refine with_tabW lR.tab10 lR.bits10 (fun HT_ HW_ => ?_)
  generalize w84.drew = w85 at HO_8 HO_9 HO_10 HO124 HO127 HO133 HO136 HO139 HO143 HO146 BK101 BK102 BK111 BK150 HB hHeld ⊢
  refine pS 0 82 43 1 HT_ ?_
  refine pS 1 83 43 3 HT_ ?_
  refine pS 2 84 43 7 HT_ ?_
  refine pS 3 85 43 15 HT_ ?_
  refine pS 4 86 43 31 HT_ ?_
  refine pS 5 87 43 63 HT_ ?_
  refine oS 6 88 43 127 HT_ ?_
  refine oS 7 89 43 255 HT_ ?_
  refine oS 8 90 43 511 HT_ ?_
  refine oS 9 91 43 1023 HT_ ?_
  refine oS 10 92 43 2047 HT_ ?_
  refine oS 11 93 43 4095 HT_ ?_
  refine oS 12 94 43 8191 HT_ ?_
  refine pS 13 95 43 16383 HT_ ?_
  refine pS 14 96 43 32767 HT_ ?_
  refine pS 15 97 43 65535 HT_ ?_
  refine pS 16 98 43 131071 HT_ ?_
  refine pS 17 99 43 262143 HT_ ?_
  refine pS 18 100 43 524287 HT_ ?_
  refine pS 19 101 43 1048575 HT_ ?_
  refine pS 20 102 43 2097151 HT_ ?_
  refine pS 21 103 43 4194303 HT_ ?_
  refine tq 22 (some 104) (bl 43 8388607) HT_ HW_ hHeld (h := ?_)
  refine one_ (i := 23) (N := some 105) (bl 43 16777215) rfl rfl (one_of HT_.out (by kernel_rfl)) (by decide) (fun K hK => ?_)
  refine goes_ Tryd.func44 (by kernel_rfl) rfl #[.int .i64 0, .int .i64 0] (by rfl) rfl rfl (by (try simp only [List.map_toArray, List.map_cons, List.map_nil]); first | done | rfl | (simp only [List.length_drop, List.length_take]; rfl)) ?_
  with_reducible refine (smaltolaw03_span.calls 0 0 t151 t152 _ A71.out).mono ?_
  rintro e w86 ⟨rfl, hb⟩
  refine ⟨_, rfl, ?_⟩
  have n0_ := RB HO_8 hb
  have n1_ := RB HO_9 hb
  have n2_ := RB HO_10 hb
  have n3_ := RB HO124 hb
  have n4_ := RB HO127 hb
  have n5_ := RB HO133 hb
  have n6_ := RB HO136 hb
  have n7_ := RB HO139 hb
  have n8_ := RB HO143 hb
  have n9_ := RB HO146 hb
  have n10_ := bb BK101 hb
  have n11_ := bb BK102 hb
  have n12_ := bb BK111 hb
  have n13_ := bb BK150 hb
  have n14_ := Aside0.mk (below_step (Bq HB) hb)
  clear HO_8
  clear HO_9
  clear HO_10
  clear HO124
  clear HO127
  clear HO133
  clear HO136
  clear HO139
  clear HO143
  clear HO146
  clear BK101
  clear BK102
  clear BK111
  clear BK150
  clear HB
  have HO_8 := n0_
  have HO_9 := n1_
  have HO_10 := n2_
  have HO124 := n3_
  have HO127 := n4_
  have HO133 := n5_
  have HO136 := n6_
  have HO139 := n7_
  have HO143 := n8_
  have HO146 := n9_
  have BK101 := n10_
  have BK102 := n11_
  have BK111 := n12_
  have BK150 := n13_
  have HB := n14_
  clear n0_ n1_ n2_ n3_ n4_ n5_ n6_ n7_ n8_ n9_ n10_ n11_ n12_ n13_ n14_
  (try clear hb)
  (try clear hb2)
  (try clear hk)
  (try clear hi)
  refine hK.out _ _ ⟨kc BK150 0, kc BK150 1⟩ (fun hHeld => ?_)
  clear hK K
  refine nq 105 ?_
  refine pS 24 106 43 33554431 HT_ ?_
  refine pS 25 107 43 67108863 HT_ ?_
  refine pS 26 108 43 134217727 HT_ ?_
  refine pS 27 109 43 268435455 HT_ ?_
  refine pS 28 110 43 536870911 HT_ ?_
  refine pS 29 111 43 1073741823 HT_ ?_
  refine pS 30 112 43 2147483647 HT_ ?_
  refine oS 31 113 43 4294967295 HT_ ?_
  refine oS 32 114 43 8589934591 HT_ ?_
  refine oS 33 115 43 17179869183 HT_ ?_
  refine oS 34 116 43 34359738367 HT_ ?_
  refine oS 35 117 43 68719476735 HT_ ?_
  refine oS 36 118 43 137438953471 HT_ ?_
  refine oS 37 119 43 274877906943 HT_ ?_
  refine oS 38 120 43 549755813887 HT_ ?_
  refine oS 39 121 43 1099511627775 HT_ ?_
  refine oS 40 122 43 2199023255551 HT_ ?_
  refine pS 41 123 43 4398046511103 HT_ ?_
  refine pS 42 124 43 8796093022207 HT_ ?_
  refine done_ (done_of HT_.out (by kernel_rfl)) ?_
  try go_wp2
  go_meet
  case rel => exact ⟨_, (false), (by first | rfl | (simp; done) | (simp [*]; done)), H', ⟨by have := HK1.out; first | omega | exact Nat.le_refl _⟩, ⟨Kd.R_mono (R_ HO_8) (fun _ hk => trivial)⟩, ⟨Kd.R_mono (R_ HO_9) (fun _ hk => ⟨hk.1, hk.2.2.2.1⟩)⟩, ⟨Kd.R_mono (R_ HO_10) (fun _ hk => ⟨hk.1, hk.2.2.2.1⟩)⟩, ⟨Kd.R_mono (R_ HO139) (fun _ hk => ⟨hk.1, hk.2.1⟩)⟩, ⟨b_ BK101⟩, ⟨b_ BK102⟩, ⟨b_ BK111⟩, ⟨b_ BK150⟩, ⟨Bq HB⟩⟩
 rw [if_neg c70] at H
 have c70b0 : (t149 == 7) = false := beq_eq_false_iff_ne.mpr c70
 have c70b1 : (t149 != 7) = true := bne_iff_ne.mpr c70
 have H' := Aside0.mk H
 clear H
 try go_wp2
 have n0_ := fR2 HO_8 BK150 0 1 (.int .i64 t147) (.int .i64 t148) (fun k_ => some k_ ≠ (.slice Ao41 t122.length co41 : Value).ownBlock ∧ some k_ ≠ (.slice Ao47 t131.length co47 : Value).ownBlock ∧ some k_ ≠ (v142 : Value).ownBlock) (fun _ hk => ⟨hk.1.1, ⟨hk.1.2.1, hk.1.2.2⟩⟩)
 have n1_ := fR2 HO_9 BK150 0 1 (.int .i64 t147) (.int .i64 t148) (fun k_ => some k_ ≠ (u10 : Value).ownBlock ∧ some k_ ≠ (.slice Ao42 t125.length co42 : Value).ownBlock ∧ some k_ ≠ (.slice Ao48 t134.length co48 : Value).ownBlock ∧ some k_ ≠ (v138 : Value).ownBlock ∧ some k_ ≠ (v145 : Value).ownBlock) (fun _ hk => ⟨hk.1.2.2.2.2, ⟨hk.1.1, ⟨hk.1.2.1, ⟨hk.1.2.2.1, hk.1.2.2.2.1⟩⟩⟩⟩)
 have n2_ := fR2 HO_10 BK150 0 1 (.int .i64 t147) (.int .i64 t148) (fun k_ => some k_ ≠ (.slice Ao37 t112.length co37 : Value).ownBlock ∧ some k_ ≠ (.slice Ao42 t125.length co42 : Value).ownBlock ∧ some k_ ≠ (.slice Ao48 t134.length co48 : Value).ownBlock ∧ some k_ ≠ (v138 : Value).ownBlock ∧ some k_ ≠ (v145 : Value).ownBlock) (fun _ hk => ⟨hk.1.2.2.2.2, ⟨hk.1.1, ⟨hk.1.2.1, ⟨hk.1.2.2.1, hk.1.2.2.2.1⟩⟩⟩⟩)
 have n3_ := fR2 HO124 BK150 0 1 (.int .i64 t147) (.int .i64 t148) (fun k_ => some k_ ≠ (.slice Ao15 t108.length co15 : Value).ownBlock ∧ some k_ ≠ (.slice Ao47 t131.length co47 : Value).ownBlock ∧ some k_ ≠ (v142 : Value).ownBlock) (fun _ hk => ⟨hk.1.2.2, ⟨hk.1.1, hk.1.2.1⟩⟩)
 have n4_ := fR2 HO127 BK150 0 1 (.int .i64 t147) (.int .i64 t148) (fun k_ => some k_ ≠ (.slice Ao37 t112.length co37 : Value).ownBlock ∧ some k_ ≠ (u10 : Value).ownBlock ∧ some k_ ≠ (.slice Ao48 t134.length co48 : Value).ownBlock ∧ some k_ ≠ (v138 : Value).ownBlock ∧ some k_ ≠ (v145 : Value).ownBlock) (fun _ hk => ⟨hk.1.2.2.2.2, ⟨hk.1.2.2.2.1, ⟨hk.1.1, ⟨hk.1.2.1, hk.1.2.2.1⟩⟩⟩⟩)
 have n5_ := fR2 HO133 BK150 0 1 (.int .i64 t147) (.int .i64 t148) (fun k_ => some k_ ≠ (.slice Ao15 t108.length co15 : Value).ownBlock ∧ some k_ ≠ (.slice Ao41 t122.length co41 : Value).ownBlock ∧ some k_ ≠ (v142 : Value).ownBlock) (fun _ hk => ⟨hk.1.2.2, ⟨hk.1.1, hk.1.2.1⟩⟩)
 have n6_ := fR2 HO136 BK150 0 1 (.int .i64 t147) (.int .i64 t148) (fun k_ => some k_ ≠ (.slice Ao37 t112.length co37 : Value).ownBlock ∧ some k_ ≠ (u10 : Value).ownBlock ∧ some k_ ≠ (.slice Ao42 t125.length co42 : Value).ownBlock ∧ some k_ ≠ (v138 : Value).ownBlock ∧ some k_ ≠ (v145 : Value).ownBlock) (fun _ hk => ⟨hk.1.2.2.2.2, ⟨hk.1.2.2.2.1, ⟨hk.1.1, ⟨hk.1.2.1, hk.1.2.2.1⟩⟩⟩⟩)
 have n7_ := fR2 HO139 BK150 0 1 (.int .i64 t147) (.int .i64 t148) (fun k_ => some k_ ≠ (.slice Ao37 t112.length co37 : Value).ownBlock ∧ some k_ ≠ (u10 : Value).ownBlock ∧ some k_ ≠ (.slice Ao42 t125.length co42 : Value).ownBlock ∧ some k_ ≠ (.slice Ao48 t134.length co48 : Value).ownBlock ∧ some k_ ≠ (v145 : Value).ownBlock) (fun _ hk => ⟨hk.1.2.2.2.2, ⟨hk.1.2.2.2.1, ⟨hk.1.1, ⟨hk.1.2.1, hk.1.2.2.1⟩⟩⟩⟩)
 have n8_ := fR2 HO143 BK150 0 1 (.int .i64 t147) (.int .i64 t148) (fun k_ => some k_ ≠ (.slice Ao15 t108.length co15 : Value).ownBlock ∧ some k_ ≠ (.slice Ao41 t122.length co41 : Value).ownBlock ∧ some k_ ≠ (.slice Ao47 t131.length co47 : Value).ownBlock) (fun _ hk => ⟨hk.1.2.2, ⟨hk.1.1, hk.1.2.1⟩⟩)
 have n9_ := fR2 HO146 BK150 0 1 (.int .i64 t147) (.int .i64 t148) (fun k_ => some k_ ≠ (.slice Ao37 t112.length co37 : Value).ownBlock ∧ some k_ ≠ (u10 : Value).ownBlock ∧ some k_ ≠ (.slice Ao42 t125.length co42 : Value).ownBlock ∧ some k_ ≠ (.slice Ao48 t134.length co48 : Value).ownBlock ∧ some k_ ≠ (v138 : Value).ownBlock) (fun _ hk => ⟨hk.1.2.2.2.2, ⟨hk.1.2.2.2.1, ⟨hk.1.1, ⟨hk.1.2.1, hk.1.2.2.1⟩⟩⟩⟩)
 have n10_ := fB2 BK101 NB101_150 0 1 (.int .i64 t147) (.int .i64 t148)
 have n11_ := fB2 BK102 NB102_150 0 1 (.int .i64 t147) (.int .i64 t148)
 have n12_ := fB2 BK111 NB111_150 0 1 (.int .i64 t147) (.int .i64 t148)
 have n13_ : Aside0 (((w57.setCell ⟨gb150, 0, none⟩ (.int .i64 t147)).setCell ⟨gb150, 1, none⟩ (.int .i64 t148)).heap[gb150]? = some (.cells #[.int .i64 t147, .int .i64 t148] 36 (0, 0))) := ⟨by (with_reducible repeat (first | refine blk_drewN ?_ _ | refine blk_drew ?_ | refine blk_alloc ?_ _)); refine blk_put (cs := #[.int .i64 t147, .int .i64 0]) ?_ 1 _ rfl; (with_reducible repeat (first | refine blk_drewN ?_ _ | refine blk_drew ?_ | refine blk_alloc ?_ _)); refine blk_put (cs := #[.int .i64 0, .int .i64 0]) ?_ 0 _ rfl; (with_reducible repeat (first | refine blk_drewN ?_ _ | refine blk_drew ?_ | refine blk_alloc ?_ _)); exact BK150.out⟩
 have n14_ : Aside0 (Below w.heap.size w ((w57.setCell ⟨gb150, 0, none⟩ (.int .i64 t147)).setCell ⟨gb150, 1, none⟩ (.int .i64 t148))) := ⟨Bq HB⟩
 (try clear HO_8)
 (try clear HO_9)
 (try clear HO_10)
 (try clear HO124)
 (try clear HO127)
 (try clear HO133)
 (try clear HO136)
 (try clear HO139)
 (try clear HO143)
 (try clear HO146)
 (try clear BK101)
 (try clear BK102)
 (try clear BK111)
 (try clear BK150)
 (try clear HB)
 generalize ((w57.setCell ⟨gb150, 0, none⟩ (.int .i64 t147)).setCell ⟨gb150, 1, none⟩ (.int .i64 t148)) = w87 at n0_ n1_ n2_ n3_ n4_ n5_ n6_ n7_ n8_ n9_ n10_ n11_ n12_ n13_ n14_ ⊢
 have HO_8 := n0_
 have HO_9 := n1_
 have HO_10 := n2_
 have HO124 := n3_
 have HO127 := n4_
 have HO133 := n5_
 have HO136 := n6_
 have HO139 := n7_
 have HO143 := n8_
 have HO146 := n9_
 have BK101 := n10_
 have BK102 := n11_
 have BK111 := n12_
 have BK150 := n13_
 have HB := n14_
 clear n0_ n1_ n2_ n3_ n4_ n5_ n6_ n7_ n8_ n9_ n10_ n11_ n12_ n13_ n14_
 have n0_ := Aside0.mk (Kd.R_drew HO_8.out)
 have n1_ := Aside0.mk (Kd.R_drew HO_9.out)
 have n2_ := Aside0.mk (Kd.R_drew HO_10.out)
 have n3_ := Aside0.mk (Kd.R_drew HO124.out)
 have n4_ := Aside0.mk (Kd.R_drew HO127.out)
 have n5_ := Aside0.mk (Kd.R_drew HO133.out)
 have n6_ := Aside0.mk (Kd.R_drew HO136.out)
 have n7_ := Aside0.mk (Kd.R_drew HO139.out)
 have n8_ := Aside0.mk (Kd.R_drew HO143.out)
 have n9_ := Aside0.mk (Kd.R_drew HO146.out)
 have n10_ := Aside0.mk (blk_drew BK101.out)
 have n11_ := Aside0.mk (blk_drew BK102.out)
 have n12_ := Aside0.mk (blk_drew BK111.out)
 have n13_ := Aside0.mk (blk_drew BK150.out)
 have n14_ := Aside0.mk (below_drew1 HB.out)
 clear HO_8
 clear HO_9
 clear HO_10
 clear HO124
 clear HO127
 clear HO133
 clear HO136
 clear HO139
 clear HO143
 clear HO146
 clear BK101
 clear BK102
 clear BK111
 clear BK150
 clear HB
 have HO_8 := n0_
 have HO_9 := n1_
 have HO_10 := n2_
 have HO124 := n3_
 have HO127 := n4_
 have HO133 := n5_
 have HO136 := n6_
 have HO139 := n7_
 have HO143 := n8_
 have HO146 := n9_
 have BK101 := n10_
 have BK102 := n11_
 have BK111 := n12_
 have BK150 := n13_
 have HB := n14_
 clear n0_ n1_ n2_ n3_ n4_ n5_ n6_ n7_ n8_ n9_ n10_ n11_ n12_ n13_ n14_
 refine start_ (n := 43) (S := fun w' => True) (ds := []) (bl 43 0) (by kernel_rfl) rfl rfl trivial (fun hHeld => ?_); refine with_tabW lR.tab10 lR.bits10 (fun HT_ HW_ => ?_)
 generalize w87.drew = w88 at HO_8 HO_9 HO_10 HO124 HO127 HO133 HO136 HO139 HO143 HO146 BK101 BK102 BK111 BK150 HB hHeld ⊢
 refine pS 0 82 43 1 HT_ ?_
 refine pS 1 83 43 3 HT_ ?_
 refine pS 2 84 43 7 HT_ ?_
 refine pS 3 85 43 15 HT_ ?_
 refine pS 4 86 43 31 HT_ ?_
 refine pS 5 87 43 63 HT_ ?_
 refine oS 6 88 43 127 HT_ ?_
 refine oS 7 89 43 255 HT_ ?_
 refine oS 8 90 43 511 HT_ ?_
 refine oS 9 91 43 1023 HT_ ?_
 refine oS 10 92 43 2047 HT_ ?_
 refine oS 11 93 43 4095 HT_ ?_
 refine oS 12 94 43 8191 HT_ ?_
 refine pS 13 95 43 16383 HT_ ?_
 refine pS 14 96 43 32767 HT_ ?_
 refine pS 15 97 43 65535 HT_ ?_
 refine pS 16 98 43 131071 HT_ ?_
 refine pS 17 99 43 262143 HT_ ?_
 refine pS 18 100 43 524287 HT_ ?_
 refine pS 19 101 43 1048575 HT_ ?_
 refine pS 20 102 43 2097151 HT_ ?_
 refine pS 21 103 43 4194303 HT_ ?_
 refine oS 22 104 43 8388607 HT_ ?_
 refine oS 23 105 43 16777215 HT_ ?_
 refine oS 24 106 43 33554431 HT_ ?_
 refine pS 25 107 43 67108863 HT_ ?_
 refine pS 26 108 43 134217727 HT_ ?_
 refine pS 27 109 43 268435455 HT_ ?_
 refine pS 28 110 43 536870911 HT_ ?_
 refine oS 29 111 43 1073741823 HT_ ?_
 refine oS 30 112 43 2147483647 HT_ ?_
 refine oS 31 113 43 4294967295 HT_ ?_
 refine oS 32 114 43 8589934591 HT_ ?_
 refine oS 33 115 43 17179869183 HT_ ?_
 refine oS 34 116 43 34359738367 HT_ ?_
 refine oS 35 117 43 68719476735 HT_ ?_
 refine oS 36 118 43 137438953471 HT_ ?_
 refine oS 37 119 43 274877906943 HT_ ?_
 refine oS 38 120 43 549755813887 HT_ ?_
 refine oS 39 121 43 1099511627775 HT_ ?_
 refine oS 40 122 43 2199023255551 HT_ ?_
 refine oS 41 123 43 4398046511103 HT_ ?_
 refine pS 42 124 43 8796093022207 HT_ ?_
 refine done_ (done_of HT_.out (by kernel_rfl)) ?_
 try go_wp2
 go_meet
 case rel => exact ⟨_, (true), (by first | rfl | (simp; done) | (simp [*]; done)), H', ⟨by have := HK1.out; first | omega | exact Nat.le_refl _⟩, ⟨Kd.R_mono (R_ HO_8) (fun _ hk => trivial)⟩, ⟨Kd.R_mono (R_ HO_9) (fun _ hk => ⟨hk.1, hk.2.2.2.1⟩)⟩, ⟨Kd.R_mono (R_ HO_10) (fun _ hk => ⟨hk.1, hk.2.2.2.1⟩)⟩, ⟨Kd.R_mono (R_ HO139) (fun _ hk => ⟨hk.1, hk.2.1⟩)⟩, ⟨b_ BK101⟩, ⟨b_ BK102⟩, ⟨b_ BK111⟩, ⟨b_ BK150⟩, ⟨Bq HB⟩⟩
end Go.Proofs.YtbijamlgcebgeaaDoor.Q

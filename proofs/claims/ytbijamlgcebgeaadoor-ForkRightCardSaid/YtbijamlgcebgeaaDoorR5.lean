/- ForkRight: the law returns true for every input; each argument reads behind the call as it read before (for worlds in which the two tables of the library hold what its initialisers lay). Part 5 of 7. -/
import Derived.Test.YtbijamlgcebgeaaDoorR4
set_option linter.unusedVariables false
set_option linter.unusedSimpArgs false
-- part SO4
namespace Go.Proofs.YtbijamlgcebgeaaDoor.Q
open Go.RowKit Go.Proofs.YtbijamlgcebgeaaDoorW.PrintWords Go.Proofs.YtbijamlgcebgeaaDoorW.PrintLast Go.Proofs.YtbijamlgcebgeaaDoorW.PrintMore
attribute [local go_sem] max2_int min2_int max_two min_two max_three min_three max_four min_four
attribute [local go_sem high] eqA36
set_option maxHeartbeats 8000000 in
set_option maxRecDepth 100000 in
theorem lR.p4 : lR.c0.1.2.2.2.1 := by
 intro k a0_0 a0_1 a0_2 a0_3 a0_4 A0_5 c0_5 l0_5 a1 a2_0 a2_1 a2_2 a2_3 a2_4 a2_5 r w hu66 hu67 hu23 hu36 HTAB HR0_5 HC0_5 t103 t104 t105 t106 t107 t108 A4 t112 A5 y115 Ny115 z0_1 gb101 w6 GW101 GE101 gb102 w7 GW102 GE102 NB101_102 NB102_101 hnb8 hnc8 w10 gb111 w11 GW111 GE111 NB101_111 NB111_101 NB102_111 NB111_102 hnb12 hnc12 hnb13 hnc13 Ao15 co15 w16 v116 w17 HO110 z0_2 z0_3 z0_4 z0_5 z0_6 wr u10 z0_7 z0_8 z0_9 z0_10 z0_11 z0_12 z0_13 z0_14 z0_15 z0_16 z0_17 z0_18 z0_19 z0_20 z0_21 z0_22 z0_23 z0_24 x10_1 x11_1 k1 z0_25 HK1 c19b0 t122 A27 t125 A28 t128 t129 A29 t131 A30 t134 A31 t137 t140 A32 t141 A33 t144 A34 t147 t148 t149 A35 Ao37 co37 HO114 HO117 z0_26 z0_27 z0_28 z0_29 z0_30 w38 z0_31 w39 z0_32 w40 Ao41 co41 Ao42 co42 z0_33 w43 z0_34 z0_35 z0_36 w44 z0_37 w45 z0_38 w46 Ao47 co47 Ao48 co48 z0_39 w49 v138 z0_40 HT_ HW_ w50 z0_41 v142 v145 gb150 w57 hS_ HO124 HO127 HO133 HO136 HO139 HO143 HO146 z0_42 z0_43 z0_44 z0_45 z0_46 z0_47 z0_48 GW150 GE150 NB101_150 NB150_101 NB102_150 NB150_102 NB111_150 NB150_111 z0_49 z0_50 hs58 hfs58 hns58_0 hns58_1 hns58_2 hms58_0 hms58_1 hms58_2 hs59 hfs59 hns59_0 hns59_1 hns59_2 hms59_0 hms59_1 hms59_2 hHeld wc u29 u30 u31 u32 u33 u34 u35 u36 u37 u38 u39 u40 u41 u42 u43 u44 u45 u46 u47 u48 u49 u50 u51 u52 u53 u54 u55 u56 u57 u58 u59 u60 u61 u62 u63 u64 u65 u66 u67 u68 u69 u70 u71 u72 u73 u74 u75 u76 u77 u78 u79 u80 u81 u82 u83 u84 u85 u86 u87 u88 u89 u90 u91 u92 u93 u94 u95 u96 u97 u98 u99 u100 u101 u102 u103 u104 u105 u106 u107 u108 u109 u110 u111 u112 u113 u114 u115 u116 u117 u118 u119 u120 u121 u122 u123 u125 u126 u127 u128 u129 u130 u131 u132 u133 u134 u135 u136 u137 u138 u139 u140 u141 u142 u143 u144 u145 u146 u147 u148 u149 u150 u151 u152 u153 u154 u155 u156 u157 u158 u159 u160 u161 u162 u163 u164 u165 u166 u167 u168 u169 u170 u171 u172 u173 u174 u175 u176 u177 u178 u179 u180 u181 u182 u183 u184 u185 u186 u187 u188 u189 u190 u191 u192 u193 u194 u195 u196 u197 u198 u199 u200 u201 u202 u203 u204 u205 u206 u207 u208 u209 u210 u211 u212 u213 u214 u215 u216 u217 u218 u219 u220 u221 u222 u223 u224 u225 u226 u227 u228 u229 u230 u231 u232 u233 u234 u235 u236 u237 u238 u239 u240 u241 u242 u243 u244 u245 u246 u247 u248 u249 u250 u251 u252 u253 u254 u255 u256 u257 u258 u259 u260 HO_8 HO_9 HO_10 HO_15 BK101 BK102 BK111 BK150 HB kj35 HJ35 HC133 z0_51 z0_52 z0_53 z0_54 z0_55 z0_56 z0_57 z0_58
 have H := HC133.out
 clear HC133
 by_cases c134 : t140 = 0
 ·rw [if_pos c134] at H
  have c134b0 : (t140 == 0) = true := beq_iff_eq.mpr c134
  have c134b1 : (t140 != 0) = false := bne_eq_false_iff_eq.mpr c134
  clear c134
  (first | rw [c134b0] | (simp only [i64_w, i32_w]; rw [c134b0]) | skip)
  by_cases c135 : (t137.length : Int) = (t112.length : Int)
  ·rw [if_pos c135] at H
   have c135b0 : ((t137.length : Int) == (t112.length : Int)) = true := beq_iff_eq.mpr c135
   have c135b1 : ((t137.length : Int) != (t112.length : Int)) = false := bne_eq_false_iff_eq.mpr c135
   have c135b2 : (t137.length == t112.length) = true := by first | simpa using c135 | (simp at c135 ⊢; omega)
   clear c135
   by_cases c136 : t128 = true
   ·subst c136
    have H1 : ((smaltolaw03_fine.f t103 t104 t105 t106 t107 t108 t112 t137).bind fun t155 => (if t155 = true then ((smaltolaw03_fine.f t103 t104 t105 t106 t107 t108 t112 x10_1).bind fun t156 => (if t156 = true then (lR.j2 kj35 t108 t112 true t129 t149 (!true) t103 t104 t105 t106 t107 t147 t148) else (lR.j2 kj35 t108 t112 true t129 t149 false t103 t104 t105 t106 t107 t147 t148))) else (lR.j2 kj35 t108 t112 true t129 t149 true t103 t104 t105 t106 t107 t147 t148))) = some r := by rw [if_pos rfl] at H; exact H
    clear H
    have H := H1
    clear H1
    replace H := Option.bind_eq_some_iff.mp H
    obtain ⟨t155, A1370, H⟩ := H
    replace H : (if t155 = true then ((smaltolaw03_fine.f t103 t104 t105 t106 t107 t108 t112 x10_1).bind fun t156 => (if t156 = true then (lR.j2 kj35 t108 t112 true t129 t149 (!true) t103 t104 t105 t106 t107 t147 t148) else (lR.j2 kj35 t108 t112 true t129 t149 false t103 t104 t105 t106 t107 t147 t148))) else (lR.j2 kj35 t108 t112 true t129 t149 true t103 t104 t105 t106 t107 t147 t148)) = some r := H
    have A137 := Aside0.mk A1370
    clear A1370
    by_cases c138 : t155 = true
    ·subst c138
     have H1 : ((smaltolaw03_fine.f t103 t104 t105 t106 t107 t108 t112 x10_1).bind fun t156 => (if t156 = true then (lR.j2 kj35 t108 t112 true t129 t149 (!true) t103 t104 t105 t106 t107 t147 t148) else (lR.j2 kj35 t108 t112 true t129 t149 false t103 t104 t105 t106 t107 t147 t148))) = some r := by rw [if_pos rfl] at H; exact H
     clear H
     have H := H1
     clear H1
     replace H := Option.bind_eq_some_iff.mp H
     obtain ⟨t156, A1390, H⟩ := H
     replace H : (if t156 = true then (lR.j2 kj35 t108 t112 true t129 t149 (!true) t103 t104 t105 t106 t107 t147 t148) else (lR.j2 kj35 t108 t112 true t129 t149 false t103 t104 t105 t106 t107 t147 t148)) = some r := H
     have A139 := Aside0.mk A1390
     clear A1390
     by_cases c140 : t156 = true
     ·subst c140
      have H1 : (lR.j2 kj35 t108 t112 true t129 t149 (!true) t103 t104 t105 t106 t107 t147 t148) = some r := by rw [if_pos rfl] at H; exact H
      clear H
      have H := H1
      clear H1
      have H' := Aside0.mk H
      clear H
      obtain ⟨Ao141, co141, eo141⟩ := Kd.R_slice HO_15.out
      subst eo141
      have hnb142 := NB111_101.out
      have hnc142 := NB101_111.out
      have hnb143 := NB111_102.out
      have hnc143 := NB102_111.out
      have hnb144 := NB111_150.out
      have hnc144 := NB150_111.out
      have hcz145_0 : wc.cell? ⟨gb111, 0, none⟩ = some (.int .i64 t103) := kc BK111 0
      have hcz145_1 : wc.cell? ⟨gb111, 1, none⟩ = some (.int .i64 t104) := kc BK111 1
      have hcz145_2 : wc.cell? ⟨gb111, 2, none⟩ = some (.int .i64 t105) := kc BK111 2
      have hcz145_3 : wc.cell? ⟨gb111, 3, none⟩ = some (.int .i64 t106) := kc BK111 3
      have hcz145_4 : wc.cell? ⟨gb111, 4, none⟩ = some (.int .i64 t107) := kc BK111 4
      have hfz145_0 := blk_frozen BK111.out 0
      have hfz145_1 := blk_frozen BK111.out 1
      have hfz145_2 := blk_frozen BK111.out 2
      have hfz145_3 := blk_frozen BK111.out 3
      have hfz145_4 := blk_frozen BK111.out 4
      go_wp2_with (first | (go_at_call 45; (with_reducible refine (smaltolaw03_fine.calls t103 t104 t105 t106 t107 _ _ t108 _ _ t112 _ _ t137 true _ ?side1 ?side2 ?side3 ?side4 ?side5 ?side6 A137.out).mono ?_); (case side1 => exact rC HO_8); (case side2 => exact (Kd.R_reads' HO_8.out).2.1); (case side3 => exact rC HO_9); (case side4 => exact (Kd.R_reads' HO_9.out).2.1); (case side5 => exact rC HO_15); (case side6 => exact (Kd.R_reads' HO_15.out).2.1); rintro e w146 ⟨rfl, hb⟩; have n0_ := RB HO_8 hb; have n1_ := RB HO_9 hb; have n2_ := RB HO_10 hb; have n3_ := RB HO_15 hb; have n4_ := bb BK101 hb; have n5_ := bb BK102 hb; have n6_ := bb BK111 hb; have n7_ := bb BK150 hb; have n8_ := Aside0.mk (below_step (Bq HB) hb); clear HO_8; clear HO_9; clear HO_10; clear HO_15; clear BK101; clear BK102; clear BK111; clear BK150; clear HB; have HO_8 := n0_; have HO_9 := n1_; have HO_10 := n2_; have HO_15 := n3_; have BK101 := n4_; have BK102 := n5_; have BK111 := n6_; have BK150 := n7_; have HB := n8_; clear n0_ n1_ n2_ n3_ n4_ n5_ n6_ n7_ n8_; (try clear hb); (try clear hb2); (try clear hk); (try clear hi); have hcz147_0 : w146.cell? ⟨gb111, 0, none⟩ = some (.int .i64 t103) := kc BK111 0; have hcz147_1 : w146.cell? ⟨gb111, 1, none⟩ = some (.int .i64 t104) := kc BK111 1; have hcz147_2 : w146.cell? ⟨gb111, 2, none⟩ = some (.int .i64 t105) := kc BK111 2; have hcz147_3 : w146.cell? ⟨gb111, 3, none⟩ = some (.int .i64 t106) := kc BK111 3; have hcz147_4 : w146.cell? ⟨gb111, 4, none⟩ = some (.int .i64 t107) := kc BK111 4; have hfz147_0 := blk_frozen BK111.out 0; have hfz147_1 := blk_frozen BK111.out 1; have hfz147_2 := blk_frozen BK111.out 2; have hfz147_3 := blk_frozen BK111.out 3; have hfz147_4 := blk_frozen BK111.out 4; obtain ⟨Ao148, co148, eo148⟩ := Kd.R_slice HO_10.out; subst eo148) | (go_at_call 45; (with_reducible refine (smaltolaw03_fine.calls t103 t104 t105 t106 t107 _ _ t108 _ _ t112 _ _ x10_1 true _ ?side1 ?side2 ?side3 ?side4 ?side5 ?side6 A139.out).mono ?_); (case side1 => exact rC HO_8); (case side2 => exact (Kd.R_reads' HO_8.out).2.1); (case side3 => exact rC HO_9); (case side4 => exact (Kd.R_reads' HO_9.out).2.1); (case side5 => exact rC HO_10); (case side6 => exact (Kd.R_reads' HO_10.out).2.1); rintro e w149 ⟨rfl, hb⟩; have n0_ := RB HO_8 hb; have n1_ := RB HO_9 hb; have n2_ := RB HO_10 hb; have n3_ := RB HO_15 hb; have n4_ := bb BK101 hb; have n5_ := bb BK102 hb; have n6_ := bb BK111 hb; have n7_ := bb BK150 hb; have n8_ := Aside0.mk (below_step (Bq HB) hb); clear HO_8; clear HO_9; clear HO_10; clear HO_15; clear BK101; clear BK102; clear BK111; clear BK150; clear HB; have HO_8 := n0_; have HO_9 := n1_; have HO_10 := n2_; have HO_15 := n3_; have BK101 := n4_; have BK102 := n5_; have BK111 := n6_; have BK150 := n7_; have HB := n8_; clear n0_ n1_ n2_ n3_ n4_ n5_ n6_ n7_ n8_; (try clear hb); (try clear hb2); (try clear hk); (try clear hi)))
      go_meet
      case rel => exact ⟨_, (!true), (by first | rfl | (simp; done) | (simp [*]; done)), H', ⟨by have := HK1.out; have := HJ35.out; first | omega | exact Nat.le_refl _⟩, ⟨R_ HO_8⟩, ⟨Kd.R_mono (R_ HO_9) (fun _ hk => trivial)⟩, ⟨b_ BK101⟩, ⟨b_ BK102⟩, ⟨b_ BK111⟩, ⟨b_ BK150⟩, ⟨Bq HB⟩⟩
     replace c140 := Bool.eq_false_iff.mpr c140
     subst c140
     have H1 : (lR.j2 kj35 t108 t112 true t129 t149 false t103 t104 t105 t106 t107 t147 t148) = some r := by rw [if_neg (show ¬ (false = true) by decide)] at H; exact H
     clear H
     have H := H1
     clear H1
     have H' := Aside0.mk H
     clear H
     obtain ⟨Ao150, co150, eo150⟩ := Kd.R_slice HO_15.out
     subst eo150
     have hnb151 := NB111_101.out
     have hnc151 := NB101_111.out
     have hnb152 := NB111_102.out
     have hnc152 := NB102_111.out
     have hnb153 := NB111_150.out
     have hnc153 := NB150_111.out
     have hcz154_0 : wc.cell? ⟨gb111, 0, none⟩ = some (.int .i64 t103) := kc BK111 0
     have hcz154_1 : wc.cell? ⟨gb111, 1, none⟩ = some (.int .i64 t104) := kc BK111 1
     have hcz154_2 : wc.cell? ⟨gb111, 2, none⟩ = some (.int .i64 t105) := kc BK111 2
     have hcz154_3 : wc.cell? ⟨gb111, 3, none⟩ = some (.int .i64 t106) := kc BK111 3
     have hcz154_4 : wc.cell? ⟨gb111, 4, none⟩ = some (.int .i64 t107) := kc BK111 4
     have hfz154_0 := blk_frozen BK111.out 0
     have hfz154_1 := blk_frozen BK111.out 1
     have hfz154_2 := blk_frozen BK111.out 2
     have hfz154_3 := blk_frozen BK111.out 3
     have hfz154_4 := blk_frozen BK111.out 4
     go_wp2_with (first | (go_at_call 45; (with_reducible refine (smaltolaw03_fine.calls t103 t104 t105 t106 t107 _ _ t108 _ _ t112 _ _ t137 true _ ?side1 ?side2 ?side3 ?side4 ?side5 ?side6 A137.out).mono ?_); (case side1 => exact rC HO_8); (case side2 => exact (Kd.R_reads' HO_8.out).2.1); (case side3 => exact rC HO_9); (case side4 => exact (Kd.R_reads' HO_9.out).2.1); (case side5 => exact rC HO_15); (case side6 => exact (Kd.R_reads' HO_15.out).2.1); rintro e w155 ⟨rfl, hb⟩; have n0_ := RB HO_8 hb; have n1_ := RB HO_9 hb; have n2_ := RB HO_10 hb; have n3_ := RB HO_15 hb; have n4_ := bb BK101 hb; have n5_ := bb BK102 hb; have n6_ := bb BK111 hb; have n7_ := bb BK150 hb; have n8_ := Aside0.mk (below_step (Bq HB) hb); clear HO_8; clear HO_9; clear HO_10; clear HO_15; clear BK101; clear BK102; clear BK111; clear BK150; clear HB; have HO_8 := n0_; have HO_9 := n1_; have HO_10 := n2_; have HO_15 := n3_; have BK101 := n4_; have BK102 := n5_; have BK111 := n6_; have BK150 := n7_; have HB := n8_; clear n0_ n1_ n2_ n3_ n4_ n5_ n6_ n7_ n8_; (try clear hb); (try clear hb2); (try clear hk); (try clear hi); have hcz156_0 : w155.cell? ⟨gb111, 0, none⟩ = some (.int .i64 t103) := kc BK111 0; have hcz156_1 : w155.cell? ⟨gb111, 1, none⟩ = some (.int .i64 t104) := kc BK111 1; have hcz156_2 : w155.cell? ⟨gb111, 2, none⟩ = some (.int .i64 t105) := kc BK111 2; have hcz156_3 : w155.cell? ⟨gb111, 3, none⟩ = some (.int .i64 t106) := kc BK111 3; have hcz156_4 : w155.cell? ⟨gb111, 4, none⟩ = some (.int .i64 t107) := kc BK111 4; have hfz156_0 := blk_frozen BK111.out 0; have hfz156_1 := blk_frozen BK111.out 1; have hfz156_2 := blk_frozen BK111.out 2; have hfz156_3 := blk_frozen BK111.out 3; have hfz156_4 := blk_frozen BK111.out 4; obtain ⟨Ao157, co157, eo157⟩ := Kd.R_slice HO_10.out; subst eo157) | (go_at_call 45; (with_reducible refine (smaltolaw03_fine.calls t103 t104 t105 t106 t107 _ _ t108 _ _ t112 _ _ x10_1 false _ ?side1 ?side2 ?side3 ?side4 ?side5 ?side6 A139.out).mono ?_); (case side1 => exact rC HO_8); (case side2 => exact (Kd.R_reads' HO_8.out).2.1); (case side3 => exact rC HO_9); (case side4 => exact (Kd.R_reads' HO_9.out).2.1); (case side5 => exact rC HO_10); (case side6 => exact (Kd.R_reads' HO_10.out).2.1); rintro e w158 ⟨rfl, hb⟩; have n0_ := RB HO_8 hb; have n1_ := RB HO_9 hb; have n2_ := RB HO_10 hb; have n3_ := RB HO_15 hb; have n4_ := bb BK101 hb; have n5_ := bb BK102 hb; have n6_ := bb BK111 hb; have n7_ := bb BK150 hb; have n8_ := Aside0.mk (below_step (Bq HB) hb); clear HO_8; clear HO_9; clear HO_10; clear HO_15; clear BK101; clear BK102; clear BK111; clear BK150; clear HB; have HO_8 := n0_; have HO_9 := n1_; have HO_10 := n2_; have HO_15 := n3_; have BK101 := n4_; have BK102 := n5_; have BK111 := n6_; have BK150 := n7_; have HB := n8_; clear n0_ n1_ n2_ n3_ n4_ n5_ n6_ n7_ n8_; (try clear hb); (try clear hb2); (try clear hk); (try clear hi)))
     go_meet
     case rel => exact ⟨_, (false), (by first | rfl | (simp; done) | (simp [*]; done)), H', ⟨by have := HK1.out; have := HJ35.out; first | omega | exact Nat.le_refl _⟩, ⟨R_ HO_8⟩, ⟨Kd.R_mono (R_ HO_9) (fun _ hk => trivial)⟩, ⟨b_ BK101⟩, ⟨b_ BK102⟩, ⟨b_ BK111⟩, ⟨b_ BK150⟩, ⟨Bq HB⟩⟩
    replace c138 := Bool.eq_false_iff.mpr c138
    subst c138
    have H1 : (lR.j2 kj35 t108 t112 true t129 t149 true t103 t104 t105 t106 t107 t147 t148) = some r := by rw [if_neg (show ¬ (false = true) by decide)] at H; exact H
    clear H
    have H := H1
    clear H1
    have H' := Aside0.mk H
    clear H
    obtain ⟨Ao159, co159, eo159⟩ := Kd.R_slice HO_15.out
    subst eo159
    have hnb160 := NB111_101.out
    have hnc160 := NB101_111.out
    have hnb161 := NB111_102.out
    have hnc161 := NB102_111.out
    have hnb162 := NB111_150.out
    have hnc162 := NB150_111.out
    have hcz163_0 : wc.cell? ⟨gb111, 0, none⟩ = some (.int .i64 t103) := kc BK111 0
    have hcz163_1 : wc.cell? ⟨gb111, 1, none⟩ = some (.int .i64 t104) := kc BK111 1
    have hcz163_2 : wc.cell? ⟨gb111, 2, none⟩ = some (.int .i64 t105) := kc BK111 2
    have hcz163_3 : wc.cell? ⟨gb111, 3, none⟩ = some (.int .i64 t106) := kc BK111 3
    have hcz163_4 : wc.cell? ⟨gb111, 4, none⟩ = some (.int .i64 t107) := kc BK111 4
    have hfz163_0 := blk_frozen BK111.out 0
    have hfz163_1 := blk_frozen BK111.out 1
    have hfz163_2 := blk_frozen BK111.out 2
    have hfz163_3 := blk_frozen BK111.out 3
    have hfz163_4 := blk_frozen BK111.out 4
    go_wp2_with (first | (go_at_call 45; (with_reducible refine (smaltolaw03_fine.calls t103 t104 t105 t106 t107 _ _ t108 _ _ t112 _ _ t137 false _ ?side1 ?side2 ?side3 ?side4 ?side5 ?side6 A137.out).mono ?_); (case side1 => exact rC HO_8); (case side2 => exact (Kd.R_reads' HO_8.out).2.1); (case side3 => exact rC HO_9); (case side4 => exact (Kd.R_reads' HO_9.out).2.1); (case side5 => exact rC HO_15); (case side6 => exact (Kd.R_reads' HO_15.out).2.1); rintro e w164 ⟨rfl, hb⟩; have n0_ := RB HO_8 hb; have n1_ := RB HO_9 hb; have n2_ := RB HO_10 hb; have n3_ := RB HO_15 hb; have n4_ := bb BK101 hb; have n5_ := bb BK102 hb; have n6_ := bb BK111 hb; have n7_ := bb BK150 hb; have n8_ := Aside0.mk (below_step (Bq HB) hb); clear HO_8; clear HO_9; clear HO_10; clear HO_15; clear BK101; clear BK102; clear BK111; clear BK150; clear HB; have HO_8 := n0_; have HO_9 := n1_; have HO_10 := n2_; have HO_15 := n3_; have BK101 := n4_; have BK102 := n5_; have BK111 := n6_; have BK150 := n7_; have HB := n8_; clear n0_ n1_ n2_ n3_ n4_ n5_ n6_ n7_ n8_; (try clear hb); (try clear hb2); (try clear hk); (try clear hi)))
    go_meet
    case rel => exact ⟨_, (true), (by first | rfl | (simp; done) | (simp [*]; done)), H', ⟨by have := HK1.out; have := HJ35.out; first | omega | exact Nat.le_refl _⟩, ⟨R_ HO_8⟩, ⟨Kd.R_mono (R_ HO_9) (fun _ hk => trivial)⟩, ⟨b_ BK101⟩, ⟨b_ BK102⟩, ⟨b_ BK111⟩, ⟨b_ BK150⟩, ⟨Bq HB⟩⟩
   replace c136 := Bool.eq_false_iff.mpr c136
   subst c136
   have H1 : ((smaltolaw03_fine.f t103 t104 t105 t106 t107 t108 t112 x10_1).bind fun t157 => (if t157 = true then (lR.j2 kj35 t108 t112 false t129 t149 (!false) t103 t104 t105 t106 t107 t147 t148) else (lR.j2 kj35 t108 t112 false t129 t149 false t103 t104 t105 t106 t107 t147 t148))) = some r := by rw [if_neg (show ¬ (false = true) by decide)] at H; exact H
   clear H
   have H := H1
   clear H1
   replace H := Option.bind_eq_some_iff.mp H
   obtain ⟨t157, A1650, H⟩ := H
   replace H : (if t157 = true then (lR.j2 kj35 t108 t112 false t129 t149 (!false) t103 t104 t105 t106 t107 t147 t148) else (lR.j2 kj35 t108 t112 false t129 t149 false t103 t104 t105 t106 t107 t147 t148)) = some r := H
   have A165 := Aside0.mk A1650
   clear A1650
   by_cases c166 : t157 = true
   ·subst c166
    have H1 : (lR.j2 kj35 t108 t112 false t129 t149 (!false) t103 t104 t105 t106 t107 t147 t148) = some r := by rw [if_pos rfl] at H; exact H
    clear H
    have H := H1
    clear H1
    have H' := Aside0.mk H
    clear H
    obtain ⟨Ao167, co167, eo167⟩ := Kd.R_slice HO_15.out
    subst eo167
    have hnb168 := NB111_101.out
    have hnc168 := NB101_111.out
    have hnb169 := NB111_102.out
    have hnc169 := NB102_111.out
    have hnb170 := NB111_150.out
    have hnc170 := NB150_111.out
    have hcz171_0 : wc.cell? ⟨gb111, 0, none⟩ = some (.int .i64 t103) := kc BK111 0
    have hcz171_1 : wc.cell? ⟨gb111, 1, none⟩ = some (.int .i64 t104) := kc BK111 1
    have hcz171_2 : wc.cell? ⟨gb111, 2, none⟩ = some (.int .i64 t105) := kc BK111 2
    have hcz171_3 : wc.cell? ⟨gb111, 3, none⟩ = some (.int .i64 t106) := kc BK111 3
    have hcz171_4 : wc.cell? ⟨gb111, 4, none⟩ = some (.int .i64 t107) := kc BK111 4
    have hfz171_0 := blk_frozen BK111.out 0
    have hfz171_1 := blk_frozen BK111.out 1
    have hfz171_2 := blk_frozen BK111.out 2
    have hfz171_3 := blk_frozen BK111.out 3
    have hfz171_4 := blk_frozen BK111.out 4
    obtain ⟨Ao172, co172, eo172⟩ := Kd.R_slice HO_10.out
    subst eo172
    go_wp2_with (first | (go_at_call 45; (with_reducible refine (smaltolaw03_fine.calls t103 t104 t105 t106 t107 _ _ t108 _ _ t112 _ _ x10_1 true _ ?side1 ?side2 ?side3 ?side4 ?side5 ?side6 A165.out).mono ?_); (case side1 => exact rC HO_8); (case side2 => exact (Kd.R_reads' HO_8.out).2.1); (case side3 => exact rC HO_9); (case side4 => exact (Kd.R_reads' HO_9.out).2.1); (case side5 => exact rC HO_10); (case side6 => exact (Kd.R_reads' HO_10.out).2.1); rintro e w173 ⟨rfl, hb⟩; have n0_ := RB HO_8 hb; have n1_ := RB HO_9 hb; have n2_ := RB HO_10 hb; have n3_ := RB HO_15 hb; have n4_ := bb BK101 hb; have n5_ := bb BK102 hb; have n6_ := bb BK111 hb; have n7_ := bb BK150 hb; have n8_ := Aside0.mk (below_step (Bq HB) hb); clear HO_8; clear HO_9; clear HO_10; clear HO_15; clear BK101; clear BK102; clear BK111; clear BK150; clear HB; have HO_8 := n0_; have HO_9 := n1_; have HO_10 := n2_; have HO_15 := n3_; have BK101 := n4_; have BK102 := n5_; have BK111 := n6_; have BK150 := n7_; have HB := n8_; clear n0_ n1_ n2_ n3_ n4_ n5_ n6_ n7_ n8_; (try clear hb); (try clear hb2); (try clear hk); (try clear hi)))
    go_meet
    case rel => exact ⟨_, (!false), (by first | rfl | (simp; done) | (simp [*]; done)), H', ⟨by have := HK1.out; have := HJ35.out; first | omega | exact Nat.le_refl _⟩, ⟨R_ HO_8⟩, ⟨Kd.R_mono (R_ HO_9) (fun _ hk => trivial)⟩, ⟨b_ BK101⟩, ⟨b_ BK102⟩, ⟨b_ BK111⟩, ⟨b_ BK150⟩, ⟨Bq HB⟩⟩
   replace c166 := Bool.eq_false_iff.mpr c166
   subst c166
   have H1 : (lR.j2 kj35 t108 t112 false t129 t149 false t103 t104 t105 t106 t107 t147 t148) = some r := by rw [if_neg (show ¬ (false = true) by decide)] at H; exact H
   clear H
   have H := H1
   clear H1
   have H' := Aside0.mk H
   clear H
   obtain ⟨Ao174, co174, eo174⟩ := Kd.R_slice HO_15.out
   subst eo174
   have hnb175 := NB111_101.out
   have hnc175 := NB101_111.out
   have hnb176 := NB111_102.out
   have hnc176 := NB102_111.out
   have hnb177 := NB111_150.out
   have hnc177 := NB150_111.out
   have hcz178_0 : wc.cell? ⟨gb111, 0, none⟩ = some (.int .i64 t103) := kc BK111 0
   have hcz178_1 : wc.cell? ⟨gb111, 1, none⟩ = some (.int .i64 t104) := kc BK111 1
   have hcz178_2 : wc.cell? ⟨gb111, 2, none⟩ = some (.int .i64 t105) := kc BK111 2
   have hcz178_3 : wc.cell? ⟨gb111, 3, none⟩ = some (.int .i64 t106) := kc BK111 3
   have hcz178_4 : wc.cell? ⟨gb111, 4, none⟩ = some (.int .i64 t107) := kc BK111 4
   have hfz178_0 := blk_frozen BK111.out 0
   have hfz178_1 := blk_frozen BK111.out 1
   have hfz178_2 := blk_frozen BK111.out 2
   have hfz178_3 := blk_frozen BK111.out 3
   have hfz178_4 := blk_frozen BK111.out 4
   obtain ⟨Ao179, co179, eo179⟩ := Kd.R_slice HO_10.out
   subst eo179
   go_wp2_with (first | (go_at_call 45; (with_reducible refine (smaltolaw03_fine.calls t103 t104 t105 t106 t107 _ _ t108 _ _ t112 _ _ x10_1 false _ ?side1 ?side2 ?side3 ?side4 ?side5 ?side6 A165.out).mono ?_); (case side1 => exact rC HO_8); (case side2 => exact (Kd.R_reads' HO_8.out).2.1); (case side3 => exact rC HO_9); (case side4 => exact (Kd.R_reads' HO_9.out).2.1); (case side5 => exact rC HO_10); (case side6 => exact (Kd.R_reads' HO_10.out).2.1); rintro e w180 ⟨rfl, hb⟩; have n0_ := RB HO_8 hb; have n1_ := RB HO_9 hb; have n2_ := RB HO_10 hb; have n3_ := RB HO_15 hb; have n4_ := bb BK101 hb; have n5_ := bb BK102 hb; have n6_ := bb BK111 hb; have n7_ := bb BK150 hb; have n8_ := Aside0.mk (below_step (Bq HB) hb); clear HO_8; clear HO_9; clear HO_10; clear HO_15; clear BK101; clear BK102; clear BK111; clear BK150; clear HB; have HO_8 := n0_; have HO_9 := n1_; have HO_10 := n2_; have HO_15 := n3_; have BK101 := n4_; have BK102 := n5_; have BK111 := n6_; have BK150 := n7_; have HB := n8_; clear n0_ n1_ n2_ n3_ n4_ n5_ n6_ n7_ n8_; (try clear hb); (try clear hb2); (try clear hk); (try clear hi)))
   go_meet
   case rel => exact ⟨_, (false), (by first | rfl | (simp; done) | (simp [*]; done)), H', ⟨by have := HK1.out; have := HJ35.out; first | omega | exact Nat.le_refl _⟩, ⟨R_ HO_8⟩, ⟨Kd.R_mono (R_ HO_9) (fun _ hk => trivial)⟩, ⟨b_ BK101⟩, ⟨b_ BK102⟩, ⟨b_ BK111⟩, ⟨b_ BK150⟩, ⟨Bq HB⟩⟩
  rw [if_neg c135] at H
  have c135b0 : ((t137.length : Int) == (t112.length : Int)) = false := beq_eq_false_iff_ne.mpr c135
  have c135b1 : ((t137.length : Int) != (t112.length : Int)) = true := bne_iff_ne.mpr c135
  have c135b2 : (t137.length == t112.length) = false := by first | simpa using c135 | (simp at c135 ⊢; omega)
  have H' := Aside0.mk H
  clear H
  obtain ⟨Ao181, co181, eo181⟩ := Kd.R_slice HO_15.out
  subst eo181
  go_wp2
  go_meet
  case rel => exact ⟨_, (true), (by first | rfl | (simp; done) | (simp [*]; done)), H', ⟨by have := HK1.out; have := HJ35.out; first | omega | exact Nat.le_refl _⟩, ⟨R_ HO_8⟩, ⟨Kd.R_mono (R_ HO_9) (fun _ hk => trivial)⟩, ⟨b_ BK101⟩, ⟨b_ BK102⟩, ⟨b_ BK111⟩, ⟨b_ BK150⟩, ⟨Bq HB⟩⟩
 rw [if_neg c134] at H
 have c134b0 : (t140 == 0) = false := beq_eq_false_iff_ne.mpr c134
 have c134b1 : (t140 != 0) = true := bne_iff_ne.mpr c134
 (first | rw [c134b0] | (simp only [i64_w, i32_w]; rw [c134b0]) | skip)
 by_cases c182 : t128 = true
 ·subst c182
  have H1 : ((smaltolaw03_fine.f t103 t104 t105 t106 t107 t108 t112 t137).bind fun t158 => (if t158 = true then ((smaltolaw03_fine.f t103 t104 t105 t106 t107 t108 t112 x10_1).bind fun t159 => (if t159 = true then (lR.j2 kj35 t108 t112 true t129 t149 (!true) t103 t104 t105 t106 t107 t147 t148) else (lR.j2 kj35 t108 t112 true t129 t149 false t103 t104 t105 t106 t107 t147 t148))) else (lR.j2 kj35 t108 t112 true t129 t149 true t103 t104 t105 t106 t107 t147 t148))) = some r := by rw [if_pos rfl] at H; exact H
  clear H
  have H := H1
  clear H1
  replace H := Option.bind_eq_some_iff.mp H
  obtain ⟨t158, A1830, H⟩ := H
  replace H : (if t158 = true then ((smaltolaw03_fine.f t103 t104 t105 t106 t107 t108 t112 x10_1).bind fun t159 => (if t159 = true then (lR.j2 kj35 t108 t112 true t129 t149 (!true) t103 t104 t105 t106 t107 t147 t148) else (lR.j2 kj35 t108 t112 true t129 t149 false t103 t104 t105 t106 t107 t147 t148))) else (lR.j2 kj35 t108 t112 true t129 t149 true t103 t104 t105 t106 t107 t147 t148)) = some r := H
  have A183 := Aside0.mk A1830
  clear A1830
  by_cases c184 : t158 = true
  ·subst c184
   have H1 : ((smaltolaw03_fine.f t103 t104 t105 t106 t107 t108 t112 x10_1).bind fun t159 => (if t159 = true then (lR.j2 kj35 t108 t112 true t129 t149 (!true) t103 t104 t105 t106 t107 t147 t148) else (lR.j2 kj35 t108 t112 true t129 t149 false t103 t104 t105 t106 t107 t147 t148))) = some r := by rw [if_pos rfl] at H; exact H
   clear H
   have H := H1
   clear H1
   replace H := Option.bind_eq_some_iff.mp H
   obtain ⟨t159, A1850, H⟩ := H
   replace H : (if t159 = true then (lR.j2 kj35 t108 t112 true t129 t149 (!true) t103 t104 t105 t106 t107 t147 t148) else (lR.j2 kj35 t108 t112 true t129 t149 false t103 t104 t105 t106 t107 t147 t148)) = some r := H
   have A185 := Aside0.mk A1850
   clear A1850
   by_cases c186 : t159 = true
   ·subst c186
    have H1 : (lR.j2 kj35 t108 t112 true t129 t149 (!true) t103 t104 t105 t106 t107 t147 t148) = some r := by rw [if_pos rfl] at H; exact H
    clear H
    have H := H1
    clear H1
    have H' := Aside0.mk H
    clear H
    have hnb187 := NB111_101.out
    have hnc187 := NB101_111.out
    have hnb188 := NB111_102.out
    have hnc188 := NB102_111.out
    have hnb189 := NB111_150.out
    have hnc189 := NB150_111.out
    have hcz190_0 : wc.cell? ⟨gb111, 0, none⟩ = some (.int .i64 t103) := kc BK111 0
    have hcz190_1 : wc.cell? ⟨gb111, 1, none⟩ = some (.int .i64 t104) := kc BK111 1
    have hcz190_2 : wc.cell? ⟨gb111, 2, none⟩ = some (.int .i64 t105) := kc BK111 2
    have hcz190_3 : wc.cell? ⟨gb111, 3, none⟩ = some (.int .i64 t106) := kc BK111 3
    have hcz190_4 : wc.cell? ⟨gb111, 4, none⟩ = some (.int .i64 t107) := kc BK111 4
    have hfz190_0 := blk_frozen BK111.out 0
    have hfz190_1 := blk_frozen BK111.out 1
    have hfz190_2 := blk_frozen BK111.out 2
    have hfz190_3 := blk_frozen BK111.out 3
    have hfz190_4 := blk_frozen BK111.out 4
    obtain ⟨Ao191, co191, eo191⟩ := Kd.R_slice HO_15.out
    subst eo191
    go_wp2_with (first | (go_at_call 45; (with_reducible refine (smaltolaw03_fine.calls t103 t104 t105 t106 t107 _ _ t108 _ _ t112 _ _ t137 true _ ?side1 ?side2 ?side3 ?side4 ?side5 ?side6 A183.out).mono ?_); (case side1 => exact rC HO_8); (case side2 => exact (Kd.R_reads' HO_8.out).2.1); (case side3 => exact rC HO_9); (case side4 => exact (Kd.R_reads' HO_9.out).2.1); (case side5 => exact rC HO_15); (case side6 => exact (Kd.R_reads' HO_15.out).2.1); rintro e w192 ⟨rfl, hb⟩; have n0_ := RB HO_8 hb; have n1_ := RB HO_9 hb; have n2_ := RB HO_10 hb; have n3_ := RB HO_15 hb; have n4_ := bb BK101 hb; have n5_ := bb BK102 hb; have n6_ := bb BK111 hb; have n7_ := bb BK150 hb; have n8_ := Aside0.mk (below_step (Bq HB) hb); clear HO_8; clear HO_9; clear HO_10; clear HO_15; clear BK101; clear BK102; clear BK111; clear BK150; clear HB; have HO_8 := n0_; have HO_9 := n1_; have HO_10 := n2_; have HO_15 := n3_; have BK101 := n4_; have BK102 := n5_; have BK111 := n6_; have BK150 := n7_; have HB := n8_; clear n0_ n1_ n2_ n3_ n4_ n5_ n6_ n7_ n8_; (try clear hb); (try clear hb2); (try clear hk); (try clear hi); have hcz193_0 : w192.cell? ⟨gb111, 0, none⟩ = some (.int .i64 t103) := kc BK111 0; have hcz193_1 : w192.cell? ⟨gb111, 1, none⟩ = some (.int .i64 t104) := kc BK111 1; have hcz193_2 : w192.cell? ⟨gb111, 2, none⟩ = some (.int .i64 t105) := kc BK111 2; have hcz193_3 : w192.cell? ⟨gb111, 3, none⟩ = some (.int .i64 t106) := kc BK111 3; have hcz193_4 : w192.cell? ⟨gb111, 4, none⟩ = some (.int .i64 t107) := kc BK111 4; have hfz193_0 := blk_frozen BK111.out 0; have hfz193_1 := blk_frozen BK111.out 1; have hfz193_2 := blk_frozen BK111.out 2; have hfz193_3 := blk_frozen BK111.out 3; have hfz193_4 := blk_frozen BK111.out 4; obtain ⟨Ao194, co194, eo194⟩ := Kd.R_slice HO_10.out; subst eo194) | (go_at_call 45; (with_reducible refine (smaltolaw03_fine.calls t103 t104 t105 t106 t107 _ _ t108 _ _ t112 _ _ x10_1 true _ ?side1 ?side2 ?side3 ?side4 ?side5 ?side6 A185.out).mono ?_); (case side1 => exact rC HO_8); (case side2 => exact (Kd.R_reads' HO_8.out).2.1); (case side3 => exact rC HO_9); (case side4 => exact (Kd.R_reads' HO_9.out).2.1); (case side5 => exact rC HO_10); (case side6 => exact (Kd.R_reads' HO_10.out).2.1); rintro e w195 ⟨rfl, hb⟩; have n0_ := RB HO_8 hb; have n1_ := RB HO_9 hb; have n2_ := RB HO_10 hb; have n3_ := RB HO_15 hb; have n4_ := bb BK101 hb; have n5_ := bb BK102 hb; have n6_ := bb BK111 hb; have n7_ := bb BK150 hb; have n8_ := Aside0.mk (below_step (Bq HB) hb); clear HO_8; clear HO_9; clear HO_10; clear HO_15; clear BK101; clear BK102; clear BK111; clear BK150; clear HB; have HO_8 := n0_; have HO_9 := n1_; have HO_10 := n2_; have HO_15 := n3_; have BK101 := n4_; have BK102 := n5_; have BK111 := n6_; have BK150 := n7_; have HB := n8_; clear n0_ n1_ n2_ n3_ n4_ n5_ n6_ n7_ n8_; (try clear hb); (try clear hb2); (try clear hk); (try clear hi)))
    go_meet
    case rel => exact ⟨_, (!true), (by first | rfl | (simp; done) | (simp [*]; done)), H', ⟨by have := HK1.out; have := HJ35.out; first | omega | exact Nat.le_refl _⟩, ⟨R_ HO_8⟩, ⟨Kd.R_mono (R_ HO_9) (fun _ hk => trivial)⟩, ⟨b_ BK101⟩, ⟨b_ BK102⟩, ⟨b_ BK111⟩, ⟨b_ BK150⟩, ⟨Bq HB⟩⟩
   replace c186 := Bool.eq_false_iff.mpr c186
   subst c186
   have H1 : (lR.j2 kj35 t108 t112 true t129 t149 false t103 t104 t105 t106 t107 t147 t148) = some r := by rw [if_neg (show ¬ (false = true) by decide)] at H; exact H
   clear H
   have H := H1
   clear H1
   have H' := Aside0.mk H
   clear H
   have hnb196 := NB111_101.out
   have hnc196 := NB101_111.out
   have hnb197 := NB111_102.out
   have hnc197 := NB102_111.out
   have hnb198 := NB111_150.out
   have hnc198 := NB150_111.out
   have hcz199_0 : wc.cell? ⟨gb111, 0, none⟩ = some (.int .i64 t103) := kc BK111 0
   have hcz199_1 : wc.cell? ⟨gb111, 1, none⟩ = some (.int .i64 t104) := kc BK111 1
   have hcz199_2 : wc.cell? ⟨gb111, 2, none⟩ = some (.int .i64 t105) := kc BK111 2
   have hcz199_3 : wc.cell? ⟨gb111, 3, none⟩ = some (.int .i64 t106) := kc BK111 3
   have hcz199_4 : wc.cell? ⟨gb111, 4, none⟩ = some (.int .i64 t107) := kc BK111 4
   have hfz199_0 := blk_frozen BK111.out 0
   have hfz199_1 := blk_frozen BK111.out 1
   have hfz199_2 := blk_frozen BK111.out 2
   have hfz199_3 := blk_frozen BK111.out 3
   have hfz199_4 := blk_frozen BK111.out 4
   obtain ⟨Ao200, co200, eo200⟩ := Kd.R_slice HO_15.out
   subst eo200
   go_wp2_with (first | (go_at_call 45; (with_reducible refine (smaltolaw03_fine.calls t103 t104 t105 t106 t107 _ _ t108 _ _ t112 _ _ t137 true _ ?side1 ?side2 ?side3 ?side4 ?side5 ?side6 A183.out).mono ?_); (case side1 => exact rC HO_8); (case side2 => exact (Kd.R_reads' HO_8.out).2.1); (case side3 => exact rC HO_9); (case side4 => exact (Kd.R_reads' HO_9.out).2.1); (case side5 => exact rC HO_15); (case side6 => exact (Kd.R_reads' HO_15.out).2.1); rintro e w201 ⟨rfl, hb⟩; have n0_ := RB HO_8 hb; have n1_ := RB HO_9 hb; have n2_ := RB HO_10 hb; have n3_ := RB HO_15 hb; have n4_ := bb BK101 hb; have n5_ := bb BK102 hb; have n6_ := bb BK111 hb; have n7_ := bb BK150 hb; have n8_ := Aside0.mk (below_step (Bq HB) hb); clear HO_8; clear HO_9; clear HO_10; clear HO_15; clear BK101; clear BK102; clear BK111; clear BK150; clear HB; have HO_8 := n0_; have HO_9 := n1_; have HO_10 := n2_; have HO_15 := n3_; have BK101 := n4_; have BK102 := n5_; have BK111 := n6_; have BK150 := n7_; have HB := n8_; clear n0_ n1_ n2_ n3_ n4_ n5_ n6_ n7_ n8_; (try clear hb); (try clear hb2); (try clear hk); (try clear hi); have hcz202_0 : w201.cell? ⟨gb111, 0, none⟩ = some (.int .i64 t103) := kc BK111 0; have hcz202_1 : w201.cell? ⟨gb111, 1, none⟩ = some (.int .i64 t104) := kc BK111 1; have hcz202_2 : w201.cell? ⟨gb111, 2, none⟩ = some (.int .i64 t105) := kc BK111 2; have hcz202_3 : w201.cell? ⟨gb111, 3, none⟩ = some (.int .i64 t106) := kc BK111 3; have hcz202_4 : w201.cell? ⟨gb111, 4, none⟩ = some (.int .i64 t107) := kc BK111 4; have hfz202_0 := blk_frozen BK111.out 0; have hfz202_1 := blk_frozen BK111.out 1; have hfz202_2 := blk_frozen BK111.out 2; have hfz202_3 := blk_frozen BK111.out 3; have hfz202_4 := blk_frozen BK111.out 4; obtain ⟨Ao203, co203, eo203⟩ := Kd.R_slice HO_10.out; subst eo203) | (go_at_call 45; (with_reducible refine (smaltolaw03_fine.calls t103 t104 t105 t106 t107 _ _ t108 _ _ t112 _ _ x10_1 false _ ?side1 ?side2 ?side3 ?side4 ?side5 ?side6 A185.out).mono ?_); (case side1 => exact rC HO_8); (case side2 => exact (Kd.R_reads' HO_8.out).2.1); (case side3 => exact rC HO_9); (case side4 => exact (Kd.R_reads' HO_9.out).2.1); (case side5 => exact rC HO_10); (case side6 => exact (Kd.R_reads' HO_10.out).2.1); rintro e w204 ⟨rfl, hb⟩; have n0_ := RB HO_8 hb; have n1_ := RB HO_9 hb; have n2_ := RB HO_10 hb; have n3_ := RB HO_15 hb; have n4_ := bb BK101 hb; have n5_ := bb BK102 hb; have n6_ := bb BK111 hb; have n7_ := bb BK150 hb; have n8_ := Aside0.mk (below_step (Bq HB) hb); clear HO_8; clear HO_9; clear HO_10; clear HO_15; clear BK101; clear BK102; clear BK111; clear BK150; clear HB; have HO_8 := n0_; have HO_9 := n1_; have HO_10 := n2_; have HO_15 := n3_; have BK101 := n4_; have BK102 := n5_; have BK111 := n6_; have BK150 := n7_; have HB := n8_; clear n0_ n1_ n2_ n3_ n4_ n5_ n6_ n7_ n8_; (try clear hb); (try clear hb2); (try clear hk); (try clear hi)))
   go_meet
   case rel => exact ⟨_, (false), (by first | rfl | (simp; done) | (simp [*]; done)), H', ⟨by have := HK1.out; have := HJ35.out; first | omega | exact Nat.le_refl _⟩, ⟨R_ HO_8⟩, ⟨Kd.R_mono (R_ HO_9) (fun _ hk => trivial)⟩, ⟨b_ BK101⟩, ⟨b_ BK102⟩, ⟨b_ BK111⟩, ⟨b_ BK150⟩, ⟨Bq HB⟩⟩
  replace c184 := Bool.eq_false_iff.mpr c184
  subst c184
  have H1 : (lR.j2 kj35 t108 t112 true t129 t149 true t103 t104 t105 t106 t107 t147 t148) = some r := by rw [if_neg (show ¬ (false = true) by decide)] at H; exact H
  clear H
  have H := H1
  clear H1
  have H' := Aside0.mk H
  clear H
  have hnb205 := NB111_101.out
  have hnc205 := NB101_111.out
  have hnb206 := NB111_102.out
  have hnc206 := NB102_111.out
  have hnb207 := NB111_150.out
  have hnc207 := NB150_111.out
  have hcz208_0 : wc.cell? ⟨gb111, 0, none⟩ = some (.int .i64 t103) := kc BK111 0
  have hcz208_1 : wc.cell? ⟨gb111, 1, none⟩ = some (.int .i64 t104) := kc BK111 1
  have hcz208_2 : wc.cell? ⟨gb111, 2, none⟩ = some (.int .i64 t105) := kc BK111 2
  have hcz208_3 : wc.cell? ⟨gb111, 3, none⟩ = some (.int .i64 t106) := kc BK111 3
  have hcz208_4 : wc.cell? ⟨gb111, 4, none⟩ = some (.int .i64 t107) := kc BK111 4
  have hfz208_0 := blk_frozen BK111.out 0
  have hfz208_1 := blk_frozen BK111.out 1
  have hfz208_2 := blk_frozen BK111.out 2
  have hfz208_3 := blk_frozen BK111.out 3
  have hfz208_4 := blk_frozen BK111.out 4
  obtain ⟨Ao209, co209, eo209⟩ := Kd.R_slice HO_15.out
  subst eo209
  go_wp2_with (first | (go_at_call 45; (with_reducible refine (smaltolaw03_fine.calls t103 t104 t105 t106 t107 _ _ t108 _ _ t112 _ _ t137 false _ ?side1 ?side2 ?side3 ?side4 ?side5 ?side6 A183.out).mono ?_); (case side1 => exact rC HO_8); (case side2 => exact (Kd.R_reads' HO_8.out).2.1); (case side3 => exact rC HO_9); (case side4 => exact (Kd.R_reads' HO_9.out).2.1); (case side5 => exact rC HO_15); (case side6 => exact (Kd.R_reads' HO_15.out).2.1); rintro e w210 ⟨rfl, hb⟩; have n0_ := RB HO_8 hb; have n1_ := RB HO_9 hb; have n2_ := RB HO_10 hb; have n3_ := RB HO_15 hb; have n4_ := bb BK101 hb; have n5_ := bb BK102 hb; have n6_ := bb BK111 hb; have n7_ := bb BK150 hb; have n8_ := Aside0.mk (below_step (Bq HB) hb); clear HO_8; clear HO_9; clear HO_10; clear HO_15; clear BK101; clear BK102; clear BK111; clear BK150; clear HB; have HO_8 := n0_; have HO_9 := n1_; have HO_10 := n2_; have HO_15 := n3_; have BK101 := n4_; have BK102 := n5_; have BK111 := n6_; have BK150 := n7_; have HB := n8_; clear n0_ n1_ n2_ n3_ n4_ n5_ n6_ n7_ n8_; (try clear hb); (try clear hb2); (try clear hk); (try clear hi)))
  go_meet
  case rel => exact ⟨_, (true), (by first | rfl | (simp; done) | (simp [*]; done)), H', ⟨by have := HK1.out; have := HJ35.out; first | omega | exact Nat.le_refl _⟩, ⟨R_ HO_8⟩, ⟨Kd.R_mono (R_ HO_9) (fun _ hk => trivial)⟩, ⟨b_ BK101⟩, ⟨b_ BK102⟩, ⟨b_ BK111⟩, ⟨b_ BK150⟩, ⟨Bq HB⟩⟩
 replace c182 := Bool.eq_false_iff.mpr c182
 subst c182
 have H1 : ((smaltolaw03_fine.f t103 t104 t105 t106 t107 t108 t112 x10_1).bind fun t160 => (if t160 = true then (lR.j2 kj35 t108 t112 false t129 t149 (!false) t103 t104 t105 t106 t107 t147 t148) else (lR.j2 kj35 t108 t112 false t129 t149 false t103 t104 t105 t106 t107 t147 t148))) = some r := by rw [if_neg (show ¬ (false = true) by decide)] at H; exact H
 clear H
 have H := H1
 clear H1
 replace H := Option.bind_eq_some_iff.mp H
 obtain ⟨t160, A2110, H⟩ := H
 replace H : (if t160 = true then (lR.j2 kj35 t108 t112 false t129 t149 (!false) t103 t104 t105 t106 t107 t147 t148) else (lR.j2 kj35 t108 t112 false t129 t149 false t103 t104 t105 t106 t107 t147 t148)) = some r := H
 have A211 := Aside0.mk A2110
 clear A2110
 by_cases c212 : t160 = true
 ·subst c212
  have H1 : (lR.j2 kj35 t108 t112 false t129 t149 (!false) t103 t104 t105 t106 t107 t147 t148) = some r := by rw [if_pos rfl] at H; exact H
  clear H
  have H := H1
  clear H1
  have H' := Aside0.mk H
  clear H
  have hnb213 := NB111_101.out
  have hnc213 := NB101_111.out
  have hnb214 := NB111_102.out
  have hnc214 := NB102_111.out
  have hnb215 := NB111_150.out
  have hnc215 := NB150_111.out
  have hcz216_0 : wc.cell? ⟨gb111, 0, none⟩ = some (.int .i64 t103) := kc BK111 0
  have hcz216_1 : wc.cell? ⟨gb111, 1, none⟩ = some (.int .i64 t104) := kc BK111 1
  have hcz216_2 : wc.cell? ⟨gb111, 2, none⟩ = some (.int .i64 t105) := kc BK111 2
  have hcz216_3 : wc.cell? ⟨gb111, 3, none⟩ = some (.int .i64 t106) := kc BK111 3
  have hcz216_4 : wc.cell? ⟨gb111, 4, none⟩ = some (.int .i64 t107) := kc BK111 4
  have hfz216_0 := blk_frozen BK111.out 0
  have hfz216_1 := blk_frozen BK111.out 1
  have hfz216_2 := blk_frozen BK111.out 2
  have hfz216_3 := blk_frozen BK111.out 3
  have hfz216_4 := blk_frozen BK111.out 4
  obtain ⟨Ao217, co217, eo217⟩ := Kd.R_slice HO_10.out
  subst eo217
  go_wp2_with (first | (go_at_call 45; (with_reducible refine (smaltolaw03_fine.calls t103 t104 t105 t106 t107 _ _ t108 _ _ t112 _ _ x10_1 true _ ?side1 ?side2 ?side3 ?side4 ?side5 ?side6 A211.out).mono ?_); (case side1 => exact rC HO_8); (case side2 => exact (Kd.R_reads' HO_8.out).2.1); (case side3 => exact rC HO_9); (case side4 => exact (Kd.R_reads' HO_9.out).2.1); (case side5 => exact rC HO_10); (case side6 => exact (Kd.R_reads' HO_10.out).2.1); rintro e w218 ⟨rfl, hb⟩; have n0_ := RB HO_8 hb; have n1_ := RB HO_9 hb; have n2_ := RB HO_10 hb; have n3_ := RB HO_15 hb; have n4_ := bb BK101 hb; have n5_ := bb BK102 hb; have n6_ := bb BK111 hb; have n7_ := bb BK150 hb; have n8_ := Aside0.mk (below_step (Bq HB) hb); clear HO_8; clear HO_9; clear HO_10; clear HO_15; clear BK101; clear BK102; clear BK111; clear BK150; clear HB; have HO_8 := n0_; have HO_9 := n1_; have HO_10 := n2_; have HO_15 := n3_; have BK101 := n4_; have BK102 := n5_; have BK111 := n6_; have BK150 := n7_; have HB := n8_; clear n0_ n1_ n2_ n3_ n4_ n5_ n6_ n7_ n8_; (try clear hb); (try clear hb2); (try clear hk); (try clear hi)))
  go_meet
  case rel => exact ⟨_, (!false), (by first | rfl | (simp; done) | (simp [*]; done)), H', ⟨by have := HK1.out; have := HJ35.out; first | omega | exact Nat.le_refl _⟩, ⟨R_ HO_8⟩, ⟨Kd.R_mono (R_ HO_9) (fun _ hk => trivial)⟩, ⟨b_ BK101⟩, ⟨b_ BK102⟩, ⟨b_ BK111⟩, ⟨b_ BK150⟩, ⟨Bq HB⟩⟩
 replace c212 := Bool.eq_false_iff.mpr c212
 subst c212
 have H1 : (lR.j2 kj35 t108 t112 false t129 t149 false t103 t104 t105 t106 t107 t147 t148) = some r := by rw [if_neg (show ¬ (false = true) by decide)] at H; exact H
 clear H
 have H := H1
 clear H1
 have H' := Aside0.mk H
 clear H
 have hnb219 := NB111_101.out
 have hnc219 := NB101_111.out
 have hnb220 := NB111_102.out
 have hnc220 := NB102_111.out
 have hnb221 := NB111_150.out
 have hnc221 := NB150_111.out
 have hcz222_0 : wc.cell? ⟨gb111, 0, none⟩ = some (.int .i64 t103) := kc BK111 0
 have hcz222_1 : wc.cell? ⟨gb111, 1, none⟩ = some (.int .i64 t104) := kc BK111 1
 have hcz222_2 : wc.cell? ⟨gb111, 2, none⟩ = some (.int .i64 t105) := kc BK111 2
 have hcz222_3 : wc.cell? ⟨gb111, 3, none⟩ = some (.int .i64 t106) := kc BK111 3
 have hcz222_4 : wc.cell? ⟨gb111, 4, none⟩ = some (.int .i64 t107) := kc BK111 4
 have hfz222_0 := blk_frozen BK111.out 0
 have hfz222_1 := blk_frozen BK111.out 1
 have hfz222_2 := blk_frozen BK111.out 2
 have hfz222_3 := blk_frozen BK111.out 3
 have hfz222_4 := blk_frozen BK111.out 4
 obtain ⟨Ao223, co223, eo223⟩ := Kd.R_slice HO_10.out
 subst eo223
 go_wp2_with (first | (go_at_call 45; (with_reducible refine (smaltolaw03_fine.calls t103 t104 t105 t106 t107 _ _ t108 _ _ t112 _ _ x10_1 false _ ?side1 ?side2 ?side3 ?side4 ?side5 ?side6 A211.out).mono ?_); (case side1 => exact rC HO_8); (case side2 => exact (Kd.R_reads' HO_8.out).2.1); (case side3 => exact rC HO_9); (case side4 => exact (Kd.R_reads' HO_9.out).2.1); (case side5 => exact rC HO_10); (case side6 => exact (Kd.R_reads' HO_10.out).2.1); rintro e w224 ⟨rfl, hb⟩; have n0_ := RB HO_8 hb; have n1_ := RB HO_9 hb; have n2_ := RB HO_10 hb; have n3_ := RB HO_15 hb; have n4_ := bb BK101 hb; have n5_ := bb BK102 hb; have n6_ := bb BK111 hb; have n7_ := bb BK150 hb; have n8_ := Aside0.mk (below_step (Bq HB) hb); clear HO_8; clear HO_9; clear HO_10; clear HO_15; clear BK101; clear BK102; clear BK111; clear BK150; clear HB; have HO_8 := n0_; have HO_9 := n1_; have HO_10 := n2_; have HO_15 := n3_; have BK101 := n4_; have BK102 := n5_; have BK111 := n6_; have BK150 := n7_; have HB := n8_; clear n0_ n1_ n2_ n3_ n4_ n5_ n6_ n7_ n8_; (try clear hb); (try clear hb2); (try clear hk); (try clear hi)))
 go_meet
 case rel => exact ⟨_, (false), (by first | rfl | (simp; done) | (simp [*]; done)), H', ⟨by have := HK1.out; have := HJ35.out; first | omega | exact Nat.le_refl _⟩, ⟨R_ HO_8⟩, ⟨Kd.R_mono (R_ HO_9) (fun _ hk => trivial)⟩, ⟨b_ BK101⟩, ⟨b_ BK102⟩, ⟨b_ BK111⟩, ⟨b_ BK150⟩, ⟨Bq HB⟩⟩
end Go.Proofs.YtbijamlgcebgeaaDoor.Q

/- ForkRight: the law returns true for every input; each argument reads behind the call as it read before (for worlds in which the two tables of the library hold what its initialisers lay). Part 6 of 7. -/
import Derived.Test.YtbijamlgcebgeaaDoorR5
set_option linter.unusedVariables false
set_option linter.unusedSimpArgs false
-- part SO5
namespace Go.Proofs.YtbijamlgcebgeaaDoor.Q
open Go.RowKit Go.Proofs.YtbijamlgcebgeaaDoorW.PrintWords Go.Proofs.YtbijamlgcebgeaaDoorW.PrintLast Go.Proofs.YtbijamlgcebgeaaDoorW.PrintMore
attribute [local go_sem] max2_int min2_int max_two min_two max_three min_three max_four min_four
attribute [local go_sem high] eqA36
set_option maxHeartbeats 8000000 in
set_option maxRecDepth 100000 in
theorem lR.p5 : lR.c0.1.2.2.2.2.1 := by
 intro k a0_0 a0_1 a0_2 a0_3 a0_4 A0_5 c0_5 l0_5 a1 a2_0 a2_1 a2_2 a2_3 a2_4 a2_5 r w hu66 hu67 hu23 hu36 HTAB HR0_5 HC0_5 t103 t104 t105 t106 t107 t108 A4 t112 A5 y115 Ny115 z0_1 gb101 w6 GW101 GE101 gb102 w7 GW102 GE102 NB101_102 NB102_101 hnb8 hnc8 w10 gb111 w11 GW111 GE111 NB101_111 NB111_101 NB102_111 NB111_102 hnb12 hnc12 hnb13 hnc13 Ao15 co15 w16 v116 w17 HO110 z0_2 z0_3 z0_4 z0_5 z0_6 z0_7 u10 z0_8 z0_9 z0_10 z0_11 z0_12 z0_13 z0_14 z0_15 z0_16 z0_17 z0_18 z0_19 z0_20 z0_21 z0_22 z0_23 z0_24 z0_25 x10_1 x11_1 k1 z0_26 HK1 c19b0 t122 A27 t125 A28 t128 t129 A29 t131 A30 t134 A31 t137 t140 A32 t141 A33 t144 A34 t147 t148 t149 A35 Ao37 co37 HO114 HO117 z0_27 z0_28 z0_29 z0_30 z0_31 w38 z0_32 w39 z0_33 w40 Ao41 co41 Ao42 co42 z0_34 w43 z0_35 z0_36 z0_37 w44 z0_38 w45 z0_39 w46 Ao47 co47 Ao48 co48 z0_40 w49 v138 z0_41 HT_ HW_ w50 z0_42 v142 v145 gb150 w57 hS_ HO124 HO127 HO133 HO136 HO139 HO143 HO146 z0_43 z0_44 z0_45 z0_46 z0_47 z0_48 z0_49 GW150 GE150 NB101_150 NB150_101 NB102_150 NB150_102 NB111_150 NB150_111 z0_50 z0_51 hs58 hfs58 hns58_0 hns58_1 hns58_2 hms58_0 hms58_1 hms58_2 hs59 hfs59 hns59_0 hns59_1 hns59_2 hms59_0 hms59_1 hms59_2 hHeld z0_52 z0_53 z0_54 z0_55 z0_56 z0_57 z0_58 z0_59 z0_60 z0_61 z0_62 z0_63 z0_64 z0_65 z0_66 z0_67 z0_68 z0_69 z0_70 z0_71 z0_72 z0_73 z0_74 z0_75 z0_76 z0_77 z0_78 z0_79 z0_80 z0_81 z0_82 z0_83 z0_84 z0_85 z0_86 z0_87 z0_88 z0_89 z0_90 z0_91 z0_92 z0_93 z0_94 z0_95 z0_96 z0_97 z0_98 z0_99 z0_100 z0_101 z0_102 z0_103 z0_104 z0_105 z0_106 z0_107 z0_108 z0_109 z0_110 z0_111 z0_112 z0_113 z0_114 z0_115 z0_116 z0_117 z0_118 z0_119 z0_120 z0_121 z0_122 z0_123 z0_124 z0_125 z0_126 z0_127 z0_128 z0_129 z0_130 z0_131 z0_132 z0_133 z0_134 z0_135 z0_136 z0_137 z0_138 z0_139 z0_140 z0_141 z0_142 z0_143 z0_144 z0_145 z0_146 z0_147 z0_148 z0_149 z0_150 z0_151 z0_152 z0_153 z0_154 z0_155 z0_156 z0_157 z0_158 z0_159 z0_160 z0_161 z0_162 z0_163 z0_164 z0_165 z0_166 z0_167 z0_168 z0_169 z0_170 z0_171 z0_172 z0_173 z0_174 z0_175 z0_176 z0_177 u155 z0_178 z0_179 z0_180 z0_181 z0_182 z0_183 z0_184 z0_185 z0_186 z0_187 z0_188 z0_189 z0_190 z0_191 z0_192 z0_193 z0_194 z0_195 z0_196 z0_197 z0_198 z0_199 z0_200 z0_201 z0_202 z0_203 z0_204 z0_205 z0_206 z0_207 z0_208 z0_209 z0_210 z0_211 z0_212 z0_213 z0_214 z0_215 z0_216 z0_217 z0_218 z0_219 z0_220 z0_221 z0_222 z0_223 z0_224 z0_225 z0_226 z0_227 z0_228 z0_229 z0_230 z0_231 z0_232 z0_233 z0_234 z0_235 z0_236 z0_237 z0_238 z0_239 z0_240 z0_241 z0_242 z0_243 z0_244 z0_245 z0_246 z0_247 z0_248 z0_249 z0_250 z0_251 z0_252 z0_253 z0_254 z0_255 z0_256 z0_257 z0_258 z0_259 z0_260 z0_261 z0_262 z0_263 z0_264 z0_265 z0_266 z0_267 z0_268 z0_269 z0_270 z0_271 z0_272 z0_273 z0_274 z0_275 z0_276 z0_277 z0_278 z0_279 z0_280 z0_281 z0_282 z0_283 z0_284 HO_10 HO_15 z0_285 z0_286 z0_287 z0_288 z0_289 kj35 HJ35 wc u29 u30 u31 u32 u33 u34 u35 u36 u37 u38 u39 u40 u41 u42 u43 u44 u45 u46 u47 u48 u49 u50 u51 u52 u53 u54 u55 u56 u57 u58 u59 u60 u61 u62 u63 u64 u65 u66 u67 u68 u69 u70 u71 u72 u73 u74 u75 u76 u77 u78 u79 u80 u81 u82 u83 u84 u85 u86 u87 u88 u89 u90 u91 u92 u93 u94 u95 u96 u97 u98 u99 u100 u101 u102 u103 u104 u105 u106 u107 u108 u109 u110 u111 u112 u113 u114 u115 u116 u117 u118 u119 u120 u121 u122 u123 u124 u125 u126 u127 u128 u129 u130 u131 u132 u133 u134 u135 u136 u137 u138 u139 u140 u141 u142 u143 u144 u145 u146 u147 u148 u149 u150 u151 u152 u153 u154 z0_290 z0_291 z0_292 z0_293 z0_294 z0_295 z0_296 z0_297 z0_298 z0_299 z0_300 z0_301 z0_302 z0_303 z0_304 z0_305 z0_306 z0_307 z0_308 z0_309 z0_310 z0_311 z0_312 z0_313 z0_314 z0_315 z0_316 z0_317 z0_318 z0_319 z0_320 z0_321 z0_322 z0_323 z0_324 z0_325 z0_326 z0_327 z0_328 z0_329 z0_330 z0_331 z0_332 z0_333 z0_334 z0_335 z0_336 z0_337 z0_338 z0_339 z0_340 z0_341 z0_342 z0_343 z0_344 z0_345 u212 u213 u214 u215 u216 u217 u218 u219 u220 u221 u222 u223 u224 u225 u226 u227 u228 u229 u230 u231 u232 u233 u234 u235 u236 u237 u238 u239 u240 u241 u242 u243 u244 u245 u246 u247 u248 u249 u250 u251 u252 u253 u254 u255 u256 u257 u258 u259 u260 z0_346 z0_347 z0_348 z0_349 z0_350 z0_351 z0_352 kj132 HJ132 z0_353 z0_354 wr u6 u20 u21 u22 u23 u156 u157 u158 u159 u160 u161 u162 u163 u164 u165 u166 u167 u168 u169 u170 u171 u172 u173 u174 u175 u176 u177 u178 u179 u180 u181 u182 u183 u184 u185 u186 u187 u188 u189 u190 u191 u192 u193 u194 u195 u196 u197 u198 u199 u200 u201 u202 u203 u204 u205 u206 u207 u208 u209 u210 u211 z0_355 z0_356 z0_357 x19_4 HO_8 HO_9 BK101 BK102 BK111 BK150 HB k4 z0_358 HK4 H c226
 rw [if_pos c226] at H
 have c226b0 : decide (x19_4 < (t112.length : Int)) = true := decide_eq_true c226
 clear c226
 by_cases c227 : 0 ≤ x19_4
 ·rw [if_pos c227] at H
  have c227b0 : decide (0 ≤ x19_4) = true := decide_eq_true c227
  clear c227
  by_cases c228 : 0 ≤ (rd t112 x19_4)
  ·rw [if_pos c228] at H
   have c228b0 : decide (0 ≤ (rd t112 x19_4)) = true := decide_eq_true c228
   clear c228
   by_cases c229 : (rd t112 x19_4) < (t108.length : Int)
   ·rw [if_pos c229] at H
    have c229b0 : decide ((rd t112 x19_4) < (t108.length : Int)) = true := decide_eq_true c229
    clear c229
    have HC230 := Aside0.mk H
    clear H
    have p161 : 0 ≤ (x19_4 : Int) := of_decide_eq_true (by first | (with_reducible assumption) | assumption)
    have q161 : x19_4 < (t112.length : Int) := of_decide_eq_true (by first | (with_reducible assumption) | assumption)
    obtain ⟨ad161, e161, hx161_0⟩ := Kd.at_int (Kd.R_reads' HO_9.out).2.2 x19_4 p161 q161
    cases e161
    replace p161 := eq_true p161
    replace q161 := eq_true q161
    have p162 : 0 ≤ ((rd t112 x19_4) : Int) := of_decide_eq_true (by first | (with_reducible assumption) | assumption)
    have q162 : (rd t112 x19_4) < (t108.length : Int) := of_decide_eq_true (by first | (with_reducible assumption) | assumption)
    obtain ⟨ad162, e162, hx162_0, hx162_1, hx162_2, hx162_3, hx162_4, hx162_5⟩ := at_T74 (Kd.R_reads' HO_8.out).2.2 (rd t112 x19_4) p162 q162
    cases e162
    replace p162 := eq_true p162
    replace q162 := eq_true q162
    go_upto_region 18 with (first | ((with_reducible refine gate_dst (N := 20) rfl ?_); (try (refine gate_guard (by rfl) ?_; dsimp only)); refine box_event ?hg (N := 20) ?hd (cs := #[.int .i64 0, .int .i64 0]) (t := 36) ?hr ?_; (case hd => rfl); (case hg => rfl); (case hr => first | (go_simp; done) | (go_simp; rfl)); intro gb163 hg w231 hbox hb; have n0_ := RB HO_8 hb; have n1_ := RB HO_9 hb; have n2_ := bb BK101 hb; have n3_ := bb BK102 hb; have n4_ := bb BK111 hb; have n5_ := bb BK150 hb; have n6_ := Aside0.mk (below_step (Bq HB) hb); have n7_ := Aside0.mk (hbox); have n8_ := Aside0.mk ((by rw [hg]; exact (below_size (Bq HB)) : w.heap.size ≤ gb163)); have n9_ := Aside0.mk ((by rw [hg]; exact (below_size (Bq HB)) : w.heap.size ≤ gb163)); have n10_ := Aside0.mk ((by rw [hg]; exact Nat.ne_of_lt (blk_lt (g := gb101) (o := .cells #[.int .u8 a0_0, .int .u8 a0_1, .int .u8 a0_2, .int .u8 a0_3, .int .u8 a0_4, .slice A0_5 l0_5.length c0_5] 66 (0, 0)) (b_ BK101)) : gb101 ≠ gb163)); have n11_ := Aside0.mk ((by rw [hg]; exact Nat.ne_of_gt (blk_lt (g := gb101) (o := .cells #[.int .u8 a0_0, .int .u8 a0_1, .int .u8 a0_2, .int .u8 a0_3, .int .u8 a0_4, .slice A0_5 l0_5.length c0_5] 66 (0, 0)) (b_ BK101)) : gb163 ≠ gb101)); have n12_ := Aside0.mk ((by rw [hg]; exact Nat.ne_of_lt (blk_lt (g := gb102) (o := .cells #[.int .u8 a2_0, .int .u8 a2_1, .int .u8 a2_2, .int .u8 a2_3, .int .u8 a2_4, .int .u8 a2_5] 67 (0, 0)) (b_ BK102)) : gb102 ≠ gb163)); have n13_ := Aside0.mk ((by rw [hg]; exact Nat.ne_of_gt (blk_lt (g := gb102) (o := .cells #[.int .u8 a2_0, .int .u8 a2_1, .int .u8 a2_2, .int .u8 a2_3, .int .u8 a2_4, .int .u8 a2_5] 67 (0, 0)) (b_ BK102)) : gb163 ≠ gb102)); have n14_ := Aside0.mk ((by rw [hg]; exact Nat.ne_of_lt (blk_lt (g := gb111) (o := .cells #[.int .i64 t103, .int .i64 t104, .int .i64 t105, .int .i64 t106, .int .i64 t107] 23 (0, 0)) (b_ BK111)) : gb111 ≠ gb163)); have n15_ := Aside0.mk ((by rw [hg]; exact Nat.ne_of_gt (blk_lt (g := gb111) (o := .cells #[.int .i64 t103, .int .i64 t104, .int .i64 t105, .int .i64 t106, .int .i64 t107] 23 (0, 0)) (b_ BK111)) : gb163 ≠ gb111)); have n16_ := Aside0.mk ((by rw [hg]; exact Nat.ne_of_lt (blk_lt (g := gb150) (o := .cells #[.int .i64 t147, .int .i64 t148] 36 (0, 0)) (b_ BK150)) : gb150 ≠ gb163)); have n17_ := Aside0.mk ((by rw [hg]; exact Nat.ne_of_gt (blk_lt (g := gb150) (o := .cells #[.int .i64 t147, .int .i64 t148] 36 (0, 0)) (b_ BK150)) : gb163 ≠ gb150)); clear HO_8; clear HO_9; clear BK101; clear BK102; clear BK111; clear BK150; clear HB; have HO_8 := n0_; have HO_9 := n1_; have BK101 := n2_; have BK102 := n3_; have BK111 := n4_; have BK150 := n5_; have HB := n6_; have BK163 := n7_; have GW163 := n8_; have GE163 := n9_; have NB101_163 := n10_; have NB163_101 := n11_; have NB102_163 := n12_; have NB163_102 := n13_; have NB111_163 := n14_; have NB163_111 := n15_; have NB150_163 := n16_; have NB163_150 := n17_; clear n0_ n1_ n2_ n3_ n4_ n5_ n6_ n7_ n8_ n9_ n10_ n11_ n12_ n13_ n14_ n15_ n16_ n17_; clear hb hbox hg; have hnb232 := NB163_101.out; have hnc232 := NB101_163.out; have hnb233 := NB163_102.out; have hnc233 := NB102_163.out; have hnb234 := NB163_111.out; have hnc234 := NB111_163.out; have hnb235 := NB163_150.out; have hnc235 := NB150_163.out; have hcz236_0 : w231.cell? ⟨gb163, 0, none⟩ = some (.int .i64 0) := kc BK163 0; have hcz236_1 : w231.cell? ⟨gb163, 1, none⟩ = some (.int .i64 0) := kc BK163 1; have hfz236_0 := blk_frozen BK163.out 0; have hfz236_1 := blk_frozen BK163.out 1))
    (try simp only [Act.put, List.setIfInBounds_toArray, List.set_cons_zero, List.set_cons_succ])
    go_cut [185] (fun v185 wc => ∃ (kq : Nat) (x185_229 : Bool), v185 = .bool x185_229 ∧ Aside0 (lR.j4 kq t108 t112 t128 t129 t149 x19_4 x185_229 t103 t104 t105 t106 t107 t147 t148 = some r) ∧ Aside0 (kq ≤ k4) ∧ Aside0 (Kd.R k74 74 wc w.heap.size (fun _ => True) (.slice (some ad162) t108.length co15) t108) ∧ Aside0 (Kd.R (Kd.int .i64) 3 wc w.heap.size (fun _ => True) (.slice (some ad161) t112.length co37) t112) ∧ Aside0 (wc.heap[gb101]? = some (.cells #[.int .u8 a0_0, .int .u8 a0_1, .int .u8 a0_2, .int .u8 a0_3, .int .u8 a0_4, (.slice A0_5 l0_5.length c0_5)] 66 (0, 0))) ∧ Aside0 (wc.heap[gb102]? = some (.cells #[.int .u8 a2_0, .int .u8 a2_1, .int .u8 a2_2, .int .u8 a2_3, .int .u8 a2_4, .int .u8 a2_5] 67 (0, 0))) ∧ Aside0 (wc.heap[gb111]? = some (.cells #[.int .i64 t103, .int .i64 t104, .int .i64 t105, .int .i64 t106, .int .i64 t107] 23 (0, 0))) ∧ Aside0 (wc.heap[gb150]? = some (.cells #[.int .i64 t147, .int .i64 t148] 36 (0, 0))) ∧ Aside0 (wc.heap[gb163]? = some (.cells #[.int .i64 ((rd_T74 t108 (rd t112 x19_4)).f3.f0), .int .i64 ((rd_T74 t108 (rd t112 x19_4)).f3.f1)] 36 (0, 0))) ∧ Aside0 (Below w.heap.size w wc))
    case first =>
     have H := HC230.out
     clear HC230
     by_cases c237 : t149 = 0
     ·rw [if_pos c237] at H
      have c237b0 : (t149 == 0) = true := beq_iff_eq.mpr c237
      have c237b1 : (t149 != 0) = false := bne_eq_false_iff_eq.mpr c237
      clear c237
      (first | rw [c237b0] | (simp only [i64_w, i32_w]; rw [c237b0]) | skip)
      by_cases c238 : t147 < ((rd_T74 t108 (rd t112 x19_4)).f3.f0)
      ·rw [if_pos c238] at H
       have c238b0 : decide (t147 < ((rd_T74 t108 (rd t112 x19_4)).f3.f0)) = true := decide_eq_true c238
       clear c238
       have H' := Aside0.mk H
       clear H
       have hnb239 := NB150_101.out
       have hnc239 := NB101_150.out
       have hnb240 := NB150_102.out
       have hnc240 := NB102_150.out
       have hnb241 := NB150_111.out
       have hnc241 := NB111_150.out
       have hnb242 := NB150_163.out
       have hnc242 := NB163_150.out
       have hcz243_0 : w231.cell? ⟨gb150, 0, none⟩ = some (.int .i64 t147) := kc BK150 0
       have hcz243_1 : w231.cell? ⟨gb150, 1, none⟩ = some (.int .i64 t148) := kc BK150 1
       have hfz243_0 := blk_frozen BK150.out 0
       have hfz243_1 := blk_frozen BK150.out 1
       have hnb244 := NB163_101.out
       have hnc244 := NB101_163.out
       have hnb245 := NB163_102.out
       have hnc245 := NB102_163.out
       have hnb246 := NB163_111.out
       have hnc246 := NB111_163.out
       have hcz247_0 : w231.cell? ⟨gb163, 0, none⟩ = some (.int .i64 0) := kc BK163 0
       have hcz247_1 : w231.cell? ⟨gb163, 1, none⟩ = some (.int .i64 0) := kc BK163 1
       have hfz247_0 := blk_frozen BK163.out 0
       have hfz247_1 := blk_frozen BK163.out 1
       go_wp2
       go_meet
       case rel => exact ⟨_, (true), (by first | rfl | (simp; done) | (simp [*]; done)), H', ⟨by have := HK1.out; have := HJ35.out; have := HJ132.out; have := HK4.out; first | omega | exact Nat.le_refl _⟩, ⟨by (with_reducible repeat (first | apply Kd.R_alloc | apply Kd.R_drewN | apply Kd.R_drew)); exact Kd.R_mono (Kd.R_far (p := ⟨gb163, 1, none⟩) (Kd.R_far (p := ⟨gb163, 0, none⟩) (Kd.R_types HO_8.out BK163.out (by decide)) (fun _ hk => hk.2) (.int .i64 ((rd_T74 t108 (rd t112 x19_4)).f3.f0))) (fun _ hk => hk.2) (.int .i64 ((rd_T74 t108 (rd t112 x19_4)).f3.f1))) (fun _ hk => trivial)⟩, ⟨by (with_reducible repeat (first | apply Kd.R_alloc | apply Kd.R_drewN | apply Kd.R_drew)); exact Kd.R_mono (Kd.R_far (p := ⟨gb163, 1, none⟩) (Kd.R_far (p := ⟨gb163, 0, none⟩) (Kd.R_types HO_9.out BK163.out (by decide)) (fun _ hk => hk.2) (.int .i64 ((rd_T74 t108 (rd t112 x19_4)).f3.f0))) (fun _ hk => hk.2) (.int .i64 ((rd_T74 t108 (rd t112 x19_4)).f3.f1))) (fun _ hk => trivial)⟩, ⟨by (with_reducible repeat (first | refine blk_drewN ?_ _ | refine blk_drew ?_ | refine blk_alloc ?_ _)); refine blk_far ?_ NB101_163.out _; (with_reducible repeat (first | refine blk_drewN ?_ _ | refine blk_drew ?_ | refine blk_alloc ?_ _)); refine blk_far ?_ NB101_163.out _; (with_reducible repeat (first | refine blk_drewN ?_ _ | refine blk_drew ?_ | refine blk_alloc ?_ _)); exact BK101.out⟩, ⟨by (with_reducible repeat (first | refine blk_drewN ?_ _ | refine blk_drew ?_ | refine blk_alloc ?_ _)); refine blk_far ?_ NB102_163.out _; (with_reducible repeat (first | refine blk_drewN ?_ _ | refine blk_drew ?_ | refine blk_alloc ?_ _)); refine blk_far ?_ NB102_163.out _; (with_reducible repeat (first | refine blk_drewN ?_ _ | refine blk_drew ?_ | refine blk_alloc ?_ _)); exact BK102.out⟩, ⟨by (with_reducible repeat (first | refine blk_drewN ?_ _ | refine blk_drew ?_ | refine blk_alloc ?_ _)); refine blk_far ?_ NB111_163.out _; (with_reducible repeat (first | refine blk_drewN ?_ _ | refine blk_drew ?_ | refine blk_alloc ?_ _)); refine blk_far ?_ NB111_163.out _; (with_reducible repeat (first | refine blk_drewN ?_ _ | refine blk_drew ?_ | refine blk_alloc ?_ _)); exact BK111.out⟩, ⟨by (with_reducible repeat (first | refine blk_drewN ?_ _ | refine blk_drew ?_ | refine blk_alloc ?_ _)); refine blk_far ?_ NB150_163.out _; (with_reducible repeat (first | refine blk_drewN ?_ _ | refine blk_drew ?_ | refine blk_alloc ?_ _)); refine blk_far ?_ NB150_163.out _; (with_reducible repeat (first | refine blk_drewN ?_ _ | refine blk_drew ?_ | refine blk_alloc ?_ _)); exact BK150.out⟩, ⟨by (with_reducible repeat (first | refine blk_drewN ?_ _ | refine blk_drew ?_ | refine blk_alloc ?_ _)); refine blk_put (cs := #[.int .i64 ((rd_T74 t108 (rd t112 x19_4)).f3.f0), .int .i64 0]) ?_ 1 _ rfl; (with_reducible repeat (first | refine blk_drewN ?_ _ | refine blk_drew ?_ | refine blk_alloc ?_ _)); refine blk_put (cs := #[.int .i64 0, .int .i64 0]) ?_ 0 _ rfl; (with_reducible repeat (first | refine blk_drewN ?_ _ | refine blk_drew ?_ | refine blk_alloc ?_ _)); exact BK163.out⟩, ⟨Bq HB⟩⟩
      rw [if_neg c238] at H
      have c238b0 : decide (t147 < ((rd_T74 t108 (rd t112 x19_4)).f3.f0)) = false := decide_eq_false c238
      clear c238
      have H' := Aside0.mk H
      clear H
      have hnb248 := NB150_101.out
      have hnc248 := NB101_150.out
      have hnb249 := NB150_102.out
      have hnc249 := NB102_150.out
      have hnb250 := NB150_111.out
      have hnc250 := NB111_150.out
      have hnb251 := NB150_163.out
      have hnc251 := NB163_150.out
      have hcz252_0 : w231.cell? ⟨gb150, 0, none⟩ = some (.int .i64 t147) := kc BK150 0
      have hcz252_1 : w231.cell? ⟨gb150, 1, none⟩ = some (.int .i64 t148) := kc BK150 1
      have hfz252_0 := blk_frozen BK150.out 0
      have hfz252_1 := blk_frozen BK150.out 1
      have hnb253 := NB163_101.out
      have hnc253 := NB101_163.out
      have hnb254 := NB163_102.out
      have hnc254 := NB102_163.out
      have hnb255 := NB163_111.out
      have hnc255 := NB111_163.out
      have hcz256_0 : w231.cell? ⟨gb163, 0, none⟩ = some (.int .i64 0) := kc BK163 0
      have hcz256_1 : w231.cell? ⟨gb163, 1, none⟩ = some (.int .i64 0) := kc BK163 1
      have hfz256_0 := blk_frozen BK163.out 0
      have hfz256_1 := blk_frozen BK163.out 1
      go_wp2
      go_meet
      case rel => exact ⟨_, (decide (t148 > ((rd_T74 t108 (rd t112 x19_4)).f3.f1))), (by first | rfl | (simp; done) | (simp [*]; done)), H', ⟨by have := HK1.out; have := HJ35.out; have := HJ132.out; have := HK4.out; first | omega | exact Nat.le_refl _⟩, ⟨by (with_reducible repeat (first | apply Kd.R_alloc | apply Kd.R_drewN | apply Kd.R_drew)); exact Kd.R_mono (Kd.R_far (p := ⟨gb163, 1, none⟩) (Kd.R_far (p := ⟨gb163, 0, none⟩) (Kd.R_types HO_8.out BK163.out (by decide)) (fun _ hk => hk.2) (.int .i64 ((rd_T74 t108 (rd t112 x19_4)).f3.f0))) (fun _ hk => hk.2) (.int .i64 ((rd_T74 t108 (rd t112 x19_4)).f3.f1))) (fun _ hk => trivial)⟩, ⟨by (with_reducible repeat (first | apply Kd.R_alloc | apply Kd.R_drewN | apply Kd.R_drew)); exact Kd.R_mono (Kd.R_far (p := ⟨gb163, 1, none⟩) (Kd.R_far (p := ⟨gb163, 0, none⟩) (Kd.R_types HO_9.out BK163.out (by decide)) (fun _ hk => hk.2) (.int .i64 ((rd_T74 t108 (rd t112 x19_4)).f3.f0))) (fun _ hk => hk.2) (.int .i64 ((rd_T74 t108 (rd t112 x19_4)).f3.f1))) (fun _ hk => trivial)⟩, ⟨by (with_reducible repeat (first | refine blk_drewN ?_ _ | refine blk_drew ?_ | refine blk_alloc ?_ _)); refine blk_far ?_ NB101_163.out _; (with_reducible repeat (first | refine blk_drewN ?_ _ | refine blk_drew ?_ | refine blk_alloc ?_ _)); refine blk_far ?_ NB101_163.out _; (with_reducible repeat (first | refine blk_drewN ?_ _ | refine blk_drew ?_ | refine blk_alloc ?_ _)); exact BK101.out⟩, ⟨by (with_reducible repeat (first | refine blk_drewN ?_ _ | refine blk_drew ?_ | refine blk_alloc ?_ _)); refine blk_far ?_ NB102_163.out _; (with_reducible repeat (first | refine blk_drewN ?_ _ | refine blk_drew ?_ | refine blk_alloc ?_ _)); refine blk_far ?_ NB102_163.out _; (with_reducible repeat (first | refine blk_drewN ?_ _ | refine blk_drew ?_ | refine blk_alloc ?_ _)); exact BK102.out⟩, ⟨by (with_reducible repeat (first | refine blk_drewN ?_ _ | refine blk_drew ?_ | refine blk_alloc ?_ _)); refine blk_far ?_ NB111_163.out _; (with_reducible repeat (first | refine blk_drewN ?_ _ | refine blk_drew ?_ | refine blk_alloc ?_ _)); refine blk_far ?_ NB111_163.out _; (with_reducible repeat (first | refine blk_drewN ?_ _ | refine blk_drew ?_ | refine blk_alloc ?_ _)); exact BK111.out⟩, ⟨by (with_reducible repeat (first | refine blk_drewN ?_ _ | refine blk_drew ?_ | refine blk_alloc ?_ _)); refine blk_far ?_ NB150_163.out _; (with_reducible repeat (first | refine blk_drewN ?_ _ | refine blk_drew ?_ | refine blk_alloc ?_ _)); refine blk_far ?_ NB150_163.out _; (with_reducible repeat (first | refine blk_drewN ?_ _ | refine blk_drew ?_ | refine blk_alloc ?_ _)); exact BK150.out⟩, ⟨by (with_reducible repeat (first | refine blk_drewN ?_ _ | refine blk_drew ?_ | refine blk_alloc ?_ _)); refine blk_put (cs := #[.int .i64 ((rd_T74 t108 (rd t112 x19_4)).f3.f0), .int .i64 0]) ?_ 1 _ rfl; (with_reducible repeat (first | refine blk_drewN ?_ _ | refine blk_drew ?_ | refine blk_alloc ?_ _)); refine blk_put (cs := #[.int .i64 0, .int .i64 0]) ?_ 0 _ rfl; (with_reducible repeat (first | refine blk_drewN ?_ _ | refine blk_drew ?_ | refine blk_alloc ?_ _)); exact BK163.out⟩, ⟨Bq HB⟩⟩
     rw [if_neg c237] at H
     have c237b0 : (t149 == 0) = false := beq_eq_false_iff_ne.mpr c237
     have c237b1 : (t149 != 0) = true := bne_iff_ne.mpr c237
     (first | rw [c237b0] | (simp only [i64_w, i32_w]; rw [c237b0]) | skip)
     have H' := Aside0.mk H
     clear H
     go_wp2
     go_meet
     case rel => exact ⟨_, (false), (by first | rfl | (simp; done) | (simp [*]; done)), H', ⟨by have := HK1.out; have := HJ35.out; have := HJ132.out; have := HK4.out; first | omega | exact Nat.le_refl _⟩, ⟨by (with_reducible repeat (first | apply Kd.R_alloc | apply Kd.R_drewN | apply Kd.R_drew)); exact Kd.R_mono (Kd.R_far (p := ⟨gb163, 1, none⟩) (Kd.R_far (p := ⟨gb163, 0, none⟩) (Kd.R_types HO_8.out BK163.out (by decide)) (fun _ hk => hk.2) (.int .i64 ((rd_T74 t108 (rd t112 x19_4)).f3.f0))) (fun _ hk => hk.2) (.int .i64 ((rd_T74 t108 (rd t112 x19_4)).f3.f1))) (fun _ hk => trivial)⟩, ⟨by (with_reducible repeat (first | apply Kd.R_alloc | apply Kd.R_drewN | apply Kd.R_drew)); exact Kd.R_mono (Kd.R_far (p := ⟨gb163, 1, none⟩) (Kd.R_far (p := ⟨gb163, 0, none⟩) (Kd.R_types HO_9.out BK163.out (by decide)) (fun _ hk => hk.2) (.int .i64 ((rd_T74 t108 (rd t112 x19_4)).f3.f0))) (fun _ hk => hk.2) (.int .i64 ((rd_T74 t108 (rd t112 x19_4)).f3.f1))) (fun _ hk => trivial)⟩, ⟨by (with_reducible repeat (first | refine blk_drewN ?_ _ | refine blk_drew ?_ | refine blk_alloc ?_ _)); refine blk_far ?_ NB101_163.out _; (with_reducible repeat (first | refine blk_drewN ?_ _ | refine blk_drew ?_ | refine blk_alloc ?_ _)); refine blk_far ?_ NB101_163.out _; (with_reducible repeat (first | refine blk_drewN ?_ _ | refine blk_drew ?_ | refine blk_alloc ?_ _)); exact BK101.out⟩, ⟨by (with_reducible repeat (first | refine blk_drewN ?_ _ | refine blk_drew ?_ | refine blk_alloc ?_ _)); refine blk_far ?_ NB102_163.out _; (with_reducible repeat (first | refine blk_drewN ?_ _ | refine blk_drew ?_ | refine blk_alloc ?_ _)); refine blk_far ?_ NB102_163.out _; (with_reducible repeat (first | refine blk_drewN ?_ _ | refine blk_drew ?_ | refine blk_alloc ?_ _)); exact BK102.out⟩, ⟨by (with_reducible repeat (first | refine blk_drewN ?_ _ | refine blk_drew ?_ | refine blk_alloc ?_ _)); refine blk_far ?_ NB111_163.out _; (with_reducible repeat (first | refine blk_drewN ?_ _ | refine blk_drew ?_ | refine blk_alloc ?_ _)); refine blk_far ?_ NB111_163.out _; (with_reducible repeat (first | refine blk_drewN ?_ _ | refine blk_drew ?_ | refine blk_alloc ?_ _)); exact BK111.out⟩, ⟨by (with_reducible repeat (first | refine blk_drewN ?_ _ | refine blk_drew ?_ | refine blk_alloc ?_ _)); refine blk_far ?_ NB150_163.out _; (with_reducible repeat (first | refine blk_drewN ?_ _ | refine blk_drew ?_ | refine blk_alloc ?_ _)); refine blk_far ?_ NB150_163.out _; (with_reducible repeat (first | refine blk_drewN ?_ _ | refine blk_drew ?_ | refine blk_alloc ?_ _)); exact BK150.out⟩, ⟨by (with_reducible repeat (first | refine blk_drewN ?_ _ | refine blk_drew ?_ | refine blk_alloc ?_ _)); refine blk_put (cs := #[.int .i64 ((rd_T74 t108 (rd t112 x19_4)).f3.f0), .int .i64 0]) ?_ 1 _ rfl; (with_reducible repeat (first | refine blk_drewN ?_ _ | refine blk_drew ?_ | refine blk_alloc ?_ _)); refine blk_put (cs := #[.int .i64 0, .int .i64 0]) ?_ 0 _ rfl; (with_reducible repeat (first | refine blk_drewN ?_ _ | refine blk_drew ?_ | refine blk_alloc ?_ _)); exact BK163.out⟩, ⟨Bq HB⟩⟩
    case rest => as_aux_lemma =>
     clear HC230
     try clear p161
     try clear q161
     try clear p162
     try clear q162
     try clear c226
     try clear c226b0
     try clear c227
     try clear c227b0
     try clear c228
     try clear c228b0
     try clear c229
     try clear c229b0
     try clear hcz236_0
     try clear hcz236_1
     try clear hfz236_0
     try clear hfz236_1
     try clear hx161_0
     try clear hx162_0
     try clear hx162_1
     try clear hx162_2
     try clear hx162_3
     try clear hx162_4
     try clear hx162_5
     obtain ⟨kq, x185_229, rfl, HA, HJ229, HO_8, HO_9, BK101, BK102, BK111, BK150, BK163, HB⟩ := hcut
     rcases kq with _ | kj229
     ·exact absurd HA.out (by simp [lR.j4])
     have H := HA.out
     clear HA
     simp only [lR.j4] at H
     by_cases c257 : x185_229 = true
     ·subst c257
      have H1 : (some false) = some r := by rw [if_pos rfl] at H; exact H
      clear H
      have H := H1
      clear H1
      obtain rfl := Option.some.inj H
      go_wp2
      go_ret
      exact ⟨by first | rfl | (simp [errW_none, errW_some] <;> rfl) | (simp [*, errW_none, errW_some] <;> rfl), Bq HB⟩
     replace c257 := Bool.eq_false_iff.mpr c257
     subst c257
     have H1 : ((smaltolaw03_own.f t108).bind fun t164 => (if 0 ≤ x19_4 then (if x19_4 ≤ (t112.length : Int) then ((smaltolaw03_ints.f (t112.take (x19_4 : Int).toNat)).bind fun t171 => (if 0 ≤ (wrap64 (x19_4 + 1)) then (if (wrap64 (x19_4 + 1)) ≤ (t112.length : Int) then ((some (t112.drop ((wrap64 (x19_4 + 1)) : Int).toNat : List Int)).bind fun y174 => (if t171.length + y174.length < 17592186044416 then ((goesC.f t103 t104 t105 t106 t107 t164 (t171 ++ y174)).bind fun bt181 => (if t128 = true then (if bt181.1 = true then (lR.l1 kj229 t108 t112 t128 t129 t149 (wrap64 (x19_4 + 1)) t103 t104 t105 t106 t107 t147 t148) else (some false)) else (lR.l1 kj229 t108 t112 t128 t129 t149 (wrap64 (x19_4 + 1)) t103 t104 t105 t106 t107 t147 t148))) else (none))) else (none)) else (none))) else (none)) else (none))) = some r := by rw [if_neg (show ¬ (false = true) by decide)] at H; exact H
     clear H
     have H := H1
     clear H1
     replace H := Option.bind_eq_some_iff.mp H
     obtain ⟨t164, A2580, H⟩ := H
     replace H : (if 0 ≤ x19_4 then (if x19_4 ≤ (t112.length : Int) then ((smaltolaw03_ints.f (t112.take (x19_4 : Int).toNat)).bind fun t171 => (if 0 ≤ (wrap64 (x19_4 + 1)) then (if (wrap64 (x19_4 + 1)) ≤ (t112.length : Int) then ((some (t112.drop ((wrap64 (x19_4 + 1)) : Int).toNat : List Int)).bind fun y174 => (if t171.length + y174.length < 17592186044416 then ((goesC.f t103 t104 t105 t106 t107 t164 (t171 ++ y174)).bind fun bt181 => (if t128 = true then (if bt181.1 = true then (lR.l1 kj229 t108 t112 t128 t129 t149 (wrap64 (x19_4 + 1)) t103 t104 t105 t106 t107 t147 t148) else (some false)) else (lR.l1 kj229 t108 t112 t128 t129 t149 (wrap64 (x19_4 + 1)) t103 t104 t105 t106 t107 t147 t148))) else (none))) else (none)) else (none))) else (none)) else (none)) = some r := H
     have A258 := Aside0.mk A2580
     clear A2580
     by_cases c259 : 0 ≤ x19_4
     ·rw [if_pos c259] at H
      have c259b0 := eq_true c259
      have c259b1 : decide (0 ≤ x19_4) = true := decide_eq_true c259
      clear c259
      by_cases c260 : x19_4 ≤ (t112.length : Int)
      ·rw [if_pos c260] at H
       have c260b0 := eq_true c260
       have c260b1 : decide (x19_4 ≤ (t112.length : Int)) = true := decide_eq_true c260
       clear c260
       obtain ⟨y167, hy167⟩ : ∃ y_ : List Int, y_ = (t112.take (x19_4 : Int).toNat) := ⟨_, rfl⟩
       replace H : ((smaltolaw03_ints.f y167).bind fun t171 => (if 0 ≤ (wrap64 (x19_4 + 1)) then (if (wrap64 (x19_4 + 1)) ≤ (t112.length : Int) then ((some (t112.drop ((wrap64 (x19_4 + 1)) : Int).toNat : List Int)).bind fun y174 => (if t171.length + y174.length < 17592186044416 then ((goesC.f t103 t104 t105 t106 t107 t164 (t171 ++ y174)).bind fun bt181 => (if t128 = true then (if bt181.1 = true then (lR.l1 kj229 t108 t112 t128 t129 t149 (wrap64 (x19_4 + 1)) t103 t104 t105 t106 t107 t147 t148) else (some false)) else (lR.l1 kj229 t108 t112 t128 t129 t149 (wrap64 (x19_4 + 1)) t103 t104 t105 t106 t107 t147 t148))) else (none))) else (none)) else (none))) = some r := by first | (rw [hy167]; with_reducible exact H) | (have H2_ := (Option.bind_some _ _).symm.trans H; rw [hy167]; with_reducible exact H2_) | (have H2_ := (Option.bind_some _ _).symm.trans H; with_reducible exact H2_) | with_reducible exact H | (rw [hy167]; exact H) | exact H
       have Ny167 := Aside0.mk hy167
       clear hy167
       replace H := Option.bind_eq_some_iff.mp H
       obtain ⟨t171, A2610, H⟩ := H
       replace H : (if 0 ≤ (wrap64 (x19_4 + 1)) then (if (wrap64 (x19_4 + 1)) ≤ (t112.length : Int) then ((some (t112.drop ((wrap64 (x19_4 + 1)) : Int).toNat : List Int)).bind fun y174 => (if t171.length + y174.length < 17592186044416 then ((goesC.f t103 t104 t105 t106 t107 t164 (t171 ++ y174)).bind fun bt181 => (if t128 = true then (if bt181.1 = true then (lR.l1 kj229 t108 t112 t128 t129 t149 (wrap64 (x19_4 + 1)) t103 t104 t105 t106 t107 t147 t148) else (some false)) else (lR.l1 kj229 t108 t112 t128 t129 t149 (wrap64 (x19_4 + 1)) t103 t104 t105 t106 t107 t147 t148))) else (none))) else (none)) else (none)) = some r := H
       have A261 := Aside0.mk A2610
       clear A2610
       obtain ⟨ji262, hji262⟩ : ∃ j_ : Int, (wrap64 (x19_4 + 1)) = j_ := ⟨_, rfl⟩
       replace H : (if 0 ≤ (ji262) then (if (ji262) ≤ (t112.length : Int) then ((some (t112.drop ((ji262) : Int).toNat : List Int)).bind fun y174 => (if t171.length + y174.length < 17592186044416 then ((goesC.f t103 t104 t105 t106 t107 t164 (t171 ++ y174)).bind fun bt181 => (if t128 = true then (if bt181.1 = true then (lR.l1 kj229 t108 t112 t128 t129 t149 ji262 t103 t104 t105 t106 t107 t147 t148) else (some false)) else (lR.l1 kj229 t108 t112 t128 t129 t149 ji262 t103 t104 t105 t106 t107 t147 t148))) else (none))) else (none)) else (none)) = some r := by first | (rw [hji262] at H; exact H) | (simp only [hji262] at H ⊢; exact H)
       (try rw [hji262] at A258)
       (try rw [hji262] at A261)
       have hji262w : (IntKind.i64.wrap (x19_4 + 1)) = ji262 := (i64_w _).trans hji262
       by_cases c263 : 0 ≤ (ji262)
       ·rw [if_pos c263] at H
        have c263b0 := eq_true c263
        have c263b1 : decide (0 ≤ (ji262)) = true := decide_eq_true c263
        clear c263
        by_cases c264 : (ji262) ≤ (t112.length : Int)
        ·rw [if_pos c264] at H
         have c264b0 := eq_true c264
         have c264b1 : decide ((ji262) ≤ (t112.length : Int)) = true := decide_eq_true c264
         clear c264
         obtain ⟨y174, hy174⟩ : ∃ y_ : List Int, y_ = (t112.drop ((ji262) : Int).toNat) := ⟨_, rfl⟩
         replace H : (if t171.length + y174.length < 17592186044416 then ((goesC.f t103 t104 t105 t106 t107 t164 (t171 ++ y174)).bind fun bt181 => (if t128 = true then (if bt181.1 = true then (lR.l1 kj229 t108 t112 t128 t129 t149 ji262 t103 t104 t105 t106 t107 t147 t148) else (some false)) else (lR.l1 kj229 t108 t112 t128 t129 t149 ji262 t103 t104 t105 t106 t107 t147 t148))) else (none)) = some r := by first | (rw [hy174]; with_reducible exact H) | (have H2_ := (Option.bind_some _ _).symm.trans H; rw [hy174]; with_reducible exact H2_) | (have H2_ := (Option.bind_some _ _).symm.trans H; with_reducible exact H2_) | with_reducible exact H | (rw [hy174]; exact H) | exact H
         have Ny174 := Aside0.mk hy174
         clear hy174
         by_cases c265 : t171.length + y174.length < 17592186044416
         ·rw [if_pos c265] at H
          have LMc265 := Aside0.mk c265
          clear c265
          obtain ⟨y178, hy178⟩ : ∃ y_ : List Int, y_ = (t171 ++ y174) := ⟨_, rfl⟩
          replace H : ((goesC.f t103 t104 t105 t106 t107 t164 y178).bind fun bt181 => (if t128 = true then (if bt181.1 = true then (lR.l1 kj229 t108 t112 t128 t129 t149 ji262 t103 t104 t105 t106 t107 t147 t148) else (some false)) else (lR.l1 kj229 t108 t112 t128 t129 t149 ji262 t103 t104 t105 t106 t107 t147 t148))) = some r := by first | (rw [hy178]; with_reducible exact H) | (have H2_ := (Option.bind_some _ _).symm.trans H; rw [hy178]; with_reducible exact H2_) | (have H2_ := (Option.bind_some _ _).symm.trans H; with_reducible exact H2_) | with_reducible exact H | (rw [hy178]; exact H) | exact H
          have Ny178 := Aside0.mk hy178
          clear hy178
          replace H := Option.bind_eq_some_iff.mp H
          obtain ⟨⟨t181, t182⟩, A2660, H⟩ := H
          replace H : (if t128 = true then (if t181 = true then (lR.l1 kj229 t108 t112 t128 t129 t149 ji262 t103 t104 t105 t106 t107 t147 t148) else (some false)) else (lR.l1 kj229 t108 t112 t128 t129 t149 ji262 t103 t104 t105 t106 t107 t147 t148)) = some r := H
          have A266 := Aside0.mk A2660
          clear A2660
          by_cases c267 : t128 = true
          ·subst c267
           have H1 : (if t181 = true then (lR.l1 kj229 t108 t112 true t129 t149 ji262 t103 t104 t105 t106 t107 t147 t148) else (some false)) = some r := by rw [if_pos rfl] at H; exact H
           clear H
           have H := H1
           clear H1
           by_cases c268 : t181 = true
           ·subst c268
            have H1 : (lR.l1 kj229 t108 t112 true t129 t149 ji262 t103 t104 t105 t106 t107 t147 t148) = some r := by rw [if_pos rfl] at H; exact H
            clear H
            have H := H1
            clear H1
            have H' := Aside0.mk H
            clear H
            try go_wp2
            have n0_ := Aside0.mk (Kd.R_drew HO_8.out)
            have n1_ := Aside0.mk (Kd.R_drew HO_9.out)
            have n2_ := Aside0.mk (blk_drew BK101.out)
            have n3_ := Aside0.mk (blk_drew BK102.out)
            have n4_ := Aside0.mk (blk_drew BK111.out)
            have n5_ := Aside0.mk (blk_drew BK150.out)
            have n6_ := Aside0.mk (blk_drew BK163.out)
            have n7_ := Aside0.mk (below_drew1 HB.out)
            clear HO_8
            clear HO_9
            clear BK101
            clear BK102
            clear BK111
            clear BK150
            clear BK163
            clear HB
            have HO_8 := n0_
            have HO_9 := n1_
            have BK101 := n2_
            have BK102 := n3_
            have BK111 := n4_
            have BK150 := n5_
            have BK163 := n6_
            have HB := n7_
            clear n0_ n1_ n2_ n3_ n4_ n5_ n6_ n7_
            have q270 : (x19_4 : Int) ≤ ((t112.length : Int) : Int) := of_decide_eq_true (by first | (with_reducible assumption) | assumption)
            obtain ⟨i0270, hi0270, _, hsz270, _⟩ := info_parts info3
            have hroom270 : t112.length ≤ co37 := (Kd.R_reads' HO_9.out).2.1
            have hC270 : Kd.C (Kd.int .i64) _ (some ad161) t112.length t112 := (Kd.R_reads' HO_9.out).2.2
            have hcut270 := cut_to (P := Tryd.prog) 25 3 .i64 Tryd.underlying25 hi0270 (some ad161) t112.length co37 x19_4 (of_decide_eq_true (by first | (with_reducible assumption) | assumption)) q270 hroom270
            have hr270 := Kd.C_take (m := (x19_4 : Int).toNat) hC270 (by omega)
            have hy270 : y167.length = (x19_4 : Int).toNat := (by rw [Ny167.out, List.length_take]; omega)
            rw [← Ny167.out] at hr270
            rw [← hy270] at hcut270
            have HR170 := Aside0.mk hr270
            have HC170 := Aside0.mk (show y167.length ≤ co37 from by omega)
            clear hr270 hC270 hroom270 hi0270 hsz270
            have KY270 := Aside0.mk hy270
            clear hy270
            have KL270 := Aside0.mk (show (x19_4 : Int).toNat ≤ t112.length from by omega)
            replace q270 := eq_true q270
            have q271 : ((ji262) : Int) ≤ ((t112.length : Int) : Int) := of_decide_eq_true (by first | (with_reducible assumption) | assumption)
            obtain ⟨i0271, hi0271, _, hsz271, _⟩ := info_parts info3
            have hroom271 : t112.length ≤ co37 := (Kd.R_reads' HO_9.out).2.1
            have hC271 : Kd.C (Kd.int .i64) _ (some ad161) t112.length t112 := (Kd.R_reads' HO_9.out).2.2
            have q0271 : (0 : Int) ≤ ((ji262) : Int) := of_decide_eq_true (by first | (with_reducible assumption) | assumption)
            have hcut271 := cut_from (P := Tryd.prog) 25 3 .i64 Tryd.underlying25 hi0271 1 hsz271 (some ad161) t112.length co37 (ji262) q0271 q271
            have hr271 := Kd.C_drop (m := ((ji262) : Int).toNat) (c := co37) hC271 (by omega) hroom271
            obtain ⟨A271, hA271⟩ : ∃ A1, A1 = (if co37 = ((ji262) : Int).toNat then (some ad161) else ((some ad161) : Option Addr).map (·.add (((ji262) : Int).toNat * 1))) := ⟨_, rfl⟩
            obtain ⟨c271, hc271⟩ : ∃ c1, c1 = co37 - ((ji262) : Int).toNat := ⟨_, rfl⟩
            have hy271 : y174.length = t112.length - ((ji262) : Int).toNat := (by rw [Ny174.out, List.length_drop] <;> omega)
            rw [show (t112).drop ((ji262) : Int).toNat = y174 from Ny174.out.symm] at hr271
            replace hr271 : Kd.C (Kd.int .i64) _ A271 y174.length y174 := (by rw [hA271]; exact hr271)
            rw [← hy271, ← hA271, ← hc271] at hcut271
            have HR177 := Aside0.mk hr271
            have HC177 := Aside0.mk (show y174.length ≤ c271 from by rw [hy271, hc271]; exact Nat.sub_le_sub_right hroom271 _)
            clear hr271 hC271 hroom271 hi0271 hsz271 hc271
            have KY271 := Aside0.mk hy271
            have KA271 := Aside0.mk hA271
            clear hy271 hA271
            have KL271 := Aside0.mk (show ((ji262) : Int).toNat ≤ t112.length from by omega)
            replace q271 := eq_true q271
            refine start_ (n := 20) (S := fun w' => w'.cell? ⟨gb111, 0, none⟩ = some (.int .i64 t103) ∧ w'.cell? ⟨gb111, 1, none⟩ = some (.int .i64 t104) ∧ w'.cell? ⟨gb111, 2, none⟩ = some (.int .i64 t105) ∧ w'.cell? ⟨gb111, 3, none⟩ = some (.int .i64 t106) ∧ w'.cell? ⟨gb111, 4, none⟩ = some (.int .i64 t107)) (ds := []) (bl 20 0) (by kernel_rfl) rfl rfl ⟨kc BK111 0, kc BK111 1, kc BK111 2, kc BK111 3, kc BK111 4⟩ (fun hHeld => ?_); refine with_tabW lR.tab20 lR.bits20 (fun HT_ HW_ => ?_)
            generalize wc.drew = w269 at HO_8 HO_9 BK101 BK102 BK111 BK150 BK163 HB HR170 HR177 hHeld ⊢
            refine pS 1 188 20 2 HT_ ?_
            refine pS 3 190 20 10 HT_ ?_
            refine pS 4 191 20 26 HT_ ?_
            refine pS 5 192 20 58 HT_ ?_
            refine pS 7 194 20 186 HT_ ?_
            refine pS 8 195 20 442 HT_ ?_
            refine pS 9 196 20 954 HT_ ?_
            refine pS 10 197 20 1978 HT_ ?_
            refine tq 0 (some 187) (bl 20 1979) HT_ HW_ hHeld (h := ?_)
            refine one_ (i := 2) (N := some 189) (bl 20 1983) rfl rfl (one_of HT_.out (by kernel_rfl)) (by decide) (fun K hK => ?_)
            refine goes_ Tryd.func43 (by kernel_rfl) rfl #[.slice (some ad162) t108.length co15] (by rfl) rfl rfl (by (try simp only [List.map_toArray, List.map_cons, List.map_nil]); first | done | rfl | (simp only [List.length_drop, List.length_take]; rfl)) ?_
            with_reducible refine (smaltolaw03_own.calls _ _ t108 t164 _ ?side1 ?side2 A258.out).mono ?_
            (case side1 => exact rC HO_8)
            (case side2 => exact (Kd.R_reads' HO_8.out).2.1)
            rintro e w272 ⟨v165, rfl, ho0, hb⟩
            refine ⟨_, rfl, ?_⟩
            have n0_ := Aside0.mk (Kd.R_elder' (R_ HO_8) (Kd.R_base ho0) hb)
            have n1_ := RB HO_9 hb
            have n2_ := Aside0.mk (Kd.R_lower (Kd.R_new' ho0 (Kd.R_lt (R_ HO_8))) (below_size (Bq HB)))
            have n3_ := bb BK101 hb
            have n4_ := bb BK102 hb
            have n5_ := bb BK111 hb
            have n6_ := bb BK150 hb
            have n7_ := Aside0.mk (blk_below (g := gb163) (o := .cells #[.int .i64 ((rd_T74 t108 (rd t112 x19_4)).f3.f0), .int .i64 ((rd_T74 t108 (rd t112 x19_4)).f3.f1)] 36 (0, 0)) (b_ BK163) hb)
            have n8_ := Aside0.mk (Kd.C_below (by repeat (first | (with_reducible exact HR170.out) | (with_reducible refine Kd.C_alloc ?_ _) | (with_reducible refine Kd.C_drewN ?_ _) | (with_reducible refine Kd.C_drew ?_) | exact HR170.out)) hb)
            have n9_ := Aside0.mk (Kd.C_below (by repeat (first | (with_reducible exact HR177.out) | (with_reducible refine Kd.C_alloc ?_ _) | (with_reducible refine Kd.C_drewN ?_ _) | (with_reducible refine Kd.C_drew ?_) | exact HR177.out)) hb)
            have n10_ := Aside0.mk (below_step (Bq HB) hb)
            clear HO_8
            clear HO_9
            clear BK101
            clear BK102
            clear BK111
            clear BK150
            clear BK163
            clear HR170
            clear HR177
            clear HB
            have HO_8 := n0_
            have HO_9 := n1_
            have HO166 := n2_
            have BK101 := n3_
            have BK102 := n4_
            have BK111 := n5_
            have BK150 := n6_
            have BK163 := n7_
            have HR170 := n8_
            have HR177 := n9_
            have HB := n10_
            clear n0_ n1_ n2_ n3_ n4_ n5_ n6_ n7_ n8_ n9_ n10_
            (try clear hb)
            (try clear hb2)
            (try clear hk)
            (try clear hi)
            (try clear ho0)
            refine hK.out _ _ ⟨kc BK111 0, kc BK111 1, kc BK111 2, kc BK111 3, kc BK111 4⟩ (fun hHeld => ?_)
            clear hK K
            refine nq 189 ?_
            refine one_ (i := 6) (N := some 193) (bl 20 2047) rfl rfl (one_of HT_.out (by kernel_rfl)) (by decide) (fun K hK => ?_)
            refine goes_ Tryd.func15 (by kernel_rfl) rfl #[.slice (some ad161) y167.length co37] (by rfl) rfl rfl (by (try simp only [List.map_toArray, List.map_cons, List.map_nil]); first | done | rfl | (simp only [List.length_drop, List.length_take]; rfl)) ?_
            with_reducible refine (smaltolaw03_ints.calls _ _ y167 t171 _ ?side1 ?side2 A261.out).mono ?_
            (case side1 => repeat (first | exact (by repeat (first | (with_reducible exact HR170.out) | (with_reducible refine Kd.C_alloc ?_ _) | (with_reducible refine Kd.C_drewN ?_ _) | (with_reducible refine Kd.C_drew ?_) | exact HR170.out)) | (with_reducible refine Kd.C_alloc ?_ _) | (with_reducible refine Kd.C_drewN ?_ _) | (with_reducible refine Kd.C_drew ?_)))
            (case side2 => exact HC170.out)
            rintro e w273 ⟨v172, rfl, ho0, hb⟩
            refine ⟨_, rfl, ?_⟩
            have n0_ := RB HO_8 hb
            have n1_ := Aside0.mk (Kd.R_elder' (R_ HO_9) (Kd.R_base ho0) hb)
            have n2_ := RB HO166 hb
            have n3_ := Aside0.mk (Kd.R_lower (Kd.R_new' ho0 (Kd.R_lt (R_ HO_9))) (below_size (Bq HB)))
            have n4_ := bb BK101 hb
            have n5_ := bb BK102 hb
            have n6_ := bb BK111 hb
            have n7_ := bb BK150 hb
            have n8_ := Aside0.mk (blk_below (g := gb163) (o := .cells #[.int .i64 ((rd_T74 t108 (rd t112 x19_4)).f3.f0), .int .i64 ((rd_T74 t108 (rd t112 x19_4)).f3.f1)] 36 (0, 0)) (b_ BK163) hb)
            have n9_ := Aside0.mk (Kd.C_below (by repeat (first | (with_reducible exact HR170.out) | (with_reducible refine Kd.C_alloc ?_ _) | (with_reducible refine Kd.C_drewN ?_ _) | (with_reducible refine Kd.C_drew ?_) | exact HR170.out)) hb)
            have n10_ := Aside0.mk (Kd.C_below (by repeat (first | (with_reducible exact HR177.out) | (with_reducible refine Kd.C_alloc ?_ _) | (with_reducible refine Kd.C_drewN ?_ _) | (with_reducible refine Kd.C_drew ?_) | exact HR177.out)) hb)
            have n11_ := Aside0.mk (below_step (Bq HB) hb)
            clear HO_8
            clear HO_9
            clear HO166
            clear BK101
            clear BK102
            clear BK111
            clear BK150
            clear BK163
            clear HR170
            clear HR177
            clear HB
            have HO_8 := n0_
            have HO_9 := n1_
            have HO166 := n2_
            have HO173 := n3_
            have BK101 := n4_
            have BK102 := n5_
            have BK111 := n6_
            have BK150 := n7_
            have BK163 := n8_
            have HR170 := n9_
            have HR177 := n10_
            have HB := n11_
            clear n0_ n1_ n2_ n3_ n4_ n5_ n6_ n7_ n8_ n9_ n10_ n11_
            (try clear hb)
            (try clear hb2)
            (try clear hk)
            (try clear hi)
            (try clear ho0)
            refine hK.out _ _ ⟨kc BK111 0, kc BK111 1, kc BK111 2, kc BK111 3, kc BK111 4⟩ (fun hHeld => ?_)
            clear hK K
            refine nq 193 ?_
            refine one_ (i := 11) (N := some 198) (bl 20 4095) rfl rfl (one_of HT_.out (by kernel_rfl)) (by decide) (fun K hK => ?_)
            refine Kd.R_append_rows_step (Kd.int .i64) (w0 := w) w.heap.size (by rfl) (.tmp 193) (.tmp 197) 25 3 (.int .i64 0) 8 rfl Tryd.underlying25 info3 rfl (by decide) (by omega) v172 t171 y174 _ _ _ (fun k_ => some k_ ≠ (.slice (some ad161) t112.length co37 : Value).ownBlock) (fun _ => False) rfl rfl ?aO ?aR (fun _ _ h => h) (fun _ h => h.elim) ?aF ?aB ?aS ?aL ?_
            (case aR => repeat (first | exact (by repeat (first | (with_reducible exact HR177.out) | (with_reducible refine Kd.C_alloc ?_ _) | (with_reducible refine Kd.C_drewN ?_ _) | (with_reducible refine Kd.C_drew ?_) | exact HR177.out)) | (with_reducible refine Kd.C_alloc ?_ _) | (with_reducible refine Kd.C_drewN ?_ _) | (with_reducible refine Kd.C_drew ?_)))
            (case aB => exact (Bq HB))
            (case aF => exact (fun k_ hk => Kd.fresh' (Kd.R_lt (R_ HO_9)) k_ hk))
            (case aO => exact (Kd.R_mono (R_ HO173) (fun _ hk => hk.2)))
            (case aS => exact (below_size (Bq HB)))
            (case aL => have := LMc265.out; omega)
            intro v179 w274 ho hb hg hat
            rw [← Ny178.out] at ho
            have n0_ := Aside0.mk (Kd.R_over' (R_ HO_8) (Kd.R_typed (R_ HO173)) (by decide) hg)
            have n1_ := Aside0.mk (Kd.R_after (ok := (fun _ => True)) (R_ HO_9) hg hat)
            have n2_ := Aside0.mk (blk_grown (g := gb101) (o := .cells #[.int .u8 a0_0, .int .u8 a0_1, .int .u8 a0_2, .int .u8 a0_3, .int .u8 a0_4, .slice A0_5 l0_5.length c0_5] 66 (0, 0)) (b_ BK101) hg (Kd.R_ne HO173.out BK101.out (by decide)))
            have n3_ := Aside0.mk (blk_grown (g := gb102) (o := .cells #[.int .u8 a2_0, .int .u8 a2_1, .int .u8 a2_2, .int .u8 a2_3, .int .u8 a2_4, .int .u8 a2_5] 67 (0, 0)) (b_ BK102) hg (Kd.R_ne HO173.out BK102.out (by decide)))
            have n4_ := Aside0.mk (blk_grown (g := gb111) (o := .cells #[.int .i64 t103, .int .i64 t104, .int .i64 t105, .int .i64 t106, .int .i64 t107] 23 (0, 0)) (b_ BK111) hg (Kd.R_ne HO173.out BK111.out (by decide)))
            have n5_ := Aside0.mk (blk_grown (g := gb150) (o := .cells #[.int .i64 t147, .int .i64 t148] 36 (0, 0)) (b_ BK150) hg (Kd.R_ne HO173.out BK150.out (by decide)))
            have n6_ := Aside0.mk (blk_grown (g := gb163) (o := .cells #[.int .i64 ((rd_T74 t108 (rd t112 x19_4)).f3.f0), .int .i64 ((rd_T74 t108 (rd t112 x19_4)).f3.f1)] 36 (0, 0)) (b_ BK163) hg (Kd.R_ne HO173.out BK163.out (by decide)))
            have n7_ := Aside0.mk (Kd.R_over' (R_ HO166) (Kd.R_typed (R_ HO173)) (by decide) hg)
            have n8_ := Aside0.mk (hb)
            have n9_ := Aside0.mk ((show Kd.C (Kd.int .i64) w274 (some ad161) y167.length y167 from by rw [Ny167.out]; exact Kd.C_take (m := (x19_4 : Int).toNat) ((Kd.R_reads' (Kd.R_after (ok := (fun _ => True)) (R_ HO_9) hg hat)).2.2) KL270.out))
            have n10_ := Aside0.mk ((show Kd.C (Kd.int .i64) w274 A271 y174.length y174 from by rw [Ny174.out, KA271.out]; exact Kd.C_drop (m := ((ji262) : Int).toNat) (c := co37) ((Kd.R_reads' (Kd.R_after (ok := (fun _ => True)) (R_ HO_9) hg hat)).2.2) KL271.out ((Kd.R_reads' (Kd.R_after (ok := (fun _ => True)) (R_ HO_9) hg hat)).2.1)))
            have n11_ := Aside0.mk (ho)
            clear HO_8
            clear HO_9
            clear BK101
            clear BK102
            clear BK111
            clear BK150
            clear BK163
            clear HO166
            clear HB
            clear HR170
            clear HR177
            clear HO173
            have HO_8 := n0_
            have HO_9 := n1_
            have BK101 := n2_
            have BK102 := n3_
            have BK111 := n4_
            have BK150 := n5_
            have BK163 := n6_
            have HO166 := n7_
            have HB := n8_
            have HR170 := n9_
            have HR177 := n10_
            have HO180 := n11_
            clear n0_ n1_ n2_ n3_ n4_ n5_ n6_ n7_ n8_ n9_ n10_ n11_
            clear ho hb hg hat
            obtain ⟨Ao275, co275, eo275⟩ := Kd.R_slice HO166.out
            (first | subst eo275 | (injection eo275 with f1_ f2_ f3_; have f4_ := f1_.symm; have f5_ := f3_.symm; clear f1_ f2_ f3_; subst f4_; subst f5_))
            obtain ⟨Ao276, co276, eo276⟩ := Kd.R_slice HO180.out
            (first | subst eo276 | (injection eo276 with f1_ f2_ f3_; have f4_ := f1_.symm; have f5_ := f3_.symm; clear f1_ f2_ f3_; subst f4_; subst f5_))
            refine hK.out _ _ ⟨kc BK111 0, kc BK111 1, kc BK111 2, kc BK111 3, kc BK111 4⟩ (fun hHeld => ?_)
            clear hK K
            refine nq 198 ?_
            refine one_ (i := 12) (N := some 199) (bl 20 8191) rfl rfl (one_of HT_.out (by kernel_rfl)) (by decide) (fun K hK => ?_)
            refine goes_ Tryd.func17 (by kernel_rfl) rfl #[.agg #[.int .i64 t103, .int .i64 t104, .int .i64 t105, .int .i64 t106, .int .i64 t107], .slice Ao275 t164.length co275, .slice Ao276 y178.length co276] (by rfl) rfl rfl (by (try simp only [List.map_toArray, List.map_cons, List.map_nil]); first | done | rfl | (simp only [List.length_drop, List.length_take]; rfl)) ?_
            with_reducible refine (goesC.calls t103 t104 t105 t106 t107 _ _ t164 _ _ y178 true t182 _ ?side5 ?side1 ?side2 ?side3 ?side4 A266.out).mono ?_
            (case side1 => exact rC HO166)
            (case side2 => exact (Kd.R_reads' HO166.out).2.1)
            (case side3 => exact rC HO180)
            (case side4 => exact (Kd.R_reads' HO180.out).2.1)
            (case side5 => exact Hand.TabW.below HTAB.out (Bq HB))
            rintro e w277 ⟨rfl, hb⟩
            refine ⟨_, rfl, ?_⟩
            have n0_ := RB HO_8 hb
            have n1_ := RB HO_9 hb
            have n2_ := RB HO166 hb
            have n3_ := RB HO180 hb
            have n4_ := bb BK101 hb
            have n5_ := bb BK102 hb
            have n6_ := bb BK111 hb
            have n7_ := bb BK150 hb
            have n8_ := Aside0.mk (blk_below (g := gb163) (o := .cells #[.int .i64 ((rd_T74 t108 (rd t112 x19_4)).f3.f0), .int .i64 ((rd_T74 t108 (rd t112 x19_4)).f3.f1)] 36 (0, 0)) (b_ BK163) hb)
            have n9_ := Aside0.mk (Kd.C_below (by repeat (first | (with_reducible exact HR170.out) | (with_reducible refine Kd.C_alloc ?_ _) | (with_reducible refine Kd.C_drewN ?_ _) | (with_reducible refine Kd.C_drew ?_) | exact HR170.out)) hb)
            have n10_ := Aside0.mk (Kd.C_below (by repeat (first | (with_reducible exact HR177.out) | (with_reducible refine Kd.C_alloc ?_ _) | (with_reducible refine Kd.C_drewN ?_ _) | (with_reducible refine Kd.C_drew ?_) | exact HR177.out)) hb)
            have n11_ := Aside0.mk (below_step (Bq HB) hb)
            clear HO_8
            clear HO_9
            clear HO166
            clear HO180
            clear BK101
            clear BK102
            clear BK111
            clear BK150
            clear BK163
            clear HR170
            clear HR177
            clear HB
            have HO_8 := n0_
            have HO_9 := n1_
            have HO166 := n2_
            have HO180 := n3_
            have BK101 := n4_
            have BK102 := n5_
            have BK111 := n6_
            have BK150 := n7_
            have BK163 := n8_
            have HR170 := n9_
            have HR177 := n10_
            have HB := n11_
            clear n0_ n1_ n2_ n3_ n4_ n5_ n6_ n7_ n8_ n9_ n10_ n11_
            (try clear hb)
            (try clear hb2)
            (try clear hk)
            (try clear hi)
            refine hK.out _ _ ⟨kc BK111 0, kc BK111 1, kc BK111 2, kc BK111 3, kc BK111 4⟩ (fun hHeld => ?_)
            clear hK K
            refine nq 199 ?_
            refine pS 13 186 20 16383 HT_ ?_
            refine pS 14 200 20 32767 HT_ ?_
            refine pS 15 201 20 65535 HT_ ?_
            refine pS 16 202 20 131071 HT_ ?_
            refine pS 17 21 20 262143 HT_ ?_
            refine pS 18 22 20 524287 HT_ ?_
            refine pS 19 23 20 1048575 HT_ ?_
            refine done_ (done_of HT_.out (by kernel_rfl)) ?_
            try go_wp2
            go_roundg kj229
            case measure => have := HK1.out; have := HJ35.out; have := HJ132.out; have := HK4.out; have := HJ229.out; omega
            case rel => exact ⟨(ji262), (by first | rfl | (simp; done) | (simp only [← hji262] <;> (first | rfl | simp)) | (simp [*]; done)), H', ⟨by have := HK1.out; have := HJ35.out; have := HJ132.out; have := HK4.out; have := HJ229.out; omega⟩, ⟨Kd.R_mono (R_ HO_8) (fun _ hk => trivial)⟩, ⟨Kd.R_mono (R_ HO_9) (fun _ hk => trivial)⟩, ⟨b_ BK101⟩, ⟨b_ BK102⟩, ⟨b_ BK111⟩, ⟨b_ BK150⟩, ⟨Bq HB⟩⟩
           replace c268 := Bool.eq_false_iff.mpr c268
           subst c268
           have H1 : (some false) = some r := by rw [if_neg (show ¬ (false = true) by decide)] at H; exact H
           clear H
           have H := H1
           clear H1
           obtain rfl := Option.some.inj H
           try go_wp2
           have n0_ := Aside0.mk (Kd.R_drew HO_8.out)
           have n1_ := Aside0.mk (Kd.R_drew HO_9.out)
           have n2_ := Aside0.mk (blk_drew BK101.out)
           have n3_ := Aside0.mk (blk_drew BK102.out)
           have n4_ := Aside0.mk (blk_drew BK111.out)
           have n5_ := Aside0.mk (blk_drew BK150.out)
           have n6_ := Aside0.mk (blk_drew BK163.out)
           have n7_ := Aside0.mk (below_drew1 HB.out)
           clear HO_8
           clear HO_9
           clear BK101
           clear BK102
           clear BK111
           clear BK150
           clear BK163
           clear HB
           have HO_8 := n0_
           have HO_9 := n1_
           have BK101 := n2_
           have BK102 := n3_
           have BK111 := n4_
           have BK150 := n5_
           have BK163 := n6_
           have HB := n7_
           clear n0_ n1_ n2_ n3_ n4_ n5_ n6_ n7_
           have q279 : (x19_4 : Int) ≤ ((t112.length : Int) : Int) := of_decide_eq_true (by first | (with_reducible assumption) | assumption)
           obtain ⟨i0279, hi0279, _, hsz279, _⟩ := info_parts info3
           have hroom279 : t112.length ≤ co37 := (Kd.R_reads' HO_9.out).2.1
           have hC279 : Kd.C (Kd.int .i64) _ (some ad161) t112.length t112 := (Kd.R_reads' HO_9.out).2.2
           have hcut279 := cut_to (P := Tryd.prog) 25 3 .i64 Tryd.underlying25 hi0279 (some ad161) t112.length co37 x19_4 (of_decide_eq_true (by first | (with_reducible assumption) | assumption)) q279 hroom279
           have hr279 := Kd.C_take (m := (x19_4 : Int).toNat) hC279 (by omega)
           have hy279 : y167.length = (x19_4 : Int).toNat := (by rw [Ny167.out, List.length_take]; omega)
           rw [← Ny167.out] at hr279
           rw [← hy279] at hcut279
           have HR170 := Aside0.mk hr279
           have HC170 := Aside0.mk (show y167.length ≤ co37 from by omega)
           clear hr279 hC279 hroom279 hi0279 hsz279
           have KY279 := Aside0.mk hy279
           clear hy279
           have KL279 := Aside0.mk (show (x19_4 : Int).toNat ≤ t112.length from by omega)
           replace q279 := eq_true q279
           have q280 : ((ji262) : Int) ≤ ((t112.length : Int) : Int) := of_decide_eq_true (by first | (with_reducible assumption) | assumption)
           obtain ⟨i0280, hi0280, _, hsz280, _⟩ := info_parts info3
           have hroom280 : t112.length ≤ co37 := (Kd.R_reads' HO_9.out).2.1
           have hC280 : Kd.C (Kd.int .i64) _ (some ad161) t112.length t112 := (Kd.R_reads' HO_9.out).2.2
           have q0280 : (0 : Int) ≤ ((ji262) : Int) := of_decide_eq_true (by first | (with_reducible assumption) | assumption)
           have hcut280 := cut_from (P := Tryd.prog) 25 3 .i64 Tryd.underlying25 hi0280 1 hsz280 (some ad161) t112.length co37 (ji262) q0280 q280
           have hr280 := Kd.C_drop (m := ((ji262) : Int).toNat) (c := co37) hC280 (by omega) hroom280
           obtain ⟨A280, hA280⟩ : ∃ A1, A1 = (if co37 = ((ji262) : Int).toNat then (some ad161) else ((some ad161) : Option Addr).map (·.add (((ji262) : Int).toNat * 1))) := ⟨_, rfl⟩
           obtain ⟨c280, hc280⟩ : ∃ c1, c1 = co37 - ((ji262) : Int).toNat := ⟨_, rfl⟩
           have hy280 : y174.length = t112.length - ((ji262) : Int).toNat := (by rw [Ny174.out, List.length_drop] <;> omega)
           rw [show (t112).drop ((ji262) : Int).toNat = y174 from Ny174.out.symm] at hr280
           replace hr280 : Kd.C (Kd.int .i64) _ A280 y174.length y174 := (by rw [hA280]; exact hr280)
           rw [← hy280, ← hA280, ← hc280] at hcut280
           have HR177 := Aside0.mk hr280
           have HC177 := Aside0.mk (show y174.length ≤ c280 from by rw [hy280, hc280]; exact Nat.sub_le_sub_right hroom280 _)
           clear hr280 hC280 hroom280 hi0280 hsz280 hc280
           have KY280 := Aside0.mk hy280
           have KA280 := Aside0.mk hA280
           clear hy280 hA280
           have KL280 := Aside0.mk (show ((ji262) : Int).toNat ≤ t112.length from by omega)
           replace q280 := eq_true q280
           refine start_ (n := 20) (S := fun w' => w'.cell? ⟨gb111, 0, none⟩ = some (.int .i64 t103) ∧ w'.cell? ⟨gb111, 1, none⟩ = some (.int .i64 t104) ∧ w'.cell? ⟨gb111, 2, none⟩ = some (.int .i64 t105) ∧ w'.cell? ⟨gb111, 3, none⟩ = some (.int .i64 t106) ∧ w'.cell? ⟨gb111, 4, none⟩ = some (.int .i64 t107)) (ds := []) (bl 20 0) (by kernel_rfl) rfl rfl ⟨kc BK111 0, kc BK111 1, kc BK111 2, kc BK111 3, kc BK111 4⟩ (fun hHeld => ?_); refine with_tabW lR.tab20 lR.bits20 (fun HT_ HW_ => ?_)
           generalize wc.drew = w278 at HO_8 HO_9 BK101 BK102 BK111 BK150 BK163 HB HR170 HR177 hHeld ⊢
           refine pS 1 188 20 2 HT_ ?_
           refine pS 3 190 20 10 HT_ ?_
           refine pS 4 191 20 26 HT_ ?_
           refine pS 5 192 20 58 HT_ ?_
           refine pS 7 194 20 186 HT_ ?_
           refine pS 8 195 20 442 HT_ ?_
           refine pS 9 196 20 954 HT_ ?_
           refine pS 10 197 20 1978 HT_ ?_
           refine tq 0 (some 187) (bl 20 1979) HT_ HW_ hHeld (h := ?_)
           refine one_ (i := 2) (N := some 189) (bl 20 1983) rfl rfl (one_of HT_.out (by kernel_rfl)) (by decide) (fun K hK => ?_)
           refine goes_ Tryd.func43 (by kernel_rfl) rfl #[.slice (some ad162) t108.length co15] (by rfl) rfl rfl (by (try simp only [List.map_toArray, List.map_cons, List.map_nil]); first | done | rfl | (simp only [List.length_drop, List.length_take]; rfl)) ?_
           with_reducible refine (smaltolaw03_own.calls _ _ t108 t164 _ ?side1 ?side2 A258.out).mono ?_
           (case side1 => exact rC HO_8)
           (case side2 => exact (Kd.R_reads' HO_8.out).2.1)
           rintro e w281 ⟨v165, rfl, ho0, hb⟩
           refine ⟨_, rfl, ?_⟩
           have n0_ := Aside0.mk (Kd.R_elder' (R_ HO_8) (Kd.R_base ho0) hb)
           have n1_ := RB HO_9 hb
           have n2_ := Aside0.mk (Kd.R_lower (Kd.R_new' ho0 (Kd.R_lt (R_ HO_8))) (below_size (Bq HB)))
           have n3_ := bb BK101 hb
           have n4_ := bb BK102 hb
           have n5_ := bb BK111 hb
           have n6_ := bb BK150 hb
           have n7_ := Aside0.mk (blk_below (g := gb163) (o := .cells #[.int .i64 ((rd_T74 t108 (rd t112 x19_4)).f3.f0), .int .i64 ((rd_T74 t108 (rd t112 x19_4)).f3.f1)] 36 (0, 0)) (b_ BK163) hb)
           have n8_ := Aside0.mk (Kd.C_below (by repeat (first | (with_reducible exact HR170.out) | (with_reducible refine Kd.C_alloc ?_ _) | (with_reducible refine Kd.C_drewN ?_ _) | (with_reducible refine Kd.C_drew ?_) | exact HR170.out)) hb)
           have n9_ := Aside0.mk (Kd.C_below (by repeat (first | (with_reducible exact HR177.out) | (with_reducible refine Kd.C_alloc ?_ _) | (with_reducible refine Kd.C_drewN ?_ _) | (with_reducible refine Kd.C_drew ?_) | exact HR177.out)) hb)
           have n10_ := Aside0.mk (below_step (Bq HB) hb)
           clear HO_8
           clear HO_9
           clear BK101
           clear BK102
           clear BK111
           clear BK150
           clear BK163
           clear HR170
           clear HR177
           clear HB
           have HO_8 := n0_
           have HO_9 := n1_
           have HO166 := n2_
           have BK101 := n3_
           have BK102 := n4_
           have BK111 := n5_
           have BK150 := n6_
           have BK163 := n7_
           have HR170 := n8_
           have HR177 := n9_
           have HB := n10_
           clear n0_ n1_ n2_ n3_ n4_ n5_ n6_ n7_ n8_ n9_ n10_
           (try clear hb)
           (try clear hb2)
           (try clear hk)
           (try clear hi)
           (try clear ho0)
           refine hK.out _ _ ⟨kc BK111 0, kc BK111 1, kc BK111 2, kc BK111 3, kc BK111 4⟩ (fun hHeld => ?_)
           clear hK K
           refine nq 189 ?_
           refine one_ (i := 6) (N := some 193) (bl 20 2047) rfl rfl (one_of HT_.out (by kernel_rfl)) (by decide) (fun K hK => ?_)
           refine goes_ Tryd.func15 (by kernel_rfl) rfl #[.slice (some ad161) y167.length co37] (by rfl) rfl rfl (by (try simp only [List.map_toArray, List.map_cons, List.map_nil]); first | done | rfl | (simp only [List.length_drop, List.length_take]; rfl)) ?_
           with_reducible refine (smaltolaw03_ints.calls _ _ y167 t171 _ ?side1 ?side2 A261.out).mono ?_
           (case side1 => repeat (first | exact (by repeat (first | (with_reducible exact HR170.out) | (with_reducible refine Kd.C_alloc ?_ _) | (with_reducible refine Kd.C_drewN ?_ _) | (with_reducible refine Kd.C_drew ?_) | exact HR170.out)) | (with_reducible refine Kd.C_alloc ?_ _) | (with_reducible refine Kd.C_drewN ?_ _) | (with_reducible refine Kd.C_drew ?_)))
           (case side2 => exact HC170.out)
           rintro e w282 ⟨v172, rfl, ho0, hb⟩
           refine ⟨_, rfl, ?_⟩
           have n0_ := RB HO_8 hb
           have n1_ := Aside0.mk (Kd.R_elder' (R_ HO_9) (Kd.R_base ho0) hb)
           have n2_ := RB HO166 hb
           have n3_ := Aside0.mk (Kd.R_lower (Kd.R_new' ho0 (Kd.R_lt (R_ HO_9))) (below_size (Bq HB)))
           have n4_ := bb BK101 hb
           have n5_ := bb BK102 hb
           have n6_ := bb BK111 hb
           have n7_ := bb BK150 hb
           have n8_ := Aside0.mk (blk_below (g := gb163) (o := .cells #[.int .i64 ((rd_T74 t108 (rd t112 x19_4)).f3.f0), .int .i64 ((rd_T74 t108 (rd t112 x19_4)).f3.f1)] 36 (0, 0)) (b_ BK163) hb)
           have n9_ := Aside0.mk (Kd.C_below (by repeat (first | (with_reducible exact HR170.out) | (with_reducible refine Kd.C_alloc ?_ _) | (with_reducible refine Kd.C_drewN ?_ _) | (with_reducible refine Kd.C_drew ?_) | exact HR170.out)) hb)
           have n10_ := Aside0.mk (Kd.C_below (by repeat (first | (with_reducible exact HR177.out) | (with_reducible refine Kd.C_alloc ?_ _) | (with_reducible refine Kd.C_drewN ?_ _) | (with_reducible refine Kd.C_drew ?_) | exact HR177.out)) hb)
           have n11_ := Aside0.mk (below_step (Bq HB) hb)
           clear HO_8
           clear HO_9
           clear HO166
           clear BK101
           clear BK102
           clear BK111
           clear BK150
           clear BK163
           clear HR170
           clear HR177
           clear HB
           have HO_8 := n0_
           have HO_9 := n1_
           have HO166 := n2_
           have HO173 := n3_
           have BK101 := n4_
           have BK102 := n5_
           have BK111 := n6_
           have BK150 := n7_
           have BK163 := n8_
           have HR170 := n9_
           have HR177 := n10_
           have HB := n11_
           clear n0_ n1_ n2_ n3_ n4_ n5_ n6_ n7_ n8_ n9_ n10_ n11_
           (try clear hb)
           (try clear hb2)
           (try clear hk)
           (try clear hi)
           (try clear ho0)
           refine hK.out _ _ ⟨kc BK111 0, kc BK111 1, kc BK111 2, kc BK111 3, kc BK111 4⟩ (fun hHeld => ?_)
           clear hK K
           refine nq 193 ?_
           refine one_ (i := 11) (N := some 198) (bl 20 4095) rfl rfl (one_of HT_.out (by kernel_rfl)) (by decide) (fun K hK => ?_)
           refine Kd.R_append_rows_step (Kd.int .i64) (w0 := w) w.heap.size (by rfl) (.tmp 193) (.tmp 197) 25 3 (.int .i64 0) 8 rfl Tryd.underlying25 info3 rfl (by decide) (by omega) v172 t171 y174 _ _ _ (fun k_ => some k_ ≠ (.slice (some ad161) t112.length co37 : Value).ownBlock) (fun _ => False) rfl rfl ?aO ?aR (fun _ _ h => h) (fun _ h => h.elim) ?aF ?aB ?aS ?aL ?_
           (case aR => repeat (first | exact (by repeat (first | (with_reducible exact HR177.out) | (with_reducible refine Kd.C_alloc ?_ _) | (with_reducible refine Kd.C_drewN ?_ _) | (with_reducible refine Kd.C_drew ?_) | exact HR177.out)) | (with_reducible refine Kd.C_alloc ?_ _) | (with_reducible refine Kd.C_drewN ?_ _) | (with_reducible refine Kd.C_drew ?_)))
           (case aB => exact (Bq HB))
           (case aF => exact (fun k_ hk => Kd.fresh' (Kd.R_lt (R_ HO_9)) k_ hk))
           (case aO => exact (Kd.R_mono (R_ HO173) (fun _ hk => hk.2)))
           (case aS => exact (below_size (Bq HB)))
           (case aL => have := LMc265.out; omega)
           intro v179 w283 ho hb hg hat
           rw [← Ny178.out] at ho
           have n0_ := Aside0.mk (Kd.R_over' (R_ HO_8) (Kd.R_typed (R_ HO173)) (by decide) hg)
           have n1_ := Aside0.mk (Kd.R_after (ok := (fun _ => True)) (R_ HO_9) hg hat)
           have n2_ := Aside0.mk (blk_grown (g := gb101) (o := .cells #[.int .u8 a0_0, .int .u8 a0_1, .int .u8 a0_2, .int .u8 a0_3, .int .u8 a0_4, .slice A0_5 l0_5.length c0_5] 66 (0, 0)) (b_ BK101) hg (Kd.R_ne HO173.out BK101.out (by decide)))
           have n3_ := Aside0.mk (blk_grown (g := gb102) (o := .cells #[.int .u8 a2_0, .int .u8 a2_1, .int .u8 a2_2, .int .u8 a2_3, .int .u8 a2_4, .int .u8 a2_5] 67 (0, 0)) (b_ BK102) hg (Kd.R_ne HO173.out BK102.out (by decide)))
           have n4_ := Aside0.mk (blk_grown (g := gb111) (o := .cells #[.int .i64 t103, .int .i64 t104, .int .i64 t105, .int .i64 t106, .int .i64 t107] 23 (0, 0)) (b_ BK111) hg (Kd.R_ne HO173.out BK111.out (by decide)))
           have n5_ := Aside0.mk (blk_grown (g := gb150) (o := .cells #[.int .i64 t147, .int .i64 t148] 36 (0, 0)) (b_ BK150) hg (Kd.R_ne HO173.out BK150.out (by decide)))
           have n6_ := Aside0.mk (blk_grown (g := gb163) (o := .cells #[.int .i64 ((rd_T74 t108 (rd t112 x19_4)).f3.f0), .int .i64 ((rd_T74 t108 (rd t112 x19_4)).f3.f1)] 36 (0, 0)) (b_ BK163) hg (Kd.R_ne HO173.out BK163.out (by decide)))
           have n7_ := Aside0.mk (Kd.R_over' (R_ HO166) (Kd.R_typed (R_ HO173)) (by decide) hg)
           have n8_ := Aside0.mk (hb)
           have n9_ := Aside0.mk ((show Kd.C (Kd.int .i64) w283 (some ad161) y167.length y167 from by rw [Ny167.out]; exact Kd.C_take (m := (x19_4 : Int).toNat) ((Kd.R_reads' (Kd.R_after (ok := (fun _ => True)) (R_ HO_9) hg hat)).2.2) KL279.out))
           have n10_ := Aside0.mk ((show Kd.C (Kd.int .i64) w283 A280 y174.length y174 from by rw [Ny174.out, KA280.out]; exact Kd.C_drop (m := ((ji262) : Int).toNat) (c := co37) ((Kd.R_reads' (Kd.R_after (ok := (fun _ => True)) (R_ HO_9) hg hat)).2.2) KL280.out ((Kd.R_reads' (Kd.R_after (ok := (fun _ => True)) (R_ HO_9) hg hat)).2.1)))
           have n11_ := Aside0.mk (ho)
           clear HO_8
           clear HO_9
           clear BK101
           clear BK102
           clear BK111
           clear BK150
           clear BK163
           clear HO166
           clear HB
           clear HR170
           clear HR177
           clear HO173
           have HO_8 := n0_
           have HO_9 := n1_
           have BK101 := n2_
           have BK102 := n3_
           have BK111 := n4_
           have BK150 := n5_
           have BK163 := n6_
           have HO166 := n7_
           have HB := n8_
           have HR170 := n9_
           have HR177 := n10_
           have HO180 := n11_
           clear n0_ n1_ n2_ n3_ n4_ n5_ n6_ n7_ n8_ n9_ n10_ n11_
           clear ho hb hg hat
           obtain ⟨Ao284, co284, eo284⟩ := Kd.R_slice HO166.out
           (first | subst eo284 | (injection eo284 with f1_ f2_ f3_; have f4_ := f1_.symm; have f5_ := f3_.symm; clear f1_ f2_ f3_; subst f4_; subst f5_))
           obtain ⟨Ao285, co285, eo285⟩ := Kd.R_slice HO180.out
           (first | subst eo285 | (injection eo285 with f1_ f2_ f3_; have f4_ := f1_.symm; have f5_ := f3_.symm; clear f1_ f2_ f3_; subst f4_; subst f5_))
           refine hK.out _ _ ⟨kc BK111 0, kc BK111 1, kc BK111 2, kc BK111 3, kc BK111 4⟩ (fun hHeld => ?_)
           clear hK K
           refine nq 198 ?_
           refine one_ (i := 12) (N := some 199) (bl 20 8191) rfl rfl (one_of HT_.out (by kernel_rfl)) (by decide) (fun K hK => ?_)
           refine goes_ Tryd.func17 (by kernel_rfl) rfl #[.agg #[.int .i64 t103, .int .i64 t104, .int .i64 t105, .int .i64 t106, .int .i64 t107], .slice Ao284 t164.length co284, .slice Ao285 y178.length co285] (by rfl) rfl rfl (by (try simp only [List.map_toArray, List.map_cons, List.map_nil]); first | done | rfl | (simp only [List.length_drop, List.length_take]; rfl)) ?_
           with_reducible refine (goesC.calls t103 t104 t105 t106 t107 _ _ t164 _ _ y178 false t182 _ ?side5 ?side1 ?side2 ?side3 ?side4 A266.out).mono ?_
           (case side1 => exact rC HO166)
           (case side2 => exact (Kd.R_reads' HO166.out).2.1)
           (case side3 => exact rC HO180)
           (case side4 => exact (Kd.R_reads' HO180.out).2.1)
           (case side5 => exact Hand.TabW.below HTAB.out (Bq HB))
           rintro e w286 ⟨rfl, hb⟩
           refine ⟨_, rfl, ?_⟩
           have n0_ := RB HO_8 hb
           have n1_ := RB HO_9 hb
           have n2_ := RB HO166 hb
           have n3_ := RB HO180 hb
           have n4_ := bb BK101 hb
           have n5_ := bb BK102 hb
           have n6_ := bb BK111 hb
           have n7_ := bb BK150 hb
           have n8_ := Aside0.mk (blk_below (g := gb163) (o := .cells #[.int .i64 ((rd_T74 t108 (rd t112 x19_4)).f3.f0), .int .i64 ((rd_T74 t108 (rd t112 x19_4)).f3.f1)] 36 (0, 0)) (b_ BK163) hb)
           have n9_ := Aside0.mk (Kd.C_below (by repeat (first | (with_reducible exact HR170.out) | (with_reducible refine Kd.C_alloc ?_ _) | (with_reducible refine Kd.C_drewN ?_ _) | (with_reducible refine Kd.C_drew ?_) | exact HR170.out)) hb)
           have n10_ := Aside0.mk (Kd.C_below (by repeat (first | (with_reducible exact HR177.out) | (with_reducible refine Kd.C_alloc ?_ _) | (with_reducible refine Kd.C_drewN ?_ _) | (with_reducible refine Kd.C_drew ?_) | exact HR177.out)) hb)
           have n11_ := Aside0.mk (below_step (Bq HB) hb)
           clear HO_8
           clear HO_9
           clear HO166
           clear HO180
           clear BK101
           clear BK102
           clear BK111
           clear BK150
           clear BK163
           clear HR170
           clear HR177
           clear HB
           have HO_8 := n0_
           have HO_9 := n1_
           have HO166 := n2_
           have HO180 := n3_
           have BK101 := n4_
           have BK102 := n5_
           have BK111 := n6_
           have BK150 := n7_
           have BK163 := n8_
           have HR170 := n9_
           have HR177 := n10_
           have HB := n11_
           clear n0_ n1_ n2_ n3_ n4_ n5_ n6_ n7_ n8_ n9_ n10_ n11_
           (try clear hb)
           (try clear hb2)
           (try clear hk)
           (try clear hi)
           refine hK.out _ _ ⟨kc BK111 0, kc BK111 1, kc BK111 2, kc BK111 3, kc BK111 4⟩ (fun hHeld => ?_)
           clear hK K
           refine nq 199 ?_
           refine pS 13 186 20 16383 HT_ ?_
           refine pS 14 200 20 32767 HT_ ?_
           refine pS 15 201 20 65535 HT_ ?_
           refine pS 16 202 20 131071 HT_ ?_
           refine pS 17 21 20 262143 HT_ ?_
           refine pS 18 22 20 524287 HT_ ?_
           refine pS 19 23 20 1048575 HT_ ?_
           refine done_ (done_of HT_.out (by kernel_rfl)) ?_
           try go_wp2
           go_ret
           exact ⟨by first | rfl | (simp [errW_none, errW_some] <;> rfl) | (simp only [← hji262]; first | rfl | (simp [errW_none, errW_some] <;> rfl)) | (simp [*, errW_none, errW_some] <;> rfl), Bq HB⟩
          replace c267 := Bool.eq_false_iff.mpr c267
          subst c267
          have H1 : (lR.l1 kj229 t108 t112 false t129 t149 ji262 t103 t104 t105 t106 t107 t147 t148) = some r := by rw [if_neg (show ¬ (false = true) by decide)] at H; exact H
          clear H
          have H := H1
          clear H1
          have H' := Aside0.mk H
          clear H
          try go_wp2
          have n0_ := Aside0.mk (Kd.R_drew HO_8.out)
          have n1_ := Aside0.mk (Kd.R_drew HO_9.out)
          have n2_ := Aside0.mk (blk_drew BK101.out)
          have n3_ := Aside0.mk (blk_drew BK102.out)
          have n4_ := Aside0.mk (blk_drew BK111.out)
          have n5_ := Aside0.mk (blk_drew BK150.out)
          have n6_ := Aside0.mk (blk_drew BK163.out)
          have n7_ := Aside0.mk (below_drew1 HB.out)
          clear HO_8
          clear HO_9
          clear BK101
          clear BK102
          clear BK111
          clear BK150
          clear BK163
          clear HB
          have HO_8 := n0_
          have HO_9 := n1_
          have BK101 := n2_
          have BK102 := n3_
          have BK111 := n4_
          have BK150 := n5_
          have BK163 := n6_
          have HB := n7_
          clear n0_ n1_ n2_ n3_ n4_ n5_ n6_ n7_
          have q288 : (x19_4 : Int) ≤ ((t112.length : Int) : Int) := of_decide_eq_true (by first | (with_reducible assumption) | assumption)
          obtain ⟨i0288, hi0288, _, hsz288, _⟩ := info_parts info3
          have hroom288 : t112.length ≤ co37 := (Kd.R_reads' HO_9.out).2.1
          have hC288 : Kd.C (Kd.int .i64) _ (some ad161) t112.length t112 := (Kd.R_reads' HO_9.out).2.2
          have hcut288 := cut_to (P := Tryd.prog) 25 3 .i64 Tryd.underlying25 hi0288 (some ad161) t112.length co37 x19_4 (of_decide_eq_true (by first | (with_reducible assumption) | assumption)) q288 hroom288
          have hr288 := Kd.C_take (m := (x19_4 : Int).toNat) hC288 (by omega)
          have hy288 : y167.length = (x19_4 : Int).toNat := (by rw [Ny167.out, List.length_take]; omega)
          rw [← Ny167.out] at hr288
          rw [← hy288] at hcut288
          have HR170 := Aside0.mk hr288
          have HC170 := Aside0.mk (show y167.length ≤ co37 from by omega)
          clear hr288 hC288 hroom288 hi0288 hsz288
          have KY288 := Aside0.mk hy288
          clear hy288
          have KL288 := Aside0.mk (show (x19_4 : Int).toNat ≤ t112.length from by omega)
          replace q288 := eq_true q288
          have q289 : ((ji262) : Int) ≤ ((t112.length : Int) : Int) := of_decide_eq_true (by first | (with_reducible assumption) | assumption)
          obtain ⟨i0289, hi0289, _, hsz289, _⟩ := info_parts info3
          have hroom289 : t112.length ≤ co37 := (Kd.R_reads' HO_9.out).2.1
          have hC289 : Kd.C (Kd.int .i64) _ (some ad161) t112.length t112 := (Kd.R_reads' HO_9.out).2.2
          have q0289 : (0 : Int) ≤ ((ji262) : Int) := of_decide_eq_true (by first | (with_reducible assumption) | assumption)
          have hcut289 := cut_from (P := Tryd.prog) 25 3 .i64 Tryd.underlying25 hi0289 1 hsz289 (some ad161) t112.length co37 (ji262) q0289 q289
          have hr289 := Kd.C_drop (m := ((ji262) : Int).toNat) (c := co37) hC289 (by omega) hroom289
          obtain ⟨A289, hA289⟩ : ∃ A1, A1 = (if co37 = ((ji262) : Int).toNat then (some ad161) else ((some ad161) : Option Addr).map (·.add (((ji262) : Int).toNat * 1))) := ⟨_, rfl⟩
          obtain ⟨c289, hc289⟩ : ∃ c1, c1 = co37 - ((ji262) : Int).toNat := ⟨_, rfl⟩
          have hy289 : y174.length = t112.length - ((ji262) : Int).toNat := (by rw [Ny174.out, List.length_drop] <;> omega)
          rw [show (t112).drop ((ji262) : Int).toNat = y174 from Ny174.out.symm] at hr289
          replace hr289 : Kd.C (Kd.int .i64) _ A289 y174.length y174 := (by rw [hA289]; exact hr289)
          rw [← hy289, ← hA289, ← hc289] at hcut289
          have HR177 := Aside0.mk hr289
          have HC177 := Aside0.mk (show y174.length ≤ c289 from by rw [hy289, hc289]; exact Nat.sub_le_sub_right hroom289 _)
          clear hr289 hC289 hroom289 hi0289 hsz289 hc289
          have KY289 := Aside0.mk hy289
          have KA289 := Aside0.mk hA289
          clear hy289 hA289
          have KL289 := Aside0.mk (show ((ji262) : Int).toNat ≤ t112.length from by omega)
          replace q289 := eq_true q289
          refine start_ (n := 20) (S := fun w' => w'.cell? ⟨gb111, 0, none⟩ = some (.int .i64 t103) ∧ w'.cell? ⟨gb111, 1, none⟩ = some (.int .i64 t104) ∧ w'.cell? ⟨gb111, 2, none⟩ = some (.int .i64 t105) ∧ w'.cell? ⟨gb111, 3, none⟩ = some (.int .i64 t106) ∧ w'.cell? ⟨gb111, 4, none⟩ = some (.int .i64 t107)) (ds := []) (bl 20 0) (by kernel_rfl) rfl rfl ⟨kc BK111 0, kc BK111 1, kc BK111 2, kc BK111 3, kc BK111 4⟩ (fun hHeld => ?_); refine with_tabW lR.tab20 lR.bits20 (fun HT_ HW_ => ?_)
          generalize wc.drew = w287 at HO_8 HO_9 BK101 BK102 BK111 BK150 BK163 HB HR170 HR177 hHeld ⊢
          refine pS 1 188 20 2 HT_ ?_
          refine pS 3 190 20 10 HT_ ?_
          refine pS 4 191 20 26 HT_ ?_
          refine pS 5 192 20 58 HT_ ?_
          refine pS 7 194 20 186 HT_ ?_
          refine pS 8 195 20 442 HT_ ?_
          refine pS 9 196 20 954 HT_ ?_
          refine pS 10 197 20 1978 HT_ ?_
          refine tq 0 (some 187) (bl 20 1979) HT_ HW_ hHeld (h := ?_)
          refine one_ (i := 2) (N := some 189) (bl 20 1983) rfl rfl (one_of HT_.out (by kernel_rfl)) (by decide) (fun K hK => ?_)
          refine goes_ Tryd.func43 (by kernel_rfl) rfl #[.slice (some ad162) t108.length co15] (by rfl) rfl rfl (by (try simp only [List.map_toArray, List.map_cons, List.map_nil]); first | done | rfl | (simp only [List.length_drop, List.length_take]; rfl)) ?_
          with_reducible refine (smaltolaw03_own.calls _ _ t108 t164 _ ?side1 ?side2 A258.out).mono ?_
          (case side1 => exact rC HO_8)
          (case side2 => exact (Kd.R_reads' HO_8.out).2.1)
          rintro e w290 ⟨v165, rfl, ho0, hb⟩
          refine ⟨_, rfl, ?_⟩
          have n0_ := Aside0.mk (Kd.R_elder' (R_ HO_8) (Kd.R_base ho0) hb)
          have n1_ := RB HO_9 hb
          have n2_ := Aside0.mk (Kd.R_lower (Kd.R_new' ho0 (Kd.R_lt (R_ HO_8))) (below_size (Bq HB)))
          have n3_ := bb BK101 hb
          have n4_ := bb BK102 hb
          have n5_ := bb BK111 hb
          have n6_ := bb BK150 hb
          have n7_ := Aside0.mk (blk_below (g := gb163) (o := .cells #[.int .i64 ((rd_T74 t108 (rd t112 x19_4)).f3.f0), .int .i64 ((rd_T74 t108 (rd t112 x19_4)).f3.f1)] 36 (0, 0)) (b_ BK163) hb)
          have n8_ := Aside0.mk (Kd.C_below (by repeat (first | (with_reducible exact HR170.out) | (with_reducible refine Kd.C_alloc ?_ _) | (with_reducible refine Kd.C_drewN ?_ _) | (with_reducible refine Kd.C_drew ?_) | exact HR170.out)) hb)
          have n9_ := Aside0.mk (Kd.C_below (by repeat (first | (with_reducible exact HR177.out) | (with_reducible refine Kd.C_alloc ?_ _) | (with_reducible refine Kd.C_drewN ?_ _) | (with_reducible refine Kd.C_drew ?_) | exact HR177.out)) hb)
          have n10_ := Aside0.mk (below_step (Bq HB) hb)
          clear HO_8
          clear HO_9
          clear BK101
          clear BK102
          clear BK111
          clear BK150
          clear BK163
          clear HR170
          clear HR177
          clear HB
          have HO_8 := n0_
          have HO_9 := n1_
          have HO166 := n2_
          have BK101 := n3_
          have BK102 := n4_
          have BK111 := n5_
          have BK150 := n6_
          have BK163 := n7_
          have HR170 := n8_
          have HR177 := n9_
          have HB := n10_
          clear n0_ n1_ n2_ n3_ n4_ n5_ n6_ n7_ n8_ n9_ n10_
          (try clear hb)
          (try clear hb2)
          (try clear hk)
          (try clear hi)
          (try clear ho0)
          refine hK.out _ _ ⟨kc BK111 0, kc BK111 1, kc BK111 2, kc BK111 3, kc BK111 4⟩ (fun hHeld => ?_)
          clear hK K
          refine nq 189 ?_
          refine one_ (i := 6) (N := some 193) (bl 20 2047) rfl rfl (one_of HT_.out (by kernel_rfl)) (by decide) (fun K hK => ?_)
          refine goes_ Tryd.func15 (by kernel_rfl) rfl #[.slice (some ad161) y167.length co37] (by rfl) rfl rfl (by (try simp only [List.map_toArray, List.map_cons, List.map_nil]); first | done | rfl | (simp only [List.length_drop, List.length_take]; rfl)) ?_
          with_reducible refine (smaltolaw03_ints.calls _ _ y167 t171 _ ?side1 ?side2 A261.out).mono ?_
          (case side1 => repeat (first | exact (by repeat (first | (with_reducible exact HR170.out) | (with_reducible refine Kd.C_alloc ?_ _) | (with_reducible refine Kd.C_drewN ?_ _) | (with_reducible refine Kd.C_drew ?_) | exact HR170.out)) | (with_reducible refine Kd.C_alloc ?_ _) | (with_reducible refine Kd.C_drewN ?_ _) | (with_reducible refine Kd.C_drew ?_)))
          (case side2 => exact HC170.out)
          rintro e w291 ⟨v172, rfl, ho0, hb⟩
          refine ⟨_, rfl, ?_⟩
          have n0_ := RB HO_8 hb
          have n1_ := Aside0.mk (Kd.R_elder' (R_ HO_9) (Kd.R_base ho0) hb)
          have n2_ := RB HO166 hb
          have n3_ := Aside0.mk (Kd.R_lower (Kd.R_new' ho0 (Kd.R_lt (R_ HO_9))) (below_size (Bq HB)))
          have n4_ := bb BK101 hb
          have n5_ := bb BK102 hb
          have n6_ := bb BK111 hb
          have n7_ := bb BK150 hb
          have n8_ := Aside0.mk (blk_below (g := gb163) (o := .cells #[.int .i64 ((rd_T74 t108 (rd t112 x19_4)).f3.f0), .int .i64 ((rd_T74 t108 (rd t112 x19_4)).f3.f1)] 36 (0, 0)) (b_ BK163) hb)
          have n9_ := Aside0.mk (Kd.C_below (by repeat (first | (with_reducible exact HR170.out) | (with_reducible refine Kd.C_alloc ?_ _) | (with_reducible refine Kd.C_drewN ?_ _) | (with_reducible refine Kd.C_drew ?_) | exact HR170.out)) hb)
          have n10_ := Aside0.mk (Kd.C_below (by repeat (first | (with_reducible exact HR177.out) | (with_reducible refine Kd.C_alloc ?_ _) | (with_reducible refine Kd.C_drewN ?_ _) | (with_reducible refine Kd.C_drew ?_) | exact HR177.out)) hb)
          have n11_ := Aside0.mk (below_step (Bq HB) hb)
          clear HO_8
          clear HO_9
          clear HO166
          clear BK101
          clear BK102
          clear BK111
          clear BK150
          clear BK163
          clear HR170
          clear HR177
          clear HB
          have HO_8 := n0_
          have HO_9 := n1_
          have HO166 := n2_
          have HO173 := n3_
          have BK101 := n4_
          have BK102 := n5_
          have BK111 := n6_
          have BK150 := n7_
          have BK163 := n8_
          have HR170 := n9_
          have HR177 := n10_
          have HB := n11_
          clear n0_ n1_ n2_ n3_ n4_ n5_ n6_ n7_ n8_ n9_ n10_ n11_
          (try clear hb)
          (try clear hb2)
          (try clear hk)
          (try clear hi)
          (try clear ho0)
          refine hK.out _ _ ⟨kc BK111 0, kc BK111 1, kc BK111 2, kc BK111 3, kc BK111 4⟩ (fun hHeld => ?_)
          clear hK K
          refine nq 193 ?_
          refine one_ (i := 11) (N := some 198) (bl 20 4095) rfl rfl (one_of HT_.out (by kernel_rfl)) (by decide) (fun K hK => ?_)
          refine Kd.R_append_rows_step (Kd.int .i64) (w0 := w) w.heap.size (by rfl) (.tmp 193) (.tmp 197) 25 3 (.int .i64 0) 8 rfl Tryd.underlying25 info3 rfl (by decide) (by omega) v172 t171 y174 _ _ _ (fun k_ => some k_ ≠ (.slice (some ad161) t112.length co37 : Value).ownBlock) (fun _ => False) rfl rfl ?aO ?aR (fun _ _ h => h) (fun _ h => h.elim) ?aF ?aB ?aS ?aL ?_
          (case aR => repeat (first | exact (by repeat (first | (with_reducible exact HR177.out) | (with_reducible refine Kd.C_alloc ?_ _) | (with_reducible refine Kd.C_drewN ?_ _) | (with_reducible refine Kd.C_drew ?_) | exact HR177.out)) | (with_reducible refine Kd.C_alloc ?_ _) | (with_reducible refine Kd.C_drewN ?_ _) | (with_reducible refine Kd.C_drew ?_)))
          (case aB => exact (Bq HB))
          (case aF => exact (fun k_ hk => Kd.fresh' (Kd.R_lt (R_ HO_9)) k_ hk))
          (case aO => exact (Kd.R_mono (R_ HO173) (fun _ hk => hk.2)))
          (case aS => exact (below_size (Bq HB)))
          (case aL => have := LMc265.out; omega)
          intro v179 w292 ho hb hg hat
          rw [← Ny178.out] at ho
          have n0_ := Aside0.mk (Kd.R_over' (R_ HO_8) (Kd.R_typed (R_ HO173)) (by decide) hg)
          have n1_ := Aside0.mk (Kd.R_after (ok := (fun _ => True)) (R_ HO_9) hg hat)
          have n2_ := Aside0.mk (blk_grown (g := gb101) (o := .cells #[.int .u8 a0_0, .int .u8 a0_1, .int .u8 a0_2, .int .u8 a0_3, .int .u8 a0_4, .slice A0_5 l0_5.length c0_5] 66 (0, 0)) (b_ BK101) hg (Kd.R_ne HO173.out BK101.out (by decide)))
          have n3_ := Aside0.mk (blk_grown (g := gb102) (o := .cells #[.int .u8 a2_0, .int .u8 a2_1, .int .u8 a2_2, .int .u8 a2_3, .int .u8 a2_4, .int .u8 a2_5] 67 (0, 0)) (b_ BK102) hg (Kd.R_ne HO173.out BK102.out (by decide)))
          have n4_ := Aside0.mk (blk_grown (g := gb111) (o := .cells #[.int .i64 t103, .int .i64 t104, .int .i64 t105, .int .i64 t106, .int .i64 t107] 23 (0, 0)) (b_ BK111) hg (Kd.R_ne HO173.out BK111.out (by decide)))
          have n5_ := Aside0.mk (blk_grown (g := gb150) (o := .cells #[.int .i64 t147, .int .i64 t148] 36 (0, 0)) (b_ BK150) hg (Kd.R_ne HO173.out BK150.out (by decide)))
          have n6_ := Aside0.mk (blk_grown (g := gb163) (o := .cells #[.int .i64 ((rd_T74 t108 (rd t112 x19_4)).f3.f0), .int .i64 ((rd_T74 t108 (rd t112 x19_4)).f3.f1)] 36 (0, 0)) (b_ BK163) hg (Kd.R_ne HO173.out BK163.out (by decide)))
          have n7_ := Aside0.mk (Kd.R_over' (R_ HO166) (Kd.R_typed (R_ HO173)) (by decide) hg)
          have n8_ := Aside0.mk (hb)
          have n9_ := Aside0.mk ((show Kd.C (Kd.int .i64) w292 (some ad161) y167.length y167 from by rw [Ny167.out]; exact Kd.C_take (m := (x19_4 : Int).toNat) ((Kd.R_reads' (Kd.R_after (ok := (fun _ => True)) (R_ HO_9) hg hat)).2.2) KL288.out))
          have n10_ := Aside0.mk ((show Kd.C (Kd.int .i64) w292 A289 y174.length y174 from by rw [Ny174.out, KA289.out]; exact Kd.C_drop (m := ((ji262) : Int).toNat) (c := co37) ((Kd.R_reads' (Kd.R_after (ok := (fun _ => True)) (R_ HO_9) hg hat)).2.2) KL289.out ((Kd.R_reads' (Kd.R_after (ok := (fun _ => True)) (R_ HO_9) hg hat)).2.1)))
          have n11_ := Aside0.mk (ho)
          clear HO_8
          clear HO_9
          clear BK101
          clear BK102
          clear BK111
          clear BK150
          clear BK163
          clear HO166
          clear HB
          clear HR170
          clear HR177
          clear HO173
          have HO_8 := n0_
          have HO_9 := n1_
          have BK101 := n2_
          have BK102 := n3_
          have BK111 := n4_
          have BK150 := n5_
          have BK163 := n6_
          have HO166 := n7_
          have HB := n8_
          have HR170 := n9_
          have HR177 := n10_
          have HO180 := n11_
          clear n0_ n1_ n2_ n3_ n4_ n5_ n6_ n7_ n8_ n9_ n10_ n11_
          clear ho hb hg hat
          obtain ⟨Ao293, co293, eo293⟩ := Kd.R_slice HO166.out
          (first | subst eo293 | (injection eo293 with f1_ f2_ f3_; have f4_ := f1_.symm; have f5_ := f3_.symm; clear f1_ f2_ f3_; subst f4_; subst f5_))
          obtain ⟨Ao294, co294, eo294⟩ := Kd.R_slice HO180.out
          (first | subst eo294 | (injection eo294 with f1_ f2_ f3_; have f4_ := f1_.symm; have f5_ := f3_.symm; clear f1_ f2_ f3_; subst f4_; subst f5_))
          refine hK.out _ _ ⟨kc BK111 0, kc BK111 1, kc BK111 2, kc BK111 3, kc BK111 4⟩ (fun hHeld => ?_)
          clear hK K
          refine nq 198 ?_
          refine one_ (i := 12) (N := some 199) (bl 20 8191) rfl rfl (one_of HT_.out (by kernel_rfl)) (by decide) (fun K hK => ?_)
          refine goes_ Tryd.func17 (by kernel_rfl) rfl #[.agg #[.int .i64 t103, .int .i64 t104, .int .i64 t105, .int .i64 t106, .int .i64 t107], .slice Ao293 t164.length co293, .slice Ao294 y178.length co294] (by rfl) rfl rfl (by (try simp only [List.map_toArray, List.map_cons, List.map_nil]); first | done | rfl | (simp only [List.length_drop, List.length_take]; rfl)) ?_
          with_reducible refine (goesC.calls t103 t104 t105 t106 t107 _ _ t164 _ _ y178 t181 t182 _ ?side5 ?side1 ?side2 ?side3 ?side4 A266.out).mono ?_
          (case side1 => exact rC HO166)
          (case side2 => exact (Kd.R_reads' HO166.out).2.1)
          (case side3 => exact rC HO180)
          (case side4 => exact (Kd.R_reads' HO180.out).2.1)
          (case side5 => exact Hand.TabW.below HTAB.out (Bq HB))
          rintro e w295 ⟨rfl, hb⟩
          refine ⟨_, rfl, ?_⟩
          have n0_ := RB HO_8 hb
          have n1_ := RB HO_9 hb
          have n2_ := RB HO166 hb
          have n3_ := RB HO180 hb
          have n4_ := bb BK101 hb
          have n5_ := bb BK102 hb
          have n6_ := bb BK111 hb
          have n7_ := bb BK150 hb
          have n8_ := Aside0.mk (blk_below (g := gb163) (o := .cells #[.int .i64 ((rd_T74 t108 (rd t112 x19_4)).f3.f0), .int .i64 ((rd_T74 t108 (rd t112 x19_4)).f3.f1)] 36 (0, 0)) (b_ BK163) hb)
          have n9_ := Aside0.mk (Kd.C_below (by repeat (first | (with_reducible exact HR170.out) | (with_reducible refine Kd.C_alloc ?_ _) | (with_reducible refine Kd.C_drewN ?_ _) | (with_reducible refine Kd.C_drew ?_) | exact HR170.out)) hb)
          have n10_ := Aside0.mk (Kd.C_below (by repeat (first | (with_reducible exact HR177.out) | (with_reducible refine Kd.C_alloc ?_ _) | (with_reducible refine Kd.C_drewN ?_ _) | (with_reducible refine Kd.C_drew ?_) | exact HR177.out)) hb)
          have n11_ := Aside0.mk (below_step (Bq HB) hb)
          clear HO_8
          clear HO_9
          clear HO166
          clear HO180
          clear BK101
          clear BK102
          clear BK111
          clear BK150
          clear BK163
          clear HR170
          clear HR177
          clear HB
          have HO_8 := n0_
          have HO_9 := n1_
          have HO166 := n2_
          have HO180 := n3_
          have BK101 := n4_
          have BK102 := n5_
          have BK111 := n6_
          have BK150 := n7_
          have BK163 := n8_
          have HR170 := n9_
          have HR177 := n10_
          have HB := n11_
          clear n0_ n1_ n2_ n3_ n4_ n5_ n6_ n7_ n8_ n9_ n10_ n11_
          (try clear hb)
          (try clear hb2)
          (try clear hk)
          (try clear hi)
          refine hK.out _ _ ⟨kc BK111 0, kc BK111 1, kc BK111 2, kc BK111 3, kc BK111 4⟩ (fun hHeld => ?_)
          clear hK K
          refine nq 199 ?_
          refine pS 13 186 20 16383 HT_ ?_
          refine pS 14 200 20 32767 HT_ ?_
          refine pS 15 201 20 65535 HT_ ?_
          refine pS 16 202 20 131071 HT_ ?_
          refine pS 17 21 20 262143 HT_ ?_
          refine pS 18 22 20 524287 HT_ ?_
          refine pS 19 23 20 1048575 HT_ ?_
          refine done_ (done_of HT_.out (by kernel_rfl)) ?_
          try go_wp2
          go_roundg kj229
          case measure => have := HK1.out; have := HJ35.out; have := HJ132.out; have := HK4.out; have := HJ229.out; omega
          case rel => exact ⟨(ji262), (by first | rfl | (simp; done) | (simp only [← hji262] <;> (first | rfl | simp)) | (simp [*]; done)), H', ⟨by have := HK1.out; have := HJ35.out; have := HJ132.out; have := HK4.out; have := HJ229.out; omega⟩, ⟨Kd.R_mono (R_ HO_8) (fun _ hk => trivial)⟩, ⟨Kd.R_mono (R_ HO_9) (fun _ hk => trivial)⟩, ⟨b_ BK101⟩, ⟨b_ BK102⟩, ⟨b_ BK111⟩, ⟨b_ BK150⟩, ⟨Bq HB⟩⟩
         rw [if_neg c265] at H
         exact absurd H (by simp)
        rw [if_neg c264] at H
        exact absurd H (by simp)
       rw [if_neg c263] at H
       exact absurd H (by simp)
      rw [if_neg c260] at H
      exact absurd H (by simp)
     rw [if_neg c259] at H
     exact absurd H (by simp)
   rw [if_neg c229] at H
   exact absurd H (by simp)
  rw [if_neg c228] at H
  exact absurd H (by simp)
 rw [if_neg c227] at H
 exact absurd H (by simp)
end Go.Proofs.YtbijamlgcebgeaaDoor.Q

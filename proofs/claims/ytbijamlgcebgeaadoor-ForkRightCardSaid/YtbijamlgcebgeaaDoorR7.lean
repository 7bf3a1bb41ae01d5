/- ForkRight: the law returns true for every input; each argument reads behind the call as it read before (for worlds in which the two tables of the library hold what its initialisers lay). Part 7 of 7. -/
import Derived.Test.YtbijamlgcebgeaaDoorR6
import Derived.Test.YtbijamlgcebgeaaDoorCards
import Derived.Test.YtbijamlgcebgeaaDoorTie
set_option linter.unusedVariables false
set_option linter.unusedSimpArgs false
-- part SO6
namespace Go.Proofs.YtbijamlgcebgeaaDoor.Q
open Go.RowKit Go.Proofs.YtbijamlgcebgeaaDoorW.PrintWords Go.Proofs.YtbijamlgcebgeaaDoorW.PrintLast Go.Proofs.YtbijamlgcebgeaaDoorW.PrintMore
attribute [local go_sem] max2_int min2_int max_two min_two max_three min_three max_four min_four
attribute [local go_sem high] eqA36
set_option maxHeartbeats 8000000 in
set_option maxRecDepth 100000 in
theorem lR.p6 : lR.c0.1.2.2.2.2.2 := by
 intro k a0_0 a0_1 a0_2 a0_3 a0_4 A0_5 c0_5 l0_5 a1 a2_0 a2_1 a2_2 a2_3 a2_4 a2_5 r w hu66 hu67 hu23 hu36 HTAB HR0_5 HC0_5 t103 t104 t105 t106 t107 t108 A4 t112 A5 y115 Ny115 z0_1 gb101 w6 GW101 GE101 gb102 w7 GW102 GE102 NB101_102 NB102_101 hnb8 hnc8 w10 gb111 w11 GW111 GE111 NB101_111 NB111_101 NB102_111 NB111_102 hnb12 hnc12 hnb13 hnc13 Ao15 co15 w16 v116 w17 HO110 z0_2 z0_3 z0_4 z0_5 z0_6 z0_7 u10 z0_8 z0_9 z0_10 z0_11 z0_12 z0_13 z0_14 z0_15 z0_16 z0_17 z0_18 z0_19 z0_20 z0_21 z0_22 z0_23 z0_24 z0_25 x10_1 x11_1 k1 z0_26 HK1 c19b0 t122 A27 t125 A28 t128 t129 A29 t131 A30 t134 A31 t137 t140 A32 t141 A33 t144 A34 t147 t148 t149 A35 Ao37 co37 HO114 HO117 z0_27 z0_28 z0_29 z0_30 z0_31 w38 z0_32 w39 z0_33 w40 Ao41 co41 Ao42 co42 z0_34 w43 z0_35 z0_36 z0_37 w44 z0_38 w45 z0_39 w46 Ao47 co47 Ao48 co48 z0_40 w49 v138 z0_41 HT_ HW_ w50 z0_42 v142 v145 gb150 w57 hS_ HO124 HO127 HO133 HO136 HO139 HO143 HO146 z0_43 z0_44 z0_45 z0_46 z0_47 z0_48 z0_49 GW150 GE150 NB101_150 NB150_101 NB102_150 NB150_102 NB111_150 NB150_111 z0_50 z0_51 hs58 hfs58 hns58_0 hns58_1 hns58_2 hms58_0 hms58_1 hms58_2 hs59 hfs59 hns59_0 hns59_1 hns59_2 hms59_0 hms59_1 hms59_2 hHeld z0_52 z0_53 z0_54 z0_55 z0_56 z0_57 z0_58 z0_59 z0_60 z0_61 z0_62 z0_63 z0_64 z0_65 z0_66 z0_67 z0_68 z0_69 z0_70 z0_71 z0_72 z0_73 z0_74 z0_75 z0_76 z0_77 z0_78 z0_79 z0_80 z0_81 z0_82 z0_83 z0_84 z0_85 z0_86 z0_87 z0_88 z0_89 z0_90 z0_91 z0_92 z0_93 z0_94 z0_95 z0_96 z0_97 z0_98 z0_99 z0_100 z0_101 z0_102 z0_103 z0_104 z0_105 z0_106 z0_107 z0_108 z0_109 z0_110 z0_111 z0_112 z0_113 z0_114 z0_115 z0_116 z0_117 z0_118 z0_119 z0_120 z0_121 z0_122 z0_123 z0_124 z0_125 z0_126 z0_127 z0_128 z0_129 z0_130 z0_131 z0_132 z0_133 z0_134 z0_135 z0_136 z0_137 z0_138 z0_139 z0_140 z0_141 z0_142 z0_143 z0_144 z0_145 z0_146 z0_147 z0_148 z0_149 z0_150 z0_151 z0_152 z0_153 z0_154 z0_155 z0_156 z0_157 z0_158 z0_159 z0_160 z0_161 z0_162 z0_163 z0_164 z0_165 z0_166 z0_167 z0_168 z0_169 z0_170 z0_171 z0_172 z0_173 z0_174 z0_175 z0_176 z0_177 u155 z0_178 z0_179 z0_180 z0_181 z0_182 z0_183 z0_184 z0_185 z0_186 z0_187 z0_188 z0_189 z0_190 z0_191 z0_192 z0_193 z0_194 z0_195 z0_196 z0_197 z0_198 z0_199 z0_200 z0_201 z0_202 z0_203 z0_204 z0_205 z0_206 z0_207 z0_208 z0_209 z0_210 z0_211 z0_212 z0_213 z0_214 z0_215 z0_216 z0_217 z0_218 z0_219 z0_220 z0_221 z0_222 z0_223 z0_224 z0_225 z0_226 z0_227 z0_228 z0_229 z0_230 z0_231 z0_232 z0_233 z0_234 z0_235 z0_236 z0_237 z0_238 z0_239 z0_240 z0_241 z0_242 z0_243 z0_244 z0_245 z0_246 z0_247 z0_248 z0_249 z0_250 z0_251 z0_252 z0_253 z0_254 z0_255 z0_256 z0_257 z0_258 z0_259 z0_260 z0_261 z0_262 z0_263 z0_264 z0_265 z0_266 z0_267 z0_268 z0_269 z0_270 z0_271 z0_272 z0_273 z0_274 z0_275 z0_276 z0_277 z0_278 z0_279 z0_280 z0_281 z0_282 z0_283 z0_284 HO_10 HO_15 z0_285 z0_286 z0_287 z0_288 z0_289 kj35 HJ35 wc u29 u30 u31 u32 u33 u34 u35 u36 u37 u38 u39 u40 u41 u42 u43 u44 u45 u46 u47 u48 u49 u50 u51 u52 u53 u54 u55 u56 u57 u58 u59 u60 u61 u62 u63 u64 u65 u66 u67 u68 u69 u70 u71 u72 u73 u74 u75 u76 u77 u78 u79 u80 u81 u82 u83 u84 u85 u86 u87 u88 u89 u90 u91 u92 u93 u94 u95 u96 u97 u98 u99 u100 u101 u102 u103 u104 u105 u106 u107 u108 u109 u110 u111 u112 u113 u114 u115 u116 u117 u118 u119 u120 u121 u122 u123 u124 u125 u126 u127 u128 u129 u130 u131 u132 u133 u134 u135 u136 u137 u138 u139 u140 u141 u142 u143 u144 u145 u146 u147 u148 u149 u150 u151 u152 u153 u154 z0_290 z0_291 z0_292 z0_293 z0_294 z0_295 z0_296 z0_297 z0_298 z0_299 z0_300 z0_301 z0_302 z0_303 z0_304 z0_305 z0_306 z0_307 z0_308 z0_309 z0_310 z0_311 z0_312 z0_313 z0_314 z0_315 z0_316 z0_317 z0_318 z0_319 z0_320 z0_321 z0_322 z0_323 z0_324 z0_325 z0_326 z0_327 z0_328 z0_329 z0_330 z0_331 z0_332 z0_333 z0_334 z0_335 z0_336 z0_337 z0_338 z0_339 z0_340 z0_341 z0_342 z0_343 z0_344 z0_345 u212 u213 z0_346 z0_347 z0_348 z0_349 z0_350 z0_351 z0_352 z0_353 z0_354 z0_355 z0_356 z0_357 z0_358 z0_359 z0_360 z0_361 z0_362 u231 u232 u233 u234 u235 u236 u237 u238 u239 u240 u241 u242 u243 u244 u245 u246 u247 u248 u249 u250 u251 u252 u253 u254 u255 u256 u257 u258 u259 u260 z0_363 z0_364 z0_365 z0_366 z0_367 z0_368 z0_369 kj132 HJ132 z0_370 z0_371 u6 u20 u21 u22 u23 u156 u157 u158 u159 u160 u161 u162 u163 u164 u165 u166 u167 u168 u169 u170 u171 u172 u173 u174 u175 u176 u177 u178 u179 u180 u181 u182 u183 u184 u185 u186 u187 u188 u189 u190 u191 u192 u193 u194 u195 u196 u197 u198 u199 u200 u201 u202 u203 u204 u205 u206 u207 u208 u209 u210 u211 z0_372 z0_373 z0_374 x19_4 k4 z0_375 HK4 c226b0 t184 A296 H' z0_376 z0_377 w297 v185 HO_8 HO_9 HO186 BK101 BK102 BK111 BK150 HB z0_378 z0_379 gk wr u25 u214 u215 u216 u217 u218 u219 u220 u221 u222 u223 u224 u225 u226 u227 u228 u229 u230 hrel z0_380 z0_381 z0_382 z0_383
 clear H'
 try clear c226b0
 obtain ⟨x24_5, x25_5, rfl, HA, HK5, HO_9, HO_24, BK101, BK102, BK111, BK150, HB⟩ := hrel
 rcases gk with _ | k5
 ·exact absurd HA.out (by simp [lR.l2])
 have H := HA.out
 clear HA
 simp only [lR.l2] at H
 by_cases c298 : x25_5 < (x24_5.length : Int)
 ·rw [if_pos c298] at H
  have c298b0 : decide (x25_5 < (x24_5.length : Int)) = true := decide_eq_true c298
  clear c298
  by_cases c299 : 0 ≤ x25_5
  ·rw [if_pos c299] at H
   have c299b0 : decide (0 ≤ x25_5) = true := decide_eq_true c299
   clear c299
   obtain ⟨y188, hy188⟩ : ∃ y_ : List (S74), y_ = (x24_5.set (x25_5 : Int).toNat (⟨(rd_T74 x24_5 x25_5).f0, (rd_T74 x24_5 x25_5).f1, (⟨(rd_T74 x24_5 x25_5).f2.f0, (rd_T74 x24_5 x25_5).f2.f0⟩ : S36), (⟨(rd_T74 x24_5 x25_5).f3.f0, (rd_T74 x24_5 x25_5).f3.f1⟩ : S36)⟩ : S74)) := ⟨_, rfl⟩
   replace H : (lR.l2 k5 t112 t129 t149 y188 (wrap64 (x25_5 + 1)) t103 t104 t105 t106 t107 t147 t148) = some r := by first | (rw [hy188]; with_reducible exact H) | (have H2_ := (Option.bind_some _ _).symm.trans H; rw [hy188]; with_reducible exact H2_) | (have H2_ := (Option.bind_some _ _).symm.trans H; with_reducible exact H2_) | with_reducible exact H | (rw [hy188]; exact H) | exact H
   have Ny188 := Aside0.mk hy188
   clear hy188
   have H' := Aside0.mk H
   clear H
   obtain ⟨Ao301, co301, eo301⟩ := Kd.R_slice HO_24.out
   subst eo301
   have p187 : 0 ≤ (x25_5 : Int) := of_decide_eq_true (by first | (with_reducible assumption) | assumption)
   have q187 : x25_5 < (x24_5.length : Int) := of_decide_eq_true (by first | (with_reducible assumption) | assumption)
   obtain ⟨ad187, e187, hx187_0, hx187_1, hx187_2, hx187_3, hx187_4, hx187_5⟩ := at_T74 (Kd.R_reads' HO_24.out).2.2 x25_5 p187 q187
   cases e187
   replace p187 := eq_true p187
   replace q187 := eq_true q187
   have p300 : 0 ≤ (x25_5 : Int) := of_decide_eq_true (by first | (with_reducible assumption) | assumption)
   have q300 : (x25_5 : Int) < ((x24_5.length : Int) : Int) := of_decide_eq_true (by first | (with_reducible assumption) | assumption)
   obtain ⟨go300, co300, eo300, gb300, gl300, cl300, HG300⟩ := Kd.R_form HO_24.out (by omega)
   (first | cases eo300 | (injection eo300 with ea_ en_ ec_; (first | subst ea_ | (injection ea_ with ea_; subst ea_)); subst ec_; clear en_))
   have GB300 := Aside0.mk gb300
   have GG300 := Aside0.mk HG300
   clear gb300 gl300 HG300
   (first | simp only [add_plain] at hx187_0 | skip)
   (first | simp only [add_plain] at hx187_1 | skip)
   (first | simp only [add_plain] at hx187_2 | skip)
   (first | simp only [add_plain] at hx187_3 | skip)
   (first | simp only [add_plain] at hx187_4 | skip)
   (first | simp only [add_plain] at hx187_5 | skip)
   obtain ⟨ce300, hcl300, hM300, hcc300, hfr300⟩ := Kd.R_elem HO_24.out z74 (x25_5 : Int) p300 q300
   obtain rfl := k74_openM hM300
   have hx300_0 : wr.cell? ⟨go300, (x25_5 : Int).toNat * 6, none⟩ = some (.int .i64 ((rd_T74 x24_5 x25_5).f0)) := hcc300 0 _ rfl
   have hx300_1 : wr.cell? ⟨go300, (x25_5 : Int).toNat * 6 + 1, none⟩ = some (.int .i64 ((rd_T74 x24_5 x25_5).f1)) := hcc300 1 _ rfl
   have hx300_2 : wr.cell? ⟨go300, (x25_5 : Int).toNat * 6 + 2, none⟩ = some (.int .i64 ((rd_T74 x24_5 x25_5).f2.f0)) := hcc300 2 _ rfl
   have hx300_3 : wr.cell? ⟨go300, (x25_5 : Int).toNat * 6 + 3, none⟩ = some (.int .i64 ((rd_T74 x24_5 x25_5).f2.f1)) := hcc300 3 _ rfl
   have hx300_4 : wr.cell? ⟨go300, (x25_5 : Int).toNat * 6 + 4, none⟩ = some (.int .i64 ((rd_T74 x24_5 x25_5).f3.f0)) := hcc300 4 _ rfl
   have hx300_5 : wr.cell? ⟨go300, (x25_5 : Int).toNat * 6 + 5, none⟩ = some (.int .i64 ((rd_T74 x24_5 x25_5).f3.f1)) := hcc300 5 _ rfl
   have hf300_0 : wr.frozen? ⟨go300, (x25_5 : Int).toNat * 6, none⟩ = false := hfr300 0
   have hf300_1 : wr.frozen? ⟨go300, (x25_5 : Int).toNat * 6 + 1, none⟩ = false := hfr300 1
   have hf300_2 : wr.frozen? ⟨go300, (x25_5 : Int).toNat * 6 + 2, none⟩ = false := hfr300 2
   have hf300_3 : wr.frozen? ⟨go300, (x25_5 : Int).toNat * 6 + 3, none⟩ = false := hfr300 3
   have hf300_4 : wr.frozen? ⟨go300, (x25_5 : Int).toNat * 6 + 4, none⟩ = false := hfr300 4
   have hf300_5 : wr.frozen? ⟨go300, (x25_5 : Int).toNat * 6 + 5, none⟩ = false := hfr300 5
   clear hcl300 hcc300 hfr300 hM300
   replace p300 := eq_true p300
   replace q300 := eq_true q300
   have HX302 := Aside0.mk (show Kd.R k74 74 wr w.heap.size (fun _ => True) (.slice (some ⟨go300, 0, none⟩) x24_5.length co301) x24_5 from (R_ HO_24))
   obtain ⟨ce302, hcl302, hM302, hcc302, hfr302⟩ := Kd.R_elem HX302.out z74 (x25_5 : Int) (of_decide_eq_true (by first | (with_reducible assumption) | assumption)) (by have h_ : (x25_5 : Int) < ((x24_5.length : Int) : Int) := of_decide_eq_true (by first | (with_reducible assumption) | assumption); first | exact h_ | (have e_ := (Kd.R_reads' HO_24.out).1; omega) | simpa using h_)
   obtain rfl := k74_openM hM302
   have HP302 := Kd.R_seg HX302.out (x25_5 : Int) (of_decide_eq_true (by first | (with_reducible assumption) | assumption)) (by have h_ : (x25_5 : Int) < ((x24_5.length : Int) : Int) := of_decide_eq_true (by first | (with_reducible assumption) | assumption); first | exact h_ | (have e_ := (Kd.R_reads' HO_24.out).1; omega) | simpa using h_) (seg := [.int .i64 ((rd_T74 x24_5 x25_5).f2.f0)]) (j := 3) hcl302 hcc302 (show 4 ≤ 6 from by decide) (x' := (⟨(rd_T74 x24_5 x25_5).f0, (rd_T74 x24_5 x25_5).f1, (⟨(rd_T74 x24_5 x25_5).f2.f0, (rd_T74 x24_5 x25_5).f2.f0⟩ : S36), (⟨(rd_T74 x24_5 x25_5).f3.f0, (rd_T74 x24_5 x25_5).f3.f1⟩ : S36)⟩ : S74)) (k74_mkM _ _ _ (⟨(rd_T74 x24_5 x25_5).f0, (rd_T74 x24_5 x25_5).f1, (⟨(rd_T74 x24_5 x25_5).f2.f0, (rd_T74 x24_5 x25_5).f2.f0⟩ : S36), (⟨(rd_T74 x24_5 x25_5).f3.f0, (rd_T74 x24_5 x25_5).f3.f1⟩ : S36)⟩ : S74) ) (fun _ hk => hk)
   have hx302_3 := hcc302 3 _ rfl
   (try simp only [show (k74).sz = 6 from rfl, Nat.mul_one, Nat.add_zero] at hx302_3)
   have hf302_3 := hfr302 3
   (try simp only [show (k74).sz = 6 from rfl, Nat.mul_one, Nat.add_zero] at hf302_3)
   clear hcl302 hcc302 hfr302 hM302
   go_wp2_with (first | ((with_reducible refine gate_store (t := 3) (p := 230) rfl ?_); refine store_event (t := 3) (p := 230) (v := ?vo_w303) (w1 := (wr.setCell ⟨go300, (x25_5 : Int).toNat * 6 + 3, none⟩ (.int .i64 ((rd_T74 x24_5 x25_5).f2.f0)))) ?hg ?ho ?hn ?hr ?_; (case ho => rfl); (case hg => rfl); (case hn => rfl); (case hr => first | (go_simp; done) | (go_simp; rfl)); intro w303 hw; have hg : wr.grownBy w303 (some go300) := (by rw [hw]; exact HP302.2); have hp_ : Kd.R k74 74 w303 w.heap.size (fun _ => True) (.slice (some ⟨go300, 0, none⟩) x24_5.length co301) y188 := (by rw [hw, Ny188.out]; exact HP302.1); clear HP302; have n0_ := Aside0.mk (Kd.R_over' (v := (.slice (some ⟨go300, 0, none⟩) x24_5.length co301)) (R_ HO_9) (Kd.R_typed HO_24.out) (by decide) hg); have n1_ := Aside0.mk (hp_); have n2_ := Aside0.mk (blk_grown (g := gb101) (o := .cells #[.int .u8 a0_0, .int .u8 a0_1, .int .u8 a0_2, .int .u8 a0_3, .int .u8 a0_4, .slice A0_5 l0_5.length c0_5] 66 (0, 0)) (b_ BK101) hg (Kd.R_ne HO_24.out BK101.out (by decide))); have n3_ := Aside0.mk (blk_grown (g := gb102) (o := .cells #[.int .u8 a2_0, .int .u8 a2_1, .int .u8 a2_2, .int .u8 a2_3, .int .u8 a2_4, .int .u8 a2_5] 67 (0, 0)) (b_ BK102) hg (Kd.R_ne HO_24.out BK102.out (by decide))); have n4_ := Aside0.mk (blk_grown (g := gb111) (o := .cells #[.int .i64 t103, .int .i64 t104, .int .i64 t105, .int .i64 t106, .int .i64 t107] 23 (0, 0)) (b_ BK111) hg (Kd.R_ne HO_24.out BK111.out (by decide))); have n5_ := Aside0.mk (blk_grown (g := gb150) (o := .cells #[.int .i64 t147, .int .i64 t148] 36 (0, 0)) (b_ BK150) hg (Kd.R_ne HO_24.out BK150.out (by decide))); have n6_ := Aside0.mk ((by rw [hw]; exact below_set (HB.out) GB300.out : Below w.heap.size w w303)); clear HO_9; clear HO_24; clear BK101; clear BK102; clear BK111; clear BK150; clear HB; have HO_9 := n0_; have HO_24 := n1_; have BK101 := n2_; have BK102 := n3_; have BK111 := n4_; have BK150 := n5_; have HB := n6_; clear n0_ n1_ n2_ n3_ n4_ n5_ n6_; clear hg hw hp_))
   go_roundg k5
   case measure => have := HK1.out; have := HJ35.out; have := HJ132.out; have := HK4.out; have := HK5.out; omega
   case rel => exact ⟨(y188), (wrap64 (x25_5 + 1)), (by first | rfl | (simp; done) | (simp [*]; done)), H', ⟨by have := HK1.out; have := HJ35.out; have := HJ132.out; have := HK4.out; have := HK5.out; omega⟩, ⟨R_ HO_9⟩, ⟨R_ HO_24⟩, ⟨b_ BK101⟩, ⟨b_ BK102⟩, ⟨b_ BK111⟩, ⟨b_ BK150⟩, ⟨Bq HB⟩⟩
  rw [if_neg c299] at H
  exact absurd H (by simp)
 rw [if_neg c298] at H
 have c298b0 : decide (x25_5 < (x24_5.length : Int)) = false := decide_eq_false c298
 clear c298
 replace H := Option.bind_eq_some_iff.mp H
 obtain ⟨t189, A3040, H⟩ := H
 replace H : ((goesC.f t103 t104 t105 t106 t107 x24_5 t189).bind fun bt192 => (if bt192.1 = true then (if t129 = true then (if t149 = 0 then (if t147 ≤ t148 then ((knownC.f).bind fun _ => (some true)) else (some false)) else ((knownC.f).bind fun _ => (some true))) else (some false)) else (if t129 = true then (some false) else (if t149 = 0 then (if t147 ≤ t148 then ((knownC.f).bind fun _ => (some true)) else (some false)) else ((knownC.f).bind fun _ => (some true)))))) = some r := H
 have A304 := Aside0.mk A3040
 clear A3040
 replace H := Option.bind_eq_some_iff.mp H
 obtain ⟨⟨t192, t193⟩, A3050, H⟩ := H
 replace H : (if t192 = true then (if t129 = true then (if t149 = 0 then (if t147 ≤ t148 then ((knownC.f).bind fun _ => (some true)) else (some false)) else ((knownC.f).bind fun _ => (some true))) else (some false)) else (if t129 = true then (some false) else (if t149 = 0 then (if t147 ≤ t148 then ((knownC.f).bind fun _ => (some true)) else (some false)) else ((knownC.f).bind fun _ => (some true))))) = some r := H
 have A305 := Aside0.mk A3050
 clear A3050
 by_cases c306 : t192 = true
 ·subst c306
  have H1 : (if t129 = true then (if t149 = 0 then (if t147 ≤ t148 then ((knownC.f).bind fun _ => (some true)) else (some false)) else ((knownC.f).bind fun _ => (some true))) else (some false)) = some r := by rw [if_pos rfl] at H; exact H
  clear H
  have H := H1
  clear H1
  by_cases c307 : t129 = true
  ·subst c307
   have H1 : (if t149 = 0 then (if t147 ≤ t148 then ((knownC.f).bind fun _ => (some true)) else (some false)) else ((knownC.f).bind fun _ => (some true))) = some r := by rw [if_pos rfl] at H; exact H
   clear H
   have H := H1
   clear H1
   by_cases c308 : t149 = 0
   ·rw [if_pos c308] at H
    have c308b0 : (t149 == 0) = true := beq_iff_eq.mpr c308
    have c308b1 : (t149 != 0) = false := bne_eq_false_iff_eq.mpr c308
    clear c308
    by_cases c309 : t147 ≤ t148
    ·rw [if_pos c309] at H
     have c309b0 : decide (t147 ≤ t148) = true := decide_eq_true c309
     clear c309
     replace H := Option.bind_eq_some_iff.mp H
     obtain ⟨_, A3100, H⟩ := H
     replace H : (some true) = some r := H
     have A310 := Aside0.mk A3100
     clear A3100
     obtain rfl := Option.some.inj H
     obtain ⟨Ao311, co311, eo311⟩ := Kd.R_slice HO_24.out
     subst eo311
     try go_wp2
     have n0_ := Aside0.mk (Kd.R_drew HO_9.out)
     have n1_ := Aside0.mk (Kd.R_drew HO_24.out)
     have n2_ := Aside0.mk (blk_drew BK101.out)
     have n3_ := Aside0.mk (blk_drew BK102.out)
     have n4_ := Aside0.mk (blk_drew BK111.out)
     have n5_ := Aside0.mk (blk_drew BK150.out)
     have n6_ := Aside0.mk (below_drew1 HB.out)
     clear HO_9
     clear HO_24
     clear BK101
     clear BK102
     clear BK111
     clear BK150
     clear HB
     have HO_9 := n0_
     have HO_24 := n1_
     have BK101 := n2_
     have BK102 := n3_
     have BK111 := n4_
     have BK150 := n5_
     have HB := n6_
     clear n0_ n1_ n2_ n3_ n4_ n5_ n6_
     refine start_ (n := 12) (S := fun w' => w'.cell? ⟨gb111, 0, none⟩ = some (.int .i64 t103) ∧ w'.cell? ⟨gb111, 1, none⟩ = some (.int .i64 t104) ∧ w'.cell? ⟨gb111, 2, none⟩ = some (.int .i64 t105) ∧ w'.cell? ⟨gb111, 3, none⟩ = some (.int .i64 t106) ∧ w'.cell? ⟨gb111, 4, none⟩ = some (.int .i64 t107)) (ds := []) (bl 12 0) (by kernel_rfl) rfl rfl ⟨kc BK111 0, kc BK111 1, kc BK111 2, kc BK111 3, kc BK111 4⟩ (fun hHeld => ?_); refine with_tabW lR.tab28 lR.bits28 (fun HT_ HW_ => ?_)
     generalize wr.drew = w312 at HO_9 HO_24 BK101 BK102 BK111 BK150 HB hHeld ⊢
     refine pS 1 233 12 2 HT_ ?_
     refine pS 2 234 12 6 HT_ ?_
     refine tq 0 (some 232) (bl 12 7) HT_ HW_ hHeld (h := ?_)
     refine one_ (i := 3) (N := some 235) (bl 12 15) rfl rfl (one_of HT_.out (by kernel_rfl)) (by decide) (fun K hK => ?_)
     refine goes_ Tryd.func15 (by kernel_rfl) rfl #[.slice Ao37 t112.length co37] (by rfl) rfl rfl (by (try simp only [List.map_toArray, List.map_cons, List.map_nil]); first | done | rfl | (simp only [List.length_drop, List.length_take]; rfl)) ?_
     with_reducible refine (smaltolaw03_ints.calls _ _ t112 t189 _ ?side1 ?side2 A304.out).mono ?_
     (case side1 => exact rC HO_9)
     (case side2 => exact (Kd.R_reads' HO_9.out).2.1)
     rintro e w313 ⟨v190, rfl, ho0, hb⟩
     refine ⟨_, rfl, ?_⟩
     have n0_ := Aside0.mk (Kd.R_elder' (R_ HO_9) (Kd.R_base ho0) hb)
     have n1_ := RB HO_24 hb
     have n2_ := Aside0.mk (Kd.R_lower (Kd.R_new' ho0 (Kd.R_lt (R_ HO_9))) (below_size (Bq HB)))
     have n3_ := bb BK101 hb
     have n4_ := bb BK102 hb
     have n5_ := bb BK111 hb
     have n6_ := bb BK150 hb
     have n7_ := Aside0.mk (below_step (Bq HB) hb)
     clear HO_9
     clear HO_24
     clear BK101
     clear BK102
     clear BK111
     clear BK150
     clear HB
     have HO_9 := n0_
     have HO_24 := n1_
     have HO191 := n2_
     have BK101 := n3_
     have BK102 := n4_
     have BK111 := n5_
     have BK150 := n6_
     have HB := n7_
     clear n0_ n1_ n2_ n3_ n4_ n5_ n6_ n7_
     (try clear hb)
     (try clear hb2)
     (try clear hk)
     (try clear hi)
     (try clear ho0)
     obtain ⟨Ao314, co314, eo314⟩ := Kd.R_slice HO191.out
     (first | subst eo314 | (injection eo314 with f1_ f2_ f3_; have f4_ := f1_.symm; have f5_ := f3_.symm; clear f1_ f2_ f3_; subst f4_; subst f5_))
     refine hK.out _ _ ⟨kc BK111 0, kc BK111 1, kc BK111 2, kc BK111 3, kc BK111 4⟩ (fun hHeld => ?_)
     clear hK K
     refine nq 235 ?_
     refine one_ (i := 4) (N := some 236) (bl 12 31) rfl rfl (one_of HT_.out (by kernel_rfl)) (by decide) (fun K hK => ?_)
     refine goes_ Tryd.func17 (by kernel_rfl) rfl #[.agg #[.int .i64 t103, .int .i64 t104, .int .i64 t105, .int .i64 t106, .int .i64 t107], .slice Ao311 x24_5.length co311, .slice Ao314 t189.length co314] (by rfl) rfl rfl (by (try simp only [List.map_toArray, List.map_cons, List.map_nil]); first | done | rfl | (simp only [List.length_drop, List.length_take]; rfl)) ?_
     with_reducible refine (goesC.calls t103 t104 t105 t106 t107 _ _ x24_5 _ _ t189 true t193 _ ?side5 ?side1 ?side2 ?side3 ?side4 A305.out).mono ?_
     (case side1 => exact rC HO_24)
     (case side2 => exact (Kd.R_reads' HO_24.out).2.1)
     (case side3 => exact rC HO191)
     (case side4 => exact (Kd.R_reads' HO191.out).2.1)
     (case side5 => exact Hand.TabW.below HTAB.out (Bq HB))
     rintro e w315 ⟨rfl, hb⟩
     refine ⟨_, rfl, ?_⟩
     have n0_ := RB HO_9 hb
     have n1_ := RB HO_24 hb
     have n2_ := RB HO191 hb
     have n3_ := bb BK101 hb
     have n4_ := bb BK102 hb
     have n5_ := bb BK111 hb
     have n6_ := bb BK150 hb
     have n7_ := Aside0.mk (below_step (Bq HB) hb)
     clear HO_9
     clear HO_24
     clear HO191
     clear BK101
     clear BK102
     clear BK111
     clear BK150
     clear HB
     have HO_9 := n0_
     have HO_24 := n1_
     have HO191 := n2_
     have BK101 := n3_
     have BK102 := n4_
     have BK111 := n5_
     have BK150 := n6_
     have HB := n7_
     clear n0_ n1_ n2_ n3_ n4_ n5_ n6_ n7_
     (try clear hb)
     (try clear hb2)
     (try clear hk)
     (try clear hi)
     refine hK.out _ _ ⟨kc BK111 0, kc BK111 1, kc BK111 2, kc BK111 3, kc BK111 4⟩ (fun hHeld => ?_)
     clear hK K
     refine nq 236 ?_
     refine pS 5 231 12 63 HT_ ?_
     refine pS 6 237 12 127 HT_ ?_
     refine pS 7 238 12 255 HT_ ?_
     refine pS 8 239 12 511 HT_ ?_
     refine pS 9 26 12 1023 HT_ ?_
     refine pS 10 27 12 2047 HT_ ?_
     refine pS 11 28 12 4095 HT_ ?_
     refine done_ (done_of HT_.out (by kernel_rfl)) ?_
     have hnb316 := NB150_101.out
     have hnc316 := NB101_150.out
     have hnb317 := NB150_102.out
     have hnc317 := NB102_150.out
     have hnb318 := NB150_111.out
     have hnc318 := NB111_150.out
     have hcz319_0 : w315.cell? ⟨gb150, 0, none⟩ = some (.int .i64 t147) := kc BK150 0
     have hcz319_1 : w315.cell? ⟨gb150, 1, none⟩ = some (.int .i64 t148) := kc BK150 1
     have hfz319_0 := blk_frozen BK150.out 0
     have hfz319_1 := blk_frozen BK150.out 1
     try go_wp2_with (first | (go_at_call 13; (with_reducible refine (knownC.calls   _ ?side1 A310.out).mono ?_); (case side1 => exact Hand.TabW.below HTAB.out (Bq HB)); rintro e w320 ⟨rfl, hb⟩; have n0_ := RB HO_9 hb; have n1_ := RB HO_24 hb; have n2_ := RB HO191 hb; have n3_ := bb BK101 hb; have n4_ := bb BK102 hb; have n5_ := bb BK111 hb; have n6_ := bb BK150 hb; have n7_ := Aside0.mk (below_step (Bq HB) hb); clear HO_9; clear HO_24; clear HO191; clear BK101; clear BK102; clear BK111; clear BK150; clear HB; have HO_9 := n0_; have HO_24 := n1_; have HO191 := n2_; have BK101 := n3_; have BK102 := n4_; have BK111 := n5_; have BK150 := n6_; have HB := n7_; clear n0_ n1_ n2_ n3_ n4_ n5_ n6_ n7_; (try clear hb); (try clear hb2); (try clear hk); (try clear hi)))
     go_ret
     exact ⟨by first | rfl | (simp [errW_none, errW_some] <;> rfl) | (simp [*, errW_none, errW_some] <;> rfl), Bq HB⟩
    rw [if_neg c309] at H
    have c309b0 : decide (t147 ≤ t148) = false := decide_eq_false c309
    clear c309
    obtain rfl := Option.some.inj H
    obtain ⟨Ao321, co321, eo321⟩ := Kd.R_slice HO_24.out
    subst eo321
    try go_wp2
    have n0_ := Aside0.mk (Kd.R_drew HO_9.out)
    have n1_ := Aside0.mk (Kd.R_drew HO_24.out)
    have n2_ := Aside0.mk (blk_drew BK101.out)
    have n3_ := Aside0.mk (blk_drew BK102.out)
    have n4_ := Aside0.mk (blk_drew BK111.out)
    have n5_ := Aside0.mk (blk_drew BK150.out)
    have n6_ := Aside0.mk (below_drew1 HB.out)
    clear HO_9
    clear HO_24
    clear BK101
    clear BK102
    clear BK111
    clear BK150
    clear HB
    have HO_9 := n0_
    have HO_24 := n1_
    have BK101 := n2_
    have BK102 := n3_
    have BK111 := n4_
    have BK150 := n5_
    have HB := n6_
    clear n0_ n1_ n2_ n3_ n4_ n5_ n6_
    refine start_ (n := 12) (S := fun w' => w'.cell? ⟨gb111, 0, none⟩ = some (.int .i64 t103) ∧ w'.cell? ⟨gb111, 1, none⟩ = some (.int .i64 t104) ∧ w'.cell? ⟨gb111, 2, none⟩ = some (.int .i64 t105) ∧ w'.cell? ⟨gb111, 3, none⟩ = some (.int .i64 t106) ∧ w'.cell? ⟨gb111, 4, none⟩ = some (.int .i64 t107)) (ds := []) (bl 12 0) (by kernel_rfl) rfl rfl ⟨kc BK111 0, kc BK111 1, kc BK111 2, kc BK111 3, kc BK111 4⟩ (fun hHeld => ?_); refine with_tabW lR.tab28 lR.bits28 (fun HT_ HW_ => ?_)
    generalize wr.drew = w322 at HO_9 HO_24 BK101 BK102 BK111 BK150 HB hHeld ⊢
    refine pS 1 233 12 2 HT_ ?_
    refine pS 2 234 12 6 HT_ ?_
    refine tq 0 (some 232) (bl 12 7) HT_ HW_ hHeld (h := ?_)
    refine one_ (i := 3) (N := some 235) (bl 12 15) rfl rfl (one_of HT_.out (by kernel_rfl)) (by decide) (fun K hK => ?_)
    refine goes_ Tryd.func15 (by kernel_rfl) rfl #[.slice Ao37 t112.length co37] (by rfl) rfl rfl (by (try simp only [List.map_toArray, List.map_cons, List.map_nil]); first | done | rfl | (simp only [List.length_drop, List.length_take]; rfl)) ?_
    with_reducible refine (smaltolaw03_ints.calls _ _ t112 t189 _ ?side1 ?side2 A304.out).mono ?_
    (case side1 => exact rC HO_9)
    (case side2 => exact (Kd.R_reads' HO_9.out).2.1)
    rintro e w323 ⟨v190, rfl, ho0, hb⟩
    refine ⟨_, rfl, ?_⟩
    have n0_ := Aside0.mk (Kd.R_elder' (R_ HO_9) (Kd.R_base ho0) hb)
    have n1_ := RB HO_24 hb
    have n2_ := Aside0.mk (Kd.R_lower (Kd.R_new' ho0 (Kd.R_lt (R_ HO_9))) (below_size (Bq HB)))
    have n3_ := bb BK101 hb
    have n4_ := bb BK102 hb
    have n5_ := bb BK111 hb
    have n6_ := bb BK150 hb
    have n7_ := Aside0.mk (below_step (Bq HB) hb)
    clear HO_9
    clear HO_24
    clear BK101
    clear BK102
    clear BK111
    clear BK150
    clear HB
    have HO_9 := n0_
    have HO_24 := n1_
    have HO191 := n2_
    have BK101 := n3_
    have BK102 := n4_
    have BK111 := n5_
    have BK150 := n6_
    have HB := n7_
    clear n0_ n1_ n2_ n3_ n4_ n5_ n6_ n7_
    (try clear hb)
    (try clear hb2)
    (try clear hk)
    (try clear hi)
    (try clear ho0)
    obtain ⟨Ao324, co324, eo324⟩ := Kd.R_slice HO191.out
    (first | subst eo324 | (injection eo324 with f1_ f2_ f3_; have f4_ := f1_.symm; have f5_ := f3_.symm; clear f1_ f2_ f3_; subst f4_; subst f5_))
    refine hK.out _ _ ⟨kc BK111 0, kc BK111 1, kc BK111 2, kc BK111 3, kc BK111 4⟩ (fun hHeld => ?_)
    clear hK K
    refine nq 235 ?_
    refine one_ (i := 4) (N := some 236) (bl 12 31) rfl rfl (one_of HT_.out (by kernel_rfl)) (by decide) (fun K hK => ?_)
    refine goes_ Tryd.func17 (by kernel_rfl) rfl #[.agg #[.int .i64 t103, .int .i64 t104, .int .i64 t105, .int .i64 t106, .int .i64 t107], .slice Ao321 x24_5.length co321, .slice Ao324 t189.length co324] (by rfl) rfl rfl (by (try simp only [List.map_toArray, List.map_cons, List.map_nil]); first | done | rfl | (simp only [List.length_drop, List.length_take]; rfl)) ?_
    with_reducible refine (goesC.calls t103 t104 t105 t106 t107 _ _ x24_5 _ _ t189 true t193 _ ?side5 ?side1 ?side2 ?side3 ?side4 A305.out).mono ?_
    (case side1 => exact rC HO_24)
    (case side2 => exact (Kd.R_reads' HO_24.out).2.1)
    (case side3 => exact rC HO191)
    (case side4 => exact (Kd.R_reads' HO191.out).2.1)
    (case side5 => exact Hand.TabW.below HTAB.out (Bq HB))
    rintro e w325 ⟨rfl, hb⟩
    refine ⟨_, rfl, ?_⟩
    have n0_ := RB HO_9 hb
    have n1_ := RB HO_24 hb
    have n2_ := RB HO191 hb
    have n3_ := bb BK101 hb
    have n4_ := bb BK102 hb
    have n5_ := bb BK111 hb
    have n6_ := bb BK150 hb
    have n7_ := Aside0.mk (below_step (Bq HB) hb)
    clear HO_9
    clear HO_24
    clear HO191
    clear BK101
    clear BK102
    clear BK111
    clear BK150
    clear HB
    have HO_9 := n0_
    have HO_24 := n1_
    have HO191 := n2_
    have BK101 := n3_
    have BK102 := n4_
    have BK111 := n5_
    have BK150 := n6_
    have HB := n7_
    clear n0_ n1_ n2_ n3_ n4_ n5_ n6_ n7_
    (try clear hb)
    (try clear hb2)
    (try clear hk)
    (try clear hi)
    refine hK.out _ _ ⟨kc BK111 0, kc BK111 1, kc BK111 2, kc BK111 3, kc BK111 4⟩ (fun hHeld => ?_)
    clear hK K
    refine nq 236 ?_
    refine pS 5 231 12 63 HT_ ?_
    refine pS 6 237 12 127 HT_ ?_
    refine pS 7 238 12 255 HT_ ?_
    refine pS 8 239 12 511 HT_ ?_
    refine pS 9 26 12 1023 HT_ ?_
    refine pS 10 27 12 2047 HT_ ?_
    refine pS 11 28 12 4095 HT_ ?_
    refine done_ (done_of HT_.out (by kernel_rfl)) ?_
    have hnb326 := NB150_101.out
    have hnc326 := NB101_150.out
    have hnb327 := NB150_102.out
    have hnc327 := NB102_150.out
    have hnb328 := NB150_111.out
    have hnc328 := NB111_150.out
    have hcz329_0 : w325.cell? ⟨gb150, 0, none⟩ = some (.int .i64 t147) := kc BK150 0
    have hcz329_1 : w325.cell? ⟨gb150, 1, none⟩ = some (.int .i64 t148) := kc BK150 1
    have hfz329_0 := blk_frozen BK150.out 0
    have hfz329_1 := blk_frozen BK150.out 1
    try go_wp2
    go_ret
    exact ⟨by first | rfl | (simp [errW_none, errW_some] <;> rfl) | (simp [*, errW_none, errW_some] <;> rfl), Bq HB⟩
   rw [if_neg c308] at H
   have c308b0 : (t149 == 0) = false := beq_eq_false_iff_ne.mpr c308
   have c308b1 : (t149 != 0) = true := bne_iff_ne.mpr c308
   replace H := Option.bind_eq_some_iff.mp H
   obtain ⟨_, A3300, H⟩ := H
   replace H : (some true) = some r := H
   have A330 := Aside0.mk A3300
   clear A3300
   obtain rfl := Option.some.inj H
   obtain ⟨Ao331, co331, eo331⟩ := Kd.R_slice HO_24.out
   subst eo331
   try go_wp2
   have n0_ := Aside0.mk (Kd.R_drew HO_9.out)
   have n1_ := Aside0.mk (Kd.R_drew HO_24.out)
   have n2_ := Aside0.mk (blk_drew BK101.out)
   have n3_ := Aside0.mk (blk_drew BK102.out)
   have n4_ := Aside0.mk (blk_drew BK111.out)
   have n5_ := Aside0.mk (blk_drew BK150.out)
   have n6_ := Aside0.mk (below_drew1 HB.out)
   clear HO_9
   clear HO_24
   clear BK101
   clear BK102
   clear BK111
   clear BK150
   clear HB
   have HO_9 := n0_
   have HO_24 := n1_
   have BK101 := n2_
   have BK102 := n3_
   have BK111 := n4_
   have BK150 := n5_
   have HB := n6_
   clear n0_ n1_ n2_ n3_ n4_ n5_ n6_
   refine start_ (n := 12) (S := fun w' => w'.cell? ⟨gb111, 0, none⟩ = some (.int .i64 t103) ∧ w'.cell? ⟨gb111, 1, none⟩ = some (.int .i64 t104) ∧ w'.cell? ⟨gb111, 2, none⟩ = some (.int .i64 t105) ∧ w'.cell? ⟨gb111, 3, none⟩ = some (.int .i64 t106) ∧ w'.cell? ⟨gb111, 4, none⟩ = some (.int .i64 t107)) (ds := []) (bl 12 0) (by kernel_rfl) rfl rfl ⟨kc BK111 0, kc BK111 1, kc BK111 2, kc BK111 3, kc BK111 4⟩ (fun hHeld => ?_); refine with_tabW lR.tab28 lR.bits28 (fun HT_ HW_ => ?_)
   generalize wr.drew = w332 at HO_9 HO_24 BK101 BK102 BK111 BK150 HB hHeld ⊢
   refine pS 1 233 12 2 HT_ ?_
   refine pS 2 234 12 6 HT_ ?_
   refine tq 0 (some 232) (bl 12 7) HT_ HW_ hHeld (h := ?_)
   refine one_ (i := 3) (N := some 235) (bl 12 15) rfl rfl (one_of HT_.out (by kernel_rfl)) (by decide) (fun K hK => ?_)
   refine goes_ Tryd.func15 (by kernel_rfl) rfl #[.slice Ao37 t112.length co37] (by rfl) rfl rfl (by (try simp only [List.map_toArray, List.map_cons, List.map_nil]); first | done | rfl | (simp only [List.length_drop, List.length_take]; rfl)) ?_
   with_reducible refine (smaltolaw03_ints.calls _ _ t112 t189 _ ?side1 ?side2 A304.out).mono ?_
   (case side1 => exact rC HO_9)
   (case side2 => exact (Kd.R_reads' HO_9.out).2.1)
   rintro e w333 ⟨v190, rfl, ho0, hb⟩
   refine ⟨_, rfl, ?_⟩
   have n0_ := Aside0.mk (Kd.R_elder' (R_ HO_9) (Kd.R_base ho0) hb)
   have n1_ := RB HO_24 hb
   have n2_ := Aside0.mk (Kd.R_lower (Kd.R_new' ho0 (Kd.R_lt (R_ HO_9))) (below_size (Bq HB)))
   have n3_ := bb BK101 hb
   have n4_ := bb BK102 hb
   have n5_ := bb BK111 hb
   have n6_ := bb BK150 hb
   have n7_ := Aside0.mk (below_step (Bq HB) hb)
   clear HO_9
   clear HO_24
   clear BK101
   clear BK102
   clear BK111
   clear BK150
   clear HB
   have HO_9 := n0_
   have HO_24 := n1_
   have HO191 := n2_
   have BK101 := n3_
   have BK102 := n4_
   have BK111 := n5_
   have BK150 := n6_
   have HB := n7_
   clear n0_ n1_ n2_ n3_ n4_ n5_ n6_ n7_
   (try clear hb)
   (try clear hb2)
   (try clear hk)
   (try clear hi)
   (try clear ho0)
   obtain ⟨Ao334, co334, eo334⟩ := Kd.R_slice HO191.out
   (first | subst eo334 | (injection eo334 with f1_ f2_ f3_; have f4_ := f1_.symm; have f5_ := f3_.symm; clear f1_ f2_ f3_; subst f4_; subst f5_))
   refine hK.out _ _ ⟨kc BK111 0, kc BK111 1, kc BK111 2, kc BK111 3, kc BK111 4⟩ (fun hHeld => ?_)
   clear hK K
   refine nq 235 ?_
   refine one_ (i := 4) (N := some 236) (bl 12 31) rfl rfl (one_of HT_.out (by kernel_rfl)) (by decide) (fun K hK => ?_)
   refine goes_ Tryd.func17 (by kernel_rfl) rfl #[.agg #[.int .i64 t103, .int .i64 t104, .int .i64 t105, .int .i64 t106, .int .i64 t107], .slice Ao331 x24_5.length co331, .slice Ao334 t189.length co334] (by rfl) rfl rfl (by (try simp only [List.map_toArray, List.map_cons, List.map_nil]); first | done | rfl | (simp only [List.length_drop, List.length_take]; rfl)) ?_
   with_reducible refine (goesC.calls t103 t104 t105 t106 t107 _ _ x24_5 _ _ t189 true t193 _ ?side5 ?side1 ?side2 ?side3 ?side4 A305.out).mono ?_
   (case side1 => exact rC HO_24)
   (case side2 => exact (Kd.R_reads' HO_24.out).2.1)
   (case side3 => exact rC HO191)
   (case side4 => exact (Kd.R_reads' HO191.out).2.1)
   (case side5 => exact Hand.TabW.below HTAB.out (Bq HB))
   rintro e w335 ⟨rfl, hb⟩
   refine ⟨_, rfl, ?_⟩
   have n0_ := RB HO_9 hb
   have n1_ := RB HO_24 hb
   have n2_ := RB HO191 hb
   have n3_ := bb BK101 hb
   have n4_ := bb BK102 hb
   have n5_ := bb BK111 hb
   have n6_ := bb BK150 hb
   have n7_ := Aside0.mk (below_step (Bq HB) hb)
   clear HO_9
   clear HO_24
   clear HO191
   clear BK101
   clear BK102
   clear BK111
   clear BK150
   clear HB
   have HO_9 := n0_
   have HO_24 := n1_
   have HO191 := n2_
   have BK101 := n3_
   have BK102 := n4_
   have BK111 := n5_
   have BK150 := n6_
   have HB := n7_
   clear n0_ n1_ n2_ n3_ n4_ n5_ n6_ n7_
   (try clear hb)
   (try clear hb2)
   (try clear hk)
   (try clear hi)
   refine hK.out _ _ ⟨kc BK111 0, kc BK111 1, kc BK111 2, kc BK111 3, kc BK111 4⟩ (fun hHeld => ?_)
   clear hK K
   refine nq 236 ?_
   refine pS 5 231 12 63 HT_ ?_
   refine pS 6 237 12 127 HT_ ?_
   refine pS 7 238 12 255 HT_ ?_
   refine pS 8 239 12 511 HT_ ?_
   refine pS 9 26 12 1023 HT_ ?_
   refine pS 10 27 12 2047 HT_ ?_
   refine pS 11 28 12 4095 HT_ ?_
   refine done_ (done_of HT_.out (by kernel_rfl)) ?_
   try go_wp2_with (first | (go_at_call 13; (with_reducible refine (knownC.calls   _ ?side1 A330.out).mono ?_); (case side1 => exact Hand.TabW.below HTAB.out (Bq HB)); rintro e w336 ⟨rfl, hb⟩; have n0_ := RB HO_9 hb; have n1_ := RB HO_24 hb; have n2_ := RB HO191 hb; have n3_ := bb BK101 hb; have n4_ := bb BK102 hb; have n5_ := bb BK111 hb; have n6_ := bb BK150 hb; have n7_ := Aside0.mk (below_step (Bq HB) hb); clear HO_9; clear HO_24; clear HO191; clear BK101; clear BK102; clear BK111; clear BK150; clear HB; have HO_9 := n0_; have HO_24 := n1_; have HO191 := n2_; have BK101 := n3_; have BK102 := n4_; have BK111 := n5_; have BK150 := n6_; have HB := n7_; clear n0_ n1_ n2_ n3_ n4_ n5_ n6_ n7_; (try clear hb); (try clear hb2); (try clear hk); (try clear hi)))
   go_ret
   exact ⟨by first | rfl | (simp [errW_none, errW_some] <;> rfl) | (simp [*, errW_none, errW_some] <;> rfl), Bq HB⟩
  replace c307 := Bool.eq_false_iff.mpr c307
  subst c307
  have H1 : (some false) = some r := by rw [if_neg (show ¬ (false = true) by decide)] at H; exact H
  clear H
  have H := H1
  clear H1
  obtain rfl := Option.some.inj H
  obtain ⟨Ao337, co337, eo337⟩ := Kd.R_slice HO_24.out
  subst eo337
  try go_wp2
  have n0_ := Aside0.mk (Kd.R_drew HO_9.out)
  have n1_ := Aside0.mk (Kd.R_drew HO_24.out)
  have n2_ := Aside0.mk (blk_drew BK101.out)
  have n3_ := Aside0.mk (blk_drew BK102.out)
  have n4_ := Aside0.mk (blk_drew BK111.out)
  have n5_ := Aside0.mk (blk_drew BK150.out)
  have n6_ := Aside0.mk (below_drew1 HB.out)
  clear HO_9
  clear HO_24
  clear BK101
  clear BK102
  clear BK111
  clear BK150
  clear HB
  have HO_9 := n0_
  have HO_24 := n1_
  have BK101 := n2_
  have BK102 := n3_
  have BK111 := n4_
  have BK150 := n5_
  have HB := n6_
  clear n0_ n1_ n2_ n3_ n4_ n5_ n6_
  refine start_ (n := 12) (S := fun w' => w'.cell? ⟨gb111, 0, none⟩ = some (.int .i64 t103) ∧ w'.cell? ⟨gb111, 1, none⟩ = some (.int .i64 t104) ∧ w'.cell? ⟨gb111, 2, none⟩ = some (.int .i64 t105) ∧ w'.cell? ⟨gb111, 3, none⟩ = some (.int .i64 t106) ∧ w'.cell? ⟨gb111, 4, none⟩ = some (.int .i64 t107)) (ds := []) (bl 12 0) (by kernel_rfl) rfl rfl ⟨kc BK111 0, kc BK111 1, kc BK111 2, kc BK111 3, kc BK111 4⟩ (fun hHeld => ?_); refine with_tabW lR.tab28 lR.bits28 (fun HT_ HW_ => ?_)
  generalize wr.drew = w338 at HO_9 HO_24 BK101 BK102 BK111 BK150 HB hHeld ⊢
  refine pS 1 233 12 2 HT_ ?_
  refine pS 2 234 12 6 HT_ ?_
  refine tq 0 (some 232) (bl 12 7) HT_ HW_ hHeld (h := ?_)
  refine one_ (i := 3) (N := some 235) (bl 12 15) rfl rfl (one_of HT_.out (by kernel_rfl)) (by decide) (fun K hK => ?_)
  refine goes_ Tryd.func15 (by kernel_rfl) rfl #[.slice Ao37 t112.length co37] (by rfl) rfl rfl (by (try simp only [List.map_toArray, List.map_cons, List.map_nil]); first | done | rfl | (simp only [List.length_drop, List.length_take]; rfl)) ?_
  with_reducible refine (smaltolaw03_ints.calls _ _ t112 t189 _ ?side1 ?side2 A304.out).mono ?_
  (case side1 => exact rC HO_9)
  (case side2 => exact (Kd.R_reads' HO_9.out).2.1)
  rintro e w339 ⟨v190, rfl, ho0, hb⟩
  refine ⟨_, rfl, ?_⟩
  have n0_ := Aside0.mk (Kd.R_elder' (R_ HO_9) (Kd.R_base ho0) hb)
  have n1_ := RB HO_24 hb
  have n2_ := Aside0.mk (Kd.R_lower (Kd.R_new' ho0 (Kd.R_lt (R_ HO_9))) (below_size (Bq HB)))
  have n3_ := bb BK101 hb
  have n4_ := bb BK102 hb
  have n5_ := bb BK111 hb
  have n6_ := bb BK150 hb
  have n7_ := Aside0.mk (below_step (Bq HB) hb)
  clear HO_9
  clear HO_24
  clear BK101
  clear BK102
  clear BK111
  clear BK150
  clear HB
  have HO_9 := n0_
  have HO_24 := n1_
  have HO191 := n2_
  have BK101 := n3_
  have BK102 := n4_
  have BK111 := n5_
  have BK150 := n6_
  have HB := n7_
  clear n0_ n1_ n2_ n3_ n4_ n5_ n6_ n7_
  (try clear hb)
  (try clear hb2)
  (try clear hk)
  (try clear hi)
  (try clear ho0)
  obtain ⟨Ao340, co340, eo340⟩ := Kd.R_slice HO191.out
  (first | subst eo340 | (injection eo340 with f1_ f2_ f3_; have f4_ := f1_.symm; have f5_ := f3_.symm; clear f1_ f2_ f3_; subst f4_; subst f5_))
  refine hK.out _ _ ⟨kc BK111 0, kc BK111 1, kc BK111 2, kc BK111 3, kc BK111 4⟩ (fun hHeld => ?_)
  clear hK K
  refine nq 235 ?_
  refine one_ (i := 4) (N := some 236) (bl 12 31) rfl rfl (one_of HT_.out (by kernel_rfl)) (by decide) (fun K hK => ?_)
  refine goes_ Tryd.func17 (by kernel_rfl) rfl #[.agg #[.int .i64 t103, .int .i64 t104, .int .i64 t105, .int .i64 t106, .int .i64 t107], .slice Ao337 x24_5.length co337, .slice Ao340 t189.length co340] (by rfl) rfl rfl (by (try simp only [List.map_toArray, List.map_cons, List.map_nil]); first | done | rfl | (simp only [List.length_drop, List.length_take]; rfl)) ?_
  with_reducible refine (goesC.calls t103 t104 t105 t106 t107 _ _ x24_5 _ _ t189 true t193 _ ?side5 ?side1 ?side2 ?side3 ?side4 A305.out).mono ?_
  (case side1 => exact rC HO_24)
  (case side2 => exact (Kd.R_reads' HO_24.out).2.1)
  (case side3 => exact rC HO191)
  (case side4 => exact (Kd.R_reads' HO191.out).2.1)
  (case side5 => exact Hand.TabW.below HTAB.out (Bq HB))
  rintro e w341 ⟨rfl, hb⟩
  refine ⟨_, rfl, ?_⟩
  have n0_ := RB HO_9 hb
  have n1_ := RB HO_24 hb
  have n2_ := RB HO191 hb
  have n3_ := bb BK101 hb
  have n4_ := bb BK102 hb
  have n5_ := bb BK111 hb
  have n6_ := bb BK150 hb
  have n7_ := Aside0.mk (below_step (Bq HB) hb)
  clear HO_9
  clear HO_24
  clear HO191
  clear BK101
  clear BK102
  clear BK111
  clear BK150
  clear HB
  have HO_9 := n0_
  have HO_24 := n1_
  have HO191 := n2_
  have BK101 := n3_
  have BK102 := n4_
  have BK111 := n5_
  have BK150 := n6_
  have HB := n7_
  clear n0_ n1_ n2_ n3_ n4_ n5_ n6_ n7_
  (try clear hb)
  (try clear hb2)
  (try clear hk)
  (try clear hi)
  refine hK.out _ _ ⟨kc BK111 0, kc BK111 1, kc BK111 2, kc BK111 3, kc BK111 4⟩ (fun hHeld => ?_)
  clear hK K
  refine nq 236 ?_
  refine pS 5 231 12 63 HT_ ?_
  refine pS 6 237 12 127 HT_ ?_
  refine pS 7 238 12 255 HT_ ?_
  refine pS 8 239 12 511 HT_ ?_
  refine pS 9 26 12 1023 HT_ ?_
  refine pS 10 27 12 2047 HT_ ?_
  refine pS 11 28 12 4095 HT_ ?_
  refine done_ (done_of HT_.out (by kernel_rfl)) ?_
  try go_wp2
  go_ret
  exact ⟨by first | rfl | (simp [errW_none, errW_some] <;> rfl) | (simp [*, errW_none, errW_some] <;> rfl), Bq HB⟩
 replace c306 := Bool.eq_false_iff.mpr c306
 subst c306
 have H1 : (if t129 = true then (some false) else (if t149 = 0 then (if t147 ≤ t148 then ((knownC.f).bind fun _ => (some true)) else (some false)) else ((knownC.f).bind fun _ => (some true)))) = some r := by rw [if_neg (show ¬ (false = true) by decide)] at H; exact H
 clear H
 have H := H1
 clear H1
 by_cases c342 : t129 = true
 ·subst c342
  have H1 : (some false) = some r := by rw [if_pos rfl] at H; exact H
  clear H
  have H := H1
  clear H1
  obtain rfl := Option.some.inj H
  obtain ⟨Ao343, co343, eo343⟩ := Kd.R_slice HO_24.out
  subst eo343
  try go_wp2
  have n0_ := Aside0.mk (Kd.R_drew HO_9.out)
  have n1_ := Aside0.mk (Kd.R_drew HO_24.out)
  have n2_ := Aside0.mk (blk_drew BK101.out)
  have n3_ := Aside0.mk (blk_drew BK102.out)
  have n4_ := Aside0.mk (blk_drew BK111.out)
  have n5_ := Aside0.mk (blk_drew BK150.out)
  have n6_ := Aside0.mk (below_drew1 HB.out)
  clear HO_9
  clear HO_24
  clear BK101
  clear BK102
  clear BK111
  clear BK150
  clear HB
  have HO_9 := n0_
  have HO_24 := n1_
  have BK101 := n2_
  have BK102 := n3_
  have BK111 := n4_
  have BK150 := n5_
  have HB := n6_
  clear n0_ n1_ n2_ n3_ n4_ n5_ n6_
  refine start_ (n := 12) (S := fun w' => w'.cell? ⟨gb111, 0, none⟩ = some (.int .i64 t103) ∧ w'.cell? ⟨gb111, 1, none⟩ = some (.int .i64 t104) ∧ w'.cell? ⟨gb111, 2, none⟩ = some (.int .i64 t105) ∧ w'.cell? ⟨gb111, 3, none⟩ = some (.int .i64 t106) ∧ w'.cell? ⟨gb111, 4, none⟩ = some (.int .i64 t107)) (ds := []) (bl 12 0) (by kernel_rfl) rfl rfl ⟨kc BK111 0, kc BK111 1, kc BK111 2, kc BK111 3, kc BK111 4⟩ (fun hHeld => ?_); refine with_tabW lR.tab28 lR.bits28 (fun HT_ HW_ => ?_)
  generalize wr.drew = w344 at HO_9 HO_24 BK101 BK102 BK111 BK150 HB hHeld ⊢
  refine pS 1 233 12 2 HT_ ?_
  refine pS 2 234 12 6 HT_ ?_
  refine tq 0 (some 232) (bl 12 7) HT_ HW_ hHeld (h := ?_)
  refine one_ (i := 3) (N := some 235) (bl 12 15) rfl rfl (one_of HT_.out (by kernel_rfl)) (by decide) (fun K hK => ?_)
  refine goes_ Tryd.func15 (by kernel_rfl) rfl #[.slice Ao37 t112.length co37] (by rfl) rfl rfl (by (try simp only [List.map_toArray, List.map_cons, List.map_nil]); first | done | rfl | (simp only [List.length_drop, List.length_take]; rfl)) ?_
  with_reducible refine (smaltolaw03_ints.calls _ _ t112 t189 _ ?side1 ?side2 A304.out).mono ?_
  (case side1 => exact rC HO_9)
  (case side2 => exact (Kd.R_reads' HO_9.out).2.1)
  rintro e w345 ⟨v190, rfl, ho0, hb⟩
  refine ⟨_, rfl, ?_⟩
  have n0_ := Aside0.mk (Kd.R_elder' (R_ HO_9) (Kd.R_base ho0) hb)
  have n1_ := RB HO_24 hb
  have n2_ := Aside0.mk (Kd.R_lower (Kd.R_new' ho0 (Kd.R_lt (R_ HO_9))) (below_size (Bq HB)))
  have n3_ := bb BK101 hb
  have n4_ := bb BK102 hb
  have n5_ := bb BK111 hb
  have n6_ := bb BK150 hb
  have n7_ := Aside0.mk (below_step (Bq HB) hb)
  clear HO_9
  clear HO_24
  clear BK101
  clear BK102
  clear BK111
  clear BK150
  clear HB
  have HO_9 := n0_
  have HO_24 := n1_
  have HO191 := n2_
  have BK101 := n3_
  have BK102 := n4_
  have BK111 := n5_
  have BK150 := n6_
  have HB := n7_
  clear n0_ n1_ n2_ n3_ n4_ n5_ n6_ n7_
  (try clear hb)
  (try clear hb2)
  (try clear hk)
  (try clear hi)
  (try clear ho0)
  obtain ⟨Ao346, co346, eo346⟩ := Kd.R_slice HO191.out
  (first | subst eo346 | (injection eo346 with f1_ f2_ f3_; have f4_ := f1_.symm; have f5_ := f3_.symm; clear f1_ f2_ f3_; subst f4_; subst f5_))
  refine hK.out _ _ ⟨kc BK111 0, kc BK111 1, kc BK111 2, kc BK111 3, kc BK111 4⟩ (fun hHeld => ?_)
  clear hK K
  refine nq 235 ?_
  refine one_ (i := 4) (N := some 236) (bl 12 31) rfl rfl (one_of HT_.out (by kernel_rfl)) (by decide) (fun K hK => ?_)
  refine goes_ Tryd.func17 (by kernel_rfl) rfl #[.agg #[.int .i64 t103, .int .i64 t104, .int .i64 t105, .int .i64 t106, .int .i64 t107], .slice Ao343 x24_5.length co343, .slice Ao346 t189.length co346] (by rfl) rfl rfl (by (try simp only [List.map_toArray, List.map_cons, List.map_nil]); first | done | rfl | (simp only [List.length_drop, List.length_take]; rfl)) ?_
  with_reducible refine (goesC.calls t103 t104 t105 t106 t107 _ _ x24_5 _ _ t189 false t193 _ ?side5 ?side1 ?side2 ?side3 ?side4 A305.out).mono ?_
  (case side1 => exact rC HO_24)
  (case side2 => exact (Kd.R_reads' HO_24.out).2.1)
  (case side3 => exact rC HO191)
  (case side4 => exact (Kd.R_reads' HO191.out).2.1)
  (case side5 => exact Hand.TabW.below HTAB.out (Bq HB))
  rintro e w347 ⟨rfl, hb⟩
  refine ⟨_, rfl, ?_⟩
  have n0_ := RB HO_9 hb
  have n1_ := RB HO_24 hb
  have n2_ := RB HO191 hb
  have n3_ := bb BK101 hb
  have n4_ := bb BK102 hb
  have n5_ := bb BK111 hb
  have n6_ := bb BK150 hb
  have n7_ := Aside0.mk (below_step (Bq HB) hb)
  clear HO_9
  clear HO_24
  clear HO191
  clear BK101
  clear BK102
  clear BK111
  clear BK150
  clear HB
  have HO_9 := n0_
  have HO_24 := n1_
  have HO191 := n2_
  have BK101 := n3_
  have BK102 := n4_
  have BK111 := n5_
  have BK150 := n6_
  have HB := n7_
  clear n0_ n1_ n2_ n3_ n4_ n5_ n6_ n7_
  (try clear hb)
  (try clear hb2)
  (try clear hk)
  (try clear hi)
  refine hK.out _ _ ⟨kc BK111 0, kc BK111 1, kc BK111 2, kc BK111 3, kc BK111 4⟩ (fun hHeld => ?_)
  clear hK K
  refine nq 236 ?_
  refine pS 5 231 12 63 HT_ ?_
  refine pS 6 237 12 127 HT_ ?_
  refine pS 7 238 12 255 HT_ ?_
  refine pS 8 239 12 511 HT_ ?_
  refine pS 9 26 12 1023 HT_ ?_
  refine pS 10 27 12 2047 HT_ ?_
  refine pS 11 28 12 4095 HT_ ?_
  refine done_ (done_of HT_.out (by kernel_rfl)) ?_
  try go_wp2
  go_ret
  exact ⟨by first | rfl | (simp [errW_none, errW_some] <;> rfl) | (simp [*, errW_none, errW_some] <;> rfl), Bq HB⟩
 replace c342 := Bool.eq_false_iff.mpr c342
 subst c342
 have H1 : (if t149 = 0 then (if t147 ≤ t148 then ((knownC.f).bind fun _ => (some true)) else (some false)) else ((knownC.f).bind fun _ => (some true))) = some r := by rw [if_neg (show ¬ (false = true) by decide)] at H; exact H
 clear H
 have H := H1
 clear H1
 by_cases c348 : t149 = 0
 ·rw [if_pos c348] at H
  have c348b0 : (t149 == 0) = true := beq_iff_eq.mpr c348
  have c348b1 : (t149 != 0) = false := bne_eq_false_iff_eq.mpr c348
  clear c348
  by_cases c349 : t147 ≤ t148
  ·rw [if_pos c349] at H
   have c349b0 : decide (t147 ≤ t148) = true := decide_eq_true c349
   clear c349
   replace H := Option.bind_eq_some_iff.mp H
   obtain ⟨_, A3500, H⟩ := H
   replace H : (some true) = some r := H
   have A350 := Aside0.mk A3500
   clear A3500
   obtain rfl := Option.some.inj H
   obtain ⟨Ao351, co351, eo351⟩ := Kd.R_slice HO_24.out
   subst eo351
   try go_wp2
   have n0_ := Aside0.mk (Kd.R_drew HO_9.out)
   have n1_ := Aside0.mk (Kd.R_drew HO_24.out)
   have n2_ := Aside0.mk (blk_drew BK101.out)
   have n3_ := Aside0.mk (blk_drew BK102.out)
   have n4_ := Aside0.mk (blk_drew BK111.out)
   have n5_ := Aside0.mk (blk_drew BK150.out)
   have n6_ := Aside0.mk (below_drew1 HB.out)
   clear HO_9
   clear HO_24
   clear BK101
   clear BK102
   clear BK111
   clear BK150
   clear HB
   have HO_9 := n0_
   have HO_24 := n1_
   have BK101 := n2_
   have BK102 := n3_
   have BK111 := n4_
   have BK150 := n5_
   have HB := n6_
   clear n0_ n1_ n2_ n3_ n4_ n5_ n6_
   refine start_ (n := 12) (S := fun w' => w'.cell? ⟨gb111, 0, none⟩ = some (.int .i64 t103) ∧ w'.cell? ⟨gb111, 1, none⟩ = some (.int .i64 t104) ∧ w'.cell? ⟨gb111, 2, none⟩ = some (.int .i64 t105) ∧ w'.cell? ⟨gb111, 3, none⟩ = some (.int .i64 t106) ∧ w'.cell? ⟨gb111, 4, none⟩ = some (.int .i64 t107)) (ds := []) (bl 12 0) (by kernel_rfl) rfl rfl ⟨kc BK111 0, kc BK111 1, kc BK111 2, kc BK111 3, kc BK111 4⟩ (fun hHeld => ?_); refine with_tabW lR.tab28 lR.bits28 (fun HT_ HW_ => ?_)
   generalize wr.drew = w352 at HO_9 HO_24 BK101 BK102 BK111 BK150 HB hHeld ⊢
   refine pS 1 233 12 2 HT_ ?_
   refine pS 2 234 12 6 HT_ ?_
   refine tq 0 (some 232) (bl 12 7) HT_ HW_ hHeld (h := ?_)
   refine one_ (i := 3) (N := some 235) (bl 12 15) rfl rfl (one_of HT_.out (by kernel_rfl)) (by decide) (fun K hK => ?_)
   refine goes_ Tryd.func15 (by kernel_rfl) rfl #[.slice Ao37 t112.length co37] (by rfl) rfl rfl (by (try simp only [List.map_toArray, List.map_cons, List.map_nil]); first | done | rfl | (simp only [List.length_drop, List.length_take]; rfl)) ?_
   with_reducible refine (smaltolaw03_ints.calls _ _ t112 t189 _ ?side1 ?side2 A304.out).mono ?_
   (case side1 => exact rC HO_9)
   (case side2 => exact (Kd.R_reads' HO_9.out).2.1)
   rintro e w353 ⟨v190, rfl, ho0, hb⟩
   refine ⟨_, rfl, ?_⟩
   have n0_ := Aside0.mk (Kd.R_elder' (R_ HO_9) (Kd.R_base ho0) hb)
   have n1_ := RB HO_24 hb
   have n2_ := Aside0.mk (Kd.R_lower (Kd.R_new' ho0 (Kd.R_lt (R_ HO_9))) (below_size (Bq HB)))
   have n3_ := bb BK101 hb
   have n4_ := bb BK102 hb
   have n5_ := bb BK111 hb
   have n6_ := bb BK150 hb
   have n7_ := Aside0.mk (below_step (Bq HB) hb)
   clear HO_9
   clear HO_24
   clear BK101
   clear BK102
   clear BK111
   clear BK150
   clear HB
   have HO_9 := n0_
   have HO_24 := n1_
   have HO191 := n2_
   have BK101 := n3_
   have BK102 := n4_
   have BK111 := n5_
   have BK150 := n6_
   have HB := n7_
   clear n0_ n1_ n2_ n3_ n4_ n5_ n6_ n7_
   (try clear hb)
   (try clear hb2)
   (try clear hk)
   (try clear hi)
   (try clear ho0)
   obtain ⟨Ao354, co354, eo354⟩ := Kd.R_slice HO191.out
   (first | subst eo354 | (injection eo354 with f1_ f2_ f3_; have f4_ := f1_.symm; have f5_ := f3_.symm; clear f1_ f2_ f3_; subst f4_; subst f5_))
   refine hK.out _ _ ⟨kc BK111 0, kc BK111 1, kc BK111 2, kc BK111 3, kc BK111 4⟩ (fun hHeld => ?_)
   clear hK K
   refine nq 235 ?_
   refine one_ (i := 4) (N := some 236) (bl 12 31) rfl rfl (one_of HT_.out (by kernel_rfl)) (by decide) (fun K hK => ?_)
   refine goes_ Tryd.func17 (by kernel_rfl) rfl #[.agg #[.int .i64 t103, .int .i64 t104, .int .i64 t105, .int .i64 t106, .int .i64 t107], .slice Ao351 x24_5.length co351, .slice Ao354 t189.length co354] (by rfl) rfl rfl (by (try simp only [List.map_toArray, List.map_cons, List.map_nil]); first | done | rfl | (simp only [List.length_drop, List.length_take]; rfl)) ?_
   with_reducible refine (goesC.calls t103 t104 t105 t106 t107 _ _ x24_5 _ _ t189 false t193 _ ?side5 ?side1 ?side2 ?side3 ?side4 A305.out).mono ?_
   (case side1 => exact rC HO_24)
   (case side2 => exact (Kd.R_reads' HO_24.out).2.1)
   (case side3 => exact rC HO191)
   (case side4 => exact (Kd.R_reads' HO191.out).2.1)
   (case side5 => exact Hand.TabW.below HTAB.out (Bq HB))
   rintro e w355 ⟨rfl, hb⟩
   refine ⟨_, rfl, ?_⟩
   have n0_ := RB HO_9 hb
   have n1_ := RB HO_24 hb
   have n2_ := RB HO191 hb
   have n3_ := bb BK101 hb
   have n4_ := bb BK102 hb
   have n5_ := bb BK111 hb
   have n6_ := bb BK150 hb
   have n7_ := Aside0.mk (below_step (Bq HB) hb)
   clear HO_9
   clear HO_24
   clear HO191
   clear BK101
   clear BK102
   clear BK111
   clear BK150
   clear HB
   have HO_9 := n0_
   have HO_24 := n1_
   have HO191 := n2_
   have BK101 := n3_
   have BK102 := n4_
   have BK111 := n5_
   have BK150 := n6_
   have HB := n7_
   clear n0_ n1_ n2_ n3_ n4_ n5_ n6_ n7_
   (try clear hb)
   (try clear hb2)
   (try clear hk)
   (try clear hi)
   refine hK.out _ _ ⟨kc BK111 0, kc BK111 1, kc BK111 2, kc BK111 3, kc BK111 4⟩ (fun hHeld => ?_)
   clear hK K
   refine nq 236 ?_
   refine pS 5 231 12 63 HT_ ?_
   refine pS 6 237 12 127 HT_ ?_
   refine pS 7 238 12 255 HT_ ?_
   refine pS 8 239 12 511 HT_ ?_
   refine pS 9 26 12 1023 HT_ ?_
   refine pS 10 27 12 2047 HT_ ?_
   refine pS 11 28 12 4095 HT_ ?_
   refine done_ (done_of HT_.out (by kernel_rfl)) ?_
   have hnb356 := NB150_101.out
   have hnc356 := NB101_150.out
   have hnb357 := NB150_102.out
   have hnc357 := NB102_150.out
   have hnb358 := NB150_111.out
   have hnc358 := NB111_150.out
   have hcz359_0 : w355.cell? ⟨gb150, 0, none⟩ = some (.int .i64 t147) := kc BK150 0
   have hcz359_1 : w355.cell? ⟨gb150, 1, none⟩ = some (.int .i64 t148) := kc BK150 1
   have hfz359_0 := blk_frozen BK150.out 0
   have hfz359_1 := blk_frozen BK150.out 1
   try go_wp2_with (first | (go_at_call 13; (with_reducible refine (knownC.calls   _ ?side1 A350.out).mono ?_); (case side1 => exact Hand.TabW.below HTAB.out (Bq HB)); rintro e w360 ⟨rfl, hb⟩; have n0_ := RB HO_9 hb; have n1_ := RB HO_24 hb; have n2_ := RB HO191 hb; have n3_ := bb BK101 hb; have n4_ := bb BK102 hb; have n5_ := bb BK111 hb; have n6_ := bb BK150 hb; have n7_ := Aside0.mk (below_step (Bq HB) hb); clear HO_9; clear HO_24; clear HO191; clear BK101; clear BK102; clear BK111; clear BK150; clear HB; have HO_9 := n0_; have HO_24 := n1_; have HO191 := n2_; have BK101 := n3_; have BK102 := n4_; have BK111 := n5_; have BK150 := n6_; have HB := n7_; clear n0_ n1_ n2_ n3_ n4_ n5_ n6_ n7_; (try clear hb); (try clear hb2); (try clear hk); (try clear hi)))
   go_ret
   exact ⟨by first | rfl | (simp [errW_none, errW_some] <;> rfl) | (simp [*, errW_none, errW_some] <;> rfl), Bq HB⟩
  rw [if_neg c349] at H
  have c349b0 : decide (t147 ≤ t148) = false := decide_eq_false c349
  clear c349
  obtain rfl := Option.some.inj H
  obtain ⟨Ao361, co361, eo361⟩ := Kd.R_slice HO_24.out
  subst eo361
  try go_wp2
  have n0_ := Aside0.mk (Kd.R_drew HO_9.out)
  have n1_ := Aside0.mk (Kd.R_drew HO_24.out)
  have n2_ := Aside0.mk (blk_drew BK101.out)
  have n3_ := Aside0.mk (blk_drew BK102.out)
  have n4_ := Aside0.mk (blk_drew BK111.out)
  have n5_ := Aside0.mk (blk_drew BK150.out)
  have n6_ := Aside0.mk (below_drew1 HB.out)
  clear HO_9
  clear HO_24
  clear BK101
  clear BK102
  clear BK111
  clear BK150
  clear HB
  have HO_9 := n0_
  have HO_24 := n1_
  have BK101 := n2_
  have BK102 := n3_
  have BK111 := n4_
  have BK150 := n5_
  have HB := n6_
  clear n0_ n1_ n2_ n3_ n4_ n5_ n6_
  refine start_ (n := 12) (S := fun w' => w'.cell? ⟨gb111, 0, none⟩ = some (.int .i64 t103) ∧ w'.cell? ⟨gb111, 1, none⟩ = some (.int .i64 t104) ∧ w'.cell? ⟨gb111, 2, none⟩ = some (.int .i64 t105) ∧ w'.cell? ⟨gb111, 3, none⟩ = some (.int .i64 t106) ∧ w'.cell? ⟨gb111, 4, none⟩ = some (.int .i64 t107)) (ds := []) (bl 12 0) (by kernel_rfl) rfl rfl ⟨kc BK111 0, kc BK111 1, kc BK111 2, kc BK111 3, kc BK111 4⟩ (fun hHeld => ?_); refine with_tabW lR.tab28 lR.bits28 (fun HT_ HW_ => ?_)
  generalize wr.drew = w362 at HO_9 HO_24 BK101 BK102 BK111 BK150 HB hHeld ⊢
  refine pS 1 233 12 2 HT_ ?_
  refine pS 2 234 12 6 HT_ ?_
  refine tq 0 (some 232) (bl 12 7) HT_ HW_ hHeld (h := ?_)
  refine one_ (i := 3) (N := some 235) (bl 12 15) rfl rfl (one_of HT_.out (by kernel_rfl)) (by decide) (fun K hK => ?_)
  refine goes_ Tryd.func15 (by kernel_rfl) rfl #[.slice Ao37 t112.length co37] (by rfl) rfl rfl (by (try simp only [List.map_toArray, List.map_cons, List.map_nil]); first | done | rfl | (simp only [List.length_drop, List.length_take]; rfl)) ?_
  with_reducible refine (smaltolaw03_ints.calls _ _ t112 t189 _ ?side1 ?side2 A304.out).mono ?_
  (case side1 => exact rC HO_9)
  (case side2 => exact (Kd.R_reads' HO_9.out).2.1)
  rintro e w363 ⟨v190, rfl, ho0, hb⟩
  refine ⟨_, rfl, ?_⟩
  have n0_ := Aside0.mk (Kd.R_elder' (R_ HO_9) (Kd.R_base ho0) hb)
  have n1_ := RB HO_24 hb
  have n2_ := Aside0.mk (Kd.R_lower (Kd.R_new' ho0 (Kd.R_lt (R_ HO_9))) (below_size (Bq HB)))
  have n3_ := bb BK101 hb
  have n4_ := bb BK102 hb
  have n5_ := bb BK111 hb
  have n6_ := bb BK150 hb
  have n7_ := Aside0.mk (below_step (Bq HB) hb)
  clear HO_9
  clear HO_24
  clear BK101
  clear BK102
  clear BK111
  clear BK150
  clear HB
  have HO_9 := n0_
  have HO_24 := n1_
  have HO191 := n2_
  have BK101 := n3_
  have BK102 := n4_
  have BK111 := n5_
  have BK150 := n6_
  have HB := n7_
  clear n0_ n1_ n2_ n3_ n4_ n5_ n6_ n7_
  (try clear hb)
  (try clear hb2)
  (try clear hk)
  (try clear hi)
  (try clear ho0)
  obtain ⟨Ao364, co364, eo364⟩ := Kd.R_slice HO191.out
  (first | subst eo364 | (injection eo364 with f1_ f2_ f3_; have f4_ := f1_.symm; have f5_ := f3_.symm; clear f1_ f2_ f3_; subst f4_; subst f5_))
  refine hK.out _ _ ⟨kc BK111 0, kc BK111 1, kc BK111 2, kc BK111 3, kc BK111 4⟩ (fun hHeld => ?_)
  clear hK K
  refine nq 235 ?_
  refine one_ (i := 4) (N := some 236) (bl 12 31) rfl rfl (one_of HT_.out (by kernel_rfl)) (by decide) (fun K hK => ?_)
  refine goes_ Tryd.func17 (by kernel_rfl) rfl #[.agg #[.int .i64 t103, .int .i64 t104, .int .i64 t105, .int .i64 t106, .int .i64 t107], .slice Ao361 x24_5.length co361, .slice Ao364 t189.length co364] (by rfl) rfl rfl (by (try simp only [List.map_toArray, List.map_cons, List.map_nil]); first | done | rfl | (simp only [List.length_drop, List.length_take]; rfl)) ?_
  with_reducible refine (goesC.calls t103 t104 t105 t106 t107 _ _ x24_5 _ _ t189 false t193 _ ?side5 ?side1 ?side2 ?side3 ?side4 A305.out).mono ?_
  (case side1 => exact rC HO_24)
  (case side2 => exact (Kd.R_reads' HO_24.out).2.1)
  (case side3 => exact rC HO191)
  (case side4 => exact (Kd.R_reads' HO191.out).2.1)
  (case side5 => exact Hand.TabW.below HTAB.out (Bq HB))
  rintro e w365 ⟨rfl, hb⟩
  refine ⟨_, rfl, ?_⟩
  have n0_ := RB HO_9 hb
  have n1_ := RB HO_24 hb
  have n2_ := RB HO191 hb
  have n3_ := bb BK101 hb
  have n4_ := bb BK102 hb
  have n5_ := bb BK111 hb
  have n6_ := bb BK150 hb
  have n7_ := Aside0.mk (below_step (Bq HB) hb)
  clear HO_9
  clear HO_24
  clear HO191
  clear BK101
  clear BK102
  clear BK111
  clear BK150
  clear HB
  have HO_9 := n0_
  have HO_24 := n1_
  have HO191 := n2_
  have BK101 := n3_
  have BK102 := n4_
  have BK111 := n5_
  have BK150 := n6_
  have HB := n7_
  clear n0_ n1_ n2_ n3_ n4_ n5_ n6_ n7_
  (try clear hb)
  (try clear hb2)
  (try clear hk)
  (try clear hi)
  refine hK.out _ _ ⟨kc BK111 0, kc BK111 1, kc BK111 2, kc BK111 3, kc BK111 4⟩ (fun hHeld => ?_)
  clear hK K
  refine nq 236 ?_
  refine pS 5 231 12 63 HT_ ?_
  refine pS 6 237 12 127 HT_ ?_
  refine pS 7 238 12 255 HT_ ?_
  refine pS 8 239 12 511 HT_ ?_
  refine pS 9 26 12 1023 HT_ ?_
  refine pS 10 27 12 2047 HT_ ?_
  refine pS 11 28 12 4095 HT_ ?_
  refine done_ (done_of HT_.out (by kernel_rfl)) ?_
  have hnb366 := NB150_101.out
  have hnc366 := NB101_150.out
  have hnb367 := NB150_102.out
  have hnc367 := NB102_150.out
  have hnb368 := NB150_111.out
  have hnc368 := NB111_150.out
  have hcz369_0 : w365.cell? ⟨gb150, 0, none⟩ = some (.int .i64 t147) := kc BK150 0
  have hcz369_1 : w365.cell? ⟨gb150, 1, none⟩ = some (.int .i64 t148) := kc BK150 1
  have hfz369_0 := blk_frozen BK150.out 0
  have hfz369_1 := blk_frozen BK150.out 1
  try go_wp2
  go_ret
  exact ⟨by first | rfl | (simp [errW_none, errW_some] <;> rfl) | (simp [*, errW_none, errW_some] <;> rfl), Bq HB⟩
 rw [if_neg c348] at H
 have c348b0 : (t149 == 0) = false := beq_eq_false_iff_ne.mpr c348
 have c348b1 : (t149 != 0) = true := bne_iff_ne.mpr c348
 replace H := Option.bind_eq_some_iff.mp H
 obtain ⟨_, A3700, H⟩ := H
 replace H : (some true) = some r := H
 have A370 := Aside0.mk A3700
 clear A3700
 obtain rfl := Option.some.inj H
 obtain ⟨Ao371, co371, eo371⟩ := Kd.R_slice HO_24.out
 subst eo371
 try go_wp2
 have n0_ := Aside0.mk (Kd.R_drew HO_9.out)
 have n1_ := Aside0.mk (Kd.R_drew HO_24.out)
 have n2_ := Aside0.mk (blk_drew BK101.out)
 have n3_ := Aside0.mk (blk_drew BK102.out)
 have n4_ := Aside0.mk (blk_drew BK111.out)
 have n5_ := Aside0.mk (blk_drew BK150.out)
 have n6_ := Aside0.mk (below_drew1 HB.out)
 clear HO_9
 clear HO_24
 clear BK101
 clear BK102
 clear BK111
 clear BK150
 clear HB
 have HO_9 := n0_
 have HO_24 := n1_
 have BK101 := n2_
 have BK102 := n3_
 have BK111 := n4_
 have BK150 := n5_
 have HB := n6_
 clear n0_ n1_ n2_ n3_ n4_ n5_ n6_
 refine start_ (n := 12) (S := fun w' => w'.cell? ⟨gb111, 0, none⟩ = some (.int .i64 t103) ∧ w'.cell? ⟨gb111, 1, none⟩ = some (.int .i64 t104) ∧ w'.cell? ⟨gb111, 2, none⟩ = some (.int .i64 t105) ∧ w'.cell? ⟨gb111, 3, none⟩ = some (.int .i64 t106) ∧ w'.cell? ⟨gb111, 4, none⟩ = some (.int .i64 t107)) (ds := []) (bl 12 0) (by kernel_rfl) rfl rfl ⟨kc BK111 0, kc BK111 1, kc BK111 2, kc BK111 3, kc BK111 4⟩ (fun hHeld => ?_); refine with_tabW lR.tab28 lR.bits28 (fun HT_ HW_ => ?_)
 generalize wr.drew = w372 at HO_9 HO_24 BK101 BK102 BK111 BK150 HB hHeld ⊢
 refine pS 1 233 12 2 HT_ ?_
 refine pS 2 234 12 6 HT_ ?_
 refine tq 0 (some 232) (bl 12 7) HT_ HW_ hHeld (h := ?_)
 refine one_ (i := 3) (N := some 235) (bl 12 15) rfl rfl (one_of HT_.out (by kernel_rfl)) (by decide) (fun K hK => ?_)
 refine goes_ Tryd.func15 (by kernel_rfl) rfl #[.slice Ao37 t112.length co37] (by rfl) rfl rfl (by (try simp only [List.map_toArray, List.map_cons, List.map_nil]); first | done | rfl | (simp only [List.length_drop, List.length_take]; rfl)) ?_
 with_reducible refine (smaltolaw03_ints.calls _ _ t112 t189 _ ?side1 ?side2 A304.out).mono ?_
 (case side1 => exact rC HO_9)
 (case side2 => exact (Kd.R_reads' HO_9.out).2.1)
 rintro e w373 ⟨v190, rfl, ho0, hb⟩
 refine ⟨_, rfl, ?_⟩
 have n0_ := Aside0.mk (Kd.R_elder' (R_ HO_9) (Kd.R_base ho0) hb)
 have n1_ := RB HO_24 hb
 have n2_ := Aside0.mk (Kd.R_lower (Kd.R_new' ho0 (Kd.R_lt (R_ HO_9))) (below_size (Bq HB)))
 have n3_ := bb BK101 hb
 have n4_ := bb BK102 hb
 have n5_ := bb BK111 hb
 have n6_ := bb BK150 hb
 have n7_ := Aside0.mk (below_step (Bq HB) hb)
 clear HO_9
 clear HO_24
 clear BK101
 clear BK102
 clear BK111
 clear BK150
 clear HB
 have HO_9 := n0_
 have HO_24 := n1_
 have HO191 := n2_
 have BK101 := n3_
 have BK102 := n4_
 have BK111 := n5_
 have BK150 := n6_
 have HB := n7_
 clear n0_ n1_ n2_ n3_ n4_ n5_ n6_ n7_
 (try clear hb)
 (try clear hb2)
 (try clear hk)
 (try clear hi)
 (try clear ho0)
 obtain ⟨Ao374, co374, eo374⟩ := Kd.R_slice HO191.out
 (first | subst eo374 | (injection eo374 with f1_ f2_ f3_; have f4_ := f1_.symm; have f5_ := f3_.symm; clear f1_ f2_ f3_; subst f4_; subst f5_))
 refine hK.out _ _ ⟨kc BK111 0, kc BK111 1, kc BK111 2, kc BK111 3, kc BK111 4⟩ (fun hHeld => ?_)
 clear hK K
 refine nq 235 ?_
 refine one_ (i := 4) (N := some 236) (bl 12 31) rfl rfl (one_of HT_.out (by kernel_rfl)) (by decide) (fun K hK => ?_)
 refine goes_ Tryd.func17 (by kernel_rfl) rfl #[.agg #[.int .i64 t103, .int .i64 t104, .int .i64 t105, .int .i64 t106, .int .i64 t107], .slice Ao371 x24_5.length co371, .slice Ao374 t189.length co374] (by rfl) rfl rfl (by (try simp only [List.map_toArray, List.map_cons, List.map_nil]); first | done | rfl | (simp only [List.length_drop, List.length_take]; rfl)) ?_
 with_reducible refine (goesC.calls t103 t104 t105 t106 t107 _ _ x24_5 _ _ t189 false t193 _ ?side5 ?side1 ?side2 ?side3 ?side4 A305.out).mono ?_
 (case side1 => exact rC HO_24)
 (case side2 => exact (Kd.R_reads' HO_24.out).2.1)
 (case side3 => exact rC HO191)
 (case side4 => exact (Kd.R_reads' HO191.out).2.1)
 (case side5 => exact Hand.TabW.below HTAB.out (Bq HB))
 rintro e w375 ⟨rfl, hb⟩
 refine ⟨_, rfl, ?_⟩
 have n0_ := RB HO_9 hb
 have n1_ := RB HO_24 hb
 have n2_ := RB HO191 hb
 have n3_ := bb BK101 hb
 have n4_ := bb BK102 hb
 have n5_ := bb BK111 hb
 have n6_ := bb BK150 hb
 have n7_ := Aside0.mk (below_step (Bq HB) hb)
 clear HO_9
 clear HO_24
 clear HO191
 clear BK101
 clear BK102
 clear BK111
 clear BK150
 clear HB
 have HO_9 := n0_
 have HO_24 := n1_
 have HO191 := n2_
 have BK101 := n3_
 have BK102 := n4_
 have BK111 := n5_
 have BK150 := n6_
 have HB := n7_
 clear n0_ n1_ n2_ n3_ n4_ n5_ n6_ n7_
 (try clear hb)
 (try clear hb2)
 (try clear hk)
 (try clear hi)
 refine hK.out _ _ ⟨kc BK111 0, kc BK111 1, kc BK111 2, kc BK111 3, kc BK111 4⟩ (fun hHeld => ?_)
 clear hK K
 refine nq 236 ?_
 refine pS 5 231 12 63 HT_ ?_
 refine pS 6 237 12 127 HT_ ?_
 refine pS 7 238 12 255 HT_ ?_
 refine pS 8 239 12 511 HT_ ?_
 refine pS 9 26 12 1023 HT_ ?_
 refine pS 10 27 12 2047 HT_ ?_
 refine pS 11 28 12 4095 HT_ ?_
 refine done_ (done_of HT_.out (by kernel_rfl)) ?_
 try go_wp2_with (first | (go_at_call 13; (with_reducible refine (knownC.calls   _ ?side1 A370.out).mono ?_); (case side1 => exact Hand.TabW.below HTAB.out (Bq HB)); rintro e w376 ⟨rfl, hb⟩; have n0_ := RB HO_9 hb; have n1_ := RB HO_24 hb; have n2_ := RB HO191 hb; have n3_ := bb BK101 hb; have n4_ := bb BK102 hb; have n5_ := bb BK111 hb; have n6_ := bb BK150 hb; have n7_ := Aside0.mk (below_step (Bq HB) hb); clear HO_9; clear HO_24; clear HO191; clear BK101; clear BK102; clear BK111; clear BK150; clear HB; have HO_9 := n0_; have HO_24 := n1_; have HO191 := n2_; have BK101 := n3_; have BK102 := n4_; have BK111 := n5_; have BK150 := n6_; have HB := n7_; clear n0_ n1_ n2_ n3_ n4_ n5_ n6_ n7_; (try clear hb); (try clear hb2); (try clear hk); (try clear hi)))
 go_ret
 exact ⟨by first | rfl | (simp [errW_none, errW_some] <;> rfl) | (simp [*, errW_none, errW_some] <;> rfl), Bq HB⟩
end Go.Proofs.YtbijamlgcebgeaaDoor.Q
-- part SOZ
namespace Go.Proofs.YtbijamlgcebgeaaDoor.Q
open Go.RowKit Go.Proofs.YtbijamlgcebgeaaDoorW.PrintWords Go.Proofs.YtbijamlgcebgeaaDoorW.PrintLast Go.Proofs.YtbijamlgcebgeaaDoorW.PrintMore
theorem lR.p0 : ∀ (k : Nat) (a0_0 : Int) (a0_1 : Int) (a0_2 : Int) (a0_3 : Int) (a0_4 : Int) (A0_5 : Option Addr) (c0_5 : Nat) (l0_5 : List (S63)) (a1 : Int) (a2_0 : Int) (a2_1 : Int) (a2_2 : Int) (a2_3 : Int) (a2_4 : Int) (a2_5 : Int) (r : Bool) (w : World) (hT : Hand.TabW w) (hr0_5 : Kd.C k63 w A0_5 l0_5.length l0_5) (hc0_5 : l0_5.length ≤ c0_5) (h : lR.f k a0_0 a0_1 a0_2 a0_3 a0_4 l0_5 a1 a2_0 a2_1 a2_2 a2_3 a2_4 a2_5 = some r), Calls Tryd.prog 8 #[.agg #[.int .u8 a0_0, .int .u8 a0_1, .int .u8 a0_2, .int .u8 a0_3, .int .u8 a0_4, .slice A0_5 l0_5.length c0_5], .int .u8 a1, .agg #[.int .u8 a2_0, .int .u8 a2_1, .int .u8 a2_2, .int .u8 a2_3, .int .u8 a2_4, .int .u8 a2_5]] w fun e w' => e = .returned (.bool r) ∧ Below w.heap.size w w' := lR.c0.2 lR.p1 lR.p2 lR.p3 lR.p4 lR.p5 lR.p6
theorem lR.calls (k : Nat) (a0_0 : Int) (a0_1 : Int) (a0_2 : Int) (a0_3 : Int) (a0_4 : Int) (A0_5 : Option Addr) (c0_5 : Nat) (l0_5 : List (S63)) (a1 : Int) (a2_0 : Int) (a2_1 : Int) (a2_2 : Int) (a2_3 : Int) (a2_4 : Int) (a2_5 : Int) (r : Bool) (w : World) (hT : Hand.TabW w) (hr0_5 : Kd.C k63 w A0_5 l0_5.length l0_5) (hc0_5 : l0_5.length ≤ c0_5) (h : lR.f k a0_0 a0_1 a0_2 a0_3 a0_4 l0_5 a1 a2_0 a2_1 a2_2 a2_3 a2_4 a2_5 = some r) : Calls Tryd.prog 8 #[.agg #[.int .u8 a0_0, .int .u8 a0_1, .int .u8 a0_2, .int .u8 a0_3, .int .u8 a0_4, .slice A0_5 l0_5.length c0_5], .int .u8 a1, .agg #[.int .u8 a2_0, .int .u8 a2_1, .int .u8 a2_2, .int .u8 a2_3, .int .u8 a2_4, .int .u8 a2_5]] w fun e w' => e = .returned (.bool r) ∧ Below w.heap.size w w' := lR.p0 k a0_0 a0_1 a0_2 a0_3 a0_4 A0_5 c0_5 l0_5 a1 a2_0 a2_1 a2_2 a2_3 a2_4 a2_5 r w hT hr0_5 hc0_5 h
end Go.Proofs.YtbijamlgcebgeaaDoor.Q
-- part PI
namespace Go.Proofs.YtbijamlgcebgeaaDoor.Hand
open Go.RowKit Go.Shelf Go.Sort Go.Proofs.YtbijamlgcebgeaaDoorW.PrintWords Go.Proofs.YtbijamlgcebgeaaDoorW.PrintMore Go.Proofs.YtbijamlgcebgeaaDoor.Q
theorem right_calls {W : World} (y : S63) (A : Option Addr) (l : List S63) (c : Nat) (h0 : okB5 y = true) (h1 : ∀ x ∈ l, okB5 x = true) (hc : l.length ≤ c) (hr : Kd.C k63 W A l.length l) (by_ : Int) (hb : byteB by_ = true) (a0 a1 a2 a3 a4 a5 : Int) (b0 : byteB a0 = true) (b1 : byteB a1 = true) (b2 : byteB a2 = true) (b3 : byteB a3 = true) (b4 : byteB a4 = true) (b5 : byteB a5 = true) (hT : TabW W) :
    Calls Tryd.prog 8 #[.agg #[.int .u8 y.f0, .int .u8 y.f1, .int .u8 y.f2, .int .u8 y.f3, .int .u8 y.f4, .slice A l.length c], .int .u8 by_, .agg #[.int .u8 a0, .int .u8 a1, .int .u8 a2, .int .u8 a3, .int .u8 a4, .int .u8 a5]] W fun e W' => e = .returned (.bool true) ∧ Below W.heap.size W W' := by
  obtain ⟨hb', he⟩ := byteB_ok hb
  have := right_pure h0 h1 by_.toNat hb' (b0 := a0) (b1 := a1) (b2 := a2) (b3 := a3) (b4 := a4) (b5 := a5) (by
      intro z hz
      simp only [List.mem_cons, List.not_mem_nil, or_false] at hz
      rcases hz with rfl | rfl | rfl | rfl | rfl | rfl
      · exact (byteB_iff _).1 b0
      · exact (byteB_iff _).1 b1
      · exact (byteB_iff _).1 b2
      · exact (byteB_iff _).1 b3
      · exact (byteB_iff _).1 b4
      · exact (byteB_iff _).1 b5)
  rw [he] at this
  exact lR.calls 200 y.f0 y.f1 y.f2 y.f3 y.f4 A c l by_ a0 a1 a2 a3 a4 a5 true W hT hr hc this
end Go.Proofs.YtbijamlgcebgeaaDoor.Hand
-- part CD
namespace Go.Proofs.YtbijamlgcebgeaaDoor.forkRight
open Go.ChangeShapes Go.WideShapes Go.ChangeAt Go.RowKit Go.Proofs.YtbijamlgcebgeaaDoor.Hand
set_option maxRecDepth 100000 in
theorem contract (H : Type) (enc : TypeId × Value → H) (W : World) (base : Nat) (args : Array Value) (ds gs : List (DataW H)) (before : List MemPlace)
    (hval : ∀ (j : Nat) t v, Tryd.f8.params[j]? = some t → args[j]? = some v → Value.okWide Tryd.prog W .any base t v)
    (hW : DataW.Whole enc Tryd.prog Tryd.f8.params.toList Rows.forkRightSpec.vars false W args.toList ds gs before) (hL : laidMetH Tryd.prog Rows.forkRightRow.laid W) :
    Calls Tryd.prog 8 args W fun e W' => ∃ v, e = .returned v ∧ Rows.forkRightSpec.post enc Tryd.prog Tryd.f8 false true false false W args v W' := by
  have hT : TabW W := tabW_of hL
  have hW' := hW
  obtain ⟨p, q, hA0, hV, rfl, hfz, hnd⟩ := hW
  have hA : DataW.TrodAll enc Tryd.prog W 0 (fun _ => true) true Tryd.f8.params.toList args.toList ds p := hA0
  rw [Tryd.params8] at hA hval
  obtain ⟨v0, vs0, d0, ds0, p0, q0, hargs, rfl, rfl, k0, r0⟩ := trodAll_cons hA
  obtain ⟨v1, vs1, d1, ds1, p1, q1, rfl, rfl, rfl, k1, r1⟩ := trodAll_cons r0
  obtain ⟨v2, vs2, d2, ds2, p2, q2, rfl, rfl, rfl, k2, r2⟩ := trodAll_cons r1
  obtain ⟨rfl, rfl, rfl⟩ := trodAll_nil r2
  obtain rfl : args = #[v0, v1, v2] := by cases args; simp_all
  obtain ⟨rfl, rfl⟩ := trodVars_none hV
  have lt0 : ∀ x ∈ p0, x.block < W.heap.size := by obtain ⟨m, hm⟩ := k0; exact DataW.trod_lt m _ _ _ hm
  have lt1 : ∀ x ∈ p1, x.block < W.heap.size := by obtain ⟨m, hm⟩ := k1; exact DataW.trod_lt m _ _ _ hm
  have lt2 : ∀ x ∈ p2, x.block < W.heap.size := by obtain ⟨m, hm⟩ := k2; exact DataW.trod_lt m _ _ _ hm
  obtain ⟨y0, A0, l0, c0, rfl, ok0, all0, hc0, hr0⟩ := open66 (hval 0 66 v0 rfl rfl) k0
  have kk1 := k1
  obtain ⟨a1, rfl, hb1⟩ := openByte (hval 1 5 v1 rfl rfl) k1
  obtain ⟨a2_0, a2_1, a2_2, a2_3, a2_4, a2_5, rfl, b2_0, b2_1, b2_2, b2_3, b2_4, b2_5⟩ := open67 (hval 2 67 v2 rfl rfl) k2
  clear hA0 hval
  refine (right_calls y0 A0 l0 c0 ok0 all0 hc0 hr0 a1 hb1 a2_0 a2_1 a2_2 a2_3 a2_4 a2_5 b2_0 b2_1 b2_2 b2_3 b2_4 b2_5 hT).mono fun e' W' ⟨he, bel⟩ => ?_
  subst he
  exact ⟨_, rfl, _, _, _, [], _, [], hW', trodAll_mk1 (shut_bool Tryd.underlying4 _), (trodAll_cons_mk (Below.trod laidOut (by kernel_rfl) (of_decide_eq_true (by kernel_rfl)) k0 bel lt0) (trodAll_cons_mk (Below.trod laidOut (by kernel_rfl) (of_decide_eq_true (by kernel_rfl)) k1 bel lt1) (trodAll_cons_mk (Below.trod laidOut (by kernel_rfl) (of_decide_eq_true (by kernel_rfl)) k2 bel lt2) trodAll_mk0))), rfl, bel.frame _, fun h => by cases h⟩
/-- A world for the witness: the settled one, the tables (blocks 0 and 1) holding what their initialisers lay. -/
def lay32 : Obj → Obj
  | .cells _ t frozen => .cells (Lib.deBruijn32tab.map fun (n : Nat) => Value.int .u8 n).toArray t frozen
  | o => o
def lay64 : Obj → Obj
  | .cells _ t frozen => .cells (Lib.deBruijn64tab.map fun (n : Nat) => Value.int .u8 n).toArray t frozen
  | o => o
noncomputable def laidWorld (os : Os) : World := { World.holding Tryd.prog os ⟨#[], #[], []⟩ with heap := ((World.holding Tryd.prog os ⟨#[], #[], []⟩).heap.modify 0 lay32).modify 1 lay64 }
theorem laid_met (os : Os) : laidMet Tryd.prog Rows.forkRightRow.laid ((laidWorld os).forCall (fun _ _ => 0) ⟨#[], #[.agg #[.int .u8 0, .int .u8 0, .int .u8 0, .int .u8 0, .int .u8 0, .slice none 0 0], .int .u8 0, .agg #[.int .u8 0, .int .u8 0, .int .u8 0, .int .u8 0, .int .u8 0, .int .u8 0]], []⟩).memory :=
  laidMet_of_run' 8 (by kernel_rfl) (by kernel_rfl)
theorem reads (os : Os) {H : Type} (enc : TypeId × Value → H) : ∃ places, DataW.whole enc Tryd.prog ((laidWorld os).forCall (fun _ _ => 0) ⟨#[], #[.agg #[.int .u8 0, .int .u8 0, .int .u8 0, .int .u8 0, .int .u8 0, .slice none 0 0], .int .u8 0, .agg #[.int .u8 0, .int .u8 0, .int .u8 0, .int .u8 0, .int .u8 0, .int .u8 0]], []⟩).memory Tryd.f8.params.toList Rows.forkRightSpec.vars false (#[.agg #[.int .u8 0, .int .u8 0, .int .u8 0, .int .u8 0, .int .u8 0, .slice none 0 0], .int .u8 0, .agg #[.int .u8 0, .int .u8 0, .int .u8 0, .int .u8 0, .int .u8 0, .int .u8 0]] : Array Value).toList 8 = some ([.agg [.agg [.lit (.int .u8 0), .lit (.int .u8 0), .lit (.int .u8 0), .lit (.int .u8 0), .lit (.int .u8 0)], .nil], .lit (.int .u8 0), .agg [.lit (.int .u8 0), .lit (.int .u8 0), .lit (.int .u8 0), .lit (.int .u8 0), .lit (.int .u8 0), .lit (.int .u8 0)]], [], places) :=
  ⟨[], by kernel_rfl⟩
set_option maxRecDepth 100000 in
theorem lifted (os : Os) (started : os.Started) (H : Type) (enc : TypeId × Value → H) (F : Stop.Interp) :
    ReturnsInHanded {} Tryd.checked os 8 .any ((OpenSpec.ofChange Rows.forkRightSpec).preRow enc Tryd.prog Tryd.f8 Rows.forkRightRow.domain false Rows.forkRightRow.laid) (((OpenSpec.ofChange Rows.forkRightSpec).at F).post enc Tryd.prog Tryd.f8 false true false false) := by
  obtain ⟨places, hx⟩ := reads os enc
  refine returnsInHanded_of_row (C := Tryd.checked) (s := OpenSpec.ofChange Rows.forkRightSpec) own started (by kernel_rfl) Tryd.func8
    (witness_row_at (enc := enc) (C := Tryd.checked) false (laidWorld os) #[.agg #[.int .u8 0, .int .u8 0, .int .u8 0, .int .u8 0, .int .u8 0, .slice none 0 0], .int .u8 0, .agg #[.int .u8 0, .int .u8 0, .int .u8 0, .int .u8 0, .int .u8 0, .int .u8 0]] rfl (by kernel_rfl) (by kernel_rfl) (by kernel_rfl)
      (OpenSpec.preRow_of_cond 8 hx (by kernel_rfl) (fun k hk => by cases hk) (by kernel_rfl) (laid_met os))) ?_
  intro W base args ds gs before hval hW _ _ _ hL _ _
  exact contract H enc W base args ds gs before hval hW hL
theorem said : Rows.ForkRightSaid :=
  OpenClaim.holds_of_cond 8 Tryd.f8 rfl rfl rfl rfl rfl rfl rfl ⟨rfl, rfl, rfl, rfl, rfl⟩ rfl rfl rfl rfl rfl (by kernel_rfl) Tryd.func8 (by kernel_rfl)
    (of_decide_eq_true (by kernel_rfl)) (by unfold Func.isWrapper; first | (rw [if_pos (by decide +kernel)]; kernel_rfl) | (rw [if_neg (by decide +kernel)]; exact ⟨rfl, rfl⟩))
    (fun os started H enc _ F => by rw [OpenClaim.pre_eq_preRow]; exact lifted os started H enc F)
theorem plain (f : FuncId) (fn : Func) (hf : Tryd.pinned.checked.prog.funcNamed "smalto/smaltolaw03.ForkRight" = some f) (hfn : Tryd.pinned.checked.prog.funcs[f]? = some fn) :
    false = Tryd.pinned.checked.prog.looks [] ∧ ∀ (j : Nat) t, fn.params[j]? = some t → Tryd.pinned.checked.prog.wantsStandIn t = false := by
  obtain rfl : f = 8 := Option.some.inj ((show Tryd.prog.funcNamed "smalto/smaltolaw03.ForkRight" = some 8 by kernel_rfl).symm.trans hf) |>.symm
  obtain rfl : fn = Tryd.f8 := (Option.some.inj (Tryd.func8.symm.trans hfn)).symm
  refine ⟨by kernel_rfl, fun j t ht => ?_⟩
  rw [Tryd.params8] at ht
  have hm := Array.mem_of_getElem? ht
  simp only [List.mem_toArray, List.mem_cons, List.not_mem_nil, or_false] at hm
  rcases hm with rfl | rfl | rfl
  · exact (show Tryd.prog.wantsStandIn 66 = false by kernel_rfl)
  · exact (show Tryd.prog.wantsStandIn 5 = false by kernel_rfl)
  · exact (show Tryd.prog.wantsStandIn 67 = false by kernel_rfl)
/-- The card. -/
theorem card : Rows.ForkRightCardSaid :=
  Claim7.holds_tied_plain_at .later [] _ _ _ _ said (fun _ h => by cases h) (by kernel_rfl) (fun _ h => by cases h) forkRight_row_tie rfl ⟨rfl, rfl⟩ (by kernel_rfl) rfl plain (by kernel_rfl)
end Go.Proofs.YtbijamlgcebgeaaDoor.forkRight
namespace Go.Proofs.YtbijamlgcebgeaaDoor
theorem forkRight_card : Rows.ForkRightCardSaid := forkRight.card
end Go.Proofs.YtbijamlgcebgeaaDoor

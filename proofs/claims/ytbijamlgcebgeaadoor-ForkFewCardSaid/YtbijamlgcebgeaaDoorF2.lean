/- ForkFew: the law returns true for every input; each argument reads behind the call as it read before (for worlds in which the two tables of the library hold what its initialisers lay). Part 2 of 2. -/
import Derived.Test.YtbijamlgcebgeaaDoorF1
import Derived.Test.YtbijamlgcebgeaaDoorCards
import Derived.Test.YtbijamlgcebgeaaDoorTie
set_option linter.unusedVariables false
set_option linter.unusedSimpArgs false
-- part SN3
namespace Go.Proofs.YtbijamlgcebgeaaDoor.Q
open Go.RowKit Go.Proofs.YtbijamlgcebgeaaDoorW.PrintWords Go.Proofs.YtbijamlgcebgeaaDoorW.PrintLast Go.Proofs.YtbijamlgcebgeaaDoorW.PrintMore
attribute [local go_sem] max2_int min2_int max_two min_two max_three min_three max_four min_four
set_option maxHeartbeats 8000000 in
set_option maxRecDepth 100000 in
theorem lF.part2 : lF.cut2.1 := by
 intro k a0_0 a0_1 a0_2 a0_3 a0_4 A0_5 c0_5 l0_5 a1_0 a1_1 a1_2 a1_3 a1_4 a1_5 a2 r w hu66 hu67 hu23 HTAB HR0_5 HC0_5 t201 t202 t203 t204 t205 t206 A4 t210 A5 t213 t216 A6 t217 A7 t220 A8 z1_ gb199 w10 GW199 GE199 gb200 w11 GW200 GE200 NB199_200 NB200_199 hnb12 hnc12 w14 gb209 w15 GW209 GE209 NB199_209 NB209_199 NB200_209 NB209_200 hnb16 hnc16 hnb17 hnc17 w19 Ao21 co21 z2_ z3_ w20 z4_ w22 Ao23 co23 z5_ w24 v214 z6_ HT_ HW_ w25 z7_ w26 Ao27 co27 z8_ w28 HO208 HO212 HO219 z9_ z10_ z11_ z12_ hHeld wc u40 u41 u42 u43 u44 u45 u46 u47 u48 u49 u50 u51 u52 u53 u54 u55 u56 u57 u58 u59 u60 u61 u62 u63 u64 u65 u66 u67 u68 u69 u70 u71 u72 u73 u74 u75 u76 u77 u78 u79 z13_ z14_ z15_ z16_ z17_ z18_ z19_ z20_ z21_ z22_ z23_ z24_ z25_ z26_ z27_ z28_ z29_ z30_ z31_ z32_ z33_ z34_ z35_ z36_ z37_ z38_ z39_ z40_ z41_ z42_ z43_ z44_ z45_ u114 z46_ z47_ z48_ z49_ z50_ z51_ z52_ z53_ z54_ z55_ z56_ z57_ z58_ z59_ z1_1 z1_2 z1_3 z1_4 z1_5 z1_6 z1_7 z1_8 z1_9 z1_10 z1_11 z1_12 z1_13 z1_14 z1_15 z1_16 z1_17 z1_18 z1_19 z1_20 z1_21 z1_22 z1_23 z1_24 z1_25 z1_26 z1_27 z1_28 z1_29 z1_30 z1_31 z1_32 z1_33 z1_34 z1_35 z1_36 z1_37 z1_38 z1_39 z1_40 z1_41 z1_42 z1_43 z1_44 z1_45 z1_46 z1_47 z1_48 z1_49 z1_50 z1_51 z1_52 z1_53 u182 u183 u184 u185 u186 u187 u188 u189 u190 u191 u192 u193 u194 u195 u196 u197 u198 u199 u200 u201 u202 u203 u204 u205 u206 u207 u208 u209 u210 u211 u212 u213 u214 u215 u216 u217 u218 u219 u220 u221 u222 u223 u224 u225 u226 u227 u228 u229 u230 u231 u232 u233 u234 u235 u236 u237 u238 u239 u240 u241 u242 u243 u244 u245 u246 u248 u249 u250 u251 u252 u253 u254 u255 u256 u257 u258 u259 u260 u261 u262 u263 u264 u266 u267 u268 u269 u270 u272 u273 u274 u275 u276 u278 u279 u280 u281 u282 u284 u285 u286 u287 u288 u289 u290 u291 u292 u293 u294 u295 u296 u297 u298 u299 u300 u301 u302 u303 u304 u305 u306 u307 u308 u309 u310 u311 u312 u313 u314 u315 u316 u317 z60_ z61_ z62_ z63_ z64_ kj8 HJ8 z65_ z66_ z1_54 u14 u15 u16 u17 u81 u82 u83 u84 u85 u86 u87 u88 u89 u90 u91 u92 u93 u94 u95 u96 u97 u98 u99 u100 u101 u102 u103 u104 u105 u106 u107 u108 u109 u110 u111 u112 u113 z67_ z68_ x13_2 k2 z69_ HK2 y236 Ny236 Ao63 co63 HO215 HO222 z70_ z71_ z72_ z73_ z74_ v237 w64 z1_55 z1_56 z1_57 HO238 z1_58 z1_59 z1_60 z1_61 z75_ z1_62 u18 u115 u116 u117 u118 u119 u120 u121 u122 u123 u124 u125 u126 u127 u128 z77_ z78_ z79_ x18_3 x21_3 z1_63 z1_64 z1_65 z1_66 z1_67 z1_68 z1_69 z1_70 k3 z80_ HK3 z1_71 z1_72 z1_73 z1_74 z1_75 u23 u24 u25 u26 u129 u130 u131 u132 u133 u134 u135 u136 u137 u138 u139 u140 u141 u142 u143 u144 u145 u146 u147 u148 u149 u150 u151 u152 u153 u154 u155 z1_76 z1_77 z1_78 x19_4 x20_4 x22_4 HO_8 HO_9 HO_11 HO_18 BK199 BK200 BK209 HB k4 z1_79 HK4 c74b0 H' z1_80 z1_81 z1_82 z1_83 gk wr u6 u27 u28 u156 u157 u158 u159 u160 u161 u162 u163 u164 u165 u166 u167 u168 u169 u170 u171 u172 u173 u174 u175 u176 u177 u178 u179 u180 u181 hrel z1_84 z1_85 z1_86 z1_87
 clear H'
 try clear c1
 try clear p2
 try clear c4
 try clear p6
 try clear c7
 try clear c9
 try clear c17
 try clear c43
 try clear c47
 try clear p64
 try clear c74
 try clear c74b0
 try clear c78
 try clear c94
 try clear c94b0
 try clear c94b1
 obtain ⟨x27_5, x28_5, rfl, rfl, HA, HK5, HO_8, HO_9, HO_11, BK199, BK200, BK209, HB⟩ := hrel
 rcases gk with _ | k5
 ·exact absurd HA.out (by simp [lF.l4])
 have H := HA.out
 clear HA
 simp only [lF.l4] at H
 by_cases c109 : x28_5 < (t213.length : Int)
 ·rw [if_pos c109] at H
  have c109b0 : decide (x28_5 < (t213.length : Int)) = true := decide_eq_true c109
  clear c109
  by_cases c110 : 0 ≤ x28_5
  ·rw [if_pos c110] at H
   have c110b0 : decide (0 ≤ x28_5) = true := decide_eq_true c110
   clear c110
   by_cases c111 : (rd t213 x28_5) < 0
   ·rw [if_pos c111] at H
    have c111b0 : decide ((rd t213 x28_5) < 0) = true := decide_eq_true c111
    clear c111
    obtain rfl := Option.some.inj H
    obtain ⟨Ao112, co112, eo112⟩ := Kd.R_slice HO_9.out
    subst eo112
    have p252 : 0 ≤ (x28_5 : Int) := of_decide_eq_true (by first | (with_reducible assumption) | assumption)
    have q252 : x28_5 < (t213.length : Int) := of_decide_eq_true (by first | (with_reducible assumption) | assumption)
    obtain ⟨ad252, e252, hx252_0⟩ := Kd.at_int (Kd.R_reads' HO_9.out).2.2 x28_5 p252 q252
    cases e252
    replace p252 := eq_true p252
    replace q252 := eq_true q252
    go_wp2
    go_ret
    exact ⟨by first | rfl | (simp [errW_none, errW_some] <;> rfl) | (simp [*, errW_none, errW_some] <;> rfl), by repeat (first | (with_reducible first | exact HB.out | apply below_alloc | apply pw_below_drewN | apply below_drew1 | refine below_set ?_ GE199.out | refine below_set ?_ GE200.out | refine below_set ?_ GE209.out) | exact HB.out)⟩
   rw [if_neg c111] at H
   have c111b0 : decide ((rd t213 x28_5) < 0) = false := decide_eq_false c111
   clear c111
   by_cases c113 : (rd t213 x28_5) > x27_5
   ·rw [if_pos c113] at H
    have c113b0 : decide (x27_5 < (rd t213 x28_5)) = true := decide_eq_true c113
    clear c113
    obtain rfl := Option.some.inj H
    obtain ⟨Ao114, co114, eo114⟩ := Kd.R_slice HO_9.out
    subst eo114
    have p252 : 0 ≤ (x28_5 : Int) := of_decide_eq_true (by first | (with_reducible assumption) | assumption)
    have q252 : x28_5 < (t213.length : Int) := of_decide_eq_true (by first | (with_reducible assumption) | assumption)
    obtain ⟨ad252, e252, hx252_0⟩ := Kd.at_int (Kd.R_reads' HO_9.out).2.2 x28_5 p252 q252
    cases e252
    replace p252 := eq_true p252
    replace q252 := eq_true q252
    have p253 : 0 ≤ (x28_5 : Int) := of_decide_eq_true (by first | (with_reducible assumption) | assumption)
    have q253 : x28_5 < (t213.length : Int) := of_decide_eq_true (by first | (with_reducible assumption) | assumption)
    obtain ⟨ad253, e253, hx253_0⟩ := Kd.at_int (Kd.R_reads' HO_9.out).2.2 x28_5 p253 q253
    obtain rfl : ad252 = ad253 := (by injection e253)
    replace p253 := eq_true p253
    replace q253 := eq_true q253
    go_wp2
    go_ret
    exact ⟨by first | rfl | (simp [errW_none, errW_some] <;> rfl) | (simp [*, errW_none, errW_some] <;> rfl), by repeat (first | (with_reducible first | exact HB.out | apply below_alloc | apply pw_below_drewN | apply below_drew1 | refine below_set ?_ GE199.out | refine below_set ?_ GE200.out | refine below_set ?_ GE209.out) | exact HB.out)⟩
   rw [if_neg c113] at H
   have c113b0 : decide (x27_5 < (rd t213 x28_5)) = false := decide_eq_false c113
   clear c113
   obtain ⟨ji115, hji115⟩ : ∃ j_ : Int, (mx x27_5 (wrap64 ((rd t213 x28_5) + 1))) = j_ := ⟨_, rfl⟩
   replace H : (lF.l4 k5 a2 t206 t213 t216 t220 x19_4 x20_4 ji115 (wrap64 (x28_5 + 1)) t201 t202 t203 t204 t205) = some r := by first | (rw [hji115] at H; exact H) | (simp only [hji115] at H ⊢; exact H)
   have hji115_ : (if x27_5 < (wrap64 ((rd t213 x28_5) + 1)) then (wrap64 ((rd t213 x28_5) + 1)) else x27_5) = ji115 := hji115
   have H' := Aside0.mk H
   clear H
   obtain ⟨Ao116, co116, eo116⟩ := Kd.R_slice HO_9.out
   subst eo116
   have p252 : 0 ≤ (x28_5 : Int) := of_decide_eq_true (by first | (with_reducible assumption) | assumption)
   have q252 : x28_5 < (t213.length : Int) := of_decide_eq_true (by first | (with_reducible assumption) | assumption)
   obtain ⟨ad252, e252, hx252_0⟩ := Kd.at_int (Kd.R_reads' HO_9.out).2.2 x28_5 p252 q252
   cases e252
   replace p252 := eq_true p252
   replace q252 := eq_true q252
   have p253 : 0 ≤ (x28_5 : Int) := of_decide_eq_true (by first | (with_reducible assumption) | assumption)
   have q253 : x28_5 < (t213.length : Int) := of_decide_eq_true (by first | (with_reducible assumption) | assumption)
   obtain ⟨ad253, e253, hx253_0⟩ := Kd.at_int (Kd.R_reads' HO_9.out).2.2 x28_5 p253 q253
   obtain rfl : ad252 = ad253 := (by injection e253)
   replace p253 := eq_true p253
   replace q253 := eq_true q253
   have p254 : 0 ≤ (x28_5 : Int) := of_decide_eq_true (by first | (with_reducible assumption) | assumption)
   have q254 : x28_5 < (t213.length : Int) := of_decide_eq_true (by first | (with_reducible assumption) | assumption)
   obtain ⟨ad254, e254, hx254_0⟩ := Kd.at_int (Kd.R_reads' HO_9.out).2.2 x28_5 p254 q254
   obtain rfl : ad252 = ad254 := (by injection e254)
   replace p254 := eq_true p254
   replace q254 := eq_true q254
   go_wp2
   go_roundg k5
   case measure => have := HJ8.out; have := HK2.out; have := HK3.out; have := HK4.out; have := HK5.out; omega
   case rel => exact ⟨(ji115), (wrap64 (x28_5 + 1)), (by first | rfl | (simp; done) | (simp only [← hji115] <;> (first | rfl | simp)) | (simp [*]; done)), (by first | rfl | (simp; done) | (simp [*]; done)), H', ⟨by have := HJ8.out; have := HK2.out; have := HK3.out; have := HK4.out; have := HK5.out; omega⟩, ⟨R_ HO_8⟩, ⟨R_ HO_9⟩, ⟨R_ HO_11⟩, ⟨b_ BK199⟩, ⟨b_ BK200⟩, ⟨b_ BK209⟩, ⟨by repeat (first | (with_reducible first | exact HB.out | apply below_alloc | apply pw_below_drewN | apply below_drew1 | refine below_set ?_ GE199.out | refine below_set ?_ GE200.out | refine below_set ?_ GE209.out) | exact HB.out)⟩⟩
  rw [if_neg c110] at H
  exact absurd H (by simp)
 rw [if_neg c109] at H
 have c109b0 : decide (x28_5 < (t213.length : Int)) = false := decide_eq_false c109
 clear c109
 by_cases c117 : t216 = 0
 ·rw [if_pos c117] at H
  have c117b0 : (t216 == 0) = true := beq_iff_eq.mpr c117
  have c117b1 : (t216 != 0) = false := bne_eq_false_iff_eq.mpr c117
  clear c117
  have HC118 := Aside0.mk H
  clear H
  obtain ⟨Ao119, co119, eo119⟩ := Kd.R_slice HO_9.out
  subst eo119
  go_upto_region 39 with (fail)
  go_cut [217] (fun v217 wc => ∃ (kq : Nat) (x217_117 : Bool), v217 = .bool x217_117 ∧ Aside0 (lF.j6 kq a2 t206 t213 x27_5 x217_117 t201 t202 t203 t204 t205 = some r) ∧ Aside0 (kq ≤ k5) ∧ Aside0 (Kd.R k74 74 wc w.heap.size (fun _ => True) (.slice Ao21 t206.length co21) t206) ∧ Aside0 (Kd.R (Kd.int .i64) 3 wc w.heap.size (fun _ => True) (.slice Ao119 t213.length co119) t213) ∧ Aside0 (wc.heap[gb199]? = some (.cells #[.int .u8 a0_0, .int .u8 a0_1, .int .u8 a0_2, .int .u8 a0_3, .int .u8 a0_4, (.slice A0_5 l0_5.length c0_5)] 66 (0, 0))) ∧ Aside0 (wc.heap[gb200]? = some (.cells #[.int .u8 a1_0, .int .u8 a1_1, .int .u8 a1_2, .int .u8 a1_3, .int .u8 a1_4, .int .u8 a1_5] 67 (0, 0))) ∧ Aside0 (wc.heap[gb209]? = some (.cells #[.int .i64 t201, .int .i64 t202, .int .i64 t203, .int .i64 t204, .int .i64 t205] 23 (0, 0))) ∧ Aside0 (Below w.heap.size w wc))
  case first =>
   have H := HC118.out
   clear HC118
   by_cases c120 : (t213.length : Int) = (t206.length : Int)
   ·rw [if_pos c120] at H
    have c120b0 : ((t213.length : Int) == (t206.length : Int)) = true := beq_iff_eq.mpr c120
    have c120b1 : ((t213.length : Int) != (t206.length : Int)) = false := bne_eq_false_iff_eq.mpr c120
    have c120b2 : (t213.length == t206.length) = true := by first | simpa using c120 | (simp at c120 ⊢; omega)
    clear c120
    (first | rw [c120b0] | (simp only [i64_w, i32_w]; rw [c120b0]) | skip)
    by_cases c121 : x19_4 = true
    ·subst c121
     have H1 : (if x20_4 < x27_5 then (lF.j6 k5 a2 t206 t213 x27_5 true t201 t202 t203 t204 t205) else (if (t220.length : Int) > x27_5 then (lF.j6 k5 a2 t206 t213 x27_5 true t201 t202 t203 t204 t205) else (if (t206.length : Int) > 0 then (lF.j6 k5 a2 t206 t213 x27_5 ((t220.length : Int) == 0) t201 t202 t203 t204 t205) else (lF.j6 k5 a2 t206 t213 x27_5 false t201 t202 t203 t204 t205)))) = some r := by rw [if_pos rfl] at H; exact H
     clear H
     have H := H1
     clear H1
     by_cases c122 : x20_4 < x27_5
     ·rw [if_pos c122] at H
      have c122b0 : decide (x20_4 < x27_5) = true := decide_eq_true c122
      clear c122
      have H' := Aside0.mk H
      clear H
      go_wp2
      go_meet
      case rel => exact ⟨_, (true), (by first | rfl | (simp; done) | (simp [*]; done)), H', ⟨by have := HJ8.out; have := HK2.out; have := HK3.out; have := HK4.out; have := HK5.out; first | omega | exact Nat.le_refl _⟩, ⟨R_ HO_8⟩, ⟨Kd.R_mono (R_ HO_9) (fun _ hk => trivial)⟩, ⟨b_ BK199⟩, ⟨b_ BK200⟩, ⟨b_ BK209⟩, ⟨by repeat (first | (with_reducible first | exact HB.out | apply below_alloc | apply pw_below_drewN | apply below_drew1 | refine below_set ?_ GE199.out | refine below_set ?_ GE200.out | refine below_set ?_ GE209.out) | exact HB.out)⟩⟩
     rw [if_neg c122] at H
     have c122b0 : decide (x20_4 < x27_5) = false := decide_eq_false c122
     clear c122
     by_cases c123 : (t220.length : Int) > x27_5
     ·rw [if_pos c123] at H
      have c123b0 : decide (x27_5 < (t220.length : Int)) = true := decide_eq_true c123
      clear c123
      have H' := Aside0.mk H
      clear H
      go_wp2
      go_meet
      case rel => exact ⟨_, (true), (by first | rfl | (simp; done) | (simp [*]; done)), H', ⟨by have := HJ8.out; have := HK2.out; have := HK3.out; have := HK4.out; have := HK5.out; first | omega | exact Nat.le_refl _⟩, ⟨R_ HO_8⟩, ⟨Kd.R_mono (R_ HO_9) (fun _ hk => trivial)⟩, ⟨b_ BK199⟩, ⟨b_ BK200⟩, ⟨b_ BK209⟩, ⟨by repeat (first | (with_reducible first | exact HB.out | apply below_alloc | apply pw_below_drewN | apply below_drew1 | refine below_set ?_ GE199.out | refine below_set ?_ GE200.out | refine below_set ?_ GE209.out) | exact HB.out)⟩⟩
     rw [if_neg c123] at H
     have c123b0 : decide (x27_5 < (t220.length : Int)) = false := decide_eq_false c123
     clear c123
     by_cases c124 : (t206.length : Int) > 0
     ·rw [if_pos c124] at H
      have c124b0 : decide (0 < (t206.length : Int)) = true := decide_eq_true c124
      have c124b1 : decide (0 < t206.length) = true := decide_eq_true (by omega)
      clear c124
      have H' := Aside0.mk H
      clear H
      go_wp2
      go_meet
      case rel => exact ⟨_, (((t220.length : Int) == 0)), (by first | rfl | (simp; done) | (simp [*]; done)), H', ⟨by have := HJ8.out; have := HK2.out; have := HK3.out; have := HK4.out; have := HK5.out; first | omega | exact Nat.le_refl _⟩, ⟨R_ HO_8⟩, ⟨Kd.R_mono (R_ HO_9) (fun _ hk => trivial)⟩, ⟨b_ BK199⟩, ⟨b_ BK200⟩, ⟨b_ BK209⟩, ⟨by repeat (first | (with_reducible first | exact HB.out | apply below_alloc | apply pw_below_drewN | apply below_drew1 | refine below_set ?_ GE199.out | refine below_set ?_ GE200.out | refine below_set ?_ GE209.out) | exact HB.out)⟩⟩
     rw [if_neg c124] at H
     have c124b0 : decide (0 < (t206.length : Int)) = false := decide_eq_false c124
     have c124b1 : decide (0 < t206.length) = false := decide_eq_false (by omega)
     clear c124
     have H' := Aside0.mk H
     clear H
     go_wp2
     go_meet
     case rel => exact ⟨_, (false), (by first | rfl | (simp; done) | (simp [*]; done)), H', ⟨by have := HJ8.out; have := HK2.out; have := HK3.out; have := HK4.out; have := HK5.out; first | omega | exact Nat.le_refl _⟩, ⟨R_ HO_8⟩, ⟨Kd.R_mono (R_ HO_9) (fun _ hk => trivial)⟩, ⟨b_ BK199⟩, ⟨b_ BK200⟩, ⟨b_ BK209⟩, ⟨by repeat (first | (with_reducible first | exact HB.out | apply below_alloc | apply pw_below_drewN | apply below_drew1 | refine below_set ?_ GE199.out | refine below_set ?_ GE200.out | refine below_set ?_ GE209.out) | exact HB.out)⟩⟩
    replace c121 := Bool.eq_false_iff.mpr c121
    subst c121
    have H1 : (if (t220.length : Int) > x27_5 then (lF.j6 k5 a2 t206 t213 x27_5 true t201 t202 t203 t204 t205) else (if (t206.length : Int) > 0 then (lF.j6 k5 a2 t206 t213 x27_5 ((t220.length : Int) == 0) t201 t202 t203 t204 t205) else (lF.j6 k5 a2 t206 t213 x27_5 false t201 t202 t203 t204 t205))) = some r := by rw [if_neg (show ¬ (false = true) by decide)] at H; exact H
    clear H
    have H := H1
    clear H1
    by_cases c125 : (t220.length : Int) > x27_5
    ·rw [if_pos c125] at H
     have c125b0 : decide (x27_5 < (t220.length : Int)) = true := decide_eq_true c125
     clear c125
     have H' := Aside0.mk H
     clear H
     go_wp2
     go_meet
     case rel => exact ⟨_, (true), (by first | rfl | (simp; done) | (simp [*]; done)), H', ⟨by have := HJ8.out; have := HK2.out; have := HK3.out; have := HK4.out; have := HK5.out; first | omega | exact Nat.le_refl _⟩, ⟨R_ HO_8⟩, ⟨Kd.R_mono (R_ HO_9) (fun _ hk => trivial)⟩, ⟨b_ BK199⟩, ⟨b_ BK200⟩, ⟨b_ BK209⟩, ⟨by repeat (first | (with_reducible first | exact HB.out | apply below_alloc | apply pw_below_drewN | apply below_drew1 | refine below_set ?_ GE199.out | refine below_set ?_ GE200.out | refine below_set ?_ GE209.out) | exact HB.out)⟩⟩
    rw [if_neg c125] at H
    have c125b0 : decide (x27_5 < (t220.length : Int)) = false := decide_eq_false c125
    clear c125
    by_cases c126 : (t206.length : Int) > 0
    ·rw [if_pos c126] at H
     have c126b0 : decide (0 < (t206.length : Int)) = true := decide_eq_true c126
     have c126b1 : decide (0 < t206.length) = true := decide_eq_true (by omega)
     clear c126
     have H' := Aside0.mk H
     clear H
     go_wp2
     go_meet
     case rel => exact ⟨_, (((t220.length : Int) == 0)), (by first | rfl | (simp; done) | (simp [*]; done)), H', ⟨by have := HJ8.out; have := HK2.out; have := HK3.out; have := HK4.out; have := HK5.out; first | omega | exact Nat.le_refl _⟩, ⟨R_ HO_8⟩, ⟨Kd.R_mono (R_ HO_9) (fun _ hk => trivial)⟩, ⟨b_ BK199⟩, ⟨b_ BK200⟩, ⟨b_ BK209⟩, ⟨by repeat (first | (with_reducible first | exact HB.out | apply below_alloc | apply pw_below_drewN | apply below_drew1 | refine below_set ?_ GE199.out | refine below_set ?_ GE200.out | refine below_set ?_ GE209.out) | exact HB.out)⟩⟩
    rw [if_neg c126] at H
    have c126b0 : decide (0 < (t206.length : Int)) = false := decide_eq_false c126
    have c126b1 : decide (0 < t206.length) = false := decide_eq_false (by omega)
    clear c126
    have H' := Aside0.mk H
    clear H
    go_wp2
    go_meet
    case rel => exact ⟨_, (false), (by first | rfl | (simp; done) | (simp [*]; done)), H', ⟨by have := HJ8.out; have := HK2.out; have := HK3.out; have := HK4.out; have := HK5.out; first | omega | exact Nat.le_refl _⟩, ⟨R_ HO_8⟩, ⟨Kd.R_mono (R_ HO_9) (fun _ hk => trivial)⟩, ⟨b_ BK199⟩, ⟨b_ BK200⟩, ⟨b_ BK209⟩, ⟨by repeat (first | (with_reducible first | exact HB.out | apply below_alloc | apply pw_below_drewN | apply below_drew1 | refine below_set ?_ GE199.out | refine below_set ?_ GE200.out | refine below_set ?_ GE209.out) | exact HB.out)⟩⟩
   rw [if_neg c120] at H
   have c120b0 : ((t213.length : Int) == (t206.length : Int)) = false := beq_eq_false_iff_ne.mpr c120
   have c120b1 : ((t213.length : Int) != (t206.length : Int)) = true := bne_iff_ne.mpr c120
   have c120b2 : (t213.length == t206.length) = false := by first | simpa using c120 | (simp at c120 ⊢; omega)
   (first | rw [c120b0] | (simp only [i64_w, i32_w]; rw [c120b0]) | skip)
   have H' := Aside0.mk H
   clear H
   go_wp2
   go_meet
   case rel => exact ⟨_, (true), (by first | rfl | (simp; done) | (simp [*]; done)), H', ⟨by have := HJ8.out; have := HK2.out; have := HK3.out; have := HK4.out; have := HK5.out; first | omega | exact Nat.le_refl _⟩, ⟨R_ HO_8⟩, ⟨Kd.R_mono (R_ HO_9) (fun _ hk => trivial)⟩, ⟨b_ BK199⟩, ⟨b_ BK200⟩, ⟨b_ BK209⟩, ⟨by repeat (first | (with_reducible first | exact HB.out | apply below_alloc | apply pw_below_drewN | apply below_drew1 | refine below_set ?_ GE199.out | refine below_set ?_ GE200.out | refine below_set ?_ GE209.out) | exact HB.out)⟩⟩
  case rest => as_aux_lemma =>
   clear HC118
   try clear c1
   try clear p2
   try clear q2
   try clear hx2
   try clear c4
   try clear p6
   try clear c7
   try clear c9
   try clear c10
   try clear c11
   try clear c12
   try clear c17
   try clear p25
   try clear q25
   try clear hx25
   try clear c43
   try clear c47
   try clear p64
   try clear c74
   try clear c74b0
   try clear c78
   try clear c94
   try clear c94b0
   try clear c94b1
   try clear c109
   try clear c109b0
   try clear c110
   try clear c110b0
   try clear c111
   try clear c111b0
   try clear c113
   try clear c113b0
   try clear c117
   try clear c117b0
   try clear c117b1
   try clear c120
   try clear c120b0
   try clear c120b1
   try clear c120b2
   try clear c121
   try clear c122
   try clear c122b0
   try clear c123
   try clear c123b0
   try clear c124
   try clear c124b0
   try clear c124b1
   try clear c125
   try clear c125b0
   try clear c126
   try clear c126b0
   try clear c126b1
   try clear hx252_0
   try clear hx253_0
   try clear hx254_0
   try clear p2
   try clear p252
   try clear p253
   try clear p254
   try clear p6
   try clear p64
   try clear q252
   try clear q253
   try clear q254
   obtain ⟨kq, x217_117, rfl, HA, HJ117, HO_8, HO_9, BK199, BK200, BK209, HB⟩ := hcut
   rcases kq with _ | kj117
   ·exact absurd HA.out (by simp [lF.j6])
   have H := HA.out
   clear HA
   simp only [lF.j6] at H
   by_cases c127 : x217_117 = true
   ·subst c127
    have H1 : (some false) = some r := by rw [if_pos rfl] at H; exact H
    clear H
    have H := H1
    clear H1
    obtain rfl := Option.some.inj H
    go_wp2
    go_ret
    exact ⟨by first | rfl | (simp [errW_none, errW_some] <;> rfl) | (simp [*, errW_none, errW_some] <;> rfl), by repeat (first | (with_reducible first | exact HB.out | apply below_alloc | apply pw_below_drewN | apply below_drew1 | refine below_set ?_ GE199.out | refine below_set ?_ GE200.out | refine below_set ?_ GE209.out) | exact HB.out)⟩
   replace c127 := Bool.eq_false_iff.mpr c127
   subst c127
   have H1 : (lF.l5 kj117 a2 t206 t213 x27_5 0 t201 t202 t203 t204 t205) = some r := by rw [if_neg (show ¬ (false = true) by decide)] at H; exact H
   clear H
   have H := H1
   clear H1
   have H' := Aside0.mk H
   clear H
   go_wp2
   go_loopg [29] kj117 (fun kq v29 w' => ∃ (x29_7 : Int), v29 = .int .i64 x29_7 ∧ Aside0 (lF.l5 kq a2 t206 t213 x27_5 x29_7 t201 t202 t203 t204 t205 = some r) ∧ Aside0 (kq ≤ kj117) ∧ Aside0 (Kd.R k74 74 w' w.heap.size (fun _ => True) (.slice Ao21 t206.length co21) t206) ∧ Aside0 (Kd.R (Kd.int .i64) 3 w' w.heap.size (fun _ => True) (.slice Ao119 t213.length co119) t213) ∧ Aside0 (w'.heap[gb199]? = some (.cells #[.int .u8 a0_0, .int .u8 a0_1, .int .u8 a0_2, .int .u8 a0_3, .int .u8 a0_4, (.slice A0_5 l0_5.length c0_5)] 66 (0, 0))) ∧ Aside0 (w'.heap[gb200]? = some (.cells #[.int .u8 a1_0, .int .u8 a1_1, .int .u8 a1_2, .int .u8 a1_3, .int .u8 a1_4, .int .u8 a1_5] 67 (0, 0))) ∧ Aside0 (w'.heap[gb209]? = some (.cells #[.int .i64 t201, .int .i64 t202, .int .i64 t203, .int .i64 t204, .int .i64 t205] 23 (0, 0))) ∧ Aside0 (Below w.heap.size w w'))
   case atStart => exact ⟨(0), (by first | rfl | (simp; done) | (simp [*]; done)), H', ⟨Nat.le_refl _⟩, ⟨R_ HO_8⟩, ⟨R_ HO_9⟩, ⟨b_ BK199⟩, ⟨b_ BK200⟩, ⟨b_ BK209⟩, ⟨by repeat (first | (with_reducible first | exact HB.out | apply below_alloc | apply pw_below_drewN | apply below_drew1 | refine below_set ?_ GE199.out | refine below_set ?_ GE200.out | refine below_set ?_ GE209.out) | exact HB.out)⟩⟩
   case round => as_aux_lemma =>
    clear H'
    try clear c1
    try clear p2
    try clear q2
    try clear hx2
    try clear c4
    try clear p6
    try clear c7
    try clear c9
    try clear c10
    try clear c11
    try clear c12
    try clear c17
    try clear p25
    try clear q25
    try clear hx25
    try clear c43
    try clear c47
    try clear p64
    try clear c74
    try clear c74b0
    try clear c78
    try clear c94
    try clear c94b0
    try clear c94b1
    try clear c109
    try clear c109b0
    try clear c110
    try clear c110b0
    try clear c111
    try clear c111b0
    try clear c113
    try clear c113b0
    try clear c117
    try clear c117b0
    try clear c117b1
    try clear c120
    try clear c120b0
    try clear c120b1
    try clear c120b2
    try clear c121
    try clear c122
    try clear c122b0
    try clear c123
    try clear c123b0
    try clear c124
    try clear c124b0
    try clear c124b1
    try clear c125
    try clear c125b0
    try clear c126
    try clear c126b0
    try clear c126b1
    try clear c127
    try clear hx252_0
    try clear hx253_0
    try clear hx254_0
    try clear p2
    try clear p25
    try clear p252
    try clear p253
    try clear p254
    try clear p6
    try clear p64
    try clear q2
    try clear q25
    try clear q252
    try clear q253
    try clear q254
    obtain ⟨x29_7, rfl, HA, HK7, HO_8, HO_9, BK199, BK200, BK209, HB⟩ := hrel
    rcases gk with _ | k7
    ·exact absurd HA.out (by simp [lF.l5])
    have H := HA.out
    clear HA
    simp only [lF.l5] at H
    by_cases c128 : x29_7 < x27_5
    ·rw [if_pos c128] at H
     have c128b0 : decide (x29_7 < x27_5) = true := decide_eq_true c128
     clear c128
     replace H := Option.bind_eq_some_iff.mp H
     obtain ⟨t256, A1290, H⟩ := H
     replace H : ((smaltolaw03_of.f k7 t213 x29_7).bind fun t259 => ((goesC.f t201 t202 t203 t204 t205 t256 t259).bind fun bt262 => (if bt262.1 = true then (lF.l5 k7 a2 t206 t213 x27_5 (wrap64 (x29_7 + 1)) t201 t202 t203 t204 t205) else (some false)))) = some r := H
     have A129 := Aside0.mk A1290
     clear A1290
     replace H := Option.bind_eq_some_iff.mp H
     obtain ⟨t259, A1300, H⟩ := H
     replace H : ((goesC.f t201 t202 t203 t204 t205 t256 t259).bind fun bt262 => (if bt262.1 = true then (lF.l5 k7 a2 t206 t213 x27_5 (wrap64 (x29_7 + 1)) t201 t202 t203 t204 t205) else (some false))) = some r := H
     have A130 := Aside0.mk A1300
     clear A1300
     replace H := Option.bind_eq_some_iff.mp H
     obtain ⟨⟨t262, t263⟩, A1310, H⟩ := H
     replace H : (if t262 = true then (lF.l5 k7 a2 t206 t213 x27_5 (wrap64 (x29_7 + 1)) t201 t202 t203 t204 t205) else (some false)) = some r := H
     have A131 := Aside0.mk A1310
     clear A1310
     by_cases c132 : t262 = true
     ·subst c132
      have H1 : (lF.l5 k7 a2 t206 t213 x27_5 (wrap64 (x29_7 + 1)) t201 t202 t203 t204 t205) = some r := by rw [if_pos rfl] at H; exact H
      clear H
      have H := H1
      clear H1
      have H' := Aside0.mk H
      clear H
      try go_wp2
      have n0_ := Aside0.mk (Kd.R_drew HO_8.out)
      have n1_ := Aside0.mk (Kd.R_drew HO_9.out)
      have n2_ := Aside0.mk (blk_drew BK199.out)
      have n3_ := Aside0.mk (blk_drew BK200.out)
      have n4_ := Aside0.mk (blk_drew BK209.out)
      have n5_ := Aside0.mk (below_drew1 HB.out)
      clear HO_8
      clear HO_9
      clear BK199
      clear BK200
      clear BK209
      clear HB
      have HO_8 := n0_
      have HO_9 := n1_
      have BK199 := n2_
      have BK200 := n3_
      have BK209 := n4_
      have HB := n5_
      clear n0_ n1_ n2_ n3_ n4_ n5_
      refine start_ (n := 14) (S := fun w' => w'.cell? ⟨gb209, 0, none⟩ = some (.int .i64 t201) ∧ w'.cell? ⟨gb209, 1, none⟩ = some (.int .i64 t202) ∧ w'.cell? ⟨gb209, 2, none⟩ = some (.int .i64 t203) ∧ w'.cell? ⟨gb209, 3, none⟩ = some (.int .i64 t204) ∧ w'.cell? ⟨gb209, 4, none⟩ = some (.int .i64 t205)) (ds := []) (bl 14 0) (by kernel_rfl) rfl rfl ⟨(blk_cell BK209.out 0).trans rfl, (blk_cell BK209.out 1).trans rfl, (blk_cell BK209.out 2).trans rfl, (blk_cell BK209.out 3).trans rfl, (blk_cell BK209.out 4).trans rfl⟩ (fun hHeld => ?_); refine with_tabW lF.tab44 lF.bits44 (fun HT_ HW_ => ?_)
      generalize wr.drew = w133 at HO_8 HO_9 BK199 BK200 BK209 HB hHeld ⊢
      refine pq 1 (some 225) (bl 14 2) HT_ (h := ?_)
      refine pq 3 (some 227) (bl 14 10) HT_ (h := ?_)
      refine pq 4 (some 228) (bl 14 26) HT_ (h := ?_)
      refine tq 0 (some 224) (bl 14 27) HT_ HW_ hHeld (h := ?_)
      refine one_ (i := 2) (N := some 226) (bl 14 31) rfl rfl (one_of HT_.out (by kernel_rfl)) (by decide) (fun K hK => ?_)
      refine goes_ Tryd.func43 (by kernel_rfl) rfl #[.slice Ao21 t206.length co21] (by rfl) rfl rfl (by (try simp only [List.map_toArray, List.map_cons, List.map_nil]); first | done | rfl | (simp only [List.length_drop, List.length_take]; rfl)) ?_
      with_reducible refine (smaltolaw03_own.calls _ _ t206 t256 _ ?side1 ?side2 A129.out).mono ?_
      (case side1 => repeat (first | exact (Kd.R_reads' HO_8.out).2.2 | (with_reducible refine Kd.C_alloc ?_ _) | (with_reducible refine Kd.C_drewN ?_ _) | (with_reducible refine Kd.C_drew ?_)))
      (case side2 => exact (Kd.R_reads' HO_8.out).2.1)
      rintro e w134 ⟨v257, rfl, ho0, hb⟩
      refine ⟨_, rfl, ?_⟩
      have n0_ := Aside0.mk (Kd.R_elder' (R_ HO_8) (Kd.R_base ho0) hb)
      have n1_ := Aside0.mk (Kd.R_below (R_ HO_9) hb)
      have n2_ := Aside0.mk (Kd.R_lower (Kd.R_new' ho0 (Kd.R_lt (R_ HO_8))) (below_size (by repeat (first | (with_reducible first | exact HB.out | apply below_alloc | apply pw_below_drewN | apply below_drew1 | refine below_set ?_ GE199.out | refine below_set ?_ GE200.out | refine below_set ?_ GE209.out) | exact HB.out))))
      have n3_ := Aside0.mk (blk_below (g := gb199) (o := .cells #[.int .u8 a0_0, .int .u8 a0_1, .int .u8 a0_2, .int .u8 a0_3, .int .u8 a0_4, .slice A0_5 l0_5.length c0_5] 66 (0, 0)) (b_ BK199) hb)
      have n4_ := Aside0.mk (blk_below (g := gb200) (o := .cells #[.int .u8 a1_0, .int .u8 a1_1, .int .u8 a1_2, .int .u8 a1_3, .int .u8 a1_4, .int .u8 a1_5] 67 (0, 0)) (b_ BK200) hb)
      have n5_ := Aside0.mk (blk_below (g := gb209) (o := .cells #[.int .i64 t201, .int .i64 t202, .int .i64 t203, .int .i64 t204, .int .i64 t205] 23 (0, 0)) (b_ BK209) hb)
      have n6_ := Aside0.mk (below_step (by repeat (first | (with_reducible first | exact HB.out | apply below_alloc | apply pw_below_drewN | apply below_drew1 | refine below_set ?_ GE199.out | refine below_set ?_ GE200.out | refine below_set ?_ GE209.out) | exact HB.out)) hb)
      clear HO_8
      clear HO_9
      clear BK199
      clear BK200
      clear BK209
      clear HB
      have HO_8 := n0_
      have HO_9 := n1_
      have HO258 := n2_
      have BK199 := n3_
      have BK200 := n4_
      have BK209 := n5_
      have HB := n6_
      clear n0_ n1_ n2_ n3_ n4_ n5_ n6_
      (try clear hb)
      (try clear hb2)
      (try clear hk)
      (try clear hi)
      (try clear ho0)
      refine hK.out _ _ ⟨(blk_cell BK209.out 0).trans rfl, (blk_cell BK209.out 1).trans rfl, (blk_cell BK209.out 2).trans rfl, (blk_cell BK209.out 3).trans rfl, (blk_cell BK209.out 4).trans rfl⟩ (fun hHeld => ?_)
      clear hK K
      refine nq 226 ?_
      refine one_ (i := 5) (N := some 229) (bl 14 63) rfl rfl (one_of HT_.out (by kernel_rfl)) (by decide) (fun K hK => ?_)
      refine goes_ Tryd.func47 (by kernel_rfl) rfl #[.slice Ao119 t213.length co119, .int .i64 x29_7] (by rfl) rfl rfl (by (try simp only [List.map_toArray, List.map_cons, List.map_nil]); first | done | rfl | (simp only [List.length_drop, List.length_take]; rfl)) ?_
      with_reducible refine (smaltolaw03_of.calls k7 _ _ t213 x29_7 t259 _ ?side1 ?side2 A130.out).mono ?_
      (case side1 => repeat (first | exact (Kd.R_reads' HO_9.out).2.2 | (with_reducible refine Kd.C_alloc ?_ _) | (with_reducible refine Kd.C_drewN ?_ _) | (with_reducible refine Kd.C_drew ?_)))
      (case side2 => exact (Kd.R_reads' HO_9.out).2.1)
      rintro e w135 ⟨v260, rfl, ho0, hb⟩
      refine ⟨_, rfl, ?_⟩
      have n0_ := Aside0.mk (Kd.R_below (R_ HO_8) hb)
      have n1_ := Aside0.mk (Kd.R_elder' (R_ HO_9) (Kd.R_base ho0) hb)
      have n2_ := Aside0.mk (Kd.R_below (R_ HO258) hb)
      have n3_ := Aside0.mk (Kd.R_lower (Kd.R_new' ho0 (Kd.R_lt (R_ HO_9))) (below_size (by repeat (first | (with_reducible first | exact HB.out | apply below_alloc | apply pw_below_drewN | apply below_drew1 | refine below_set ?_ GE199.out | refine below_set ?_ GE200.out | refine below_set ?_ GE209.out) | exact HB.out))))
      have n4_ := Aside0.mk (blk_below (g := gb199) (o := .cells #[.int .u8 a0_0, .int .u8 a0_1, .int .u8 a0_2, .int .u8 a0_3, .int .u8 a0_4, .slice A0_5 l0_5.length c0_5] 66 (0, 0)) (b_ BK199) hb)
      have n5_ := Aside0.mk (blk_below (g := gb200) (o := .cells #[.int .u8 a1_0, .int .u8 a1_1, .int .u8 a1_2, .int .u8 a1_3, .int .u8 a1_4, .int .u8 a1_5] 67 (0, 0)) (b_ BK200) hb)
      have n6_ := Aside0.mk (blk_below (g := gb209) (o := .cells #[.int .i64 t201, .int .i64 t202, .int .i64 t203, .int .i64 t204, .int .i64 t205] 23 (0, 0)) (b_ BK209) hb)
      have n7_ := Aside0.mk (below_step (by repeat (first | (with_reducible first | exact HB.out | apply below_alloc | apply pw_below_drewN | apply below_drew1 | refine below_set ?_ GE199.out | refine below_set ?_ GE200.out | refine below_set ?_ GE209.out) | exact HB.out)) hb)
      clear HO_8
      clear HO_9
      clear HO258
      clear BK199
      clear BK200
      clear BK209
      clear HB
      have HO_8 := n0_
      have HO_9 := n1_
      have HO258 := n2_
      have HO261 := n3_
      have BK199 := n4_
      have BK200 := n5_
      have BK209 := n6_
      have HB := n7_
      clear n0_ n1_ n2_ n3_ n4_ n5_ n6_ n7_
      (try clear hb)
      (try clear hb2)
      (try clear hk)
      (try clear hi)
      (try clear ho0)
      obtain ⟨Ao136, co136, eo136⟩ := Kd.R_slice HO258.out
      (first | subst eo136 | (injection eo136 with f1_ f2_ f3_; have f4_ := f1_.symm; have f5_ := f3_.symm; clear f1_ f2_ f3_; subst f4_; subst f5_))
      obtain ⟨Ao137, co137, eo137⟩ := Kd.R_slice HO261.out
      (first | subst eo137 | (injection eo137 with f1_ f2_ f3_; have f4_ := f1_.symm; have f5_ := f3_.symm; clear f1_ f2_ f3_; subst f4_; subst f5_))
      refine hK.out _ _ ⟨(blk_cell BK209.out 0).trans rfl, (blk_cell BK209.out 1).trans rfl, (blk_cell BK209.out 2).trans rfl, (blk_cell BK209.out 3).trans rfl, (blk_cell BK209.out 4).trans rfl⟩ (fun hHeld => ?_)
      clear hK K
      refine nq 229 ?_
      refine one_ (i := 6) (N := some 230) (bl 14 127) rfl rfl (one_of HT_.out (by kernel_rfl)) (by decide) (fun K hK => ?_)
      refine goes_ Tryd.func17 (by kernel_rfl) rfl #[.agg #[.int .i64 t201, .int .i64 t202, .int .i64 t203, .int .i64 t204, .int .i64 t205], .slice Ao136 t256.length co136, .slice Ao137 t259.length co137] (by rfl) rfl rfl (by (try simp only [List.map_toArray, List.map_cons, List.map_nil]); first | done | rfl | (simp only [List.length_drop, List.length_take]; rfl)) ?_
      with_reducible refine (goesC.calls t201 t202 t203 t204 t205 _ _ t256 _ _ t259 true t263 _ ?side5 ?side1 ?side2 ?side3 ?side4 A131.out).mono ?_
      (case side1 => repeat (first | exact (Kd.R_reads' HO258.out).2.2 | (with_reducible refine Kd.C_alloc ?_ _) | (with_reducible refine Kd.C_drewN ?_ _) | (with_reducible refine Kd.C_drew ?_)))
      (case side2 => exact (Kd.R_reads' HO258.out).2.1)
      (case side3 => repeat (first | exact (Kd.R_reads' HO261.out).2.2 | (with_reducible refine Kd.C_alloc ?_ _) | (with_reducible refine Kd.C_drewN ?_ _) | (with_reducible refine Kd.C_drew ?_)))
      (case side4 => exact (Kd.R_reads' HO261.out).2.1)
      (case side5 => exact Hand.TabW.below HTAB.out (by repeat (first | (with_reducible first | exact HB.out | apply below_alloc | apply pw_below_drewN | apply below_drew1 | refine below_set ?_ GE199.out | refine below_set ?_ GE200.out | refine below_set ?_ GE209.out) | exact HB.out)))
      rintro e w138 ⟨rfl, hb⟩
      refine ⟨_, rfl, ?_⟩
      have n0_ := Aside0.mk (Kd.R_below (R_ HO_8) hb)
      have n1_ := Aside0.mk (Kd.R_below (R_ HO_9) hb)
      have n2_ := Aside0.mk (Kd.R_below (R_ HO258) hb)
      have n3_ := Aside0.mk (Kd.R_below (R_ HO261) hb)
      have n4_ := Aside0.mk (blk_below (g := gb199) (o := .cells #[.int .u8 a0_0, .int .u8 a0_1, .int .u8 a0_2, .int .u8 a0_3, .int .u8 a0_4, .slice A0_5 l0_5.length c0_5] 66 (0, 0)) (b_ BK199) hb)
      have n5_ := Aside0.mk (blk_below (g := gb200) (o := .cells #[.int .u8 a1_0, .int .u8 a1_1, .int .u8 a1_2, .int .u8 a1_3, .int .u8 a1_4, .int .u8 a1_5] 67 (0, 0)) (b_ BK200) hb)
      have n6_ := Aside0.mk (blk_below (g := gb209) (o := .cells #[.int .i64 t201, .int .i64 t202, .int .i64 t203, .int .i64 t204, .int .i64 t205] 23 (0, 0)) (b_ BK209) hb)
      have n7_ := Aside0.mk (below_step (by repeat (first | (with_reducible first | exact HB.out | apply below_alloc | apply pw_below_drewN | apply below_drew1 | refine below_set ?_ GE199.out | refine below_set ?_ GE200.out | refine below_set ?_ GE209.out) | exact HB.out)) hb)
      clear HO_8
      clear HO_9
      clear HO258
      clear HO261
      clear BK199
      clear BK200
      clear BK209
      clear HB
      have HO_8 := n0_
      have HO_9 := n1_
      have HO258 := n2_
      have HO261 := n3_
      have BK199 := n4_
      have BK200 := n5_
      have BK209 := n6_
      have HB := n7_
      clear n0_ n1_ n2_ n3_ n4_ n5_ n6_ n7_
      (try clear hb)
      (try clear hb2)
      (try clear hk)
      (try clear hi)
      refine hK.out _ _ ⟨(blk_cell BK209.out 0).trans rfl, (blk_cell BK209.out 1).trans rfl, (blk_cell BK209.out 2).trans rfl, (blk_cell BK209.out 3).trans rfl, (blk_cell BK209.out 4).trans rfl⟩ (fun hHeld => ?_)
      clear hK K
      refine nq 230 ?_
      refine pq 7 (some 223) (bl 14 255) HT_ (h := ?_)
      refine pq 8 (some 231) (bl 14 511) HT_ (h := ?_)
      refine pq 9 (some 232) (bl 14 1023) HT_ (h := ?_)
      refine pq 10 (some 233) (bl 14 2047) HT_ (h := ?_)
      refine pq 11 (some 30) (bl 14 4095) HT_ (h := ?_)
      refine pq 12 (some 31) (bl 14 8191) HT_ (h := ?_)
      refine pq 13 (some 32) (bl 14 16383) HT_ (h := ?_)
      refine done_ (done_of HT_.out (by kernel_rfl)) ?_
      try go_wp2
      go_roundg k7
      case measure => have := HJ8.out; have := HK2.out; have := HK3.out; have := HK4.out; have := HK5.out; have := HJ117.out; have := HK7.out; omega
      case rel => exact ⟨(wrap64 (x29_7 + 1)), (by first | rfl | (simp; done) | (simp [*]; done)), H', ⟨by have := HJ8.out; have := HK2.out; have := HK3.out; have := HK4.out; have := HK5.out; have := HJ117.out; have := HK7.out; omega⟩, ⟨Kd.R_mono (R_ HO_8) (fun _ hk => trivial)⟩, ⟨Kd.R_mono (R_ HO_9) (fun _ hk => trivial)⟩, ⟨b_ BK199⟩, ⟨b_ BK200⟩, ⟨b_ BK209⟩, ⟨by repeat (first | (with_reducible first | exact HB.out | apply below_alloc | apply pw_below_drewN | apply below_drew1 | refine below_set ?_ GE199.out | refine below_set ?_ GE200.out | refine below_set ?_ GE209.out) | exact HB.out)⟩⟩
     replace c132 := Bool.eq_false_iff.mpr c132
     subst c132
     have H1 : (some false) = some r := by rw [if_neg (show ¬ (false = true) by decide)] at H; exact H
     clear H
     have H := H1
     clear H1
     obtain rfl := Option.some.inj H
     try go_wp2
     have n0_ := Aside0.mk (Kd.R_drew HO_8.out)
     have n1_ := Aside0.mk (Kd.R_drew HO_9.out)
     have n2_ := Aside0.mk (blk_drew BK199.out)
     have n3_ := Aside0.mk (blk_drew BK200.out)
     have n4_ := Aside0.mk (blk_drew BK209.out)
     have n5_ := Aside0.mk (below_drew1 HB.out)
     clear HO_8
     clear HO_9
     clear BK199
     clear BK200
     clear BK209
     clear HB
     have HO_8 := n0_
     have HO_9 := n1_
     have BK199 := n2_
     have BK200 := n3_
     have BK209 := n4_
     have HB := n5_
     clear n0_ n1_ n2_ n3_ n4_ n5_
     refine start_ (n := 14) (S := fun w' => w'.cell? ⟨gb209, 0, none⟩ = some (.int .i64 t201) ∧ w'.cell? ⟨gb209, 1, none⟩ = some (.int .i64 t202) ∧ w'.cell? ⟨gb209, 2, none⟩ = some (.int .i64 t203) ∧ w'.cell? ⟨gb209, 3, none⟩ = some (.int .i64 t204) ∧ w'.cell? ⟨gb209, 4, none⟩ = some (.int .i64 t205)) (ds := []) (bl 14 0) (by kernel_rfl) rfl rfl ⟨(blk_cell BK209.out 0).trans rfl, (blk_cell BK209.out 1).trans rfl, (blk_cell BK209.out 2).trans rfl, (blk_cell BK209.out 3).trans rfl, (blk_cell BK209.out 4).trans rfl⟩ (fun hHeld => ?_); refine with_tabW lF.tab44 lF.bits44 (fun HT_ HW_ => ?_)
     generalize wr.drew = w139 at HO_8 HO_9 BK199 BK200 BK209 HB hHeld ⊢
     refine pq 1 (some 225) (bl 14 2) HT_ (h := ?_)
     refine pq 3 (some 227) (bl 14 10) HT_ (h := ?_)
     refine pq 4 (some 228) (bl 14 26) HT_ (h := ?_)
     refine tq 0 (some 224) (bl 14 27) HT_ HW_ hHeld (h := ?_)
     refine one_ (i := 2) (N := some 226) (bl 14 31) rfl rfl (one_of HT_.out (by kernel_rfl)) (by decide) (fun K hK => ?_)
     refine goes_ Tryd.func43 (by kernel_rfl) rfl #[.slice Ao21 t206.length co21] (by rfl) rfl rfl (by (try simp only [List.map_toArray, List.map_cons, List.map_nil]); first | done | rfl | (simp only [List.length_drop, List.length_take]; rfl)) ?_
     with_reducible refine (smaltolaw03_own.calls _ _ t206 t256 _ ?side1 ?side2 A129.out).mono ?_
     (case side1 => repeat (first | exact (Kd.R_reads' HO_8.out).2.2 | (with_reducible refine Kd.C_alloc ?_ _) | (with_reducible refine Kd.C_drewN ?_ _) | (with_reducible refine Kd.C_drew ?_)))
     (case side2 => exact (Kd.R_reads' HO_8.out).2.1)
     rintro e w140 ⟨v257, rfl, ho0, hb⟩
     refine ⟨_, rfl, ?_⟩
     have n0_ := Aside0.mk (Kd.R_elder' (R_ HO_8) (Kd.R_base ho0) hb)
     have n1_ := Aside0.mk (Kd.R_below (R_ HO_9) hb)
     have n2_ := Aside0.mk (Kd.R_lower (Kd.R_new' ho0 (Kd.R_lt (R_ HO_8))) (below_size (by repeat (first | (with_reducible first | exact HB.out | apply below_alloc | apply pw_below_drewN | apply below_drew1 | refine below_set ?_ GE199.out | refine below_set ?_ GE200.out | refine below_set ?_ GE209.out) | exact HB.out))))
     have n3_ := Aside0.mk (blk_below (g := gb199) (o := .cells #[.int .u8 a0_0, .int .u8 a0_1, .int .u8 a0_2, .int .u8 a0_3, .int .u8 a0_4, .slice A0_5 l0_5.length c0_5] 66 (0, 0)) (b_ BK199) hb)
     have n4_ := Aside0.mk (blk_below (g := gb200) (o := .cells #[.int .u8 a1_0, .int .u8 a1_1, .int .u8 a1_2, .int .u8 a1_3, .int .u8 a1_4, .int .u8 a1_5] 67 (0, 0)) (b_ BK200) hb)
     have n5_ := Aside0.mk (blk_below (g := gb209) (o := .cells #[.int .i64 t201, .int .i64 t202, .int .i64 t203, .int .i64 t204, .int .i64 t205] 23 (0, 0)) (b_ BK209) hb)
     have n6_ := Aside0.mk (below_step (by repeat (first | (with_reducible first | exact HB.out | apply below_alloc | apply pw_below_drewN | apply below_drew1 | refine below_set ?_ GE199.out | refine below_set ?_ GE200.out | refine below_set ?_ GE209.out) | exact HB.out)) hb)
     clear HO_8
     clear HO_9
     clear BK199
     clear BK200
     clear BK209
     clear HB
     have HO_8 := n0_
     have HO_9 := n1_
     have HO258 := n2_
     have BK199 := n3_
     have BK200 := n4_
     have BK209 := n5_
     have HB := n6_
     clear n0_ n1_ n2_ n3_ n4_ n5_ n6_
     (try clear hb)
     (try clear hb2)
     (try clear hk)
     (try clear hi)
     (try clear ho0)
     refine hK.out _ _ ⟨(blk_cell BK209.out 0).trans rfl, (blk_cell BK209.out 1).trans rfl, (blk_cell BK209.out 2).trans rfl, (blk_cell BK209.out 3).trans rfl, (blk_cell BK209.out 4).trans rfl⟩ (fun hHeld => ?_)
     clear hK K
     refine nq 226 ?_
     refine one_ (i := 5) (N := some 229) (bl 14 63) rfl rfl (one_of HT_.out (by kernel_rfl)) (by decide) (fun K hK => ?_)
     refine goes_ Tryd.func47 (by kernel_rfl) rfl #[.slice Ao119 t213.length co119, .int .i64 x29_7] (by rfl) rfl rfl (by (try simp only [List.map_toArray, List.map_cons, List.map_nil]); first | done | rfl | (simp only [List.length_drop, List.length_take]; rfl)) ?_
     with_reducible refine (smaltolaw03_of.calls k7 _ _ t213 x29_7 t259 _ ?side1 ?side2 A130.out).mono ?_
     (case side1 => repeat (first | exact (Kd.R_reads' HO_9.out).2.2 | (with_reducible refine Kd.C_alloc ?_ _) | (with_reducible refine Kd.C_drewN ?_ _) | (with_reducible refine Kd.C_drew ?_)))
     (case side2 => exact (Kd.R_reads' HO_9.out).2.1)
     rintro e w141 ⟨v260, rfl, ho0, hb⟩
     refine ⟨_, rfl, ?_⟩
     have n0_ := Aside0.mk (Kd.R_below (R_ HO_8) hb)
     have n1_ := Aside0.mk (Kd.R_elder' (R_ HO_9) (Kd.R_base ho0) hb)
     have n2_ := Aside0.mk (Kd.R_below (R_ HO258) hb)
     have n3_ := Aside0.mk (Kd.R_lower (Kd.R_new' ho0 (Kd.R_lt (R_ HO_9))) (below_size (by repeat (first | (with_reducible first | exact HB.out | apply below_alloc | apply pw_below_drewN | apply below_drew1 | refine below_set ?_ GE199.out | refine below_set ?_ GE200.out | refine below_set ?_ GE209.out) | exact HB.out))))
     have n4_ := Aside0.mk (blk_below (g := gb199) (o := .cells #[.int .u8 a0_0, .int .u8 a0_1, .int .u8 a0_2, .int .u8 a0_3, .int .u8 a0_4, .slice A0_5 l0_5.length c0_5] 66 (0, 0)) (b_ BK199) hb)
     have n5_ := Aside0.mk (blk_below (g := gb200) (o := .cells #[.int .u8 a1_0, .int .u8 a1_1, .int .u8 a1_2, .int .u8 a1_3, .int .u8 a1_4, .int .u8 a1_5] 67 (0, 0)) (b_ BK200) hb)
     have n6_ := Aside0.mk (blk_below (g := gb209) (o := .cells #[.int .i64 t201, .int .i64 t202, .int .i64 t203, .int .i64 t204, .int .i64 t205] 23 (0, 0)) (b_ BK209) hb)
     have n7_ := Aside0.mk (below_step (by repeat (first | (with_reducible first | exact HB.out | apply below_alloc | apply pw_below_drewN | apply below_drew1 | refine below_set ?_ GE199.out | refine below_set ?_ GE200.out | refine below_set ?_ GE209.out) | exact HB.out)) hb)
     clear HO_8
     clear HO_9
     clear HO258
     clear BK199
     clear BK200
     clear BK209
     clear HB
     have HO_8 := n0_
     have HO_9 := n1_
     have HO258 := n2_
     have HO261 := n3_
     have BK199 := n4_
     have BK200 := n5_
     have BK209 := n6_
     have HB := n7_
     clear n0_ n1_ n2_ n3_ n4_ n5_ n6_ n7_
     (try clear hb)
     (try clear hb2)
     (try clear hk)
     (try clear hi)
     (try clear ho0)
     obtain ⟨Ao142, co142, eo142⟩ := Kd.R_slice HO258.out
     (first | subst eo142 | (injection eo142 with f1_ f2_ f3_; have f4_ := f1_.symm; have f5_ := f3_.symm; clear f1_ f2_ f3_; subst f4_; subst f5_))
     obtain ⟨Ao143, co143, eo143⟩ := Kd.R_slice HO261.out
     (first | subst eo143 | (injection eo143 with f1_ f2_ f3_; have f4_ := f1_.symm; have f5_ := f3_.symm; clear f1_ f2_ f3_; subst f4_; subst f5_))
     refine hK.out _ _ ⟨(blk_cell BK209.out 0).trans rfl, (blk_cell BK209.out 1).trans rfl, (blk_cell BK209.out 2).trans rfl, (blk_cell BK209.out 3).trans rfl, (blk_cell BK209.out 4).trans rfl⟩ (fun hHeld => ?_)
     clear hK K
     refine nq 229 ?_
     refine one_ (i := 6) (N := some 230) (bl 14 127) rfl rfl (one_of HT_.out (by kernel_rfl)) (by decide) (fun K hK => ?_)
     refine goes_ Tryd.func17 (by kernel_rfl) rfl #[.agg #[.int .i64 t201, .int .i64 t202, .int .i64 t203, .int .i64 t204, .int .i64 t205], .slice Ao142 t256.length co142, .slice Ao143 t259.length co143] (by rfl) rfl rfl (by (try simp only [List.map_toArray, List.map_cons, List.map_nil]); first | done | rfl | (simp only [List.length_drop, List.length_take]; rfl)) ?_
     with_reducible refine (goesC.calls t201 t202 t203 t204 t205 _ _ t256 _ _ t259 false t263 _ ?side5 ?side1 ?side2 ?side3 ?side4 A131.out).mono ?_
     (case side1 => repeat (first | exact (Kd.R_reads' HO258.out).2.2 | (with_reducible refine Kd.C_alloc ?_ _) | (with_reducible refine Kd.C_drewN ?_ _) | (with_reducible refine Kd.C_drew ?_)))
     (case side2 => exact (Kd.R_reads' HO258.out).2.1)
     (case side3 => repeat (first | exact (Kd.R_reads' HO261.out).2.2 | (with_reducible refine Kd.C_alloc ?_ _) | (with_reducible refine Kd.C_drewN ?_ _) | (with_reducible refine Kd.C_drew ?_)))
     (case side4 => exact (Kd.R_reads' HO261.out).2.1)
     (case side5 => exact Hand.TabW.below HTAB.out (by repeat (first | (with_reducible first | exact HB.out | apply below_alloc | apply pw_below_drewN | apply below_drew1 | refine below_set ?_ GE199.out | refine below_set ?_ GE200.out | refine below_set ?_ GE209.out) | exact HB.out)))
     rintro e w144 ⟨rfl, hb⟩
     refine ⟨_, rfl, ?_⟩
     have n0_ := Aside0.mk (Kd.R_below (R_ HO_8) hb)
     have n1_ := Aside0.mk (Kd.R_below (R_ HO_9) hb)
     have n2_ := Aside0.mk (Kd.R_below (R_ HO258) hb)
     have n3_ := Aside0.mk (Kd.R_below (R_ HO261) hb)
     have n4_ := Aside0.mk (blk_below (g := gb199) (o := .cells #[.int .u8 a0_0, .int .u8 a0_1, .int .u8 a0_2, .int .u8 a0_3, .int .u8 a0_4, .slice A0_5 l0_5.length c0_5] 66 (0, 0)) (b_ BK199) hb)
     have n5_ := Aside0.mk (blk_below (g := gb200) (o := .cells #[.int .u8 a1_0, .int .u8 a1_1, .int .u8 a1_2, .int .u8 a1_3, .int .u8 a1_4, .int .u8 a1_5] 67 (0, 0)) (b_ BK200) hb)
     have n6_ := Aside0.mk (blk_below (g := gb209) (o := .cells #[.int .i64 t201, .int .i64 t202, .int .i64 t203, .int .i64 t204, .int .i64 t205] 23 (0, 0)) (b_ BK209) hb)
     have n7_ := Aside0.mk (below_step (by repeat (first | (with_reducible first | exact HB.out | apply below_alloc | apply pw_below_drewN | apply below_drew1 | refine below_set ?_ GE199.out | refine below_set ?_ GE200.out | refine below_set ?_ GE209.out) | exact HB.out)) hb)
     clear HO_8
     clear HO_9
     clear HO258
     clear HO261
     clear BK199
     clear BK200
     clear BK209
     clear HB
     have HO_8 := n0_
     have HO_9 := n1_
     have HO258 := n2_
     have HO261 := n3_
     have BK199 := n4_
     have BK200 := n5_
     have BK209 := n6_
     have HB := n7_
     clear n0_ n1_ n2_ n3_ n4_ n5_ n6_ n7_
     (try clear hb)
     (try clear hb2)
     (try clear hk)
     (try clear hi)
     refine hK.out _ _ ⟨(blk_cell BK209.out 0).trans rfl, (blk_cell BK209.out 1).trans rfl, (blk_cell BK209.out 2).trans rfl, (blk_cell BK209.out 3).trans rfl, (blk_cell BK209.out 4).trans rfl⟩ (fun hHeld => ?_)
     clear hK K
     refine nq 230 ?_
     refine pq 7 (some 223) (bl 14 255) HT_ (h := ?_)
     refine pq 8 (some 231) (bl 14 511) HT_ (h := ?_)
     refine pq 9 (some 232) (bl 14 1023) HT_ (h := ?_)
     refine pq 10 (some 233) (bl 14 2047) HT_ (h := ?_)
     refine pq 11 (some 30) (bl 14 4095) HT_ (h := ?_)
     refine pq 12 (some 31) (bl 14 8191) HT_ (h := ?_)
     refine pq 13 (some 32) (bl 14 16383) HT_ (h := ?_)
     refine done_ (done_of HT_.out (by kernel_rfl)) ?_
     try go_wp2
     go_ret
     exact ⟨by first | rfl | (simp [errW_none, errW_some] <;> rfl) | (simp [*, errW_none, errW_some] <;> rfl), by repeat (first | (with_reducible first | exact HB.out | apply below_alloc | apply pw_below_drewN | apply below_drew1 | refine below_set ?_ GE199.out | refine below_set ?_ GE200.out | refine below_set ?_ GE209.out) | exact HB.out)⟩
    rw [if_neg c128] at H
    have c128b0 : decide (x29_7 < x27_5) = false := decide_eq_false c128
    clear c128
    have H' := Aside0.mk H
    clear H
    go_wp2
    go_loopg [33] k7 (fun kq v33 w' => ∃ (x33_8 : Int), v33 = .int .i64 x33_8 ∧ Aside0 (lF.l6 kq a2 t206 x27_5 x33_8 t201 t202 t203 t204 t205 = some r) ∧ Aside0 (kq ≤ k7) ∧ Aside0 (Kd.R k74 74 w' w.heap.size (fun _ => True) (.slice Ao21 t206.length co21) t206) ∧ Aside0 (w'.heap[gb199]? = some (.cells #[.int .u8 a0_0, .int .u8 a0_1, .int .u8 a0_2, .int .u8 a0_3, .int .u8 a0_4, (.slice A0_5 l0_5.length c0_5)] 66 (0, 0))) ∧ Aside0 (w'.heap[gb200]? = some (.cells #[.int .u8 a1_0, .int .u8 a1_1, .int .u8 a1_2, .int .u8 a1_3, .int .u8 a1_4, .int .u8 a1_5] 67 (0, 0))) ∧ Aside0 (w'.heap[gb209]? = some (.cells #[.int .i64 t201, .int .i64 t202, .int .i64 t203, .int .i64 t204, .int .i64 t205] 23 (0, 0))) ∧ Aside0 (Below w.heap.size w w'))
    case atStart => exact ⟨(0), (by first | rfl | (simp; done) | (simp [*]; done)), H', ⟨Nat.le_refl _⟩, ⟨R_ HO_8⟩, ⟨b_ BK199⟩, ⟨b_ BK200⟩, ⟨b_ BK209⟩, ⟨by repeat (first | (with_reducible first | exact HB.out | apply below_alloc | apply pw_below_drewN | apply below_drew1 | refine below_set ?_ GE199.out | refine below_set ?_ GE200.out | refine below_set ?_ GE209.out) | exact HB.out)⟩⟩
    case round => as_aux_lemma =>
     clear H'
     try clear c1
     try clear p2
     try clear q2
     try clear hx2
     try clear c4
     try clear p6
     try clear c7
     try clear c9
     try clear c10
     try clear c11
     try clear c12
     try clear c13
     try clear c17
     try clear p25
     try clear q25
     try clear hx25
     try clear c43
     try clear c47
     try clear p64
     try clear c74
     try clear c74b0
     try clear c78
     try clear c94
     try clear c94b0
     try clear c94b1
     try clear c109
     try clear c109b0
     try clear c110
     try clear c110b0
     try clear c111
     try clear c111b0
     try clear c113
     try clear c113b0
     try clear c117
     try clear c117b0
     try clear c117b1
     try clear c120
     try clear c120b0
     try clear c120b1
     try clear c120b2
     try clear c121
     try clear c122
     try clear c122b0
     try clear c123
     try clear c123b0
     try clear c124
     try clear c124b0
     try clear c124b1
     try clear c125
     try clear c125b0
     try clear c126
     try clear c126b0
     try clear c126b1
     try clear c127
     try clear c128
     try clear c128b0
     try clear c132
     try clear hx252_0
     try clear hx253_0
     try clear hx254_0
     try clear p2
     try clear p25
     try clear p252
     try clear p253
     try clear p254
     try clear p6
     try clear p64
     try clear q2
     try clear q25
     try clear q252
     try clear q253
     try clear q254
     obtain ⟨x33_8, rfl, HA, HK8, HO_8, BK199, BK200, BK209, HB⟩ := hrel
     rcases gk with _ | k8
     ·exact absurd HA.out (by simp [lF.l6])
     have H := HA.out
     clear HA
     simp only [lF.l6] at H
     by_cases c145 : x33_8 < 5
     ·rw [if_pos c145] at H
      have c145b0 : decide (x33_8 < 5) = true := decide_eq_true c145
      clear c145
      replace H := Option.bind_eq_some_iff.mp H
      obtain ⟨t266, A1460, H⟩ := H
      replace H : (if x33_8 = 0 then (lF.j9 k8 a2 t206 x27_5 x33_8 t266 t201 t202 t203 t204 t205 t201 t202 t203 (wrap64 (t204 + 30)) t205) else (if x33_8 = 1 then (lF.j9 k8 a2 t206 x27_5 x33_8 t266 t201 t202 t203 t204 t205 t201 (wrap64 (t202 + 20)) t203 t204 t205) else (if x33_8 = 2 then (lF.j9 k8 a2 t206 x27_5 x33_8 t266 t201 t202 t203 t204 t205 t201 t202 t203 t204 (wrap64 (t205 + 10))) else (if x33_8 = 3 then (lF.j9 k8 a2 t206 x27_5 x33_8 t266 t201 t202 t203 t204 t205 (mn 3 (wrap64 (t201 + 1))) t202 t203 t204 t205) else (if (t206.length : Int) > 0 then (if (t206.length : Int) = 0 then (none) else (if 0 ≤ (Int.tmod (wrap64 (a2)) (t206.length : Int)) then (if (Int.tmod (wrap64 (a2)) (t206.length : Int)) ≤ (t206.length : Int) then ((smaltolaw03_own.f (t206.take ((Int.tmod (wrap64 (a2)) (t206.length : Int)) : Int).toNat)).bind fun t274 => (if 0 ≤ (wrap64 ((Int.tmod (wrap64 (a2)) (t206.length : Int)) + 1)) then (if (wrap64 ((Int.tmod (wrap64 (a2)) (t206.length : Int)) + 1)) ≤ (t206.length : Int) then ((some (t206.drop ((wrap64 ((Int.tmod (wrap64 (a2)) (t206.length : Int)) + 1)) : Int).toNat : List (S74))).bind fun y277 => (if t274.length + y277.length < 2932031007402 then (lF.j9 k8 a2 t206 x27_5 x33_8 (t274 ++ y277) t201 t202 t203 t204 t205 t201 t202 t203 t204 t205) else (none))) else (none)) else (none))) else (none)) else (none))) else (lF.j9 k8 a2 t206 x27_5 x33_8 t266 t201 t202 t203 t204 t205 t201 t202 t203 t204 t205)))))) = some r := H
      have A146 := Aside0.mk A1460
      clear A1460
      have HC147 := Aside0.mk H
      clear H
      try go_wp2
      have n0_ := Aside0.mk (Kd.R_drew HO_8.out)
      have n1_ := Aside0.mk (blk_drew BK199.out)
      have n2_ := Aside0.mk (blk_drew BK200.out)
      have n3_ := Aside0.mk (blk_drew BK209.out)
      have n4_ := Aside0.mk (below_drew1 HB.out)
      clear HO_8
      clear BK199
      clear BK200
      clear BK209
      clear HB
      have HO_8 := n0_
      have BK199 := n1_
      have BK200 := n2_
      have BK209 := n3_
      have HB := n4_
      clear n0_ n1_ n2_ n3_ n4_
      refine start_ (n := 6) (S := fun w' => w'.cell? ⟨gb209, 0, none⟩ = some (.int .i64 t201) ∧ w'.cell? ⟨gb209, 1, none⟩ = some (.int .i64 t202) ∧ w'.cell? ⟨gb209, 2, none⟩ = some (.int .i64 t203) ∧ w'.cell? ⟨gb209, 3, none⟩ = some (.int .i64 t204) ∧ w'.cell? ⟨gb209, 4, none⟩ = some (.int .i64 t205)) (ds := []) (bl 6 0) (by kernel_rfl) rfl rfl ⟨(blk_cell BK209.out 0).trans rfl, (blk_cell BK209.out 1).trans rfl, (blk_cell BK209.out 2).trans rfl, (blk_cell BK209.out 3).trans rfl, (blk_cell BK209.out 4).trans rfl⟩ (fun hHeld => ?_)
      generalize wr.drew = w148 at HO_8 BK199 BK200 BK209 HB hHeld ⊢
      refine pure_ (i := 1) (N := some 245) (v := ?_) (a' := ?_) (bl 6 2) rfl rfl (by kernel_rfl) (fun _ _ _ h => h) (Or.inl ⟨by rfl, ?_⟩) ?_ ?_
      rotate_left
      ·intro w'
       go_simp
       with_reducible rfl
      rotate_left
      ·simp only [Act.put, List.setIfInBounds_toArray, List.set_cons_zero, List.set_cons_succ, i64_w, i32_w]
       rfl
      refine take_ (i := 0) (N := some 244) (v := ?_) (a' := ?_) (bl 6 3) rfl rfl (by kernel_rfl) (fun _ _ _ h => h) (Or.inl ⟨by rfl, ?_⟩) hHeld ?_ ?_
      rotate_left
      ·rintro w' ⟨s0, s1, s2, s3, s4⟩
       go_simp
       with_reducible rfl
      rotate_left
      ·simp only [Act.put, List.setIfInBounds_toArray, List.set_cons_zero, List.set_cons_succ, i64_w, i32_w]
       rfl
      refine join_ (σ := Value × Nat) 2 (bl 6 15) (fun s_ => [(246, s_.1), (34, .pointer (some ⟨s_.2, 0, none⟩))]) (fun s_ w' => (w'.cell? ⟨gb209, 0, none⟩ = some (.int .i64 t201) ∧ w'.cell? ⟨gb209, 1, none⟩ = some (.int .i64 t202) ∧ w'.cell? ⟨gb209, 2, none⟩ = some (.int .i64 t203) ∧ w'.cell? ⟨gb209, 3, none⟩ = some (.int .i64 t204) ∧ w'.cell? ⟨gb209, 4, none⟩ = some (.int .i64 t205)) ∧ (Kd.R k74 74 w' w.heap.size (fun k_ => some k_ ≠ (.slice Ao21 t206.length co21 : Value).ownBlock) s_.1 t266) ∧ (Kd.R k74 74 w' w.heap.size (fun k_ => some k_ ≠ (s_.1 : Value).ownBlock) (.slice Ao21 t206.length co21) t206) ∧ (w'.heap[gb199]? = some (.cells #[.int .u8 a0_0, .int .u8 a0_1, .int .u8 a0_2, .int .u8 a0_3, .int .u8 a0_4, .slice A0_5 l0_5.length c0_5] 66 (0, 0))) ∧ (w'.heap[gb200]? = some (.cells #[.int .u8 a1_0, .int .u8 a1_1, .int .u8 a1_2, .int .u8 a1_3, .int .u8 a1_4, .int .u8 a1_5] 67 (0, 0))) ∧ (w'.heap[gb209]? = some (.cells #[.int .i64 t201, .int .i64 t202, .int .i64 t203, .int .i64 t204, .int .i64 t205] 23 (0, 0))) ∧ (w'.heap[s_.2]? = some (.cells #[.int .i64 0, .int .i64 0, .int .i64 0, .int .i64 0, .int .i64 0] 23 (0, 0))) ∧ (w.heap.size ≤ s_.2) ∧ (w.heap.size ≤ s_.2) ∧ (gb199 ≠ s_.2) ∧ (s_.2 ≠ gb199) ∧ (gb200 ≠ s_.2) ∧ (s_.2 ≠ gb200) ∧ (gb209 ≠ s_.2) ∧ (s_.2 ≠ gb209) ∧ (Below w.heap.size w w')) ?_ ?_
      rotate_left
      ·intro hCont
       refine two_ (i := 2) (j := 3) (Ni := some 246) (Nj := some 34) (bl 6 7) (bl 6 11) rfl rfl rfl rfl (by kernel_rfl) (by decide) (by decide) (fun K hK => ?_) (fun K hK => ?_)
       ·skip
        refine goes_ Tryd.func43 (by kernel_rfl) rfl #[.slice Ao21 t206.length co21] (by rfl) rfl rfl (by (try simp only [List.map_toArray, List.map_cons, List.map_nil]); first | done | rfl | (simp only [List.length_drop, List.length_take]; rfl)) ?_
        with_reducible refine (smaltolaw03_own.calls _ _ t206 t266 _ ?side1 ?side2 A146.out).mono ?_
        (case side1 => repeat (first | exact (Kd.R_reads' HO_8.out).2.2 | (with_reducible refine Kd.C_alloc ?_ _) | (with_reducible refine Kd.C_drewN ?_ _) | (with_reducible refine Kd.C_drew ?_)))
        (case side2 => exact (Kd.R_reads' HO_8.out).2.1)
        rintro e w149 ⟨v267, rfl, ho0, hb⟩
        refine ⟨_, rfl, ?_⟩
        have n0_ := Aside0.mk (Kd.R_elder' (R_ HO_8) (Kd.R_base ho0) hb)
        have n1_ := Aside0.mk (Kd.R_lower (Kd.R_new' ho0 (Kd.R_lt (R_ HO_8))) (below_size (by repeat (first | (with_reducible first | exact HB.out | apply below_alloc | apply pw_below_drewN | apply below_drew1 | refine below_set ?_ GE199.out | refine below_set ?_ GE200.out | refine below_set ?_ GE209.out) | exact HB.out))))
        have n2_ := Aside0.mk (blk_below (g := gb199) (o := .cells #[.int .u8 a0_0, .int .u8 a0_1, .int .u8 a0_2, .int .u8 a0_3, .int .u8 a0_4, .slice A0_5 l0_5.length c0_5] 66 (0, 0)) (b_ BK199) hb)
        have n3_ := Aside0.mk (blk_below (g := gb200) (o := .cells #[.int .u8 a1_0, .int .u8 a1_1, .int .u8 a1_2, .int .u8 a1_3, .int .u8 a1_4, .int .u8 a1_5] 67 (0, 0)) (b_ BK200) hb)
        have n4_ := Aside0.mk (blk_below (g := gb209) (o := .cells #[.int .i64 t201, .int .i64 t202, .int .i64 t203, .int .i64 t204, .int .i64 t205] 23 (0, 0)) (b_ BK209) hb)
        have n5_ := Aside0.mk (below_step (by repeat (first | (with_reducible first | exact HB.out | apply below_alloc | apply pw_below_drewN | apply below_drew1 | refine below_set ?_ GE199.out | refine below_set ?_ GE200.out | refine below_set ?_ GE209.out) | exact HB.out)) hb)
        clear HO_8
        clear BK199
        clear BK200
        clear BK209
        clear HB
        have HO_8 := n0_
        have HO268 := n1_
        have BK199 := n2_
        have BK200 := n3_
        have BK209 := n4_
        have HB := n5_
        clear n0_ n1_ n2_ n3_ n4_ n5_
        (try clear hb)
        (try clear hb2)
        (try clear hk)
        (try clear hi)
        (try clear ho0)
        refine hK.out _ _ ⟨(blk_cell BK209.out 0).trans rfl, (blk_cell BK209.out 1).trans rfl, (blk_cell BK209.out 2).trans rfl, (blk_cell BK209.out 3).trans rfl, (blk_cell BK209.out 4).trans rfl⟩ (fun hHeld => ?_)
        clear hK K
        refine nq 246 ?_
        refine one_ (i := 3) (N := some 34) (bl 6 15) rfl rfl (by kernel_rfl) (by decide) (fun K hK => ?_)
        refine box_step ?hg (N := 34) ?hd (cs := #[.int .i64 0, .int .i64 0, .int .i64 0, .int .i64 0, .int .i64 0]) (t := 23) ?hr ?_; (case hd => rfl); (case hg => rfl); (case hr => first | (go_simp; done) | (go_simp; rfl))
        intro gb269 hg w150 hbox hb
        have n0_ := Aside0.mk (Kd.R_below (R_ HO_8) hb)
        have n1_ := Aside0.mk (Kd.R_below (R_ HO268) hb)
        have n2_ := Aside0.mk (blk_below (g := gb199) (o := .cells #[.int .u8 a0_0, .int .u8 a0_1, .int .u8 a0_2, .int .u8 a0_3, .int .u8 a0_4, .slice A0_5 l0_5.length c0_5] 66 (0, 0)) (b_ BK199) hb)
        have n3_ := Aside0.mk (blk_below (g := gb200) (o := .cells #[.int .u8 a1_0, .int .u8 a1_1, .int .u8 a1_2, .int .u8 a1_3, .int .u8 a1_4, .int .u8 a1_5] 67 (0, 0)) (b_ BK200) hb)
        have n4_ := Aside0.mk (blk_below (g := gb209) (o := .cells #[.int .i64 t201, .int .i64 t202, .int .i64 t203, .int .i64 t204, .int .i64 t205] 23 (0, 0)) (b_ BK209) hb)
        have n5_ := Aside0.mk (below_step (by repeat (first | (with_reducible first | exact HB.out | apply below_alloc | apply pw_below_drewN | apply below_drew1 | refine below_set ?_ GE199.out | refine below_set ?_ GE200.out | refine below_set ?_ GE209.out) | exact HB.out)) hb)
        have n6_ := Aside0.mk (hbox)
        have n7_ := Aside0.mk ((by rw [hg]; exact (below_size (by repeat (first | (with_reducible first | exact HB.out | apply below_alloc | apply pw_below_drewN | apply below_drew1 | refine below_set ?_ GE199.out | refine below_set ?_ GE200.out | refine below_set ?_ GE209.out) | exact HB.out))) : w.heap.size ≤ gb269))
        have n8_ := Aside0.mk ((by rw [hg]; exact (below_size (by repeat (first | (with_reducible first | exact HB.out | apply below_alloc | apply pw_below_drewN | apply below_drew1 | refine below_set ?_ GE199.out | refine below_set ?_ GE200.out | refine below_set ?_ GE209.out) | exact HB.out))) : w.heap.size ≤ gb269))
        have n9_ := Aside0.mk ((by rw [hg]; exact Nat.ne_of_lt (blk_lt (g := gb199) (o := .cells #[.int .u8 a0_0, .int .u8 a0_1, .int .u8 a0_2, .int .u8 a0_3, .int .u8 a0_4, .slice A0_5 l0_5.length c0_5] 66 (0, 0)) (b_ BK199)) : gb199 ≠ gb269))
        have n10_ := Aside0.mk ((by rw [hg]; exact Nat.ne_of_gt (blk_lt (g := gb199) (o := .cells #[.int .u8 a0_0, .int .u8 a0_1, .int .u8 a0_2, .int .u8 a0_3, .int .u8 a0_4, .slice A0_5 l0_5.length c0_5] 66 (0, 0)) (b_ BK199)) : gb269 ≠ gb199))
        have n11_ := Aside0.mk ((by rw [hg]; exact Nat.ne_of_lt (blk_lt (g := gb200) (o := .cells #[.int .u8 a1_0, .int .u8 a1_1, .int .u8 a1_2, .int .u8 a1_3, .int .u8 a1_4, .int .u8 a1_5] 67 (0, 0)) (b_ BK200)) : gb200 ≠ gb269))
        have n12_ := Aside0.mk ((by rw [hg]; exact Nat.ne_of_gt (blk_lt (g := gb200) (o := .cells #[.int .u8 a1_0, .int .u8 a1_1, .int .u8 a1_2, .int .u8 a1_3, .int .u8 a1_4, .int .u8 a1_5] 67 (0, 0)) (b_ BK200)) : gb269 ≠ gb200))
        have n13_ := Aside0.mk ((by rw [hg]; exact Nat.ne_of_lt (blk_lt (g := gb209) (o := .cells #[.int .i64 t201, .int .i64 t202, .int .i64 t203, .int .i64 t204, .int .i64 t205] 23 (0, 0)) (b_ BK209)) : gb209 ≠ gb269))
        have n14_ := Aside0.mk ((by rw [hg]; exact Nat.ne_of_gt (blk_lt (g := gb209) (o := .cells #[.int .i64 t201, .int .i64 t202, .int .i64 t203, .int .i64 t204, .int .i64 t205] 23 (0, 0)) (b_ BK209)) : gb269 ≠ gb209))
        clear HO_8
        clear HO268
        clear BK199
        clear BK200
        clear BK209
        clear HB
        have HO_8 := n0_
        have HO268 := n1_
        have BK199 := n2_
        have BK200 := n3_
        have BK209 := n4_
        have HB := n5_
        have BK269 := n6_
        have GW269 := n7_
        have GE269 := n8_
        have NB199_269 := n9_
        have NB269_199 := n10_
        have NB200_269 := n11_
        have NB269_200 := n12_
        have NB209_269 := n13_
        have NB269_209 := n14_
        clear n0_ n1_ n2_ n3_ n4_ n5_ n6_ n7_ n8_ n9_ n10_ n11_ n12_ n13_ n14_
        clear hb hbox hg
        refine hK.out _ _ ⟨(blk_cell BK209.out 0).trans rfl, (blk_cell BK209.out 1).trans rfl, (blk_cell BK209.out 2).trans rfl, (blk_cell BK209.out 3).trans rfl, (blk_cell BK209.out 4).trans rfl⟩ (fun hHeld => ?_)
        clear hK K
        refine nq 34 ?_
        exact norm_ (by simp only [putAll, Act.put, List.setIfInBounds_toArray, List.set_cons_zero, List.set_cons_succ]) (hCont (v267, gb269) _ ⟨hHeld, (Kd.R_mono (R_ HO268) (fun _ hk => hk.2)), (Kd.R_mono (R_ HO_8) (fun _ hk => hk.2)), (b_ BK199), (b_ BK200), (b_ BK209), (b_ BK269), GW269.out, GE269.out, NB199_269.out, NB269_199.out, NB200_269.out, NB269_200.out, NB209_269.out, NB269_209.out, (by repeat (first | (with_reducible first | exact HB.out | apply below_alloc | apply pw_below_drewN | apply below_drew1 | refine below_set ?_ GE199.out | refine below_set ?_ GE200.out | refine below_set ?_ GE209.out | refine below_set ?_ GE269.out) | exact HB.out))⟩)
       skip
       refine box_step ?hg (N := 34) ?hd (cs := #[.int .i64 0, .int .i64 0, .int .i64 0, .int .i64 0, .int .i64 0]) (t := 23) ?hr ?_; (case hd => rfl); (case hg => rfl); (case hr => first | (go_simp; done) | (go_simp; rfl))
       intro gb269 hg w149 hbox hb
       have n0_ := Aside0.mk (Kd.R_below (R_ HO_8) hb)
       have n1_ := Aside0.mk (blk_below (g := gb199) (o := .cells #[.int .u8 a0_0, .int .u8 a0_1, .int .u8 a0_2, .int .u8 a0_3, .int .u8 a0_4, .slice A0_5 l0_5.length c0_5] 66 (0, 0)) (b_ BK199) hb)
       have n2_ := Aside0.mk (blk_below (g := gb200) (o := .cells #[.int .u8 a1_0, .int .u8 a1_1, .int .u8 a1_2, .int .u8 a1_3, .int .u8 a1_4, .int .u8 a1_5] 67 (0, 0)) (b_ BK200) hb)
       have n3_ := Aside0.mk (blk_below (g := gb209) (o := .cells #[.int .i64 t201, .int .i64 t202, .int .i64 t203, .int .i64 t204, .int .i64 t205] 23 (0, 0)) (b_ BK209) hb)
       have n4_ := Aside0.mk (below_step (by repeat (first | (with_reducible first | exact HB.out | apply below_alloc | apply pw_below_drewN | apply below_drew1 | refine below_set ?_ GE199.out | refine below_set ?_ GE200.out | refine below_set ?_ GE209.out) | exact HB.out)) hb)
       have n5_ := Aside0.mk (hbox)
       have n6_ := Aside0.mk ((by rw [hg]; exact (below_size (by repeat (first | (with_reducible first | exact HB.out | apply below_alloc | apply pw_below_drewN | apply below_drew1 | refine below_set ?_ GE199.out | refine below_set ?_ GE200.out | refine below_set ?_ GE209.out) | exact HB.out))) : w.heap.size ≤ gb269))
       have n7_ := Aside0.mk ((by rw [hg]; exact (below_size (by repeat (first | (with_reducible first | exact HB.out | apply below_alloc | apply pw_below_drewN | apply below_drew1 | refine below_set ?_ GE199.out | refine below_set ?_ GE200.out | refine below_set ?_ GE209.out) | exact HB.out))) : w.heap.size ≤ gb269))
       have n8_ := Aside0.mk ((by rw [hg]; exact Nat.ne_of_lt (blk_lt (g := gb199) (o := .cells #[.int .u8 a0_0, .int .u8 a0_1, .int .u8 a0_2, .int .u8 a0_3, .int .u8 a0_4, .slice A0_5 l0_5.length c0_5] 66 (0, 0)) (b_ BK199)) : gb199 ≠ gb269))
       have n9_ := Aside0.mk ((by rw [hg]; exact Nat.ne_of_gt (blk_lt (g := gb199) (o := .cells #[.int .u8 a0_0, .int .u8 a0_1, .int .u8 a0_2, .int .u8 a0_3, .int .u8 a0_4, .slice A0_5 l0_5.length c0_5] 66 (0, 0)) (b_ BK199)) : gb269 ≠ gb199))
       have n10_ := Aside0.mk ((by rw [hg]; exact Nat.ne_of_lt (blk_lt (g := gb200) (o := .cells #[.int .u8 a1_0, .int .u8 a1_1, .int .u8 a1_2, .int .u8 a1_3, .int .u8 a1_4, .int .u8 a1_5] 67 (0, 0)) (b_ BK200)) : gb200 ≠ gb269))
       have n11_ := Aside0.mk ((by rw [hg]; exact Nat.ne_of_gt (blk_lt (g := gb200) (o := .cells #[.int .u8 a1_0, .int .u8 a1_1, .int .u8 a1_2, .int .u8 a1_3, .int .u8 a1_4, .int .u8 a1_5] 67 (0, 0)) (b_ BK200)) : gb269 ≠ gb200))
       have n12_ := Aside0.mk ((by rw [hg]; exact Nat.ne_of_lt (blk_lt (g := gb209) (o := .cells #[.int .i64 t201, .int .i64 t202, .int .i64 t203, .int .i64 t204, .int .i64 t205] 23 (0, 0)) (b_ BK209)) : gb209 ≠ gb269))
       have n13_ := Aside0.mk ((by rw [hg]; exact Nat.ne_of_gt (blk_lt (g := gb209) (o := .cells #[.int .i64 t201, .int .i64 t202, .int .i64 t203, .int .i64 t204, .int .i64 t205] 23 (0, 0)) (b_ BK209)) : gb269 ≠ gb209))
       clear HO_8
       clear BK199
       clear BK200
       clear BK209
       clear HB
       have HO_8 := n0_
       have BK199 := n1_
       have BK200 := n2_
       have BK209 := n3_
       have HB := n4_
       have BK269 := n5_
       have GW269 := n6_
       have GE269 := n7_
       have NB199_269 := n8_
       have NB269_199 := n9_
       have NB200_269 := n10_
       have NB269_200 := n11_
       have NB209_269 := n12_
       have NB269_209 := n13_
       clear n0_ n1_ n2_ n3_ n4_ n5_ n6_ n7_ n8_ n9_ n10_ n11_ n12_ n13_
       clear hb hbox hg
       refine hK.out _ _ ⟨(blk_cell BK209.out 0).trans rfl, (blk_cell BK209.out 1).trans rfl, (blk_cell BK209.out 2).trans rfl, (blk_cell BK209.out 3).trans rfl, (blk_cell BK209.out 4).trans rfl⟩ (fun hHeld => ?_)
       clear hK K
       refine nq 34 ?_
       refine one_ (i := 2) (N := some 246) (bl 6 15) rfl rfl (by kernel_rfl) (by decide) (fun K hK => ?_)
       refine goes_ Tryd.func43 (by kernel_rfl) rfl #[.slice Ao21 t206.length co21] (by rfl) rfl rfl (by (try simp only [List.map_toArray, List.map_cons, List.map_nil]); first | done | rfl | (simp only [List.length_drop, List.length_take]; rfl)) ?_
       with_reducible refine (smaltolaw03_own.calls _ _ t206 t266 _ ?side1 ?side2 A146.out).mono ?_
       (case side1 => repeat (first | exact (Kd.R_reads' HO_8.out).2.2 | (with_reducible refine Kd.C_alloc ?_ _) | (with_reducible refine Kd.C_drewN ?_ _) | (with_reducible refine Kd.C_drew ?_)))
       (case side2 => exact (Kd.R_reads' HO_8.out).2.1)
       rintro e w150 ⟨v267, rfl, ho0, hb⟩
       refine ⟨_, rfl, ?_⟩
       have n0_ := Aside0.mk (Kd.R_elder' (R_ HO_8) (Kd.R_base ho0) hb)
       have n1_ := Aside0.mk (Kd.R_lower (Kd.R_new' ho0 (Kd.R_lt (R_ HO_8))) (below_size (by repeat (first | (with_reducible first | exact HB.out | apply below_alloc | apply pw_below_drewN | apply below_drew1 | refine below_set ?_ GE199.out | refine below_set ?_ GE200.out | refine below_set ?_ GE209.out | refine below_set ?_ GE269.out) | exact HB.out))))
       have n2_ := Aside0.mk (blk_below (g := gb199) (o := .cells #[.int .u8 a0_0, .int .u8 a0_1, .int .u8 a0_2, .int .u8 a0_3, .int .u8 a0_4, .slice A0_5 l0_5.length c0_5] 66 (0, 0)) (b_ BK199) hb)
       have n3_ := Aside0.mk (blk_below (g := gb200) (o := .cells #[.int .u8 a1_0, .int .u8 a1_1, .int .u8 a1_2, .int .u8 a1_3, .int .u8 a1_4, .int .u8 a1_5] 67 (0, 0)) (b_ BK200) hb)
       have n4_ := Aside0.mk (blk_below (g := gb209) (o := .cells #[.int .i64 t201, .int .i64 t202, .int .i64 t203, .int .i64 t204, .int .i64 t205] 23 (0, 0)) (b_ BK209) hb)
       have n5_ := Aside0.mk (blk_below (g := gb269) (o := .cells #[.int .i64 0, .int .i64 0, .int .i64 0, .int .i64 0, .int .i64 0] 23 (0, 0)) (b_ BK269) hb)
       have n6_ := Aside0.mk (below_step (by repeat (first | (with_reducible first | exact HB.out | apply below_alloc | apply pw_below_drewN | apply below_drew1 | refine below_set ?_ GE199.out | refine below_set ?_ GE200.out | refine below_set ?_ GE209.out | refine below_set ?_ GE269.out) | exact HB.out)) hb)
       clear HO_8
       clear BK199
       clear BK200
       clear BK209
       clear BK269
       clear HB
       have HO_8 := n0_
       have HO268 := n1_
       have BK199 := n2_
       have BK200 := n3_
       have BK209 := n4_
       have BK269 := n5_
       have HB := n6_
       clear n0_ n1_ n2_ n3_ n4_ n5_ n6_
       (try clear hb)
       (try clear hb2)
       (try clear hk)
       (try clear hi)
       (try clear ho0)
       refine hK.out _ _ ⟨(blk_cell BK209.out 0).trans rfl, (blk_cell BK209.out 1).trans rfl, (blk_cell BK209.out 2).trans rfl, (blk_cell BK209.out 3).trans rfl, (blk_cell BK209.out 4).trans rfl⟩ (fun hHeld => ?_)
       clear hK K
       refine nq 246 ?_
       exact norm_ (by simp only [putAll, Act.put, List.setIfInBounds_toArray, List.set_cons_zero, List.set_cons_succ]) (hCont (v267, gb269) _ ⟨hHeld, (Kd.R_mono (R_ HO268) (fun _ hk => hk.2)), (Kd.R_mono (R_ HO_8) (fun _ hk => hk.2)), (b_ BK199), (b_ BK200), (b_ BK209), (b_ BK269), GW269.out, GE269.out, NB199_269.out, NB269_199.out, NB200_269.out, NB269_200.out, NB209_269.out, NB269_209.out, (by repeat (first | (with_reducible first | exact HB.out | apply below_alloc | apply pw_below_drewN | apply below_drew1 | refine below_set ?_ GE199.out | refine below_set ?_ GE200.out | refine below_set ?_ GE209.out | refine below_set ?_ GE269.out) | exact HB.out))⟩)
      rintro ⟨v267, gb269⟩ w151 ⟨hS_, h0_, h1_, h2_, h3_, h4_, h5_, h6_, h7_, h8_, h9_, h10_, h11_, h12_, h13_, h14_⟩
      have n0_ : Aside0 (Kd.R k74 74 w151 w.heap.size (fun k_ => some k_ ≠ (.slice Ao21 t206.length co21 : Value).ownBlock) v267 t266) := ⟨h0_⟩
      have n1_ : Aside0 (Kd.R k74 74 w151 w.heap.size (fun k_ => some k_ ≠ (v267 : Value).ownBlock) (.slice Ao21 t206.length co21) t206) := ⟨h1_⟩
      have n2_ : Aside0 (w151.heap[gb199]? = some (.cells #[.int .u8 a0_0, .int .u8 a0_1, .int .u8 a0_2, .int .u8 a0_3, .int .u8 a0_4, .slice A0_5 l0_5.length c0_5] 66 (0, 0))) := ⟨h2_⟩
      have n3_ : Aside0 (w151.heap[gb200]? = some (.cells #[.int .u8 a1_0, .int .u8 a1_1, .int .u8 a1_2, .int .u8 a1_3, .int .u8 a1_4, .int .u8 a1_5] 67 (0, 0))) := ⟨h3_⟩
      have n4_ : Aside0 (w151.heap[gb209]? = some (.cells #[.int .i64 t201, .int .i64 t202, .int .i64 t203, .int .i64 t204, .int .i64 t205] 23 (0, 0))) := ⟨h4_⟩
      have n5_ : Aside0 (w151.heap[gb269]? = some (.cells #[.int .i64 0, .int .i64 0, .int .i64 0, .int .i64 0, .int .i64 0] 23 (0, 0))) := ⟨h5_⟩
      have n6_ : Aside0 (w.heap.size ≤ gb269) := ⟨h6_⟩
      have n7_ : Aside0 (w.heap.size ≤ gb269) := ⟨h7_⟩
      have n8_ : Aside0 (gb199 ≠ gb269) := ⟨h8_⟩
      have n9_ : Aside0 (gb269 ≠ gb199) := ⟨h9_⟩
      have n10_ : Aside0 (gb200 ≠ gb269) := ⟨h10_⟩
      have n11_ : Aside0 (gb269 ≠ gb200) := ⟨h11_⟩
      have n12_ : Aside0 (gb209 ≠ gb269) := ⟨h12_⟩
      have n13_ : Aside0 (gb269 ≠ gb209) := ⟨h13_⟩
      have n14_ : Aside0 (Below w.heap.size w w151) := ⟨h14_⟩
      clear HO_8
      clear BK199
      clear BK200
      clear BK209
      clear HB
      clear h0_ h1_ h2_ h3_ h4_ h5_ h6_ h7_ h8_ h9_ h10_ h11_ h12_ h13_ h14_
      have HO268 := n0_
      have HO_8 := n1_
      have BK199 := n2_
      have BK200 := n3_
      have BK209 := n4_
      have BK269 := n5_
      have GW269 := n6_
      have GE269 := n7_
      have NB199_269 := n8_
      have NB269_199 := n9_
      have NB200_269 := n10_
      have NB269_200 := n11_
      have NB209_269 := n12_
      have NB269_209 := n13_
      have HB := n14_
      clear n0_ n1_ n2_ n3_ n4_ n5_ n6_ n7_ n8_ n9_ n10_ n11_ n12_ n13_ n14_
      have hHeld : w151.cell? ⟨gb209, 0, none⟩ = some (.int .i64 t201) ∧ w151.cell? ⟨gb209, 1, none⟩ = some (.int .i64 t202) ∧ w151.cell? ⟨gb209, 2, none⟩ = some (.int .i64 t203) ∧ w151.cell? ⟨gb209, 3, none⟩ = some (.int .i64 t204) ∧ w151.cell? ⟨gb209, 4, none⟩ = some (.int .i64 t205) := hS_
      refine norm_ (a' := ?_) ?_ ?_
      rotate_left
      ·simp only [putAll, Act.put, List.setIfInBounds_toArray, List.set_cons_zero, List.set_cons_succ]
       rfl
      refine one_ (i := 4) (N := none) (bl 6 31) rfl rfl (by kernel_rfl) (by decide) (fun K hK => ?_)
      have hs152 : w151.cell? ⟨gb269, 0, none⟩ = some (.int .i64 0) := (blk_cell BK269.out 0).trans rfl
      have hfs152 := blk_frozen BK269.out 0
      have hns152_0 := NB199_269.out
      have hns152_1 := NB200_269.out
      have hns152_2 := NB209_269.out
      have hms152_0 := NB269_199.out
      have hms152_1 := NB269_200.out
      have hms152_2 := NB269_209.out
      have hs153 : w151.cell? ⟨gb269, 1, none⟩ = some (.int .i64 0) := (blk_cell BK269.out 1).trans rfl
      have hfs153 := blk_frozen BK269.out 1
      have hns153_0 := NB199_269.out
      have hns153_1 := NB200_269.out
      have hns153_2 := NB209_269.out
      have hms153_0 := NB269_199.out
      have hms153_1 := NB269_200.out
      have hms153_2 := NB269_209.out
      have hs154 : w151.cell? ⟨gb269, 2, none⟩ = some (.int .i64 0) := (blk_cell BK269.out 2).trans rfl
      have hfs154 := blk_frozen BK269.out 2
      have hns154_0 := NB199_269.out
      have hns154_1 := NB200_269.out
      have hns154_2 := NB209_269.out
      have hms154_0 := NB269_199.out
      have hms154_1 := NB269_200.out
      have hms154_2 := NB269_209.out
      have hs155 : w151.cell? ⟨gb269, 3, none⟩ = some (.int .i64 0) := (blk_cell BK269.out 3).trans rfl
      have hfs155 := blk_frozen BK269.out 3
      have hns155_0 := NB199_269.out
      have hns155_1 := NB200_269.out
      have hns155_2 := NB209_269.out
      have hms155_0 := NB269_199.out
      have hms155_1 := NB269_200.out
      have hms155_2 := NB269_209.out
      have hs156 : w151.cell? ⟨gb269, 4, none⟩ = some (.int .i64 0) := (blk_cell BK269.out 4).trans rfl
      have hfs156 := blk_frozen BK269.out 4
      have hns156_0 := NB199_269.out
      have hns156_1 := NB200_269.out
      have hns156_2 := NB209_269.out
      have hms156_0 := NB269_199.out
      have hms156_1 := NB269_200.out
      have hms156_2 := NB269_209.out
      refine skip_ (w1 := ?_) (by rfl) rfl ?_ ?_
      rotate_left
      ·go_simp
       rfl
      refine hK.out _ _ ⟨((cell_far (p := ⟨gb269, _, none⟩) NB209_269.out _).trans (((cell_far (p := ⟨gb269, _, none⟩) NB209_269.out _).trans (((cell_far (p := ⟨gb269, _, none⟩) NB209_269.out _).trans (((cell_far (p := ⟨gb269, _, none⟩) NB209_269.out _).trans (((cell_far (p := ⟨gb269, _, none⟩) NB209_269.out _).trans (hHeld.1)))))))))), ((cell_far (p := ⟨gb269, _, none⟩) NB209_269.out _).trans (((cell_far (p := ⟨gb269, _, none⟩) NB209_269.out _).trans (((cell_far (p := ⟨gb269, _, none⟩) NB209_269.out _).trans (((cell_far (p := ⟨gb269, _, none⟩) NB209_269.out _).trans (((cell_far (p := ⟨gb269, _, none⟩) NB209_269.out _).trans (hHeld.2.1)))))))))), ((cell_far (p := ⟨gb269, _, none⟩) NB209_269.out _).trans (((cell_far (p := ⟨gb269, _, none⟩) NB209_269.out _).trans (((cell_far (p := ⟨gb269, _, none⟩) NB209_269.out _).trans (((cell_far (p := ⟨gb269, _, none⟩) NB209_269.out _).trans (((cell_far (p := ⟨gb269, _, none⟩) NB209_269.out _).trans (hHeld.2.2.1)))))))))), ((cell_far (p := ⟨gb269, _, none⟩) NB209_269.out _).trans (((cell_far (p := ⟨gb269, _, none⟩) NB209_269.out _).trans (((cell_far (p := ⟨gb269, _, none⟩) NB209_269.out _).trans (((cell_far (p := ⟨gb269, _, none⟩) NB209_269.out _).trans (((cell_far (p := ⟨gb269, _, none⟩) NB209_269.out _).trans (hHeld.2.2.2.1)))))))))), ((cell_far (p := ⟨gb269, _, none⟩) NB209_269.out _).trans (((cell_far (p := ⟨gb269, _, none⟩) NB209_269.out _).trans (((cell_far (p := ⟨gb269, _, none⟩) NB209_269.out _).trans (((cell_far (p := ⟨gb269, _, none⟩) NB209_269.out _).trans (((cell_far (p := ⟨gb269, _, none⟩) NB209_269.out _).trans (hHeld.2.2.2.2))))))))))⟩ (fun hHeld => ?_)
      clear hK K
      refine pure_ (i := 5) (N := some 35) (v := ?_) (a' := ?_) (bl 6 63) rfl rfl (by kernel_rfl) (fun _ _ _ h => h) (Or.inl ⟨by rfl, ?_⟩) ?_ ?_
      rotate_left
      ·intro w'
       go_simp
       with_reducible rfl
      rotate_left
      ·simp only [Act.put, List.setIfInBounds_toArray, List.set_cons_zero, List.set_cons_succ, i64_w, i32_w]
       rfl
      refine done_ (by kernel_rfl) ?_
      go_upto_block 14 with (fail)
      go_cut [35] (fun v35 wc => ∃ (kq : Nat) (x35_146 : List (S74)) (x270000_146 : Int) (x270001_146 : Int) (x270003_146 : Int) (x270004_146 : Int), Aside0 (lF.j9 kq a2 t206 x27_5 x33_8 x35_146 t201 t202 t203 t204 t205 x270000_146 x270001_146 t203 x270003_146 x270004_146 = some r) ∧ Aside0 (kq ≤ k8) ∧ Aside0 (Kd.R k74 74 wc w.heap.size (fun k_ => some k_ ≠ (v35 : Value).ownBlock) (.slice Ao21 t206.length co21) t206) ∧ Aside0 (Kd.R k74 74 wc w.heap.size (fun k_ => some k_ ≠ ((.slice Ao21 t206.length co21) : Value).ownBlock) v35 x35_146) ∧ Aside0 (wc.heap[gb199]? = some (.cells #[.int .u8 a0_0, .int .u8 a0_1, .int .u8 a0_2, .int .u8 a0_3, .int .u8 a0_4, (.slice A0_5 l0_5.length c0_5)] 66 (0, 0))) ∧ Aside0 (wc.heap[gb200]? = some (.cells #[.int .u8 a1_0, .int .u8 a1_1, .int .u8 a1_2, .int .u8 a1_3, .int .u8 a1_4, .int .u8 a1_5] 67 (0, 0))) ∧ Aside0 (wc.heap[gb209]? = some (.cells #[.int .i64 t201, .int .i64 t202, .int .i64 t203, .int .i64 t204, .int .i64 t205] 23 (0, 0))) ∧ Aside0 (wc.heap[gb269]? = some (.cells #[.int .i64 x270000_146, .int .i64 x270001_146, .int .i64 t203, .int .i64 x270003_146, .int .i64 x270004_146] 23 (0, 0))) ∧ Aside0 (Below w.heap.size w wc))
      case first =>
       have H := HC147.out
       clear HC147
       by_cases c157 : x33_8 = 0
       ·rw [if_pos c157] at H
        have c157b0 : (x33_8 == 0) = true := beq_iff_eq.mpr c157
        have c157b1 : (x33_8 != 0) = false := bne_eq_false_iff_eq.mpr c157
        clear c157
        (first | rw [c157b0] | (simp only [i64_w, i32_w]; rw [c157b0]) | skip)
        have H' := Aside0.mk H
        clear H
        have hnb158 := NB269_199.out
        have hnc158 := NB199_269.out
        have hnb159 := NB269_200.out
        have hnc159 := NB200_269.out
        have hnb160 := NB269_209.out
        have hnc160 := NB209_269.out
        have hcz161_0 : w151.cell? ⟨gb269, 0, none⟩ = some (.int .i64 0) := (blk_cell BK269.out 0).trans rfl
        have hcz161_1 : w151.cell? ⟨gb269, 1, none⟩ = some (.int .i64 0) := (blk_cell BK269.out 1).trans rfl
        have hcz161_2 : w151.cell? ⟨gb269, 2, none⟩ = some (.int .i64 0) := (blk_cell BK269.out 2).trans rfl
        have hcz161_3 : w151.cell? ⟨gb269, 3, none⟩ = some (.int .i64 0) := (blk_cell BK269.out 3).trans rfl
        have hcz161_4 : w151.cell? ⟨gb269, 4, none⟩ = some (.int .i64 0) := (blk_cell BK269.out 4).trans rfl
        have hfz161_0 := blk_frozen BK269.out 0
        have hfz161_1 := blk_frozen BK269.out 1
        have hfz161_2 := blk_frozen BK269.out 2
        have hfz161_3 := blk_frozen BK269.out 3
        have hfz161_4 := blk_frozen BK269.out 4
        go_wp2
        go_meet
        case rel => exact ⟨_, (t266), (t201), (t202), (wrap64 (t204 + 30)), (t205), H', ⟨by have := HJ8.out; have := HK2.out; have := HK3.out; have := HK4.out; have := HK5.out; have := HJ117.out; have := HK7.out; have := HK8.out; first | omega | exact Nat.le_refl _⟩, ⟨by (with_reducible repeat (first | apply Kd.R_alloc | apply Kd.R_drewN | apply Kd.R_drew)); exact Kd.R_mono (Kd.R_far (p := ⟨gb269, 3, none⟩) (Kd.R_far (p := ⟨gb269, 4, none⟩) (Kd.R_far (p := ⟨gb269, 3, none⟩) (Kd.R_far (p := ⟨gb269, 2, none⟩) (Kd.R_far (p := ⟨gb269, 1, none⟩) (Kd.R_far (p := ⟨gb269, 0, none⟩) (Kd.R_types HO_8.out BK269.out (by decide)) (fun _ hk => hk.2) (.int .i64 t201)) (fun _ hk => hk.2) (.int .i64 t202)) (fun _ hk => hk.2) (.int .i64 t203)) (fun _ hk => hk.2) (.int .i64 t204)) (fun _ hk => hk.2) (.int .i64 t205)) (fun _ hk => hk.2) (.int .i64 (wrap64 (t204 + 30)))) (fun _ hk => hk.1)⟩, ⟨by (with_reducible repeat (first | apply Kd.R_alloc | apply Kd.R_drewN | apply Kd.R_drew)); exact Kd.R_mono (Kd.R_far (p := ⟨gb269, 3, none⟩) (Kd.R_far (p := ⟨gb269, 4, none⟩) (Kd.R_far (p := ⟨gb269, 3, none⟩) (Kd.R_far (p := ⟨gb269, 2, none⟩) (Kd.R_far (p := ⟨gb269, 1, none⟩) (Kd.R_far (p := ⟨gb269, 0, none⟩) (Kd.R_types HO268.out BK269.out (by decide)) (fun _ hk => hk.2) (.int .i64 t201)) (fun _ hk => hk.2) (.int .i64 t202)) (fun _ hk => hk.2) (.int .i64 t203)) (fun _ hk => hk.2) (.int .i64 t204)) (fun _ hk => hk.2) (.int .i64 t205)) (fun _ hk => hk.2) (.int .i64 (wrap64 (t204 + 30)))) (fun _ hk => hk.1)⟩, ⟨by (with_reducible repeat (first | refine blk_drewN ?_ _ | refine blk_drew ?_ | refine blk_alloc ?_ _)); refine blk_far ?_ NB199_269.out _; (with_reducible repeat (first | refine blk_drewN ?_ _ | refine blk_drew ?_ | refine blk_alloc ?_ _)); refine blk_far ?_ NB199_269.out _; (with_reducible repeat (first | refine blk_drewN ?_ _ | refine blk_drew ?_ | refine blk_alloc ?_ _)); refine blk_far ?_ NB199_269.out _; (with_reducible repeat (first | refine blk_drewN ?_ _ | refine blk_drew ?_ | refine blk_alloc ?_ _)); refine blk_far ?_ NB199_269.out _; (with_reducible repeat (first | refine blk_drewN ?_ _ | refine blk_drew ?_ | refine blk_alloc ?_ _)); refine blk_far ?_ NB199_269.out _; (with_reducible repeat (first | refine blk_drewN ?_ _ | refine blk_drew ?_ | refine blk_alloc ?_ _)); refine blk_far ?_ NB199_269.out _; (with_reducible repeat (first | refine blk_drewN ?_ _ | refine blk_drew ?_ | refine blk_alloc ?_ _)); exact BK199.out⟩, ⟨by (with_reducible repeat (first | refine blk_drewN ?_ _ | refine blk_drew ?_ | refine blk_alloc ?_ _)); refine blk_far ?_ NB200_269.out _; (with_reducible repeat (first | refine blk_drewN ?_ _ | refine blk_drew ?_ | refine blk_alloc ?_ _)); refine blk_far ?_ NB200_269.out _; (with_reducible repeat (first | refine blk_drewN ?_ _ | refine blk_drew ?_ | refine blk_alloc ?_ _)); refine blk_far ?_ NB200_269.out _; (with_reducible repeat (first | refine blk_drewN ?_ _ | refine blk_drew ?_ | refine blk_alloc ?_ _)); refine blk_far ?_ NB200_269.out _; (with_reducible repeat (first | refine blk_drewN ?_ _ | refine blk_drew ?_ | refine blk_alloc ?_ _)); refine blk_far ?_ NB200_269.out _; (with_reducible repeat (first | refine blk_drewN ?_ _ | refine blk_drew ?_ | refine blk_alloc ?_ _)); refine blk_far ?_ NB200_269.out _; (with_reducible repeat (first | refine blk_drewN ?_ _ | refine blk_drew ?_ | refine blk_alloc ?_ _)); exact BK200.out⟩, ⟨by (with_reducible repeat (first | refine blk_drewN ?_ _ | refine blk_drew ?_ | refine blk_alloc ?_ _)); refine blk_far ?_ NB209_269.out _; (with_reducible repeat (first | refine blk_drewN ?_ _ | refine blk_drew ?_ | refine blk_alloc ?_ _)); refine blk_far ?_ NB209_269.out _; (with_reducible repeat (first | refine blk_drewN ?_ _ | refine blk_drew ?_ | refine blk_alloc ?_ _)); refine blk_far ?_ NB209_269.out _; (with_reducible repeat (first | refine blk_drewN ?_ _ | refine blk_drew ?_ | refine blk_alloc ?_ _)); refine blk_far ?_ NB209_269.out _; (with_reducible repeat (first | refine blk_drewN ?_ _ | refine blk_drew ?_ | refine blk_alloc ?_ _)); refine blk_far ?_ NB209_269.out _; (with_reducible repeat (first | refine blk_drewN ?_ _ | refine blk_drew ?_ | refine blk_alloc ?_ _)); refine blk_far ?_ NB209_269.out _; (with_reducible repeat (first | refine blk_drewN ?_ _ | refine blk_drew ?_ | refine blk_alloc ?_ _)); exact BK209.out⟩, ⟨by (with_reducible repeat (first | refine blk_drewN ?_ _ | refine blk_drew ?_ | refine blk_alloc ?_ _)); refine blk_put (cs := #[.int .i64 t201, .int .i64 t202, .int .i64 t203, .int .i64 t204, .int .i64 t205]) ?_ 3 _ rfl; (with_reducible repeat (first | refine blk_drewN ?_ _ | refine blk_drew ?_ | refine blk_alloc ?_ _)); refine blk_put (cs := #[.int .i64 t201, .int .i64 t202, .int .i64 t203, .int .i64 t204, .int .i64 0]) ?_ 4 _ rfl; (with_reducible repeat (first | refine blk_drewN ?_ _ | refine blk_drew ?_ | refine blk_alloc ?_ _)); refine blk_put (cs := #[.int .i64 t201, .int .i64 t202, .int .i64 t203, .int .i64 0, .int .i64 0]) ?_ 3 _ rfl; (with_reducible repeat (first | refine blk_drewN ?_ _ | refine blk_drew ?_ | refine blk_alloc ?_ _)); refine blk_put (cs := #[.int .i64 t201, .int .i64 t202, .int .i64 0, .int .i64 0, .int .i64 0]) ?_ 2 _ rfl; (with_reducible repeat (first | refine blk_drewN ?_ _ | refine blk_drew ?_ | refine blk_alloc ?_ _)); refine blk_put (cs := #[.int .i64 t201, .int .i64 0, .int .i64 0, .int .i64 0, .int .i64 0]) ?_ 1 _ rfl; (with_reducible repeat (first | refine blk_drewN ?_ _ | refine blk_drew ?_ | refine blk_alloc ?_ _)); refine blk_put (cs := #[.int .i64 0, .int .i64 0, .int .i64 0, .int .i64 0, .int .i64 0]) ?_ 0 _ rfl; (with_reducible repeat (first | refine blk_drewN ?_ _ | refine blk_drew ?_ | refine blk_alloc ?_ _)); exact BK269.out⟩, ⟨by repeat (first | (with_reducible first | exact HB.out | apply below_alloc | apply pw_below_drewN | apply below_drew1 | refine below_set ?_ GE199.out | refine below_set ?_ GE200.out | refine below_set ?_ GE209.out | refine below_set ?_ GE269.out) | exact HB.out)⟩⟩
       rw [if_neg c157] at H
       have c157b0 : (x33_8 == 0) = false := beq_eq_false_iff_ne.mpr c157
       have c157b1 : (x33_8 != 0) = true := bne_iff_ne.mpr c157
       (first | rw [c157b0] | (simp only [i64_w, i32_w]; rw [c157b0]) | skip)
       by_cases c162 : x33_8 = 1
       ·rw [if_pos c162] at H
        have c162b0 : (x33_8 == 1) = true := beq_iff_eq.mpr c162
        have c162b1 : (x33_8 != 1) = false := bne_eq_false_iff_eq.mpr c162
        clear c162
        have H' := Aside0.mk H
        clear H
        have hnb163 := NB269_199.out
        have hnc163 := NB199_269.out
        have hnb164 := NB269_200.out
        have hnc164 := NB200_269.out
        have hnb165 := NB269_209.out
        have hnc165 := NB209_269.out
        have hcz166_0 : w151.cell? ⟨gb269, 0, none⟩ = some (.int .i64 0) := (blk_cell BK269.out 0).trans rfl
        have hcz166_1 : w151.cell? ⟨gb269, 1, none⟩ = some (.int .i64 0) := (blk_cell BK269.out 1).trans rfl
        have hcz166_2 : w151.cell? ⟨gb269, 2, none⟩ = some (.int .i64 0) := (blk_cell BK269.out 2).trans rfl
        have hcz166_3 : w151.cell? ⟨gb269, 3, none⟩ = some (.int .i64 0) := (blk_cell BK269.out 3).trans rfl
        have hcz166_4 : w151.cell? ⟨gb269, 4, none⟩ = some (.int .i64 0) := (blk_cell BK269.out 4).trans rfl
        have hfz166_0 := blk_frozen BK269.out 0
        have hfz166_1 := blk_frozen BK269.out 1
        have hfz166_2 := blk_frozen BK269.out 2
        have hfz166_3 := blk_frozen BK269.out 3
        have hfz166_4 := blk_frozen BK269.out 4
        go_wp2
        go_meet
        case rel => exact ⟨_, (t266), (t201), (wrap64 (t202 + 20)), (t204), (t205), H', ⟨by have := HJ8.out; have := HK2.out; have := HK3.out; have := HK4.out; have := HK5.out; have := HJ117.out; have := HK7.out; have := HK8.out; first | omega | exact Nat.le_refl _⟩, ⟨by (with_reducible repeat (first | apply Kd.R_alloc | apply Kd.R_drewN | apply Kd.R_drew)); exact Kd.R_mono (Kd.R_far (p := ⟨gb269, 1, none⟩) (Kd.R_far (p := ⟨gb269, 4, none⟩) (Kd.R_far (p := ⟨gb269, 3, none⟩) (Kd.R_far (p := ⟨gb269, 2, none⟩) (Kd.R_far (p := ⟨gb269, 1, none⟩) (Kd.R_far (p := ⟨gb269, 0, none⟩) (Kd.R_types HO_8.out BK269.out (by decide)) (fun _ hk => hk.2) (.int .i64 t201)) (fun _ hk => hk.2) (.int .i64 t202)) (fun _ hk => hk.2) (.int .i64 t203)) (fun _ hk => hk.2) (.int .i64 t204)) (fun _ hk => hk.2) (.int .i64 t205)) (fun _ hk => hk.2) (.int .i64 (wrap64 (t202 + 20)))) (fun _ hk => hk.1)⟩, ⟨by (with_reducible repeat (first | apply Kd.R_alloc | apply Kd.R_drewN | apply Kd.R_drew)); exact Kd.R_mono (Kd.R_far (p := ⟨gb269, 1, none⟩) (Kd.R_far (p := ⟨gb269, 4, none⟩) (Kd.R_far (p := ⟨gb269, 3, none⟩) (Kd.R_far (p := ⟨gb269, 2, none⟩) (Kd.R_far (p := ⟨gb269, 1, none⟩) (Kd.R_far (p := ⟨gb269, 0, none⟩) (Kd.R_types HO268.out BK269.out (by decide)) (fun _ hk => hk.2) (.int .i64 t201)) (fun _ hk => hk.2) (.int .i64 t202)) (fun _ hk => hk.2) (.int .i64 t203)) (fun _ hk => hk.2) (.int .i64 t204)) (fun _ hk => hk.2) (.int .i64 t205)) (fun _ hk => hk.2) (.int .i64 (wrap64 (t202 + 20)))) (fun _ hk => hk.1)⟩, ⟨by (with_reducible repeat (first | refine blk_drewN ?_ _ | refine blk_drew ?_ | refine blk_alloc ?_ _)); refine blk_far ?_ NB199_269.out _; (with_reducible repeat (first | refine blk_drewN ?_ _ | refine blk_drew ?_ | refine blk_alloc ?_ _)); refine blk_far ?_ NB199_269.out _; (with_reducible repeat (first | refine blk_drewN ?_ _ | refine blk_drew ?_ | refine blk_alloc ?_ _)); refine blk_far ?_ NB199_269.out _; (with_reducible repeat (first | refine blk_drewN ?_ _ | refine blk_drew ?_ | refine blk_alloc ?_ _)); refine blk_far ?_ NB199_269.out _; (with_reducible repeat (first | refine blk_drewN ?_ _ | refine blk_drew ?_ | refine blk_alloc ?_ _)); refine blk_far ?_ NB199_269.out _; (with_reducible repeat (first | refine blk_drewN ?_ _ | refine blk_drew ?_ | refine blk_alloc ?_ _)); refine blk_far ?_ NB199_269.out _; (with_reducible repeat (first | refine blk_drewN ?_ _ | refine blk_drew ?_ | refine blk_alloc ?_ _)); exact BK199.out⟩, ⟨by (with_reducible repeat (first | refine blk_drewN ?_ _ | refine blk_drew ?_ | refine blk_alloc ?_ _)); refine blk_far ?_ NB200_269.out _; (with_reducible repeat (first | refine blk_drewN ?_ _ | refine blk_drew ?_ | refine blk_alloc ?_ _)); refine blk_far ?_ NB200_269.out _; (with_reducible repeat (first | refine blk_drewN ?_ _ | refine blk_drew ?_ | refine blk_alloc ?_ _)); refine blk_far ?_ NB200_269.out _; (with_reducible repeat (first | refine blk_drewN ?_ _ | refine blk_drew ?_ | refine blk_alloc ?_ _)); refine blk_far ?_ NB200_269.out _; (with_reducible repeat (first | refine blk_drewN ?_ _ | refine blk_drew ?_ | refine blk_alloc ?_ _)); refine blk_far ?_ NB200_269.out _; (with_reducible repeat (first | refine blk_drewN ?_ _ | refine blk_drew ?_ | refine blk_alloc ?_ _)); refine blk_far ?_ NB200_269.out _; (with_reducible repeat (first | refine blk_drewN ?_ _ | refine blk_drew ?_ | refine blk_alloc ?_ _)); exact BK200.out⟩, ⟨by (with_reducible repeat (first | refine blk_drewN ?_ _ | refine blk_drew ?_ | refine blk_alloc ?_ _)); refine blk_far ?_ NB209_269.out _; (with_reducible repeat (first | refine blk_drewN ?_ _ | refine blk_drew ?_ | refine blk_alloc ?_ _)); refine blk_far ?_ NB209_269.out _; (with_reducible repeat (first | refine blk_drewN ?_ _ | refine blk_drew ?_ | refine blk_alloc ?_ _)); refine blk_far ?_ NB209_269.out _; (with_reducible repeat (first | refine blk_drewN ?_ _ | refine blk_drew ?_ | refine blk_alloc ?_ _)); refine blk_far ?_ NB209_269.out _; (with_reducible repeat (first | refine blk_drewN ?_ _ | refine blk_drew ?_ | refine blk_alloc ?_ _)); refine blk_far ?_ NB209_269.out _; (with_reducible repeat (first | refine blk_drewN ?_ _ | refine blk_drew ?_ | refine blk_alloc ?_ _)); refine blk_far ?_ NB209_269.out _; (with_reducible repeat (first | refine blk_drewN ?_ _ | refine blk_drew ?_ | refine blk_alloc ?_ _)); exact BK209.out⟩, ⟨by (with_reducible repeat (first | refine blk_drewN ?_ _ | refine blk_drew ?_ | refine blk_alloc ?_ _)); refine blk_put (cs := #[.int .i64 t201, .int .i64 t202, .int .i64 t203, .int .i64 t204, .int .i64 t205]) ?_ 1 _ rfl; (with_reducible repeat (first | refine blk_drewN ?_ _ | refine blk_drew ?_ | refine blk_alloc ?_ _)); refine blk_put (cs := #[.int .i64 t201, .int .i64 t202, .int .i64 t203, .int .i64 t204, .int .i64 0]) ?_ 4 _ rfl; (with_reducible repeat (first | refine blk_drewN ?_ _ | refine blk_drew ?_ | refine blk_alloc ?_ _)); refine blk_put (cs := #[.int .i64 t201, .int .i64 t202, .int .i64 t203, .int .i64 0, .int .i64 0]) ?_ 3 _ rfl; (with_reducible repeat (first | refine blk_drewN ?_ _ | refine blk_drew ?_ | refine blk_alloc ?_ _)); refine blk_put (cs := #[.int .i64 t201, .int .i64 t202, .int .i64 0, .int .i64 0, .int .i64 0]) ?_ 2 _ rfl; (with_reducible repeat (first | refine blk_drewN ?_ _ | refine blk_drew ?_ | refine blk_alloc ?_ _)); refine blk_put (cs := #[.int .i64 t201, .int .i64 0, .int .i64 0, .int .i64 0, .int .i64 0]) ?_ 1 _ rfl; (with_reducible repeat (first | refine blk_drewN ?_ _ | refine blk_drew ?_ | refine blk_alloc ?_ _)); refine blk_put (cs := #[.int .i64 0, .int .i64 0, .int .i64 0, .int .i64 0, .int .i64 0]) ?_ 0 _ rfl; (with_reducible repeat (first | refine blk_drewN ?_ _ | refine blk_drew ?_ | refine blk_alloc ?_ _)); exact BK269.out⟩, ⟨by repeat (first | (with_reducible first | exact HB.out | apply below_alloc | apply pw_below_drewN | apply below_drew1 | refine below_set ?_ GE199.out | refine below_set ?_ GE200.out | refine below_set ?_ GE209.out | refine below_set ?_ GE269.out) | exact HB.out)⟩⟩
       rw [if_neg c162] at H
       have c162b0 : (x33_8 == 1) = false := beq_eq_false_iff_ne.mpr c162
       have c162b1 : (x33_8 != 1) = true := bne_iff_ne.mpr c162
       by_cases c167 : x33_8 = 2
       ·rw [if_pos c167] at H
        have c167b0 : (x33_8 == 2) = true := beq_iff_eq.mpr c167
        have c167b1 : (x33_8 != 2) = false := bne_eq_false_iff_eq.mpr c167
        clear c167
        have H' := Aside0.mk H
        clear H
        have hnb168 := NB269_199.out
        have hnc168 := NB199_269.out
        have hnb169 := NB269_200.out
        have hnc169 := NB200_269.out
        have hnb170 := NB269_209.out
        have hnc170 := NB209_269.out
        have hcz171_0 : w151.cell? ⟨gb269, 0, none⟩ = some (.int .i64 0) := (blk_cell BK269.out 0).trans rfl
        have hcz171_1 : w151.cell? ⟨gb269, 1, none⟩ = some (.int .i64 0) := (blk_cell BK269.out 1).trans rfl
        have hcz171_2 : w151.cell? ⟨gb269, 2, none⟩ = some (.int .i64 0) := (blk_cell BK269.out 2).trans rfl
        have hcz171_3 : w151.cell? ⟨gb269, 3, none⟩ = some (.int .i64 0) := (blk_cell BK269.out 3).trans rfl
        have hcz171_4 : w151.cell? ⟨gb269, 4, none⟩ = some (.int .i64 0) := (blk_cell BK269.out 4).trans rfl
        have hfz171_0 := blk_frozen BK269.out 0
        have hfz171_1 := blk_frozen BK269.out 1
        have hfz171_2 := blk_frozen BK269.out 2
        have hfz171_3 := blk_frozen BK269.out 3
        have hfz171_4 := blk_frozen BK269.out 4
        go_wp2
        go_meet
        case rel => exact ⟨_, (t266), (t201), (t202), (t204), (wrap64 (t205 + 10)), H', ⟨by have := HJ8.out; have := HK2.out; have := HK3.out; have := HK4.out; have := HK5.out; have := HJ117.out; have := HK7.out; have := HK8.out; first | omega | exact Nat.le_refl _⟩, ⟨by (with_reducible repeat (first | apply Kd.R_alloc | apply Kd.R_drewN | apply Kd.R_drew)); exact Kd.R_mono (Kd.R_far (p := ⟨gb269, 4, none⟩) (Kd.R_far (p := ⟨gb269, 4, none⟩) (Kd.R_far (p := ⟨gb269, 3, none⟩) (Kd.R_far (p := ⟨gb269, 2, none⟩) (Kd.R_far (p := ⟨gb269, 1, none⟩) (Kd.R_far (p := ⟨gb269, 0, none⟩) (Kd.R_types HO_8.out BK269.out (by decide)) (fun _ hk => hk.2) (.int .i64 t201)) (fun _ hk => hk.2) (.int .i64 t202)) (fun _ hk => hk.2) (.int .i64 t203)) (fun _ hk => hk.2) (.int .i64 t204)) (fun _ hk => hk.2) (.int .i64 t205)) (fun _ hk => hk.2) (.int .i64 (wrap64 (t205 + 10)))) (fun _ hk => hk.1)⟩, ⟨by (with_reducible repeat (first | apply Kd.R_alloc | apply Kd.R_drewN | apply Kd.R_drew)); exact Kd.R_mono (Kd.R_far (p := ⟨gb269, 4, none⟩) (Kd.R_far (p := ⟨gb269, 4, none⟩) (Kd.R_far (p := ⟨gb269, 3, none⟩) (Kd.R_far (p := ⟨gb269, 2, none⟩) (Kd.R_far (p := ⟨gb269, 1, none⟩) (Kd.R_far (p := ⟨gb269, 0, none⟩) (Kd.R_types HO268.out BK269.out (by decide)) (fun _ hk => hk.2) (.int .i64 t201)) (fun _ hk => hk.2) (.int .i64 t202)) (fun _ hk => hk.2) (.int .i64 t203)) (fun _ hk => hk.2) (.int .i64 t204)) (fun _ hk => hk.2) (.int .i64 t205)) (fun _ hk => hk.2) (.int .i64 (wrap64 (t205 + 10)))) (fun _ hk => hk.1)⟩, ⟨by (with_reducible repeat (first | refine blk_drewN ?_ _ | refine blk_drew ?_ | refine blk_alloc ?_ _)); refine blk_far ?_ NB199_269.out _; (with_reducible repeat (first | refine blk_drewN ?_ _ | refine blk_drew ?_ | refine blk_alloc ?_ _)); refine blk_far ?_ NB199_269.out _; (with_reducible repeat (first | refine blk_drewN ?_ _ | refine blk_drew ?_ | refine blk_alloc ?_ _)); refine blk_far ?_ NB199_269.out _; (with_reducible repeat (first | refine blk_drewN ?_ _ | refine blk_drew ?_ | refine blk_alloc ?_ _)); refine blk_far ?_ NB199_269.out _; (with_reducible repeat (first | refine blk_drewN ?_ _ | refine blk_drew ?_ | refine blk_alloc ?_ _)); refine blk_far ?_ NB199_269.out _; (with_reducible repeat (first | refine blk_drewN ?_ _ | refine blk_drew ?_ | refine blk_alloc ?_ _)); refine blk_far ?_ NB199_269.out _; (with_reducible repeat (first | refine blk_drewN ?_ _ | refine blk_drew ?_ | refine blk_alloc ?_ _)); exact BK199.out⟩, ⟨by (with_reducible repeat (first | refine blk_drewN ?_ _ | refine blk_drew ?_ | refine blk_alloc ?_ _)); refine blk_far ?_ NB200_269.out _; (with_reducible repeat (first | refine blk_drewN ?_ _ | refine blk_drew ?_ | refine blk_alloc ?_ _)); refine blk_far ?_ NB200_269.out _; (with_reducible repeat (first | refine blk_drewN ?_ _ | refine blk_drew ?_ | refine blk_alloc ?_ _)); refine blk_far ?_ NB200_269.out _; (with_reducible repeat (first | refine blk_drewN ?_ _ | refine blk_drew ?_ | refine blk_alloc ?_ _)); refine blk_far ?_ NB200_269.out _; (with_reducible repeat (first | refine blk_drewN ?_ _ | refine blk_drew ?_ | refine blk_alloc ?_ _)); refine blk_far ?_ NB200_269.out _; (with_reducible repeat (first | refine blk_drewN ?_ _ | refine blk_drew ?_ | refine blk_alloc ?_ _)); refine blk_far ?_ NB200_269.out _; (with_reducible repeat (first | refine blk_drewN ?_ _ | refine blk_drew ?_ | refine blk_alloc ?_ _)); exact BK200.out⟩, ⟨by (with_reducible repeat (first | refine blk_drewN ?_ _ | refine blk_drew ?_ | refine blk_alloc ?_ _)); refine blk_far ?_ NB209_269.out _; (with_reducible repeat (first | refine blk_drewN ?_ _ | refine blk_drew ?_ | refine blk_alloc ?_ _)); refine blk_far ?_ NB209_269.out _; (with_reducible repeat (first | refine blk_drewN ?_ _ | refine blk_drew ?_ | refine blk_alloc ?_ _)); refine blk_far ?_ NB209_269.out _; (with_reducible repeat (first | refine blk_drewN ?_ _ | refine blk_drew ?_ | refine blk_alloc ?_ _)); refine blk_far ?_ NB209_269.out _; (with_reducible repeat (first | refine blk_drewN ?_ _ | refine blk_drew ?_ | refine blk_alloc ?_ _)); refine blk_far ?_ NB209_269.out _; (with_reducible repeat (first | refine blk_drewN ?_ _ | refine blk_drew ?_ | refine blk_alloc ?_ _)); refine blk_far ?_ NB209_269.out _; (with_reducible repeat (first | refine blk_drewN ?_ _ | refine blk_drew ?_ | refine blk_alloc ?_ _)); exact BK209.out⟩, ⟨by (with_reducible repeat (first | refine blk_drewN ?_ _ | refine blk_drew ?_ | refine blk_alloc ?_ _)); refine blk_put (cs := #[.int .i64 t201, .int .i64 t202, .int .i64 t203, .int .i64 t204, .int .i64 t205]) ?_ 4 _ rfl; (with_reducible repeat (first | refine blk_drewN ?_ _ | refine blk_drew ?_ | refine blk_alloc ?_ _)); refine blk_put (cs := #[.int .i64 t201, .int .i64 t202, .int .i64 t203, .int .i64 t204, .int .i64 0]) ?_ 4 _ rfl; (with_reducible repeat (first | refine blk_drewN ?_ _ | refine blk_drew ?_ | refine blk_alloc ?_ _)); refine blk_put (cs := #[.int .i64 t201, .int .i64 t202, .int .i64 t203, .int .i64 0, .int .i64 0]) ?_ 3 _ rfl; (with_reducible repeat (first | refine blk_drewN ?_ _ | refine blk_drew ?_ | refine blk_alloc ?_ _)); refine blk_put (cs := #[.int .i64 t201, .int .i64 t202, .int .i64 0, .int .i64 0, .int .i64 0]) ?_ 2 _ rfl; (with_reducible repeat (first | refine blk_drewN ?_ _ | refine blk_drew ?_ | refine blk_alloc ?_ _)); refine blk_put (cs := #[.int .i64 t201, .int .i64 0, .int .i64 0, .int .i64 0, .int .i64 0]) ?_ 1 _ rfl; (with_reducible repeat (first | refine blk_drewN ?_ _ | refine blk_drew ?_ | refine blk_alloc ?_ _)); refine blk_put (cs := #[.int .i64 0, .int .i64 0, .int .i64 0, .int .i64 0, .int .i64 0]) ?_ 0 _ rfl; (with_reducible repeat (first | refine blk_drewN ?_ _ | refine blk_drew ?_ | refine blk_alloc ?_ _)); exact BK269.out⟩, ⟨by repeat (first | (with_reducible first | exact HB.out | apply below_alloc | apply pw_below_drewN | apply below_drew1 | refine below_set ?_ GE199.out | refine below_set ?_ GE200.out | refine below_set ?_ GE209.out | refine below_set ?_ GE269.out) | exact HB.out)⟩⟩
       rw [if_neg c167] at H
       have c167b0 : (x33_8 == 2) = false := beq_eq_false_iff_ne.mpr c167
       have c167b1 : (x33_8 != 2) = true := bne_iff_ne.mpr c167
       by_cases c172 : x33_8 = 3
       ·rw [if_pos c172] at H
        have c172b0 : (x33_8 == 3) = true := beq_iff_eq.mpr c172
        have c172b1 : (x33_8 != 3) = false := bne_eq_false_iff_eq.mpr c172
        clear c172
        obtain ⟨ji173, hji173⟩ : ∃ j_ : Int, (mn 3 (wrap64 (t201 + 1))) = j_ := ⟨_, rfl⟩
        replace H : (lF.j9 k8 a2 t206 x27_5 x33_8 t266 t201 t202 t203 t204 t205 ji173 t202 t203 t204 t205) = some r := by first | (rw [hji173] at H; exact H) | (simp only [hji173] at H ⊢; exact H)
        have hji173_ : (if (wrap64 (t201 + 1)) < 3 then (wrap64 (t201 + 1)) else 3) = ji173 := hji173
        have H' := Aside0.mk H
        clear H
        have hnb174 := NB209_199.out
        have hnc174 := NB199_209.out
        have hnb175 := NB209_200.out
        have hnc175 := NB200_209.out
        have hnb176 := NB209_269.out
        have hnc176 := NB269_209.out
        have hcz177_0 : w151.cell? ⟨gb209, 0, none⟩ = some (.int .i64 t201) := (blk_cell BK209.out 0).trans rfl
        have hcz177_1 : w151.cell? ⟨gb209, 1, none⟩ = some (.int .i64 t202) := (blk_cell BK209.out 1).trans rfl
        have hcz177_2 : w151.cell? ⟨gb209, 2, none⟩ = some (.int .i64 t203) := (blk_cell BK209.out 2).trans rfl
        have hcz177_3 : w151.cell? ⟨gb209, 3, none⟩ = some (.int .i64 t204) := (blk_cell BK209.out 3).trans rfl
        have hcz177_4 : w151.cell? ⟨gb209, 4, none⟩ = some (.int .i64 t205) := (blk_cell BK209.out 4).trans rfl
        have hfz177_0 := blk_frozen BK209.out 0
        have hfz177_1 := blk_frozen BK209.out 1
        have hfz177_2 := blk_frozen BK209.out 2
        have hfz177_3 := blk_frozen BK209.out 3
        have hfz177_4 := blk_frozen BK209.out 4
        have hnb178 := NB269_199.out
        have hnc178 := NB199_269.out
        have hnb179 := NB269_200.out
        have hnc179 := NB200_269.out
        have hcz180_0 : w151.cell? ⟨gb269, 0, none⟩ = some (.int .i64 0) := (blk_cell BK269.out 0).trans rfl
        have hcz180_1 : w151.cell? ⟨gb269, 1, none⟩ = some (.int .i64 0) := (blk_cell BK269.out 1).trans rfl
        have hcz180_2 : w151.cell? ⟨gb269, 2, none⟩ = some (.int .i64 0) := (blk_cell BK269.out 2).trans rfl
        have hcz180_3 : w151.cell? ⟨gb269, 3, none⟩ = some (.int .i64 0) := (blk_cell BK269.out 3).trans rfl
        have hcz180_4 : w151.cell? ⟨gb269, 4, none⟩ = some (.int .i64 0) := (blk_cell BK269.out 4).trans rfl
        have hfz180_0 := blk_frozen BK269.out 0
        have hfz180_1 := blk_frozen BK269.out 1
        have hfz180_2 := blk_frozen BK269.out 2
        have hfz180_3 := blk_frozen BK269.out 3
        have hfz180_4 := blk_frozen BK269.out 4
        go_wp2
        go_meet
        case rel => exact ⟨_, (t266), (ji173), (t202), (t204), (t205), H', ⟨by have := HJ8.out; have := HK2.out; have := HK3.out; have := HK4.out; have := HK5.out; have := HJ117.out; have := HK7.out; have := HK8.out; first | omega | exact Nat.le_refl _⟩, ⟨by (with_reducible repeat (first | apply Kd.R_alloc | apply Kd.R_drewN | apply Kd.R_drew)); exact Kd.R_mono (Kd.R_far (p := ⟨gb269, 0, none⟩) (Kd.R_far (p := ⟨gb269, 4, none⟩) (Kd.R_far (p := ⟨gb269, 3, none⟩) (Kd.R_far (p := ⟨gb269, 2, none⟩) (Kd.R_far (p := ⟨gb269, 1, none⟩) (Kd.R_far (p := ⟨gb269, 0, none⟩) (Kd.R_types HO_8.out BK269.out (by decide)) (fun _ hk => hk.2) (.int .i64 t201)) (fun _ hk => hk.2) (.int .i64 t202)) (fun _ hk => hk.2) (.int .i64 t203)) (fun _ hk => hk.2) (.int .i64 t204)) (fun _ hk => hk.2) (.int .i64 t205)) (fun _ hk => hk.2) (.int .i64 ji173)) (fun _ hk => hk.1)⟩, ⟨by (with_reducible repeat (first | apply Kd.R_alloc | apply Kd.R_drewN | apply Kd.R_drew)); exact Kd.R_mono (Kd.R_far (p := ⟨gb269, 0, none⟩) (Kd.R_far (p := ⟨gb269, 4, none⟩) (Kd.R_far (p := ⟨gb269, 3, none⟩) (Kd.R_far (p := ⟨gb269, 2, none⟩) (Kd.R_far (p := ⟨gb269, 1, none⟩) (Kd.R_far (p := ⟨gb269, 0, none⟩) (Kd.R_types HO268.out BK269.out (by decide)) (fun _ hk => hk.2) (.int .i64 t201)) (fun _ hk => hk.2) (.int .i64 t202)) (fun _ hk => hk.2) (.int .i64 t203)) (fun _ hk => hk.2) (.int .i64 t204)) (fun _ hk => hk.2) (.int .i64 t205)) (fun _ hk => hk.2) (.int .i64 ji173)) (fun _ hk => hk.1)⟩, ⟨by (with_reducible repeat (first | refine blk_drewN ?_ _ | refine blk_drew ?_ | refine blk_alloc ?_ _)); refine blk_far ?_ NB199_269.out _; (with_reducible repeat (first | refine blk_drewN ?_ _ | refine blk_drew ?_ | refine blk_alloc ?_ _)); refine blk_far ?_ NB199_269.out _; (with_reducible repeat (first | refine blk_drewN ?_ _ | refine blk_drew ?_ | refine blk_alloc ?_ _)); refine blk_far ?_ NB199_269.out _; (with_reducible repeat (first | refine blk_drewN ?_ _ | refine blk_drew ?_ | refine blk_alloc ?_ _)); refine blk_far ?_ NB199_269.out _; (with_reducible repeat (first | refine blk_drewN ?_ _ | refine blk_drew ?_ | refine blk_alloc ?_ _)); refine blk_far ?_ NB199_269.out _; (with_reducible repeat (first | refine blk_drewN ?_ _ | refine blk_drew ?_ | refine blk_alloc ?_ _)); refine blk_far ?_ NB199_269.out _; (with_reducible repeat (first | refine blk_drewN ?_ _ | refine blk_drew ?_ | refine blk_alloc ?_ _)); exact BK199.out⟩, ⟨by (with_reducible repeat (first | refine blk_drewN ?_ _ | refine blk_drew ?_ | refine blk_alloc ?_ _)); refine blk_far ?_ NB200_269.out _; (with_reducible repeat (first | refine blk_drewN ?_ _ | refine blk_drew ?_ | refine blk_alloc ?_ _)); refine blk_far ?_ NB200_269.out _; (with_reducible repeat (first | refine blk_drewN ?_ _ | refine blk_drew ?_ | refine blk_alloc ?_ _)); refine blk_far ?_ NB200_269.out _; (with_reducible repeat (first | refine blk_drewN ?_ _ | refine blk_drew ?_ | refine blk_alloc ?_ _)); refine blk_far ?_ NB200_269.out _; (with_reducible repeat (first | refine blk_drewN ?_ _ | refine blk_drew ?_ | refine blk_alloc ?_ _)); refine blk_far ?_ NB200_269.out _; (with_reducible repeat (first | refine blk_drewN ?_ _ | refine blk_drew ?_ | refine blk_alloc ?_ _)); refine blk_far ?_ NB200_269.out _; (with_reducible repeat (first | refine blk_drewN ?_ _ | refine blk_drew ?_ | refine blk_alloc ?_ _)); exact BK200.out⟩, ⟨by (with_reducible repeat (first | refine blk_drewN ?_ _ | refine blk_drew ?_ | refine blk_alloc ?_ _)); refine blk_far ?_ NB209_269.out _; (with_reducible repeat (first | refine blk_drewN ?_ _ | refine blk_drew ?_ | refine blk_alloc ?_ _)); refine blk_far ?_ NB209_269.out _; (with_reducible repeat (first | refine blk_drewN ?_ _ | refine blk_drew ?_ | refine blk_alloc ?_ _)); refine blk_far ?_ NB209_269.out _; (with_reducible repeat (first | refine blk_drewN ?_ _ | refine blk_drew ?_ | refine blk_alloc ?_ _)); refine blk_far ?_ NB209_269.out _; (with_reducible repeat (first | refine blk_drewN ?_ _ | refine blk_drew ?_ | refine blk_alloc ?_ _)); refine blk_far ?_ NB209_269.out _; (with_reducible repeat (first | refine blk_drewN ?_ _ | refine blk_drew ?_ | refine blk_alloc ?_ _)); refine blk_far ?_ NB209_269.out _; (with_reducible repeat (first | refine blk_drewN ?_ _ | refine blk_drew ?_ | refine blk_alloc ?_ _)); exact BK209.out⟩, ⟨by (with_reducible repeat (first | refine blk_drewN ?_ _ | refine blk_drew ?_ | refine blk_alloc ?_ _)); refine blk_put (cs := #[.int .i64 t201, .int .i64 t202, .int .i64 t203, .int .i64 t204, .int .i64 t205]) ?_ 0 _ rfl; (with_reducible repeat (first | refine blk_drewN ?_ _ | refine blk_drew ?_ | refine blk_alloc ?_ _)); refine blk_put (cs := #[.int .i64 t201, .int .i64 t202, .int .i64 t203, .int .i64 t204, .int .i64 0]) ?_ 4 _ rfl; (with_reducible repeat (first | refine blk_drewN ?_ _ | refine blk_drew ?_ | refine blk_alloc ?_ _)); refine blk_put (cs := #[.int .i64 t201, .int .i64 t202, .int .i64 t203, .int .i64 0, .int .i64 0]) ?_ 3 _ rfl; (with_reducible repeat (first | refine blk_drewN ?_ _ | refine blk_drew ?_ | refine blk_alloc ?_ _)); refine blk_put (cs := #[.int .i64 t201, .int .i64 t202, .int .i64 0, .int .i64 0, .int .i64 0]) ?_ 2 _ rfl; (with_reducible repeat (first | refine blk_drewN ?_ _ | refine blk_drew ?_ | refine blk_alloc ?_ _)); refine blk_put (cs := #[.int .i64 t201, .int .i64 0, .int .i64 0, .int .i64 0, .int .i64 0]) ?_ 1 _ rfl; (with_reducible repeat (first | refine blk_drewN ?_ _ | refine blk_drew ?_ | refine blk_alloc ?_ _)); refine blk_put (cs := #[.int .i64 0, .int .i64 0, .int .i64 0, .int .i64 0, .int .i64 0]) ?_ 0 _ rfl; (with_reducible repeat (first | refine blk_drewN ?_ _ | refine blk_drew ?_ | refine blk_alloc ?_ _)); exact BK269.out⟩, ⟨by repeat (first | (with_reducible first | exact HB.out | apply below_alloc | apply pw_below_drewN | apply below_drew1 | refine below_set ?_ GE199.out | refine below_set ?_ GE200.out | refine below_set ?_ GE209.out | refine below_set ?_ GE269.out) | exact HB.out)⟩⟩
       rw [if_neg c172] at H
       have c172b0 : (x33_8 == 3) = false := beq_eq_false_iff_ne.mpr c172
       have c172b1 : (x33_8 != 3) = true := bne_iff_ne.mpr c172
       by_cases c181 : (t206.length : Int) > 0
       ·rw [if_pos c181] at H
        have c181b0 : decide (0 < (t206.length : Int)) = true := decide_eq_true c181
        have c181b1 : decide (0 < t206.length) = true := decide_eq_true (by omega)
        clear c181
        by_cases c182 : (t206.length : Int) = 0
        ·rw [if_pos c182] at H
         exact absurd H (by simp)
        rw [if_neg c182] at H
        have c182b0 : ((t206.length : Int) == 0) = false := beq_eq_false_iff_ne.mpr c182
        have c182b1 : ((t206.length : Int) != 0) = true := bne_iff_ne.mpr c182
        have c182b2 : ¬ (t206 = []) := fun h_ => c182 (by rw [h_]; rfl)
        obtain ⟨ji183, hji183⟩ : ∃ j_ : Int, (Int.tmod (wrap64 (a2)) (t206.length : Int)) = j_ := ⟨_, rfl⟩
        replace H : (if 0 ≤ (ji183) then (if (ji183) ≤ (t206.length : Int) then ((smaltolaw03_own.f (t206.take ((ji183) : Int).toNat)).bind fun t274 => (if 0 ≤ (wrap64 ((ji183) + 1)) then (if (wrap64 ((ji183) + 1)) ≤ (t206.length : Int) then ((some (t206.drop ((wrap64 ((ji183) + 1)) : Int).toNat : List (S74))).bind fun y277 => (if t274.length + y277.length < 2932031007402 then (lF.j9 k8 a2 t206 x27_5 x33_8 (t274 ++ y277) t201 t202 t203 t204 t205 t201 t202 t203 t204 t205) else (none))) else (none)) else (none))) else (none)) else (none)) = some r := by first | (rw [hji183] at H; exact H) | (simp only [hji183] at H ⊢; exact H)
        by_cases c184 : 0 ≤ (ji183)
        ·rw [if_pos c184] at H
         have c184b0 := eq_true c184
         have c184b1 : decide (0 ≤ (ji183)) = true := decide_eq_true c184
         clear c184
         by_cases c185 : (ji183) ≤ (t206.length : Int)
         ·rw [if_pos c185] at H
          have c185b0 := eq_true c185
          have c185b1 : decide ((ji183) ≤ (t206.length : Int)) = true := decide_eq_true c185
          clear c185
          obtain ⟨y270, hy270⟩ : ∃ y_ : List (S74), y_ = (t206.take ((ji183) : Int).toNat) := ⟨_, rfl⟩
          replace H : ((smaltolaw03_own.f y270).bind fun t274 => (if 0 ≤ (wrap64 ((ji183) + 1)) then (if (wrap64 ((ji183) + 1)) ≤ (t206.length : Int) then ((some (t206.drop ((wrap64 ((ji183) + 1)) : Int).toNat : List (S74))).bind fun y277 => (if t274.length + y277.length < 2932031007402 then (lF.j9 k8 a2 t206 x27_5 x33_8 (t274 ++ y277) t201 t202 t203 t204 t205 t201 t202 t203 t204 t205) else (none))) else (none)) else (none))) = some r := by first | (rw [hy270]; with_reducible exact H) | (have H2_ := (Option.bind_some _ _).symm.trans H; rw [hy270]; with_reducible exact H2_) | (have H2_ := (Option.bind_some _ _).symm.trans H; with_reducible exact H2_) | with_reducible exact H | (rw [hy270]; exact H) | exact H
          have Ny270 := Aside0.mk hy270
          clear hy270
          replace H := Option.bind_eq_some_iff.mp H
          obtain ⟨t274, A1860, H⟩ := H
          replace H : (if 0 ≤ (wrap64 ((ji183) + 1)) then (if (wrap64 ((ji183) + 1)) ≤ (t206.length : Int) then ((some (t206.drop ((wrap64 ((ji183) + 1)) : Int).toNat : List (S74))).bind fun y277 => (if t274.length + y277.length < 2932031007402 then (lF.j9 k8 a2 t206 x27_5 x33_8 (t274 ++ y277) t201 t202 t203 t204 t205 t201 t202 t203 t204 t205) else (none))) else (none)) else (none)) = some r := H
          have A186 := Aside0.mk A1860
          clear A1860
          obtain ⟨ji187, hji187⟩ : ∃ j_ : Int, (wrap64 ((ji183) + 1)) = j_ := ⟨_, rfl⟩
          replace H : (if 0 ≤ (ji187) then (if (ji187) ≤ (t206.length : Int) then ((some (t206.drop ((ji187) : Int).toNat : List (S74))).bind fun y277 => (if t274.length + y277.length < 2932031007402 then (lF.j9 k8 a2 t206 x27_5 x33_8 (t274 ++ y277) t201 t202 t203 t204 t205 t201 t202 t203 t204 t205) else (none))) else (none)) else (none)) = some r := by first | (rw [hji187] at H; exact H) | (simp only [hji187] at H ⊢; exact H)
          (try rw [hji187] at A186)
          have hji187w : (IntKind.i64.wrap ((ji183) + 1)) = ji187 := (i64_w _).trans hji187
          by_cases c188 : 0 ≤ (ji187)
          ·rw [if_pos c188] at H
           have c188b0 := eq_true c188
           have c188b1 : decide (0 ≤ (ji187)) = true := decide_eq_true c188
           clear c188
           by_cases c189 : (ji187) ≤ (t206.length : Int)
           ·rw [if_pos c189] at H
            have c189b0 := eq_true c189
            have c189b1 : decide ((ji187) ≤ (t206.length : Int)) = true := decide_eq_true c189
            clear c189
            obtain ⟨y277, hy277⟩ : ∃ y_ : List (S74), y_ = (t206.drop ((ji187) : Int).toNat) := ⟨_, rfl⟩
            replace H : (if t274.length + y277.length < 2932031007402 then (lF.j9 k8 a2 t206 x27_5 x33_8 (t274 ++ y277) t201 t202 t203 t204 t205 t201 t202 t203 t204 t205) else (none)) = some r := by first | (rw [hy277]; with_reducible exact H) | (have H2_ := (Option.bind_some _ _).symm.trans H; rw [hy277]; with_reducible exact H2_) | (have H2_ := (Option.bind_some _ _).symm.trans H; with_reducible exact H2_) | with_reducible exact H | (rw [hy277]; exact H) | exact H
            have Ny277 := Aside0.mk hy277
            clear hy277
            by_cases c190 : t274.length + y277.length < 2932031007402
            ·rw [if_pos c190] at H
             have LMc190 := Aside0.mk c190
             clear c190
             obtain ⟨y281, hy281⟩ : ∃ y_ : List (S74), y_ = (t274 ++ y277) := ⟨_, rfl⟩
             replace H : (lF.j9 k8 a2 t206 x27_5 x33_8 y281 t201 t202 t203 t204 t205 t201 t202 t203 t204 t205) = some r := by first | (rw [hy281]; with_reducible exact H) | (have H2_ := (Option.bind_some _ _).symm.trans H; rw [hy281]; with_reducible exact H2_) | (have H2_ := (Option.bind_some _ _).symm.trans H; with_reducible exact H2_) | with_reducible exact H | (rw [hy281]; exact H) | exact H
             have Ny281 := Aside0.mk hy281
             clear hy281
             have H' := Aside0.mk H
             clear H
             try go_wp2
             have n0_ : Aside0 (Kd.R k74 74 (((((w151.setCell ⟨gb269, 0, none⟩ (.int .i64 t201)).setCell ⟨gb269, 1, none⟩ (.int .i64 t202)).setCell ⟨gb269, 2, none⟩ (.int .i64 t203)).setCell ⟨gb269, 3, none⟩ (.int .i64 t204)).setCell ⟨gb269, 4, none⟩ (.int .i64 t205)) w.heap.size (fun k_ => some k_ ≠ (v267 : Value).ownBlock) (.slice Ao21 t206.length co21) t206) := ⟨by (with_reducible repeat (first | apply Kd.R_alloc | apply Kd.R_drewN | apply Kd.R_drew)); exact Kd.R_mono (Kd.R_far (p := ⟨gb269, 4, none⟩) (Kd.R_far (p := ⟨gb269, 3, none⟩) (Kd.R_far (p := ⟨gb269, 2, none⟩) (Kd.R_far (p := ⟨gb269, 1, none⟩) (Kd.R_far (p := ⟨gb269, 0, none⟩) (Kd.R_types HO_8.out BK269.out (by decide)) (fun _ hk => hk.2) (.int .i64 t201)) (fun _ hk => hk.2) (.int .i64 t202)) (fun _ hk => hk.2) (.int .i64 t203)) (fun _ hk => hk.2) (.int .i64 t204)) (fun _ hk => hk.2) (.int .i64 t205)) (fun _ hk => hk.1)⟩
             have n1_ : Aside0 (Kd.R k74 74 (((((w151.setCell ⟨gb269, 0, none⟩ (.int .i64 t201)).setCell ⟨gb269, 1, none⟩ (.int .i64 t202)).setCell ⟨gb269, 2, none⟩ (.int .i64 t203)).setCell ⟨gb269, 3, none⟩ (.int .i64 t204)).setCell ⟨gb269, 4, none⟩ (.int .i64 t205)) w.heap.size (fun k_ => some k_ ≠ (.slice Ao21 t206.length co21 : Value).ownBlock) v267 t266) := ⟨by (with_reducible repeat (first | apply Kd.R_alloc | apply Kd.R_drewN | apply Kd.R_drew)); exact Kd.R_mono (Kd.R_far (p := ⟨gb269, 4, none⟩) (Kd.R_far (p := ⟨gb269, 3, none⟩) (Kd.R_far (p := ⟨gb269, 2, none⟩) (Kd.R_far (p := ⟨gb269, 1, none⟩) (Kd.R_far (p := ⟨gb269, 0, none⟩) (Kd.R_types HO268.out BK269.out (by decide)) (fun _ hk => hk.2) (.int .i64 t201)) (fun _ hk => hk.2) (.int .i64 t202)) (fun _ hk => hk.2) (.int .i64 t203)) (fun _ hk => hk.2) (.int .i64 t204)) (fun _ hk => hk.2) (.int .i64 t205)) (fun _ hk => hk.1)⟩
             have n2_ : Aside0 ((((((w151.setCell ⟨gb269, 0, none⟩ (.int .i64 t201)).setCell ⟨gb269, 1, none⟩ (.int .i64 t202)).setCell ⟨gb269, 2, none⟩ (.int .i64 t203)).setCell ⟨gb269, 3, none⟩ (.int .i64 t204)).setCell ⟨gb269, 4, none⟩ (.int .i64 t205)).heap[gb199]? = some (.cells #[.int .u8 a0_0, .int .u8 a0_1, .int .u8 a0_2, .int .u8 a0_3, .int .u8 a0_4, .slice A0_5 l0_5.length c0_5] 66 (0, 0))) := ⟨by (with_reducible repeat (first | refine blk_drewN ?_ _ | refine blk_drew ?_ | refine blk_alloc ?_ _)); refine blk_far ?_ NB199_269.out _; (with_reducible repeat (first | refine blk_drewN ?_ _ | refine blk_drew ?_ | refine blk_alloc ?_ _)); refine blk_far ?_ NB199_269.out _; (with_reducible repeat (first | refine blk_drewN ?_ _ | refine blk_drew ?_ | refine blk_alloc ?_ _)); refine blk_far ?_ NB199_269.out _; (with_reducible repeat (first | refine blk_drewN ?_ _ | refine blk_drew ?_ | refine blk_alloc ?_ _)); refine blk_far ?_ NB199_269.out _; (with_reducible repeat (first | refine blk_drewN ?_ _ | refine blk_drew ?_ | refine blk_alloc ?_ _)); refine blk_far ?_ NB199_269.out _; (with_reducible repeat (first | refine blk_drewN ?_ _ | refine blk_drew ?_ | refine blk_alloc ?_ _)); exact BK199.out⟩
             have n3_ : Aside0 ((((((w151.setCell ⟨gb269, 0, none⟩ (.int .i64 t201)).setCell ⟨gb269, 1, none⟩ (.int .i64 t202)).setCell ⟨gb269, 2, none⟩ (.int .i64 t203)).setCell ⟨gb269, 3, none⟩ (.int .i64 t204)).setCell ⟨gb269, 4, none⟩ (.int .i64 t205)).heap[gb200]? = some (.cells #[.int .u8 a1_0, .int .u8 a1_1, .int .u8 a1_2, .int .u8 a1_3, .int .u8 a1_4, .int .u8 a1_5] 67 (0, 0))) := ⟨by (with_reducible repeat (first | refine blk_drewN ?_ _ | refine blk_drew ?_ | refine blk_alloc ?_ _)); refine blk_far ?_ NB200_269.out _; (with_reducible repeat (first | refine blk_drewN ?_ _ | refine blk_drew ?_ | refine blk_alloc ?_ _)); refine blk_far ?_ NB200_269.out _; (with_reducible repeat (first | refine blk_drewN ?_ _ | refine blk_drew ?_ | refine blk_alloc ?_ _)); refine blk_far ?_ NB200_269.out _; (with_reducible repeat (first | refine blk_drewN ?_ _ | refine blk_drew ?_ | refine blk_alloc ?_ _)); refine blk_far ?_ NB200_269.out _; (with_reducible repeat (first | refine blk_drewN ?_ _ | refine blk_drew ?_ | refine blk_alloc ?_ _)); refine blk_far ?_ NB200_269.out _; (with_reducible repeat (first | refine blk_drewN ?_ _ | refine blk_drew ?_ | refine blk_alloc ?_ _)); exact BK200.out⟩
             have n4_ : Aside0 ((((((w151.setCell ⟨gb269, 0, none⟩ (.int .i64 t201)).setCell ⟨gb269, 1, none⟩ (.int .i64 t202)).setCell ⟨gb269, 2, none⟩ (.int .i64 t203)).setCell ⟨gb269, 3, none⟩ (.int .i64 t204)).setCell ⟨gb269, 4, none⟩ (.int .i64 t205)).heap[gb209]? = some (.cells #[.int .i64 t201, .int .i64 t202, .int .i64 t203, .int .i64 t204, .int .i64 t205] 23 (0, 0))) := ⟨by (with_reducible repeat (first | refine blk_drewN ?_ _ | refine blk_drew ?_ | refine blk_alloc ?_ _)); refine blk_far ?_ NB209_269.out _; (with_reducible repeat (first | refine blk_drewN ?_ _ | refine blk_drew ?_ | refine blk_alloc ?_ _)); refine blk_far ?_ NB209_269.out _; (with_reducible repeat (first | refine blk_drewN ?_ _ | refine blk_drew ?_ | refine blk_alloc ?_ _)); refine blk_far ?_ NB209_269.out _; (with_reducible repeat (first | refine blk_drewN ?_ _ | refine blk_drew ?_ | refine blk_alloc ?_ _)); refine blk_far ?_ NB209_269.out _; (with_reducible repeat (first | refine blk_drewN ?_ _ | refine blk_drew ?_ | refine blk_alloc ?_ _)); refine blk_far ?_ NB209_269.out _; (with_reducible repeat (first | refine blk_drewN ?_ _ | refine blk_drew ?_ | refine blk_alloc ?_ _)); exact BK209.out⟩
             have n5_ : Aside0 ((((((w151.setCell ⟨gb269, 0, none⟩ (.int .i64 t201)).setCell ⟨gb269, 1, none⟩ (.int .i64 t202)).setCell ⟨gb269, 2, none⟩ (.int .i64 t203)).setCell ⟨gb269, 3, none⟩ (.int .i64 t204)).setCell ⟨gb269, 4, none⟩ (.int .i64 t205)).heap[gb269]? = some (.cells #[.int .i64 t201, .int .i64 t202, .int .i64 t203, .int .i64 t204, .int .i64 t205] 23 (0, 0))) := ⟨by (with_reducible repeat (first | refine blk_drewN ?_ _ | refine blk_drew ?_ | refine blk_alloc ?_ _)); refine blk_put (cs := #[.int .i64 t201, .int .i64 t202, .int .i64 t203, .int .i64 t204, .int .i64 0]) ?_ 4 _ rfl; (with_reducible repeat (first | refine blk_drewN ?_ _ | refine blk_drew ?_ | refine blk_alloc ?_ _)); refine blk_put (cs := #[.int .i64 t201, .int .i64 t202, .int .i64 t203, .int .i64 0, .int .i64 0]) ?_ 3 _ rfl; (with_reducible repeat (first | refine blk_drewN ?_ _ | refine blk_drew ?_ | refine blk_alloc ?_ _)); refine blk_put (cs := #[.int .i64 t201, .int .i64 t202, .int .i64 0, .int .i64 0, .int .i64 0]) ?_ 2 _ rfl; (with_reducible repeat (first | refine blk_drewN ?_ _ | refine blk_drew ?_ | refine blk_alloc ?_ _)); refine blk_put (cs := #[.int .i64 t201, .int .i64 0, .int .i64 0, .int .i64 0, .int .i64 0]) ?_ 1 _ rfl; (with_reducible repeat (first | refine blk_drewN ?_ _ | refine blk_drew ?_ | refine blk_alloc ?_ _)); refine blk_put (cs := #[.int .i64 0, .int .i64 0, .int .i64 0, .int .i64 0, .int .i64 0]) ?_ 0 _ rfl; (with_reducible repeat (first | refine blk_drewN ?_ _ | refine blk_drew ?_ | refine blk_alloc ?_ _)); exact BK269.out⟩
             have n6_ : Aside0 (Below w.heap.size w (((((w151.setCell ⟨gb269, 0, none⟩ (.int .i64 t201)).setCell ⟨gb269, 1, none⟩ (.int .i64 t202)).setCell ⟨gb269, 2, none⟩ (.int .i64 t203)).setCell ⟨gb269, 3, none⟩ (.int .i64 t204)).setCell ⟨gb269, 4, none⟩ (.int .i64 t205))) := ⟨by repeat (first | (with_reducible first | exact HB.out | apply below_alloc | apply pw_below_drewN | apply below_drew1 | refine below_set ?_ GE199.out | refine below_set ?_ GE200.out | refine below_set ?_ GE209.out | refine below_set ?_ GE269.out) | exact HB.out)⟩
             (try clear HO_8)
             (try clear HO268)
             (try clear BK199)
             (try clear BK200)
             (try clear BK209)
             (try clear BK269)
             (try clear HB)
             generalize (((((w151.setCell ⟨gb269, 0, none⟩ (.int .i64 t201)).setCell ⟨gb269, 1, none⟩ (.int .i64 t202)).setCell ⟨gb269, 2, none⟩ (.int .i64 t203)).setCell ⟨gb269, 3, none⟩ (.int .i64 t204)).setCell ⟨gb269, 4, none⟩ (.int .i64 t205)) = w191 at n0_ n1_ n2_ n3_ n4_ n5_ n6_ ⊢
             have HO_8 := n0_
             have HO268 := n1_
             have BK199 := n2_
             have BK200 := n3_
             have BK209 := n4_
             have BK269 := n5_
             have HB := n6_
             clear n0_ n1_ n2_ n3_ n4_ n5_ n6_
             have n0_ := Aside0.mk (Kd.R_drew HO_8.out)
             have n1_ := Aside0.mk (Kd.R_drew HO268.out)
             have n2_ := Aside0.mk (blk_drew BK199.out)
             have n3_ := Aside0.mk (blk_drew BK200.out)
             have n4_ := Aside0.mk (blk_drew BK209.out)
             have n5_ := Aside0.mk (blk_drew BK269.out)
             have n6_ := Aside0.mk (below_drew1 HB.out)
             clear HO_8
             clear HO268
             clear BK199
             clear BK200
             clear BK209
             clear BK269
             clear HB
             have HO_8 := n0_
             have HO268 := n1_
             have BK199 := n2_
             have BK200 := n3_
             have BK209 := n4_
             have BK269 := n5_
             have HB := n6_
             clear n0_ n1_ n2_ n3_ n4_ n5_ n6_
             have q193 : ((ji183) : Int) ≤ ((t206.length : Int) : Int) := of_decide_eq_true (by first | (with_reducible assumption) | assumption)
             obtain ⟨i0193, hi0193, _, hsz193, _⟩ := info_parts info74
             have hroom193 : t206.length ≤ co21 := (Kd.R_reads' HO_8.out).2.1
             have hC193 : Kd.C k74 _ Ao21 t206.length t206 := (Kd.R_reads' HO_8.out).2.2
             have hcut193 := cut_to (P := Tryd.prog) 24 74 .i64 Tryd.underlying24 hi0193 Ao21 t206.length co21 (ji183) (of_decide_eq_true (by first | (with_reducible assumption) | assumption)) q193 hroom193
             have hr193 := Kd.C_take (m := ((ji183) : Int).toNat) hC193 (by omega)
             have hy193 : y270.length = ((ji183) : Int).toNat := (by rw [Ny270.out, List.length_take]; omega)
             rw [← Ny270.out] at hr193
             rw [← hy193] at hcut193
             have HR273 := Aside0.mk hr193
             have HC273 := Aside0.mk (show y270.length ≤ co21 from by omega)
             clear hr193 hC193 hroom193 hi0193 hsz193
             have KY193 := Aside0.mk hy193
             clear hy193
             have KL193 := Aside0.mk (show ((ji183) : Int).toNat ≤ t206.length from by omega)
             replace q193 := eq_true q193
             have q194 : ((ji187) : Int) ≤ ((t206.length : Int) : Int) := of_decide_eq_true (by first | (with_reducible assumption) | assumption)
             obtain ⟨i0194, hi0194, _, hsz194, _⟩ := info_parts info74
             have hroom194 : t206.length ≤ co21 := (Kd.R_reads' HO_8.out).2.1
             have hC194 : Kd.C k74 _ Ao21 t206.length t206 := (Kd.R_reads' HO_8.out).2.2
             have q0194 : (0 : Int) ≤ ((ji187) : Int) := of_decide_eq_true (by first | (with_reducible assumption) | assumption)
             have hcut194 := cut_from (P := Tryd.prog) 24 74 .i64 Tryd.underlying24 hi0194 6 hsz194 Ao21 t206.length co21 (ji187) q0194 q194
             have hr194 := Kd.C_drop (m := ((ji187) : Int).toNat) (c := co21) hC194 (by omega) hroom194
             obtain ⟨A194, hA194⟩ : ∃ A1, A1 = (if co21 = ((ji187) : Int).toNat then Ao21 else (Ao21 : Option Addr).map (·.add (((ji187) : Int).toNat * 6))) := ⟨_, rfl⟩
             obtain ⟨c194, hc194⟩ : ∃ c1, c1 = co21 - ((ji187) : Int).toNat := ⟨_, rfl⟩
             have hy194 : y277.length = t206.length - ((ji187) : Int).toNat := (by rw [Ny277.out, List.length_drop] <;> omega)
             rw [show (t206).drop ((ji187) : Int).toNat = y277 from Ny277.out.symm] at hr194
             replace hr194 : Kd.C k74 _ A194 y277.length y277 := (by rw [hA194]; exact hr194)
             rw [← hy194, ← hA194, ← hc194] at hcut194
             have HR280 := Aside0.mk hr194
             have HC280 := Aside0.mk (show y277.length ≤ c194 from by rw [hy194, hc194]; exact Nat.sub_le_sub_right hroom194 _)
             clear hr194 hC194 hroom194 hi0194 hsz194 hc194
             have KY194 := Aside0.mk hy194
             have KA194 := Aside0.mk hA194
             clear hy194 hA194
             have KL194 := Aside0.mk (show ((ji187) : Int).toNat ≤ t206.length from by omega)
             replace q194 := eq_true q194
             refine start_ (n := 10) (S := fun w' => True) (ds := []) (bl 10 0) (by kernel_rfl) rfl rfl trivial (fun hHeld => ?_); refine with_tabW lF.tab54 lF.bits54 (fun HT_ HW_ => ?_)
             generalize w191.drew = w192 at HO_8 HO268 BK199 BK200 BK209 BK269 HB HR273 HR280 hHeld ⊢
             refine pq 0 (some 256) (bl 10 1) HT_ (h := ?_)
             refine pq 1 (some 257) (bl 10 3) HT_ (h := ?_)
             refine pq 2 (some 258) (bl 10 7) HT_ (h := ?_)
             refine pq 4 (some 260) (bl 10 23) HT_ (h := ?_)
             refine pq 5 (some 261) (bl 10 55) HT_ (h := ?_)
             refine pq 6 (some 262) (bl 10 119) HT_ (h := ?_)
             refine pq 7 (some 263) (bl 10 247) HT_ (h := ?_)
             refine one_ (i := 3) (N := some 259) (bl 10 255) rfl rfl (one_of HT_.out (by kernel_rfl)) (by decide) (fun K hK => ?_)
             refine goes_ Tryd.func43 (by kernel_rfl) rfl #[.slice Ao21 y270.length co21] (by rfl) rfl rfl (by (try simp only [List.map_toArray, List.map_cons, List.map_nil]); first | done | rfl | (simp only [List.length_drop, List.length_take]; rfl)) ?_
             with_reducible refine (smaltolaw03_own.calls _ _ y270 t274 _ ?side1 ?side2 A186.out).mono ?_
             (case side1 => repeat (first | exact (by repeat (first | (with_reducible exact HR273.out) | (with_reducible refine Kd.C_alloc ?_ _) | (with_reducible refine Kd.C_drewN ?_ _) | (with_reducible refine Kd.C_drew ?_) | exact HR273.out)) | (with_reducible refine Kd.C_alloc ?_ _) | (with_reducible refine Kd.C_drewN ?_ _) | (with_reducible refine Kd.C_drew ?_)))
             (case side2 => exact HC273.out)
             rintro e w195 ⟨v275, rfl, ho0, hb⟩
             refine ⟨_, rfl, ?_⟩
             have n0_ := Aside0.mk (Kd.R_elder' (R_ HO_8) (Kd.R_base ho0) hb)
             have n1_ := Aside0.mk (Kd.R_elder' (R_ HO268) (Kd.R_base ho0) hb)
             have n2_ := Aside0.mk (Kd.R_lower (Kd.R_new' (Kd.R_new' ho0 (Kd.R_lt (R_ HO_8))) (Kd.R_lt (R_ HO268))) (below_size (by repeat (first | (with_reducible first | exact HB.out | apply below_alloc | apply pw_below_drewN | apply below_drew1 | refine below_set ?_ GE199.out | refine below_set ?_ GE200.out | refine below_set ?_ GE209.out | refine below_set ?_ GE269.out) | exact HB.out))))
             have n3_ := Aside0.mk (blk_below (g := gb199) (o := .cells #[.int .u8 a0_0, .int .u8 a0_1, .int .u8 a0_2, .int .u8 a0_3, .int .u8 a0_4, .slice A0_5 l0_5.length c0_5] 66 (0, 0)) (b_ BK199) hb)
             have n4_ := Aside0.mk (blk_below (g := gb200) (o := .cells #[.int .u8 a1_0, .int .u8 a1_1, .int .u8 a1_2, .int .u8 a1_3, .int .u8 a1_4, .int .u8 a1_5] 67 (0, 0)) (b_ BK200) hb)
             have n5_ := Aside0.mk (blk_below (g := gb209) (o := .cells #[.int .i64 t201, .int .i64 t202, .int .i64 t203, .int .i64 t204, .int .i64 t205] 23 (0, 0)) (b_ BK209) hb)
             have n6_ := Aside0.mk (blk_below (g := gb269) (o := .cells #[.int .i64 t201, .int .i64 t202, .int .i64 t203, .int .i64 t204, .int .i64 t205] 23 (0, 0)) (b_ BK269) hb)
             have n7_ := Aside0.mk (Kd.C_below (by repeat (first | (with_reducible exact HR273.out) | (with_reducible refine Kd.C_alloc ?_ _) | (with_reducible refine Kd.C_drewN ?_ _) | (with_reducible refine Kd.C_drew ?_) | exact HR273.out)) hb)
             have n8_ := Aside0.mk (Kd.C_below (by repeat (first | (with_reducible exact HR280.out) | (with_reducible refine Kd.C_alloc ?_ _) | (with_reducible refine Kd.C_drewN ?_ _) | (with_reducible refine Kd.C_drew ?_) | exact HR280.out)) hb)
             have n9_ := Aside0.mk (below_step (by repeat (first | (with_reducible first | exact HB.out | apply below_alloc | apply pw_below_drewN | apply below_drew1 | refine below_set ?_ GE199.out | refine below_set ?_ GE200.out | refine below_set ?_ GE209.out | refine below_set ?_ GE269.out) | exact HB.out)) hb)
             clear HO_8
             clear HO268
             clear BK199
             clear BK200
             clear BK209
             clear BK269
             clear HR273
             clear HR280
             clear HB
             have HO_8 := n0_
             have HO268 := n1_
             have HO276 := n2_
             have BK199 := n3_
             have BK200 := n4_
             have BK209 := n5_
             have BK269 := n6_
             have HR273 := n7_
             have HR280 := n8_
             have HB := n9_
             clear n0_ n1_ n2_ n3_ n4_ n5_ n6_ n7_ n8_ n9_
             (try clear hb)
             (try clear hb2)
             (try clear hk)
             (try clear hi)
             (try clear ho0)
             refine hK.out _ _ trivial (fun hHeld => ?_)
             clear hK K
             refine nq 259 ?_
             refine one_ (i := 8) (N := some 264) (bl 10 511) rfl rfl (one_of HT_.out (by kernel_rfl)) (by decide) (fun K hK => ?_)
             refine Kd.R_append_rows_step k74 (w0 := w) w.heap.size (by rfl) (.tmp 259) (.tmp 263) 24 74 (.agg #[(.int .i64 0), (.int .i64 0), (.int .i64 0), (.int .i64 0), (.int .i64 0), (.int .i64 0)]) 48 rfl Tryd.underlying24 info74 rfl (by decide) (by omega) v275 t274 y277 _ _ _ (fun k_ => some k_ ≠ (.slice Ao21 t206.length co21 : Value).ownBlock ∧ some k_ ≠ (v267 : Value).ownBlock) (fun _ => False) rfl rfl ?aO ?aR (fun _ _ h => h) (fun _ h => h.elim) ?aF ?aB ?aS ?aL ?_
             (case aR => repeat (first | exact (by repeat (first | (with_reducible exact HR280.out) | (with_reducible refine Kd.C_alloc ?_ _) | (with_reducible refine Kd.C_drewN ?_ _) | (with_reducible refine Kd.C_drew ?_) | exact HR280.out)) | (with_reducible refine Kd.C_alloc ?_ _) | (with_reducible refine Kd.C_drewN ?_ _) | (with_reducible refine Kd.C_drew ?_)))
             (case aB => exact (by repeat (first | (with_reducible first | exact HB.out | apply below_alloc | apply pw_below_drewN | apply below_drew1 | refine below_set ?_ GE199.out | refine below_set ?_ GE200.out | refine below_set ?_ GE209.out | refine below_set ?_ GE269.out) | exact HB.out)))
             (case aF => exact (fun k_ hk => ⟨Kd.fresh' (Kd.R_lt (R_ HO_8)) k_ hk, Kd.fresh' (Kd.R_lt (R_ HO268)) k_ hk⟩))
             (case aO => exact (Kd.R_mono (R_ HO276) (fun _ hk => ⟨hk.1.2, hk.2⟩)))
             (case aS => exact (below_size (by repeat (first | (with_reducible first | exact HB.out | apply below_alloc | apply pw_below_drewN | apply below_drew1 | refine below_set ?_ GE199.out | refine below_set ?_ GE200.out | refine below_set ?_ GE209.out | refine below_set ?_ GE269.out) | exact HB.out))))
             (case aL => have := LMc190.out; omega)
             intro v282 w196 ho hb hg hat
             rw [← Ny281.out] at ho
             have n0_ := Aside0.mk (Kd.R_after (ok := (fun k_ => some k_ ≠ (v267 : Value).ownBlock)) (R_ HO_8) hg hat)
             have n1_ := Aside0.mk (blk_grown (g := gb199) (o := .cells #[.int .u8 a0_0, .int .u8 a0_1, .int .u8 a0_2, .int .u8 a0_3, .int .u8 a0_4, .slice A0_5 l0_5.length c0_5] 66 (0, 0)) (b_ BK199) hg (Kd.R_ne HO276.out BK199.out (by decide)))
             have n2_ := Aside0.mk (blk_grown (g := gb200) (o := .cells #[.int .u8 a1_0, .int .u8 a1_1, .int .u8 a1_2, .int .u8 a1_3, .int .u8 a1_4, .int .u8 a1_5] 67 (0, 0)) (b_ BK200) hg (Kd.R_ne HO276.out BK200.out (by decide)))
             have n3_ := Aside0.mk (blk_grown (g := gb209) (o := .cells #[.int .i64 t201, .int .i64 t202, .int .i64 t203, .int .i64 t204, .int .i64 t205] 23 (0, 0)) (b_ BK209) hg (Kd.R_ne HO276.out BK209.out (by decide)))
             have n4_ := Aside0.mk (Kd.R_after (ok := (fun k_ => some k_ ≠ (.slice Ao21 t206.length co21 : Value).ownBlock)) (R_ HO268) hg hat)
             have n5_ := Aside0.mk (blk_grown (g := gb269) (o := .cells #[.int .i64 t201, .int .i64 t202, .int .i64 t203, .int .i64 t204, .int .i64 t205] 23 (0, 0)) (b_ BK269) hg (Kd.R_ne HO276.out BK269.out (by decide)))
             have n6_ := Aside0.mk (hb)
             have n7_ := Aside0.mk ((show Kd.C k74 w196 Ao21 y270.length y270 from by rw [Ny270.out]; exact Kd.C_take (m := ((ji183) : Int).toNat) ((Kd.R_reads' (Kd.R_after (ok := (fun k_ => some k_ ≠ (v267 : Value).ownBlock)) (R_ HO_8) hg hat)).2.2) KL193.out))
             have n8_ := Aside0.mk ((show Kd.C k74 w196 A194 y277.length y277 from by rw [Ny277.out, KA194.out]; exact Kd.C_drop (m := ((ji187) : Int).toNat) (c := co21) ((Kd.R_reads' (Kd.R_after (ok := (fun k_ => some k_ ≠ (v267 : Value).ownBlock)) (R_ HO_8) hg hat)).2.2) KL194.out ((Kd.R_reads' (Kd.R_after (ok := (fun k_ => some k_ ≠ (v267 : Value).ownBlock)) (R_ HO_8) hg hat)).2.1)))
             have n9_ := Aside0.mk (ho)
             clear HO_8
             clear BK199
             clear BK200
             clear BK209
             clear HO268
             clear BK269
             clear HB
             clear HR273
             clear HR280
             clear HO276
             have HO_8 := n0_
             have BK199 := n1_
             have BK200 := n2_
             have BK209 := n3_
             have HO268 := n4_
             have BK269 := n5_
             have HB := n6_
             have HR273 := n7_
             have HR280 := n8_
             have HO283 := n9_
             clear n0_ n1_ n2_ n3_ n4_ n5_ n6_ n7_ n8_ n9_
             clear ho hb hg hat
             refine hK.out _ _ trivial (fun hHeld => ?_)
             clear hK K
             refine nq 264 ?_
             refine pq 9 (some 35) (bl 10 1023) HT_ (h := ?_)
             refine done_ (done_of HT_.out (by kernel_rfl)) ?_
             try go_wp2
             go_meet
             case rel => exact ⟨_, (y281), (t201), (t202), (t204), (t205), H', ⟨by have := HJ8.out; have := HK2.out; have := HK3.out; have := HK4.out; have := HK5.out; have := HJ117.out; have := HK7.out; have := HK8.out; first | omega | exact Nat.le_refl _⟩, ⟨Kd.R_mono (R_ HO_8) (fun _ hk => hk.2)⟩, ⟨Kd.R_mono (R_ HO283) (fun _ hk => hk.1)⟩, ⟨b_ BK199⟩, ⟨b_ BK200⟩, ⟨b_ BK209⟩, ⟨b_ BK269⟩, ⟨by repeat (first | (with_reducible first | exact HB.out | apply below_alloc | apply pw_below_drewN | apply below_drew1 | refine below_set ?_ GE199.out | refine below_set ?_ GE200.out | refine below_set ?_ GE209.out | refine below_set ?_ GE269.out) | exact HB.out)⟩⟩
            rw [if_neg c190] at H
            exact absurd H (by simp)
           rw [if_neg c189] at H
           exact absurd H (by simp)
          rw [if_neg c188] at H
          exact absurd H (by simp)
         rw [if_neg c185] at H
         exact absurd H (by simp)
        rw [if_neg c184] at H
        exact absurd H (by simp)
       rw [if_neg c181] at H
       have c181b0 : decide (0 < (t206.length : Int)) = false := decide_eq_false c181
       have c181b1 : decide (0 < t206.length) = false := decide_eq_false (by omega)
       clear c181
       have H' := Aside0.mk H
       clear H
       go_wp2
       go_meet
       case rel => exact ⟨_, (t266), (t201), (t202), (t204), (t205), H', ⟨by have := HJ8.out; have := HK2.out; have := HK3.out; have := HK4.out; have := HK5.out; have := HJ117.out; have := HK7.out; have := HK8.out; first | omega | exact Nat.le_refl _⟩, ⟨by (with_reducible repeat (first | apply Kd.R_alloc | apply Kd.R_drewN | apply Kd.R_drew)); exact Kd.R_mono (Kd.R_far (p := ⟨gb269, 4, none⟩) (Kd.R_far (p := ⟨gb269, 3, none⟩) (Kd.R_far (p := ⟨gb269, 2, none⟩) (Kd.R_far (p := ⟨gb269, 1, none⟩) (Kd.R_far (p := ⟨gb269, 0, none⟩) (Kd.R_types HO_8.out BK269.out (by decide)) (fun _ hk => hk.2) (.int .i64 t201)) (fun _ hk => hk.2) (.int .i64 t202)) (fun _ hk => hk.2) (.int .i64 t203)) (fun _ hk => hk.2) (.int .i64 t204)) (fun _ hk => hk.2) (.int .i64 t205)) (fun _ hk => hk.1)⟩, ⟨by (with_reducible repeat (first | apply Kd.R_alloc | apply Kd.R_drewN | apply Kd.R_drew)); exact Kd.R_mono (Kd.R_far (p := ⟨gb269, 4, none⟩) (Kd.R_far (p := ⟨gb269, 3, none⟩) (Kd.R_far (p := ⟨gb269, 2, none⟩) (Kd.R_far (p := ⟨gb269, 1, none⟩) (Kd.R_far (p := ⟨gb269, 0, none⟩) (Kd.R_types HO268.out BK269.out (by decide)) (fun _ hk => hk.2) (.int .i64 t201)) (fun _ hk => hk.2) (.int .i64 t202)) (fun _ hk => hk.2) (.int .i64 t203)) (fun _ hk => hk.2) (.int .i64 t204)) (fun _ hk => hk.2) (.int .i64 t205)) (fun _ hk => hk.1)⟩, ⟨by (with_reducible repeat (first | refine blk_drewN ?_ _ | refine blk_drew ?_ | refine blk_alloc ?_ _)); refine blk_far ?_ NB199_269.out _; (with_reducible repeat (first | refine blk_drewN ?_ _ | refine blk_drew ?_ | refine blk_alloc ?_ _)); refine blk_far ?_ NB199_269.out _; (with_reducible repeat (first | refine blk_drewN ?_ _ | refine blk_drew ?_ | refine blk_alloc ?_ _)); refine blk_far ?_ NB199_269.out _; (with_reducible repeat (first | refine blk_drewN ?_ _ | refine blk_drew ?_ | refine blk_alloc ?_ _)); refine blk_far ?_ NB199_269.out _; (with_reducible repeat (first | refine blk_drewN ?_ _ | refine blk_drew ?_ | refine blk_alloc ?_ _)); refine blk_far ?_ NB199_269.out _; (with_reducible repeat (first | refine blk_drewN ?_ _ | refine blk_drew ?_ | refine blk_alloc ?_ _)); exact BK199.out⟩, ⟨by (with_reducible repeat (first | refine blk_drewN ?_ _ | refine blk_drew ?_ | refine blk_alloc ?_ _)); refine blk_far ?_ NB200_269.out _; (with_reducible repeat (first | refine blk_drewN ?_ _ | refine blk_drew ?_ | refine blk_alloc ?_ _)); refine blk_far ?_ NB200_269.out _; (with_reducible repeat (first | refine blk_drewN ?_ _ | refine blk_drew ?_ | refine blk_alloc ?_ _)); refine blk_far ?_ NB200_269.out _; (with_reducible repeat (first | refine blk_drewN ?_ _ | refine blk_drew ?_ | refine blk_alloc ?_ _)); refine blk_far ?_ NB200_269.out _; (with_reducible repeat (first | refine blk_drewN ?_ _ | refine blk_drew ?_ | refine blk_alloc ?_ _)); refine blk_far ?_ NB200_269.out _; (with_reducible repeat (first | refine blk_drewN ?_ _ | refine blk_drew ?_ | refine blk_alloc ?_ _)); exact BK200.out⟩, ⟨by (with_reducible repeat (first | refine blk_drewN ?_ _ | refine blk_drew ?_ | refine blk_alloc ?_ _)); refine blk_far ?_ NB209_269.out _; (with_reducible repeat (first | refine blk_drewN ?_ _ | refine blk_drew ?_ | refine blk_alloc ?_ _)); refine blk_far ?_ NB209_269.out _; (with_reducible repeat (first | refine blk_drewN ?_ _ | refine blk_drew ?_ | refine blk_alloc ?_ _)); refine blk_far ?_ NB209_269.out _; (with_reducible repeat (first | refine blk_drewN ?_ _ | refine blk_drew ?_ | refine blk_alloc ?_ _)); refine blk_far ?_ NB209_269.out _; (with_reducible repeat (first | refine blk_drewN ?_ _ | refine blk_drew ?_ | refine blk_alloc ?_ _)); refine blk_far ?_ NB209_269.out _; (with_reducible repeat (first | refine blk_drewN ?_ _ | refine blk_drew ?_ | refine blk_alloc ?_ _)); exact BK209.out⟩, ⟨by (with_reducible repeat (first | refine blk_drewN ?_ _ | refine blk_drew ?_ | refine blk_alloc ?_ _)); refine blk_put (cs := #[.int .i64 t201, .int .i64 t202, .int .i64 t203, .int .i64 t204, .int .i64 0]) ?_ 4 _ rfl; (with_reducible repeat (first | refine blk_drewN ?_ _ | refine blk_drew ?_ | refine blk_alloc ?_ _)); refine blk_put (cs := #[.int .i64 t201, .int .i64 t202, .int .i64 t203, .int .i64 0, .int .i64 0]) ?_ 3 _ rfl; (with_reducible repeat (first | refine blk_drewN ?_ _ | refine blk_drew ?_ | refine blk_alloc ?_ _)); refine blk_put (cs := #[.int .i64 t201, .int .i64 t202, .int .i64 0, .int .i64 0, .int .i64 0]) ?_ 2 _ rfl; (with_reducible repeat (first | refine blk_drewN ?_ _ | refine blk_drew ?_ | refine blk_alloc ?_ _)); refine blk_put (cs := #[.int .i64 t201, .int .i64 0, .int .i64 0, .int .i64 0, .int .i64 0]) ?_ 1 _ rfl; (with_reducible repeat (first | refine blk_drewN ?_ _ | refine blk_drew ?_ | refine blk_alloc ?_ _)); refine blk_put (cs := #[.int .i64 0, .int .i64 0, .int .i64 0, .int .i64 0, .int .i64 0]) ?_ 0 _ rfl; (with_reducible repeat (first | refine blk_drewN ?_ _ | refine blk_drew ?_ | refine blk_alloc ?_ _)); exact BK269.out⟩, ⟨by repeat (first | (with_reducible first | exact HB.out | apply below_alloc | apply pw_below_drewN | apply below_drew1 | refine below_set ?_ GE199.out | refine below_set ?_ GE200.out | refine below_set ?_ GE209.out | refine below_set ?_ GE269.out) | exact HB.out)⟩⟩
      case rest => as_aux_lemma =>
       clear HC147
       try clear c1
       try clear q1
       try clear p2
       try clear c4
       try clear p6
       try clear c15
       try clear c16
       try clear c17
       try clear c18
       try clear c19
       try clear q19
       try clear c43
       try clear p64
       try clear c157
       try clear c157b0
       try clear c157b1
       try clear c158
       try clear c159
       try clear c160
       try clear c162
       try clear c162b0
       try clear c162b1
       try clear c163
       try clear c164
       try clear c165
       try clear c167
       try clear c167b0
       try clear c167b1
       try clear c168
       try clear c169
       try clear c170
       try clear c172
       try clear c172b0
       try clear c172b1
       try clear c174
       try clear c175
       try clear c176
       try clear c178
       try clear c179
       try clear c181
       try clear c181b0
       try clear c181b1
       try clear c182
       try clear c182b0
       try clear c182b1
       try clear c182b2
       try clear c184
       try clear c184b0
       try clear c184b1
       try clear c185
       try clear c185b0
       try clear c185b1
       try clear c188
       try clear c188b0
       try clear c188b1
       try clear c189
       try clear c189b0
       try clear c189b1
       try clear c190
       try clear q193
       try clear c194
       try clear q194
       try clear hcz161_0
       try clear hcz161_1
       try clear hcz161_2
       try clear hcz161_3
       try clear hcz161_4
       try clear hcz166_0
       try clear hcz166_1
       try clear hcz166_2
       try clear hcz166_3
       try clear hcz166_4
       try clear hcz171_0
       try clear hcz171_1
       try clear hcz171_2
       try clear hcz171_3
       try clear hcz171_4
       try clear hcz177_0
       try clear hcz177_1
       try clear hcz177_2
       try clear hcz177_3
       try clear hcz177_4
       try clear hcz180_0
       try clear hcz180_1
       try clear hcz180_2
       try clear hcz180_3
       try clear hcz180_4
       try clear hfz161_0
       try clear hfz161_1
       try clear hfz161_2
       try clear hfz161_3
       try clear hfz161_4
       try clear hfz166_0
       try clear hfz166_1
       try clear hfz166_2
       try clear hfz166_3
       try clear hfz166_4
       try clear hfz171_0
       try clear hfz171_1
       try clear hfz171_2
       try clear hfz171_3
       try clear hfz171_4
       try clear hfz177_0
       try clear hfz177_1
       try clear hfz177_2
       try clear hfz177_3
       try clear hfz177_4
       try clear hfz180_0
       try clear hfz180_1
       try clear hfz180_2
       try clear hfz180_3
       try clear hfz180_4
       try clear q0194
       try clear q193
       try clear q194
       obtain ⟨kq, x35_146, x270000_146, x270001_146, x270003_146, x270004_146, HA, HJ146, HO_8, HO_35, BK199, BK200, BK209, BK269, HB⟩ := hcut
       rcases kq with _ | kj146
       ·exact absurd HA.out (by simp [lF.j9])
       have H := HA.out
       clear HA
       simp only [lF.j9] at H
       replace H := Option.bind_eq_some_iff.mp H
       obtain ⟨⟨t284, t287⟩, A1970, H⟩ := H
       replace H : (if t287 = 0 then (lF.l7 kj146 a2 t206 x27_5 x33_8 t284 0 t201 t202 t203 t204 t205) else (some false)) = some r := H
       have A197 := Aside0.mk A1970
       clear A1970
       by_cases c198 : t287 = 0
       ·rw [if_pos c198] at H
        have c198b0 : (t287 == 0) = true := beq_iff_eq.mpr c198
        have c198b1 : (t287 != 0) = false := bne_eq_false_iff_eq.mpr c198
        clear c198
        have H' := Aside0.mk H
        clear H
        have hnb199 := NB269_199.out
        have hnc199 := NB199_269.out
        have hnb200 := NB269_200.out
        have hnc200 := NB200_269.out
        have hnb201 := NB269_209.out
        have hnc201 := NB209_269.out
        have hcz202_0 : wc.cell? ⟨gb269, 0, none⟩ = some (.int .i64 x270000_146) := (blk_cell BK269.out 0).trans rfl
        have hcz202_1 : wc.cell? ⟨gb269, 1, none⟩ = some (.int .i64 x270001_146) := (blk_cell BK269.out 1).trans rfl
        have hcz202_2 : wc.cell? ⟨gb269, 2, none⟩ = some (.int .i64 t203) := (blk_cell BK269.out 2).trans rfl
        have hcz202_3 : wc.cell? ⟨gb269, 3, none⟩ = some (.int .i64 x270003_146) := (blk_cell BK269.out 3).trans rfl
        have hcz202_4 : wc.cell? ⟨gb269, 4, none⟩ = some (.int .i64 x270004_146) := (blk_cell BK269.out 4).trans rfl
        have hfz202_0 := blk_frozen BK269.out 0
        have hfz202_1 := blk_frozen BK269.out 1
        have hfz202_2 := blk_frozen BK269.out 2
        have hfz202_3 := blk_frozen BK269.out 3
        have hfz202_4 := blk_frozen BK269.out 4
        obtain ⟨Ao203, co203, eo203⟩ := Kd.R_slice HO_35.out
        subst eo203
        go_wp2_with (first | ((with_reducible refine gate_callee (f := 31) rfl ?_); refine goesL_ (some 293) rfl rfl Tryd.func31 (by kernel_rfl) rfl #[.agg #[.int .i64 x270000_146, .int .i64 x270001_146, .int .i64 t203, .int .i64 x270003_146, .int .i64 x270004_146], .slice Ao203 x35_146.length co203] rfl (by (try simp only [List.map_toArray, List.map_cons, List.map_nil]); first | done | rfl | (simp only [List.length_drop, List.length_take]; rfl)) ?_; (with_reducible refine (fork_Loads.calls x270000_146 x270001_146 t203 x270003_146 x270004_146 _ _ x35_146 t284 t287 _ ?side3 ?side1 ?side2 A197.out).mono ?_); (case side1 => repeat (first | exact (Kd.R_reads' HO_35.out).2.2 | (with_reducible refine Kd.C_alloc ?_ _) | (with_reducible refine Kd.C_drewN ?_ _) | (with_reducible refine Kd.C_drew ?_))); (case side2 => exact (Kd.R_reads' HO_35.out).2.1); (case side3 => exact Hand.TabW.below HTAB.out (by repeat (first | (with_reducible first | exact HB.out | apply below_alloc | apply pw_below_drewN | apply below_drew1 | refine below_set ?_ GE199.out | refine below_set ?_ GE200.out | refine below_set ?_ GE209.out | refine below_set ?_ GE269.out) | exact HB.out))); rintro e w204 ⟨v285, rfl, ho0, hb⟩; refine ⟨_, rfl, ?_⟩; have n0_ := Aside0.mk (Kd.R_below (R_ HO_8) hb); have n1_ := Aside0.mk (Kd.R_below (R_ HO_35) hb); have n2_ := Aside0.mk (Kd.R_lower ho0 (below_size (by repeat (first | (with_reducible first | exact HB.out | apply below_alloc | apply pw_below_drewN | apply below_drew1 | refine below_set ?_ GE199.out | refine below_set ?_ GE200.out | refine below_set ?_ GE209.out | refine below_set ?_ GE269.out) | exact HB.out)))); have n3_ := Aside0.mk (blk_below (g := gb199) (o := .cells #[.int .u8 a0_0, .int .u8 a0_1, .int .u8 a0_2, .int .u8 a0_3, .int .u8 a0_4, .slice A0_5 l0_5.length c0_5] 66 (0, 0)) (b_ BK199) hb); have n4_ := Aside0.mk (blk_below (g := gb200) (o := .cells #[.int .u8 a1_0, .int .u8 a1_1, .int .u8 a1_2, .int .u8 a1_3, .int .u8 a1_4, .int .u8 a1_5] 67 (0, 0)) (b_ BK200) hb); have n5_ := Aside0.mk (blk_below (g := gb209) (o := .cells #[.int .i64 t201, .int .i64 t202, .int .i64 t203, .int .i64 t204, .int .i64 t205] 23 (0, 0)) (b_ BK209) hb); have n6_ := Aside0.mk (blk_below (g := gb269) (o := .cells #[.int .i64 x270000_146, .int .i64 x270001_146, .int .i64 t203, .int .i64 x270003_146, .int .i64 x270004_146] 23 (0, 0)) (b_ BK269) hb); have n7_ := Aside0.mk (below_step (by repeat (first | (with_reducible first | exact HB.out | apply below_alloc | apply pw_below_drewN | apply below_drew1 | refine below_set ?_ GE199.out | refine below_set ?_ GE200.out | refine below_set ?_ GE209.out | refine below_set ?_ GE269.out) | exact HB.out)) hb); clear HO_8; clear HO_35; clear BK199; clear BK200; clear BK209; clear BK269; clear HB; have HO_8 := n0_; have HO_35 := n1_; have HO286 := n2_; have BK199 := n3_; have BK200 := n4_; have BK209 := n5_; have BK269 := n6_; have HB := n7_; clear n0_ n1_ n2_ n3_ n4_ n5_ n6_ n7_; (try clear hb); (try clear hb2); (try clear hk); (try clear hi); (try clear ho0)))
        go_loopg [39] kj146 (fun kq v39 w' => ∃ (x39_10 : Int), v39 = .int .i64 x39_10 ∧ Aside0 (lF.l7 kq a2 t206 x27_5 x33_8 t284 x39_10 t201 t202 t203 t204 t205 = some r) ∧ Aside0 (kq ≤ kj146) ∧ Aside0 (Kd.R k74 74 w' w.heap.size (fun _ => True) (.slice Ao21 t206.length co21) t206) ∧ Aside0 (Kd.R (Kd.int .i64) 3 w' w.heap.size (fun _ => True) v285 t284) ∧ Aside0 (w'.heap[gb199]? = some (.cells #[.int .u8 a0_0, .int .u8 a0_1, .int .u8 a0_2, .int .u8 a0_3, .int .u8 a0_4, (.slice A0_5 l0_5.length c0_5)] 66 (0, 0))) ∧ Aside0 (w'.heap[gb200]? = some (.cells #[.int .u8 a1_0, .int .u8 a1_1, .int .u8 a1_2, .int .u8 a1_3, .int .u8 a1_4, .int .u8 a1_5] 67 (0, 0))) ∧ Aside0 (w'.heap[gb209]? = some (.cells #[.int .i64 t201, .int .i64 t202, .int .i64 t203, .int .i64 t204, .int .i64 t205] 23 (0, 0))) ∧ Aside0 (w'.heap[gb269]? = some (.cells #[.int .i64 x270000_146, .int .i64 x270001_146, .int .i64 t203, .int .i64 x270003_146, .int .i64 x270004_146] 23 (0, 0))) ∧ Aside0 (Below w.heap.size w w'))
        case atStart => exact ⟨(0), (by first | rfl | (simp; done) | (simp [*]; done)), H', ⟨Nat.le_refl _⟩, ⟨Kd.R_mono (R_ HO_8) (fun _ hk => trivial)⟩, ⟨R_ HO286⟩, ⟨b_ BK199⟩, ⟨b_ BK200⟩, ⟨b_ BK209⟩, ⟨b_ BK269⟩, ⟨by repeat (first | (with_reducible first | exact HB.out | apply below_alloc | apply pw_below_drewN | apply below_drew1 | refine below_set ?_ GE199.out | refine below_set ?_ GE200.out | refine below_set ?_ GE209.out | refine below_set ?_ GE269.out) | exact HB.out)⟩⟩
        case round => as_aux_lemma =>
         clear H'
         try clear c1
         try clear q1
         try clear c2
         try clear p2
         try clear c3
         try clear c4
         try clear p6
         try clear c15
         try clear c16
         try clear c17
         try clear c18
         try clear c19
         try clear q19
         try clear c20
         try clear c31
         try clear c43
         try clear p64
         try clear c157
         try clear c157b0
         try clear c157b1
         try clear c158
         try clear c159
         try clear c160
         try clear c162
         try clear c162b0
         try clear c162b1
         try clear c163
         try clear c164
         try clear c165
         try clear c167
         try clear c167b0
         try clear c167b1
         try clear c168
         try clear c169
         try clear c170
         try clear c172
         try clear c172b0
         try clear c172b1
         try clear c174
         try clear c175
         try clear c176
         try clear c178
         try clear c179
         try clear c181
         try clear c181b0
         try clear c181b1
         try clear c182
         try clear c182b0
         try clear c182b1
         try clear c182b2
         try clear c184
         try clear c184b0
         try clear c184b1
         try clear c185
         try clear c185b0
         try clear c185b1
         try clear c188
         try clear c188b0
         try clear c188b1
         try clear c189
         try clear c189b0
         try clear c189b1
         try clear c190
         try clear q193
         try clear c194
         try clear q194
         try clear c198
         try clear c198b0
         try clear c198b1
         try clear c199
         try clear c200
         try clear c201
         try clear hcz161_0
         try clear hcz161_1
         try clear hcz161_2
         try clear hcz161_3
         try clear hcz161_4
         try clear hcz166_0
         try clear hcz166_1
         try clear hcz166_2
         try clear hcz166_3
         try clear hcz166_4
         try clear hcz171_0
         try clear hcz171_1
         try clear hcz171_2
         try clear hcz171_3
         try clear hcz171_4
         try clear hcz177_0
         try clear hcz177_1
         try clear hcz177_2
         try clear hcz177_3
         try clear hcz177_4
         try clear hcz180_0
         try clear hcz180_1
         try clear hcz180_2
         try clear hcz180_3
         try clear hcz180_4
         try clear hcz202_0
         try clear hcz202_1
         try clear hcz202_2
         try clear hcz202_3
         try clear hcz202_4
         try clear hfz161_0
         try clear hfz161_1
         try clear hfz161_2
         try clear hfz161_3
         try clear hfz161_4
         try clear hfz166_0
         try clear hfz166_1
         try clear hfz166_2
         try clear hfz166_3
         try clear hfz166_4
         try clear hfz171_0
         try clear hfz171_1
         try clear hfz171_2
         try clear hfz171_3
         try clear hfz171_4
         try clear hfz177_0
         try clear hfz177_1
         try clear hfz177_2
         try clear hfz177_3
         try clear hfz177_4
         try clear hfz180_0
         try clear hfz180_1
         try clear hfz180_2
         try clear hfz180_3
         try clear hfz180_4
         try clear hfz202_0
         try clear hfz202_1
         try clear hfz202_2
         try clear hfz202_3
         try clear hfz202_4
         try clear p2
         try clear p6
         try clear p64
         try clear q0194
         try clear q1
         try clear q19
         try clear q193
         try clear q194
         obtain ⟨x39_10, rfl, HA, HK10, HO_8, HO_37, BK199, BK200, BK209, BK269, HB⟩ := hrel
         rcases gk with _ | k10
         ·exact absurd HA.out (by simp [lF.l7])
         have H := HA.out
         clear HA
         simp only [lF.l7] at H
         by_cases c205 : x39_10 < (t284.length : Int)
         ·rw [if_pos c205] at H
          have c205b0 : decide (x39_10 < (t284.length : Int)) = true := decide_eq_true c205
          clear c205
          by_cases c206 : 0 ≤ x39_10
          ·rw [if_pos c206] at H
           have c206b0 : decide (0 ≤ x39_10) = true := decide_eq_true c206
           clear c206
           by_cases c207 : (rd t284 x39_10) < 0
           ·rw [if_pos c207] at H
            have c207b0 : decide ((rd t284 x39_10) < 0) = true := decide_eq_true c207
            clear c207
            obtain rfl := Option.some.inj H
            obtain ⟨Ao208, co208, eo208⟩ := Kd.R_slice HO_37.out
            subst eo208
            have p288 : 0 ≤ (x39_10 : Int) := of_decide_eq_true (by first | (with_reducible assumption) | assumption)
            have q288 : x39_10 < (t284.length : Int) := of_decide_eq_true (by first | (with_reducible assumption) | assumption)
            obtain ⟨ad288, e288, hx288_0⟩ := Kd.at_int (Kd.R_reads' HO_37.out).2.2 x39_10 p288 q288
            cases e288
            replace p288 := eq_true p288
            replace q288 := eq_true q288
            go_wp2
            go_ret
            exact ⟨by first | rfl | (simp [errW_none, errW_some] <;> rfl) | (simp [*, errW_none, errW_some] <;> rfl), by repeat (first | (with_reducible first | exact HB.out | apply below_alloc | apply pw_below_drewN | apply below_drew1 | refine below_set ?_ GE199.out | refine below_set ?_ GE200.out | refine below_set ?_ GE209.out | refine below_set ?_ GE269.out) | exact HB.out)⟩
           rw [if_neg c207] at H
           have c207b0 : decide ((rd t284 x39_10) < 0) = false := decide_eq_false c207
           clear c207
           by_cases c209 : (rd t284 x39_10) ≥ x27_5
           ·rw [if_pos c209] at H
            have c209b0 : decide (x27_5 ≤ (rd t284 x39_10)) = true := decide_eq_true c209
            clear c209
            obtain rfl := Option.some.inj H
            obtain ⟨Ao210, co210, eo210⟩ := Kd.R_slice HO_37.out
            subst eo210
            have p288 : 0 ≤ (x39_10 : Int) := of_decide_eq_true (by first | (with_reducible assumption) | assumption)
            have q288 : x39_10 < (t284.length : Int) := of_decide_eq_true (by first | (with_reducible assumption) | assumption)
            obtain ⟨ad288, e288, hx288_0⟩ := Kd.at_int (Kd.R_reads' HO_37.out).2.2 x39_10 p288 q288
            cases e288
            replace p288 := eq_true p288
            replace q288 := eq_true q288
            have p289 : 0 ≤ (x39_10 : Int) := of_decide_eq_true (by first | (with_reducible assumption) | assumption)
            have q289 : x39_10 < (t284.length : Int) := of_decide_eq_true (by first | (with_reducible assumption) | assumption)
            obtain ⟨ad289, e289, hx289_0⟩ := Kd.at_int (Kd.R_reads' HO_37.out).2.2 x39_10 p289 q289
            obtain rfl : ad288 = ad289 := (by injection e289)
            replace p289 := eq_true p289
            replace q289 := eq_true q289
            go_wp2
            go_ret
            exact ⟨by first | rfl | (simp [errW_none, errW_some] <;> rfl) | (simp [*, errW_none, errW_some] <;> rfl), by repeat (first | (with_reducible first | exact HB.out | apply below_alloc | apply pw_below_drewN | apply below_drew1 | refine below_set ?_ GE199.out | refine below_set ?_ GE200.out | refine below_set ?_ GE209.out | refine below_set ?_ GE269.out) | exact HB.out)⟩
           rw [if_neg c209] at H
           have c209b0 : decide (x27_5 ≤ (rd t284 x39_10)) = false := decide_eq_false c209
           clear c209
           have H' := Aside0.mk H
           clear H
           obtain ⟨Ao211, co211, eo211⟩ := Kd.R_slice HO_37.out
           subst eo211
           have p288 : 0 ≤ (x39_10 : Int) := of_decide_eq_true (by first | (with_reducible assumption) | assumption)
           have q288 : x39_10 < (t284.length : Int) := of_decide_eq_true (by first | (with_reducible assumption) | assumption)
           obtain ⟨ad288, e288, hx288_0⟩ := Kd.at_int (Kd.R_reads' HO_37.out).2.2 x39_10 p288 q288
           cases e288
           replace p288 := eq_true p288
           replace q288 := eq_true q288
           have p289 : 0 ≤ (x39_10 : Int) := of_decide_eq_true (by first | (with_reducible assumption) | assumption)
           have q289 : x39_10 < (t284.length : Int) := of_decide_eq_true (by first | (with_reducible assumption) | assumption)
           obtain ⟨ad289, e289, hx289_0⟩ := Kd.at_int (Kd.R_reads' HO_37.out).2.2 x39_10 p289 q289
           obtain rfl : ad288 = ad289 := (by injection e289)
           replace p289 := eq_true p289
           replace q289 := eq_true q289
           go_wp2
           go_roundg k10
           case measure => have := HJ8.out; have := HK2.out; have := HK3.out; have := HK4.out; have := HK5.out; have := HJ117.out; have := HK7.out; have := HK8.out; have := HJ146.out; have := HK10.out; omega
           case rel => exact ⟨(wrap64 (x39_10 + 1)), (by first | rfl | (simp; done) | (simp [*]; done)), H', ⟨by have := HJ8.out; have := HK2.out; have := HK3.out; have := HK4.out; have := HK5.out; have := HJ117.out; have := HK7.out; have := HK8.out; have := HJ146.out; have := HK10.out; omega⟩, ⟨R_ HO_8⟩, ⟨R_ HO_37⟩, ⟨b_ BK199⟩, ⟨b_ BK200⟩, ⟨b_ BK209⟩, ⟨b_ BK269⟩, ⟨by repeat (first | (with_reducible first | exact HB.out | apply below_alloc | apply pw_below_drewN | apply below_drew1 | refine below_set ?_ GE199.out | refine below_set ?_ GE200.out | refine below_set ?_ GE209.out | refine below_set ?_ GE269.out) | exact HB.out)⟩⟩
          rw [if_neg c206] at H
          exact absurd H (by simp)
         rw [if_neg c205] at H
         have c205b0 : decide (x39_10 < (t284.length : Int)) = false := decide_eq_false c205
         clear c205
         have H' := Aside0.mk H
         clear H
         obtain ⟨Ao212, co212, eo212⟩ := Kd.R_slice HO_37.out
         subst eo212
         go_wp2
         go_roundg k10
         case measure => have := HJ8.out; have := HK2.out; have := HK3.out; have := HK4.out; have := HK5.out; have := HJ117.out; have := HK7.out; have := HK8.out; have := HJ146.out; have := HK10.out; omega
         case rel => exact ⟨(wrap64 (x33_8 + 1)), (by first | rfl | (simp; done) | (simp [*]; done)), H', ⟨by have := HJ8.out; have := HK2.out; have := HK3.out; have := HK4.out; have := HK5.out; have := HJ117.out; have := HK7.out; have := HK8.out; have := HJ146.out; have := HK10.out; omega⟩, ⟨R_ HO_8⟩, ⟨b_ BK199⟩, ⟨b_ BK200⟩, ⟨b_ BK209⟩, ⟨by repeat (first | (with_reducible first | exact HB.out | apply below_alloc | apply pw_below_drewN | apply below_drew1 | refine below_set ?_ GE199.out | refine below_set ?_ GE200.out | refine below_set ?_ GE209.out | refine below_set ?_ GE269.out) | exact HB.out)⟩⟩
       rw [if_neg c198] at H
       have c198b0 : (t287 == 0) = false := beq_eq_false_iff_ne.mpr c198
       have c198b1 : (t287 != 0) = true := bne_iff_ne.mpr c198
       obtain rfl := Option.some.inj H
       have hnb213 := NB269_199.out
       have hnc213 := NB199_269.out
       have hnb214 := NB269_200.out
       have hnc214 := NB200_269.out
       have hnb215 := NB269_209.out
       have hnc215 := NB209_269.out
       have hcz216_0 : wc.cell? ⟨gb269, 0, none⟩ = some (.int .i64 x270000_146) := (blk_cell BK269.out 0).trans rfl
       have hcz216_1 : wc.cell? ⟨gb269, 1, none⟩ = some (.int .i64 x270001_146) := (blk_cell BK269.out 1).trans rfl
       have hcz216_2 : wc.cell? ⟨gb269, 2, none⟩ = some (.int .i64 t203) := (blk_cell BK269.out 2).trans rfl
       have hcz216_3 : wc.cell? ⟨gb269, 3, none⟩ = some (.int .i64 x270003_146) := (blk_cell BK269.out 3).trans rfl
       have hcz216_4 : wc.cell? ⟨gb269, 4, none⟩ = some (.int .i64 x270004_146) := (blk_cell BK269.out 4).trans rfl
       have hfz216_0 := blk_frozen BK269.out 0
       have hfz216_1 := blk_frozen BK269.out 1
       have hfz216_2 := blk_frozen BK269.out 2
       have hfz216_3 := blk_frozen BK269.out 3
       have hfz216_4 := blk_frozen BK269.out 4
       obtain ⟨Ao217, co217, eo217⟩ := Kd.R_slice HO_35.out
       subst eo217
       go_wp2_with (first | ((with_reducible refine gate_callee (f := 31) rfl ?_); refine goesL_ (some 293) rfl rfl Tryd.func31 (by kernel_rfl) rfl #[.agg #[.int .i64 x270000_146, .int .i64 x270001_146, .int .i64 t203, .int .i64 x270003_146, .int .i64 x270004_146], .slice Ao217 x35_146.length co217] rfl (by (try simp only [List.map_toArray, List.map_cons, List.map_nil]); first | done | rfl | (simp only [List.length_drop, List.length_take]; rfl)) ?_; (with_reducible refine (fork_Loads.calls x270000_146 x270001_146 t203 x270003_146 x270004_146 _ _ x35_146 t284 t287 _ ?side3 ?side1 ?side2 A197.out).mono ?_); (case side1 => repeat (first | exact (Kd.R_reads' HO_35.out).2.2 | (with_reducible refine Kd.C_alloc ?_ _) | (with_reducible refine Kd.C_drewN ?_ _) | (with_reducible refine Kd.C_drew ?_))); (case side2 => exact (Kd.R_reads' HO_35.out).2.1); (case side3 => exact Hand.TabW.below HTAB.out (by repeat (first | (with_reducible first | exact HB.out | apply below_alloc | apply pw_below_drewN | apply below_drew1 | refine below_set ?_ GE199.out | refine below_set ?_ GE200.out | refine below_set ?_ GE209.out | refine below_set ?_ GE269.out) | exact HB.out))); rintro e w218 ⟨v285, rfl, ho0, hb⟩; refine ⟨_, rfl, ?_⟩; have n0_ := Aside0.mk (Kd.R_below (R_ HO_8) hb); have n1_ := Aside0.mk (Kd.R_below (R_ HO_35) hb); have n2_ := Aside0.mk (Kd.R_lower ho0 (below_size (by repeat (first | (with_reducible first | exact HB.out | apply below_alloc | apply pw_below_drewN | apply below_drew1 | refine below_set ?_ GE199.out | refine below_set ?_ GE200.out | refine below_set ?_ GE209.out | refine below_set ?_ GE269.out) | exact HB.out)))); have n3_ := Aside0.mk (blk_below (g := gb199) (o := .cells #[.int .u8 a0_0, .int .u8 a0_1, .int .u8 a0_2, .int .u8 a0_3, .int .u8 a0_4, .slice A0_5 l0_5.length c0_5] 66 (0, 0)) (b_ BK199) hb); have n4_ := Aside0.mk (blk_below (g := gb200) (o := .cells #[.int .u8 a1_0, .int .u8 a1_1, .int .u8 a1_2, .int .u8 a1_3, .int .u8 a1_4, .int .u8 a1_5] 67 (0, 0)) (b_ BK200) hb); have n5_ := Aside0.mk (blk_below (g := gb209) (o := .cells #[.int .i64 t201, .int .i64 t202, .int .i64 t203, .int .i64 t204, .int .i64 t205] 23 (0, 0)) (b_ BK209) hb); have n6_ := Aside0.mk (blk_below (g := gb269) (o := .cells #[.int .i64 x270000_146, .int .i64 x270001_146, .int .i64 t203, .int .i64 x270003_146, .int .i64 x270004_146] 23 (0, 0)) (b_ BK269) hb); have n7_ := Aside0.mk (below_step (by repeat (first | (with_reducible first | exact HB.out | apply below_alloc | apply pw_below_drewN | apply below_drew1 | refine below_set ?_ GE199.out | refine below_set ?_ GE200.out | refine below_set ?_ GE209.out | refine below_set ?_ GE269.out) | exact HB.out)) hb); clear HO_8; clear HO_35; clear BK199; clear BK200; clear BK209; clear BK269; clear HB; have HO_8 := n0_; have HO_35 := n1_; have HO286 := n2_; have BK199 := n3_; have BK200 := n4_; have BK209 := n5_; have BK269 := n6_; have HB := n7_; clear n0_ n1_ n2_ n3_ n4_ n5_ n6_ n7_; (try clear hb); (try clear hb2); (try clear hk); (try clear hi); (try clear ho0)))
       go_ret
       exact ⟨by first | rfl | (simp [errW_none, errW_some] <;> rfl) | (simp [*, errW_none, errW_some] <;> rfl), by repeat (first | (with_reducible first | exact HB.out | apply below_alloc | apply pw_below_drewN | apply below_drew1 | refine below_set ?_ GE199.out | refine below_set ?_ GE200.out | refine below_set ?_ GE209.out | refine below_set ?_ GE269.out) | exact HB.out)⟩
     rw [if_neg c145] at H
     have c145b0 : decide (x33_8 < 5) = false := decide_eq_false c145
     clear c145
     replace H := Option.bind_eq_some_iff.mp H
     obtain ⟨_, A2190, H⟩ := H
     replace H : (some true) = some r := H
     have A219 := Aside0.mk A2190
     clear A2190
     obtain rfl := Option.some.inj H
     go_wp2_with (first | ((with_reducible refine gate_callee (f := 13) rfl ?_); refine goesL_ (some 317) rfl rfl Tryd.func13 (by kernel_rfl) rfl #[] rfl (by (try simp only [List.map_toArray, List.map_cons, List.map_nil]); first | done | rfl | (simp only [List.length_drop, List.length_take]; rfl)) ?_; (with_reducible refine (knownC.calls   _ ?side1 A219.out).mono ?_); (case side1 => exact Hand.TabW.below HTAB.out (by repeat (first | (with_reducible first | exact HB.out | apply below_alloc | apply pw_below_drewN | apply below_drew1 | refine below_set ?_ GE199.out | refine below_set ?_ GE200.out | refine below_set ?_ GE209.out) | exact HB.out))); rintro e w220 ⟨rfl, hb⟩; refine ⟨_, rfl, ?_⟩; have n0_ := Aside0.mk (Kd.R_below (R_ HO_8) hb); have n1_ := Aside0.mk (blk_below (g := gb199) (o := .cells #[.int .u8 a0_0, .int .u8 a0_1, .int .u8 a0_2, .int .u8 a0_3, .int .u8 a0_4, .slice A0_5 l0_5.length c0_5] 66 (0, 0)) (b_ BK199) hb); have n2_ := Aside0.mk (blk_below (g := gb200) (o := .cells #[.int .u8 a1_0, .int .u8 a1_1, .int .u8 a1_2, .int .u8 a1_3, .int .u8 a1_4, .int .u8 a1_5] 67 (0, 0)) (b_ BK200) hb); have n3_ := Aside0.mk (blk_below (g := gb209) (o := .cells #[.int .i64 t201, .int .i64 t202, .int .i64 t203, .int .i64 t204, .int .i64 t205] 23 (0, 0)) (b_ BK209) hb); have n4_ := Aside0.mk (below_step (by repeat (first | (with_reducible first | exact HB.out | apply below_alloc | apply pw_below_drewN | apply below_drew1 | refine below_set ?_ GE199.out | refine below_set ?_ GE200.out | refine below_set ?_ GE209.out) | exact HB.out)) hb); clear HO_8; clear BK199; clear BK200; clear BK209; clear HB; have HO_8 := n0_; have BK199 := n1_; have BK200 := n2_; have BK209 := n3_; have HB := n4_; clear n0_ n1_ n2_ n3_ n4_; (try clear hb); (try clear hb2); (try clear hk); (try clear hi)))
     go_ret
     exact ⟨by first | rfl | (simp [errW_none, errW_some] <;> rfl) | (simp [*, errW_none, errW_some] <;> rfl), by repeat (first | (with_reducible first | exact HB.out | apply below_alloc | apply pw_below_drewN | apply below_drew1 | refine below_set ?_ GE199.out | refine below_set ?_ GE200.out | refine below_set ?_ GE209.out) | exact HB.out)⟩
 rw [if_neg c117] at H
 have c117b0 : (t216 == 0) = false := beq_eq_false_iff_ne.mpr c117
 have c117b1 : (t216 != 0) = true := bne_iff_ne.mpr c117
 by_cases c221 : x19_4 = true
 ·subst c221
  have H1 : (some false) = some r := by rw [if_pos rfl] at H; exact H
  clear H
  have H := H1
  clear H1
  obtain rfl := Option.some.inj H
  obtain ⟨Ao222, co222, eo222⟩ := Kd.R_slice HO_9.out
  subst eo222
  go_wp2
  go_ret
  exact ⟨by first | rfl | (simp [errW_none, errW_some] <;> rfl) | (simp [*, errW_none, errW_some] <;> rfl), by repeat (first | (with_reducible first | exact HB.out | apply below_alloc | apply pw_below_drewN | apply below_drew1 | refine below_set ?_ GE199.out | refine below_set ?_ GE200.out | refine below_set ?_ GE209.out) | exact HB.out)⟩
 replace c221 := Bool.eq_false_iff.mpr c221
 subst c221
 have H1 : ((knownC.f).bind fun _ => (some true)) = some r := by rw [if_neg (show ¬ (false = true) by decide)] at H; exact H
 clear H
 have H := H1
 clear H1
 replace H := Option.bind_eq_some_iff.mp H
 obtain ⟨_, A2230, H⟩ := H
 replace H : (some true) = some r := H
 have A223 := Aside0.mk A2230
 clear A2230
 obtain rfl := Option.some.inj H
 obtain ⟨Ao224, co224, eo224⟩ := Kd.R_slice HO_9.out
 subst eo224
 go_wp2_with (first | (go_at_call 13; (with_reducible refine (knownC.calls   _ ?side1 A223.out).mono ?_); (case side1 => exact Hand.TabW.below HTAB.out (by repeat (first | (with_reducible first | exact HB.out | apply below_alloc | apply pw_below_drewN | apply below_drew1 | refine below_set ?_ GE199.out | refine below_set ?_ GE200.out | refine below_set ?_ GE209.out) | exact HB.out))); rintro e w225 ⟨rfl, hb⟩; have n0_ := Aside0.mk (Kd.R_below (R_ HO_8) hb); have n1_ := Aside0.mk (Kd.R_below (R_ HO_9) hb); have n2_ := Aside0.mk (Kd.R_below (R_ HO_11) hb); have n3_ := Aside0.mk (blk_below (g := gb199) (o := .cells #[.int .u8 a0_0, .int .u8 a0_1, .int .u8 a0_2, .int .u8 a0_3, .int .u8 a0_4, .slice A0_5 l0_5.length c0_5] 66 (0, 0)) (b_ BK199) hb); have n4_ := Aside0.mk (blk_below (g := gb200) (o := .cells #[.int .u8 a1_0, .int .u8 a1_1, .int .u8 a1_2, .int .u8 a1_3, .int .u8 a1_4, .int .u8 a1_5] 67 (0, 0)) (b_ BK200) hb); have n5_ := Aside0.mk (blk_below (g := gb209) (o := .cells #[.int .i64 t201, .int .i64 t202, .int .i64 t203, .int .i64 t204, .int .i64 t205] 23 (0, 0)) (b_ BK209) hb); have n6_ := Aside0.mk (below_step (by repeat (first | (with_reducible first | exact HB.out | apply below_alloc | apply pw_below_drewN | apply below_drew1 | refine below_set ?_ GE199.out | refine below_set ?_ GE200.out | refine below_set ?_ GE209.out) | exact HB.out)) hb); clear HO_8; clear HO_9; clear HO_11; clear BK199; clear BK200; clear BK209; clear HB; have HO_8 := n0_; have HO_9 := n1_; have HO_11 := n2_; have BK199 := n3_; have BK200 := n4_; have BK209 := n5_; have HB := n6_; clear n0_ n1_ n2_ n3_ n4_ n5_ n6_; (try clear hb); (try clear hb2); (try clear hk); (try clear hi)))
 go_ret
 exact ⟨by first | rfl | (simp [errW_none, errW_some] <;> rfl) | (simp [*, errW_none, errW_some] <;> rfl), by repeat (first | (with_reducible first | exact HB.out | apply below_alloc | apply pw_below_drewN | apply below_drew1 | refine below_set ?_ GE199.out | refine below_set ?_ GE200.out | refine below_set ?_ GE209.out) | exact HB.out)⟩
theorem lF.part1 : lF.cut1.1 := lF.cut2.2 lF.part2
theorem lF.calls (k : Nat) (a0_0 : Int) (a0_1 : Int) (a0_2 : Int) (a0_3 : Int) (a0_4 : Int) (A0_5 : Option Addr) (c0_5 : Nat) (l0_5 : List (S63)) (a1_0 : Int) (a1_1 : Int) (a1_2 : Int) (a1_3 : Int) (a1_4 : Int) (a1_5 : Int) (a2 : Int) (r : Bool) (w : World) (hT : Hand.TabW w) (hr0_5 : Kd.C k63 w A0_5 l0_5.length l0_5) (hc0_5 : l0_5.length ≤ c0_5) (h : lF.f k a0_0 a0_1 a0_2 a0_3 a0_4 l0_5 a1_0 a1_1 a1_2 a1_3 a1_4 a1_5 a2 = some r) : Calls Tryd.prog 9 #[.agg #[.int .u8 a0_0, .int .u8 a0_1, .int .u8 a0_2, .int .u8 a0_3, .int .u8 a0_4, .slice A0_5 l0_5.length c0_5], .agg #[.int .u8 a1_0, .int .u8 a1_1, .int .u8 a1_2, .int .u8 a1_3, .int .u8 a1_4, .int .u8 a1_5], .int .u8 a2] w fun e w' => e = .returned (.bool r) ∧ Below w.heap.size w w' :=
  lF.cut1.2 lF.part1 k a0_0 a0_1 a0_2 a0_3 a0_4 A0_5 c0_5 l0_5 a1_0 a1_1 a1_2 a1_3 a1_4 a1_5 a2 r w hT hr0_5 hc0_5 h
end Go.Proofs.YtbijamlgcebgeaaDoor.Q
-- part PG
namespace Go.Proofs.YtbijamlgcebgeaaDoor.Hand
open Go.RowKit Go.Shelf Go.Sort Go.Proofs.YtbijamlgcebgeaaDoorW.PrintWords Go.Proofs.YtbijamlgcebgeaaDoorW.PrintMore Go.Proofs.YtbijamlgcebgeaaDoor.Q
theorem few_calls {W : World} (y : S63) (A : Option Addr) (l : List S63) (c : Nat) (h0 : okB5 y = true) (h1 : ∀ x ∈ l, okB5 x = true) (hc : l.length ≤ c) (hr : Kd.C k63 W A l.length l) (a0 a1 a2 a3 a4 a5 : Int) (b0 : byteB a0 = true) (b1 : byteB a1 = true) (b2 : byteB a2 = true) (b3 : byteB a3 = true) (b4 : byteB a4 = true) (b5 : byteB a5 = true) (v : Int) (hv : byteB v = true) (hT : TabW W) :
    Calls Tryd.prog 9 #[.agg #[.int .u8 y.f0, .int .u8 y.f1, .int .u8 y.f2, .int .u8 y.f3, .int .u8 y.f4, .slice A l.length c], .agg #[.int .u8 a0, .int .u8 a1, .int .u8 a2, .int .u8 a3, .int .u8 a4, .int .u8 a5], .int .u8 v] W fun e W' => e = .returned (.bool true) ∧ Below W.heap.size W W' :=
  lF.calls 1000 y.f0 y.f1 y.f2 y.f3 y.f4 A c l a0 a1 a2 a3 a4 a5 v true W hT hr hc
    (few_pure h0 h1 (by
      intro z hz
      simp only [List.mem_cons, List.not_mem_nil, or_false] at hz
      rcases hz with rfl | rfl | rfl | rfl | rfl | rfl
      · exact (byteB_iff _).1 b0
      · exact (byteB_iff _).1 b1
      · exact (byteB_iff _).1 b2
      · exact (byteB_iff _).1 b3
      · exact (byteB_iff _).1 b4
      · exact (byteB_iff _).1 b5) ((byteB_iff _).1 hv))
end Go.Proofs.YtbijamlgcebgeaaDoor.Hand
-- part CC
namespace Go.Proofs.YtbijamlgcebgeaaDoor.forkFew
open Go.ChangeShapes Go.WideShapes Go.ChangeAt Go.RowKit Go.Proofs.YtbijamlgcebgeaaDoor.Hand
set_option maxRecDepth 100000 in
theorem contract (H : Type) (enc : TypeId × Value → H) (W : World) (base : Nat) (args : Array Value) (ds gs : List (DataW H)) (before : List MemPlace)
    (hval : ∀ (j : Nat) t v, Tryd.f9.params[j]? = some t → args[j]? = some v → Value.okWide Tryd.prog W .any base t v)
    (hW : DataW.Whole enc Tryd.prog Tryd.f9.params.toList Rows.forkFewSpec.vars false W args.toList ds gs before) (hL : laidMetH Tryd.prog Rows.forkFewRow.laid W) :
    Calls Tryd.prog 9 args W fun e W' => ∃ v, e = .returned v ∧ Rows.forkFewSpec.post enc Tryd.prog Tryd.f9 false true false false W args v W' := by
  have hT : TabW W := tabW_of hL
  have hW' := hW
  obtain ⟨p, q, hA0, hV, rfl, hfz, hnd⟩ := hW
  have hA : DataW.TrodAll enc Tryd.prog W 0 (fun _ => true) true Tryd.f9.params.toList args.toList ds p := hA0
  rw [Tryd.params9] at hA hval
  obtain ⟨v0, vs0, d0, ds0, p0, q0, hargs, rfl, rfl, k0, r0⟩ := trodAll_cons hA
  obtain ⟨v1, vs1, d1, ds1, p1, q1, rfl, rfl, rfl, k1, r1⟩ := trodAll_cons r0
  obtain ⟨v2, vs2, d2, ds2, p2, q2, rfl, rfl, rfl, k2, r2⟩ := trodAll_cons r1
  obtain ⟨rfl, rfl, rfl⟩ := trodAll_nil r2
  obtain rfl : args = #[v0, v1, v2] := by cases args; simp_all
  obtain ⟨rfl, rfl⟩ := trodVars_none hV
  have lt0 : ∀ x ∈ p0, x.block < W.heap.size := by obtain ⟨m, hm⟩ := k0; exact DataW.trod_lt m _ _ _ hm
  have lt1 : ∀ x ∈ p1, x.block < W.heap.size := by obtain ⟨m, hm⟩ := k1; exact DataW.trod_lt m _ _ _ hm
  have lt2 : ∀ x ∈ p2, x.block < W.heap.size := by obtain ⟨m, hm⟩ := k2; exact DataW.trod_lt m _ _ _ hm
  obtain ⟨y0, A0, l0, c0, rfl, ok0, all0, hc0, hr0⟩ := open66 (hval 0 66 v0 rfl rfl) k0
  obtain ⟨a1_0, a1_1, a1_2, a1_3, a1_4, a1_5, rfl, b1_0, b1_1, b1_2, b1_3, b1_4, b1_5⟩ := open67 (hval 1 67 v1 rfl rfl) k1
  have kk2 := k2
  obtain ⟨a2, rfl, hb2⟩ := openByte (hval 2 5 v2 rfl rfl) k2
  clear hA0 hval
  refine (few_calls y0 A0 l0 c0 ok0 all0 hc0 hr0 a1_0 a1_1 a1_2 a1_3 a1_4 a1_5 b1_0 b1_1 b1_2 b1_3 b1_4 b1_5 a2 hb2 hT).mono fun e' W' ⟨he, bel⟩ => ?_
  subst he
  exact ⟨_, rfl, _, _, _, [], _, [], hW', trodAll_mk1 (shut_bool Tryd.underlying4 _), (trodAll_cons_mk (Below.trod laidOut (by kernel_rfl) (of_decide_eq_true (by kernel_rfl)) k0 bel lt0) (trodAll_cons_mk (Below.trod laidOut (by kernel_rfl) (of_decide_eq_true (by kernel_rfl)) k1 bel lt1) (trodAll_cons_mk (Below.trod laidOut (by kernel_rfl) (of_decide_eq_true (by kernel_rfl)) k2 bel lt2) trodAll_mk0))), rfl, bel.frame _, fun h => by cases h⟩
/-- A world for the witness: the settled one, the tables (blocks 0 and 1) holding what their initialisers lay. -/
def lay32 : Obj → Obj
  | .cells _ t frozen => .cells (Lib.deBruijn32tab.map fun (n : Nat) => Value.int .u8 n).toArray t frozen
  | o => o
def lay64 : Obj → Obj
  | .cells _ t frozen => .cells (Lib.deBruijn64tab.map fun (n : Nat) => Value.int .u8 n).toArray t frozen
  | o => o
noncomputable def laidWorld (os : Os) : World := { World.holding Tryd.prog os ⟨#[], #[], []⟩ with heap := ((World.holding Tryd.prog os ⟨#[], #[], []⟩).heap.modify 0 lay32).modify 1 lay64 }
theorem laid_met (os : Os) : laidMet Tryd.prog Rows.forkFewRow.laid ((laidWorld os).forCall (fun _ _ => 0) ⟨#[], #[.agg #[.int .u8 0, .int .u8 0, .int .u8 0, .int .u8 0, .int .u8 0, .slice none 0 0], .agg #[.int .u8 0, .int .u8 0, .int .u8 0, .int .u8 0, .int .u8 0, .int .u8 0], .int .u8 0], []⟩).memory :=
  laidMet_of_run' 8 (by kernel_rfl) (by kernel_rfl)
theorem reads (os : Os) {H : Type} (enc : TypeId × Value → H) : ∃ places, DataW.whole enc Tryd.prog ((laidWorld os).forCall (fun _ _ => 0) ⟨#[], #[.agg #[.int .u8 0, .int .u8 0, .int .u8 0, .int .u8 0, .int .u8 0, .slice none 0 0], .agg #[.int .u8 0, .int .u8 0, .int .u8 0, .int .u8 0, .int .u8 0, .int .u8 0], .int .u8 0], []⟩).memory Tryd.f9.params.toList Rows.forkFewSpec.vars false (#[.agg #[.int .u8 0, .int .u8 0, .int .u8 0, .int .u8 0, .int .u8 0, .slice none 0 0], .agg #[.int .u8 0, .int .u8 0, .int .u8 0, .int .u8 0, .int .u8 0, .int .u8 0], .int .u8 0] : Array Value).toList 8 = some ([.agg [.agg [.lit (.int .u8 0), .lit (.int .u8 0), .lit (.int .u8 0), .lit (.int .u8 0), .lit (.int .u8 0)], .nil], .agg [.lit (.int .u8 0), .lit (.int .u8 0), .lit (.int .u8 0), .lit (.int .u8 0), .lit (.int .u8 0), .lit (.int .u8 0)], .lit (.int .u8 0)], [], places) :=
  ⟨[], by kernel_rfl⟩
set_option maxRecDepth 100000 in
theorem lifted (os : Os) (started : os.Started) (H : Type) (enc : TypeId × Value → H) (F : Stop.Interp) :
    ReturnsInHanded {} Tryd.checked os 9 .any ((OpenSpec.ofChange Rows.forkFewSpec).preRow enc Tryd.prog Tryd.f9 Rows.forkFewRow.domain false Rows.forkFewRow.laid) (((OpenSpec.ofChange Rows.forkFewSpec).at F).post enc Tryd.prog Tryd.f9 false true false false) := by
  obtain ⟨places, hx⟩ := reads os enc
  refine returnsInHanded_of_row (C := Tryd.checked) (s := OpenSpec.ofChange Rows.forkFewSpec) own started (by kernel_rfl) Tryd.func9
    (witness_row_at (enc := enc) (C := Tryd.checked) false (laidWorld os) #[.agg #[.int .u8 0, .int .u8 0, .int .u8 0, .int .u8 0, .int .u8 0, .slice none 0 0], .agg #[.int .u8 0, .int .u8 0, .int .u8 0, .int .u8 0, .int .u8 0, .int .u8 0], .int .u8 0] rfl (by kernel_rfl) (by kernel_rfl) (by kernel_rfl)
      (OpenSpec.preRow_of_cond 8 hx (by kernel_rfl) (fun k hk => by cases hk) (by kernel_rfl) (laid_met os))) ?_
  intro W base args ds gs before hval hW _ _ _ hL _ _
  exact contract H enc W base args ds gs before hval hW hL
theorem said : Rows.ForkFewSaid :=
  OpenClaim.holds_of_cond 9 Tryd.f9 rfl rfl rfl rfl rfl rfl rfl ⟨rfl, rfl, rfl, rfl, rfl⟩ rfl rfl rfl rfl rfl (by kernel_rfl) Tryd.func9 (by kernel_rfl)
    (of_decide_eq_true (by kernel_rfl)) (by unfold Func.isWrapper; first | (rw [if_pos (by decide +kernel)]; kernel_rfl) | (rw [if_neg (by decide +kernel)]; exact ⟨rfl, rfl⟩))
    (fun os started H enc _ F => by rw [OpenClaim.pre_eq_preRow]; exact lifted os started H enc F)
theorem plain (f : FuncId) (fn : Func) (hf : Tryd.pinned.checked.prog.funcNamed "smalto/smaltolaw03.ForkFew" = some f) (hfn : Tryd.pinned.checked.prog.funcs[f]? = some fn) :
    false = Tryd.pinned.checked.prog.looks [] ∧ ∀ (j : Nat) t, fn.params[j]? = some t → Tryd.pinned.checked.prog.wantsStandIn t = false := by
  obtain rfl : f = 9 := Option.some.inj ((show Tryd.prog.funcNamed "smalto/smaltolaw03.ForkFew" = some 9 by kernel_rfl).symm.trans hf) |>.symm
  obtain rfl : fn = Tryd.f9 := (Option.some.inj (Tryd.func9.symm.trans hfn)).symm
  refine ⟨by kernel_rfl, fun j t ht => ?_⟩
  rw [Tryd.params9] at ht
  have hm := Array.mem_of_getElem? ht
  simp only [List.mem_toArray, List.mem_cons, List.not_mem_nil, or_false] at hm
  rcases hm with rfl | rfl | rfl
  · exact (show Tryd.prog.wantsStandIn 66 = false by kernel_rfl)
  · exact (show Tryd.prog.wantsStandIn 67 = false by kernel_rfl)
  · exact (show Tryd.prog.wantsStandIn 5 = false by kernel_rfl)
/-- The card. -/
theorem card : Rows.ForkFewCardSaid :=
  Claim7.holds_tied_plain_at .later [] _ _ _ _ said (fun _ h => by cases h) (by kernel_rfl) (fun _ h => by cases h) forkFew_row_tie rfl ⟨rfl, rfl⟩ (by kernel_rfl) rfl plain (by kernel_rfl)
end Go.Proofs.YtbijamlgcebgeaaDoor.forkFew
namespace Go.Proofs.YtbijamlgcebgeaaDoor
theorem forkFew_card : Rows.ForkFewCardSaid := forkFew.card
end Go.Proofs.YtbijamlgcebgeaaDoor

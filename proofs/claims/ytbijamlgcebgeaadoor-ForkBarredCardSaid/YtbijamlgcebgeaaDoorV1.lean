/- ForkBarred: the law returns true for every input; each argument reads behind the call as it read before (for worlds in which the two tables of the library hold what its initialisers lay). Part 1 of 3. -/
import Derived.Test.YtbijamlgcebgeaaDoorD4
set_option linter.unusedVariables false
set_option linter.unusedSimpArgs false
-- part QMf
namespace Go.Proofs.YtbijamlgcebgeaaDoor.Q
open Go.RowKit Go.Proofs.YtbijamlgcebgeaaDoorW.PrintWords Go.Proofs.YtbijamlgcebgeaaDoorW.PrintLast Go.Proofs.YtbijamlgcebgeaaDoorW.PrintMore
attribute [local go_sem] max2_int min2_int max_two min_two max_three min_three max_four min_four
mutual
def lB.j0 : Nat → List (S74) → List Int → List Int → Int → List Int → Bool → Int → Int → Int → Int → Int → Option (Bool)
  | 0, _, _, _, _, _, _, _, _, _, _, _ => none
  | k + 1, x6, x7, x11, x12, x13, x120, x300000, x300001, x300002, x300003, x300004 => if x120 = true then (some false) else (lB.l0 k x6 x7 x11 x12 x13 (-1) x300000 x300001 x300002 x300003 x300004)
def lB.l0 : Nat → List (S74) → List Int → List Int → Int → List Int → Int → Int → Int → Int → Int → Int → Option (Bool)
  | 0, _, _, _, _, _, _, _, _, _, _, _ => none
  | k + 1, x6, x7, x11, x12, x13, x15, x300000, x300001, x300002, x300003, x300004 => if x15 < (x11.length : Int) then (lB.j2 k x6 x7 x11 x12 x13 x15 (x12 == 0) x300000 x300001 x300002 x300003 x300004) else (lB.j2 k x6 x7 x11 x12 x13 x15 false x300000 x300001 x300002 x300003 x300004)
def lB.j2 : Nat → List (S74) → List Int → List Int → Int → List Int → Int → Bool → Int → Int → Int → Int → Int → Option (Bool)
  | 0, _, _, _, _, _, _, _, _, _, _, _, _ => none
  | k + 1, x6, x7, x11, x12, x13, x15, x128, x300000, x300001, x300002, x300003, x300004 => if x128 = true then (lB.l1 k x6 x7 x11 x12 x13 x15 (([] : List Int)) 0 x300000 x300001 x300002 x300003 x300004) else (lB.l2 k x6 x7 x13 0 x300000 x300001 x300002 x300003 x300004)
def lB.l1 : Nat → List (S74) → List Int → List Int → Int → List Int → Int → List Int → Int → Int → Int → Int → Int → Int → Option (Bool)
  | 0, _, _, _, _, _, _, _, _, _, _, _, _, _ => none
  | k + 1, x6, x7, x11, x12, x13, x15, x16, x17, x300000, x300001, x300002, x300003, x300004 => if x17 < (x11.length : Int) then (if 0 ≤ x17 then ((smaltolaw03_has.f k x7 (rd x11 x17)).bind fun t340 => (if t340 = true then (if x17 = x15 then (lB.l1 k x6 x7 x11 x12 x13 x15 x16 (wrap64 (x17 + 1)) x300000 x300001 x300002 x300003 x300004) else (if x16.length < 17592186044416 then (lB.l1 k x6 x7 x11 x12 x13 x15 (x16 ++ [rd x11 x17]) (wrap64 (x17 + 1)) x300000 x300001 x300002 x300003 x300004) else (none))) else (some false))) else (none)) else ((smaltolaw03_own.f x6).bind fun t345 => ((goesC.f x300000 x300001 x300002 x300003 x300004 t345 x16).bind fun bt348 => (if bt348.1 = true then (if x15 ≥ 0 then (lB.l0 k x6 x7 x11 x12 x13 (wrap64 (x15 + 1)) x300000 x300001 x300002 x300003 x300004) else (some false)) else (if x15 ≥ 0 then (some false) else (lB.l0 k x6 x7 x11 x12 x13 (wrap64 (x15 + 1)) x300000 x300001 x300002 x300003 x300004)))))
def lB.l2 : Nat → List (S74) → List Int → List Int → Int → Int → Int → Int → Int → Int → Option (Bool)
  | 0, _, _, _, _, _, _, _, _, _ => none
  | k + 1, x6, x7, x13, x21, x300000, x300001, x300002, x300003, x300004 => if x21 < (x6.length : Int) then ((smaltolaw03_has.f k x7 x21).bind fun t352 => (if t352 = true then ((smaltolaw03_has.f k x13 x21).bind fun t353 => (if t353 = true then (some false) else (lB.l2 k x6 x7 x13 (wrap64 (x21 + 1)) x300000 x300001 x300002 x300003 x300004))) else (lB.l3 k x6 x7 x13 x21 (([] : List Int)) 0 x300000 x300001 x300002 x300003 x300004))) else ((knownC.f).bind fun _ => (some true))
def lB.l3 : Nat → List (S74) → List Int → List Int → Int → List Int → Int → Int → Int → Int → Int → Int → Option (Bool)
  | 0, _, _, _, _, _, _, _, _, _, _, _ => none
  | k + 1, x6, x7, x13, x21, x22, x23, x300000, x300001, x300002, x300003, x300004 => if x23 < (x6.length : Int) then (if x23 = x21 then (if x22.length < 17592186044416 then (lB.l3 k x6 x7 x13 x21 (x22 ++ [x23]) (wrap64 (x23 + 1)) x300000 x300001 x300002 x300003 x300004) else (none)) else ((smaltolaw03_has.f k x7 x23).bind fun t360 => (if t360 = true then (if x22.length < 17592186044416 then (lB.l3 k x6 x7 x13 x21 (x22 ++ [x23]) (wrap64 (x23 + 1)) x300000 x300001 x300002 x300003 x300004) else (none)) else (lB.l3 k x6 x7 x13 x21 x22 (wrap64 (x23 + 1)) x300000 x300001 x300002 x300003 x300004)))) else ((smaltolaw03_own.f x6).bind fun t364 => ((goesC.f x300000 x300001 x300002 x300003 x300004 t364 x22).bind fun bt367 => ((smaltolaw03_has.f k x13 x21).bind fun t370 => (if bt367.1 = true then (if t370 = true then (lB.l2 k x6 x7 x13 (wrap64 (x21 + 1)) x300000 x300001 x300002 x300003 x300004) else (some false)) else (if t370 = true then (some false) else (lB.l2 k x6 x7 x13 (wrap64 (x21 + 1)) x300000 x300001 x300002 x300003 x300004))))))
end
def lB.f (k : Nat) (a0_0 : Int) (a0_1 : Int) (a0_2 : Int) (a0_3 : Int) (a0_4 : Int) (l0_5 : List (S63)) (a1 : Int) : Option (Bool) := (smaltolaw03_Rack_made.f a0_0 a0_1 a0_2 a0_3 a0_4 l0_5).bind fun bt291 => ((smaltolaw03_chosen.f k bt291.2.2.2.2.2 a1).bind fun t300 => ((smaltolaw03_own.f bt291.2.2.2.2.2).bind fun t303 => ((smaltolaw03_ints.f t300).bind fun t306 => ((goesC.f bt291.1 bt291.2.1 bt291.2.2.1 bt291.2.2.2.1 bt291.2.2.2.2.1 t303 t306).bind fun bt309 => ((smaltolaw03_own.f bt291.2.2.2.2.2).bind fun t312 => ((smaltolaw03_ints.f t300).bind fun t315 => ((fork_Bar.f bt291.1 bt291.2.1 bt291.2.2.1 bt291.2.2.2.1 bt291.2.2.2.2.1 t312 t315).bind fun bt318 => ((smaltolaw03_own.f bt291.2.2.2.2.2).bind fun t322 => ((smaltolaw03_ints.f t300).bind fun t325 => ((stillC.f bt291.1 bt291.2.1 bt291.2.2.1 bt291.2.2.2.1 bt291.2.2.2.2.1 t322 t325).bind fun t328 => (if bt318.2 = 0 then (if bt309.1 = true then (lB.j0 k bt291.2.2.2.2.2 t300 bt318.1 bt318.2 t328 true bt291.1 bt291.2.1 bt291.2.2.1 bt291.2.2.2.1 bt291.2.2.2.2.1) else (if (bt318.1.length : Int) = 0 then (lB.j0 k bt291.2.2.2.2.2 t300 bt318.1 bt318.2 t328 true bt291.1 bt291.2.1 bt291.2.2.1 bt291.2.2.2.1 bt291.2.2.2.2.1) else ((upC.f k bt318.1 (bt291.2.2.2.2.2.length : Int)).bind fun _ => ((upC.f k t328 (bt291.2.2.2.2.2.length : Int)).bind fun _ => (lB.j0 k bt291.2.2.2.2.2 t300 bt318.1 bt318.2 t328 ((t328.length : Int) != 0) bt291.1 bt291.2.1 bt291.2.2.1 bt291.2.2.2.1 bt291.2.2.2.2.1))))) else (if bt309.1 = true then (if bt318.2 = 6 then (if (bt318.1.length : Int) = 0 then ((upC.f k bt318.1 (bt291.2.2.2.2.2.length : Int)).bind fun _ => ((upC.f k t328 (bt291.2.2.2.2.2.length : Int)).bind fun _ => (lB.j0 k bt291.2.2.2.2.2 t300 bt318.1 bt318.2 t328 false bt291.1 bt291.2.1 bt291.2.2.1 bt291.2.2.2.1 bt291.2.2.2.2.1))) else (lB.j0 k bt291.2.2.2.2.2 t300 bt318.1 bt318.2 t328 true bt291.1 bt291.2.1 bt291.2.2.1 bt291.2.2.2.1 bt291.2.2.2.2.1)) else (lB.j0 k bt291.2.2.2.2.2 t300 bt318.1 bt318.2 t328 true bt291.1 bt291.2.1 bt291.2.2.1 bt291.2.2.2.1 bt291.2.2.2.2.1)) else (lB.j0 k bt291.2.2.2.2.2 t300 bt318.1 bt318.2 t328 true bt291.1 bt291.2.1 bt291.2.2.1 bt291.2.2.2.1 bt291.2.2.2.2.1)))))))))))))
theorem lB.mono_l : ∀ k, (∀ y0 y1 y2 y3 y4 y5 y6 y7 y8 y9 y10, LeO (lB.j0 k y0 y1 y2 y3 y4 y5 y6 y7 y8 y9 y10) (lB.j0 (k + 1) y0 y1 y2 y3 y4 y5 y6 y7 y8 y9 y10)) ∧ (∀ y0 y1 y2 y3 y4 y5 y6 y7 y8 y9 y10, LeO (lB.l0 k y0 y1 y2 y3 y4 y5 y6 y7 y8 y9 y10) (lB.l0 (k + 1) y0 y1 y2 y3 y4 y5 y6 y7 y8 y9 y10)) ∧ (∀ y0 y1 y2 y3 y4 y5 y6 y7 y8 y9 y10 y11, LeO (lB.j2 k y0 y1 y2 y3 y4 y5 y6 y7 y8 y9 y10 y11) (lB.j2 (k + 1) y0 y1 y2 y3 y4 y5 y6 y7 y8 y9 y10 y11)) ∧ (∀ y0 y1 y2 y3 y4 y5 y6 y7 y8 y9 y10 y11 y12, LeO (lB.l1 k y0 y1 y2 y3 y4 y5 y6 y7 y8 y9 y10 y11 y12) (lB.l1 (k + 1) y0 y1 y2 y3 y4 y5 y6 y7 y8 y9 y10 y11 y12)) ∧ (∀ y0 y1 y2 y3 y4 y5 y6 y7 y8, LeO (lB.l2 k y0 y1 y2 y3 y4 y5 y6 y7 y8) (lB.l2 (k + 1) y0 y1 y2 y3 y4 y5 y6 y7 y8)) ∧ (∀ y0 y1 y2 y3 y4 y5 y6 y7 y8 y9 y10, LeO (lB.l3 k y0 y1 y2 y3 y4 y5 y6 y7 y8 y9 y10) (lB.l3 (k + 1) y0 y1 y2 y3 y4 y5 y6 y7 y8 y9 y10))
  | 0 => ⟨fun _ _ _ _ _ _ _ _ _ _ _ r h => by simp [lB.j0] at h, fun _ _ _ _ _ _ _ _ _ _ _ r h => by simp [lB.l0] at h, fun _ _ _ _ _ _ _ _ _ _ _ _ r h => by simp [lB.j2] at h, fun _ _ _ _ _ _ _ _ _ _ _ _ _ r h => by simp [lB.l1] at h, fun _ _ _ _ _ _ _ _ _ r h => by simp [lB.l2] at h, fun _ _ _ _ _ _ _ _ _ _ _ r h => by simp [lB.l3] at h⟩
  | k + 1 => by
    obtain ⟨ih0, ih1, ih2, ih3, ih4, ih5⟩ := lB.mono_l k
    refine ⟨?_, ?_, ?_, ?_, ?_, ?_⟩
    · intro y0 y1 y2 y3 y4 y5 y6 y7 y8 y9 y10
      unfold lB.j0
      repeat' first
      | (with_reducible exact ih0 _ _ _ _ _ _ _ _ _ _ _)
      | (with_reducible exact ih1 _ _ _ _ _ _ _ _ _ _ _)
      | (with_reducible exact ih2 _ _ _ _ _ _ _ _ _ _ _ _)
      | (with_reducible exact ih3 _ _ _ _ _ _ _ _ _ _ _ _ _)
      | (with_reducible exact ih4 _ _ _ _ _ _ _ _ _)
      | (with_reducible exact ih5 _ _ _ _ _ _ _ _ _ _ _)
      | (with_reducible exact smaltolaw03_chosen.mono _ _ _)
      | (with_reducible exact smaltolaw03_has.mono _ _ _)
      | (with_reducible exact upC.mono _ _ _)
      | (with_reducible exact LeO.refl _)
      | (with_reducible exact LeO.none _)
      | (with_reducible refine LeO.ite ?_ ?_)
      | (with_reducible refine LeO.bind ?_ (fun _ => ?_))
      | exact ih0 _ _ _ _ _ _ _ _ _ _ _
      | exact ih1 _ _ _ _ _ _ _ _ _ _ _
      | exact ih2 _ _ _ _ _ _ _ _ _ _ _ _
      | exact ih3 _ _ _ _ _ _ _ _ _ _ _ _ _
      | exact ih4 _ _ _ _ _ _ _ _ _
      | exact ih5 _ _ _ _ _ _ _ _ _ _ _
      | exact smaltolaw03_chosen.mono _ _ _
      | exact smaltolaw03_has.mono _ _ _
      | exact upC.mono _ _ _
      | exact LeO.none _
      | refine LeO.ite ?_ ?_
      | refine LeO.bind ?_ (fun _ => ?_)
    · intro y0 y1 y2 y3 y4 y5 y6 y7 y8 y9 y10
      unfold lB.l0
      repeat' first
      | (with_reducible exact ih0 _ _ _ _ _ _ _ _ _ _ _)
      | (with_reducible exact ih1 _ _ _ _ _ _ _ _ _ _ _)
      | (with_reducible exact ih2 _ _ _ _ _ _ _ _ _ _ _ _)
      | (with_reducible exact ih3 _ _ _ _ _ _ _ _ _ _ _ _ _)
      | (with_reducible exact ih4 _ _ _ _ _ _ _ _ _)
      | (with_reducible exact ih5 _ _ _ _ _ _ _ _ _ _ _)
      | (with_reducible exact smaltolaw03_chosen.mono _ _ _)
      | (with_reducible exact smaltolaw03_has.mono _ _ _)
      | (with_reducible exact upC.mono _ _ _)
      | (with_reducible exact LeO.refl _)
      | (with_reducible exact LeO.none _)
      | (with_reducible refine LeO.ite ?_ ?_)
      | (with_reducible refine LeO.bind ?_ (fun _ => ?_))
      | exact ih0 _ _ _ _ _ _ _ _ _ _ _
      | exact ih1 _ _ _ _ _ _ _ _ _ _ _
      | exact ih2 _ _ _ _ _ _ _ _ _ _ _ _
      | exact ih3 _ _ _ _ _ _ _ _ _ _ _ _ _
      | exact ih4 _ _ _ _ _ _ _ _ _
      | exact ih5 _ _ _ _ _ _ _ _ _ _ _
      | exact smaltolaw03_chosen.mono _ _ _
      | exact smaltolaw03_has.mono _ _ _
      | exact upC.mono _ _ _
      | exact LeO.none _
      | refine LeO.ite ?_ ?_
      | refine LeO.bind ?_ (fun _ => ?_)
    · intro y0 y1 y2 y3 y4 y5 y6 y7 y8 y9 y10 y11
      unfold lB.j2
      repeat' first
      | (with_reducible exact ih0 _ _ _ _ _ _ _ _ _ _ _)
      | (with_reducible exact ih1 _ _ _ _ _ _ _ _ _ _ _)
      | (with_reducible exact ih2 _ _ _ _ _ _ _ _ _ _ _ _)
      | (with_reducible exact ih3 _ _ _ _ _ _ _ _ _ _ _ _ _)
      | (with_reducible exact ih4 _ _ _ _ _ _ _ _ _)
      | (with_reducible exact ih5 _ _ _ _ _ _ _ _ _ _ _)
      | (with_reducible exact smaltolaw03_chosen.mono _ _ _)
      | (with_reducible exact smaltolaw03_has.mono _ _ _)
      | (with_reducible exact upC.mono _ _ _)
      | (with_reducible exact LeO.refl _)
      | (with_reducible exact LeO.none _)
      | (with_reducible refine LeO.ite ?_ ?_)
      | (with_reducible refine LeO.bind ?_ (fun _ => ?_))
      | exact ih0 _ _ _ _ _ _ _ _ _ _ _
      | exact ih1 _ _ _ _ _ _ _ _ _ _ _
      | exact ih2 _ _ _ _ _ _ _ _ _ _ _ _
      | exact ih3 _ _ _ _ _ _ _ _ _ _ _ _ _
      | exact ih4 _ _ _ _ _ _ _ _ _
      | exact ih5 _ _ _ _ _ _ _ _ _ _ _
      | exact smaltolaw03_chosen.mono _ _ _
      | exact smaltolaw03_has.mono _ _ _
      | exact upC.mono _ _ _
      | exact LeO.none _
      | refine LeO.ite ?_ ?_
      | refine LeO.bind ?_ (fun _ => ?_)
    · intro y0 y1 y2 y3 y4 y5 y6 y7 y8 y9 y10 y11 y12
      unfold lB.l1
      repeat' first
      | (with_reducible exact ih0 _ _ _ _ _ _ _ _ _ _ _)
      | (with_reducible exact ih1 _ _ _ _ _ _ _ _ _ _ _)
      | (with_reducible exact ih2 _ _ _ _ _ _ _ _ _ _ _ _)
      | (with_reducible exact ih3 _ _ _ _ _ _ _ _ _ _ _ _ _)
      | (with_reducible exact ih4 _ _ _ _ _ _ _ _ _)
      | (with_reducible exact ih5 _ _ _ _ _ _ _ _ _ _ _)
      | (with_reducible exact smaltolaw03_chosen.mono _ _ _)
      | (with_reducible exact smaltolaw03_has.mono _ _ _)
      | (with_reducible exact upC.mono _ _ _)
      | (with_reducible exact LeO.refl _)
      | (with_reducible exact LeO.none _)
      | (with_reducible refine LeO.ite ?_ ?_)
      | (with_reducible refine LeO.bind ?_ (fun _ => ?_))
      | exact ih0 _ _ _ _ _ _ _ _ _ _ _
      | exact ih1 _ _ _ _ _ _ _ _ _ _ _
      | exact ih2 _ _ _ _ _ _ _ _ _ _ _ _
      | exact ih3 _ _ _ _ _ _ _ _ _ _ _ _ _
      | exact ih4 _ _ _ _ _ _ _ _ _
      | exact ih5 _ _ _ _ _ _ _ _ _ _ _
      | exact smaltolaw03_chosen.mono _ _ _
      | exact smaltolaw03_has.mono _ _ _
      | exact upC.mono _ _ _
      | exact LeO.none _
      | refine LeO.ite ?_ ?_
      | refine LeO.bind ?_ (fun _ => ?_)
    · intro y0 y1 y2 y3 y4 y5 y6 y7 y8
      unfold lB.l2
      repeat' first
      | (with_reducible exact ih0 _ _ _ _ _ _ _ _ _ _ _)
      | (with_reducible exact ih1 _ _ _ _ _ _ _ _ _ _ _)
      | (with_reducible exact ih2 _ _ _ _ _ _ _ _ _ _ _ _)
      | (with_reducible exact ih3 _ _ _ _ _ _ _ _ _ _ _ _ _)
      | (with_reducible exact ih4 _ _ _ _ _ _ _ _ _)
      | (with_reducible exact ih5 _ _ _ _ _ _ _ _ _ _ _)
      | (with_reducible exact smaltolaw03_chosen.mono _ _ _)
      | (with_reducible exact smaltolaw03_has.mono _ _ _)
      | (with_reducible exact upC.mono _ _ _)
      | (with_reducible exact LeO.refl _)
      | (with_reducible exact LeO.none _)
      | (with_reducible refine LeO.ite ?_ ?_)
      | (with_reducible refine LeO.bind ?_ (fun _ => ?_))
      | exact ih0 _ _ _ _ _ _ _ _ _ _ _
      | exact ih1 _ _ _ _ _ _ _ _ _ _ _
      | exact ih2 _ _ _ _ _ _ _ _ _ _ _ _
      | exact ih3 _ _ _ _ _ _ _ _ _ _ _ _ _
      | exact ih4 _ _ _ _ _ _ _ _ _
      | exact ih5 _ _ _ _ _ _ _ _ _ _ _
      | exact smaltolaw03_chosen.mono _ _ _
      | exact smaltolaw03_has.mono _ _ _
      | exact upC.mono _ _ _
      | exact LeO.none _
      | refine LeO.ite ?_ ?_
      | refine LeO.bind ?_ (fun _ => ?_)
    · intro y0 y1 y2 y3 y4 y5 y6 y7 y8 y9 y10
      unfold lB.l3
      repeat' first
      | (with_reducible exact ih0 _ _ _ _ _ _ _ _ _ _ _)
      | (with_reducible exact ih1 _ _ _ _ _ _ _ _ _ _ _)
      | (with_reducible exact ih2 _ _ _ _ _ _ _ _ _ _ _ _)
      | (with_reducible exact ih3 _ _ _ _ _ _ _ _ _ _ _ _ _)
      | (with_reducible exact ih4 _ _ _ _ _ _ _ _ _)
      | (with_reducible exact ih5 _ _ _ _ _ _ _ _ _ _ _)
      | (with_reducible exact smaltolaw03_chosen.mono _ _ _)
      | (with_reducible exact smaltolaw03_has.mono _ _ _)
      | (with_reducible exact upC.mono _ _ _)
      | (with_reducible exact LeO.refl _)
      | (with_reducible exact LeO.none _)
      | (with_reducible refine LeO.ite ?_ ?_)
      | (with_reducible refine LeO.bind ?_ (fun _ => ?_))
      | exact ih0 _ _ _ _ _ _ _ _ _ _ _
      | exact ih1 _ _ _ _ _ _ _ _ _ _ _
      | exact ih2 _ _ _ _ _ _ _ _ _ _ _ _
      | exact ih3 _ _ _ _ _ _ _ _ _ _ _ _ _
      | exact ih4 _ _ _ _ _ _ _ _ _
      | exact ih5 _ _ _ _ _ _ _ _ _ _ _
      | exact smaltolaw03_chosen.mono _ _ _
      | exact smaltolaw03_has.mono _ _ _
      | exact upC.mono _ _ _
      | exact LeO.none _
      | refine LeO.ite ?_ ?_
      | refine LeO.bind ?_ (fun _ => ?_)
theorem lB.mono : ∀ a0 a1 a2 a3 a4 a5 a6 k, LeO (lB.f k a0 a1 a2 a3 a4 a5 a6) (lB.f (k + 1) a0 a1 a2 a3 a4 a5 a6) := by
  intro a0 a1 a2 a3 a4 a5 a6 k
  obtain ⟨ih0, ih1, ih2, ih3, ih4, ih5⟩ := lB.mono_l k
  unfold lB.f
  repeat' first
      | (with_reducible exact ih0 _ _ _ _ _ _ _ _ _ _ _)
      | (with_reducible exact ih1 _ _ _ _ _ _ _ _ _ _ _)
      | (with_reducible exact ih2 _ _ _ _ _ _ _ _ _ _ _ _)
      | (with_reducible exact ih3 _ _ _ _ _ _ _ _ _ _ _ _ _)
      | (with_reducible exact ih4 _ _ _ _ _ _ _ _ _)
      | (with_reducible exact ih5 _ _ _ _ _ _ _ _ _ _ _)
      | (with_reducible exact smaltolaw03_chosen.mono _ _ _)
      | (with_reducible exact smaltolaw03_has.mono _ _ _)
      | (with_reducible exact upC.mono _ _ _)
      | (with_reducible exact LeO.refl _)
      | (with_reducible exact LeO.none _)
      | (with_reducible refine LeO.ite ?_ ?_)
      | (with_reducible refine LeO.bind ?_ (fun _ => ?_))
      | exact ih0 _ _ _ _ _ _ _ _ _ _ _
      | exact ih1 _ _ _ _ _ _ _ _ _ _ _
      | exact ih2 _ _ _ _ _ _ _ _ _ _ _ _
      | exact ih3 _ _ _ _ _ _ _ _ _ _ _ _ _
      | exact ih4 _ _ _ _ _ _ _ _ _
      | exact ih5 _ _ _ _ _ _ _ _ _ _ _
      | exact smaltolaw03_chosen.mono _ _ _
      | exact smaltolaw03_has.mono _ _ _
      | exact upC.mono _ _ _
      | exact LeO.none _
      | refine LeO.ite ?_ ?_
      | refine LeO.bind ?_ (fun _ => ?_)
def lB.T3 : Bool × List (List Nat × List Nat) := (true, [([], []), ([], []), ([1], [1]), ([], []), ([3, 2], [3]), ([0, 2, 4, 4], [0, 2, 4]), ([5], [5]), ([6], [6]), ([6], [6]), ([6], [6]), ([7, 5, 0, 1, 2, 3, 4, 5, 6, 7], [7]), ([8, 10, 0, 1, 2, 3, 4, 5, 6, 7, 8, 10], [8]), ([9, 11, 0, 1, 2, 3, 4, 5, 6, 7, 8, 9, 10, 11], [9])])
def lB.B3 : List Nat := [0, 0, 2, 0, 14, 31, 63, 127, 127, 127, 255, 1535, 4095]
theorem lB.tab3 : rtab .any (opsOf Tryd.f10 3) = lB.T3 := by kernel_rfl
theorem lB.bits3 : waitsOk lB.T3.2 lB.B3 = true := by kernel_rfl
def lB.T4 : Bool × List (List Nat × List Nat) := (true, [([], []), ([], []), ([1], [1]), ([], []), ([3, 2], [3]), ([0, 2, 4, 4], [0, 2, 4]), ([5], [5]), ([6], [6]), ([6], [6]), ([7, 5, 0, 1, 2, 3, 4, 5, 6, 7], [7]), ([8, 9, 0, 1, 2, 3, 4, 5, 6, 7, 8, 9], [8])])
def lB.B4 : List Nat := [0, 0, 2, 0, 14, 31, 63, 127, 127, 255, 1023]
theorem lB.tab4 : rtab .any (opsOf Tryd.f10 4) = lB.T4 := by kernel_rfl
theorem lB.bits4 : waitsOk lB.T4.2 lB.B4 = true := by kernel_rfl
def lB.T5 : Bool × List (List Nat × List Nat) := (true, [([], []), ([], []), ([1], [1]), ([], []), ([3, 2], [3]), ([0, 2, 4, 4], [0, 2, 4]), ([5], [5]), ([6], [6]), ([6], [6]), ([7, 5, 0, 1, 2, 3, 4, 5, 6, 7], [7]), ([8, 9, 0, 1, 2, 3, 4, 5, 6, 7, 8, 9], [8])])
def lB.B5 : List Nat := [0, 0, 2, 0, 14, 31, 63, 127, 127, 255, 1023]
theorem lB.tab5 : rtab .any (opsOf Tryd.f10 5) = lB.T5 := by kernel_rfl
theorem lB.bits5 : waitsOk lB.T5.2 lB.B5 = true := by kernel_rfl
def lB.T19 : Bool × List (List Nat × List Nat) := (true, [([], []), ([], []), ([1], [1]), ([], []), ([0, 2, 3, 2], [0, 2, 3]), ([4], [4]), ([5], [5]), ([5], [5]), ([5], [5]), ([6, 4, 0, 1, 2, 3, 4, 5, 6], [6]), ([7, 9, 0, 1, 2, 3, 4, 5, 6, 7, 9], [7]), ([8, 10, 0, 1, 2, 3, 4, 5, 6, 7, 8, 9, 10], [8])])
def lB.B19 : List Nat := [0, 0, 2, 0, 15, 31, 63, 63, 63, 127, 767, 2047]
theorem lB.tab19 : rtab .any (opsOf Tryd.f10 19) = lB.T19 := by kernel_rfl
theorem lB.bits19 : waitsOk lB.T19.2 lB.B19 = true := by kernel_rfl
def lB.T34 : Bool × List (List Nat × List Nat) := (true, [([], []), ([], []), ([1], [1]), ([], []), ([0, 2, 3, 2], [0, 2, 3]), ([4], [4]), ([5], [5]), ([5], [5]), ([5], [5]), ([6, 4, 0, 1, 2, 3, 4, 5, 6], [6]), ([7, 9, 0, 1, 2, 3, 4, 5, 6, 7, 9], [7]), ([8, 10, 0, 1, 2, 3, 4, 5, 6, 7, 8, 9, 10], [8])])
def lB.B34 : List Nat := [0, 0, 2, 0, 15, 31, 63, 63, 63, 127, 767, 2047]
theorem lB.tab34 : rtab .any (opsOf Tryd.f10 34) = lB.T34 := by kernel_rfl
theorem lB.bits34 : waitsOk lB.T34.2 lB.B34 = true := by kernel_rfl
end Go.Proofs.YtbijamlgcebgeaaDoor.Q

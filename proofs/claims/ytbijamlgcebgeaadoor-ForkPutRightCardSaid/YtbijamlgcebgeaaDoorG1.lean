/- ForkPutRight: the law returns true for every input; each argument reads behind the call as it read before (for worlds in which the two tables of the library hold what its initialisers lay). Part 1 of 3. -/
import Derived.Test.YtbijamlgcebgeaaDoorE4
import Derived.LoopN
set_option linter.unusedVariables false
set_option linter.unusedSimpArgs false
-- part QVf
namespace Go.Proofs.YtbijamlgcebgeaaDoor.Q
open Go.RowKit Go.Proofs.YtbijamlgcebgeaaDoorW.PrintWords Go.Proofs.YtbijamlgcebgeaaDoorW.PrintLast Go.Proofs.YtbijamlgcebgeaaDoorW.PrintMore
attribute [local go_sem] max2_int min2_int max_two min_two max_three min_three max_four min_four
mutual
def lP.l0 : Nat → List (S74) → List Int → List Int → Int → Int → Int → Int → Int → Int → Int → Int → Int → Int → Int → Int → Int → Int → Int → Int → Int → Int → Option (Bool)
  | 0, _, _, _, _, _, _, _, _, _, _, _, _, _, _, _, _, _, _, _, _, _ => none
  | k + 1, x8, x9, x10, x11, x103000, x103001, x103002, x103003, x103004, x103005, x104000, x104001, x104002, x104003, x104004, x104005, x113000, x113001, x113002, x113003, x113004 => if x11 < (x8.length : Int) then (if 0 ≤ x11 then (if x11 < 6 then (if x9.length < 17592186044416 then (lP.l0 k x8 (x9 ++ [Int.tmod (wrap64 (rd [x103000, x103001, x103002, x103003, x103004, x103005] x11)) 6]) x10 (wrap64 (x11 + 1)) x103000 x103001 x103002 x103003 x103004 x103005 x104000 x104001 x104002 x104003 x104004 x104005 x113000 x113001 x113002 x113003 x113004) else (none)) else (none)) else (none)) else ((smaltolaw03_count.f k x9).bind fun t123 => (lP.l1 k x8 x9 x10 t123 0 x104000 x104001 x104002 x104003 x104004 x104005 x113000 x113001 x113002 x113003 x113004))
def lP.l1 : Nat → List (S74) → List Int → List Int → Int → Int → Int → Int → Int → Int → Int → Int → Int → Int → Int → Int → Int → Option (Bool)
  | 0, _, _, _, _, _, _, _, _, _, _, _, _, _, _, _, _ => none
  | k + 1, x8, x9, x10, x12, x13, x104000, x104001, x104002, x104003, x104004, x104005, x113000, x113001, x113002, x113003, x113004 => if x13 < (x8.length : Int) then (if 0 ≤ x13 then (if x13 < 6 then (if x12 = 0 then (none) else (if x10.length < 17592186044416 then (lP.l1 k x8 x9 (x10 ++ [Int.tmod (wrap64 (rd [x104000, x104001, x104002, x104003, x104004, x104005] x13)) x12]) x12 (wrap64 (x13 + 1)) x104000 x104001 x104002 x104003 x104004 x104005 x113000 x113001 x113002 x113003 x113004) else (none))) else (none)) else (none)) else ((smaltolaw03_own.f x8).bind fun t128 => ((smaltolaw03_ints.f x9).bind fun t131 => ((fork_Put.f x113000 x113001 x113002 x113003 x113004 t128 t131).bind fun bt134 => (if bt134.2.2 = 0 then (lP.j2 k x8 x9 x10 x12 bt134.1 bt134.2.1 bt134.2.2 ((bt134.1.length : Int) != (x8.length : Int)) x113000 x113001 x113002 x113003 x113004) else (if bt134.2.2 = 7 then (if (bt134.1.length : Int) = 0 then (if bt134.2.1 = 0 then (lP.j2 k x8 x9 x10 x12 bt134.1 bt134.2.1 bt134.2.2 false x113000 x113001 x113002 x113003 x113004) else (lP.j2 k x8 x9 x10 x12 bt134.1 bt134.2.1 bt134.2.2 true x113000 x113001 x113002 x113003 x113004)) else (lP.j2 k x8 x9 x10 x12 bt134.1 bt134.2.1 bt134.2.2 true x113000 x113001 x113002 x113003 x113004)) else (lP.j2 k x8 x9 x10 x12 bt134.1 bt134.2.1 bt134.2.2 true x113000 x113001 x113002 x113003 x113004))))))
def lP.j2 : Nat → List (S74) → List Int → List Int → Int → List Int → Int → Int → Bool → Int → Int → Int → Int → Int → Option (Bool)
  | 0, _, _, _, _, _, _, _, _, _, _, _, _, _ => none
  | k + 1, x8, x9, x10, x12, x14, x15, x16, x100, x113000, x113001, x113002, x113003, x113004 => if x100 = true then (some false) else (lP.l23 k x8 x9 x10 x12 x14 x15 x16 x9 0 x113000 x113001 x113002 x113003 x113004 true true true)
def lP.l23 : Nat → List (S74) → List Int → List Int → Int → List Int → Int → Int → List Int → Int → Int → Int → Int → Int → Int → Bool → Bool → Bool → Option (Bool)
  | 0, _, _, _, _, _, _, _, _, _, _, _, _, _, _, _, _, _ => none
  | k + 1, x8, x9, x10, x12, x14, x15, x16, x21, x22, x113000, x113001, x113002, x113003, x113004, x140000, x140001, x140002 => if x22 < 6 then ((smaltolaw03_own.f x8).bind fun t140 => ((smaltolaw03_of.f k x21 x22).bind fun t143 => ((goesC.f x113000 x113001 x113002 x113003 x113004 t140 t143).bind fun bt146 => (if x140000 = true then (lP.l23 k x8 x9 x10 x12 x14 x15 x16 x21 (wrap64 (x22 + 1)) x113000 x113001 x113002 x113003 x113004 bt146.1 x140001 x140002) else (lP.l23 k x8 x9 x10 x12 x14 x15 x16 x21 (wrap64 (x22 + 1)) x113000 x113001 x113002 x113003 x113004 false x140001 x140002))))) else (lP.l43 k x8 x9 x10 x12 x14 x15 x16 x10 0 x113000 x113001 x113002 x113003 x113004 x140000 x140001 x140002)
def lP.l43 : Nat → List (S74) → List Int → List Int → Int → List Int → Int → Int → List Int → Int → Int → Int → Int → Int → Int → Bool → Bool → Bool → Option (Bool)
  | 0, _, _, _, _, _, _, _, _, _, _, _, _, _, _, _, _, _ => none
  | k + 1, x8, x9, x10, x12, x14, x15, x16, x21, x22, x113000, x113001, x113002, x113003, x113004, x140000, x140001, x140002 => if x22 < 6 then ((smaltolaw03_own.f x8).bind fun t149 => ((smaltolaw03_of.f k x21 x22).bind fun t152 => ((goesC.f x113000 x113001 x113002 x113003 x113004 t149 t152).bind fun bt155 => (if x140001 = true then (lP.l43 k x8 x9 x10 x12 x14 x15 x16 x21 (wrap64 (x22 + 1)) x113000 x113001 x113002 x113003 x113004 x140000 bt155.1 x140002) else (lP.l43 k x8 x9 x10 x12 x14 x15 x16 x21 (wrap64 (x22 + 1)) x113000 x113001 x113002 x113003 x113004 x140000 false x140002))))) else (lP.l63 k x8 x9 x10 x12 x14 x15 x16 x14 0 x113000 x113001 x113002 x113003 x113004 x140000 x140001 x140002)
def lP.l63 : Nat → List (S74) → List Int → List Int → Int → List Int → Int → Int → List Int → Int → Int → Int → Int → Int → Int → Bool → Bool → Bool → Option (Bool)
  | 0, _, _, _, _, _, _, _, _, _, _, _, _, _, _, _, _, _ => none
  | k + 1, x8, x9, x10, x12, x14, x15, x16, x21, x22, x113000, x113001, x113002, x113003, x113004, x140000, x140001, x140002 => if x22 < 6 then ((smaltolaw03_own.f x8).bind fun t158 => ((smaltolaw03_of.f k x21 x22).bind fun t161 => ((goesC.f x113000 x113001 x113002 x113003 x113004 t158 t161).bind fun bt164 => (if x140002 = true then (lP.l63 k x8 x9 x10 x12 x14 x15 x16 x21 (wrap64 (x22 + 1)) x113000 x113001 x113002 x113003 x113004 x140000 x140001 bt164.1) else (lP.l63 k x8 x9 x10 x12 x14 x15 x16 x21 (wrap64 (x22 + 1)) x113000 x113001 x113002 x113003 x113004 x140000 x140001 false))))) else (lP.l4 k x8 x9 x10 x12 x14 x15 x16 0 0 0 x140000 x140001 x140002)
def lP.l4 : Nat → List (S74) → List Int → List Int → Int → List Int → Int → Int → Int → Int → Int → Bool → Bool → Bool → Option (Bool)
  | 0, _, _, _, _, _, _, _, _, _, _, _, _, _ => none
  | k + 1, x8, x9, x10, x12, x14, x15, x16, x18, x19, x26, x140000, x140001, x140002 => if x26 < (x8.length : Int) then (if 0 ≤ x26 then (if x26 < (x10.length : Int) then (if x26 < (x9.length : Int) then (if (rd x10 x26) = (rd x9 x26) then (lP.j7 k x8 x9 x10 x12 x14 x15 x16 x18 x19 x26 x140000 x140001 x140002) else (lP.j7 k x8 x9 x10 x12 x14 x15 x16 (wrap64 (x18 + 1)) x19 x26 x140000 x140001 x140002)) else (none)) else (none)) else (none)) else (if x16 = 0 then (if x140002 = true then (if x19 = x15 then (if x15 = 0 then (if x140000 = true then (if x140001 = true then (if x18 ≥ x15 then ((knownC.f).bind fun _ => (some true)) else (some false)) else ((knownC.f).bind fun _ => (some true))) else (some false)) else (if x140000 = true then (some false) else (if x140001 = true then (if x18 ≥ x15 then ((knownC.f).bind fun _ => (some true)) else (some false)) else ((knownC.f).bind fun _ => (some true))))) else (some false)) else (some false)) else (if x140000 = true then (some false) else (if x140001 = true then (some false) else ((knownC.f).bind fun _ => (some true)))))
def lP.j7 : Nat → List (S74) → List Int → List Int → Int → List Int → Int → Int → Int → Int → Int → Bool → Bool → Bool → Option (Bool)
  | 0, _, _, _, _, _, _, _, _, _, _, _, _, _ => none
  | k + 1, x8, x9, x10, x12, x14, x15, x16, x18, x19, x26, x140000, x140001, x140002 => if x16 = 0 then (if 0 ≤ x26 then (if x26 < (x14.length : Int) then (if x26 < (x9.length : Int) then (lP.j8 k x8 x9 x10 x12 x14 x15 x16 x18 x19 x26 ((rd x14 x26) != (rd x9 x26)) x140000 x140001 x140002) else (none)) else (none)) else (none)) else (lP.j8 k x8 x9 x10 x12 x14 x15 x16 x18 x19 x26 false x140000 x140001 x140002)
def lP.j8 : Nat → List (S74) → List Int → List Int → Int → List Int → Int → Int → Int → Int → Int → Bool → Bool → Bool → Bool → Option (Bool)
  | 0, _, _, _, _, _, _, _, _, _, _, _, _, _, _ => none
  | k + 1, x8, x9, x10, x12, x14, x15, x16, x18, x19, x26, x166, x140000, x140001, x140002 => if x166 = true then (if x16 = 0 then (if 0 ≤ x26 then (if x26 < (x14.length : Int) then (if (rd x14 x26) < 0 then (some false) else (if (rd x14 x26) ≥ x12 then (some false) else (lP.l4 k x8 x9 x10 x12 x14 x15 x16 x18 (wrap64 (x19 + 1)) (wrap64 (x26 + 1)) x140000 x140001 x140002))) else (none)) else (none)) else (lP.l4 k x8 x9 x10 x12 x14 x15 x16 x18 (wrap64 (x19 + 1)) (wrap64 (x26 + 1)) x140000 x140001 x140002)) else (if x16 = 0 then (if 0 ≤ x26 then (if x26 < (x14.length : Int) then (if (rd x14 x26) < 0 then (some false) else (if (rd x14 x26) ≥ x12 then (some false) else (lP.l4 k x8 x9 x10 x12 x14 x15 x16 x18 x19 (wrap64 (x26 + 1)) x140000 x140001 x140002))) else (none)) else (none)) else (lP.l4 k x8 x9 x10 x12 x14 x15 x16 x18 x19 (wrap64 (x26 + 1)) x140000 x140001 x140002))
end
def lP.f (k : Nat) (a0_0 : Int) (a0_1 : Int) (a0_2 : Int) (a0_3 : Int) (a0_4 : Int) (l0_5 : List (S63)) (a1_0 : Int) (a1_1 : Int) (a1_2 : Int) (a1_3 : Int) (a1_4 : Int) (a1_5 : Int) (a2_0 : Int) (a2_1 : Int) (a2_2 : Int) (a2_3 : Int) (a2_4 : Int) (a2_5 : Int) : Option (Bool) := (smaltolaw03_Rack_made.f a0_0 a0_1 a0_2 a0_3 a0_4 l0_5).bind fun bt104 => (lP.l0 k bt104.2.2.2.2.2 (([] : List Int)) (([] : List Int)) 0 a1_0 a1_1 a1_2 a1_3 a1_4 a1_5 a2_0 a2_1 a2_2 a2_3 a2_4 a2_5 bt104.1 bt104.2.1 bt104.2.2.1 bt104.2.2.2.1 bt104.2.2.2.2.1)
theorem lP.mono_l : ∀ k, (∀ y0 y1 y2 y3 y4 y5 y6 y7 y8 y9 y10 y11 y12 y13 y14 y15 y16 y17 y18 y19 y20, LeO (lP.l0 k y0 y1 y2 y3 y4 y5 y6 y7 y8 y9 y10 y11 y12 y13 y14 y15 y16 y17 y18 y19 y20) (lP.l0 (k + 1) y0 y1 y2 y3 y4 y5 y6 y7 y8 y9 y10 y11 y12 y13 y14 y15 y16 y17 y18 y19 y20)) ∧ (∀ y0 y1 y2 y3 y4 y5 y6 y7 y8 y9 y10 y11 y12 y13 y14 y15, LeO (lP.l1 k y0 y1 y2 y3 y4 y5 y6 y7 y8 y9 y10 y11 y12 y13 y14 y15) (lP.l1 (k + 1) y0 y1 y2 y3 y4 y5 y6 y7 y8 y9 y10 y11 y12 y13 y14 y15)) ∧ (∀ y0 y1 y2 y3 y4 y5 y6 y7 y8 y9 y10 y11 y12, LeO (lP.j2 k y0 y1 y2 y3 y4 y5 y6 y7 y8 y9 y10 y11 y12) (lP.j2 (k + 1) y0 y1 y2 y3 y4 y5 y6 y7 y8 y9 y10 y11 y12)) ∧ (∀ y0 y1 y2 y3 y4 y5 y6 y7 y8 y9 y10 y11 y12 y13 y14 y15 y16, LeO (lP.l23 k y0 y1 y2 y3 y4 y5 y6 y7 y8 y9 y10 y11 y12 y13 y14 y15 y16) (lP.l23 (k + 1) y0 y1 y2 y3 y4 y5 y6 y7 y8 y9 y10 y11 y12 y13 y14 y15 y16)) ∧ (∀ y0 y1 y2 y3 y4 y5 y6 y7 y8 y9 y10 y11 y12 y13 y14 y15 y16, LeO (lP.l43 k y0 y1 y2 y3 y4 y5 y6 y7 y8 y9 y10 y11 y12 y13 y14 y15 y16) (lP.l43 (k + 1) y0 y1 y2 y3 y4 y5 y6 y7 y8 y9 y10 y11 y12 y13 y14 y15 y16)) ∧ (∀ y0 y1 y2 y3 y4 y5 y6 y7 y8 y9 y10 y11 y12 y13 y14 y15 y16, LeO (lP.l63 k y0 y1 y2 y3 y4 y5 y6 y7 y8 y9 y10 y11 y12 y13 y14 y15 y16) (lP.l63 (k + 1) y0 y1 y2 y3 y4 y5 y6 y7 y8 y9 y10 y11 y12 y13 y14 y15 y16)) ∧ (∀ y0 y1 y2 y3 y4 y5 y6 y7 y8 y9 y10 y11 y12, LeO (lP.l4 k y0 y1 y2 y3 y4 y5 y6 y7 y8 y9 y10 y11 y12) (lP.l4 (k + 1) y0 y1 y2 y3 y4 y5 y6 y7 y8 y9 y10 y11 y12)) ∧ (∀ y0 y1 y2 y3 y4 y5 y6 y7 y8 y9 y10 y11 y12, LeO (lP.j7 k y0 y1 y2 y3 y4 y5 y6 y7 y8 y9 y10 y11 y12) (lP.j7 (k + 1) y0 y1 y2 y3 y4 y5 y6 y7 y8 y9 y10 y11 y12)) ∧ (∀ y0 y1 y2 y3 y4 y5 y6 y7 y8 y9 y10 y11 y12 y13, LeO (lP.j8 k y0 y1 y2 y3 y4 y5 y6 y7 y8 y9 y10 y11 y12 y13) (lP.j8 (k + 1) y0 y1 y2 y3 y4 y5 y6 y7 y8 y9 y10 y11 y12 y13))
  | 0 => ⟨fun _ _ _ _ _ _ _ _ _ _ _ _ _ _ _ _ _ _ _ _ _ r h => by simp [lP.l0] at h, fun _ _ _ _ _ _ _ _ _ _ _ _ _ _ _ _ r h => by simp [lP.l1] at h, fun _ _ _ _ _ _ _ _ _ _ _ _ _ r h => by simp [lP.j2] at h, fun _ _ _ _ _ _ _ _ _ _ _ _ _ _ _ _ _ r h => by simp [lP.l23] at h, fun _ _ _ _ _ _ _ _ _ _ _ _ _ _ _ _ _ r h => by simp [lP.l43] at h, fun _ _ _ _ _ _ _ _ _ _ _ _ _ _ _ _ _ r h => by simp [lP.l63] at h, fun _ _ _ _ _ _ _ _ _ _ _ _ _ r h => by simp [lP.l4] at h, fun _ _ _ _ _ _ _ _ _ _ _ _ _ r h => by simp [lP.j7] at h, fun _ _ _ _ _ _ _ _ _ _ _ _ _ _ r h => by simp [lP.j8] at h⟩
  | k + 1 => by
    obtain ⟨ih0, ih1, ih2, ih3, ih4, ih5, ih6, ih7, ih8⟩ := lP.mono_l k
    refine ⟨?_, ?_, ?_, ?_, ?_, ?_, ?_, ?_, ?_⟩
    · intro y0 y1 y2 y3 y4 y5 y6 y7 y8 y9 y10 y11 y12 y13 y14 y15 y16 y17 y18 y19 y20
      unfold lP.l0
      repeat' first
      | (with_reducible exact ih0 _ _ _ _ _ _ _ _ _ _ _ _ _ _ _ _ _ _ _ _ _)
      | (with_reducible exact ih1 _ _ _ _ _ _ _ _ _ _ _ _ _ _ _ _)
      | (with_reducible exact ih2 _ _ _ _ _ _ _ _ _ _ _ _ _)
      | (with_reducible exact ih3 _ _ _ _ _ _ _ _ _ _ _ _ _ _ _ _ _)
      | (with_reducible exact ih4 _ _ _ _ _ _ _ _ _ _ _ _ _ _ _ _ _)
      | (with_reducible exact ih5 _ _ _ _ _ _ _ _ _ _ _ _ _ _ _ _ _)
      | (with_reducible exact ih6 _ _ _ _ _ _ _ _ _ _ _ _ _)
      | (with_reducible exact ih7 _ _ _ _ _ _ _ _ _ _ _ _ _)
      | (with_reducible exact ih8 _ _ _ _ _ _ _ _ _ _ _ _ _ _)
      | (with_reducible exact smaltolaw03_count.mono _ _)
      | (with_reducible exact smaltolaw03_of.mono _ _ _)
      | (with_reducible exact LeO.refl _)
      | (with_reducible exact LeO.none _)
      | (with_reducible refine LeO.ite ?_ ?_)
      | (with_reducible refine LeO.bind ?_ (fun _ => ?_))
      | exact ih0 _ _ _ _ _ _ _ _ _ _ _ _ _ _ _ _ _ _ _ _ _
      | exact ih1 _ _ _ _ _ _ _ _ _ _ _ _ _ _ _ _
      | exact ih2 _ _ _ _ _ _ _ _ _ _ _ _ _
      | exact ih3 _ _ _ _ _ _ _ _ _ _ _ _ _ _ _ _ _
      | exact ih4 _ _ _ _ _ _ _ _ _ _ _ _ _ _ _ _ _
      | exact ih5 _ _ _ _ _ _ _ _ _ _ _ _ _ _ _ _ _
      | exact ih6 _ _ _ _ _ _ _ _ _ _ _ _ _
      | exact ih7 _ _ _ _ _ _ _ _ _ _ _ _ _
      | exact ih8 _ _ _ _ _ _ _ _ _ _ _ _ _ _
      | exact smaltolaw03_count.mono _ _
      | exact smaltolaw03_of.mono _ _ _
      | exact LeO.none _
      | refine LeO.ite ?_ ?_
      | refine LeO.bind ?_ (fun _ => ?_)
    · intro y0 y1 y2 y3 y4 y5 y6 y7 y8 y9 y10 y11 y12 y13 y14 y15
      unfold lP.l1
      repeat' first
      | (with_reducible exact ih0 _ _ _ _ _ _ _ _ _ _ _ _ _ _ _ _ _ _ _ _ _)
      | (with_reducible exact ih1 _ _ _ _ _ _ _ _ _ _ _ _ _ _ _ _)
      | (with_reducible exact ih2 _ _ _ _ _ _ _ _ _ _ _ _ _)
      | (with_reducible exact ih3 _ _ _ _ _ _ _ _ _ _ _ _ _ _ _ _ _)
      | (with_reducible exact ih4 _ _ _ _ _ _ _ _ _ _ _ _ _ _ _ _ _)
      | (with_reducible exact ih5 _ _ _ _ _ _ _ _ _ _ _ _ _ _ _ _ _)
      | (with_reducible exact ih6 _ _ _ _ _ _ _ _ _ _ _ _ _)
      | (with_reducible exact ih7 _ _ _ _ _ _ _ _ _ _ _ _ _)
      | (with_reducible exact ih8 _ _ _ _ _ _ _ _ _ _ _ _ _ _)
      | (with_reducible exact smaltolaw03_count.mono _ _)
      | (with_reducible exact smaltolaw03_of.mono _ _ _)
      | (with_reducible exact LeO.refl _)
      | (with_reducible exact LeO.none _)
      | (with_reducible refine LeO.ite ?_ ?_)
      | (with_reducible refine LeO.bind ?_ (fun _ => ?_))
      | exact ih0 _ _ _ _ _ _ _ _ _ _ _ _ _ _ _ _ _ _ _ _ _
      | exact ih1 _ _ _ _ _ _ _ _ _ _ _ _ _ _ _ _
      | exact ih2 _ _ _ _ _ _ _ _ _ _ _ _ _
      | exact ih3 _ _ _ _ _ _ _ _ _ _ _ _ _ _ _ _ _
      | exact ih4 _ _ _ _ _ _ _ _ _ _ _ _ _ _ _ _ _
      | exact ih5 _ _ _ _ _ _ _ _ _ _ _ _ _ _ _ _ _
      | exact ih6 _ _ _ _ _ _ _ _ _ _ _ _ _
      | exact ih7 _ _ _ _ _ _ _ _ _ _ _ _ _
      | exact ih8 _ _ _ _ _ _ _ _ _ _ _ _ _ _
      | exact smaltolaw03_count.mono _ _
      | exact smaltolaw03_of.mono _ _ _
      | exact LeO.none _
      | refine LeO.ite ?_ ?_
      | refine LeO.bind ?_ (fun _ => ?_)
    · intro y0 y1 y2 y3 y4 y5 y6 y7 y8 y9 y10 y11 y12
      unfold lP.j2
      repeat' first
      | (with_reducible exact ih0 _ _ _ _ _ _ _ _ _ _ _ _ _ _ _ _ _ _ _ _ _)
      | (with_reducible exact ih1 _ _ _ _ _ _ _ _ _ _ _ _ _ _ _ _)
      | (with_reducible exact ih2 _ _ _ _ _ _ _ _ _ _ _ _ _)
      | (with_reducible exact ih3 _ _ _ _ _ _ _ _ _ _ _ _ _ _ _ _ _)
      | (with_reducible exact ih4 _ _ _ _ _ _ _ _ _ _ _ _ _ _ _ _ _)
      | (with_reducible exact ih5 _ _ _ _ _ _ _ _ _ _ _ _ _ _ _ _ _)
      | (with_reducible exact ih6 _ _ _ _ _ _ _ _ _ _ _ _ _)
      | (with_reducible exact ih7 _ _ _ _ _ _ _ _ _ _ _ _ _)
      | (with_reducible exact ih8 _ _ _ _ _ _ _ _ _ _ _ _ _ _)
      | (with_reducible exact smaltolaw03_count.mono _ _)
      | (with_reducible exact smaltolaw03_of.mono _ _ _)
      | (with_reducible exact LeO.refl _)
      | (with_reducible exact LeO.none _)
      | (with_reducible refine LeO.ite ?_ ?_)
      | (with_reducible refine LeO.bind ?_ (fun _ => ?_))
      | exact ih0 _ _ _ _ _ _ _ _ _ _ _ _ _ _ _ _ _ _ _ _ _
      | exact ih1 _ _ _ _ _ _ _ _ _ _ _ _ _ _ _ _
      | exact ih2 _ _ _ _ _ _ _ _ _ _ _ _ _
      | exact ih3 _ _ _ _ _ _ _ _ _ _ _ _ _ _ _ _ _
      | exact ih4 _ _ _ _ _ _ _ _ _ _ _ _ _ _ _ _ _
      | exact ih5 _ _ _ _ _ _ _ _ _ _ _ _ _ _ _ _ _
      | exact ih6 _ _ _ _ _ _ _ _ _ _ _ _ _
      | exact ih7 _ _ _ _ _ _ _ _ _ _ _ _ _
      | exact ih8 _ _ _ _ _ _ _ _ _ _ _ _ _ _
      | exact smaltolaw03_count.mono _ _
      | exact smaltolaw03_of.mono _ _ _
      | exact LeO.none _
      | refine LeO.ite ?_ ?_
      | refine LeO.bind ?_ (fun _ => ?_)
    · intro y0 y1 y2 y3 y4 y5 y6 y7 y8 y9 y10 y11 y12 y13 y14 y15 y16
      unfold lP.l23
      repeat' first
      | (with_reducible exact ih0 _ _ _ _ _ _ _ _ _ _ _ _ _ _ _ _ _ _ _ _ _)
      | (with_reducible exact ih1 _ _ _ _ _ _ _ _ _ _ _ _ _ _ _ _)
      | (with_reducible exact ih2 _ _ _ _ _ _ _ _ _ _ _ _ _)
      | (with_reducible exact ih3 _ _ _ _ _ _ _ _ _ _ _ _ _ _ _ _ _)
      | (with_reducible exact ih4 _ _ _ _ _ _ _ _ _ _ _ _ _ _ _ _ _)
      | (with_reducible exact ih5 _ _ _ _ _ _ _ _ _ _ _ _ _ _ _ _ _)
      | (with_reducible exact ih6 _ _ _ _ _ _ _ _ _ _ _ _ _)
      | (with_reducible exact ih7 _ _ _ _ _ _ _ _ _ _ _ _ _)
      | (with_reducible exact ih8 _ _ _ _ _ _ _ _ _ _ _ _ _ _)
      | (with_reducible exact smaltolaw03_count.mono _ _)
      | (with_reducible exact smaltolaw03_of.mono _ _ _)
      | (with_reducible exact LeO.refl _)
      | (with_reducible exact LeO.none _)
      | (with_reducible refine LeO.ite ?_ ?_)
      | (with_reducible refine LeO.bind ?_ (fun _ => ?_))
      | exact ih0 _ _ _ _ _ _ _ _ _ _ _ _ _ _ _ _ _ _ _ _ _
      | exact ih1 _ _ _ _ _ _ _ _ _ _ _ _ _ _ _ _
      | exact ih2 _ _ _ _ _ _ _ _ _ _ _ _ _
      | exact ih3 _ _ _ _ _ _ _ _ _ _ _ _ _ _ _ _ _
      | exact ih4 _ _ _ _ _ _ _ _ _ _ _ _ _ _ _ _ _
      | exact ih5 _ _ _ _ _ _ _ _ _ _ _ _ _ _ _ _ _
      | exact ih6 _ _ _ _ _ _ _ _ _ _ _ _ _
      | exact ih7 _ _ _ _ _ _ _ _ _ _ _ _ _
      | exact ih8 _ _ _ _ _ _ _ _ _ _ _ _ _ _
      | exact smaltolaw03_count.mono _ _
      | exact smaltolaw03_of.mono _ _ _
      | exact LeO.none _
      | refine LeO.ite ?_ ?_
      | refine LeO.bind ?_ (fun _ => ?_)
    · intro y0 y1 y2 y3 y4 y5 y6 y7 y8 y9 y10 y11 y12 y13 y14 y15 y16
      unfold lP.l43
      repeat' first
      | (with_reducible exact ih0 _ _ _ _ _ _ _ _ _ _ _ _ _ _ _ _ _ _ _ _ _)
      | (with_reducible exact ih1 _ _ _ _ _ _ _ _ _ _ _ _ _ _ _ _)
      | (with_reducible exact ih2 _ _ _ _ _ _ _ _ _ _ _ _ _)
      | (with_reducible exact ih3 _ _ _ _ _ _ _ _ _ _ _ _ _ _ _ _ _)
      | (with_reducible exact ih4 _ _ _ _ _ _ _ _ _ _ _ _ _ _ _ _ _)
      | (with_reducible exact ih5 _ _ _ _ _ _ _ _ _ _ _ _ _ _ _ _ _)
      | (with_reducible exact ih6 _ _ _ _ _ _ _ _ _ _ _ _ _)
      | (with_reducible exact ih7 _ _ _ _ _ _ _ _ _ _ _ _ _)
      | (with_reducible exact ih8 _ _ _ _ _ _ _ _ _ _ _ _ _ _)
      | (with_reducible exact smaltolaw03_count.mono _ _)
      | (with_reducible exact smaltolaw03_of.mono _ _ _)
      | (with_reducible exact LeO.refl _)
      | (with_reducible exact LeO.none _)
      | (with_reducible refine LeO.ite ?_ ?_)
      | (with_reducible refine LeO.bind ?_ (fun _ => ?_))
      | exact ih0 _ _ _ _ _ _ _ _ _ _ _ _ _ _ _ _ _ _ _ _ _
      | exact ih1 _ _ _ _ _ _ _ _ _ _ _ _ _ _ _ _
      | exact ih2 _ _ _ _ _ _ _ _ _ _ _ _ _
      | exact ih3 _ _ _ _ _ _ _ _ _ _ _ _ _ _ _ _ _
      | exact ih4 _ _ _ _ _ _ _ _ _ _ _ _ _ _ _ _ _
      | exact ih5 _ _ _ _ _ _ _ _ _ _ _ _ _ _ _ _ _
      | exact ih6 _ _ _ _ _ _ _ _ _ _ _ _ _
      | exact ih7 _ _ _ _ _ _ _ _ _ _ _ _ _
      | exact ih8 _ _ _ _ _ _ _ _ _ _ _ _ _ _
      | exact smaltolaw03_count.mono _ _
      | exact smaltolaw03_of.mono _ _ _
      | exact LeO.none _
      | refine LeO.ite ?_ ?_
      | refine LeO.bind ?_ (fun _ => ?_)
    · intro y0 y1 y2 y3 y4 y5 y6 y7 y8 y9 y10 y11 y12 y13 y14 y15 y16
      unfold lP.l63
      repeat' first
      | (with_reducible exact ih0 _ _ _ _ _ _ _ _ _ _ _ _ _ _ _ _ _ _ _ _ _)
      | (with_reducible exact ih1 _ _ _ _ _ _ _ _ _ _ _ _ _ _ _ _)
      | (with_reducible exact ih2 _ _ _ _ _ _ _ _ _ _ _ _ _)
      | (with_reducible exact ih3 _ _ _ _ _ _ _ _ _ _ _ _ _ _ _ _ _)
      | (with_reducible exact ih4 _ _ _ _ _ _ _ _ _ _ _ _ _ _ _ _ _)
      | (with_reducible exact ih5 _ _ _ _ _ _ _ _ _ _ _ _ _ _ _ _ _)
      | (with_reducible exact ih6 _ _ _ _ _ _ _ _ _ _ _ _ _)
      | (with_reducible exact ih7 _ _ _ _ _ _ _ _ _ _ _ _ _)
      | (with_reducible exact ih8 _ _ _ _ _ _ _ _ _ _ _ _ _ _)
      | (with_reducible exact smaltolaw03_count.mono _ _)
      | (with_reducible exact smaltolaw03_of.mono _ _ _)
      | (with_reducible exact LeO.refl _)
      | (with_reducible exact LeO.none _)
      | (with_reducible refine LeO.ite ?_ ?_)
      | (with_reducible refine LeO.bind ?_ (fun _ => ?_))
      | exact ih0 _ _ _ _ _ _ _ _ _ _ _ _ _ _ _ _ _ _ _ _ _
      | exact ih1 _ _ _ _ _ _ _ _ _ _ _ _ _ _ _ _
      | exact ih2 _ _ _ _ _ _ _ _ _ _ _ _ _
      | exact ih3 _ _ _ _ _ _ _ _ _ _ _ _ _ _ _ _ _
      | exact ih4 _ _ _ _ _ _ _ _ _ _ _ _ _ _ _ _ _
      | exact ih5 _ _ _ _ _ _ _ _ _ _ _ _ _ _ _ _ _
      | exact ih6 _ _ _ _ _ _ _ _ _ _ _ _ _
      | exact ih7 _ _ _ _ _ _ _ _ _ _ _ _ _
      | exact ih8 _ _ _ _ _ _ _ _ _ _ _ _ _ _
      | exact smaltolaw03_count.mono _ _
      | exact smaltolaw03_of.mono _ _ _
      | exact LeO.none _
      | refine LeO.ite ?_ ?_
      | refine LeO.bind ?_ (fun _ => ?_)
    · intro y0 y1 y2 y3 y4 y5 y6 y7 y8 y9 y10 y11 y12
      unfold lP.l4
      repeat' first
      | (with_reducible exact ih0 _ _ _ _ _ _ _ _ _ _ _ _ _ _ _ _ _ _ _ _ _)
      | (with_reducible exact ih1 _ _ _ _ _ _ _ _ _ _ _ _ _ _ _ _)
      | (with_reducible exact ih2 _ _ _ _ _ _ _ _ _ _ _ _ _)
      | (with_reducible exact ih3 _ _ _ _ _ _ _ _ _ _ _ _ _ _ _ _ _)
      | (with_reducible exact ih4 _ _ _ _ _ _ _ _ _ _ _ _ _ _ _ _ _)
      | (with_reducible exact ih5 _ _ _ _ _ _ _ _ _ _ _ _ _ _ _ _ _)
      | (with_reducible exact ih6 _ _ _ _ _ _ _ _ _ _ _ _ _)
      | (with_reducible exact ih7 _ _ _ _ _ _ _ _ _ _ _ _ _)
      | (with_reducible exact ih8 _ _ _ _ _ _ _ _ _ _ _ _ _ _)
      | (with_reducible exact smaltolaw03_count.mono _ _)
      | (with_reducible exact smaltolaw03_of.mono _ _ _)
      | (with_reducible exact LeO.refl _)
      | (with_reducible exact LeO.none _)
      | (with_reducible refine LeO.ite ?_ ?_)
      | (with_reducible refine LeO.bind ?_ (fun _ => ?_))
      | exact ih0 _ _ _ _ _ _ _ _ _ _ _ _ _ _ _ _ _ _ _ _ _
      | exact ih1 _ _ _ _ _ _ _ _ _ _ _ _ _ _ _ _
      | exact ih2 _ _ _ _ _ _ _ _ _ _ _ _ _
      | exact ih3 _ _ _ _ _ _ _ _ _ _ _ _ _ _ _ _ _
      | exact ih4 _ _ _ _ _ _ _ _ _ _ _ _ _ _ _ _ _
      | exact ih5 _ _ _ _ _ _ _ _ _ _ _ _ _ _ _ _ _
      | exact ih6 _ _ _ _ _ _ _ _ _ _ _ _ _
      | exact ih7 _ _ _ _ _ _ _ _ _ _ _ _ _
      | exact ih8 _ _ _ _ _ _ _ _ _ _ _ _ _ _
      | exact smaltolaw03_count.mono _ _
      | exact smaltolaw03_of.mono _ _ _
      | exact LeO.none _
      | refine LeO.ite ?_ ?_
      | refine LeO.bind ?_ (fun _ => ?_)
    · intro y0 y1 y2 y3 y4 y5 y6 y7 y8 y9 y10 y11 y12
      unfold lP.j7
      repeat' first
      | (with_reducible exact ih0 _ _ _ _ _ _ _ _ _ _ _ _ _ _ _ _ _ _ _ _ _)
      | (with_reducible exact ih1 _ _ _ _ _ _ _ _ _ _ _ _ _ _ _ _)
      | (with_reducible exact ih2 _ _ _ _ _ _ _ _ _ _ _ _ _)
      | (with_reducible exact ih3 _ _ _ _ _ _ _ _ _ _ _ _ _ _ _ _ _)
      | (with_reducible exact ih4 _ _ _ _ _ _ _ _ _ _ _ _ _ _ _ _ _)
      | (with_reducible exact ih5 _ _ _ _ _ _ _ _ _ _ _ _ _ _ _ _ _)
      | (with_reducible exact ih6 _ _ _ _ _ _ _ _ _ _ _ _ _)
      | (with_reducible exact ih7 _ _ _ _ _ _ _ _ _ _ _ _ _)
      | (with_reducible exact ih8 _ _ _ _ _ _ _ _ _ _ _ _ _ _)
      | (with_reducible exact smaltolaw03_count.mono _ _)
      | (with_reducible exact smaltolaw03_of.mono _ _ _)
      | (with_reducible exact LeO.refl _)
      | (with_reducible exact LeO.none _)
      | (with_reducible refine LeO.ite ?_ ?_)
      | (with_reducible refine LeO.bind ?_ (fun _ => ?_))
      | exact ih0 _ _ _ _ _ _ _ _ _ _ _ _ _ _ _ _ _ _ _ _ _
      | exact ih1 _ _ _ _ _ _ _ _ _ _ _ _ _ _ _ _
      | exact ih2 _ _ _ _ _ _ _ _ _ _ _ _ _
      | exact ih3 _ _ _ _ _ _ _ _ _ _ _ _ _ _ _ _ _
      | exact ih4 _ _ _ _ _ _ _ _ _ _ _ _ _ _ _ _ _
      | exact ih5 _ _ _ _ _ _ _ _ _ _ _ _ _ _ _ _ _
      | exact ih6 _ _ _ _ _ _ _ _ _ _ _ _ _
      | exact ih7 _ _ _ _ _ _ _ _ _ _ _ _ _
      | exact ih8 _ _ _ _ _ _ _ _ _ _ _ _ _ _
      | exact smaltolaw03_count.mono _ _
      | exact smaltolaw03_of.mono _ _ _
      | exact LeO.none _
      | refine LeO.ite ?_ ?_
      | refine LeO.bind ?_ (fun _ => ?_)
    · intro y0 y1 y2 y3 y4 y5 y6 y7 y8 y9 y10 y11 y12 y13
      unfold lP.j8
      repeat' first
      | (with_reducible exact ih0 _ _ _ _ _ _ _ _ _ _ _ _ _ _ _ _ _ _ _ _ _)
      | (with_reducible exact ih1 _ _ _ _ _ _ _ _ _ _ _ _ _ _ _ _)
      | (with_reducible exact ih2 _ _ _ _ _ _ _ _ _ _ _ _ _)
      | (with_reducible exact ih3 _ _ _ _ _ _ _ _ _ _ _ _ _ _ _ _ _)
      | (with_reducible exact ih4 _ _ _ _ _ _ _ _ _ _ _ _ _ _ _ _ _)
      | (with_reducible exact ih5 _ _ _ _ _ _ _ _ _ _ _ _ _ _ _ _ _)
      | (with_reducible exact ih6 _ _ _ _ _ _ _ _ _ _ _ _ _)
      | (with_reducible exact ih7 _ _ _ _ _ _ _ _ _ _ _ _ _)
      | (with_reducible exact ih8 _ _ _ _ _ _ _ _ _ _ _ _ _ _)
      | (with_reducible exact smaltolaw03_count.mono _ _)
      | (with_reducible exact smaltolaw03_of.mono _ _ _)
      | (with_reducible exact LeO.refl _)
      | (with_reducible exact LeO.none _)
      | (with_reducible refine LeO.ite ?_ ?_)
      | (with_reducible refine LeO.bind ?_ (fun _ => ?_))
      | exact ih0 _ _ _ _ _ _ _ _ _ _ _ _ _ _ _ _ _ _ _ _ _
      | exact ih1 _ _ _ _ _ _ _ _ _ _ _ _ _ _ _ _
      | exact ih2 _ _ _ _ _ _ _ _ _ _ _ _ _
      | exact ih3 _ _ _ _ _ _ _ _ _ _ _ _ _ _ _ _ _
      | exact ih4 _ _ _ _ _ _ _ _ _ _ _ _ _ _ _ _ _
      | exact ih5 _ _ _ _ _ _ _ _ _ _ _ _ _ _ _ _ _
      | exact ih6 _ _ _ _ _ _ _ _ _ _ _ _ _
      | exact ih7 _ _ _ _ _ _ _ _ _ _ _ _ _
      | exact ih8 _ _ _ _ _ _ _ _ _ _ _ _ _ _
      | exact smaltolaw03_count.mono _ _
      | exact smaltolaw03_of.mono _ _ _
      | exact LeO.none _
      | refine LeO.ite ?_ ?_
      | refine LeO.bind ?_ (fun _ => ?_)
theorem lP.mono : ∀ a0 a1 a2 a3 a4 a5 a6 a7 a8 a9 a10 a11 a12 a13 a14 a15 a16 a17 k, LeO (lP.f k a0 a1 a2 a3 a4 a5 a6 a7 a8 a9 a10 a11 a12 a13 a14 a15 a16 a17) (lP.f (k + 1) a0 a1 a2 a3 a4 a5 a6 a7 a8 a9 a10 a11 a12 a13 a14 a15 a16 a17) := by
  intro a0 a1 a2 a3 a4 a5 a6 a7 a8 a9 a10 a11 a12 a13 a14 a15 a16 a17 k
  obtain ⟨ih0, ih1, ih2, ih3, ih4, ih5, ih6, ih7, ih8⟩ := lP.mono_l k
  unfold lP.f
  repeat' first
      | (with_reducible exact ih0 _ _ _ _ _ _ _ _ _ _ _ _ _ _ _ _ _ _ _ _ _)
      | (with_reducible exact ih1 _ _ _ _ _ _ _ _ _ _ _ _ _ _ _ _)
      | (with_reducible exact ih2 _ _ _ _ _ _ _ _ _ _ _ _ _)
      | (with_reducible exact ih3 _ _ _ _ _ _ _ _ _ _ _ _ _ _ _ _ _)
      | (with_reducible exact ih4 _ _ _ _ _ _ _ _ _ _ _ _ _ _ _ _ _)
      | (with_reducible exact ih5 _ _ _ _ _ _ _ _ _ _ _ _ _ _ _ _ _)
      | (with_reducible exact ih6 _ _ _ _ _ _ _ _ _ _ _ _ _)
      | (with_reducible exact ih7 _ _ _ _ _ _ _ _ _ _ _ _ _)
      | (with_reducible exact ih8 _ _ _ _ _ _ _ _ _ _ _ _ _ _)
      | (with_reducible exact smaltolaw03_count.mono _ _)
      | (with_reducible exact smaltolaw03_of.mono _ _ _)
      | (with_reducible exact LeO.refl _)
      | (with_reducible exact LeO.none _)
      | (with_reducible refine LeO.ite ?_ ?_)
      | (with_reducible refine LeO.bind ?_ (fun _ => ?_))
      | exact ih0 _ _ _ _ _ _ _ _ _ _ _ _ _ _ _ _ _ _ _ _ _
      | exact ih1 _ _ _ _ _ _ _ _ _ _ _ _ _ _ _ _
      | exact ih2 _ _ _ _ _ _ _ _ _ _ _ _ _
      | exact ih3 _ _ _ _ _ _ _ _ _ _ _ _ _ _ _ _ _
      | exact ih4 _ _ _ _ _ _ _ _ _ _ _ _ _ _ _ _ _
      | exact ih5 _ _ _ _ _ _ _ _ _ _ _ _ _ _ _ _ _
      | exact ih6 _ _ _ _ _ _ _ _ _ _ _ _ _
      | exact ih7 _ _ _ _ _ _ _ _ _ _ _ _ _
      | exact ih8 _ _ _ _ _ _ _ _ _ _ _ _ _ _
      | exact smaltolaw03_count.mono _ _
      | exact smaltolaw03_of.mono _ _ _
      | exact LeO.none _
      | refine LeO.ite ?_ ?_
      | refine LeO.bind ?_ (fun _ => ?_)
def lP.T12 : Bool × List (List Nat × List Nat) := (true, [([], []), ([], []), ([1], [1]), ([], []), ([3, 2], [3]), ([0, 2, 4, 4], [0, 2, 4]), ([5], [5]), ([6], [6]), ([6], [6]), ([6], [6]), ([7, 5, 0, 1, 2, 3, 4, 5, 6, 7], [7]), ([8, 10, 0, 1, 2, 3, 4, 5, 6, 7, 8, 10], [8]), ([9, 11, 0, 1, 2, 3, 4, 5, 6, 7, 8, 9, 10, 11], [9])])
def lP.B12 : List Nat := [0, 0, 2, 0, 14, 31, 63, 127, 127, 127, 255, 1535, 4095]
theorem lP.tab12 : rtab .any (opsOf Tryd.f12 12) = lP.T12 := by kernel_rfl
theorem lP.bits12 : waitsOk lP.T12.2 lP.B12 = true := by kernel_rfl
def lP.T23 : Bool × List (List Nat × List Nat) := (true, [([], []), ([], []), ([1], [1]), ([], []), ([], []), ([3, 4, 2], [3, 4]), ([0, 2, 5, 5], [0, 2, 5]), ([6], [6]), ([7], [7]), ([7], [7]), ([7], [7]), ([8, 6, 0, 1, 2, 3, 4, 5, 6, 7, 8], [8]), ([9, 11, 0, 1, 2, 3, 4, 5, 6, 7, 8, 9, 11], [9]), ([10, 12, 0, 1, 2, 3, 4, 5, 6, 7, 8, 9, 10, 11, 12], [10])])
def lP.B23 : List Nat := [0, 0, 2, 0, 0, 30, 63, 127, 255, 255, 255, 511, 3071, 8191]
theorem lP.tab23 : rtab .any (opsOf Tryd.f12 23) = lP.T23 := by kernel_rfl
theorem lP.bits23 : waitsOk lP.T23.2 lP.B23 = true := by kernel_rfl
def lP.T30 : Bool × List (List Nat × List Nat) := (true, [([], []), ([], []), ([0, 1], [0, 1]), ([2], [2]), ([], []), ([], []), ([4, 5], [4, 5]), ([6], [6]), ([3, 7], [3, 7])])
def lP.B30 : List Nat := [0, 0, 3, 7, 0, 0, 48, 112, 255]
theorem lP.tab30 : rtab .any (opsOf Tryd.f12 30) = lP.T30 := by kernel_rfl
theorem lP.bits30 : waitsOk lP.T30.2 lP.B30 = true := by kernel_rfl
def lP.T32 : Bool × List (List Nat × List Nat) := (true, [([], []), ([0], [0]), ([1], [1]), ([2], [2]), ([2], [2]), ([3, 4, 2], [2, 3, 4]), ([5, 2], [2, 5]), ([2], [2]), ([2], [2]), ([7, 8, 2], [2, 7, 8]), ([9, 2], [2, 9]), ([6, 10, 2], [2, 6, 10]), ([2, 11], [2, 11])])
def lP.B32 : List Nat := [0, 1, 3, 7, 7, 31, 63, 7, 7, 391, 903, 2047, 4095]
theorem lP.tab32 : rtab .any (opsOf Tryd.f12 32) = lP.T32 := by kernel_rfl
theorem lP.bits32 : waitsOk lP.T32.2 lP.B32 = true := by kernel_rfl
end Go.Proofs.YtbijamlgcebgeaaDoor.Q
-- part PJ
namespace Go.Proofs.YtbijamlgcebgeaaDoor.Hand
open Go.RowKit Go.Shelf Go.Sort Go.Proofs.YtbijamlgcebgeaaDoorW.PrintWords Go.Proofs.YtbijamlgcebgeaaDoorW.PrintMore Go.Proofs.YtbijamlgcebgeaaDoor.Q
theorem put_fold (loads : List Int) : ∀ (L : List (List Int)) (y0 : List Int) (k0 : Nat), ∃ x k, L.foldl (putStep2 loads) (some (y0, k0)) = some (x, k) ∧ (x = y0 ∧ k = k0 ∨ x ∈ L ∧ k = farK x loads x.length) ∧ k ≤ k0 ∧ ∀ y ∈ L, k ≤ farK y loads y.length := by
  intro L
  induction L with
  | nil => intro y0 k0; exact ⟨y0, k0, rfl, .inl ⟨rfl, rfl⟩, Nat.le_refl _, by simp⟩
  | cons z L ih =>
    intro y0 k0
    rw [List.foldl_cons]
    have hs : putStep2 loads (some (y0, k0)) z = if farK z loads z.length < k0 then some (z, farK z loads z.length) else some (y0, k0) := rfl
    rw [hs]
    split
    · rename_i h
      obtain ⟨x, k, e, h1, h2, h3⟩ := ih z (farK z loads z.length)
      refine ⟨x, k, e, ?_, by omega, ?_⟩
      · rcases h1 with ⟨rfl, rfl⟩ | ⟨h1, rfl⟩
        · exact .inr ⟨List.mem_cons_self, rfl⟩
        · exact .inr ⟨List.mem_cons_of_mem _ h1, rfl⟩
      · intro y hy
        rcases List.mem_cons.1 hy with rfl | hy
        · exact h2
        · exact h3 y hy
    · rename_i h
      obtain ⟨x, k, e, h1, h2, h3⟩ := ih y0 k0
      refine ⟨x, k, e, ?_, h2, ?_⟩
      · rcases h1 with ⟨rfl, rfl⟩ | ⟨h1, rfl⟩
        · exact .inl ⟨rfl, rfl⟩
        · exact .inr ⟨List.mem_cons_of_mem _ h1, rfl⟩
      · intro y hy
        rcases List.mem_cons.1 hy with rfl | hy
        · omega
        · exact h3 y hy
theorem put_none {F : Furn} {loads : List Int} {m : Nat} (h : putO F loads m = none) : listsL F m = [] := by
  unfold putO at h
  cases hL : listsL F m with
  | nil => rfl
  | cons z L =>
    rw [hL, List.foldl_cons] at h
    obtain ⟨x, k, e, _⟩ := put_fold loads L z (farK z loads z.length)
    have hs : putStep2 loads none z = some (z, farK z loads z.length) := rfl
    rw [hs, e] at h
    cases h
theorem put_some {F : Furn} {loads : List Int} {m : Nat} {x : List Int} {k : Nat} (h : putO F loads m = some (x, k)) : x ∈ listsL F m ∧ k = farK x loads x.length ∧ ∀ y ∈ listsL F m, k ≤ farK y loads y.length := by
  unfold putO at h
  cases hL : listsL F m with
  | nil => rw [hL] at h; cases h
  | cons z L =>
    rw [hL, List.foldl_cons] at h
    obtain ⟨x', k', e, h1, h2, h3⟩ := put_fold loads L z (farK z loads z.length)
    have hs : putStep2 loads none z = some (z, farK z loads z.length) := rfl
    rw [hs, e] at h
    obtain ⟨rfl, rfl⟩ := Prod.mk.inj (Option.some.inj h)
    refine ⟨?_, ?_, ?_⟩
    · rcases h1 with ⟨rfl, _⟩ | ⟨h1, _⟩
      · exact List.mem_cons_self
      · exact List.mem_cons_of_mem _ h1
    · rcases h1 with ⟨rfl, rfl⟩ | ⟨_, h1⟩
      · rfl
      · exact h1
    · intro y hy
      rcases List.mem_cons.1 hy with rfl | hy
      · exact h2
      · exact h3 y hy
theorem far_self (x : List Int) (k : Nat) : farK x x k = 0 := by
  unfold farK
  rw [List.length_eq_zero_iff, List.filter_eq_nil_iff]
  intro i _
  simp
theorem far_zero {x loads : List Int} (hl : x.length = loads.length) (h : farK x loads x.length = 0) : x = loads := by
  unfold farK at h
  rw [List.length_eq_zero_iff, List.filter_eq_nil_iff] at h
  refine List.ext_getElem hl (fun i h1 h2 => ?_)
  have := h i (List.mem_range.2 h1)
  simp only [bne_iff_ne, ne_eq, Decidable.not_not] at this
  rwa [rd_get h1, rd_get h2] at this
theorem max_count (x : List Int) : ∀ k, k ≤ x.length → maxK x k + 1 = countI (x.take k) := by
  intro k
  induction k with
  | zero => intro _; rfl
  | succ k ih =>
    intro hk
    have h1 := ih (by omega)
    have h2 : countI (x.take (k + 1)) = mx (countI (x.take k)) (rd x k + 1) := fold_take hk _ _
    rw [maxK_succ, h2, ← h1]
    unfold mx
    split <;> split <;> omega
theorem allIn_of {x : List Int} (h : ∀ y ∈ x, 0 ≤ y ∧ y < ((6 : Nat) : Int)) : allIn 0 5 x = true := by
  unfold allIn
  rw [Bool.not_eq_true', List.any_eq_false]
  intro y hy
  have := h y hy
  unfold outB
  simp
  omega
theorem put_f {F : Furn} (hF : F.Ok) {loads : List Int} (hl : loads.length = F.l.length) (hr : ∀ y ∈ loads, 0 ≤ y ∧ y < ((6 : Nat) : Int)) :
    fork_Put.f F.bars F.length F.gap F.load F.near F.l loads = some (match putO F loads (countI loads).toNat with | none => ([], 0, 7) | some (x, m) => (x, ((m : Nat) : Int), 0)) := by
  obtain ⟨s, hs⟩ := new_nil hF
  have hm := max_count loads loads.length (Nat.le_refl _)
  rw [List.take_of_length_le (Nat.le_refl _)] at hm
  unfold fork_Put.f putI putR
  rw [hs]
  dsimp only
  rw [if_pos (by rw [allIn_of hr]; simp [hl]), hm]
  have hF' : mkF F.bars F.length F.gap F.load F.near F.l = F := rfl
  rw [hF']
  cases putO F loads (countI loads).toNat with
  | none => rfl
  | some z => obtain ⟨x, m⟩ := z; rfl
def modL (cs : List Int) (m : Int) (i : Nat) : List Int := (List.range i).map fun (j : Nat) => rd cs j % m
theorem modL_succ (cs : List Int) (m : Int) (i : Nat) : modL cs m (i + 1) = modL cs m i ++ [rd cs i % m] := by unfold modL; rw [List.range_succ, List.map_append]; rfl
theorem modL_len (cs : List Int) (m : Int) (i : Nat) : (modL cs m i).length = i := by unfold modL; simp
theorem modL_in (cs : List Int) {m : Int} (i : Nat) (hm : 0 < i → 0 < m) : ∀ y ∈ modL cs m i, 0 ≤ y ∧ y < m := by
  intro y hy
  unfold modL at hy
  obtain ⟨j, hj, rfl⟩ := List.mem_map.1 hy
  have := hm (by have := List.mem_range.1 hj; omega)
  exact ⟨Int.emod_nonneg _ (by omega), Int.emod_lt_of_pos _ this⟩
theorem fits_of {F : Furn} {m : Nat} {x : List Int} (h : Good F m x) (t : Nat) : fitsT F x t = true := by
  unfold fitsT
  rw [List.all_eq_true]
  intro j _
  exact h.goes j
section
variable {F : Furn}
theorem put_l63 {x loads tried tO : List Int} {most moved e : Int} {r0 r1 : Bool} {c : Nat} (hF : F.Ok) (hx : x.length ≤ F.l.length) (hc : 10 ≤ c) (H : ∀ q, c ≤ q → lP.l4 q F.l loads tried most tO moved e 0 0 0 r0 r1 (fitsT F x 6) = some true) : ∀ d (t q : Nat), t + d = 6 → d + c + 1 ≤ q →
    lP.l63 q F.l loads tried most tO moved e x t F.bars F.length F.gap F.load F.near r0 r1 (fitsT F x t) = some true := by
  have hl := hF.len
  intro d
  induction d with
  | zero =>
    intro t q ht hq
    obtain ⟨q, rfl⟩ : ∃ p, q = p + 1 := ⟨q - 1, by omega⟩
    rw [lP.l63, if_neg (by omega), show t = 6 by omega]
    exact H q (by omega)
  | succ d ih =>
    intro t q ht hq
    obtain ⟨q, rfl⟩ : ∃ p, q = p + 1 := ⟨q - 1, by omega⟩
    have := ih (t + 1) q (by omega) (by omega)
    rw [show ((t + 1 : Nat) : Int) = (t : Int) + 1 by omega, fitsT_succ] at this
    obtain ⟨p, hgo⟩ := goesC_f hF (is := idx x t) (idx_asc _ _) (fun a ha => by have := (idx_mem.1 ha).1; omega)
    rw [lP.l63, if_pos (by omega), own_f (by omega)]
    simp only [bs]
    rw [of_f (by omega) _ _ (by omega)]
    simp only [bs]
    have ho : ofL x t = (idx x t).map Int.ofNat := rfl
    rw [ho, hgo]
    simp only [bs]
    rw [w64 (x := (t : Int) + 1) (by omega)]
    cases hft : fitsT F x t
    · rw [if_neg (by decide)]
      rwa [hft, Bool.false_and] at this
    · rw [if_pos rfl]
      rwa [hft, Bool.true_and] at this
theorem put_l43 {x loads tried tO : List Int} {most moved e : Int} {r0 r2 : Bool} {c : Nat} (hF : F.Ok) (hx : x.length ≤ F.l.length) (hc : 10 ≤ c) (H : ∀ q, c ≤ q → lP.l63 q F.l loads tried most tO moved e tO 0 F.bars F.length F.gap F.load F.near r0 (fitsT F x 6) r2 = some true) : ∀ d (t q : Nat), t + d = 6 → d + c + 1 ≤ q →
    lP.l43 q F.l loads tried most tO moved e x t F.bars F.length F.gap F.load F.near r0 (fitsT F x t) r2 = some true := by
  have hl := hF.len
  intro d
  induction d with
  | zero =>
    intro t q ht hq
    obtain ⟨q, rfl⟩ : ∃ p, q = p + 1 := ⟨q - 1, by omega⟩
    rw [lP.l43, if_neg (by omega), show t = 6 by omega]
    exact H q (by omega)
  | succ d ih =>
    intro t q ht hq
    obtain ⟨q, rfl⟩ : ∃ p, q = p + 1 := ⟨q - 1, by omega⟩
    have := ih (t + 1) q (by omega) (by omega)
    rw [show ((t + 1 : Nat) : Int) = (t : Int) + 1 by omega, fitsT_succ] at this
    obtain ⟨p, hgo⟩ := goesC_f hF (is := idx x t) (idx_asc _ _) (fun a ha => by have := (idx_mem.1 ha).1; omega)
    rw [lP.l43, if_pos (by omega), own_f (by omega)]
    simp only [bs]
    rw [of_f (by omega) _ _ (by omega)]
    simp only [bs]
    have ho : ofL x t = (idx x t).map Int.ofNat := rfl
    rw [ho, hgo]
    simp only [bs]
    rw [w64 (x := (t : Int) + 1) (by omega)]
    cases hft : fitsT F x t
    · rw [if_neg (by decide)]
      rwa [hft, Bool.false_and] at this
    · rw [if_pos rfl]
      rwa [hft, Bool.true_and] at this
theorem put_l23 {x loads tried tO : List Int} {most moved e : Int} {r1 r2 : Bool} {c : Nat} (hF : F.Ok) (hx : x.length ≤ F.l.length) (hc : 10 ≤ c) (H : ∀ q, c ≤ q → lP.l43 q F.l loads tried most tO moved e tried 0 F.bars F.length F.gap F.load F.near (fitsT F x 6) r1 r2 = some true) : ∀ d (t q : Nat), t + d = 6 → d + c + 1 ≤ q →
    lP.l23 q F.l loads tried most tO moved e x t F.bars F.length F.gap F.load F.near (fitsT F x t) r1 r2 = some true := by
  have hl := hF.len
  intro d
  induction d with
  | zero =>
    intro t q ht hq
    obtain ⟨q, rfl⟩ : ∃ p, q = p + 1 := ⟨q - 1, by omega⟩
    rw [lP.l23, if_neg (by omega), show t = 6 by omega]
    exact H q (by omega)
  | succ d ih =>
    intro t q ht hq
    obtain ⟨q, rfl⟩ : ∃ p, q = p + 1 := ⟨q - 1, by omega⟩
    have := ih (t + 1) q (by omega) (by omega)
    rw [show ((t + 1 : Nat) : Int) = (t : Int) + 1 by omega, fitsT_succ] at this
    obtain ⟨p, hgo⟩ := goesC_f hF (is := idx x t) (idx_asc _ _) (fun a ha => by have := (idx_mem.1 ha).1; omega)
    rw [lP.l23, if_pos (by omega), own_f (by omega)]
    simp only [bs]
    rw [of_f (by omega) _ _ (by omega)]
    simp only [bs]
    have ho : ofL x t = (idx x t).map Int.ofNat := rfl
    rw [ho, hgo]
    simp only [bs]
    rw [w64 (x := (t : Int) + 1) (by omega)]
    cases hft : fitsT F x t
    · rw [if_neg (by decide)]
      rwa [hft, Bool.false_and] at this
    · rw [if_pos rfl]
      rwa [hft, Bool.true_and] at this
/-- The last loop where Put has an answer. -/
theorem put_l4 {loads tried tO : List Int} {most : Int} {r0 r1 : Bool} (hF : F.Ok) (hl : loads.length = F.l.length) (ht : tried.length = F.l.length) (ho : tO.length = F.l.length) (hr : ∀ y ∈ tO, 0 ≤ y ∧ y < most)
    (h0 : r0 = true ↔ farK tO loads F.l.length = 0) (h1 : r1 = true → farK tO loads F.l.length ≤ farK tried loads F.l.length) : ∀ d (i q : Nat), i + d = F.l.length → 3 * d + 1 ≤ q →
    lP.l4 q F.l loads tried most tO ((farK tO loads F.l.length : Nat) : Int) 0 ((farK tried loads i : Nat) : Int) ((farK tO loads i : Nat) : Int) i r0 r1 true = some true := by
  have hl6 := hF.len
  intro d
  induction d with
  | zero =>
    intro i q hi hq
    obtain ⟨q, rfl⟩ : ∃ p, q = p + 1 := ⟨q - 1, by omega⟩
    obtain rfl : i = F.l.length := by omega
    rw [lP.l4, if_neg (by omega), if_pos rfl, if_pos rfl, if_pos rfl]
    have hk : (knownC.f.bind fun _ => some true) = some true := rfl
    rw [hk]
    by_cases hz : farK tO loads F.l.length = 0
    · rw [if_pos (by omega), if_pos (h0.2 hz)]
      split
      · rename_i hr1
        rw [if_pos (by have := h1 hr1; omega)]
      · rfl
    · rw [if_neg (by omega), if_neg (fun h => hz (h0.1 h))]
      split
      · rename_i hr1
        rw [if_pos (by have := h1 hr1; omega)]
      · rfl
  | succ d ih =>
    intro i q hi hq
    obtain ⟨q, rfl⟩ : ∃ p, q = p + 1 + 1 + 1 := ⟨q - 3, by omega⟩
    have := ih (i + 1) q (by omega) (by omega)
    have f1 := farK_le tried loads i
    have f2 := farK_le tO loads i
    have hti : i < tO.length := by omega
    have hto := hr _ (List.getElem_mem hti)
    rw [← rd_get hti] at hto
    have hj8 : ∀ b : Bool, b = (rd tO i != rd loads i) → lP.j8 (q + 1) F.l loads tried most tO ((farK tO loads F.l.length : Nat) : Int) 0 ((farK tried loads (i + 1) : Nat) : Int) ((farK tO loads i : Nat) : Int) i b r0 r1 true = some true := by
      intro b hb
      rw [farK_succ tO, ← hb, show ((i + 1 : Nat) : Int) = (i : Int) + 1 by omega] at this
      rw [lP.j8, w64 (x := ((farK tO loads i : Nat) : Int) + 1) (by omega), w64 (x := (i : Int) + 1) (by omega)]
      cases b
      · rw [if_neg (by decide), if_pos rfl, if_pos (by omega), if_pos (by omega), if_neg (by omega), if_neg (by omega)]
        rw [if_neg (by decide), Nat.add_zero] at this
        exact this
      · rw [if_pos rfl, if_pos rfl, if_pos (by omega), if_pos (by omega), if_neg (by omega), if_neg (by omega)]
        rw [if_pos rfl, show ((farK tO loads i + 1 : Nat) : Int) = ((farK tO loads i : Nat) : Int) + 1 by omega] at this
        exact this
    have hj7 : lP.j7 (q + 1 + 1) F.l loads tried most tO ((farK tO loads F.l.length : Nat) : Int) 0 ((farK tried loads (i + 1) : Nat) : Int) ((farK tO loads i : Nat) : Int) i r0 r1 true = some true := by
      rw [lP.j7, if_pos rfl, if_pos (by omega), if_pos (by omega), if_pos (by omega)]
      exact hj8 _ rfl
    rw [lP.l4, if_pos (by omega), if_pos (by omega), if_pos (by omega), if_pos (by omega)]
    by_cases hd : rd tried i = rd loads i
    · rw [if_pos hd]
      rw [farK_succ tried, if_neg (by simp [hd]), Nat.add_zero] at hj7
      exact hj7
    · rw [if_neg hd, w64 (x := ((farK tried loads i : Nat) : Int) + 1) (by omega)]
      rw [farK_succ tried, if_pos (by simp [hd]), show ((farK tried loads i + 1 : Nat) : Int) = ((farK tried loads i : Nat) : Int) + 1 by omega] at hj7
      exact hj7
/-- The last loop where Put has none. -/
theorem put_l4n {loads tried : List Int} {most : Int} {r2 : Bool} (hF : F.Ok) (hl : loads.length = F.l.length) (ht : tried.length = F.l.length) : ∀ d (i q : Nat), i + d = F.l.length → 3 * d + 1 ≤ q →
    lP.l4 q F.l loads tried most [] 0 7 ((farK tried loads i : Nat) : Int) 0 i false false r2 = some true := by
  have hl6 := hF.len
  intro d
  induction d with
  | zero =>
    intro i q hi hq
    obtain ⟨q, rfl⟩ : ∃ p, q = p + 1 := ⟨q - 1, by omega⟩
    rw [lP.l4, if_neg (by omega), if_neg (by decide), if_neg (by decide), if_neg (by decide)]
    rfl
  | succ d ih =>
    intro i q hi hq
    obtain ⟨q, rfl⟩ : ∃ p, q = p + 1 + 1 + 1 := ⟨q - 3, by omega⟩
    have := ih (i + 1) q (by omega) (by omega)
    have f1 := farK_le tried loads i
    have hj8 : lP.j8 (q + 1) F.l loads tried most [] 0 7 ((farK tried loads (i + 1) : Nat) : Int) 0 i false false false r2 = some true := by
      rw [lP.j8, if_neg (by decide), if_neg (by decide), w64 (x := (i : Int) + 1) (by omega)]
      exact this
    have hj7 : lP.j7 (q + 1 + 1) F.l loads tried most [] 0 7 ((farK tried loads (i + 1) : Nat) : Int) 0 i false false r2 = some true := by
      rw [lP.j7, if_neg (by decide)]
      exact hj8
    rw [lP.l4, if_pos (by omega), if_pos (by omega), if_pos (by omega), if_pos (by omega)]
    by_cases hd : rd tried i = rd loads i
    · rw [if_pos hd]
      rw [farK_succ tried, if_neg (by simp [hd]), Nat.add_zero] at hj7
      exact hj7
    · rw [if_neg hd, w64 (x := ((farK tried loads i : Nat) : Int) + 1) (by omega)]
      rw [farK_succ tried, if_pos (by simp [hd]), show ((farK tried loads i + 1 : Nat) : Int) = ((farK tried loads i : Nat) : Int) + 1 by omega] at hj7
      exact hj7
/-- From the call of Put on. -/
theorem put_tail {loads tried : List Int} (hF : F.Ok) (hl : loads.length = F.l.length) (ht : tried.length = F.l.length) (hr : ∀ y ∈ loads, 0 ≤ y ∧ y < ((6 : Nat) : Int)) (hrt : ∀ y ∈ tried, 0 ≤ y ∧ y < countI loads) :
    ∃ (tO : List Int) (moved e : Int), fork_Put.f F.bars F.length F.gap F.load F.near F.l loads = some (tO, moved, e) ∧ (e = 0 ∧ tO.length = F.l.length ∨ e = 7 ∧ tO = [] ∧ moved = 0) ∧
      ∀ q, 100 ≤ q → lP.l23 q F.l loads tried (countI loads) tO moved e loads 0 F.bars F.length F.gap F.load F.near true true true = some true := by
  have hl6 := hF.len
  have hp := countI_pos loads
  have hc6 : countI loads ≤ 6 := (countI_le loads 0 6).2 ⟨by omega, fun y hy => by have := hr y hy; omega⟩
  obtain ⟨m, hm⟩ : ∃ m, (countI loads).toNat = m := ⟨_, rfl⟩
  have hmI : ((m : Nat) : Int) = countI loads := by omega
  have hm6 : m ≤ 6 := by omega
  have hput := put_f hF hl hr
  rw [hm] at hput
  have hrt6 : ∀ y ∈ tried, 0 ≤ y ∧ y < ((6 : Nat) : Int) := fun y hy => by have := hrt y hy; omega
  have good0 : fitsT F loads 6 = true → Good F m loads := fun h => ⟨hl, fun y hy => ⟨(hr y hy).1, by rw [hmI]; exact countI_lt loads y hy⟩, (fits_good hF hl hr h).goes⟩
  have good1 : fitsT F tried 6 = true → Good F m tried := fun h => ⟨ht, fun y hy => by rw [hmI]; exact hrt y hy, (fits_good hF ht hrt6 h).goes⟩
  have hwalk : ∀ (tO : List Int) (moved e : Int), tO.length ≤ F.l.length → (∀ q, 30 ≤ q → lP.l4 q F.l loads tried (countI loads) tO moved e 0 0 0 (fitsT F loads 6) (fitsT F tried 6) (fitsT F tO 6) = some true) →
      ∀ q, 100 ≤ q → lP.l23 q F.l loads tried (countI loads) tO moved e loads 0 F.bars F.length F.gap F.load F.near true true true = some true := by
    intro tO moved e hto H q hq
    refine put_l23 (c := 60) (t := 0) hF (by omega) (by omega) (fun q hq => ?_) 6 q (by omega) (by omega)
    refine put_l43 (c := 50) (t := 0) hF (by omega) (by omega) (fun q hq => ?_) 6 q (by omega) (by omega)
    exact put_l63 (c := 30) (t := 0) hF hto (by omega) H 6 q (by omega) (by omega)
  cases hO : putO F loads m with
  | none =>
    rw [hO] at hput
    have hL := put_none hO
    refine ⟨[], 0, 7, hput, .inr ⟨rfl, rfl, rfl⟩, hwalk _ _ _ (by simp) (fun q hq => ?_)⟩
    have n0 : fitsT F loads 6 = false := by
      rw [Bool.eq_false_iff]
      intro h
      have := (lists_good hF hm6).2 (good0 h)
      rw [hL] at this
      cases this
    have n1 : fitsT F tried 6 = false := by
      rw [Bool.eq_false_iff]
      intro h
      have := (lists_good hF hm6).2 (good1 h)
      rw [hL] at this
      cases this
    rw [n0, n1]
    exact put_l4n (i := 0) hF hl ht F.l.length q (by omega) (by omega)
  | some z =>
    obtain ⟨tO, k⟩ := z
    rw [hO] at hput
    obtain ⟨p1, p2, p3⟩ := put_some hO
    have g := (lists_good hF hm6).1 p1
    have hlen := g.len
    rw [hlen] at p2
    refine ⟨tO, k, 0, hput, .inl ⟨rfl, hlen⟩, hwalk _ _ _ (by omega) (fun q hq => ?_)⟩
    rw [fits_of g, p2]
    refine put_l4 (i := 0) hF hl ht hlen (fun y hy => by have := g.rng y hy; omega) ⟨fun h => ?_, fun h => ?_⟩ (fun h => ?_) F.l.length q (by omega) (by omega)
    · have := p3 _ ((lists_good hF hm6).2 (good0 h))
      rw [far_self] at this
      omega
    · have : tO = loads := far_zero (by omega) (by rw [hlen]; exact h)
      rw [← this]
      exact fits_of g 6
    · have := p3 _ ((lists_good hF hm6).2 (good1 h))
      rw [ht] at this
      omega
end
theorem put_l1 {F : Furn} {loads : List Int} {c0 c1 c2 c3 c4 c5 : Int} (hF : F.Ok) (hl : loads.length = F.l.length) (hr : ∀ y ∈ loads, 0 ≤ y ∧ y < ((6 : Nat) : Int)) (hc : ∀ y ∈ [c0, c1, c2, c3, c4, c5], 0 ≤ y ∧ y < 256) : ∀ d (i q : Nat), i + d = F.l.length → d + 200 ≤ q →
    lP.l1 q F.l loads (modL [c0, c1, c2, c3, c4, c5] (countI loads) i) (countI loads) i c0 c1 c2 c3 c4 c5 F.bars F.length F.gap F.load F.near = some true := by
  have hl6 := hF.len
  have hpos : 0 < F.l.length → 0 < countI loads := by
    intro h
    have h0 : 0 < loads.length := by omega
    have := countI_lt loads _ (List.getElem_mem h0)
    have := hr _ (List.getElem_mem h0)
    omega
  intro d
  induction d with
  | zero =>
    intro i q hi hq
    obtain ⟨q, rfl⟩ : ∃ p, q = p + 1 + 1 := ⟨q - 2, by omega⟩
    obtain rfl : i = F.l.length := by omega
    have hlt := modL_len [c0, c1, c2, c3, c4, c5] (countI loads) F.l.length
    obtain ⟨tO, moved, e, hp, hcase, H⟩ := put_tail hF hl hlt hr (modL_in _ _ hpos)
    rw [lP.l1, if_neg (by omega), own_f (by omega)]
    simp only [bs]
    rw [ints_f (by omega)]
    simp only [bs]
    rw [hp]
    simp only [bs]
    have hj : ∀ b : Bool, b = false → lP.j2 (q + 1) F.l loads (modL [c0, c1, c2, c3, c4, c5] (countI loads) F.l.length) (countI loads) tO moved e b F.bars F.length F.gap F.load F.near = some true := by
      intro b hb
      rw [lP.j2, if_neg (by rw [hb]; decide)]
      exact H q (by omega)
    rcases hcase with ⟨rfl, h⟩ | ⟨rfl, rfl, rfl⟩
    · rw [if_pos rfl]
      exact hj _ (by simp [h])
    · rw [if_neg (by decide), if_pos rfl, if_pos (by simp), if_pos rfl]
      exact hj _ rfl
  | succ d ih =>
    intro i q hi hq
    obtain ⟨q, rfl⟩ : ∃ p, q = p + 1 := ⟨q - 1, by omega⟩
    have := ih (i + 1) q (by omega) (by omega)
    rw [show ((i + 1 : Nat) : Int) = (i : Int) + 1 by omega, modL_succ] at this
    have hi6 : i < [c0, c1, c2, c3, c4, c5].length := by simp; omega
    have h1 := hc _ (List.getElem_mem hi6)
    rw [← rd_get hi6] at h1
    have h2 := hpos (by omega)
    rw [lP.l1, if_pos (by omega), if_pos (by omega), if_pos (by omega), if_neg (by omega), if_pos (by rw [modL_len]; omega), w64 (x := rd [c0, c1, c2, c3, c4, c5] i) (by omega), Int.tmod_eq_emod_of_nonneg h1.1, w64 (x := (i : Int) + 1) (by omega)]
    exact this
theorem put_l0 {F : Furn} {b0 b1 b2 b3 b4 b5 c0 c1 c2 c3 c4 c5 : Int} (hF : F.Ok) (hb : ∀ y ∈ [b0, b1, b2, b3, b4, b5], 0 ≤ y ∧ y < 256) (hc : ∀ y ∈ [c0, c1, c2, c3, c4, c5], 0 ≤ y ∧ y < 256) : ∀ d (i q : Nat), i + d = F.l.length → d + 300 ≤ q →
    lP.l0 q F.l (bytesL [b0, b1, b2, b3, b4, b5] i) [] i b0 b1 b2 b3 b4 b5 c0 c1 c2 c3 c4 c5 F.bars F.length F.gap F.load F.near = some true := by
  have hl6 := hF.len
  intro d
  induction d with
  | zero =>
    intro i q hi hq
    obtain ⟨q, rfl⟩ : ∃ p, q = p + 1 := ⟨q - 1, by omega⟩
    obtain rfl : i = F.l.length := by omega
    have hx := bytesL_len [b0, b1, b2, b3, b4, b5] F.l.length
    have hr := bytesL_in [b0, b1, b2, b3, b4, b5] F.l.length
    rw [lP.l0, if_neg (by omega), count_f (by omega) (fun y hy => by have := hr y hy; omega) _ (by omega)]
    simp only [bs]
    exact put_l1 (i := 0) hF hx hr hc F.l.length q (by omega) (by omega)
  | succ d ih =>
    intro i q hi hq
    obtain ⟨q, rfl⟩ : ∃ p, q = p + 1 := ⟨q - 1, by omega⟩
    have := ih (i + 1) q (by omega) (by omega)
    rw [show ((i + 1 : Nat) : Int) = (i : Int) + 1 by omega, bytesL_succ] at this
    have hi6 : i < [b0, b1, b2, b3, b4, b5].length := by simp; omega
    have h1 := hb _ (List.getElem_mem hi6)
    rw [← rd_get hi6] at h1
    rw [lP.l0, if_pos (by omega), if_pos (by omega), if_pos (by omega), if_pos (by rw [bytesL_len]; omega), w64 (x := rd [b0, b1, b2, b3, b4, b5] i) (by omega), Int.tmod_eq_emod_of_nonneg h1.1, w64 (x := (i : Int) + 1) (by omega)]
    exact this
/-- The plain law of ForkPutRight. -/
theorem put_pure {a0 a1 a2 a3 a4 : Int} {l : List S63} (h0 : okB5 ⟨a0, a1, a2, a3, a4⟩ = true) (h1 : ∀ x ∈ l, okB5 x = true) {b0 b1 b2 b3 b4 b5 c0 c1 c2 c3 c4 c5 : Int} (hb : ∀ y ∈ [b0, b1, b2, b3, b4, b5], 0 ≤ y ∧ y < 256) (hc : ∀ y ∈ [c0, c1, c2, c3, c4, c5], 0 ≤ y ∧ y < 256) : lP.f 400 a0 a1 a2 a3 a4 l b0 b1 b2 b3 b4 b5 c0 c1 c2 c3 c4 c5 = some true := by
  obtain ⟨F, hF, hm, _⟩ := made_f h0 h1
  have hl := hF.len
  unfold lP.f
  rw [hm]
  simp only [bs]
  exact put_l0 (i := 0) hF hb hc F.l.length 400 (by omega) (by omega)
end Go.Proofs.YtbijamlgcebgeaaDoor.Hand
-- part QP
namespace Go.Proofs.YtbijamlgcebgeaaDoor.Q
open Go.RowKit Go.Proofs.YtbijamlgcebgeaaDoorW.PrintWords Go.Proofs.YtbijamlgcebgeaaDoorW.PrintLast Go.Proofs.YtbijamlgcebgeaaDoorW.PrintMore
/-- Which operations have come up: the bits of a number. -/
def bl (n m : Nat) : Array Bool := ((List.range n).map fun i => m.testBit i).toArray
section
variable {P : Program} {md : Region.Mode} {ops : Array Oper} {Q : Exit → Act → World → Prop} {S : World → Prop} {ds : List Nat} {T : Bool × List (List Nat × List Nat)} {B : List Nat} {fuel : Nat} {l : Array Bool} {a a' : Act} {w : World} {oi : Oper} {v : Value}
theorem pq (i : Nat) (N : Option Tmp) (l' : Array Bool) (hT : Aside0 (rtab md ops = T)) (hi : ops[i]? = some oi := by rfl) (hN : oi.dst = N := by rfl) (hc : anyT T l.toList l'.toList i = true := by kernel_rfl)
    (hQ : ∀ c a w, Q (.panic c) (a.put oi.dst v) w → Q (.panic c) a w := by exact fun _ _ _ h => h) (h1 : Region.wanted oi (yielded ops a.tmps) = true := by rfl) (h2 : ∀ w, (execOp a.eval oi).run P w = .ok (.value v) w := by intro w'; go_simp; with_reducible rfl)
    (ha : a.put N v = a' := by simp only [Act.put, List.setIfInBounds_toArray, List.set_cons_zero, List.set_cons_succ, i64_w, i32_w]; rfl)
    (h : wpAnyLast P md ops Q S ds fuel l' a' w) : wpAnyLast P md ops Q S ds (fuel + 1) l a w := pure_ l' hi hN (any_of hT.out hc) hQ (Or.inl ⟨h1, h2⟩) ha h
theorem po (i : Nat) (N : Option Tmp) (l' : Array Bool) (hT : Aside0 (rtab md ops = T)) (hi : ops[i]? = some oi := by rfl) (hN : oi.dst = N := by rfl) (hc : anyT T l.toList l'.toList i = true := by kernel_rfl)
    (hQ : ∀ c a w, Q (.panic c) (a.put oi.dst undef) w → Q (.panic c) a w := by exact fun _ _ _ h => h) (h1 : Region.wanted oi (yielded ops a.tmps) = false := by rfl)
    (ha : a.put N undef = a' := by simp only [Act.put, List.setIfInBounds_toArray, List.set_cons_zero, List.set_cons_succ, i64_w, i32_w]; rfl)
    (h : wpAnyLast P md ops Q S ds fuel l' a' w) : wpAnyLast P md ops Q S ds (fuel + 1) l a w := pure_ l' hi hN (any_of hT.out hc) hQ (Or.inr ⟨h1, rfl⟩) ha h
theorem tq (i : Nat) (N : Option Tmp) (l' : Array Bool) (hT : Aside0 (rtab md ops = T)) (hW : Aside0 (waitsOk T.2 B = true)) (hS : S w) (hi : ops[i]? = some oi := by rfl) (hN : oi.dst = N := by rfl) (hc : takeW T B ds l.toList l'.toList i = true := by kernel_rfl)
    (hQ : ∀ c a w, Q (.panic c) (a.put oi.dst v) w → Q (.panic c) a w := by exact fun _ _ _ h => h) (h1 : Region.wanted oi (yielded ops a.tmps) = true := by rfl) (h2 : ∀ w, S w → (execOp a.eval oi).run P w = .ok (.value v) w := by intro w' h_; go_simp; with_reducible rfl)
    (ha : a.put N v = a' := by simp only [Act.put, List.setIfInBounds_toArray, List.set_cons_zero, List.set_cons_succ, i64_w, i32_w]; rfl)
    (h : wpAnyLast P md ops Q S ds fuel l' a' w) : wpAnyLast P md ops Q S ds (fuel + 1) l a w := take_ l' hi hN (take_ofW hT.out hW.out hc) hQ (Or.inl ⟨h1, h2⟩) hS ha h
theorem nq (k : Nat) {v : Value} {l : Array Bool} (h : wpAnyLast P md ops Q S ds fuel l a' w) (ha : a.put (some k) v = a' := by simp only [Act.put, List.setIfInBounds_toArray, List.set_cons_zero, List.set_cons_succ, i64_w, i32_w]; rfl) : wpAnyLast P md ops Q S ds fuel l (a.put (some k) v) w := norm_ ha h
end
end Go.Proofs.YtbijamlgcebgeaaDoor.Q
-- part QR
namespace Go.Proofs.YtbijamlgcebgeaaDoor.Q
open Go.RowKit Go.Proofs.YtbijamlgcebgeaaDoorW.PrintWords Go.Proofs.YtbijamlgcebgeaaDoorW.PrintLast Go.Proofs.YtbijamlgcebgeaaDoorW.PrintMore
section
variable {α : Type} {d : Kd α} {e base : Nat} {ok : Nat → Prop} {v : Value} {xs : List α} {w w' w0 : World} {g : Nat} {o : Obj}
theorem R_ (H : Aside0 (d.R e w base ok v xs)) (p : Below w.heap.size w w' := by repeat (first | (with_reducible exact Below.refl _ _) | apply below_alloc | apply pw_below_drewN | apply below_drew1)) : d.R e w' base ok v xs := Kd.R_below H.out p
theorem b_ (H : Aside0 (w.heap[g]? = some o)) (p : Below w.heap.size w w' := by repeat (first | (with_reducible exact Below.refl _ _) | apply below_alloc | apply pw_below_drewN | apply below_drew1)) : w'.heap[g]? = some o := blk_below H.out p
theorem B_ (H : Aside0 (Below w0.heap.size w0 w)) (p : Below w.heap.size w w' := by repeat (first | (with_reducible exact Below.refl _ _) | apply below_alloc | apply pw_below_drewN | apply below_drew1)) : Below w0.heap.size w0 w' := below_step H.out p
end
end Go.Proofs.YtbijamlgcebgeaaDoor.Q
-- part QS
namespace Go.Proofs.YtbijamlgcebgeaaDoor.Q
open Go
theorem loop_rounds3 {P : Program} {Q : Exit → Act → World → Prop} {a : Act} {w : World} {c : Code}
    (h : c.wp P (Exit.then (fun a w => c.wp P (Exit.then (fun a w => c.wp P (Exit.then (fun a w => c.wp P (Exit.then (fun _ _ => False) Q) a w) Q) a w) Q) a w) Q) a w) : (Code.loop c).wp P Q a w :=
  wp_loop_rounds 4 h
theorem index83_0 {a b c : Value} {w : World} : Sem.run Tryd.prog (Instr.index 83 (.agg #[a, b, c]) (.int .i64 0)) w = .ok a w := by kernel_rfl
theorem index83_1 {a b c : Value} {w : World} : Sem.run Tryd.prog (Instr.index 83 (.agg #[a, b, c]) (.int .i64 1)) w = .ok b w := by kernel_rfl
theorem index83_2 {a b c : Value} {w : World} : Sem.run Tryd.prog (Instr.index 83 (.agg #[a, b, c]) (.int .i64 2)) w = .ok c w := by kernel_rfl
end Go.Proofs.YtbijamlgcebgeaaDoor.Q

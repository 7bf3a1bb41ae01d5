/- ForkRight: the law returns true for every input; each argument reads behind the call as it read before (for worlds in which the two tables of the library hold what its initialisers lay). Part 1 of 7. -/
import Derived.Test.YtbijamlgcebgeaaDoorH4
set_option linter.unusedVariables false
set_option linter.unusedSimpArgs false
-- part QOf
namespace Go.Proofs.YtbijamlgcebgeaaDoor.Q
open Go.RowKit Go.Proofs.YtbijamlgcebgeaaDoorW.PrintWords Go.Proofs.YtbijamlgcebgeaaDoorW.PrintLast Go.Proofs.YtbijamlgcebgeaaDoorW.PrintMore
attribute [local go_sem] max2_int min2_int max_two min_two max_three min_three max_four min_four
attribute [local go_sem high] eqA36
mutual
def lR.l0 : Nat → List (S74) → List Int → List Int → Int → Int → Int → Int → Int → Int → Int → Int → Int → Int → Int → Int → Option (Bool)
  | 0, _, _, _, _, _, _, _, _, _, _, _, _, _, _, _ => none
  | k + 1, x8, x9, x10, x11, x103000, x103001, x103002, x103003, x103004, x103005, x112000, x112001, x112002, x112003, x112004 => if x11 < (x9.length : Int) then (if 0 ≤ x11 then (if x11 < 6 then (if x112000 = 0 then (none) else (if x10.length < 17592186044416 then (lR.l0 k x8 x9 (x10 ++ [Int.tmod (wrap64 (rd [x103000, x103001, x103002, x103003, x103004, x103005] x11)) x112000]) (wrap64 (x11 + 1)) x103000 x103001 x103002 x103003 x103004 x103005 x112000 x112001 x112002 x112003 x112004) else (none))) else (none)) else (none)) else ((smaltolaw03_own.f x8).bind fun t122 => ((smaltolaw03_ints.f x9).bind fun t125 => ((goesC.f x112000 x112001 x112002 x112003 x112004 t122 t125).bind fun bt128 => ((smaltolaw03_own.f x8).bind fun t131 => ((smaltolaw03_ints.f x9).bind fun t134 => ((fork_Bars.f x112000 x112001 x112002 x112003 x112004 t131 t134).bind fun bt137 => ((smaltolaw03_own.f x8).bind fun t141 => ((smaltolaw03_ints.f x9).bind fun t144 => ((fork_Heat.f x112000 x112001 x112002 x112003 x112004 t141 t144).bind fun bt147 => (if bt137.2 = 0 then (if bt147.2.2 = 0 then (if bt128.1 = true then (if bt128.2 = true then (lR.j1 k x8 x9 x10 bt128.1 bt128.2 bt137.1 bt137.2 bt147.2.2 (bt147.2.2 != 0) x112000 x112001 x112002 x112003 x112004 bt147.1 bt147.2.1) else (lR.j1 k x8 x9 x10 bt128.1 bt128.2 bt137.1 bt137.2 bt147.2.2 true x112000 x112001 x112002 x112003 x112004 bt147.1 bt147.2.1)) else (lR.j1 k x8 x9 x10 bt128.1 bt128.2 bt137.1 bt137.2 bt147.2.2 false x112000 x112001 x112002 x112003 x112004 bt147.1 bt147.2.1)) else (if bt147.2.2 = 7 then ((smaltolaw03_span.f 0 0).bind fun bt151 => (if (!(bt147.1 == bt151.1) || (!(bt147.2.1 == bt151.2))) = true then (lR.j1 k x8 x9 x10 bt128.1 bt128.2 bt137.1 bt137.2 bt147.2.2 true x112000 x112001 x112002 x112003 x112004 bt147.1 bt147.2.1) else (if bt128.1 = true then (if bt128.2 = true then (lR.j1 k x8 x9 x10 bt128.1 bt128.2 bt137.1 bt137.2 bt147.2.2 (bt147.2.2 != 0) x112000 x112001 x112002 x112003 x112004 bt147.1 bt147.2.1) else (lR.j1 k x8 x9 x10 bt128.1 bt128.2 bt137.1 bt137.2 bt147.2.2 true x112000 x112001 x112002 x112003 x112004 bt147.1 bt147.2.1)) else (lR.j1 k x8 x9 x10 bt128.1 bt128.2 bt137.1 bt137.2 bt147.2.2 false x112000 x112001 x112002 x112003 x112004 bt147.1 bt147.2.1)))) else (lR.j1 k x8 x9 x10 bt128.1 bt128.2 bt137.1 bt137.2 bt147.2.2 true x112000 x112001 x112002 x112003 x112004 bt147.1 bt147.2.1))) else (if bt137.2 = 7 then (if (bt137.1.length : Int) = 0 then (if bt147.2.2 = 0 then (if bt128.1 = true then (if bt128.2 = true then (lR.j1 k x8 x9 x10 bt128.1 bt128.2 bt137.1 bt137.2 bt147.2.2 true x112000 x112001 x112002 x112003 x112004 bt147.1 bt147.2.1) else (lR.j1 k x8 x9 x10 bt128.1 bt128.2 bt137.1 bt137.2 bt147.2.2 true x112000 x112001 x112002 x112003 x112004 bt147.1 bt147.2.1)) else (lR.j1 k x8 x9 x10 bt128.1 bt128.2 bt137.1 bt137.2 bt147.2.2 false x112000 x112001 x112002 x112003 x112004 bt147.1 bt147.2.1)) else (if bt147.2.2 = 7 then ((smaltolaw03_span.f 0 0).bind fun bt153 => (if (!(bt147.1 == bt153.1) || (!(bt147.2.1 == bt153.2))) = true then (lR.j1 k x8 x9 x10 bt128.1 bt128.2 bt137.1 bt137.2 bt147.2.2 true x112000 x112001 x112002 x112003 x112004 bt147.1 bt147.2.1) else (if bt128.1 = true then (if bt128.2 = true then (lR.j1 k x8 x9 x10 bt128.1 bt128.2 bt137.1 bt137.2 bt147.2.2 true x112000 x112001 x112002 x112003 x112004 bt147.1 bt147.2.1) else (lR.j1 k x8 x9 x10 bt128.1 bt128.2 bt137.1 bt137.2 bt147.2.2 true x112000 x112001 x112002 x112003 x112004 bt147.1 bt147.2.1)) else (lR.j1 k x8 x9 x10 bt128.1 bt128.2 bt137.1 bt137.2 bt147.2.2 false x112000 x112001 x112002 x112003 x112004 bt147.1 bt147.2.1)))) else (lR.j1 k x8 x9 x10 bt128.1 bt128.2 bt137.1 bt137.2 bt147.2.2 true x112000 x112001 x112002 x112003 x112004 bt147.1 bt147.2.1))) else (lR.j1 k x8 x9 x10 bt128.1 bt128.2 bt137.1 bt137.2 bt147.2.2 true x112000 x112001 x112002 x112003 x112004 bt147.1 bt147.2.1)) else (lR.j1 k x8 x9 x10 bt128.1 bt128.2 bt137.1 bt137.2 bt147.2.2 true x112000 x112001 x112002 x112003 x112004 bt147.1 bt147.2.1))))))))))))
def lR.j1 : Nat → List (S74) → List Int → List Int → Bool → Bool → List Int → Int → Int → Bool → Int → Int → Int → Int → Int → Int → Int → Option (Bool)
  | 0, _, _, _, _, _, _, _, _, _, _, _, _, _, _, _, _ => none
  | k + 1, x8, x9, x10, x12, x13, x15, x16, x18, x124, x112000, x112001, x112002, x112003, x112004, x151000, x151001 => if x124 = true then (some false) else (if x16 = 0 then (if (x15.length : Int) = (x9.length : Int) then (if x12 = true then ((smaltolaw03_fine.f x112000 x112001 x112002 x112003 x112004 x8 x9 x15).bind fun t155 => (if t155 = true then ((smaltolaw03_fine.f x112000 x112001 x112002 x112003 x112004 x8 x9 x10).bind fun t156 => (if t156 = true then (lR.j2 k x8 x9 x12 x13 x18 (!x12) x112000 x112001 x112002 x112003 x112004 x151000 x151001) else (lR.j2 k x8 x9 x12 x13 x18 false x112000 x112001 x112002 x112003 x112004 x151000 x151001))) else (lR.j2 k x8 x9 x12 x13 x18 true x112000 x112001 x112002 x112003 x112004 x151000 x151001))) else ((smaltolaw03_fine.f x112000 x112001 x112002 x112003 x112004 x8 x9 x10).bind fun t157 => (if t157 = true then (lR.j2 k x8 x9 x12 x13 x18 (!x12) x112000 x112001 x112002 x112003 x112004 x151000 x151001) else (lR.j2 k x8 x9 x12 x13 x18 false x112000 x112001 x112002 x112003 x112004 x151000 x151001)))) else (lR.j2 k x8 x9 x12 x13 x18 true x112000 x112001 x112002 x112003 x112004 x151000 x151001)) else (if x12 = true then ((smaltolaw03_fine.f x112000 x112001 x112002 x112003 x112004 x8 x9 x15).bind fun t158 => (if t158 = true then ((smaltolaw03_fine.f x112000 x112001 x112002 x112003 x112004 x8 x9 x10).bind fun t159 => (if t159 = true then (lR.j2 k x8 x9 x12 x13 x18 (!x12) x112000 x112001 x112002 x112003 x112004 x151000 x151001) else (lR.j2 k x8 x9 x12 x13 x18 false x112000 x112001 x112002 x112003 x112004 x151000 x151001))) else (lR.j2 k x8 x9 x12 x13 x18 true x112000 x112001 x112002 x112003 x112004 x151000 x151001))) else ((smaltolaw03_fine.f x112000 x112001 x112002 x112003 x112004 x8 x9 x10).bind fun t160 => (if t160 = true then (lR.j2 k x8 x9 x12 x13 x18 (!x12) x112000 x112001 x112002 x112003 x112004 x151000 x151001) else (lR.j2 k x8 x9 x12 x13 x18 false x112000 x112001 x112002 x112003 x112004 x151000 x151001)))))
def lR.j2 : Nat → List (S74) → List Int → Bool → Bool → Int → Bool → Int → Int → Int → Int → Int → Int → Int → Option (Bool)
  | 0, _, _, _, _, _, _, _, _, _, _, _, _, _ => none
  | k + 1, x8, x9, x12, x13, x18, x155, x112000, x112001, x112002, x112003, x112004, x151000, x151001 => if x155 = true then (some false) else (lR.l1 k x8 x9 x12 x13 x18 0 x112000 x112001 x112002 x112003 x112004 x151000 x151001)
def lR.l1 : Nat → List (S74) → List Int → Bool → Bool → Int → Int → Int → Int → Int → Int → Int → Int → Int → Option (Bool)
  | 0, _, _, _, _, _, _, _, _, _, _, _, _, _ => none
  | k + 1, x8, x9, x12, x13, x18, x19, x112000, x112001, x112002, x112003, x112004, x151000, x151001 => if x19 < (x9.length : Int) then (if 0 ≤ x19 then (if 0 ≤ (rd x9 x19) then (if (rd x9 x19) < (x8.length : Int) then (if x18 = 0 then (if x151000 < ((rd_T74 x8 (rd x9 x19)).f3.f0) then (lR.j4 k x8 x9 x12 x13 x18 x19 true x112000 x112001 x112002 x112003 x112004 x151000 x151001) else (lR.j4 k x8 x9 x12 x13 x18 x19 (decide (x151001 > ((rd_T74 x8 (rd x9 x19)).f3.f1))) x112000 x112001 x112002 x112003 x112004 x151000 x151001)) else (lR.j4 k x8 x9 x12 x13 x18 x19 false x112000 x112001 x112002 x112003 x112004 x151000 x151001)) else (none)) else (none)) else (none)) else ((smaltolaw03_own.f x8).bind fun t184 => (lR.l2 k x9 x13 x18 t184 0 x112000 x112001 x112002 x112003 x112004 x151000 x151001))
def lR.j4 : Nat → List (S74) → List Int → Bool → Bool → Int → Int → Bool → Int → Int → Int → Int → Int → Int → Int → Option (Bool)
  | 0, _, _, _, _, _, _, _, _, _, _, _, _, _, _ => none
  | k + 1, x8, x9, x12, x13, x18, x19, x185, x112000, x112001, x112002, x112003, x112004, x151000, x151001 => if x185 = true then (some false) else ((smaltolaw03_own.f x8).bind fun t164 => (if 0 ≤ x19 then (if x19 ≤ (x9.length : Int) then ((smaltolaw03_ints.f (x9.take (x19 : Int).toNat)).bind fun t171 => (if 0 ≤ (wrap64 (x19 + 1)) then (if (wrap64 (x19 + 1)) ≤ (x9.length : Int) then ((some (x9.drop ((wrap64 (x19 + 1)) : Int).toNat : List Int)).bind fun y174 => (if t171.length + y174.length < 17592186044416 then ((goesC.f x112000 x112001 x112002 x112003 x112004 t164 (t171 ++ y174)).bind fun bt181 => (if x12 = true then (if bt181.1 = true then (lR.l1 k x8 x9 x12 x13 x18 (wrap64 (x19 + 1)) x112000 x112001 x112002 x112003 x112004 x151000 x151001) else (some false)) else (lR.l1 k x8 x9 x12 x13 x18 (wrap64 (x19 + 1)) x112000 x112001 x112002 x112003 x112004 x151000 x151001))) else (none))) else (none)) else (none))) else (none)) else (none)))
def lR.l2 : Nat → List Int → Bool → Int → List (S74) → Int → Int → Int → Int → Int → Int → Int → Int → Option (Bool)
  | 0, _, _, _, _, _, _, _, _, _, _, _, _ => none
  | k + 1, x9, x13, x18, x24, x25, x112000, x112001, x112002, x112003, x112004, x151000, x151001 => if x25 < (x24.length : Int) then (if 0 ≤ x25 then (lR.l2 k x9 x13 x18 (x24.set (x25 : Int).toNat (⟨(rd_T74 x24 x25).f0, (rd_T74 x24 x25).f1, (⟨(rd_T74 x24 x25).f2.f0, (rd_T74 x24 x25).f2.f0⟩ : S36), (⟨(rd_T74 x24 x25).f3.f0, (rd_T74 x24 x25).f3.f1⟩ : S36)⟩ : S74)) (wrap64 (x25 + 1)) x112000 x112001 x112002 x112003 x112004 x151000 x151001) else (none)) else ((smaltolaw03_ints.f x9).bind fun t189 => ((goesC.f x112000 x112001 x112002 x112003 x112004 x24 t189).bind fun bt192 => (if bt192.1 = true then (if x13 = true then (if x18 = 0 then (if x151000 ≤ x151001 then ((knownC.f).bind fun _ => (some true)) else (some false)) else ((knownC.f).bind fun _ => (some true))) else (some false)) else (if x13 = true then (some false) else (if x18 = 0 then (if x151000 ≤ x151001 then ((knownC.f).bind fun _ => (some true)) else (some false)) else ((knownC.f).bind fun _ => (some true)))))))
end
def lR.f (k : Nat) (a0_0 : Int) (a0_1 : Int) (a0_2 : Int) (a0_3 : Int) (a0_4 : Int) (l0_5 : List (S63)) (a1 : Int) (a2_0 : Int) (a2_1 : Int) (a2_2 : Int) (a2_3 : Int) (a2_4 : Int) (a2_5 : Int) : Option (Bool) := (smaltolaw03_Rack_made.f a0_0 a0_1 a0_2 a0_3 a0_4 l0_5).bind fun bt103 => ((smaltolaw03_chosen.f k bt103.2.2.2.2.2 a1).bind fun t112 => (lR.l0 k bt103.2.2.2.2.2 t112 (([] : List Int)) 0 a2_0 a2_1 a2_2 a2_3 a2_4 a2_5 bt103.1 bt103.2.1 bt103.2.2.1 bt103.2.2.2.1 bt103.2.2.2.2.1))
theorem lR.mono_l : ∀ k, (∀ y0 y1 y2 y3 y4 y5 y6 y7 y8 y9 y10 y11 y12 y13 y14, LeO (lR.l0 k y0 y1 y2 y3 y4 y5 y6 y7 y8 y9 y10 y11 y12 y13 y14) (lR.l0 (k + 1) y0 y1 y2 y3 y4 y5 y6 y7 y8 y9 y10 y11 y12 y13 y14)) ∧ (∀ y0 y1 y2 y3 y4 y5 y6 y7 y8 y9 y10 y11 y12 y13 y14 y15, LeO (lR.j1 k y0 y1 y2 y3 y4 y5 y6 y7 y8 y9 y10 y11 y12 y13 y14 y15) (lR.j1 (k + 1) y0 y1 y2 y3 y4 y5 y6 y7 y8 y9 y10 y11 y12 y13 y14 y15)) ∧ (∀ y0 y1 y2 y3 y4 y5 y6 y7 y8 y9 y10 y11 y12, LeO (lR.j2 k y0 y1 y2 y3 y4 y5 y6 y7 y8 y9 y10 y11 y12) (lR.j2 (k + 1) y0 y1 y2 y3 y4 y5 y6 y7 y8 y9 y10 y11 y12)) ∧ (∀ y0 y1 y2 y3 y4 y5 y6 y7 y8 y9 y10 y11 y12, LeO (lR.l1 k y0 y1 y2 y3 y4 y5 y6 y7 y8 y9 y10 y11 y12) (lR.l1 (k + 1) y0 y1 y2 y3 y4 y5 y6 y7 y8 y9 y10 y11 y12)) ∧ (∀ y0 y1 y2 y3 y4 y5 y6 y7 y8 y9 y10 y11 y12 y13, LeO (lR.j4 k y0 y1 y2 y3 y4 y5 y6 y7 y8 y9 y10 y11 y12 y13) (lR.j4 (k + 1) y0 y1 y2 y3 y4 y5 y6 y7 y8 y9 y10 y11 y12 y13)) ∧ (∀ y0 y1 y2 y3 y4 y5 y6 y7 y8 y9 y10 y11, LeO (lR.l2 k y0 y1 y2 y3 y4 y5 y6 y7 y8 y9 y10 y11) (lR.l2 (k + 1) y0 y1 y2 y3 y4 y5 y6 y7 y8 y9 y10 y11))
  | 0 => ⟨fun _ _ _ _ _ _ _ _ _ _ _ _ _ _ _ r h => by simp [lR.l0] at h, fun _ _ _ _ _ _ _ _ _ _ _ _ _ _ _ _ r h => by simp [lR.j1] at h, fun _ _ _ _ _ _ _ _ _ _ _ _ _ r h => by simp [lR.j2] at h, fun _ _ _ _ _ _ _ _ _ _ _ _ _ r h => by simp [lR.l1] at h, fun _ _ _ _ _ _ _ _ _ _ _ _ _ _ r h => by simp [lR.j4] at h, fun _ _ _ _ _ _ _ _ _ _ _ _ r h => by simp [lR.l2] at h⟩
  | k + 1 => by
    obtain ⟨ih0, ih1, ih2, ih3, ih4, ih5⟩ := lR.mono_l k
    refine ⟨?_, ?_, ?_, ?_, ?_, ?_⟩
    · intro y0 y1 y2 y3 y4 y5 y6 y7 y8 y9 y10 y11 y12 y13 y14
      unfold lR.l0
      repeat' first
      | (with_reducible exact ih0 _ _ _ _ _ _ _ _ _ _ _ _ _ _ _)
      | (with_reducible exact ih1 _ _ _ _ _ _ _ _ _ _ _ _ _ _ _ _)
      | (with_reducible exact ih2 _ _ _ _ _ _ _ _ _ _ _ _ _)
      | (with_reducible exact ih3 _ _ _ _ _ _ _ _ _ _ _ _ _)
      | (with_reducible exact ih4 _ _ _ _ _ _ _ _ _ _ _ _ _ _)
      | (with_reducible exact ih5 _ _ _ _ _ _ _ _ _ _ _ _)
      | (with_reducible exact smaltolaw03_chosen.mono _ _ _)
      | (with_reducible exact LeO.refl _)
      | (with_reducible exact LeO.none _)
      | (with_reducible refine LeO.ite ?_ ?_)
      | (with_reducible refine LeO.bind ?_ (fun _ => ?_))
      | exact ih0 _ _ _ _ _ _ _ _ _ _ _ _ _ _ _
      | exact ih1 _ _ _ _ _ _ _ _ _ _ _ _ _ _ _ _
      | exact ih2 _ _ _ _ _ _ _ _ _ _ _ _ _
      | exact ih3 _ _ _ _ _ _ _ _ _ _ _ _ _
      | exact ih4 _ _ _ _ _ _ _ _ _ _ _ _ _ _
      | exact ih5 _ _ _ _ _ _ _ _ _ _ _ _
      | exact smaltolaw03_chosen.mono _ _ _
      | exact LeO.none _
      | refine LeO.ite ?_ ?_
      | refine LeO.bind ?_ (fun _ => ?_)
    · intro y0 y1 y2 y3 y4 y5 y6 y7 y8 y9 y10 y11 y12 y13 y14 y15
      unfold lR.j1
      repeat' first
      | (with_reducible exact ih0 _ _ _ _ _ _ _ _ _ _ _ _ _ _ _)
      | (with_reducible exact ih1 _ _ _ _ _ _ _ _ _ _ _ _ _ _ _ _)
      | (with_reducible exact ih2 _ _ _ _ _ _ _ _ _ _ _ _ _)
      | (with_reducible exact ih3 _ _ _ _ _ _ _ _ _ _ _ _ _)
      | (with_reducible exact ih4 _ _ _ _ _ _ _ _ _ _ _ _ _ _)
      | (with_reducible exact ih5 _ _ _ _ _ _ _ _ _ _ _ _)
      | (with_reducible exact smaltolaw03_chosen.mono _ _ _)
      | (with_reducible exact LeO.refl _)
      | (with_reducible exact LeO.none _)
      | (with_reducible refine LeO.ite ?_ ?_)
      | (with_reducible refine LeO.bind ?_ (fun _ => ?_))
      | exact ih0 _ _ _ _ _ _ _ _ _ _ _ _ _ _ _
      | exact ih1 _ _ _ _ _ _ _ _ _ _ _ _ _ _ _ _
      | exact ih2 _ _ _ _ _ _ _ _ _ _ _ _ _
      | exact ih3 _ _ _ _ _ _ _ _ _ _ _ _ _
      | exact ih4 _ _ _ _ _ _ _ _ _ _ _ _ _ _
      | exact ih5 _ _ _ _ _ _ _ _ _ _ _ _
      | exact smaltolaw03_chosen.mono _ _ _
      | exact LeO.none _
      | refine LeO.ite ?_ ?_
      | refine LeO.bind ?_ (fun _ => ?_)
    · intro y0 y1 y2 y3 y4 y5 y6 y7 y8 y9 y10 y11 y12
      unfold lR.j2
      repeat' first
      | (with_reducible exact ih0 _ _ _ _ _ _ _ _ _ _ _ _ _ _ _)
      | (with_reducible exact ih1 _ _ _ _ _ _ _ _ _ _ _ _ _ _ _ _)
      | (with_reducible exact ih2 _ _ _ _ _ _ _ _ _ _ _ _ _)
      | (with_reducible exact ih3 _ _ _ _ _ _ _ _ _ _ _ _ _)
      | (with_reducible exact ih4 _ _ _ _ _ _ _ _ _ _ _ _ _ _)
      | (with_reducible exact ih5 _ _ _ _ _ _ _ _ _ _ _ _)
      | (with_reducible exact smaltolaw03_chosen.mono _ _ _)
      | (with_reducible exact LeO.refl _)
      | (with_reducible exact LeO.none _)
      | (with_reducible refine LeO.ite ?_ ?_)
      | (with_reducible refine LeO.bind ?_ (fun _ => ?_))
      | exact ih0 _ _ _ _ _ _ _ _ _ _ _ _ _ _ _
      | exact ih1 _ _ _ _ _ _ _ _ _ _ _ _ _ _ _ _
      | exact ih2 _ _ _ _ _ _ _ _ _ _ _ _ _
      | exact ih3 _ _ _ _ _ _ _ _ _ _ _ _ _
      | exact ih4 _ _ _ _ _ _ _ _ _ _ _ _ _ _
      | exact ih5 _ _ _ _ _ _ _ _ _ _ _ _
      | exact smaltolaw03_chosen.mono _ _ _
      | exact LeO.none _
      | refine LeO.ite ?_ ?_
      | refine LeO.bind ?_ (fun _ => ?_)
    · intro y0 y1 y2 y3 y4 y5 y6 y7 y8 y9 y10 y11 y12
      unfold lR.l1
      repeat' first
      | (with_reducible exact ih0 _ _ _ _ _ _ _ _ _ _ _ _ _ _ _)
      | (with_reducible exact ih1 _ _ _ _ _ _ _ _ _ _ _ _ _ _ _ _)
      | (with_reducible exact ih2 _ _ _ _ _ _ _ _ _ _ _ _ _)
      | (with_reducible exact ih3 _ _ _ _ _ _ _ _ _ _ _ _ _)
      | (with_reducible exact ih4 _ _ _ _ _ _ _ _ _ _ _ _ _ _)
      | (with_reducible exact ih5 _ _ _ _ _ _ _ _ _ _ _ _)
      | (with_reducible exact smaltolaw03_chosen.mono _ _ _)
      | (with_reducible exact LeO.refl _)
      | (with_reducible exact LeO.none _)
      | (with_reducible refine LeO.ite ?_ ?_)
      | (with_reducible refine LeO.bind ?_ (fun _ => ?_))
      | exact ih0 _ _ _ _ _ _ _ _ _ _ _ _ _ _ _
      | exact ih1 _ _ _ _ _ _ _ _ _ _ _ _ _ _ _ _
      | exact ih2 _ _ _ _ _ _ _ _ _ _ _ _ _
      | exact ih3 _ _ _ _ _ _ _ _ _ _ _ _ _
      | exact ih4 _ _ _ _ _ _ _ _ _ _ _ _ _ _
      | exact ih5 _ _ _ _ _ _ _ _ _ _ _ _
      | exact smaltolaw03_chosen.mono _ _ _
      | exact LeO.none _
      | refine LeO.ite ?_ ?_
      | refine LeO.bind ?_ (fun _ => ?_)
    · intro y0 y1 y2 y3 y4 y5 y6 y7 y8 y9 y10 y11 y12 y13
      unfold lR.j4
      repeat' first
      | (with_reducible exact ih0 _ _ _ _ _ _ _ _ _ _ _ _ _ _ _)
      | (with_reducible exact ih1 _ _ _ _ _ _ _ _ _ _ _ _ _ _ _ _)
      | (with_reducible exact ih2 _ _ _ _ _ _ _ _ _ _ _ _ _)
      | (with_reducible exact ih3 _ _ _ _ _ _ _ _ _ _ _ _ _)
      | (with_reducible exact ih4 _ _ _ _ _ _ _ _ _ _ _ _ _ _)
      | (with_reducible exact ih5 _ _ _ _ _ _ _ _ _ _ _ _)
      | (with_reducible exact smaltolaw03_chosen.mono _ _ _)
      | (with_reducible exact LeO.refl _)
      | (with_reducible exact LeO.none _)
      | (with_reducible refine LeO.ite ?_ ?_)
      | (with_reducible refine LeO.bind ?_ (fun _ => ?_))
      | exact ih0 _ _ _ _ _ _ _ _ _ _ _ _ _ _ _
      | exact ih1 _ _ _ _ _ _ _ _ _ _ _ _ _ _ _ _
      | exact ih2 _ _ _ _ _ _ _ _ _ _ _ _ _
      | exact ih3 _ _ _ _ _ _ _ _ _ _ _ _ _
      | exact ih4 _ _ _ _ _ _ _ _ _ _ _ _ _ _
      | exact ih5 _ _ _ _ _ _ _ _ _ _ _ _
      | exact smaltolaw03_chosen.mono _ _ _
      | exact LeO.none _
      | refine LeO.ite ?_ ?_
      | refine LeO.bind ?_ (fun _ => ?_)
    · intro y0 y1 y2 y3 y4 y5 y6 y7 y8 y9 y10 y11
      unfold lR.l2
      repeat' first
      | (with_reducible exact ih0 _ _ _ _ _ _ _ _ _ _ _ _ _ _ _)
      | (with_reducible exact ih1 _ _ _ _ _ _ _ _ _ _ _ _ _ _ _ _)
      | (with_reducible exact ih2 _ _ _ _ _ _ _ _ _ _ _ _ _)
      | (with_reducible exact ih3 _ _ _ _ _ _ _ _ _ _ _ _ _)
      | (with_reducible exact ih4 _ _ _ _ _ _ _ _ _ _ _ _ _ _)
      | (with_reducible exact ih5 _ _ _ _ _ _ _ _ _ _ _ _)
      | (with_reducible exact smaltolaw03_chosen.mono _ _ _)
      | (with_reducible exact LeO.refl _)
      | (with_reducible exact LeO.none _)
      | (with_reducible refine LeO.ite ?_ ?_)
      | (with_reducible refine LeO.bind ?_ (fun _ => ?_))
      | exact ih0 _ _ _ _ _ _ _ _ _ _ _ _ _ _ _
      | exact ih1 _ _ _ _ _ _ _ _ _ _ _ _ _ _ _ _
      | exact ih2 _ _ _ _ _ _ _ _ _ _ _ _ _
      | exact ih3 _ _ _ _ _ _ _ _ _ _ _ _ _
      | exact ih4 _ _ _ _ _ _ _ _ _ _ _ _ _ _
      | exact ih5 _ _ _ _ _ _ _ _ _ _ _ _
      | exact smaltolaw03_chosen.mono _ _ _
      | exact LeO.none _
      | refine LeO.ite ?_ ?_
      | refine LeO.bind ?_ (fun _ => ?_)
theorem lR.mono : ∀ a0 a1 a2 a3 a4 a5 a6 a7 a8 a9 a10 a11 a12 k, LeO (lR.f k a0 a1 a2 a3 a4 a5 a6 a7 a8 a9 a10 a11 a12) (lR.f (k + 1) a0 a1 a2 a3 a4 a5 a6 a7 a8 a9 a10 a11 a12) := by
  intro a0 a1 a2 a3 a4 a5 a6 a7 a8 a9 a10 a11 a12 k
  obtain ⟨ih0, ih1, ih2, ih3, ih4, ih5⟩ := lR.mono_l k
  unfold lR.f
  repeat' first
      | (with_reducible exact ih0 _ _ _ _ _ _ _ _ _ _ _ _ _ _ _)
      | (with_reducible exact ih1 _ _ _ _ _ _ _ _ _ _ _ _ _ _ _ _)
      | (with_reducible exact ih2 _ _ _ _ _ _ _ _ _ _ _ _ _)
      | (with_reducible exact ih3 _ _ _ _ _ _ _ _ _ _ _ _ _)
      | (with_reducible exact ih4 _ _ _ _ _ _ _ _ _ _ _ _ _ _)
      | (with_reducible exact ih5 _ _ _ _ _ _ _ _ _ _ _ _)
      | (with_reducible exact smaltolaw03_chosen.mono _ _ _)
      | (with_reducible exact LeO.refl _)
      | (with_reducible exact LeO.none _)
      | (with_reducible refine LeO.ite ?_ ?_)
      | (with_reducible refine LeO.bind ?_ (fun _ => ?_))
      | exact ih0 _ _ _ _ _ _ _ _ _ _ _ _ _ _ _
      | exact ih1 _ _ _ _ _ _ _ _ _ _ _ _ _ _ _ _
      | exact ih2 _ _ _ _ _ _ _ _ _ _ _ _ _
      | exact ih3 _ _ _ _ _ _ _ _ _ _ _ _ _
      | exact ih4 _ _ _ _ _ _ _ _ _ _ _ _ _ _
      | exact ih5 _ _ _ _ _ _ _ _ _ _ _ _
      | exact smaltolaw03_chosen.mono _ _ _
      | exact LeO.none _
      | refine LeO.ite ?_ ?_
      | refine LeO.bind ?_ (fun _ => ?_)
def lR.T6 : Bool × List (List Nat × List Nat) := (true, [([], []), ([], []), ([1], [1]), ([2], [2]), ([3], [3]), ([], []), ([5], [5]), ([4, 6], [4, 6]), ([7], [7]), ([0, 8], [0, 8]), ([9, 9, 0, 1, 2, 3, 4, 5, 6, 7, 8, 9], [0, 9])])
def lR.B6 : List Nat := [0, 0, 2, 6, 14, 0, 32, 126, 254, 511, 1023]
theorem lR.tab6 : rtab .any (opsOf Tryd.f8 6) = lR.T6 := by kernel_rfl
theorem lR.bits6 : waitsOk lR.T6.2 lR.B6 = true := by kernel_rfl
def lR.T7 : Bool × List (List Nat × List Nat) := (true, [([], []), ([], []), ([1], [1]), ([], []), ([3, 2], [3]), ([0, 2, 4, 4], [0, 2, 4]), ([5], [5]), ([6], [6]), ([6], [6]), ([6], [6]), ([7, 5, 0, 1, 2, 3, 4, 5, 6, 7], [7]), ([8, 10, 0, 1, 2, 3, 4, 5, 6, 7, 8, 10], [8]), ([9, 11, 0, 1, 2, 3, 4, 5, 6, 7, 8, 9, 10, 11], [9])])
def lR.B7 : List Nat := [0, 0, 2, 0, 14, 31, 63, 127, 127, 127, 255, 1535, 4095]
theorem lR.tab7 : rtab .any (opsOf Tryd.f8 7) = lR.T7 := by kernel_rfl
theorem lR.bits7 : waitsOk lR.T7.2 lR.B7 = true := by kernel_rfl
def lR.T8 : Bool × List (List Nat × List Nat) := (true, [([], []), ([], []), ([1], [1]), ([], []), ([3, 2], [3]), ([0, 2, 4, 4], [0, 2, 4]), ([5], [5]), ([6], [6]), ([6], [6]), ([7, 5, 0, 1, 2, 3, 4, 5, 6, 7], [7]), ([8, 9, 0, 1, 2, 3, 4, 5, 6, 7, 8, 9], [8])])
def lR.B8 : List Nat := [0, 0, 2, 0, 14, 31, 63, 127, 127, 255, 1023]
theorem lR.tab8 : rtab .any (opsOf Tryd.f8 8) = lR.T8 := by kernel_rfl
theorem lR.bits8 : waitsOk lR.T8.2 lR.B8 = true := by kernel_rfl
def lR.T9 : Bool × List (List Nat × List Nat) := (true, [([], []), ([], []), ([1], [1]), ([], []), ([3, 2], [3]), ([0, 2, 4, 4], [0, 2, 4]), ([5], [5]), ([6], [6]), ([6], [6]), ([], []), ([9, 7, 5, 0, 1, 2, 3, 4, 5, 6, 7, 9], [7, 9]), ([8, 10, 0, 1, 2, 3, 4, 5, 6, 7, 8, 9, 10], [8])])
def lR.B9 : List Nat := [0, 0, 2, 0, 14, 31, 63, 127, 127, 0, 767, 2047]
theorem lR.tab9 : rtab .any (opsOf Tryd.f8 9) = lR.T9 := by kernel_rfl
theorem lR.bits9 : waitsOk lR.T9.2 lR.B9 = true := by kernel_rfl
def lR.T10 : Bool × List (List Nat × List Nat) := (true, [([], []), ([0], [0]), ([1], [1]), ([2], [2]), ([3, 2], [2, 3]), ([4, 2, 2], [2, 4]), ([5], [5]), ([6, 5], [5, 6]), ([7, 5, 5], [5, 7]), ([8], [8]), ([9, 8], [8, 9]), ([10, 8], [8, 10]), ([8, 11, 5], [5, 8, 11]), ([5, 12, 2], [2, 5, 12]), ([2, 13], [2, 13]), ([14, 8], [14]), ([15], [15]), ([16, 15], [15, 16]), ([17, 15, 15], [15, 17]), ([18], [18]), ([19, 18], [18, 19]), ([20, 18, 18], [18, 20]), ([21], [21]), ([21, 21], [21]), ([22, 23, 21], [21, 22, 23]), ([21, 24, 18], [18, 21, 24]), ([18, 25, 15], [15, 18, 25]), ([15, 26], [15, 26]), ([27, 23], [27]), ([28], [28]), ([29, 28, 28], [28, 29]), ([30], [30]), ([31, 30], [30, 31]), ([32, 30, 30], [30, 32]), ([33], [33]), ([34, 33], [33, 34]), ([33, 35, 30], [30, 33, 35]), ([36, 33, 30], [30, 36]), ([37], [37]), ([38, 37], [37, 38]), ([37, 39, 30], [30, 37, 39]), ([30, 40, 28], [28, 30, 40]), ([28, 41], [28, 41])])
def lR.B10 : List Nat := [0, 1, 3, 7, 15, 31, 63, 127, 255, 511, 1023, 2047, 4095, 8191, 16383, 32767, 65535, 131071, 262143, 524287, 1048575, 2097151, 4194303, 4194303, 16777215, 33554431, 67108863, 134217727, 268435455, 536870911, 1073741823, 2147483647, 4294967295, 8589934591, 17179869183, 34359738367, 68719476735, 137438953471, 274877906943, 549755813887, 1099511627775, 2199023255551, 4398046511103]
theorem lR.tab10 : rtab .any (opsOf Tryd.f8 10) = lR.T10 := by kernel_rfl
theorem lR.bits10 : waitsOk lR.T10.2 lR.B10 = true := by kernel_rfl
def lR.T20 : Bool × List (List Nat × List Nat) := (true, [([], []), ([], []), ([1], [1]), ([], []), ([], []), ([3, 4], [3, 4]), ([5, 2], [5]), ([], []), ([], []), ([8], [8]), ([7, 9], [7, 9]), ([6, 10, 6], [6, 10]), ([0, 2, 11, 11], [0, 2, 11]), ([12], [12]), ([13], [13]), ([13], [13]), ([13], [13]), ([14, 12, 0, 1, 2, 3, 4, 5, 6, 7, 8, 9, 10, 11, 12, 13, 14], [14]), ([15, 17, 0, 1, 2, 3, 4, 5, 6, 7, 8, 9, 10, 11, 12, 13, 14, 15, 17], [15]), ([16, 18, 0, 1, 2, 3, 4, 5, 6, 7, 8, 9, 10, 11, 12, 13, 14, 15, 16, 17, 18], [16])])
def lR.B20 : List Nat := [0, 0, 2, 0, 0, 24, 62, 0, 0, 256, 896, 2046, 4095, 8191, 16383, 16383, 16383, 32767, 196607, 524287]
theorem lR.tab20 : rtab .any (opsOf Tryd.f8 20) = lR.T20 := by kernel_rfl
theorem lR.bits20 : waitsOk lR.T20.2 lR.B20 = true := by kernel_rfl
def lR.T28 : Bool × List (List Nat × List Nat) := (true, [([], []), ([], []), ([], []), ([2], [2]), ([0, 1, 3, 3], [0, 1, 3]), ([4], [4]), ([5], [5]), ([5], [5]), ([5], [5]), ([6, 4, 0, 1, 2, 3, 4, 5, 6], [6]), ([7, 9, 0, 1, 2, 3, 4, 5, 6, 7, 9], [7]), ([8, 10, 0, 1, 2, 3, 4, 5, 6, 7, 8, 9, 10], [8])])
def lR.B28 : List Nat := [0, 0, 0, 4, 15, 31, 63, 63, 63, 127, 767, 2047]
theorem lR.tab28 : rtab .any (opsOf Tryd.f8 28) = lR.T28 := by kernel_rfl
theorem lR.bits28 : waitsOk lR.T28.2 lR.B28 = true := by kernel_rfl
end Go.Proofs.YtbijamlgcebgeaaDoor.Q
-- part PH
namespace Go.Proofs.YtbijamlgcebgeaaDoor.Hand
open Go.RowKit Go.Shelf Go.Sort Go.Proofs.YtbijamlgcebgeaaDoorW.PrintWords Go.Proofs.YtbijamlgcebgeaaDoorW.PrintMore Go.Proofs.YtbijamlgcebgeaaDoor.Q
theorem goesC_of {F : Furn} {l : List S74} {load : List Int} {s p : Bool} (h : gR F l load = (s, p, 0)) : goesC.f F.bars F.length F.gap F.load F.near l load = some (s, p) := by
  unfold gR at h
  unfold goesC.f
  rw [h]
  simp
theorem fine_f {F : Furn} (hF : F.Ok) {load lie : List Int} (hl : load.length ≤ 6) (h2 : load.length ≤ lie.length) (hv : ∀ j : Nat, j < load.length → 0 ≤ rd load j ∧ rd load j < F.l.length) : smaltolaw03_fine.f F.bars F.length F.gap F.load F.near F.l load lie = some (fineB F load lie) := by
  unfold smaltolaw03_fine.f
  rw [if_pos]
  · rfl
  · unfold fineOk
    simp only [Bool.and_eq_true, decide_eq_true_eq, List.all_eq_true, List.mem_range]
    exact ⟨⟨⟨ok_check hF, hl⟩, h2⟩, hv⟩
/-- Bars by bytes. -/
def triedI (bs : List Int) (bars : Int) (i : Nat) : List Int := (List.range i).map fun (j : Nat) => rd bs j % bars
theorem triedI_succ (bs : List Int) (bars : Int) (i : Nat) : triedI bs bars (i + 1) = triedI bs bars i ++ [rd bs i % bars] := by unfold triedI; rw [List.range_succ, List.map_append]; rfl
theorem triedI_len (bs : List Int) (bars : Int) (i : Nat) : (triedI bs bars i).length = i := by unfold triedI; simp
/-- Signs, the first of which have their least weights. -/
def lightI (l : List S74) (i : Nat) : List S74 := (l.take i).map lite ++ l.drop i
theorem lightI_set {l : List S74} {i : Nat} (h : i < l.length) : (lightI l i).set i (lite (l.getD i z74)) = lightI l (i + 1) ∧ (lightI l i).getD i z74 = l.getD i z74 := by
  have hlen : ((l.take i).map lite).length = i := by simp; omega
  have hg : l.getD i z74 = l[i] := by rw [List.getD_eq_getElem?_getD, List.getElem?_eq_getElem h]; rfl
  unfold lightI
  rw [hg, List.drop_eq_getElem_cons h]
  constructor
  · rw [List.set_append_right _ _ (by omega), hlen, Nat.sub_self, List.set_cons_zero, List.take_succ_eq_append_getElem h, List.map_append, List.append_assoc]
    rfl
  · rw [List.getD_eq_getElem?_getD, List.getElem?_append_right (by omega), hlen, Nat.sub_self]
    rfl
theorem lightI_len (l : List S74) (i : Nat) : (lightI l i).length = l.length := by
  unfold lightI
  simp
  omega
section
variable {F : Furn} {load tried : List Int} {su po : Bool} {wh : List Int} {f lo hi g : Int}
theorem right_l2 (hF : F.Ok) (hD : RightD F load tried su po wh f lo hi g) (hlen : load.length ≤ 6) : ∀ d (i q : Nat), i + d = F.l.length → d + 10 ≤ q →
    lR.l2 q load po g (lightI F.l i) i F.bars F.length F.gap F.load F.near lo hi = some true := by
  have hl := hF.len
  intro d
  induction d with
  | zero =>
    intro i q hiq hq
    obtain ⟨q, rfl⟩ : ∃ p, q = p + 1 := ⟨q - 1, by omega⟩
    have hle := lightI_len F.l i
    have he : lightI F.l i = lightL F.l := by
      unfold lightI
      rw [show i = F.l.length by omega, List.take_of_length_le (Nat.le_refl _), List.drop_length, List.append_nil]
      rfl
    obtain ⟨p, hp⟩ := hD.light
    rw [lR.l2, if_neg (by omega), he, ints_f (by omega)]
    simp only [bs]
    rw [goesC_of hp]
    simp only [bs]
    have hend : (if g = 0 then (if lo ≤ hi then (knownC.f.bind fun _ => some true) else some false) else (knownC.f.bind fun _ => some true)) = some true := by
      by_cases h : g = 0
      · rw [if_pos h, if_pos (hD.heatle h)]; rfl
      · rw [if_neg h]; rfl
    cases po
    · rw [if_neg (by decide), if_neg (by decide)]
      exact hend
    · rw [if_pos rfl, if_pos rfl]
      exact hend
  | succ d ih =>
    intro i q hiq hq
    obtain ⟨q, rfl⟩ : ∃ p, q = p + 1 := ⟨q - 1, by omega⟩
    have hil : i < F.l.length := by omega
    obtain ⟨e1, e2⟩ := lightI_set hil
    have hle := lightI_len F.l i
    have := ih (i + 1) q (by omega) (by omega)
    rw [← e1, show ((i + 1 : Nat) : Int) = (i : Int) + 1 by omega] at this
    rw [lR.l2, if_pos (by omega), if_pos (by omega), Int.toNat_natCast, w64 (by omega)]
    have hr : rd_T74 (lightI F.l i) (i : Int) = F.l.getD i z74 := by unfold rd_T74; rw [Int.toNat_natCast]; exact e2
    rw [hr]
    exact this
theorem right_l1 (hF : F.Ok) (hD : RightD F load tried su po wh f lo hi g) (hlen : load.length ≤ 6) (hv : ∀ j : Nat, j < load.length → 0 ≤ rd load j ∧ rd load j < F.l.length) : ∀ d (i q : Nat), i + d = load.length → 2 * d + 30 ≤ q →
    lR.l1 q F.l load su po g i F.bars F.length F.gap F.load F.near lo hi = some true := by
  have hl := hF.len
  intro d
  induction d with
  | zero =>
    intro i q hiq hq
    obtain ⟨q, rfl⟩ : ∃ p, q = p + 1 := ⟨q - 1, by omega⟩
    rw [lR.l1, if_neg (by omega), own_f (by omega)]
    simp only [bs]
    exact right_l2 hF hD hlen F.l.length 0 q (by omega) (by omega)
  | succ d ih =>
    intro i q hiq hq
    obtain ⟨q, rfl⟩ : ∃ p, q = p + 1 + 1 := ⟨q - 2, by omega⟩
    have hil : i < load.length := by omega
    have := ih (i + 1) q (by omega) (by omega)
    rw [show ((i + 1 : Nat) : Int) = (i : Int) + 1 by omega] at this
    obtain ⟨v1, v2⟩ := hv i hil
    obtain ⟨s, p, hs, hss⟩ := hD.less i hil
    have j4 : lR.j4 (q + 1) F.l load su po g i false F.bars F.length F.gap F.load F.near lo hi = some true := by
      rw [lR.j4, if_neg (by decide), own_f (by omega)]
      simp only [bs]
      rw [if_pos (by omega), if_pos (by omega), Int.toNat_natCast, ints_f (by rw [List.length_take]; omega)]
      simp only [bs]
      rw [w64 (by omega), if_pos (by omega), if_pos (by omega), show ((i : Int) + 1).toNat = i + 1 by omega, if_pos (by rw [List.length_take, List.length_drop]; omega), goesC_of hs]
      simp only [bs]
      cases hsu : su
      · rw [if_neg (by decide)]
        rw [hsu] at this
        exact this
      · rw [if_pos rfl, if_pos (hss hsu)]
        rw [hsu] at this
        exact this
    rw [lR.l1, if_pos (by omega), if_pos (by omega), if_pos v1, if_pos v2]
    by_cases hg : g = 0
    · obtain ⟨h1, h2⟩ := hD.suits hg i hil
      rw [if_pos hg, if_neg (by omega), show decide (hi > (rd_T74 F.l (rd load i)).f3.f1) = false from decide_eq_false (by omega)]
      exact j4
    · rw [if_neg hg]
      exact j4
theorem right_j1 (hF : F.Ok) (hD : RightD F load tried su po wh f lo hi g) (hlen : load.length ≤ 6) (ht : tried.length = load.length) (hv : ∀ j : Nat, j < load.length → 0 ≤ rd load j ∧ rd load j < F.l.length) (q : Nat) (hq : 60 ≤ q) :
    lR.j1 q F.l load tried su po wh f g false F.bars F.length F.gap F.load F.near lo hi = some true := by
  obtain ⟨q, rfl⟩ : ∃ p, q = p + 1 + 1 := ⟨q - 2, by omega⟩
  have hj2 : ∀ b : Bool, b = false → lR.j2 (q + 1) F.l load su po g b F.bars F.length F.gap F.load F.near lo hi = some true := by
    intro b hb
    rw [lR.j2, if_neg (by rw [hb]; decide)]
    exact right_l1 hF hD hlen hv load.length 0 q (by omega) (by omega)
  have hft := fine_f hF (lie := tried) hlen (by omega) hv
  rw [lR.j1, if_neg (by decide)]
  rcases hD.ways with ⟨rfl, rfl, rfl, rfl⟩ | ⟨rfl, hf, hg⟩
  · have hwl := hD.whlen rfl
    rw [if_pos rfl, if_pos (by omega), if_pos rfl, fine_f hF (lie := wh) hlen (by omega) hv, hD.fine1 rfl]
    simp only [bs]
    rw [if_pos trivial, hft]
    simp only [bs]
    cases fineB F load tried
    · rw [if_neg (by decide)]
      exact hj2 _ rfl
    · rw [if_pos rfl]
      exact hj2 _ rfl
  · rw [hD.fine2 rfl] at hft
    have hb : (smaltolaw03_fine.f F.bars F.length F.gap F.load F.near F.l load tried).bind (fun t => if t = true then lR.j2 (q + 1) F.l load false po g (!false) F.bars F.length F.gap F.load F.near lo hi else lR.j2 (q + 1) F.l load false po g false F.bars F.length F.gap F.load F.near lo hi) = some true := by
      rw [hft]
      simp only [bs]
      rw [if_neg (by decide)]
      exact hj2 _ rfl
    rcases hf with rfl | rfl
    · have hwl := hD.whlen rfl
      rw [if_pos rfl, if_pos (by omega), if_neg (by decide)]
      exact hb
    · rw [if_neg (by decide), if_neg (by decide)]
      exact hb
end
/-- The plain law of ForkRight. -/
theorem right_pure {a0 a1 a2 a3 a4 : Int} {l : List S63} (h0 : okB5 ⟨a0, a1, a2, a3, a4⟩ = true) (h1 : ∀ x ∈ l, okB5 x = true) (by_ : Nat) (hby : by_ < 256) {b0 b1 b2 b3 b4 b5 : Int} (hb : ∀ y ∈ [b0, b1, b2, b3, b4, b5], 0 ≤ y ∧ y < 256) : lR.f 200 a0 a1 a2 a3 a4 l by_ b0 b1 b2 b3 b4 b5 = some true := by
  obtain ⟨F, hF, hm, _⟩ := made_f h0 h1
  have hl := hF.len
  have hbars := hF.bars
  have hlen : (chosenL F.l.length by_).length ≤ 6 := Nat.le_trans (chosenL_len _ _) hl
  have hv := chosenL_in F.l.length by_
  obtain ⟨su, po, wh, f, lo, hi, g, hD⟩ := right_facts hF by_ (triedI [b0, b1, b2, b3, b4, b5] F.bars (chosenL F.l.length by_).length) (triedI_len _ _ _)
  have ht := triedI_len [b0, b1, b2, b3, b4, b5] F.bars (chosenL F.l.length by_).length
  obtain ⟨load, hload⟩ : ∃ x, chosenL F.l.length by_ = x := ⟨_, rfl⟩
  obtain ⟨tried, htried⟩ : ∃ x, triedI [b0, b1, b2, b3, b4, b5] F.bars load.length = x := ⟨_, rfl⟩
  rw [hload] at hlen hv hD ht
  rw [htried] at hD ht
  have htail : ∀ q, 60 ≤ q → lR.l0 (q + 1) F.l load tried load.length b0 b1 b2 b3 b4 b5 F.bars F.length F.gap F.load F.near = some true := by
    intro q hq
    have hj := right_j1 hF hD hlen ht hv q hq
    have hB : fork_Bars.f F.bars F.length F.gap F.load F.near F.l load = some (wh, f) := by unfold fork_Bars.f; rw [hD.bars]
    have hH : fork_Heat.f F.bars F.length F.gap F.load F.near F.l load = some (lo, hi, g) := by unfold fork_Heat.f; rw [hD.heat]
    rw [lR.l0, if_neg (by omega), own_f (by omega)]
    simp only [bs]
    rw [ints_f (by omega)]
    simp only [bs]
    rw [goesC_of hD.goes]
    simp only [bs]
    rw [hB]
    simp only [bs]
    rw [hH]
    simp only [bs]
    rcases hD.ways with ⟨rfl, rfl, rfl, rfl⟩ | ⟨rfl, hf, hg⟩
    · rw [if_pos rfl, if_pos rfl, if_pos rfl, if_pos rfl, show ((0 : Int) != 0) = false by decide]
      exact hj
    · rcases hf with rfl | rfl
      · rw [if_pos rfl]
        rcases hg with rfl | rfl
        · rw [if_pos rfl, if_neg (by decide)]
          exact hj
        · obtain ⟨rfl, rfl⟩ := hD.heat0 rfl
          rw [if_neg (by decide), if_pos rfl]
          unfold smaltolaw03_span.f
          simp only [bs]
          rw [if_neg (by decide), if_neg (by decide)]
          exact hj
      · obtain rfl := hD.whnil rfl
        rw [if_neg (by decide), if_pos rfl, if_pos (by simp)]
        rcases hg with rfl | rfl
        · rw [if_pos rfl, if_neg (by decide)]
          exact hj
        · obtain ⟨rfl, rfl⟩ := hD.heat0 rfl
          rw [if_neg (by decide), if_pos rfl]
          unfold smaltolaw03_span.f
          simp only [bs]
          rw [if_neg (by decide), if_neg (by decide)]
          exact hj
  have key : ∀ d (i q : Nat), i + d = load.length → d + 61 ≤ q → lR.l0 q F.l load (triedI [b0, b1, b2, b3, b4, b5] F.bars i) i b0 b1 b2 b3 b4 b5 F.bars F.length F.gap F.load F.near = some true := by
    intro d
    induction d with
    | zero =>
      intro i q hiq hq
      obtain ⟨q, rfl⟩ : ∃ p, q = p + 1 := ⟨q - 1, by omega⟩
      obtain rfl : i = load.length := by omega
      rw [htried]
      exact htail q (by omega)
    | succ d ih =>
      intro i q hiq hq
      obtain ⟨q, rfl⟩ : ∃ p, q = p + 1 := ⟨q - 1, by omega⟩
      have := ih (i + 1) q (by omega) (by omega)
      rw [show ((i + 1 : Nat) : Int) = (i : Int) + 1 by omega, triedI_succ] at this
      have hi6 : i < [b0, b1, b2, b3, b4, b5].length := by simp; omega
      have h1 := hb _ (List.getElem_mem hi6)
      rw [← rd_get hi6] at h1
      rw [lR.l0, if_pos (by omega), if_pos (by omega), if_pos (by omega), if_neg (by omega), if_pos (by rw [triedI_len]; omega), w64 (x := rd [b0, b1, b2, b3, b4, b5] i) (by omega), Int.tmod_eq_emod_of_nonneg h1.1, w64 (x := (i : Int) + 1) (by omega)]
      exact this
  unfold lR.f
  rw [hm]
  simp only [bs]
  rw [chosen_f hl by_ hby _ (by omega), hload]
  simp only [bs]
  exact key load.length 0 200 (by omega) (by omega)
end Go.Proofs.YtbijamlgcebgeaaDoor.Hand
-- part QP
namespace Go.Proofs.YtbijamlgcebgeaaDoor.Q
open Go.RowKit Go.Proofs.YtbijamlgcebgeaaDoorW.PrintWords Go.Proofs.YtbijamlgcebgeaaDoorW.PrintLast Go.Proofs.YtbijamlgcebgeaaDoorW.PrintMore
/-- Which operations have come up: the bits of a number. -/
def bl (n m : Nat) : Array Bool := ((List.range n).map fun i => m.testBit i).toArray
section
variable {P : Program} {md : Region.Mode} {ops : Array Oper} {Q : Exit → Act → World → Prop} {S : World → Prop} {ds : List Nat} {T : Bool × List (List Nat × List Nat)} {B : List Nat} {fuel : Nat} {l : Array Bool} {a a' : Act} {w : World} {oi : Oper} {v : Value}
theorem pq (i : Nat) (N : Option Tmp) (l' : Array Bool) (hT : Aside0 (rtab md ops = T)) (hi : ops[i]? = some oi := by rfl) (hN : oi.dst = N := by rfl) (hc : anyT T l.toList l'.toList i = true := by kernel_rfl)
    (hQ : ∀ c a w, Q (.panic c) (a.put oi.dst v) w → Q (.panic c) a w := by exact fun _ _ _ h => h) (h1 : Region.wanted oi (yielded ops a.tmps) = true := by rfl) (h2 : ∀ w, (execOp a.eval oi).run P w = .ok (.value v) w := by intro w'; go_simp; with_reducible rfl)
    (ha : a.put N v = a' := by simp only [Act.put, List.setIfInBounds_toArray, List.set_cons_zero, List.set_cons_succ, i64_w, i32_w]; rfl)
    (h : wpAnyLast P md ops Q S ds fuel l' a' w) : wpAnyLast P md ops Q S ds (fuel + 1) l a w := pure_ l' hi hN (any_of hT.out hc) hQ (Or.inl ⟨h1, h2⟩) ha h
theorem po (i : Nat) (N : Option Tmp) (l' : Array Bool) (hT : Aside0 (rtab md ops = T)) (hi : ops[i]? = some oi := by rfl) (hN : oi.dst = N := by rfl) (hc : anyT T l.toList l'.toList i = true := by kernel_rfl)
    (hQ : ∀ c a w, Q (.panic c) (a.put oi.dst undef) w → Q (.panic c) a w := by exact fun _ _ _ h => h) (h1 : Region.wanted oi (yielded ops a.tmps) = false := by rfl)
    (ha : a.put N undef = a' := by simp only [Act.put, List.setIfInBounds_toArray, List.set_cons_zero, List.set_cons_succ, i64_w, i32_w]; rfl)
    (h : wpAnyLast P md ops Q S ds fuel l' a' w) : wpAnyLast P md ops Q S ds (fuel + 1) l a w := pure_ l' hi hN (any_of hT.out hc) hQ (Or.inr ⟨h1, rfl⟩) ha h
theorem tq (i : Nat) (N : Option Tmp) (l' : Array Bool) (hT : Aside0 (rtab md ops = T)) (hW : Aside0 (waitsOk T.2 B = true)) (hS : S w) (hi : ops[i]? = some oi := by rfl) (hN : oi.dst = N := by rfl) (hc : takeW T B ds l.toList l'.toList i = true := by kernel_rfl)
    (hQ : ∀ c a w, Q (.panic c) (a.put oi.dst v) w → Q (.panic c) a w := by exact fun _ _ _ h => h) (h1 : Region.wanted oi (yielded ops a.tmps) = true := by rfl) (h2 : ∀ w, S w → (execOp a.eval oi).run P w = .ok (.value v) w := by intro w' h_; go_simp; with_reducible rfl)
    (ha : a.put N v = a' := by simp only [Act.put, List.setIfInBounds_toArray, List.set_cons_zero, List.set_cons_succ, i64_w, i32_w]; rfl)
    (h : wpAnyLast P md ops Q S ds fuel l' a' w) : wpAnyLast P md ops Q S ds (fuel + 1) l a w := take_ l' hi hN (take_ofW hT.out hW.out hc) hQ (Or.inl ⟨h1, h2⟩) hS ha h
theorem nq (k : Nat) {v : Value} {l : Array Bool} (h : wpAnyLast P md ops Q S ds fuel l a' w) (ha : a.put (some k) v = a' := by simp only [Act.put, List.setIfInBounds_toArray, List.set_cons_zero, List.set_cons_succ, i64_w, i32_w]; rfl) : wpAnyLast P md ops Q S ds fuel l (a.put (some k) v) w := norm_ ha h
end
end Go.Proofs.YtbijamlgcebgeaaDoor.Q
-- part QR
namespace Go.Proofs.YtbijamlgcebgeaaDoor.Q
open Go.RowKit Go.Proofs.YtbijamlgcebgeaaDoorW.PrintWords Go.Proofs.YtbijamlgcebgeaaDoorW.PrintLast Go.Proofs.YtbijamlgcebgeaaDoorW.PrintMore
section
variable {α : Type} {d : Kd α} {e base : Nat} {ok : Nat → Prop} {v : Value} {xs : List α} {w w' w0 : World} {g : Nat} {o : Obj}
theorem R_ (H : Aside0 (d.R e w base ok v xs)) (p : Below w.heap.size w w' := by repeat (first | (with_reducible exact Below.refl _ _) | apply below_alloc | apply pw_below_drewN | apply below_drew1)) : d.R e w' base ok v xs := Kd.R_below H.out p
theorem b_ (H : Aside0 (w.heap[g]? = some o)) (p : Below w.heap.size w w' := by repeat (first | (with_reducible exact Below.refl _ _) | apply below_alloc | apply pw_below_drewN | apply below_drew1)) : w'.heap[g]? = some o := blk_below H.out p
theorem B_ (H : Aside0 (Below w0.heap.size w0 w)) (p : Below w.heap.size w w' := by repeat (first | (with_reducible exact Below.refl _ _) | apply below_alloc | apply pw_below_drewN | apply below_drew1)) : Below w0.heap.size w0 w' := below_step H.out p
end
end Go.Proofs.YtbijamlgcebgeaaDoor.Q
-- part QX
namespace Go.Proofs.YtbijamlgcebgeaaDoor.Q
open Go.RowKit Go.Proofs.YtbijamlgcebgeaaDoorW.PrintWords Go.Proofs.YtbijamlgcebgeaaDoorW.PrintLast Go.Proofs.YtbijamlgcebgeaaDoorW.PrintMore
section
variable {α : Type} {d : Kd α} {e base g t n c : Nat} {ok : Nat → Prop} {v : Value} {xs : List α} {w w' w'' w0 : World} {o : Obj} {A : Option Addr} {cells : Array Value}
theorem Bq (H : Aside0 (Below w0.heap.size w0 w)) (p : Below w0.heap.size w0 w → Below w0.heap.size w0 w' := by intro h_; repeat (first | (with_reducible first | exact h_ | apply below_alloc | apply pw_below_drewN | apply below_drew1 | refine below_set ?_ (Aside0.out (by assumption))) | exact h_)) : Below w0.heap.size w0 w' := p H.out
theorem bb (H : Aside0 (w.heap[g]? = some o)) (hb : Below w'.heap.size w' w'') (p : Below w.heap.size w w' := by repeat (first | (with_reducible exact Below.refl _ _) | apply below_alloc | apply pw_below_drewN | apply below_drew1)) : Aside0 (w''.heap[g]? = some o) := ⟨blk_below (blk_below H.out p) hb⟩
theorem RB (H : Aside0 (d.R e w base ok v xs)) (hb : Below w'.heap.size w' w'') (p : Below w.heap.size w w' := by repeat (first | (with_reducible exact Below.refl _ _) | apply below_alloc | apply pw_below_drewN | apply below_drew1)) : Aside0 (d.R e w'' base ok v xs) := ⟨Kd.R_below (Kd.R_below H.out p) hb⟩
theorem rC (H : Aside0 (d.R e w base ok (.slice A n c) xs)) (p : Below w.heap.size w w' := by repeat (first | (with_reducible exact Below.refl _ _) | apply below_alloc | apply pw_below_drewN | apply below_drew1)) : d.C w' A xs.length xs := (Kd.R_reads' (Kd.R_below H.out p)).2.2
theorem fR2 (H : Aside0 (d.R e w base ok v xs)) (BK : Aside0 (w.heap[g]? = some (.cells cells t (0, 0)))) (i j : Nat) (a b : Value) (ok' : Nat → Prop) (h : ∀ k, (ok k ∧ k ≠ g) → ok' k) (ht : ∀ q, q ∈ e :: d.E → q ≠ t := by decide) : Aside0 (d.R e ((w.setCell ⟨g, i, none⟩ a).setCell ⟨g, j, none⟩ b) base ok' v xs) :=
  ⟨Kd.R_mono (Kd.R_far (p := ⟨g, j, none⟩) (Kd.R_far (p := ⟨g, i, none⟩) (Kd.R_types H.out BK.out ht) (fun _ hk => hk.2) a) (fun _ hk => hk.2) b) h⟩
theorem fB2 {g' : Nat} (H : Aside0 (w.heap[g]? = some (.cells cells t (0, 0)))) (N : Aside0 (g ≠ g')) (i j : Nat) (a b : Value) : Aside0 (((w.setCell ⟨g', i, none⟩ a).setCell ⟨g', j, none⟩ b).heap[g]? = some (.cells cells t (0, 0))) :=
  ⟨blk_far (blk_far H.out N.out _) N.out _⟩
theorem kc (H : Aside0 (w.heap[g]? = some (.cells cells t (0, 0)))) (i : Nat) (hv : cells[i]? = some v := by rfl) : w.cell? ⟨g, i, none⟩ = some v := (blk_cell H.out i).trans hv
end
section
variable {P : Program} {md : Region.Mode} {ops : Array Oper} {Q : Exit → Act → World → Prop} {S : World → Prop} {ds : List Nat} {T : Bool × List (List Nat × List Nat)} {B : List Nat} {fuel : Nat} {l : Array Bool} {a a' : Act} {w : World} {oi : Oper} {v : Value}
theorem pS (i N n m : Nat) (hT : Aside0 (rtab md ops = T)) (h : wpAnyLast P md ops Q S ds fuel (bl n m) a' w) (hi : ops[i]? = some oi := by rfl) (hN : oi.dst = some N := by rfl) (hc : anyT T l.toList (bl n m).toList i = true := by kernel_rfl)
    (hQ : ∀ c a w, Q (.panic c) (a.put oi.dst v) w → Q (.panic c) a w := by exact fun _ _ _ h => h) (h1 : Region.wanted oi (yielded ops a.tmps) = true := by rfl) (h2 : ∀ w, (execOp a.eval oi).run P w = .ok (.value v) w := by intro w'; go_simp; with_reducible rfl)
    (ha : a.put (some N) v = a' := by simp only [Act.put, List.setIfInBounds_toArray, List.set_cons_zero, List.set_cons_succ, i64_w, i32_w]; rfl) : wpAnyLast P md ops Q S ds (fuel + 1) l a w := pq i (some N) (bl n m) hT hi hN hc hQ h1 h2 ha h
theorem oS (i N n m : Nat) (hT : Aside0 (rtab md ops = T)) (h : wpAnyLast P md ops Q S ds fuel (bl n m) a' w) (hi : ops[i]? = some oi := by rfl) (hN : oi.dst = some N := by rfl) (hc : anyT T l.toList (bl n m).toList i = true := by kernel_rfl)
    (hQ : ∀ c a w, Q (.panic c) (a.put oi.dst undef) w → Q (.panic c) a w := by exact fun _ _ _ h => h) (h1 : Region.wanted oi (yielded ops a.tmps) = false := by rfl)
    (ha : a.put (some N) undef = a' := by simp only [Act.put, List.setIfInBounds_toArray, List.set_cons_zero, List.set_cons_succ, i64_w, i32_w]; rfl) : wpAnyLast P md ops Q S ds (fuel + 1) l a w := po i (some N) (bl n m) hT hi hN hc hQ h1 ha h
end
end Go.Proofs.YtbijamlgcebgeaaDoor.Q

/- ForkCost: the law returns true for every input; each argument reads behind the call as it read before (for worlds in which the two tables of the library hold what its initialisers lay). Part 1 of 1. -/
import Derived.Test.YtbijamlgcebgeaaDoorD4
import Derived.Test.YtbijamlgcebgeaaDoorCards
import Derived.Test.YtbijamlgcebgeaaDoorTie
set_option linter.unusedVariables false
set_option linter.unusedSimpArgs false
-- part QLf
namespace Go.Proofs.YtbijamlgcebgeaaDoor.Q
open Go.RowKit Go.Proofs.YtbijamlgcebgeaaDoorW.PrintWords Go.Proofs.YtbijamlgcebgeaaDoorW.PrintLast Go.Proofs.YtbijamlgcebgeaaDoorW.PrintMore
attribute [local go_sem] max2_int min2_int max_two min_two max_three min_three max_four min_four
mutual
def lC.j0 : Nat → List (S74) → List Int → Int → List Int → Bool → Int → Int → Int → Int → Int → Option (Bool)
  | 0, _, _, _, _, _, _, _, _, _, _ => none
  | k + 1, x4, x5, x6, x7, x54, x381000, x381001, x381002, x381003, x381004 => if x54 = true then (some false) else (lC.l0 k x4 x5 x6 x7 0 x381000 x381001 x381002 x381003 x381004)
def lC.l0 : Nat → List (S74) → List Int → Int → List Int → Int → Int → Int → Int → Int → Int → Option (Bool)
  | 0, _, _, _, _, _, _, _, _, _, _ => none
  | k + 1, x4, x5, x6, x7, x9, x381000, x381001, x381002, x381003, x381004 => if x9 < (x4.length : Int) then (lC.j2 k x4 x5 x6 x7 x9 (x6 == 0) x381000 x381001 x381002 x381003 x381004) else (lC.j2 k x4 x5 x6 x7 x9 false x381000 x381001 x381002 x381003 x381004)
def lC.j2 : Nat → List (S74) → List Int → Int → List Int → Int → Bool → Int → Int → Int → Int → Int → Option (Bool)
  | 0, _, _, _, _, _, _, _, _, _, _, _ => none
  | k + 1, x4, x5, x6, x7, x9, x62, x381000, x381001, x381002, x381003, x381004 => if x62 = true then (if 0 ≤ x9 then (if x9 ≤ (x4.length : Int) then ((smaltolaw03_own.f (x4.take (x9 : Int).toNat)).bind fun t402 => (if 0 ≤ (wrap64 (x9 + 1)) then (if (wrap64 (x9 + 1)) ≤ (x4.length : Int) then ((some (x4.drop ((wrap64 (x9 + 1)) : Int).toNat : List (S74))).bind fun y405 => (if t402.length + y405.length < 2932031007402 then ((fork_Loads.f x381000 x381001 x381002 x381003 x381004 (t402 ++ y405)).bind fun bt412 => ((smaltolaw03_has.f k x7 x9).bind fun t416 => (if t416 = true then (lC.j3 k x4 x5 x6 x7 x9 bt412.1 bt412.2 1 x381000 x381001 x381002 x381003 x381004) else (lC.j3 k x4 x5 x6 x7 x9 bt412.1 bt412.2 0 x381000 x381001 x381002 x381003 x381004)))) else (none))) else (none)) else (none))) else (none)) else (none)) else ((knownC.f).bind fun _ => (some true))
def lC.j3 : Nat → List (S74) → List Int → Int → List Int → Int → List Int → Int → Int → Int → Int → Int → Int → Int → Option (Bool)
  | 0, _, _, _, _, _, _, _, _, _, _, _, _, _ => none
  | k + 1, x4, x5, x6, x7, x9, x10, x11, x12, x381000, x381001, x381002, x381003, x381004 => if x11 = 0 then ((smaltolaw03_count.f k x10).bind fun t417 => ((smaltolaw03_count.f k x5).bind fun t418 => (if t417 = (wrap64 (t418 - x12)) then (lC.l0 k x4 x5 x6 x7 (wrap64 (x9 + 1)) x381000 x381001 x381002 x381003 x381004) else (some false)))) else (some false)
end
def lC.f (k : Nat) (a0_0 : Int) (a0_1 : Int) (a0_2 : Int) (a0_3 : Int) (a0_4 : Int) (l0_5 : List (S63)) : Option (Bool) := (smaltolaw03_Rack_made.f a0_0 a0_1 a0_2 a0_3 a0_4 l0_5).bind fun bt372 => ((smaltolaw03_own.f bt372.2.2.2.2.2).bind fun t381 => ((fork_Loads.f bt372.1 bt372.2.1 bt372.2.2.1 bt372.2.2.2.1 bt372.2.2.2.2.1 t381).bind fun bt384 => ((smaltolaw03_own.f bt372.2.2.2.2.2).bind fun t388 => ((fork_Dear.f bt372.1 bt372.2.1 bt372.2.2.1 bt372.2.2.2.1 bt372.2.2.2.2.1 t388).bind fun bt391 => (if bt384.2 = bt391.2 then (if bt384.2 = 0 then ((upC.f k bt391.1 (bt372.2.2.2.2.2.length : Int)).bind fun _ => (lC.j0 k bt372.2.2.2.2.2 bt384.1 bt384.2 bt391.1 false bt372.1 bt372.2.1 bt372.2.2.1 bt372.2.2.2.1 bt372.2.2.2.2.1)) else (if bt384.2 = 7 then (if (bt391.1.length : Int) = 0 then ((upC.f k bt391.1 (bt372.2.2.2.2.2.length : Int)).bind fun _ => (lC.j0 k bt372.2.2.2.2.2 bt384.1 bt384.2 bt391.1 false bt372.1 bt372.2.1 bt372.2.2.1 bt372.2.2.2.1 bt372.2.2.2.2.1)) else (lC.j0 k bt372.2.2.2.2.2 bt384.1 bt384.2 bt391.1 true bt372.1 bt372.2.1 bt372.2.2.1 bt372.2.2.2.1 bt372.2.2.2.2.1)) else (lC.j0 k bt372.2.2.2.2.2 bt384.1 bt384.2 bt391.1 true bt372.1 bt372.2.1 bt372.2.2.1 bt372.2.2.2.1 bt372.2.2.2.2.1))) else (lC.j0 k bt372.2.2.2.2.2 bt384.1 bt384.2 bt391.1 true bt372.1 bt372.2.1 bt372.2.2.1 bt372.2.2.2.1 bt372.2.2.2.2.1))))))
theorem lC.mono_l : ∀ k, (∀ y0 y1 y2 y3 y4 y5 y6 y7 y8 y9, LeO (lC.j0 k y0 y1 y2 y3 y4 y5 y6 y7 y8 y9) (lC.j0 (k + 1) y0 y1 y2 y3 y4 y5 y6 y7 y8 y9)) ∧ (∀ y0 y1 y2 y3 y4 y5 y6 y7 y8 y9, LeO (lC.l0 k y0 y1 y2 y3 y4 y5 y6 y7 y8 y9) (lC.l0 (k + 1) y0 y1 y2 y3 y4 y5 y6 y7 y8 y9)) ∧ (∀ y0 y1 y2 y3 y4 y5 y6 y7 y8 y9 y10, LeO (lC.j2 k y0 y1 y2 y3 y4 y5 y6 y7 y8 y9 y10) (lC.j2 (k + 1) y0 y1 y2 y3 y4 y5 y6 y7 y8 y9 y10)) ∧ (∀ y0 y1 y2 y3 y4 y5 y6 y7 y8 y9 y10 y11 y12, LeO (lC.j3 k y0 y1 y2 y3 y4 y5 y6 y7 y8 y9 y10 y11 y12) (lC.j3 (k + 1) y0 y1 y2 y3 y4 y5 y6 y7 y8 y9 y10 y11 y12))
  | 0 => ⟨fun _ _ _ _ _ _ _ _ _ _ r h => by simp [lC.j0] at h, fun _ _ _ _ _ _ _ _ _ _ r h => by simp [lC.l0] at h, fun _ _ _ _ _ _ _ _ _ _ _ r h => by simp [lC.j2] at h, fun _ _ _ _ _ _ _ _ _ _ _ _ _ r h => by simp [lC.j3] at h⟩
  | k + 1 => by
    obtain ⟨ih0, ih1, ih2, ih3⟩ := lC.mono_l k
    refine ⟨?_, ?_, ?_, ?_⟩
    · intro y0 y1 y2 y3 y4 y5 y6 y7 y8 y9
      unfold lC.j0
      repeat' first
      | (with_reducible exact ih0 _ _ _ _ _ _ _ _ _ _)
      | (with_reducible exact ih1 _ _ _ _ _ _ _ _ _ _)
      | (with_reducible exact ih2 _ _ _ _ _ _ _ _ _ _ _)
      | (with_reducible exact ih3 _ _ _ _ _ _ _ _ _ _ _ _ _)
      | (with_reducible exact smaltolaw03_count.mono _ _)
      | (with_reducible exact smaltolaw03_has.mono _ _ _)
      | (with_reducible exact upC.mono _ _ _)
      | (with_reducible exact LeO.refl _)
      | (with_reducible exact LeO.none _)
      | (with_reducible refine LeO.ite ?_ ?_)
      | (with_reducible refine LeO.bind ?_ (fun _ => ?_))
      | exact ih0 _ _ _ _ _ _ _ _ _ _
      | exact ih1 _ _ _ _ _ _ _ _ _ _
      | exact ih2 _ _ _ _ _ _ _ _ _ _ _
      | exact ih3 _ _ _ _ _ _ _ _ _ _ _ _ _
      | exact smaltolaw03_count.mono _ _
      | exact smaltolaw03_has.mono _ _ _
      | exact upC.mono _ _ _
      | exact LeO.none _
      | refine LeO.ite ?_ ?_
      | refine LeO.bind ?_ (fun _ => ?_)
    · intro y0 y1 y2 y3 y4 y5 y6 y7 y8 y9
      unfold lC.l0
      repeat' first
      | (with_reducible exact ih0 _ _ _ _ _ _ _ _ _ _)
      | (with_reducible exact ih1 _ _ _ _ _ _ _ _ _ _)
      | (with_reducible exact ih2 _ _ _ _ _ _ _ _ _ _ _)
      | (with_reducible exact ih3 _ _ _ _ _ _ _ _ _ _ _ _ _)
      | (with_reducible exact smaltolaw03_count.mono _ _)
      | (with_reducible exact smaltolaw03_has.mono _ _ _)
      | (with_reducible exact upC.mono _ _ _)
      | (with_reducible exact LeO.refl _)
      | (with_reducible exact LeO.none _)
      | (with_reducible refine LeO.ite ?_ ?_)
      | (with_reducible refine LeO.bind ?_ (fun _ => ?_))
      | exact ih0 _ _ _ _ _ _ _ _ _ _
      | exact ih1 _ _ _ _ _ _ _ _ _ _
      | exact ih2 _ _ _ _ _ _ _ _ _ _ _
      | exact ih3 _ _ _ _ _ _ _ _ _ _ _ _ _
      | exact smaltolaw03_count.mono _ _
      | exact smaltolaw03_has.mono _ _ _
      | exact upC.mono _ _ _
      | exact LeO.none _
      | refine LeO.ite ?_ ?_
      | refine LeO.bind ?_ (fun _ => ?_)
    · intro y0 y1 y2 y3 y4 y5 y6 y7 y8 y9 y10
      unfold lC.j2
      repeat' first
      | (with_reducible exact ih0 _ _ _ _ _ _ _ _ _ _)
      | (with_reducible exact ih1 _ _ _ _ _ _ _ _ _ _)
      | (with_reducible exact ih2 _ _ _ _ _ _ _ _ _ _ _)
      | (with_reducible exact ih3 _ _ _ _ _ _ _ _ _ _ _ _ _)
      | (with_reducible exact smaltolaw03_count.mono _ _)
      | (with_reducible exact smaltolaw03_has.mono _ _ _)
      | (with_reducible exact upC.mono _ _ _)
      | (with_reducible exact LeO.refl _)
      | (with_reducible exact LeO.none _)
      | (with_reducible refine LeO.ite ?_ ?_)
      | (with_reducible refine LeO.bind ?_ (fun _ => ?_))
      | exact ih0 _ _ _ _ _ _ _ _ _ _
      | exact ih1 _ _ _ _ _ _ _ _ _ _
      | exact ih2 _ _ _ _ _ _ _ _ _ _ _
      | exact ih3 _ _ _ _ _ _ _ _ _ _ _ _ _
      | exact smaltolaw03_count.mono _ _
      | exact smaltolaw03_has.mono _ _ _
      | exact upC.mono _ _ _
      | exact LeO.none _
      | refine LeO.ite ?_ ?_
      | refine LeO.bind ?_ (fun _ => ?_)
    · intro y0 y1 y2 y3 y4 y5 y6 y7 y8 y9 y10 y11 y12
      unfold lC.j3
      repeat' first
      | (with_reducible exact ih0 _ _ _ _ _ _ _ _ _ _)
      | (with_reducible exact ih1 _ _ _ _ _ _ _ _ _ _)
      | (with_reducible exact ih2 _ _ _ _ _ _ _ _ _ _ _)
      | (with_reducible exact ih3 _ _ _ _ _ _ _ _ _ _ _ _ _)
      | (with_reducible exact smaltolaw03_count.mono _ _)
      | (with_reducible exact smaltolaw03_has.mono _ _ _)
      | (with_reducible exact upC.mono _ _ _)
      | (with_reducible exact LeO.refl _)
      | (with_reducible exact LeO.none _)
      | (with_reducible refine LeO.ite ?_ ?_)
      | (with_reducible refine LeO.bind ?_ (fun _ => ?_))
      | exact ih0 _ _ _ _ _ _ _ _ _ _
      | exact ih1 _ _ _ _ _ _ _ _ _ _
      | exact ih2 _ _ _ _ _ _ _ _ _ _ _
      | exact ih3 _ _ _ _ _ _ _ _ _ _ _ _ _
      | exact smaltolaw03_count.mono _ _
      | exact smaltolaw03_has.mono _ _ _
      | exact upC.mono _ _ _
      | exact LeO.none _
      | refine LeO.ite ?_ ?_
      | refine LeO.bind ?_ (fun _ => ?_)
theorem lC.mono : ∀ a0 a1 a2 a3 a4 a5 k, LeO (lC.f k a0 a1 a2 a3 a4 a5) (lC.f (k + 1) a0 a1 a2 a3 a4 a5) := by
  intro a0 a1 a2 a3 a4 a5 k
  obtain ⟨ih0, ih1, ih2, ih3⟩ := lC.mono_l k
  unfold lC.f
  repeat' first
      | (with_reducible exact ih0 _ _ _ _ _ _ _ _ _ _)
      | (with_reducible exact ih1 _ _ _ _ _ _ _ _ _ _)
      | (with_reducible exact ih2 _ _ _ _ _ _ _ _ _ _ _)
      | (with_reducible exact ih3 _ _ _ _ _ _ _ _ _ _ _ _ _)
      | (with_reducible exact smaltolaw03_count.mono _ _)
      | (with_reducible exact smaltolaw03_has.mono _ _ _)
      | (with_reducible exact upC.mono _ _ _)
      | (with_reducible exact LeO.refl _)
      | (with_reducible exact LeO.none _)
      | (with_reducible refine LeO.ite ?_ ?_)
      | (with_reducible refine LeO.bind ?_ (fun _ => ?_))
      | exact ih0 _ _ _ _ _ _ _ _ _ _
      | exact ih1 _ _ _ _ _ _ _ _ _ _
      | exact ih2 _ _ _ _ _ _ _ _ _ _ _
      | exact ih3 _ _ _ _ _ _ _ _ _ _ _ _ _
      | exact smaltolaw03_count.mono _ _
      | exact smaltolaw03_has.mono _ _ _
      | exact upC.mono _ _ _
      | exact LeO.none _
      | refine LeO.ite ?_ ?_
      | refine LeO.bind ?_ (fun _ => ?_)
def lC.T2 : Bool × List (List Nat × List Nat) := (true, [([], []), ([], []), ([1], [1]), ([0, 2, 2], [0, 2]), ([3], [3]), ([4], [4]), ([4], [4]), ([5, 3, 0, 1, 2, 3, 4, 5], [5]), ([6, 7, 0, 1, 2, 3, 4, 5, 6, 7], [6])])
def lC.B2 : List Nat := [0, 0, 2, 7, 15, 31, 31, 63, 255]
theorem lC.tab2 : rtab .any (opsOf Tryd.f11 2) = lC.T2 := by kernel_rfl
theorem lC.bits2 : waitsOk lC.T2.2 lC.B2 = true := by kernel_rfl
def lC.T3 : Bool × List (List Nat × List Nat) := (true, [([], []), ([], []), ([1], [1]), ([0, 2, 2], [0, 2]), ([3], [3]), ([4], [4]), ([4], [4]), ([5, 3, 0, 1, 2, 3, 4, 5], [5]), ([6, 7, 0, 1, 2, 3, 4, 5, 6, 7], [6])])
def lC.B3 : List Nat := [0, 0, 2, 7, 15, 31, 31, 63, 255]
theorem lC.tab3 : rtab .any (opsOf Tryd.f11 3) = lC.T3 := by kernel_rfl
theorem lC.bits3 : waitsOk lC.T3.2 lC.B3 = true := by kernel_rfl
def lC.T9 : Bool × List (List Nat × List Nat) := (true, [([], []), ([], []), ([], []), ([1, 2], [1, 2]), ([3], [3]), ([], []), ([], []), ([6], [6]), ([5, 7], [5, 7]), ([4, 8, 4], [4, 8]), ([0, 9, 9], [0, 9]), ([10], [10]), ([11], [11]), ([11], [11]), ([12, 10, 0, 1, 2, 3, 4, 5, 6, 7, 8, 9, 10, 11, 12], [12]), ([13, 14, 0, 1, 2, 3, 4, 5, 6, 7, 8, 9, 10, 11, 12, 13, 14], [13])])
def lC.B9 : List Nat := [0, 0, 0, 6, 14, 0, 0, 64, 224, 510, 1023, 2047, 4095, 4095, 8191, 32767]
theorem lC.tab9 : rtab .any (opsOf Tryd.f11 9) = lC.T9 := by kernel_rfl
theorem lC.bits9 : waitsOk lC.T9.2 lC.B9 = true := by kernel_rfl
end Go.Proofs.YtbijamlgcebgeaaDoor.Q
-- part QL
namespace Go.Proofs.YtbijamlgcebgeaaDoor.Q
open Go.RowKit Go.Proofs.YtbijamlgcebgeaaDoorW.PrintWords Go.Proofs.YtbijamlgcebgeaaDoorW.PrintLast Go.Proofs.YtbijamlgcebgeaaDoorW.PrintMore
attribute [local go_sem] max2_int min2_int max_two min_two max_three min_three max_four min_four
set_option maxHeartbeats 8000000 in
set_option maxRecDepth 100000 in
theorem lC.calls (k : Nat) (a0_0 : Int) (a0_1 : Int) (a0_2 : Int) (a0_3 : Int) (a0_4 : Int) (A0_5 : Option Addr) (c0_5 : Nat) (l0_5 : List (S63)) (r : Bool) (w : World) (hT : Hand.TabW w) (hr0_5 : Kd.C k63 w A0_5 l0_5.length l0_5) (hc0_5 : l0_5.length ≤ c0_5) (h : lC.f k a0_0 a0_1 a0_2 a0_3 a0_4 l0_5 = some r) :
    Calls Tryd.prog 11 #[.agg #[.int .u8 a0_0, .int .u8 a0_1, .int .u8 a0_2, .int .u8 a0_3, .int .u8 a0_4, .slice A0_5 l0_5.length c0_5]] w fun e w' => e = .returned (.bool r) ∧ Below w.heap.size w w' := by
 have hu66 := Tryd.underlying66
 have hu23 := Tryd.underlying23
 have HTAB := Aside0.mk hT
 clear hT
 have HR0_5 := Aside0.mk hr0_5
 have HC0_5 := Aside0.mk hc0_5
 clear hr0_5 hc0_5
 have HB := Aside0.mk (Below.refl w.heap.size w)
 have H : ((smaltolaw03_Rack_made.f a0_0 a0_1 a0_2 a0_3 a0_4 l0_5).bind fun bt372 => ((smaltolaw03_own.f bt372.2.2.2.2.2).bind fun t381 => ((fork_Loads.f bt372.1 bt372.2.1 bt372.2.2.1 bt372.2.2.2.1 bt372.2.2.2.2.1 t381).bind fun bt384 => ((smaltolaw03_own.f bt372.2.2.2.2.2).bind fun t388 => ((fork_Dear.f bt372.1 bt372.2.1 bt372.2.2.1 bt372.2.2.2.1 bt372.2.2.2.2.1 t388).bind fun bt391 => (if bt384.2 = bt391.2 then (if bt384.2 = 0 then ((upC.f k bt391.1 (bt372.2.2.2.2.2.length : Int)).bind fun _ => (lC.j0 k bt372.2.2.2.2.2 bt384.1 bt384.2 bt391.1 false bt372.1 bt372.2.1 bt372.2.2.1 bt372.2.2.2.1 bt372.2.2.2.2.1)) else (if bt384.2 = 7 then (if (bt391.1.length : Int) = 0 then ((upC.f k bt391.1 (bt372.2.2.2.2.2.length : Int)).bind fun _ => (lC.j0 k bt372.2.2.2.2.2 bt384.1 bt384.2 bt391.1 false bt372.1 bt372.2.1 bt372.2.2.1 bt372.2.2.2.1 bt372.2.2.2.2.1)) else (lC.j0 k bt372.2.2.2.2.2 bt384.1 bt384.2 bt391.1 true bt372.1 bt372.2.1 bt372.2.2.1 bt372.2.2.2.1 bt372.2.2.2.2.1)) else (lC.j0 k bt372.2.2.2.2.2 bt384.1 bt384.2 bt391.1 true bt372.1 bt372.2.1 bt372.2.2.1 bt372.2.2.2.1 bt372.2.2.2.2.1))) else (lC.j0 k bt372.2.2.2.2.2 bt384.1 bt384.2 bt391.1 true bt372.1 bt372.2.1 bt372.2.2.1 bt372.2.2.2.1 bt372.2.2.2.2.1))))))) = some r := h
 clear h
 replace H := Option.bind_eq_some_iff.mp H
 obtain ⟨⟨t372, t373, t374, t375, t376, t377⟩, A20, H⟩ := H
 replace H : ((smaltolaw03_own.f t377).bind fun t381 => ((fork_Loads.f t372 t373 t374 t375 t376 t381).bind fun bt384 => ((smaltolaw03_own.f t377).bind fun t388 => ((fork_Dear.f t372 t373 t374 t375 t376 t388).bind fun bt391 => (if bt384.2 = bt391.2 then (if bt384.2 = 0 then ((upC.f k bt391.1 (t377.length : Int)).bind fun _ => (lC.j0 k t377 bt384.1 bt384.2 bt391.1 false t372 t373 t374 t375 t376)) else (if bt384.2 = 7 then (if (bt391.1.length : Int) = 0 then ((upC.f k bt391.1 (t377.length : Int)).bind fun _ => (lC.j0 k t377 bt384.1 bt384.2 bt391.1 false t372 t373 t374 t375 t376)) else (lC.j0 k t377 bt384.1 bt384.2 bt391.1 true t372 t373 t374 t375 t376)) else (lC.j0 k t377 bt384.1 bt384.2 bt391.1 true t372 t373 t374 t375 t376))) else (lC.j0 k t377 bt384.1 bt384.2 bt391.1 true t372 t373 t374 t375 t376)))))) = some r := H
 have A2 := Aside0.mk A20
 clear A20
 replace H := Option.bind_eq_some_iff.mp H
 obtain ⟨t381, A30, H⟩ := H
 replace H : ((fork_Loads.f t372 t373 t374 t375 t376 t381).bind fun bt384 => ((smaltolaw03_own.f t377).bind fun t388 => ((fork_Dear.f t372 t373 t374 t375 t376 t388).bind fun bt391 => (if bt384.2 = bt391.2 then (if bt384.2 = 0 then ((upC.f k bt391.1 (t377.length : Int)).bind fun _ => (lC.j0 k t377 bt384.1 bt384.2 bt391.1 false t372 t373 t374 t375 t376)) else (if bt384.2 = 7 then (if (bt391.1.length : Int) = 0 then ((upC.f k bt391.1 (t377.length : Int)).bind fun _ => (lC.j0 k t377 bt384.1 bt384.2 bt391.1 false t372 t373 t374 t375 t376)) else (lC.j0 k t377 bt384.1 bt384.2 bt391.1 true t372 t373 t374 t375 t376)) else (lC.j0 k t377 bt384.1 bt384.2 bt391.1 true t372 t373 t374 t375 t376))) else (lC.j0 k t377 bt384.1 bt384.2 bt391.1 true t372 t373 t374 t375 t376))))) = some r := H
 have A3 := Aside0.mk A30
 clear A30
 replace H := Option.bind_eq_some_iff.mp H
 obtain ⟨⟨t384, t387⟩, A40, H⟩ := H
 replace H : ((smaltolaw03_own.f t377).bind fun t388 => ((fork_Dear.f t372 t373 t374 t375 t376 t388).bind fun bt391 => (if t387 = bt391.2 then (if t387 = 0 then ((upC.f k bt391.1 (t377.length : Int)).bind fun _ => (lC.j0 k t377 t384 t387 bt391.1 false t372 t373 t374 t375 t376)) else (if t387 = 7 then (if (bt391.1.length : Int) = 0 then ((upC.f k bt391.1 (t377.length : Int)).bind fun _ => (lC.j0 k t377 t384 t387 bt391.1 false t372 t373 t374 t375 t376)) else (lC.j0 k t377 t384 t387 bt391.1 true t372 t373 t374 t375 t376)) else (lC.j0 k t377 t384 t387 bt391.1 true t372 t373 t374 t375 t376))) else (lC.j0 k t377 t384 t387 bt391.1 true t372 t373 t374 t375 t376)))) = some r := H
 have A4 := Aside0.mk A40
 clear A40
 replace H := Option.bind_eq_some_iff.mp H
 obtain ⟨t388, A50, H⟩ := H
 replace H : ((fork_Dear.f t372 t373 t374 t375 t376 t388).bind fun bt391 => (if t387 = bt391.2 then (if t387 = 0 then ((upC.f k bt391.1 (t377.length : Int)).bind fun _ => (lC.j0 k t377 t384 t387 bt391.1 false t372 t373 t374 t375 t376)) else (if t387 = 7 then (if (bt391.1.length : Int) = 0 then ((upC.f k bt391.1 (t377.length : Int)).bind fun _ => (lC.j0 k t377 t384 t387 bt391.1 false t372 t373 t374 t375 t376)) else (lC.j0 k t377 t384 t387 bt391.1 true t372 t373 t374 t375 t376)) else (lC.j0 k t377 t384 t387 bt391.1 true t372 t373 t374 t375 t376))) else (lC.j0 k t377 t384 t387 bt391.1 true t372 t373 t374 t375 t376))) = some r := H
 have A5 := Aside0.mk A50
 clear A50
 replace H := Option.bind_eq_some_iff.mp H
 obtain ⟨⟨t391, t394⟩, A60, H⟩ := H
 replace H : (if t387 = t394 then (if t387 = 0 then ((upC.f k t391 (t377.length : Int)).bind fun _ => (lC.j0 k t377 t384 t387 t391 false t372 t373 t374 t375 t376)) else (if t387 = 7 then (if (t391.length : Int) = 0 then ((upC.f k t391 (t377.length : Int)).bind fun _ => (lC.j0 k t377 t384 t387 t391 false t372 t373 t374 t375 t376)) else (lC.j0 k t377 t384 t387 t391 true t372 t373 t374 t375 t376)) else (lC.j0 k t377 t384 t387 t391 true t372 t373 t374 t375 t376))) else (lC.j0 k t377 t384 t387 t391 true t372 t373 t374 t375 t376)) = some r := H
 have A6 := Aside0.mk A60
 clear A60
 have HC7 := Aside0.mk H
 clear H
 go_enter Tryd.func11, Tryd.ntmps11
 try go_wp2_with (first | ((with_reducible refine gate_dst (N := 1) rfl ?_); (try (refine gate_guard (by rfl) ?_; dsimp only)); refine box_event ?hg (N := 1) ?hd (cs := #[.int .u8 a0_0, .int .u8 a0_1, .int .u8 a0_2, .int .u8 a0_3, .int .u8 a0_4, .slice A0_5 l0_5.length c0_5]) (t := 66) ?hr ?_; (case hd => rfl); (case hg => rfl); (case hr => first | (go_simp; done) | (go_simp; rfl)); intro gb371 hg w8 hbox hb; have n0_ := Aside0.mk (below_step (by repeat (first | (with_reducible first | exact HB.out | apply below_alloc | apply pw_below_drewN | apply below_drew1) | exact HB.out)) hb); have n1_ := Aside0.mk (hbox); have n2_ := Aside0.mk ((by rw [hg]; exact (below_size (by repeat (first | (with_reducible first | exact HB.out | apply below_alloc | apply pw_below_drewN | apply below_drew1) | exact HB.out))) : w.heap.size ≤ gb371)); have n3_ := Aside0.mk ((by rw [hg]; exact (below_size (by repeat (first | (with_reducible first | exact HB.out | apply below_alloc | apply pw_below_drewN | apply below_drew1) | exact HB.out))) : w.heap.size ≤ gb371)); clear HB; have HB := n0_; have BK371 := n1_; have GW371 := n2_; have GE371 := n3_; clear n0_ n1_ n2_ n3_; clear hb hbox hg; have hcz9_0 : w8.cell? ⟨gb371, 0, none⟩ = some (.int .u8 a0_0) := (blk_cell BK371.out 0).trans rfl; have hcz9_1 : w8.cell? ⟨gb371, 1, none⟩ = some (.int .u8 a0_1) := (blk_cell BK371.out 1).trans rfl; have hcz9_2 : w8.cell? ⟨gb371, 2, none⟩ = some (.int .u8 a0_2) := (blk_cell BK371.out 2).trans rfl; have hcz9_3 : w8.cell? ⟨gb371, 3, none⟩ = some (.int .u8 a0_3) := (blk_cell BK371.out 3).trans rfl; have hcz9_4 : w8.cell? ⟨gb371, 4, none⟩ = some (.int .u8 a0_4) := (blk_cell BK371.out 4).trans rfl; have hcz9_5 : w8.cell? ⟨gb371, 5, none⟩ = some (.slice A0_5 l0_5.length c0_5) := (blk_cell BK371.out 5).trans rfl; have hfz9_0 := blk_frozen BK371.out 0; have hfz9_1 := blk_frozen BK371.out 1; have hfz9_2 := blk_frozen BK371.out 2; have hfz9_3 := blk_frozen BK371.out 3; have hfz9_4 := blk_frozen BK371.out 4; have hfz9_5 := blk_frozen BK371.out 5) | ((with_reducible refine gate_callee (f := 41) rfl ?_); refine goesL_ (some 15) rfl rfl Tryd.func41 (by kernel_rfl) rfl #[.agg #[.int .u8 a0_0, .int .u8 a0_1, .int .u8 a0_2, .int .u8 a0_3, .int .u8 a0_4, .slice A0_5 l0_5.length c0_5]] rfl (by (try simp only [List.map_toArray, List.map_cons, List.map_nil]); first | done | rfl | (simp only [List.length_drop, List.length_take]; rfl)) ?_; (with_reducible refine (smaltolaw03_Rack_made.calls a0_0 a0_1 a0_2 a0_3 a0_4 _ _ l0_5 t372 t373 t374 t375 t376 t377 _ ?side1 ?side2 A2.out).mono ?_); (case side1 => repeat (first | exact (Kd.C_below HR0_5.out HB.out) | (with_reducible refine Kd.C_alloc ?_ _) | (with_reducible refine Kd.C_drewN ?_ _) | (with_reducible refine Kd.C_drew ?_))); (case side2 => exact HC0_5.out); rintro e w10 ⟨v378, rfl, ho0, hb⟩; refine ⟨_, rfl, ?_⟩; have n0_ := Aside0.mk (Kd.R_lower ho0 (below_size (by repeat (first | (with_reducible first | exact HB.out | apply below_alloc | apply pw_below_drewN | apply below_drew1 | refine below_set ?_ GE371.out) | exact HB.out)))); have n1_ := Aside0.mk (blk_below (g := gb371) (o := .cells #[.int .u8 a0_0, .int .u8 a0_1, .int .u8 a0_2, .int .u8 a0_3, .int .u8 a0_4, .slice A0_5 l0_5.length c0_5] 66 (0, 0)) (by (with_reducible repeat (first | refine blk_drewN ?_ _ | refine blk_drew ?_ | refine blk_alloc ?_ _)); exact BK371.out) hb); have n2_ := Aside0.mk (below_step (by repeat (first | (with_reducible first | exact HB.out | apply below_alloc | apply pw_below_drewN | apply below_drew1 | refine below_set ?_ GE371.out) | exact HB.out)) hb); clear BK371; clear HB; have HO379 := n0_; have BK371 := n1_; have HB := n2_; clear n0_ n1_ n2_; (try clear hb); (try clear hb2); (try clear hk); (try clear hi); (try clear ho0)) | ((with_reducible refine gate_dst (N := 3) rfl ?_); (try (refine gate_guard (by rfl) ?_; dsimp only)); refine box_event ?hg (N := 3) ?hd (cs := #[.int .i64 0, .int .i64 0, .int .i64 0, .int .i64 0, .int .i64 0]) (t := 23) ?hr ?_; (case hd => rfl); (case hg => rfl); (case hr => first | (go_simp; done) | (go_simp; rfl)); intro gb380 hg w11 hbox hb; have n0_ := Aside0.mk (Kd.R_below (by (with_reducible repeat (first | apply Kd.R_alloc | apply Kd.R_drewN | apply Kd.R_drew)); exact HO379.out) hb); have n1_ := Aside0.mk (blk_below (g := gb371) (o := .cells #[.int .u8 a0_0, .int .u8 a0_1, .int .u8 a0_2, .int .u8 a0_3, .int .u8 a0_4, .slice A0_5 l0_5.length c0_5] 66 (0, 0)) (by (with_reducible repeat (first | refine blk_drewN ?_ _ | refine blk_drew ?_ | refine blk_alloc ?_ _)); exact BK371.out) hb); have n2_ := Aside0.mk (below_step (by repeat (first | (with_reducible first | exact HB.out | apply below_alloc | apply pw_below_drewN | apply below_drew1 | refine below_set ?_ GE371.out) | exact HB.out)) hb); have n3_ := Aside0.mk (hbox); have n4_ := Aside0.mk ((by rw [hg]; exact (below_size (by repeat (first | (with_reducible first | exact HB.out | apply below_alloc | apply pw_below_drewN | apply below_drew1 | refine below_set ?_ GE371.out) | exact HB.out))) : w.heap.size ≤ gb380)); have n5_ := Aside0.mk ((by rw [hg]; exact (below_size (by repeat (first | (with_reducible first | exact HB.out | apply below_alloc | apply pw_below_drewN | apply below_drew1 | refine below_set ?_ GE371.out) | exact HB.out))) : w.heap.size ≤ gb380)); have n6_ := Aside0.mk ((by rw [hg]; exact Nat.ne_of_lt (blk_lt (g := gb371) (o := .cells #[.int .u8 a0_0, .int .u8 a0_1, .int .u8 a0_2, .int .u8 a0_3, .int .u8 a0_4, .slice A0_5 l0_5.length c0_5] 66 (0, 0)) (by (with_reducible repeat (first | refine blk_drewN ?_ _ | refine blk_drew ?_ | refine blk_alloc ?_ _)); exact BK371.out)) : gb371 ≠ gb380)); have n7_ := Aside0.mk ((by rw [hg]; exact Nat.ne_of_gt (blk_lt (g := gb371) (o := .cells #[.int .u8 a0_0, .int .u8 a0_1, .int .u8 a0_2, .int .u8 a0_3, .int .u8 a0_4, .slice A0_5 l0_5.length c0_5] 66 (0, 0)) (by (with_reducible repeat (first | refine blk_drewN ?_ _ | refine blk_drew ?_ | refine blk_alloc ?_ _)); exact BK371.out)) : gb380 ≠ gb371)); clear HO379; clear BK371; clear HB; have HO379 := n0_; have BK371 := n1_; have HB := n2_; have BK380 := n3_; have GW380 := n4_; have GE380 := n5_; have NB371_380 := n6_; have NB380_371 := n7_; clear n0_ n1_ n2_ n3_ n4_ n5_ n6_ n7_; clear hb hbox hg; have hnb12 := NB380_371.out; have hnc12 := NB371_380.out; have hcz13_0 : w11.cell? ⟨gb380, 0, none⟩ = some (.int .i64 0) := (blk_cell BK380.out 0).trans rfl; have hcz13_1 : w11.cell? ⟨gb380, 1, none⟩ = some (.int .i64 0) := (blk_cell BK380.out 1).trans rfl; have hcz13_2 : w11.cell? ⟨gb380, 2, none⟩ = some (.int .i64 0) := (blk_cell BK380.out 2).trans rfl; have hcz13_3 : w11.cell? ⟨gb380, 3, none⟩ = some (.int .i64 0) := (blk_cell BK380.out 3).trans rfl; have hcz13_4 : w11.cell? ⟨gb380, 4, none⟩ = some (.int .i64 0) := (blk_cell BK380.out 4).trans rfl; have hfz13_0 := blk_frozen BK380.out 0; have hfz13_1 := blk_frozen BK380.out 1; have hfz13_2 := blk_frozen BK380.out 2; have hfz13_3 := blk_frozen BK380.out 3; have hfz13_4 := blk_frozen BK380.out 4))
 have n0_ : Aside0 (Kd.R k74 74 (((((w11.setCell ⟨gb380, 0, none⟩ (.int .i64 t372)).setCell ⟨gb380, 1, none⟩ (.int .i64 t373)).setCell ⟨gb380, 2, none⟩ (.int .i64 t374)).setCell ⟨gb380, 3, none⟩ (.int .i64 t375)).setCell ⟨gb380, 4, none⟩ (.int .i64 t376)) w.heap.size (fun _ => True) v378 t377) := ⟨by (with_reducible repeat (first | apply Kd.R_alloc | apply Kd.R_drewN | apply Kd.R_drew)); exact Kd.R_mono (Kd.R_far (p := ⟨gb380, 4, none⟩) (Kd.R_far (p := ⟨gb380, 3, none⟩) (Kd.R_far (p := ⟨gb380, 2, none⟩) (Kd.R_far (p := ⟨gb380, 1, none⟩) (Kd.R_far (p := ⟨gb380, 0, none⟩) (Kd.R_types HO379.out BK380.out (by decide)) (fun _ hk => hk.2) (.int .i64 t372)) (fun _ hk => hk.2) (.int .i64 t373)) (fun _ hk => hk.2) (.int .i64 t374)) (fun _ hk => hk.2) (.int .i64 t375)) (fun _ hk => hk.2) (.int .i64 t376)) (fun _ hk => trivial)⟩
 have n1_ : Aside0 ((((((w11.setCell ⟨gb380, 0, none⟩ (.int .i64 t372)).setCell ⟨gb380, 1, none⟩ (.int .i64 t373)).setCell ⟨gb380, 2, none⟩ (.int .i64 t374)).setCell ⟨gb380, 3, none⟩ (.int .i64 t375)).setCell ⟨gb380, 4, none⟩ (.int .i64 t376)).heap[gb371]? = some (.cells #[.int .u8 a0_0, .int .u8 a0_1, .int .u8 a0_2, .int .u8 a0_3, .int .u8 a0_4, .slice A0_5 l0_5.length c0_5] 66 (0, 0))) := ⟨by (with_reducible repeat (first | refine blk_drewN ?_ _ | refine blk_drew ?_ | refine blk_alloc ?_ _)); refine blk_far ?_ NB371_380.out _; (with_reducible repeat (first | refine blk_drewN ?_ _ | refine blk_drew ?_ | refine blk_alloc ?_ _)); refine blk_far ?_ NB371_380.out _; (with_reducible repeat (first | refine blk_drewN ?_ _ | refine blk_drew ?_ | refine blk_alloc ?_ _)); refine blk_far ?_ NB371_380.out _; (with_reducible repeat (first | refine blk_drewN ?_ _ | refine blk_drew ?_ | refine blk_alloc ?_ _)); refine blk_far ?_ NB371_380.out _; (with_reducible repeat (first | refine blk_drewN ?_ _ | refine blk_drew ?_ | refine blk_alloc ?_ _)); refine blk_far ?_ NB371_380.out _; (with_reducible repeat (first | refine blk_drewN ?_ _ | refine blk_drew ?_ | refine blk_alloc ?_ _)); exact BK371.out⟩
 have n2_ : Aside0 ((((((w11.setCell ⟨gb380, 0, none⟩ (.int .i64 t372)).setCell ⟨gb380, 1, none⟩ (.int .i64 t373)).setCell ⟨gb380, 2, none⟩ (.int .i64 t374)).setCell ⟨gb380, 3, none⟩ (.int .i64 t375)).setCell ⟨gb380, 4, none⟩ (.int .i64 t376)).heap[gb380]? = some (.cells #[.int .i64 t372, .int .i64 t373, .int .i64 t374, .int .i64 t375, .int .i64 t376] 23 (0, 0))) := ⟨by (with_reducible repeat (first | refine blk_drewN ?_ _ | refine blk_drew ?_ | refine blk_alloc ?_ _)); refine blk_put (cs := #[.int .i64 t372, .int .i64 t373, .int .i64 t374, .int .i64 t375, .int .i64 0]) ?_ 4 _ rfl; (with_reducible repeat (first | refine blk_drewN ?_ _ | refine blk_drew ?_ | refine blk_alloc ?_ _)); refine blk_put (cs := #[.int .i64 t372, .int .i64 t373, .int .i64 t374, .int .i64 0, .int .i64 0]) ?_ 3 _ rfl; (with_reducible repeat (first | refine blk_drewN ?_ _ | refine blk_drew ?_ | refine blk_alloc ?_ _)); refine blk_put (cs := #[.int .i64 t372, .int .i64 t373, .int .i64 0, .int .i64 0, .int .i64 0]) ?_ 2 _ rfl; (with_reducible repeat (first | refine blk_drewN ?_ _ | refine blk_drew ?_ | refine blk_alloc ?_ _)); refine blk_put (cs := #[.int .i64 t372, .int .i64 0, .int .i64 0, .int .i64 0, .int .i64 0]) ?_ 1 _ rfl; (with_reducible repeat (first | refine blk_drewN ?_ _ | refine blk_drew ?_ | refine blk_alloc ?_ _)); refine blk_put (cs := #[.int .i64 0, .int .i64 0, .int .i64 0, .int .i64 0, .int .i64 0]) ?_ 0 _ rfl; (with_reducible repeat (first | refine blk_drewN ?_ _ | refine blk_drew ?_ | refine blk_alloc ?_ _)); exact BK380.out⟩
 have n3_ : Aside0 (Below w.heap.size w (((((w11.setCell ⟨gb380, 0, none⟩ (.int .i64 t372)).setCell ⟨gb380, 1, none⟩ (.int .i64 t373)).setCell ⟨gb380, 2, none⟩ (.int .i64 t374)).setCell ⟨gb380, 3, none⟩ (.int .i64 t375)).setCell ⟨gb380, 4, none⟩ (.int .i64 t376))) := ⟨by repeat (first | (with_reducible first | exact HB.out | apply below_alloc | apply pw_below_drewN | apply below_drew1 | refine below_set ?_ GE371.out | refine below_set ?_ GE380.out) | exact HB.out)⟩
 (try clear HO379)
 (try clear BK371)
 (try clear BK380)
 (try clear HB)
 generalize (((((w11.setCell ⟨gb380, 0, none⟩ (.int .i64 t372)).setCell ⟨gb380, 1, none⟩ (.int .i64 t373)).setCell ⟨gb380, 2, none⟩ (.int .i64 t374)).setCell ⟨gb380, 3, none⟩ (.int .i64 t375)).setCell ⟨gb380, 4, none⟩ (.int .i64 t376)) = w14 at n0_ n1_ n2_ n3_ ⊢
 have HO379 := n0_
 have BK371 := n1_
 have BK380 := n2_
 have HB := n3_
 clear n0_ n1_ n2_ n3_
 have n0_ := Aside0.mk (Kd.R_drew HO379.out)
 have n1_ := Aside0.mk (blk_drew BK371.out)
 have n2_ := Aside0.mk (blk_drew BK380.out)
 have n3_ := Aside0.mk (below_drew1 HB.out)
 clear HO379
 clear BK371
 clear BK380
 clear HB
 have HO379 := n0_
 have BK371 := n1_
 have BK380 := n2_
 have HB := n3_
 clear n0_ n1_ n2_ n3_
 obtain ⟨Ao16, co16, eo16⟩ := Kd.R_slice HO379.out
 (first | subst eo16 | (injection eo16 with f1_ f2_ f3_; have f4_ := f1_.symm; have f5_ := f3_.symm; clear f1_ f2_ f3_; subst f4_; subst f5_))
 refine start_ (n := 9) (S := fun w' => w'.cell? ⟨gb380, 0, none⟩ = some (.int .i64 t372) ∧ w'.cell? ⟨gb380, 1, none⟩ = some (.int .i64 t373) ∧ w'.cell? ⟨gb380, 2, none⟩ = some (.int .i64 t374) ∧ w'.cell? ⟨gb380, 3, none⟩ = some (.int .i64 t375) ∧ w'.cell? ⟨gb380, 4, none⟩ = some (.int .i64 t376)) (ds := []) #[false, false, false, false, false, false, false, false, false] (by kernel_rfl) rfl rfl ⟨(blk_cell BK380.out 0).trans rfl, (blk_cell BK380.out 1).trans rfl, (blk_cell BK380.out 2).trans rfl, (blk_cell BK380.out 3).trans rfl, (blk_cell BK380.out 4).trans rfl⟩ (fun hHeld => ?_); refine with_tabW lC.tab2 lC.bits2 (fun HT_ HW_ => ?_)
 generalize w14.drew = w15 at HO379 BK371 BK380 HB hHeld ⊢
 refine pure_ (i := 1) (N := some 20) (v := ?_) (a' := ?_) #[false, true, false, false, false, false, false, false, false] rfl rfl (any_of HT_.out (by kernel_rfl)) (fun _ _ _ h => h) (Or.inl ⟨by rfl, ?_⟩) ?_ ?_
 rotate_left
 ·intro w'
  go_simp
  with_reducible rfl
 rotate_left
 ·simp only [Act.put, List.setIfInBounds_toArray, List.set_cons_zero, List.set_cons_succ, i64_w, i32_w]
  rfl
 refine take_ (i := 0) (N := some 19) (v := ?_) (a' := ?_) #[true, true, false, false, false, false, false, false, false] rfl rfl (take_ofW HT_.out HW_.out (by kernel_rfl)) (fun _ _ _ h => h) (Or.inl ⟨by rfl, ?_⟩) hHeld ?_ ?_
 rotate_left
 ·rintro w' ⟨s0, s1, s2, s3, s4⟩
  go_simp
  with_reducible rfl
 rotate_left
 ·simp only [Act.put, List.setIfInBounds_toArray, List.set_cons_zero, List.set_cons_succ, i64_w, i32_w]
  rfl
 refine one_ (i := 2) (N := some 21) #[true, true, true, false, false, false, false, false, false] rfl rfl (one_of HT_.out (by kernel_rfl)) (by decide) (fun K hK => ?_)
 refine goes_ Tryd.func43 (by kernel_rfl) rfl #[.slice Ao16 t377.length co16] (by rfl) rfl rfl (by (try simp only [List.map_toArray, List.map_cons, List.map_nil]); first | done | rfl | (simp only [List.length_drop, List.length_take]; rfl)) ?_
 with_reducible refine (smaltolaw03_own.calls _ _ t377 t381 _ ?side1 ?side2 A3.out).mono ?_
 (case side1 => repeat (first | exact (Kd.R_reads' HO379.out).2.2 | (with_reducible refine Kd.C_alloc ?_ _) | (with_reducible refine Kd.C_drewN ?_ _) | (with_reducible refine Kd.C_drew ?_)))
 (case side2 => exact (Kd.R_reads' HO379.out).2.1)
 rintro e w17 ⟨v382, rfl, ho0, hb⟩
 refine ⟨_, rfl, ?_⟩
 have n0_ := Aside0.mk (Kd.R_elder' (by (with_reducible repeat (first | apply Kd.R_alloc | apply Kd.R_drewN | apply Kd.R_drew)); exact HO379.out) (Kd.R_base ho0) hb)
 have n1_ := Aside0.mk (Kd.R_lower (Kd.R_new' ho0 (Kd.R_lt (by (with_reducible repeat (first | apply Kd.R_alloc | apply Kd.R_drewN | apply Kd.R_drew)); exact HO379.out))) (below_size (by repeat (first | (with_reducible first | exact HB.out | apply below_alloc | apply pw_below_drewN | apply below_drew1 | refine below_set ?_ GE371.out | refine below_set ?_ GE380.out) | exact HB.out))))
 have n2_ := Aside0.mk (blk_below (g := gb371) (o := .cells #[.int .u8 a0_0, .int .u8 a0_1, .int .u8 a0_2, .int .u8 a0_3, .int .u8 a0_4, .slice A0_5 l0_5.length c0_5] 66 (0, 0)) (by (with_reducible repeat (first | refine blk_drewN ?_ _ | refine blk_drew ?_ | refine blk_alloc ?_ _)); exact BK371.out) hb)
 have n3_ := Aside0.mk (blk_below (g := gb380) (o := .cells #[.int .i64 t372, .int .i64 t373, .int .i64 t374, .int .i64 t375, .int .i64 t376] 23 (0, 0)) (by (with_reducible repeat (first | refine blk_drewN ?_ _ | refine blk_drew ?_ | refine blk_alloc ?_ _)); exact BK380.out) hb)
 have n4_ := Aside0.mk (below_step (by repeat (first | (with_reducible first | exact HB.out | apply below_alloc | apply pw_below_drewN | apply below_drew1 | refine below_set ?_ GE371.out | refine below_set ?_ GE380.out) | exact HB.out)) hb)
 clear HO379
 clear BK371
 clear BK380
 clear HB
 have HO379 := n0_
 have HO383 := n1_
 have BK371 := n2_
 have BK380 := n3_
 have HB := n4_
 clear n0_ n1_ n2_ n3_ n4_
 (try clear hb)
 (try clear hb2)
 (try clear hk)
 (try clear hi)
 (try clear ho0)
 obtain ⟨Ao18, co18, eo18⟩ := Kd.R_slice HO383.out
 (first | subst eo18 | (injection eo18 with f1_ f2_ f3_; have f4_ := f1_.symm; have f5_ := f3_.symm; clear f1_ f2_ f3_; subst f4_; subst f5_))
 refine hK.out _ _ ⟨(blk_cell BK380.out 0).trans rfl, (blk_cell BK380.out 1).trans rfl, (blk_cell BK380.out 2).trans rfl, (blk_cell BK380.out 3).trans rfl, (blk_cell BK380.out 4).trans rfl⟩ (fun hHeld => ?_)
 clear hK K
 refine norm_ (a' := ?_) ?_ ?_
 rotate_left
 ·show Act.put _ (some 21) _ = _
  simp only [Act.put, List.setIfInBounds_toArray, List.set_cons_zero, List.set_cons_succ, i64_w, i32_w]
  rfl
 refine one_ (i := 3) (N := some 22) #[true, true, true, true, false, false, false, false, false] rfl rfl (one_of HT_.out (by kernel_rfl)) (by decide) (fun K hK => ?_)
 refine goes_ Tryd.func31 (by kernel_rfl) rfl #[.agg #[.int .i64 t372, .int .i64 t373, .int .i64 t374, .int .i64 t375, .int .i64 t376], .slice Ao18 t381.length co18] (by rfl) rfl rfl (by (try simp only [List.map_toArray, List.map_cons, List.map_nil]); first | done | rfl | (simp only [List.length_drop, List.length_take]; rfl)) ?_
 with_reducible refine (fork_Loads.calls t372 t373 t374 t375 t376 _ _ t381 t384 t387 _ ?side3 ?side1 ?side2 A4.out).mono ?_
 (case side1 => repeat (first | exact (Kd.R_reads' HO383.out).2.2 | (with_reducible refine Kd.C_alloc ?_ _) | (with_reducible refine Kd.C_drewN ?_ _) | (with_reducible refine Kd.C_drew ?_)))
 (case side2 => exact (Kd.R_reads' HO383.out).2.1)
 (case side3 => exact Hand.TabW.below HTAB.out (by repeat (first | (with_reducible first | exact HB.out | apply below_alloc | apply pw_below_drewN | apply below_drew1 | refine below_set ?_ GE371.out | refine below_set ?_ GE380.out) | exact HB.out)))
 rintro e w19 ⟨v385, rfl, ho0, hb⟩
 refine ⟨_, rfl, ?_⟩
 have n0_ := Aside0.mk (Kd.R_below (by (with_reducible repeat (first | apply Kd.R_alloc | apply Kd.R_drewN | apply Kd.R_drew)); exact HO379.out) hb)
 have n1_ := Aside0.mk (Kd.R_below (by (with_reducible repeat (first | apply Kd.R_alloc | apply Kd.R_drewN | apply Kd.R_drew)); exact HO383.out) hb)
 have n2_ := Aside0.mk (Kd.R_lower ho0 (below_size (by repeat (first | (with_reducible first | exact HB.out | apply below_alloc | apply pw_below_drewN | apply below_drew1 | refine below_set ?_ GE371.out | refine below_set ?_ GE380.out) | exact HB.out))))
 have n3_ := Aside0.mk (blk_below (g := gb371) (o := .cells #[.int .u8 a0_0, .int .u8 a0_1, .int .u8 a0_2, .int .u8 a0_3, .int .u8 a0_4, .slice A0_5 l0_5.length c0_5] 66 (0, 0)) (by (with_reducible repeat (first | refine blk_drewN ?_ _ | refine blk_drew ?_ | refine blk_alloc ?_ _)); exact BK371.out) hb)
 have n4_ := Aside0.mk (blk_below (g := gb380) (o := .cells #[.int .i64 t372, .int .i64 t373, .int .i64 t374, .int .i64 t375, .int .i64 t376] 23 (0, 0)) (by (with_reducible repeat (first | refine blk_drewN ?_ _ | refine blk_drew ?_ | refine blk_alloc ?_ _)); exact BK380.out) hb)
 have n5_ := Aside0.mk (below_step (by repeat (first | (with_reducible first | exact HB.out | apply below_alloc | apply pw_below_drewN | apply below_drew1 | refine below_set ?_ GE371.out | refine below_set ?_ GE380.out) | exact HB.out)) hb)
 clear HO379
 clear HO383
 clear BK371
 clear BK380
 clear HB
 have HO379 := n0_
 have HO383 := n1_
 have HO386 := n2_
 have BK371 := n3_
 have BK380 := n4_
 have HB := n5_
 clear n0_ n1_ n2_ n3_ n4_ n5_
 (try clear hb)
 (try clear hb2)
 (try clear hk)
 (try clear hi)
 (try clear ho0)
 refine hK.out _ _ ⟨(blk_cell BK380.out 0).trans rfl, (blk_cell BK380.out 1).trans rfl, (blk_cell BK380.out 2).trans rfl, (blk_cell BK380.out 3).trans rfl, (blk_cell BK380.out 4).trans rfl⟩ (fun hHeld => ?_)
 clear hK K
 refine norm_ (a' := ?_) ?_ ?_
 rotate_left
 ·show Act.put _ (some 22) _ = _
  simp only [Act.put, List.setIfInBounds_toArray, List.set_cons_zero, List.set_cons_succ, i64_w, i32_w]
  rfl
 refine pure_ (i := 4) (N := some 18) (v := ?_) (a' := ?_) #[true, true, true, true, true, false, false, false, false] rfl rfl (any_of HT_.out (by kernel_rfl)) (fun _ _ _ h => h) (Or.inl ⟨by rfl, ?_⟩) ?_ ?_
 rotate_left
 ·intro w'
  go_simp
  with_reducible rfl
 rotate_left
 ·simp only [Act.put, List.setIfInBounds_toArray, List.set_cons_zero, List.set_cons_succ, i64_w, i32_w]
  rfl
 refine pure_ (i := 5) (N := some 23) (v := ?_) (a' := ?_) #[true, true, true, true, true, true, false, false, false] rfl rfl (any_of HT_.out (by kernel_rfl)) (fun _ _ _ h => h) (Or.inl ⟨by rfl, ?_⟩) ?_ ?_
 rotate_left
 ·intro w'
  go_simp
  with_reducible rfl
 rotate_left
 ·simp only [Act.put, List.setIfInBounds_toArray, List.set_cons_zero, List.set_cons_succ, i64_w, i32_w]
  rfl
 refine pure_ (i := 6) (N := some 24) (v := ?_) (a' := ?_) #[true, true, true, true, true, true, true, false, false] rfl rfl (any_of HT_.out (by kernel_rfl)) (fun _ _ _ h => h) (Or.inl ⟨by rfl, ?_⟩) ?_ ?_
 rotate_left
 ·intro w'
  go_simp
  with_reducible rfl
 rotate_left
 ·simp only [Act.put, List.setIfInBounds_toArray, List.set_cons_zero, List.set_cons_succ, i64_w, i32_w]
  rfl
 refine pure_ (i := 7) (N := some 5) (v := ?_) (a' := ?_) #[true, true, true, true, true, true, true, true, false] rfl rfl (any_of HT_.out (by kernel_rfl)) (fun _ _ _ h => h) (Or.inl ⟨by rfl, ?_⟩) ?_ ?_
 rotate_left
 ·intro w'
  go_simp
  with_reducible rfl
 rotate_left
 ·simp only [Act.put, List.setIfInBounds_toArray, List.set_cons_zero, List.set_cons_succ, i64_w, i32_w]
  rfl
 refine pure_ (i := 8) (N := some 6) (v := ?_) (a' := ?_) #[true, true, true, true, true, true, true, true, true] rfl rfl (any_of HT_.out (by kernel_rfl)) (fun _ _ _ h => h) (Or.inl ⟨by rfl, ?_⟩) ?_ ?_
 rotate_left
 ·intro w'
  go_simp
  with_reducible rfl
 rotate_left
 ·simp only [Act.put, List.setIfInBounds_toArray, List.set_cons_zero, List.set_cons_succ, i64_w, i32_w]
  rfl
 refine done_ (done_of HT_.out (by kernel_rfl)) ?_
 try go_wp2
 have n0_ := Aside0.mk (Kd.R_drew HO379.out)
 have n1_ := Aside0.mk (Kd.R_drew HO383.out)
 have n2_ := Aside0.mk (Kd.R_drew HO386.out)
 have n3_ := Aside0.mk (blk_drew BK371.out)
 have n4_ := Aside0.mk (blk_drew BK380.out)
 have n5_ := Aside0.mk (below_drew1 HB.out)
 clear HO379
 clear HO383
 clear HO386
 clear BK371
 clear BK380
 clear HB
 have HO379 := n0_
 have HO383 := n1_
 have HO386 := n2_
 have BK371 := n3_
 have BK380 := n4_
 have HB := n5_
 clear n0_ n1_ n2_ n3_ n4_ n5_
 refine start_ (n := 9) (S := fun w' => w'.cell? ⟨gb380, 0, none⟩ = some (.int .i64 t372) ∧ w'.cell? ⟨gb380, 1, none⟩ = some (.int .i64 t373) ∧ w'.cell? ⟨gb380, 2, none⟩ = some (.int .i64 t374) ∧ w'.cell? ⟨gb380, 3, none⟩ = some (.int .i64 t375) ∧ w'.cell? ⟨gb380, 4, none⟩ = some (.int .i64 t376)) (ds := []) #[false, false, false, false, false, false, false, false, false] (by kernel_rfl) rfl rfl ⟨(blk_cell BK380.out 0).trans rfl, (blk_cell BK380.out 1).trans rfl, (blk_cell BK380.out 2).trans rfl, (blk_cell BK380.out 3).trans rfl, (blk_cell BK380.out 4).trans rfl⟩ (fun hHeld => ?_); refine with_tabW lC.tab3 lC.bits3 (fun HT_ HW_ => ?_)
 generalize w19.drew = w20 at HO379 HO383 HO386 BK371 BK380 HB hHeld ⊢
 refine pure_ (i := 1) (N := some 27) (v := ?_) (a' := ?_) #[false, true, false, false, false, false, false, false, false] rfl rfl (any_of HT_.out (by kernel_rfl)) (fun _ _ _ h => h) (Or.inl ⟨by rfl, ?_⟩) ?_ ?_
 rotate_left
 ·intro w'
  go_simp
  with_reducible rfl
 rotate_left
 ·simp only [Act.put, List.setIfInBounds_toArray, List.set_cons_zero, List.set_cons_succ, i64_w, i32_w]
  rfl
 refine take_ (i := 0) (N := some 26) (v := ?_) (a' := ?_) #[true, true, false, false, false, false, false, false, false] rfl rfl (take_ofW HT_.out HW_.out (by kernel_rfl)) (fun _ _ _ h => h) (Or.inl ⟨by rfl, ?_⟩) hHeld ?_ ?_
 rotate_left
 ·rintro w' ⟨s0, s1, s2, s3, s4⟩
  go_simp
  with_reducible rfl
 rotate_left
 ·simp only [Act.put, List.setIfInBounds_toArray, List.set_cons_zero, List.set_cons_succ, i64_w, i32_w]
  rfl
 refine one_ (i := 2) (N := some 28) #[true, true, true, false, false, false, false, false, false] rfl rfl (one_of HT_.out (by kernel_rfl)) (by decide) (fun K hK => ?_)
 refine goes_ Tryd.func43 (by kernel_rfl) rfl #[.slice Ao16 t377.length co16] (by rfl) rfl rfl (by (try simp only [List.map_toArray, List.map_cons, List.map_nil]); first | done | rfl | (simp only [List.length_drop, List.length_take]; rfl)) ?_
 with_reducible refine (smaltolaw03_own.calls _ _ t377 t388 _ ?side1 ?side2 A5.out).mono ?_
 (case side1 => repeat (first | exact (Kd.R_reads' HO379.out).2.2 | (with_reducible refine Kd.C_alloc ?_ _) | (with_reducible refine Kd.C_drewN ?_ _) | (with_reducible refine Kd.C_drew ?_)))
 (case side2 => exact (Kd.R_reads' HO379.out).2.1)
 rintro e w21 ⟨v389, rfl, ho0, hb⟩
 refine ⟨_, rfl, ?_⟩
 have n0_ := Aside0.mk (Kd.R_elder' (by (with_reducible repeat (first | apply Kd.R_alloc | apply Kd.R_drewN | apply Kd.R_drew)); exact HO379.out) (Kd.R_base ho0) hb)
 have n1_ := Aside0.mk (Kd.R_elder' (by (with_reducible repeat (first | apply Kd.R_alloc | apply Kd.R_drewN | apply Kd.R_drew)); exact HO383.out) (Kd.R_base ho0) hb)
 have n2_ := Aside0.mk (Kd.R_below (by (with_reducible repeat (first | apply Kd.R_alloc | apply Kd.R_drewN | apply Kd.R_drew)); exact HO386.out) hb)
 have n3_ := Aside0.mk (Kd.R_lower (Kd.R_new' (Kd.R_new' ho0 (Kd.R_lt (by (with_reducible repeat (first | apply Kd.R_alloc | apply Kd.R_drewN | apply Kd.R_drew)); exact HO379.out))) (Kd.R_lt (by (with_reducible repeat (first | apply Kd.R_alloc | apply Kd.R_drewN | apply Kd.R_drew)); exact HO383.out))) (below_size (by repeat (first | (with_reducible first | exact HB.out | apply below_alloc | apply pw_below_drewN | apply below_drew1 | refine below_set ?_ GE371.out | refine below_set ?_ GE380.out) | exact HB.out))))
 have n4_ := Aside0.mk (blk_below (g := gb371) (o := .cells #[.int .u8 a0_0, .int .u8 a0_1, .int .u8 a0_2, .int .u8 a0_3, .int .u8 a0_4, .slice A0_5 l0_5.length c0_5] 66 (0, 0)) (by (with_reducible repeat (first | refine blk_drewN ?_ _ | refine blk_drew ?_ | refine blk_alloc ?_ _)); exact BK371.out) hb)
 have n5_ := Aside0.mk (blk_below (g := gb380) (o := .cells #[.int .i64 t372, .int .i64 t373, .int .i64 t374, .int .i64 t375, .int .i64 t376] 23 (0, 0)) (by (with_reducible repeat (first | refine blk_drewN ?_ _ | refine blk_drew ?_ | refine blk_alloc ?_ _)); exact BK380.out) hb)
 have n6_ := Aside0.mk (below_step (by repeat (first | (with_reducible first | exact HB.out | apply below_alloc | apply pw_below_drewN | apply below_drew1 | refine below_set ?_ GE371.out | refine below_set ?_ GE380.out) | exact HB.out)) hb)
 clear HO379
 clear HO383
 clear HO386
 clear BK371
 clear BK380
 clear HB
 have HO379 := n0_
 have HO383 := n1_
 have HO386 := n2_
 have HO390 := n3_
 have BK371 := n4_
 have BK380 := n5_
 have HB := n6_
 clear n0_ n1_ n2_ n3_ n4_ n5_ n6_
 (try clear hb)
 (try clear hb2)
 (try clear hk)
 (try clear hi)
 (try clear ho0)
 obtain ⟨Ao22, co22, eo22⟩ := Kd.R_slice HO390.out
 (first | subst eo22 | (injection eo22 with f1_ f2_ f3_; have f4_ := f1_.symm; have f5_ := f3_.symm; clear f1_ f2_ f3_; subst f4_; subst f5_))
 refine hK.out _ _ ⟨(blk_cell BK380.out 0).trans rfl, (blk_cell BK380.out 1).trans rfl, (blk_cell BK380.out 2).trans rfl, (blk_cell BK380.out 3).trans rfl, (blk_cell BK380.out 4).trans rfl⟩ (fun hHeld => ?_)
 clear hK K
 refine norm_ (a' := ?_) ?_ ?_
 rotate_left
 ·show Act.put _ (some 28) _ = _
  simp only [Act.put, List.setIfInBounds_toArray, List.set_cons_zero, List.set_cons_succ, i64_w, i32_w]
  rfl
 refine one_ (i := 3) (N := some 29) #[true, true, true, true, false, false, false, false, false] rfl rfl (one_of HT_.out (by kernel_rfl)) (by decide) (fun K hK => ?_)
 refine goes_ Tryd.func32 (by kernel_rfl) rfl #[.agg #[.int .i64 t372, .int .i64 t373, .int .i64 t374, .int .i64 t375, .int .i64 t376], .slice Ao22 t388.length co22] (by rfl) rfl rfl (by (try simp only [List.map_toArray, List.map_cons, List.map_nil]); first | done | rfl | (simp only [List.length_drop, List.length_take]; rfl)) ?_
 with_reducible refine (fork_Dear.calls t372 t373 t374 t375 t376 _ _ t388 t391 t394 _ ?side3 ?side1 ?side2 A6.out).mono ?_
 (case side1 => repeat (first | exact (Kd.R_reads' HO390.out).2.2 | (with_reducible refine Kd.C_alloc ?_ _) | (with_reducible refine Kd.C_drewN ?_ _) | (with_reducible refine Kd.C_drew ?_)))
 (case side2 => exact (Kd.R_reads' HO390.out).2.1)
 (case side3 => exact Hand.TabW.below HTAB.out (by repeat (first | (with_reducible first | exact HB.out | apply below_alloc | apply pw_below_drewN | apply below_drew1 | refine below_set ?_ GE371.out | refine below_set ?_ GE380.out) | exact HB.out)))
 rintro e w23 ⟨v392, rfl, ho0, hb⟩
 refine ⟨_, rfl, ?_⟩
 have n0_ := Aside0.mk (Kd.R_below (by (with_reducible repeat (first | apply Kd.R_alloc | apply Kd.R_drewN | apply Kd.R_drew)); exact HO379.out) hb)
 have n1_ := Aside0.mk (Kd.R_below (by (with_reducible repeat (first | apply Kd.R_alloc | apply Kd.R_drewN | apply Kd.R_drew)); exact HO383.out) hb)
 have n2_ := Aside0.mk (Kd.R_elder' (by (with_reducible repeat (first | apply Kd.R_alloc | apply Kd.R_drewN | apply Kd.R_drew)); exact HO386.out) (Kd.R_base ho0) hb)
 have n3_ := Aside0.mk (Kd.R_below (by (with_reducible repeat (first | apply Kd.R_alloc | apply Kd.R_drewN | apply Kd.R_drew)); exact HO390.out) hb)
 have n4_ := Aside0.mk (Kd.R_lower (Kd.R_new' ho0 (Kd.R_lt (by (with_reducible repeat (first | apply Kd.R_alloc | apply Kd.R_drewN | apply Kd.R_drew)); exact HO386.out))) (below_size (by repeat (first | (with_reducible first | exact HB.out | apply below_alloc | apply pw_below_drewN | apply below_drew1 | refine below_set ?_ GE371.out | refine below_set ?_ GE380.out) | exact HB.out))))
 have n5_ := Aside0.mk (blk_below (g := gb371) (o := .cells #[.int .u8 a0_0, .int .u8 a0_1, .int .u8 a0_2, .int .u8 a0_3, .int .u8 a0_4, .slice A0_5 l0_5.length c0_5] 66 (0, 0)) (by (with_reducible repeat (first | refine blk_drewN ?_ _ | refine blk_drew ?_ | refine blk_alloc ?_ _)); exact BK371.out) hb)
 have n6_ := Aside0.mk (blk_below (g := gb380) (o := .cells #[.int .i64 t372, .int .i64 t373, .int .i64 t374, .int .i64 t375, .int .i64 t376] 23 (0, 0)) (by (with_reducible repeat (first | refine blk_drewN ?_ _ | refine blk_drew ?_ | refine blk_alloc ?_ _)); exact BK380.out) hb)
 have n7_ := Aside0.mk (below_step (by repeat (first | (with_reducible first | exact HB.out | apply below_alloc | apply pw_below_drewN | apply below_drew1 | refine below_set ?_ GE371.out | refine below_set ?_ GE380.out) | exact HB.out)) hb)
 clear HO379
 clear HO383
 clear HO386
 clear HO390
 clear BK371
 clear BK380
 clear HB
 have HO379 := n0_
 have HO383 := n1_
 have HO386 := n2_
 have HO390 := n3_
 have HO393 := n4_
 have BK371 := n5_
 have BK380 := n6_
 have HB := n7_
 clear n0_ n1_ n2_ n3_ n4_ n5_ n6_ n7_
 (try clear hb)
 (try clear hb2)
 (try clear hk)
 (try clear hi)
 (try clear ho0)
 refine hK.out _ _ ⟨(blk_cell BK380.out 0).trans rfl, (blk_cell BK380.out 1).trans rfl, (blk_cell BK380.out 2).trans rfl, (blk_cell BK380.out 3).trans rfl, (blk_cell BK380.out 4).trans rfl⟩ (fun hHeld => ?_)
 clear hK K
 refine norm_ (a' := ?_) ?_ ?_
 rotate_left
 ·show Act.put _ (some 29) _ = _
  simp only [Act.put, List.setIfInBounds_toArray, List.set_cons_zero, List.set_cons_succ, i64_w, i32_w]
  rfl
 refine pure_ (i := 4) (N := some 25) (v := ?_) (a' := ?_) #[true, true, true, true, true, false, false, false, false] rfl rfl (any_of HT_.out (by kernel_rfl)) (fun _ _ _ h => h) (Or.inl ⟨by rfl, ?_⟩) ?_ ?_
 rotate_left
 ·intro w'
  go_simp
  with_reducible rfl
 rotate_left
 ·simp only [Act.put, List.setIfInBounds_toArray, List.set_cons_zero, List.set_cons_succ, i64_w, i32_w]
  rfl
 refine pure_ (i := 5) (N := some 30) (v := ?_) (a' := ?_) #[true, true, true, true, true, true, false, false, false] rfl rfl (any_of HT_.out (by kernel_rfl)) (fun _ _ _ h => h) (Or.inl ⟨by rfl, ?_⟩) ?_ ?_
 rotate_left
 ·intro w'
  go_simp
  with_reducible rfl
 rotate_left
 ·simp only [Act.put, List.setIfInBounds_toArray, List.set_cons_zero, List.set_cons_succ, i64_w, i32_w]
  rfl
 refine pure_ (i := 6) (N := some 31) (v := ?_) (a' := ?_) #[true, true, true, true, true, true, true, false, false] rfl rfl (any_of HT_.out (by kernel_rfl)) (fun _ _ _ h => h) (Or.inl ⟨by rfl, ?_⟩) ?_ ?_
 rotate_left
 ·intro w'
  go_simp
  with_reducible rfl
 rotate_left
 ·simp only [Act.put, List.setIfInBounds_toArray, List.set_cons_zero, List.set_cons_succ, i64_w, i32_w]
  rfl
 refine pure_ (i := 7) (N := some 7) (v := ?_) (a' := ?_) #[true, true, true, true, true, true, true, true, false] rfl rfl (any_of HT_.out (by kernel_rfl)) (fun _ _ _ h => h) (Or.inl ⟨by rfl, ?_⟩) ?_ ?_
 rotate_left
 ·intro w'
  go_simp
  with_reducible rfl
 rotate_left
 ·simp only [Act.put, List.setIfInBounds_toArray, List.set_cons_zero, List.set_cons_succ, i64_w, i32_w]
  rfl
 refine pure_ (i := 8) (N := some 8) (v := ?_) (a' := ?_) #[true, true, true, true, true, true, true, true, true] rfl rfl (any_of HT_.out (by kernel_rfl)) (fun _ _ _ h => h) (Or.inl ⟨by rfl, ?_⟩) ?_ ?_
 rotate_left
 ·intro w'
  go_simp
  with_reducible rfl
 rotate_left
 ·simp only [Act.put, List.setIfInBounds_toArray, List.set_cons_zero, List.set_cons_succ, i64_w, i32_w]
  rfl
 refine done_ (done_of HT_.out (by kernel_rfl)) ?_
 go_upto_region 4 with (fail)
 go_cut [54] (fun v54 wc => ∃ (kq : Nat) (x54_6 : Bool), v54 = .bool x54_6 ∧ Aside0 (lC.j0 kq t377 t384 t387 t391 x54_6 t372 t373 t374 t375 t376 = some r) ∧ Aside0 (kq ≤ k) ∧ Aside0 (Kd.R k74 74 wc w.heap.size (fun _ => True) (.slice Ao16 t377.length co16) t377) ∧ Aside0 (Kd.R (Kd.int .i64) 3 wc w.heap.size (fun k_ => some k_ ≠ (v392 : Value).ownBlock) v385 t384) ∧ Aside0 (Kd.R (Kd.int .i64) 3 wc w.heap.size (fun k_ => some k_ ≠ (v385 : Value).ownBlock) v392 t391) ∧ Aside0 (wc.heap[gb371]? = some (.cells #[.int .u8 a0_0, .int .u8 a0_1, .int .u8 a0_2, .int .u8 a0_3, .int .u8 a0_4, (.slice A0_5 l0_5.length c0_5)] 66 (0, 0))) ∧ Aside0 (wc.heap[gb380]? = some (.cells #[.int .i64 t372, .int .i64 t373, .int .i64 t374, .int .i64 t375, .int .i64 t376] 23 (0, 0))) ∧ Aside0 (Below w.heap.size w wc))
 case first =>
  have H := HC7.out
  clear HC7
  by_cases c24 : t387 = t394
  ·rw [if_pos c24] at H
   have c24b0 : (t387 == t394) = true := beq_iff_eq.mpr c24
   have c24b1 : (t387 != t394) = false := bne_eq_false_iff_eq.mpr c24
   clear c24
   (first | rw [c24b0] | (simp only [i64_w, i32_w]; rw [c24b0]) | skip)
   by_cases c25 : t387 = 0
   ·rw [if_pos c25] at H
    have c25b0 : (t387 == 0) = true := beq_iff_eq.mpr c25
    have c25b1 : (t387 != 0) = false := bne_eq_false_iff_eq.mpr c25
    clear c25
    replace H := Option.bind_eq_some_iff.mp H
    obtain ⟨_, A260, H⟩ := H
    replace H : (lC.j0 k t377 t384 t387 t391 false t372 t373 t374 t375 t376) = some r := H
    have A26 := Aside0.mk A260
    clear A260
    have H' := Aside0.mk H
    clear H
    obtain ⟨Ao27, co27, eo27⟩ := Kd.R_slice HO393.out
    subst eo27
    go_wp2_with (first | (go_at_call 46; (with_reducible refine (upC.calls k _ _ t391 (t377.length : Int)  _ ?side1 ?side2 A26.out).mono ?_); (case side1 => repeat (first | exact (Kd.R_reads' HO393.out).2.2 | (with_reducible refine Kd.C_alloc ?_ _) | (with_reducible refine Kd.C_drewN ?_ _) | (with_reducible refine Kd.C_drew ?_))); (case side2 => exact (Kd.R_reads' HO393.out).2.1); rintro e w' ⟨rfl, ⟨nd, rfl⟩⟩))
    go_meet
    case rel => exact ⟨_, (false), (by first | rfl | (simp; done) | (simp [*]; done)), H', ⟨by first | omega | exact Nat.le_refl _⟩, ⟨by (with_reducible repeat (first | apply Kd.R_alloc | apply Kd.R_drewN | apply Kd.R_drew)); exact Kd.R_mono HO379.out (fun _ hk => trivial)⟩, ⟨by (with_reducible repeat (first | apply Kd.R_alloc | apply Kd.R_drewN | apply Kd.R_drew)); exact Kd.R_mono HO386.out (fun _ hk => hk.2)⟩, ⟨by (with_reducible repeat (first | apply Kd.R_alloc | apply Kd.R_drewN | apply Kd.R_drew)); exact Kd.R_mono HO393.out (fun _ hk => hk.2)⟩, ⟨by (with_reducible repeat (first | refine blk_drewN ?_ _ | refine blk_drew ?_ | refine blk_alloc ?_ _)); exact BK371.out⟩, ⟨by (with_reducible repeat (first | refine blk_drewN ?_ _ | refine blk_drew ?_ | refine blk_alloc ?_ _)); exact BK380.out⟩, ⟨by repeat (first | (with_reducible first | exact HB.out | apply below_alloc | apply pw_below_drewN | apply below_drew1 | refine below_set ?_ GE371.out | refine below_set ?_ GE380.out) | exact HB.out)⟩⟩
   rw [if_neg c25] at H
   have c25b0 : (t387 == 0) = false := beq_eq_false_iff_ne.mpr c25
   have c25b1 : (t387 != 0) = true := bne_iff_ne.mpr c25
   by_cases c28 : t387 = 7
   ·rw [if_pos c28] at H
    have c28b0 : (t387 == 7) = true := beq_iff_eq.mpr c28
    have c28b1 : (t387 != 7) = false := bne_eq_false_iff_eq.mpr c28
    clear c28
    by_cases c29 : (t391.length : Int) = 0
    ·rw [if_pos c29] at H
     have c29b0 : ((t391.length : Int) == 0) = true := beq_iff_eq.mpr c29
     have c29b1 : ((t391.length : Int) != 0) = false := bne_eq_false_iff_eq.mpr c29
     clear c29
     replace H := Option.bind_eq_some_iff.mp H
     obtain ⟨_, A300, H⟩ := H
     replace H : (lC.j0 k t377 t384 t387 t391 false t372 t373 t374 t375 t376) = some r := H
     have A30 := Aside0.mk A300
     clear A300
     have H' := Aside0.mk H
     clear H
     obtain ⟨Ao31, co31, eo31⟩ := Kd.R_slice HO393.out
     subst eo31
     go_wp2_with (first | (go_at_call 46; (with_reducible refine (upC.calls k _ _ t391 (t377.length : Int)  _ ?side1 ?side2 A30.out).mono ?_); (case side1 => repeat (first | exact (Kd.R_reads' HO393.out).2.2 | (with_reducible refine Kd.C_alloc ?_ _) | (with_reducible refine Kd.C_drewN ?_ _) | (with_reducible refine Kd.C_drew ?_))); (case side2 => exact (Kd.R_reads' HO393.out).2.1); rintro e w' ⟨rfl, ⟨nd, rfl⟩⟩))
     go_meet
     case rel => exact ⟨_, (false), (by first | rfl | (simp; done) | (simp [*]; done)), H', ⟨by first | omega | exact Nat.le_refl _⟩, ⟨by (with_reducible repeat (first | apply Kd.R_alloc | apply Kd.R_drewN | apply Kd.R_drew)); exact Kd.R_mono HO379.out (fun _ hk => trivial)⟩, ⟨by (with_reducible repeat (first | apply Kd.R_alloc | apply Kd.R_drewN | apply Kd.R_drew)); exact Kd.R_mono HO386.out (fun _ hk => hk.2)⟩, ⟨by (with_reducible repeat (first | apply Kd.R_alloc | apply Kd.R_drewN | apply Kd.R_drew)); exact Kd.R_mono HO393.out (fun _ hk => hk.2)⟩, ⟨by (with_reducible repeat (first | refine blk_drewN ?_ _ | refine blk_drew ?_ | refine blk_alloc ?_ _)); exact BK371.out⟩, ⟨by (with_reducible repeat (first | refine blk_drewN ?_ _ | refine blk_drew ?_ | refine blk_alloc ?_ _)); exact BK380.out⟩, ⟨by repeat (first | (with_reducible first | exact HB.out | apply below_alloc | apply pw_below_drewN | apply below_drew1 | refine below_set ?_ GE371.out | refine below_set ?_ GE380.out) | exact HB.out)⟩⟩
    rw [if_neg c29] at H
    have c29b0 : ((t391.length : Int) == 0) = false := beq_eq_false_iff_ne.mpr c29
    have c29b1 : ((t391.length : Int) != 0) = true := bne_iff_ne.mpr c29
    have c29b2 : ¬ (t391 = []) := fun h_ => c29 (by rw [h_]; rfl)
    have H' := Aside0.mk H
    clear H
    obtain ⟨Ao32, co32, eo32⟩ := Kd.R_slice HO393.out
    subst eo32
    go_wp2
    go_meet
    case rel => exact ⟨_, (true), (by first | rfl | (simp; done) | (simp [*]; done)), H', ⟨by first | omega | exact Nat.le_refl _⟩, ⟨by (with_reducible repeat (first | apply Kd.R_alloc | apply Kd.R_drewN | apply Kd.R_drew)); exact Kd.R_mono HO379.out (fun _ hk => trivial)⟩, ⟨by (with_reducible repeat (first | apply Kd.R_alloc | apply Kd.R_drewN | apply Kd.R_drew)); exact Kd.R_mono HO386.out (fun _ hk => hk.2)⟩, ⟨by (with_reducible repeat (first | apply Kd.R_alloc | apply Kd.R_drewN | apply Kd.R_drew)); exact Kd.R_mono HO393.out (fun _ hk => hk.2)⟩, ⟨by (with_reducible repeat (first | refine blk_drewN ?_ _ | refine blk_drew ?_ | refine blk_alloc ?_ _)); exact BK371.out⟩, ⟨by (with_reducible repeat (first | refine blk_drewN ?_ _ | refine blk_drew ?_ | refine blk_alloc ?_ _)); exact BK380.out⟩, ⟨by repeat (first | (with_reducible first | exact HB.out | apply below_alloc | apply pw_below_drewN | apply below_drew1 | refine below_set ?_ GE371.out | refine below_set ?_ GE380.out) | exact HB.out)⟩⟩
   rw [if_neg c28] at H
   have c28b0 : (t387 == 7) = false := beq_eq_false_iff_ne.mpr c28
   have c28b1 : (t387 != 7) = true := bne_iff_ne.mpr c28
   have H' := Aside0.mk H
   clear H
   go_wp2
   go_meet
   case rel => exact ⟨_, (true), (by first | rfl | (simp; done) | (simp [*]; done)), H', ⟨by first | omega | exact Nat.le_refl _⟩, ⟨by (with_reducible repeat (first | apply Kd.R_alloc | apply Kd.R_drewN | apply Kd.R_drew)); exact Kd.R_mono HO379.out (fun _ hk => trivial)⟩, ⟨by (with_reducible repeat (first | apply Kd.R_alloc | apply Kd.R_drewN | apply Kd.R_drew)); exact Kd.R_mono HO386.out (fun _ hk => hk.2)⟩, ⟨by (with_reducible repeat (first | apply Kd.R_alloc | apply Kd.R_drewN | apply Kd.R_drew)); exact Kd.R_mono HO393.out (fun _ hk => hk.2)⟩, ⟨by (with_reducible repeat (first | refine blk_drewN ?_ _ | refine blk_drew ?_ | refine blk_alloc ?_ _)); exact BK371.out⟩, ⟨by (with_reducible repeat (first | refine blk_drewN ?_ _ | refine blk_drew ?_ | refine blk_alloc ?_ _)); exact BK380.out⟩, ⟨by repeat (first | (with_reducible first | exact HB.out | apply below_alloc | apply pw_below_drewN | apply below_drew1 | refine below_set ?_ GE371.out | refine below_set ?_ GE380.out) | exact HB.out)⟩⟩
  rw [if_neg c24] at H
  have c24b0 : (t387 == t394) = false := beq_eq_false_iff_ne.mpr c24
  have c24b1 : (t387 != t394) = true := bne_iff_ne.mpr c24
  (first | rw [c24b0] | (simp only [i64_w, i32_w]; rw [c24b0]) | skip)
  have H' := Aside0.mk H
  clear H
  go_wp2
  go_meet
  case rel => exact ⟨_, (true), (by first | rfl | (simp; done) | (simp [*]; done)), H', ⟨by first | omega | exact Nat.le_refl _⟩, ⟨by (with_reducible repeat (first | apply Kd.R_alloc | apply Kd.R_drewN | apply Kd.R_drew)); exact Kd.R_mono HO379.out (fun _ hk => trivial)⟩, ⟨by (with_reducible repeat (first | apply Kd.R_alloc | apply Kd.R_drewN | apply Kd.R_drew)); exact Kd.R_mono HO386.out (fun _ hk => hk.2)⟩, ⟨by (with_reducible repeat (first | apply Kd.R_alloc | apply Kd.R_drewN | apply Kd.R_drew)); exact Kd.R_mono HO393.out (fun _ hk => hk.2)⟩, ⟨by (with_reducible repeat (first | refine blk_drewN ?_ _ | refine blk_drew ?_ | refine blk_alloc ?_ _)); exact BK371.out⟩, ⟨by (with_reducible repeat (first | refine blk_drewN ?_ _ | refine blk_drew ?_ | refine blk_alloc ?_ _)); exact BK380.out⟩, ⟨by repeat (first | (with_reducible first | exact HB.out | apply below_alloc | apply pw_below_drewN | apply below_drew1 | refine below_set ?_ GE371.out | refine below_set ?_ GE380.out) | exact HB.out)⟩⟩
 case rest => as_aux_lemma =>
  clear HC7
  try clear c1
  try clear c2
  try clear p2
  try clear c3
  try clear c4
  try clear c11
  try clear c12
  try clear c24
  try clear c24b0
  try clear c24b1
  try clear c25
  try clear c25b0
  try clear c25b1
  try clear c28
  try clear c28b0
  try clear c28b1
  try clear c29
  try clear c29b0
  try clear c29b1
  try clear c29b2
  try clear c31
  try clear c32
  try clear hcz13_0
  try clear hcz13_1
  try clear hcz13_2
  try clear hcz13_3
  try clear hcz13_4
  try clear hcz9_0
  try clear hcz9_1
  try clear hcz9_2
  try clear hcz9_3
  try clear hcz9_4
  try clear hcz9_5
  try clear hfz13_0
  try clear hfz13_1
  try clear hfz13_2
  try clear hfz13_3
  try clear hfz13_4
  try clear hfz9_0
  try clear hfz9_1
  try clear hfz9_2
  try clear hfz9_3
  try clear hfz9_4
  try clear hfz9_5
  obtain ⟨kq, x54_6, rfl, HA, HJ6, HO_4, HO_5, HO_7, BK371, BK380, HB⟩ := hcut
  rcases kq with _ | kj6
  ·exact absurd HA.out (by simp [lC.j0])
  have H := HA.out
  clear HA
  simp only [lC.j0] at H
  by_cases c33 : x54_6 = true
  ·subst c33
   have H1 : (some false) = some r := by rw [if_pos rfl] at H; exact H
   clear H
   have H := H1
   clear H1
   obtain rfl := Option.some.inj H
   go_wp2
   go_ret
   exact ⟨by first | rfl | (simp [errW_none, errW_some] <;> rfl) | (simp [*, errW_none, errW_some] <;> rfl), by repeat (first | (with_reducible first | exact HB.out | apply below_alloc | apply pw_below_drewN | apply below_drew1 | refine below_set ?_ GE371.out | refine below_set ?_ GE380.out) | exact HB.out)⟩
  replace c33 := Bool.eq_false_iff.mpr c33
  subst c33
  have H1 : (lC.l0 kj6 t377 t384 t387 t391 0 t372 t373 t374 t375 t376) = some r := by rw [if_neg (show ¬ (false = true) by decide)] at H; exact H
  clear H
  have H := H1
  clear H1
  have H' := Aside0.mk H
  clear H
  go_wp2
  go_loopg [9] kj6 (fun kq v9 w' => ∃ (x9_2 : Int), v9 = .int .i64 x9_2 ∧ Aside0 (lC.l0 kq t377 t384 t387 t391 x9_2 t372 t373 t374 t375 t376 = some r) ∧ Aside0 (kq ≤ kj6) ∧ Aside0 (Kd.R k74 74 w' w.heap.size (fun _ => True) (.slice Ao16 t377.length co16) t377) ∧ Aside0 (Kd.R (Kd.int .i64) 3 w' w.heap.size (fun k_ => some k_ ≠ (v392 : Value).ownBlock) v385 t384) ∧ Aside0 (Kd.R (Kd.int .i64) 3 w' w.heap.size (fun k_ => some k_ ≠ (v385 : Value).ownBlock) v392 t391) ∧ Aside0 (w'.heap[gb371]? = some (.cells #[.int .u8 a0_0, .int .u8 a0_1, .int .u8 a0_2, .int .u8 a0_3, .int .u8 a0_4, (.slice A0_5 l0_5.length c0_5)] 66 (0, 0))) ∧ Aside0 (w'.heap[gb380]? = some (.cells #[.int .i64 t372, .int .i64 t373, .int .i64 t374, .int .i64 t375, .int .i64 t376] 23 (0, 0))) ∧ Aside0 (Below w.heap.size w w'))
  case atStart => exact ⟨(0), (by first | rfl | (simp; done) | (simp [*]; done)), H', ⟨Nat.le_refl _⟩, ⟨by (with_reducible repeat (first | apply Kd.R_alloc | apply Kd.R_drewN | apply Kd.R_drew)); exact HO_4.out⟩, ⟨by (with_reducible repeat (first | apply Kd.R_alloc | apply Kd.R_drewN | apply Kd.R_drew)); exact HO_5.out⟩, ⟨by (with_reducible repeat (first | apply Kd.R_alloc | apply Kd.R_drewN | apply Kd.R_drew)); exact HO_7.out⟩, ⟨by (with_reducible repeat (first | refine blk_drewN ?_ _ | refine blk_drew ?_ | refine blk_alloc ?_ _)); exact BK371.out⟩, ⟨by (with_reducible repeat (first | refine blk_drewN ?_ _ | refine blk_drew ?_ | refine blk_alloc ?_ _)); exact BK380.out⟩, ⟨by repeat (first | (with_reducible first | exact HB.out | apply below_alloc | apply pw_below_drewN | apply below_drew1 | refine below_set ?_ GE371.out | refine below_set ?_ GE380.out) | exact HB.out)⟩⟩
  case round => as_aux_lemma =>
   clear H'
   try clear c1
   try clear c2
   try clear p2
   try clear c3
   try clear c4
   try clear c11
   try clear c12
   try clear c24
   try clear c24b0
   try clear c24b1
   try clear c25
   try clear c25b0
   try clear c25b1
   try clear c28
   try clear c28b0
   try clear c28b1
   try clear c29
   try clear c29b0
   try clear c29b1
   try clear c29b2
   try clear c31
   try clear c32
   try clear c33
   try clear hcz13_0
   try clear hcz13_1
   try clear hcz13_2
   try clear hcz13_3
   try clear hcz13_4
   try clear hcz9_0
   try clear hcz9_1
   try clear hcz9_2
   try clear hcz9_3
   try clear hcz9_4
   try clear hcz9_5
   try clear hfz13_0
   try clear hfz13_1
   try clear hfz13_2
   try clear hfz13_3
   try clear hfz13_4
   try clear hfz9_0
   try clear hfz9_1
   try clear hfz9_2
   try clear hfz9_3
   try clear hfz9_4
   try clear hfz9_5
   try clear p2
   obtain ⟨x9_2, rfl, HA, HK2, HO_4, HO_5, HO_7, BK371, BK380, HB⟩ := hrel
   rcases gk with _ | k2
   ·exact absurd HA.out (by simp [lC.l0])
   have H := HA.out
   clear HA
   simp only [lC.l0] at H
   have HC34 := Aside0.mk H
   clear H
   go_upto_region 7 with (fail)
   go_cut [62] (fun v62 wc => ∃ (kq : Nat) (x62_33 : Bool), v62 = .bool x62_33 ∧ Aside0 (lC.j2 kq t377 t384 t387 t391 x9_2 x62_33 t372 t373 t374 t375 t376 = some r) ∧ Aside0 (kq ≤ k2) ∧ Aside0 (Kd.R k74 74 wc w.heap.size (fun _ => True) (.slice Ao16 t377.length co16) t377) ∧ Aside0 (Kd.R (Kd.int .i64) 3 wc w.heap.size (fun k_ => some k_ ≠ (v392 : Value).ownBlock) v385 t384) ∧ Aside0 (Kd.R (Kd.int .i64) 3 wc w.heap.size (fun k_ => some k_ ≠ (v385 : Value).ownBlock) v392 t391) ∧ Aside0 (wc.heap[gb371]? = some (.cells #[.int .u8 a0_0, .int .u8 a0_1, .int .u8 a0_2, .int .u8 a0_3, .int .u8 a0_4, (.slice A0_5 l0_5.length c0_5)] 66 (0, 0))) ∧ Aside0 (wc.heap[gb380]? = some (.cells #[.int .i64 t372, .int .i64 t373, .int .i64 t374, .int .i64 t375, .int .i64 t376] 23 (0, 0))) ∧ Aside0 (Below w.heap.size w wc))
   case first =>
    have H := HC34.out
    clear HC34
    by_cases c35 : x9_2 < (t377.length : Int)
    ·rw [if_pos c35] at H
     have c35b0 : decide (x9_2 < (t377.length : Int)) = true := decide_eq_true c35
     clear c35
     (first | rw [c35b0] | (simp only [i64_w, i32_w]; rw [c35b0]) | skip)
     have H' := Aside0.mk H
     clear H
     go_wp2
     go_meet
     case rel => exact ⟨_, ((t387 == 0)), (by first | rfl | (simp; done) | (simp [*]; done)), H', ⟨by have := HJ6.out; have := HK2.out; first | omega | exact Nat.le_refl _⟩, ⟨by (with_reducible repeat (first | apply Kd.R_alloc | apply Kd.R_drewN | apply Kd.R_drew)); exact HO_4.out⟩, ⟨by (with_reducible repeat (first | apply Kd.R_alloc | apply Kd.R_drewN | apply Kd.R_drew)); exact HO_5.out⟩, ⟨by (with_reducible repeat (first | apply Kd.R_alloc | apply Kd.R_drewN | apply Kd.R_drew)); exact HO_7.out⟩, ⟨by (with_reducible repeat (first | refine blk_drewN ?_ _ | refine blk_drew ?_ | refine blk_alloc ?_ _)); exact BK371.out⟩, ⟨by (with_reducible repeat (first | refine blk_drewN ?_ _ | refine blk_drew ?_ | refine blk_alloc ?_ _)); exact BK380.out⟩, ⟨by repeat (first | (with_reducible first | exact HB.out | apply below_alloc | apply pw_below_drewN | apply below_drew1 | refine below_set ?_ GE371.out | refine below_set ?_ GE380.out) | exact HB.out)⟩⟩
    rw [if_neg c35] at H
    have c35b0 : decide (x9_2 < (t377.length : Int)) = false := decide_eq_false c35
    clear c35
    (first | rw [c35b0] | (simp only [i64_w, i32_w]; rw [c35b0]) | skip)
    have H' := Aside0.mk H
    clear H
    go_wp2
    go_meet
    case rel => exact ⟨_, (false), (by first | rfl | (simp; done) | (simp [*]; done)), H', ⟨by have := HJ6.out; have := HK2.out; first | omega | exact Nat.le_refl _⟩, ⟨by (with_reducible repeat (first | apply Kd.R_alloc | apply Kd.R_drewN | apply Kd.R_drew)); exact HO_4.out⟩, ⟨by (with_reducible repeat (first | apply Kd.R_alloc | apply Kd.R_drewN | apply Kd.R_drew)); exact HO_5.out⟩, ⟨by (with_reducible repeat (first | apply Kd.R_alloc | apply Kd.R_drewN | apply Kd.R_drew)); exact HO_7.out⟩, ⟨by (with_reducible repeat (first | refine blk_drewN ?_ _ | refine blk_drew ?_ | refine blk_alloc ?_ _)); exact BK371.out⟩, ⟨by (with_reducible repeat (first | refine blk_drewN ?_ _ | refine blk_drew ?_ | refine blk_alloc ?_ _)); exact BK380.out⟩, ⟨by repeat (first | (with_reducible first | exact HB.out | apply below_alloc | apply pw_below_drewN | apply below_drew1 | refine below_set ?_ GE371.out | refine below_set ?_ GE380.out) | exact HB.out)⟩⟩
   case rest => as_aux_lemma =>
    clear HC34
    try clear c1
    try clear c2
    try clear p2
    try clear c3
    try clear c4
    try clear c11
    try clear c12
    try clear c24
    try clear c24b0
    try clear c24b1
    try clear c25
    try clear c25b0
    try clear c25b1
    try clear c28
    try clear c28b0
    try clear c28b1
    try clear c29
    try clear c29b0
    try clear c29b1
    try clear c29b2
    try clear c31
    try clear c32
    try clear c33
    try clear c35
    try clear c35b0
    try clear hcz13_0
    try clear hcz13_1
    try clear hcz13_2
    try clear hcz13_3
    try clear hcz13_4
    try clear hcz9_0
    try clear hcz9_1
    try clear hcz9_2
    try clear hcz9_3
    try clear hcz9_4
    try clear hcz9_5
    try clear hfz13_0
    try clear hfz13_1
    try clear hfz13_2
    try clear hfz13_3
    try clear hfz13_4
    try clear hfz9_0
    try clear hfz9_1
    try clear hfz9_2
    try clear hfz9_3
    try clear hfz9_4
    try clear hfz9_5
    try clear p2
    obtain ⟨kq, x62_33, rfl, HA, HJ33, HO_4, HO_5, HO_7, BK371, BK380, HB⟩ := hcut
    rcases kq with _ | kj33
    ·exact absurd HA.out (by simp [lC.j2])
    have H := HA.out
    clear HA
    simp only [lC.j2] at H
    by_cases c36 : x62_33 = true
    ·subst c36
     have H1 : (if 0 ≤ x9_2 then (if x9_2 ≤ (t377.length : Int) then ((smaltolaw03_own.f (t377.take (x9_2 : Int).toNat)).bind fun t402 => (if 0 ≤ (wrap64 (x9_2 + 1)) then (if (wrap64 (x9_2 + 1)) ≤ (t377.length : Int) then ((some (t377.drop ((wrap64 (x9_2 + 1)) : Int).toNat : List (S74))).bind fun y405 => (if t402.length + y405.length < 2932031007402 then ((fork_Loads.f t372 t373 t374 t375 t376 (t402 ++ y405)).bind fun bt412 => ((smaltolaw03_has.f kj33 t391 x9_2).bind fun t416 => (if t416 = true then (lC.j3 kj33 t377 t384 t387 t391 x9_2 bt412.1 bt412.2 1 t372 t373 t374 t375 t376) else (lC.j3 kj33 t377 t384 t387 t391 x9_2 bt412.1 bt412.2 0 t372 t373 t374 t375 t376)))) else (none))) else (none)) else (none))) else (none)) else (none)) = some r := by rw [if_pos rfl] at H; exact H
     clear H
     have H := H1
     clear H1
     by_cases c37 : 0 ≤ x9_2
     ·rw [if_pos c37] at H
      have c37b0 := eq_true c37
      have c37b1 : decide (0 ≤ x9_2) = true := decide_eq_true c37
      clear c37
      by_cases c38 : x9_2 ≤ (t377.length : Int)
      ·rw [if_pos c38] at H
       have c38b0 := eq_true c38
       have c38b1 : decide (x9_2 ≤ (t377.length : Int)) = true := decide_eq_true c38
       clear c38
       obtain ⟨y398, hy398⟩ : ∃ y_ : List (S74), y_ = (t377.take (x9_2 : Int).toNat) := ⟨_, rfl⟩
       replace H : ((smaltolaw03_own.f y398).bind fun t402 => (if 0 ≤ (wrap64 (x9_2 + 1)) then (if (wrap64 (x9_2 + 1)) ≤ (t377.length : Int) then ((some (t377.drop ((wrap64 (x9_2 + 1)) : Int).toNat : List (S74))).bind fun y405 => (if t402.length + y405.length < 2932031007402 then ((fork_Loads.f t372 t373 t374 t375 t376 (t402 ++ y405)).bind fun bt412 => ((smaltolaw03_has.f kj33 t391 x9_2).bind fun t416 => (if t416 = true then (lC.j3 kj33 t377 t384 t387 t391 x9_2 bt412.1 bt412.2 1 t372 t373 t374 t375 t376) else (lC.j3 kj33 t377 t384 t387 t391 x9_2 bt412.1 bt412.2 0 t372 t373 t374 t375 t376)))) else (none))) else (none)) else (none))) = some r := by first | (rw [hy398]; with_reducible exact H) | (have H2_ := (Option.bind_some _ _).symm.trans H; rw [hy398]; with_reducible exact H2_) | (have H2_ := (Option.bind_some _ _).symm.trans H; with_reducible exact H2_) | with_reducible exact H | (rw [hy398]; exact H) | exact H
       have Ny398 := Aside0.mk hy398
       clear hy398
       replace H := Option.bind_eq_some_iff.mp H
       obtain ⟨t402, A390, H⟩ := H
       replace H : (if 0 ≤ (wrap64 (x9_2 + 1)) then (if (wrap64 (x9_2 + 1)) ≤ (t377.length : Int) then ((some (t377.drop ((wrap64 (x9_2 + 1)) : Int).toNat : List (S74))).bind fun y405 => (if t402.length + y405.length < 2932031007402 then ((fork_Loads.f t372 t373 t374 t375 t376 (t402 ++ y405)).bind fun bt412 => ((smaltolaw03_has.f kj33 t391 x9_2).bind fun t416 => (if t416 = true then (lC.j3 kj33 t377 t384 t387 t391 x9_2 bt412.1 bt412.2 1 t372 t373 t374 t375 t376) else (lC.j3 kj33 t377 t384 t387 t391 x9_2 bt412.1 bt412.2 0 t372 t373 t374 t375 t376)))) else (none))) else (none)) else (none)) = some r := H
       have A39 := Aside0.mk A390
       clear A390
       obtain ⟨ji40, hji40⟩ : ∃ j_ : Int, (wrap64 (x9_2 + 1)) = j_ := ⟨_, rfl⟩
       replace H : (if 0 ≤ (ji40) then (if (ji40) ≤ (t377.length : Int) then ((some (t377.drop ((ji40) : Int).toNat : List (S74))).bind fun y405 => (if t402.length + y405.length < 2932031007402 then ((fork_Loads.f t372 t373 t374 t375 t376 (t402 ++ y405)).bind fun bt412 => ((smaltolaw03_has.f kj33 t391 x9_2).bind fun t416 => (if t416 = true then (lC.j3 kj33 t377 t384 t387 t391 x9_2 bt412.1 bt412.2 1 t372 t373 t374 t375 t376) else (lC.j3 kj33 t377 t384 t387 t391 x9_2 bt412.1 bt412.2 0 t372 t373 t374 t375 t376)))) else (none))) else (none)) else (none)) = some r := by first | (rw [hji40] at H; exact H) | (simp only [hji40] at H ⊢; exact H)
       (try rw [hji40] at A39)
       have hji40w : (IntKind.i64.wrap (x9_2 + 1)) = ji40 := (i64_w _).trans hji40
       by_cases c41 : 0 ≤ (ji40)
       ·rw [if_pos c41] at H
        have c41b0 := eq_true c41
        have c41b1 : decide (0 ≤ (ji40)) = true := decide_eq_true c41
        clear c41
        by_cases c42 : (ji40) ≤ (t377.length : Int)
        ·rw [if_pos c42] at H
         have c42b0 := eq_true c42
         have c42b1 : decide ((ji40) ≤ (t377.length : Int)) = true := decide_eq_true c42
         clear c42
         obtain ⟨y405, hy405⟩ : ∃ y_ : List (S74), y_ = (t377.drop ((ji40) : Int).toNat) := ⟨_, rfl⟩
         replace H : (if t402.length + y405.length < 2932031007402 then ((fork_Loads.f t372 t373 t374 t375 t376 (t402 ++ y405)).bind fun bt412 => ((smaltolaw03_has.f kj33 t391 x9_2).bind fun t416 => (if t416 = true then (lC.j3 kj33 t377 t384 t387 t391 x9_2 bt412.1 bt412.2 1 t372 t373 t374 t375 t376) else (lC.j3 kj33 t377 t384 t387 t391 x9_2 bt412.1 bt412.2 0 t372 t373 t374 t375 t376)))) else (none)) = some r := by first | (rw [hy405]; with_reducible exact H) | (have H2_ := (Option.bind_some _ _).symm.trans H; rw [hy405]; with_reducible exact H2_) | (have H2_ := (Option.bind_some _ _).symm.trans H; with_reducible exact H2_) | with_reducible exact H | (rw [hy405]; exact H) | exact H
         have Ny405 := Aside0.mk hy405
         clear hy405
         by_cases c43 : t402.length + y405.length < 2932031007402
         ·rw [if_pos c43] at H
          have LMc43 := Aside0.mk c43
          clear c43
          obtain ⟨y409, hy409⟩ : ∃ y_ : List (S74), y_ = (t402 ++ y405) := ⟨_, rfl⟩
          replace H : ((fork_Loads.f t372 t373 t374 t375 t376 y409).bind fun bt412 => ((smaltolaw03_has.f kj33 t391 x9_2).bind fun t416 => (if t416 = true then (lC.j3 kj33 t377 t384 t387 t391 x9_2 bt412.1 bt412.2 1 t372 t373 t374 t375 t376) else (lC.j3 kj33 t377 t384 t387 t391 x9_2 bt412.1 bt412.2 0 t372 t373 t374 t375 t376)))) = some r := by first | (rw [hy409]; with_reducible exact H) | (have H2_ := (Option.bind_some _ _).symm.trans H; rw [hy409]; with_reducible exact H2_) | (have H2_ := (Option.bind_some _ _).symm.trans H; with_reducible exact H2_) | with_reducible exact H | (rw [hy409]; exact H) | exact H
          have Ny409 := Aside0.mk hy409
          clear hy409
          replace H := Option.bind_eq_some_iff.mp H
          obtain ⟨⟨t412, t415⟩, A440, H⟩ := H
          replace H : ((smaltolaw03_has.f kj33 t391 x9_2).bind fun t416 => (if t416 = true then (lC.j3 kj33 t377 t384 t387 t391 x9_2 t412 t415 1 t372 t373 t374 t375 t376) else (lC.j3 kj33 t377 t384 t387 t391 x9_2 t412 t415 0 t372 t373 t374 t375 t376))) = some r := H
          have A44 := Aside0.mk A440
          clear A440
          replace H := Option.bind_eq_some_iff.mp H
          obtain ⟨t416, A450, H⟩ := H
          replace H : (if t416 = true then (lC.j3 kj33 t377 t384 t387 t391 x9_2 t412 t415 1 t372 t373 t374 t375 t376) else (lC.j3 kj33 t377 t384 t387 t391 x9_2 t412 t415 0 t372 t373 t374 t375 t376)) = some r := H
          have A45 := Aside0.mk A450
          clear A450
          have HC46 := Aside0.mk H
          clear H
          try go_wp2
          have n0_ := Aside0.mk (Kd.R_drew HO_4.out)
          have n1_ := Aside0.mk (Kd.R_drew HO_5.out)
          have n2_ := Aside0.mk (Kd.R_drew HO_7.out)
          have n3_ := Aside0.mk (blk_drew BK371.out)
          have n4_ := Aside0.mk (blk_drew BK380.out)
          have n5_ := Aside0.mk (below_drew1 HB.out)
          clear HO_4
          clear HO_5
          clear HO_7
          clear BK371
          clear BK380
          clear HB
          have HO_4 := n0_
          have HO_5 := n1_
          have HO_7 := n2_
          have BK371 := n3_
          have BK380 := n4_
          have HB := n5_
          clear n0_ n1_ n2_ n3_ n4_ n5_
          have q48 : (x9_2 : Int) ≤ ((t377.length : Int) : Int) := of_decide_eq_true (by first | (with_reducible assumption) | assumption)
          obtain ⟨i048, hi048, _, hsz48, _⟩ := info_parts info74
          have hroom48 : t377.length ≤ co16 := (Kd.R_reads' HO_4.out).2.1
          have hC48 : Kd.C k74 _ Ao16 t377.length t377 := (Kd.R_reads' HO_4.out).2.2
          have hcut48 := cut_to (P := Tryd.prog) 24 74 .i64 Tryd.underlying24 hi048 Ao16 t377.length co16 x9_2 (of_decide_eq_true (by first | (with_reducible assumption) | assumption)) q48 hroom48
          have hr48 := Kd.C_take (m := (x9_2 : Int).toNat) hC48 (by omega)
          have hy48 : y398.length = (x9_2 : Int).toNat := (by rw [Ny398.out, List.length_take]; omega)
          rw [← Ny398.out] at hr48
          rw [← hy48] at hcut48
          have HR401 := Aside0.mk hr48
          have HC401 := Aside0.mk (show y398.length ≤ co16 from by omega)
          clear hr48 hC48 hroom48 hi048 hsz48
          have KY48 := Aside0.mk hy48
          clear hy48
          have KL48 := Aside0.mk (show (x9_2 : Int).toNat ≤ t377.length from by omega)
          replace q48 := eq_true q48
          have q49 : ((ji40) : Int) ≤ ((t377.length : Int) : Int) := of_decide_eq_true (by first | (with_reducible assumption) | assumption)
          obtain ⟨i049, hi049, _, hsz49, _⟩ := info_parts info74
          have hroom49 : t377.length ≤ co16 := (Kd.R_reads' HO_4.out).2.1
          have hC49 : Kd.C k74 _ Ao16 t377.length t377 := (Kd.R_reads' HO_4.out).2.2
          have q049 : (0 : Int) ≤ ((ji40) : Int) := of_decide_eq_true (by first | (with_reducible assumption) | assumption)
          have hcut49 := cut_from (P := Tryd.prog) 24 74 .i64 Tryd.underlying24 hi049 6 hsz49 Ao16 t377.length co16 (ji40) q049 q49
          have hr49 := Kd.C_drop (m := ((ji40) : Int).toNat) (c := co16) hC49 (by omega) hroom49
          obtain ⟨A49, hA49⟩ : ∃ A1, A1 = (if co16 = ((ji40) : Int).toNat then Ao16 else (Ao16 : Option Addr).map (·.add (((ji40) : Int).toNat * 6))) := ⟨_, rfl⟩
          obtain ⟨c49, hc49⟩ : ∃ c1, c1 = co16 - ((ji40) : Int).toNat := ⟨_, rfl⟩
          have hy49 : y405.length = t377.length - ((ji40) : Int).toNat := (by rw [Ny405.out, List.length_drop] <;> omega)
          rw [show (t377).drop ((ji40) : Int).toNat = y405 from Ny405.out.symm] at hr49
          replace hr49 : Kd.C k74 _ A49 y405.length y405 := (by rw [hA49]; exact hr49)
          rw [← hy49, ← hA49, ← hc49] at hcut49
          have HR408 := Aside0.mk hr49
          have HC408 := Aside0.mk (show y405.length ≤ c49 from by rw [hy49, hc49]; exact Nat.sub_le_sub_right hroom49 _)
          clear hr49 hC49 hroom49 hi049 hsz49 hc49
          have KY49 := Aside0.mk hy49
          have KA49 := Aside0.mk hA49
          clear hy49 hA49
          have KL49 := Aside0.mk (show ((ji40) : Int).toNat ≤ t377.length from by omega)
          replace q49 := eq_true q49
          refine start_ (n := 16) (S := fun w' => w'.cell? ⟨gb380, 0, none⟩ = some (.int .i64 t372) ∧ w'.cell? ⟨gb380, 1, none⟩ = some (.int .i64 t373) ∧ w'.cell? ⟨gb380, 2, none⟩ = some (.int .i64 t374) ∧ w'.cell? ⟨gb380, 3, none⟩ = some (.int .i64 t375) ∧ w'.cell? ⟨gb380, 4, none⟩ = some (.int .i64 t376)) (ds := []) #[false, false, false, false, false, false, false, false, false, false, false, false, false, false, false, false] (by kernel_rfl) rfl rfl ⟨(blk_cell BK380.out 0).trans rfl, (blk_cell BK380.out 1).trans rfl, (blk_cell BK380.out 2).trans rfl, (blk_cell BK380.out 3).trans rfl, (blk_cell BK380.out 4).trans rfl⟩ (fun hHeld => ?_); refine with_tabW lC.tab9 lC.bits9 (fun HT_ HW_ => ?_)
          generalize wc.drew = w47 at HO_4 HO_5 HO_7 BK371 BK380 HB HR401 HR408 hHeld ⊢
          refine pure_ (i := 1) (N := some 67) (v := ?_) (a' := ?_) #[false, true, false, false, false, false, false, false, false, false, false, false, false, false, false, false] rfl rfl (any_of HT_.out (by kernel_rfl)) (fun _ _ _ h => h) (Or.inl ⟨by rfl, ?_⟩) ?_ ?_
          rotate_left
          ·intro w'
           go_simp
           with_reducible rfl
          rotate_left
          ·simp only [Act.put, List.setIfInBounds_toArray, List.set_cons_zero, List.set_cons_succ, i64_w, i32_w]
           rfl
          refine pure_ (i := 2) (N := some 68) (v := ?_) (a' := ?_) #[false, true, true, false, false, false, false, false, false, false, false, false, false, false, false, false] rfl rfl (any_of HT_.out (by kernel_rfl)) (fun _ _ _ h => h) (Or.inl ⟨by rfl, ?_⟩) ?_ ?_
          rotate_left
          ·intro w'
           go_simp
           with_reducible rfl
          rotate_left
          ·simp only [Act.put, List.setIfInBounds_toArray, List.set_cons_zero, List.set_cons_succ, i64_w, i32_w]
           rfl
          refine pure_ (i := 3) (N := some 69) (v := ?_) (a' := ?_) #[false, true, true, true, false, false, false, false, false, false, false, false, false, false, false, false] rfl rfl (any_of HT_.out (by kernel_rfl)) (fun _ _ _ h => h) (Or.inl ⟨by rfl, ?_⟩) ?_ ?_
          rotate_left
          ·intro w'
           go_simp
           with_reducible rfl
          rotate_left
          ·simp only [Act.put, List.setIfInBounds_toArray, List.set_cons_zero, List.set_cons_succ, i64_w, i32_w]
           rfl
          refine pure_ (i := 5) (N := some 71) (v := ?_) (a' := ?_) #[false, true, true, true, false, true, false, false, false, false, false, false, false, false, false, false] rfl rfl (any_of HT_.out (by kernel_rfl)) (fun _ _ _ h => h) (Or.inl ⟨by rfl, ?_⟩) ?_ ?_
          rotate_left
          ·intro w'
           go_simp
           with_reducible rfl
          rotate_left
          ·simp only [Act.put, List.setIfInBounds_toArray, List.set_cons_zero, List.set_cons_succ, i64_w, i32_w]
           rfl
          refine pure_ (i := 6) (N := some 72) (v := ?_) (a' := ?_) #[false, true, true, true, false, true, true, false, false, false, false, false, false, false, false, false] rfl rfl (any_of HT_.out (by kernel_rfl)) (fun _ _ _ h => h) (Or.inl ⟨by rfl, ?_⟩) ?_ ?_
          rotate_left
          ·intro w'
           go_simp
           with_reducible rfl
          rotate_left
          ·simp only [Act.put, List.setIfInBounds_toArray, List.set_cons_zero, List.set_cons_succ, i64_w, i32_w]
           rfl
          refine pure_ (i := 7) (N := some 73) (v := ?_) (a' := ?_) #[false, true, true, true, false, true, true, true, false, false, false, false, false, false, false, false] rfl rfl (any_of HT_.out (by kernel_rfl)) (fun _ _ _ h => h) (Or.inl ⟨by rfl, ?_⟩) ?_ ?_
          rotate_left
          ·intro w'
           go_simp
           with_reducible rfl
          rotate_left
          ·simp only [Act.put, List.setIfInBounds_toArray, List.set_cons_zero, List.set_cons_succ, i64_w, i32_w]
           rfl
          refine pure_ (i := 8) (N := some 74) (v := ?_) (a' := ?_) #[false, true, true, true, false, true, true, true, true, false, false, false, false, false, false, false] rfl rfl (any_of HT_.out (by kernel_rfl)) (fun _ _ _ h => h) (Or.inl ⟨by rfl, ?_⟩) ?_ ?_
          rotate_left
          ·intro w'
           go_simp
           with_reducible rfl
          rotate_left
          ·simp only [Act.put, List.setIfInBounds_toArray, List.set_cons_zero, List.set_cons_succ, i64_w, i32_w]
           rfl
          refine take_ (i := 0) (N := some 66) (v := ?_) (a' := ?_) #[true, true, true, true, false, true, true, true, true, false, false, false, false, false, false, false] rfl rfl (take_ofW HT_.out HW_.out (by kernel_rfl)) (fun _ _ _ h => h) (Or.inl ⟨by rfl, ?_⟩) hHeld ?_ ?_
          rotate_left
          ·rintro w' ⟨s0, s1, s2, s3, s4⟩
           go_simp
           with_reducible rfl
          rotate_left
          ·simp only [Act.put, List.setIfInBounds_toArray, List.set_cons_zero, List.set_cons_succ, i64_w, i32_w]
           rfl
          refine one_ (i := 4) (N := some 70) #[true, true, true, true, true, true, true, true, true, false, false, false, false, false, false, false] rfl rfl (one_of HT_.out (by kernel_rfl)) (by decide) (fun K hK => ?_)
          refine goes_ Tryd.func43 (by kernel_rfl) rfl #[.slice Ao16 y398.length co16] (by rfl) rfl rfl (by (try simp only [List.map_toArray, List.map_cons, List.map_nil]); first | done | rfl | (simp only [List.length_drop, List.length_take]; rfl)) ?_
          with_reducible refine (smaltolaw03_own.calls _ _ y398 t402 _ ?side1 ?side2 A39.out).mono ?_
          (case side1 => repeat (first | exact (by repeat (first | (with_reducible exact HR401.out) | (with_reducible refine Kd.C_alloc ?_ _) | (with_reducible refine Kd.C_drewN ?_ _) | (with_reducible refine Kd.C_drew ?_) | exact HR401.out)) | (with_reducible refine Kd.C_alloc ?_ _) | (with_reducible refine Kd.C_drewN ?_ _) | (with_reducible refine Kd.C_drew ?_)))
          (case side2 => exact HC401.out)
          rintro e w50 ⟨v403, rfl, ho0, hb⟩
          refine ⟨_, rfl, ?_⟩
          have n0_ := Aside0.mk (Kd.R_elder' (by (with_reducible repeat (first | apply Kd.R_alloc | apply Kd.R_drewN | apply Kd.R_drew)); exact HO_4.out) (Kd.R_base ho0) hb)
          have n1_ := Aside0.mk (Kd.R_below (by (with_reducible repeat (first | apply Kd.R_alloc | apply Kd.R_drewN | apply Kd.R_drew)); exact HO_5.out) hb)
          have n2_ := Aside0.mk (Kd.R_below (by (with_reducible repeat (first | apply Kd.R_alloc | apply Kd.R_drewN | apply Kd.R_drew)); exact HO_7.out) hb)
          have n3_ := Aside0.mk (Kd.R_lower (Kd.R_new' ho0 (Kd.R_lt (by (with_reducible repeat (first | apply Kd.R_alloc | apply Kd.R_drewN | apply Kd.R_drew)); exact HO_4.out))) (below_size (by repeat (first | (with_reducible first | exact HB.out | apply below_alloc | apply pw_below_drewN | apply below_drew1 | refine below_set ?_ GE371.out | refine below_set ?_ GE380.out) | exact HB.out))))
          have n4_ := Aside0.mk (blk_below (g := gb371) (o := .cells #[.int .u8 a0_0, .int .u8 a0_1, .int .u8 a0_2, .int .u8 a0_3, .int .u8 a0_4, .slice A0_5 l0_5.length c0_5] 66 (0, 0)) (by (with_reducible repeat (first | refine blk_drewN ?_ _ | refine blk_drew ?_ | refine blk_alloc ?_ _)); exact BK371.out) hb)
          have n5_ := Aside0.mk (blk_below (g := gb380) (o := .cells #[.int .i64 t372, .int .i64 t373, .int .i64 t374, .int .i64 t375, .int .i64 t376] 23 (0, 0)) (by (with_reducible repeat (first | refine blk_drewN ?_ _ | refine blk_drew ?_ | refine blk_alloc ?_ _)); exact BK380.out) hb)
          have n6_ := Aside0.mk (Kd.C_below (by repeat (first | (with_reducible exact HR401.out) | (with_reducible refine Kd.C_alloc ?_ _) | (with_reducible refine Kd.C_drewN ?_ _) | (with_reducible refine Kd.C_drew ?_) | exact HR401.out)) hb)
          have n7_ := Aside0.mk (Kd.C_below (by repeat (first | (with_reducible exact HR408.out) | (with_reducible refine Kd.C_alloc ?_ _) | (with_reducible refine Kd.C_drewN ?_ _) | (with_reducible refine Kd.C_drew ?_) | exact HR408.out)) hb)
          have n8_ := Aside0.mk (below_step (by repeat (first | (with_reducible first | exact HB.out | apply below_alloc | apply pw_below_drewN | apply below_drew1 | refine below_set ?_ GE371.out | refine below_set ?_ GE380.out) | exact HB.out)) hb)
          clear HO_4
          clear HO_5
          clear HO_7
          clear BK371
          clear BK380
          clear HR401
          clear HR408
          clear HB
          have HO_4 := n0_
          have HO_5 := n1_
          have HO_7 := n2_
          have HO404 := n3_
          have BK371 := n4_
          have BK380 := n5_
          have HR401 := n6_
          have HR408 := n7_
          have HB := n8_
          clear n0_ n1_ n2_ n3_ n4_ n5_ n6_ n7_ n8_
          (try clear hb)
          (try clear hb2)
          (try clear hk)
          (try clear hi)
          (try clear ho0)
          refine hK.out _ _ ⟨(blk_cell BK380.out 0).trans rfl, (blk_cell BK380.out 1).trans rfl, (blk_cell BK380.out 2).trans rfl, (blk_cell BK380.out 3).trans rfl, (blk_cell BK380.out 4).trans rfl⟩ (fun hHeld => ?_)
          clear hK K
          refine norm_ (a' := ?_) ?_ ?_
          rotate_left
          ·show Act.put _ (some 70) _ = _
           simp only [Act.put, List.setIfInBounds_toArray, List.set_cons_zero, List.set_cons_succ, i64_w, i32_w]
           rfl
          refine one_ (i := 9) (N := some 75) #[true, true, true, true, true, true, true, true, true, true, false, false, false, false, false, false] rfl rfl (one_of HT_.out (by kernel_rfl)) (by decide) (fun K hK => ?_)
          refine Kd.R_append_rows_step k74 (w0 := w) w.heap.size (by rfl) (.tmp 70) (.tmp 74) 24 74 (.agg #[(.int .i64 0), (.int .i64 0), (.int .i64 0), (.int .i64 0), (.int .i64 0), (.int .i64 0)]) 48 rfl Tryd.underlying24 info74 rfl (by decide) (by omega) v403 t402 y405 _ _ _ (fun k_ => some k_ ≠ (.slice Ao16 t377.length co16 : Value).ownBlock) (fun _ => False) rfl rfl ?aO ?aR (fun _ _ h => h) (fun _ h => h.elim) ?aF ?aB ?aS ?aL ?_
          (case aR => repeat (first | exact (by repeat (first | (with_reducible exact HR408.out) | (with_reducible refine Kd.C_alloc ?_ _) | (with_reducible refine Kd.C_drewN ?_ _) | (with_reducible refine Kd.C_drew ?_) | exact HR408.out)) | (with_reducible refine Kd.C_alloc ?_ _) | (with_reducible refine Kd.C_drewN ?_ _) | (with_reducible refine Kd.C_drew ?_)))
          (case aB => exact (by repeat (first | (with_reducible first | exact HB.out | apply below_alloc | apply pw_below_drewN | apply below_drew1 | refine below_set ?_ GE371.out | refine below_set ?_ GE380.out) | exact HB.out)))
          (case aF => exact (fun k_ hk => Kd.fresh' (Kd.R_lt (by (with_reducible repeat (first | apply Kd.R_alloc | apply Kd.R_drewN | apply Kd.R_drew)); exact HO_4.out)) k_ hk))
          (case aO => exact (by (with_reducible repeat (first | apply Kd.R_alloc | apply Kd.R_drewN | apply Kd.R_drew)); exact Kd.R_mono HO404.out (fun _ hk => hk.2)))
          (case aS => exact (below_size (by repeat (first | (with_reducible first | exact HB.out | apply below_alloc | apply pw_below_drewN | apply below_drew1 | refine below_set ?_ GE371.out | refine below_set ?_ GE380.out) | exact HB.out))))
          (case aL => have := LMc43.out; omega)
          intro v410 w51 ho hb hg hat
          rw [← Ny409.out] at ho
          have n0_ := Aside0.mk (Kd.R_after (ok := (fun _ => True)) (by (with_reducible repeat (first | apply Kd.R_alloc | apply Kd.R_drewN | apply Kd.R_drew)); exact HO_4.out) hg hat)
          have n1_ := Aside0.mk (Kd.R_over' (by (with_reducible repeat (first | apply Kd.R_alloc | apply Kd.R_drewN | apply Kd.R_drew)); exact HO_5.out) (Kd.R_typed (by (with_reducible repeat (first | apply Kd.R_alloc | apply Kd.R_drewN | apply Kd.R_drew)); exact HO404.out)) (by decide) hg)
          have n2_ := Aside0.mk (Kd.R_over' (by (with_reducible repeat (first | apply Kd.R_alloc | apply Kd.R_drewN | apply Kd.R_drew)); exact HO_7.out) (Kd.R_typed (by (with_reducible repeat (first | apply Kd.R_alloc | apply Kd.R_drewN | apply Kd.R_drew)); exact HO404.out)) (by decide) hg)
          have n3_ := Aside0.mk (blk_grown (g := gb371) (o := .cells #[.int .u8 a0_0, .int .u8 a0_1, .int .u8 a0_2, .int .u8 a0_3, .int .u8 a0_4, .slice A0_5 l0_5.length c0_5] 66 (0, 0)) (by (with_reducible repeat (first | refine blk_drewN ?_ _ | refine blk_drew ?_ | refine blk_alloc ?_ _)); exact BK371.out) hg (Kd.R_ne HO404.out BK371.out (by decide)))
          have n4_ := Aside0.mk (blk_grown (g := gb380) (o := .cells #[.int .i64 t372, .int .i64 t373, .int .i64 t374, .int .i64 t375, .int .i64 t376] 23 (0, 0)) (by (with_reducible repeat (first | refine blk_drewN ?_ _ | refine blk_drew ?_ | refine blk_alloc ?_ _)); exact BK380.out) hg (Kd.R_ne HO404.out BK380.out (by decide)))
          have n5_ := Aside0.mk (hb)
          have n6_ := Aside0.mk ((show Kd.C k74 w51 Ao16 y398.length y398 from by rw [Ny398.out]; exact Kd.C_take (m := (x9_2 : Int).toNat) ((Kd.R_reads' (Kd.R_after (ok := (fun _ => True)) (by (with_reducible repeat (first | apply Kd.R_alloc | apply Kd.R_drewN | apply Kd.R_drew)); exact HO_4.out) hg hat)).2.2) KL48.out))
          have n7_ := Aside0.mk ((show Kd.C k74 w51 A49 y405.length y405 from by rw [Ny405.out, KA49.out]; exact Kd.C_drop (m := ((ji40) : Int).toNat) (c := co16) ((Kd.R_reads' (Kd.R_after (ok := (fun _ => True)) (by (with_reducible repeat (first | apply Kd.R_alloc | apply Kd.R_drewN | apply Kd.R_drew)); exact HO_4.out) hg hat)).2.2) KL49.out ((Kd.R_reads' (Kd.R_after (ok := (fun _ => True)) (by (with_reducible repeat (first | apply Kd.R_alloc | apply Kd.R_drewN | apply Kd.R_drew)); exact HO_4.out) hg hat)).2.1)))
          have n8_ := Aside0.mk (ho)
          clear HO_4
          clear HO_5
          clear HO_7
          clear BK371
          clear BK380
          clear HB
          clear HR401
          clear HR408
          clear HO404
          have HO_4 := n0_
          have HO_5 := n1_
          have HO_7 := n2_
          have BK371 := n3_
          have BK380 := n4_
          have HB := n5_
          have HR401 := n6_
          have HR408 := n7_
          have HO411 := n8_
          clear n0_ n1_ n2_ n3_ n4_ n5_ n6_ n7_ n8_
          clear ho hb hg hat
          obtain ⟨Ao52, co52, eo52⟩ := Kd.R_slice HO411.out
          (first | subst eo52 | (injection eo52 with f1_ f2_ f3_; have f4_ := f1_.symm; have f5_ := f3_.symm; clear f1_ f2_ f3_; subst f4_; subst f5_))
          refine hK.out _ _ ⟨(blk_cell BK380.out 0).trans rfl, (blk_cell BK380.out 1).trans rfl, (blk_cell BK380.out 2).trans rfl, (blk_cell BK380.out 3).trans rfl, (blk_cell BK380.out 4).trans rfl⟩ (fun hHeld => ?_)
          clear hK K
          refine norm_ (a' := ?_) ?_ ?_
          rotate_left
          ·show Act.put _ (some 75) _ = _
           simp only [Act.put, List.setIfInBounds_toArray, List.set_cons_zero, List.set_cons_succ, i64_w, i32_w]
           rfl
          refine one_ (i := 10) (N := some 76) #[true, true, true, true, true, true, true, true, true, true, true, false, false, false, false, false] rfl rfl (one_of HT_.out (by kernel_rfl)) (by decide) (fun K hK => ?_)
          refine goes_ Tryd.func31 (by kernel_rfl) rfl #[.agg #[.int .i64 t372, .int .i64 t373, .int .i64 t374, .int .i64 t375, .int .i64 t376], .slice Ao52 y409.length co52] (by rfl) rfl rfl (by (try simp only [List.map_toArray, List.map_cons, List.map_nil]); first | done | rfl | (simp only [List.length_drop, List.length_take]; rfl)) ?_
          with_reducible refine (fork_Loads.calls t372 t373 t374 t375 t376 _ _ y409 t412 t415 _ ?side3 ?side1 ?side2 A44.out).mono ?_
          (case side1 => repeat (first | exact (Kd.R_reads' HO411.out).2.2 | (with_reducible refine Kd.C_alloc ?_ _) | (with_reducible refine Kd.C_drewN ?_ _) | (with_reducible refine Kd.C_drew ?_)))
          (case side2 => exact (Kd.R_reads' HO411.out).2.1)
          (case side3 => exact Hand.TabW.below HTAB.out (by repeat (first | (with_reducible first | exact HB.out | apply below_alloc | apply pw_below_drewN | apply below_drew1 | refine below_set ?_ GE371.out | refine below_set ?_ GE380.out) | exact HB.out)))
          rintro e w53 ⟨v413, rfl, ho0, hb⟩
          refine ⟨_, rfl, ?_⟩
          have n0_ := Aside0.mk (Kd.R_below (by (with_reducible repeat (first | apply Kd.R_alloc | apply Kd.R_drewN | apply Kd.R_drew)); exact HO_4.out) hb)
          have n1_ := Aside0.mk (Kd.R_elder' (by (with_reducible repeat (first | apply Kd.R_alloc | apply Kd.R_drewN | apply Kd.R_drew)); exact HO_5.out) (Kd.R_base ho0) hb)
          have n2_ := Aside0.mk (Kd.R_elder' (by (with_reducible repeat (first | apply Kd.R_alloc | apply Kd.R_drewN | apply Kd.R_drew)); exact HO_7.out) (Kd.R_base ho0) hb)
          have n3_ := Aside0.mk (Kd.R_below (by (with_reducible repeat (first | apply Kd.R_alloc | apply Kd.R_drewN | apply Kd.R_drew)); exact HO411.out) hb)
          have n4_ := Aside0.mk (Kd.R_lower (Kd.R_new' (Kd.R_new' ho0 (Kd.R_lt (by (with_reducible repeat (first | apply Kd.R_alloc | apply Kd.R_drewN | apply Kd.R_drew)); exact HO_5.out))) (Kd.R_lt (by (with_reducible repeat (first | apply Kd.R_alloc | apply Kd.R_drewN | apply Kd.R_drew)); exact HO_7.out))) (below_size (by repeat (first | (with_reducible first | exact HB.out | apply below_alloc | apply pw_below_drewN | apply below_drew1 | refine below_set ?_ GE371.out | refine below_set ?_ GE380.out) | exact HB.out))))
          have n5_ := Aside0.mk (blk_below (g := gb371) (o := .cells #[.int .u8 a0_0, .int .u8 a0_1, .int .u8 a0_2, .int .u8 a0_3, .int .u8 a0_4, .slice A0_5 l0_5.length c0_5] 66 (0, 0)) (by (with_reducible repeat (first | refine blk_drewN ?_ _ | refine blk_drew ?_ | refine blk_alloc ?_ _)); exact BK371.out) hb)
          have n6_ := Aside0.mk (blk_below (g := gb380) (o := .cells #[.int .i64 t372, .int .i64 t373, .int .i64 t374, .int .i64 t375, .int .i64 t376] 23 (0, 0)) (by (with_reducible repeat (first | refine blk_drewN ?_ _ | refine blk_drew ?_ | refine blk_alloc ?_ _)); exact BK380.out) hb)
          have n7_ := Aside0.mk (Kd.C_below (by repeat (first | (with_reducible exact HR401.out) | (with_reducible refine Kd.C_alloc ?_ _) | (with_reducible refine Kd.C_drewN ?_ _) | (with_reducible refine Kd.C_drew ?_) | exact HR401.out)) hb)
          have n8_ := Aside0.mk (Kd.C_below (by repeat (first | (with_reducible exact HR408.out) | (with_reducible refine Kd.C_alloc ?_ _) | (with_reducible refine Kd.C_drewN ?_ _) | (with_reducible refine Kd.C_drew ?_) | exact HR408.out)) hb)
          have n9_ := Aside0.mk (below_step (by repeat (first | (with_reducible first | exact HB.out | apply below_alloc | apply pw_below_drewN | apply below_drew1 | refine below_set ?_ GE371.out | refine below_set ?_ GE380.out) | exact HB.out)) hb)
          clear HO_4
          clear HO_5
          clear HO_7
          clear HO411
          clear BK371
          clear BK380
          clear HR401
          clear HR408
          clear HB
          have HO_4 := n0_
          have HO_5 := n1_
          have HO_7 := n2_
          have HO411 := n3_
          have HO414 := n4_
          have BK371 := n5_
          have BK380 := n6_
          have HR401 := n7_
          have HR408 := n8_
          have HB := n9_
          clear n0_ n1_ n2_ n3_ n4_ n5_ n6_ n7_ n8_ n9_
          (try clear hb)
          (try clear hb2)
          (try clear hk)
          (try clear hi)
          (try clear ho0)
          refine hK.out _ _ ⟨(blk_cell BK380.out 0).trans rfl, (blk_cell BK380.out 1).trans rfl, (blk_cell BK380.out 2).trans rfl, (blk_cell BK380.out 3).trans rfl, (blk_cell BK380.out 4).trans rfl⟩ (fun hHeld => ?_)
          clear hK K
          refine norm_ (a' := ?_) ?_ ?_
          rotate_left
          ·show Act.put _ (some 76) _ = _
           simp only [Act.put, List.setIfInBounds_toArray, List.set_cons_zero, List.set_cons_succ, i64_w, i32_w]
           rfl
          refine pure_ (i := 11) (N := some 65) (v := ?_) (a' := ?_) #[true, true, true, true, true, true, true, true, true, true, true, true, false, false, false, false] rfl rfl (any_of HT_.out (by kernel_rfl)) (fun _ _ _ h => h) (Or.inl ⟨by rfl, ?_⟩) ?_ ?_
          rotate_left
          ·intro w'
           go_simp
           with_reducible rfl
          rotate_left
          ·simp only [Act.put, List.setIfInBounds_toArray, List.set_cons_zero, List.set_cons_succ, i64_w, i32_w]
           rfl
          refine pure_ (i := 12) (N := some 77) (v := ?_) (a' := ?_) #[true, true, true, true, true, true, true, true, true, true, true, true, true, false, false, false] rfl rfl (any_of HT_.out (by kernel_rfl)) (fun _ _ _ h => h) (Or.inl ⟨by rfl, ?_⟩) ?_ ?_
          rotate_left
          ·intro w'
           go_simp
           with_reducible rfl
          rotate_left
          ·simp only [Act.put, List.setIfInBounds_toArray, List.set_cons_zero, List.set_cons_succ, i64_w, i32_w]
           rfl
          refine pure_ (i := 13) (N := some 78) (v := ?_) (a' := ?_) #[true, true, true, true, true, true, true, true, true, true, true, true, true, true, false, false] rfl rfl (any_of HT_.out (by kernel_rfl)) (fun _ _ _ h => h) (Or.inl ⟨by rfl, ?_⟩) ?_ ?_
          rotate_left
          ·intro w'
           go_simp
           with_reducible rfl
          rotate_left
          ·simp only [Act.put, List.setIfInBounds_toArray, List.set_cons_zero, List.set_cons_succ, i64_w, i32_w]
           rfl
          refine pure_ (i := 14) (N := some 10) (v := ?_) (a' := ?_) #[true, true, true, true, true, true, true, true, true, true, true, true, true, true, true, false] rfl rfl (any_of HT_.out (by kernel_rfl)) (fun _ _ _ h => h) (Or.inl ⟨by rfl, ?_⟩) ?_ ?_
          rotate_left
          ·intro w'
           go_simp
           with_reducible rfl
          rotate_left
          ·simp only [Act.put, List.setIfInBounds_toArray, List.set_cons_zero, List.set_cons_succ, i64_w, i32_w]
           rfl
          refine pure_ (i := 15) (N := some 11) (v := ?_) (a' := ?_) #[true, true, true, true, true, true, true, true, true, true, true, true, true, true, true, true] rfl rfl (any_of HT_.out (by kernel_rfl)) (fun _ _ _ h => h) (Or.inl ⟨by rfl, ?_⟩) ?_ ?_
          rotate_left
          ·intro w'
           go_simp
           with_reducible rfl
          rotate_left
          ·simp only [Act.put, List.setIfInBounds_toArray, List.set_cons_zero, List.set_cons_succ, i64_w, i32_w]
           rfl
          refine done_ (done_of HT_.out (by kernel_rfl)) ?_
          obtain ⟨Ao54, co54, eo54⟩ := Kd.R_slice HO_7.out
          subst eo54
          go_upto_if 81 with (first | ((with_reducible refine gate_callee (f := 48) rfl ?_); refine goesL_ (some 81) rfl rfl Tryd.func48 (by kernel_rfl) rfl #[.slice Ao54 t391.length co54, .int .i64 x9_2] rfl (by (try simp only [List.map_toArray, List.map_cons, List.map_nil]); first | done | rfl | (simp only [List.length_drop, List.length_take]; rfl)) ?_; (with_reducible refine (smaltolaw03_has.calls kj33 _ _ t391 x9_2 t416 _ ?side1 ?side2 A45.out).mono ?_); (case side1 => repeat (first | exact (Kd.R_reads' HO_7.out).2.2 | (with_reducible refine Kd.C_alloc ?_ _) | (with_reducible refine Kd.C_drewN ?_ _) | (with_reducible refine Kd.C_drew ?_))); (case side2 => exact (Kd.R_reads' HO_7.out).2.1); rintro e w' ⟨rfl, ⟨nd, rfl⟩⟩; refine ⟨_, rfl, ?_⟩))
          (try simp only [Act.put, List.setIfInBounds_toArray, List.set_cons_zero, List.set_cons_succ])
          go_cut [12] (fun v12 wc => ∃ (kq : Nat) (x12_45 : Int), v12 = .int .i64 x12_45 ∧ Aside0 (lC.j3 kq t377 t384 t387 t391 x9_2 t412 t415 x12_45 t372 t373 t374 t375 t376 = some r) ∧ Aside0 (kq ≤ kj33) ∧ Aside0 (Kd.R k74 74 wc w.heap.size (fun _ => True) (.slice Ao16 t377.length co16) t377) ∧ Aside0 (Kd.R (Kd.int .i64) 3 wc w.heap.size (fun k_ => some k_ ≠ ((.slice Ao54 t391.length co54) : Value).ownBlock ∧ some k_ ≠ (v413 : Value).ownBlock) v385 t384) ∧ Aside0 (Kd.R (Kd.int .i64) 3 wc w.heap.size (fun k_ => some k_ ≠ (v385 : Value).ownBlock ∧ some k_ ≠ (v413 : Value).ownBlock) (.slice Ao54 t391.length co54) t391) ∧ Aside0 (Kd.R (Kd.int .i64) 3 wc w.heap.size (fun k_ => some k_ ≠ (v385 : Value).ownBlock ∧ some k_ ≠ ((.slice Ao54 t391.length co54) : Value).ownBlock) v413 t412) ∧ Aside0 (wc.heap[gb371]? = some (.cells #[.int .u8 a0_0, .int .u8 a0_1, .int .u8 a0_2, .int .u8 a0_3, .int .u8 a0_4, (.slice A0_5 l0_5.length c0_5)] 66 (0, 0))) ∧ Aside0 (wc.heap[gb380]? = some (.cells #[.int .i64 t372, .int .i64 t373, .int .i64 t374, .int .i64 t375, .int .i64 t376] 23 (0, 0))) ∧ Aside0 (Below w.heap.size w wc))
          case first =>
           have H := HC46.out
           clear HC46
           by_cases c55 : t416 = true
           ·subst c55
            have H1 : (lC.j3 kj33 t377 t384 t387 t391 x9_2 t412 t415 1 t372 t373 t374 t375 t376) = some r := by rw [if_pos rfl] at H; exact H
            clear H
            have H := H1
            clear H1
            have H' := Aside0.mk H
            clear H
            go_wp2
            go_meet
            case rel => exact ⟨_, (1), (by first | rfl | (simp; done) | (simp [*]; done)), H', ⟨by have := HJ6.out; have := HK2.out; have := HJ33.out; first | omega | exact Nat.le_refl _⟩, ⟨by (with_reducible repeat (first | apply Kd.R_alloc | apply Kd.R_drewN | apply Kd.R_drew)); exact Kd.R_mono HO_4.out (fun _ hk => trivial)⟩, ⟨by (with_reducible repeat (first | apply Kd.R_alloc | apply Kd.R_drewN | apply Kd.R_drew)); exact HO_5.out⟩, ⟨by (with_reducible repeat (first | apply Kd.R_alloc | apply Kd.R_drewN | apply Kd.R_drew)); exact HO_7.out⟩, ⟨by (with_reducible repeat (first | apply Kd.R_alloc | apply Kd.R_drewN | apply Kd.R_drew)); exact Kd.R_mono HO414.out (fun _ hk => ⟨hk.1.2, hk.2⟩)⟩, ⟨by (with_reducible repeat (first | refine blk_drewN ?_ _ | refine blk_drew ?_ | refine blk_alloc ?_ _)); exact BK371.out⟩, ⟨by (with_reducible repeat (first | refine blk_drewN ?_ _ | refine blk_drew ?_ | refine blk_alloc ?_ _)); exact BK380.out⟩, ⟨by repeat (first | (with_reducible first | exact HB.out | apply below_alloc | apply pw_below_drewN | apply below_drew1 | refine below_set ?_ GE371.out | refine below_set ?_ GE380.out) | exact HB.out)⟩⟩
           replace c55 := Bool.eq_false_iff.mpr c55
           subst c55
           have H1 : (lC.j3 kj33 t377 t384 t387 t391 x9_2 t412 t415 0 t372 t373 t374 t375 t376) = some r := by rw [if_neg (show ¬ (false = true) by decide)] at H; exact H
           clear H
           have H := H1
           clear H1
           have H' := Aside0.mk H
           clear H
           go_wp2
           go_meet
           case rel => exact ⟨_, (0), (by first | rfl | (simp; done) | (simp [*]; done)), H', ⟨by have := HJ6.out; have := HK2.out; have := HJ33.out; first | omega | exact Nat.le_refl _⟩, ⟨by (with_reducible repeat (first | apply Kd.R_alloc | apply Kd.R_drewN | apply Kd.R_drew)); exact Kd.R_mono HO_4.out (fun _ hk => trivial)⟩, ⟨by (with_reducible repeat (first | apply Kd.R_alloc | apply Kd.R_drewN | apply Kd.R_drew)); exact HO_5.out⟩, ⟨by (with_reducible repeat (first | apply Kd.R_alloc | apply Kd.R_drewN | apply Kd.R_drew)); exact HO_7.out⟩, ⟨by (with_reducible repeat (first | apply Kd.R_alloc | apply Kd.R_drewN | apply Kd.R_drew)); exact Kd.R_mono HO414.out (fun _ hk => ⟨hk.1.2, hk.2⟩)⟩, ⟨by (with_reducible repeat (first | refine blk_drewN ?_ _ | refine blk_drew ?_ | refine blk_alloc ?_ _)); exact BK371.out⟩, ⟨by (with_reducible repeat (first | refine blk_drewN ?_ _ | refine blk_drew ?_ | refine blk_alloc ?_ _)); exact BK380.out⟩, ⟨by repeat (first | (with_reducible first | exact HB.out | apply below_alloc | apply pw_below_drewN | apply below_drew1 | refine below_set ?_ GE371.out | refine below_set ?_ GE380.out) | exact HB.out)⟩⟩
          case rest => as_aux_lemma =>
           clear HC46
           try clear c1
           try clear c2
           try clear p2
           try clear c3
           try clear c4
           try clear q4
           try clear c5
           try clear p6
           try clear c11
           try clear c12
           try clear c24
           try clear c24b0
           try clear c24b1
           try clear c25
           try clear c25b0
           try clear c25b1
           try clear c28
           try clear c28b0
           try clear c28b1
           try clear c29
           try clear c29b0
           try clear c29b1
           try clear c29b2
           try clear c31
           try clear c32
           try clear c33
           try clear c35
           try clear c35b0
           try clear c36
           try clear c37
           try clear c37b0
           try clear c37b1
           try clear c38
           try clear c38b0
           try clear c38b1
           try clear c41
           try clear c41b0
           try clear c41b1
           try clear c42
           try clear c42b0
           try clear c42b1
           try clear c43
           try clear c48
           try clear q48
           try clear c49
           try clear q49
           try clear c55
           try clear hcz13_0
           try clear hcz13_1
           try clear hcz13_2
           try clear hcz13_3
           try clear hcz13_4
           try clear hcz9_0
           try clear hcz9_1
           try clear hcz9_2
           try clear hcz9_3
           try clear hcz9_4
           try clear hcz9_5
           try clear hfz13_0
           try clear hfz13_1
           try clear hfz13_2
           try clear hfz13_3
           try clear hfz13_4
           try clear hfz9_0
           try clear hfz9_1
           try clear hfz9_2
           try clear hfz9_3
           try clear hfz9_4
           try clear hfz9_5
           try clear p2
           try clear q049
           try clear q48
           try clear q49
           obtain ⟨kq, x12_45, rfl, HA, HJ45, HO_4, HO_5, HO_7, HO_10, BK371, BK380, HB⟩ := hcut
           rcases kq with _ | kj45
           ·exact absurd HA.out (by simp [lC.j3])
           have H := HA.out
           clear HA
           simp only [lC.j3] at H
           by_cases c56 : t415 = 0
           ·rw [if_pos c56] at H
            have c56b0 : (t415 == 0) = true := beq_iff_eq.mpr c56
            have c56b1 : (t415 != 0) = false := bne_eq_false_iff_eq.mpr c56
            clear c56
            replace H := Option.bind_eq_some_iff.mp H
            obtain ⟨t417, A570, H⟩ := H
            replace H : ((smaltolaw03_count.f kj45 t384).bind fun t418 => (if t417 = (wrap64 (t418 - x12_45)) then (lC.l0 kj45 t377 t384 t387 t391 (wrap64 (x9_2 + 1)) t372 t373 t374 t375 t376) else (some false))) = some r := H
            have A57 := Aside0.mk A570
            clear A570
            replace H := Option.bind_eq_some_iff.mp H
            obtain ⟨t418, A580, H⟩ := H
            replace H : (if t417 = (wrap64 (t418 - x12_45)) then (lC.l0 kj45 t377 t384 t387 t391 (wrap64 (x9_2 + 1)) t372 t373 t374 t375 t376) else (some false)) = some r := H
            have A58 := Aside0.mk A580
            clear A580
            by_cases c59 : t417 = (wrap64 (t418 - x12_45))
            ·rw [if_pos c59] at H
             have c59b0 : (t417 == (wrap64 (t418 - x12_45))) = true := beq_iff_eq.mpr c59
             have c59b1 : (t417 != (wrap64 (t418 - x12_45))) = false := bne_eq_false_iff_eq.mpr c59
             clear c59
             have H' := Aside0.mk H
             clear H
             obtain ⟨Ao60, co60, eo60⟩ := Kd.R_slice HO_10.out
             subst eo60
             go_wp2_with (first | (go_at_call 49; (with_reducible refine (smaltolaw03_count.calls kj45 _ _ t412 t417 _ ?side1 ?side2 A57.out).mono ?_); (case side1 => repeat (first | exact (Kd.R_reads' HO_10.out).2.2 | (with_reducible refine Kd.C_alloc ?_ _) | (with_reducible refine Kd.C_drewN ?_ _) | (with_reducible refine Kd.C_drew ?_))); (case side2 => exact (Kd.R_reads' HO_10.out).2.1); rintro e w61 ⟨rfl, hb⟩; have n0_ := Aside0.mk (Kd.R_below (by (with_reducible repeat (first | apply Kd.R_alloc | apply Kd.R_drewN | apply Kd.R_drew)); exact HO_4.out) hb); have n1_ := Aside0.mk (Kd.R_below (by (with_reducible repeat (first | apply Kd.R_alloc | apply Kd.R_drewN | apply Kd.R_drew)); exact HO_5.out) hb); have n2_ := Aside0.mk (Kd.R_below (by (with_reducible repeat (first | apply Kd.R_alloc | apply Kd.R_drewN | apply Kd.R_drew)); exact HO_7.out) hb); have n3_ := Aside0.mk (Kd.R_below (by (with_reducible repeat (first | apply Kd.R_alloc | apply Kd.R_drewN | apply Kd.R_drew)); exact HO_10.out) hb); have n4_ := Aside0.mk (blk_below (g := gb371) (o := .cells #[.int .u8 a0_0, .int .u8 a0_1, .int .u8 a0_2, .int .u8 a0_3, .int .u8 a0_4, .slice A0_5 l0_5.length c0_5] 66 (0, 0)) (by (with_reducible repeat (first | refine blk_drewN ?_ _ | refine blk_drew ?_ | refine blk_alloc ?_ _)); exact BK371.out) hb); have n5_ := Aside0.mk (blk_below (g := gb380) (o := .cells #[.int .i64 t372, .int .i64 t373, .int .i64 t374, .int .i64 t375, .int .i64 t376] 23 (0, 0)) (by (with_reducible repeat (first | refine blk_drewN ?_ _ | refine blk_drew ?_ | refine blk_alloc ?_ _)); exact BK380.out) hb); have n6_ := Aside0.mk (below_step (by repeat (first | (with_reducible first | exact HB.out | apply below_alloc | apply pw_below_drewN | apply below_drew1 | refine below_set ?_ GE371.out | refine below_set ?_ GE380.out) | exact HB.out)) hb); clear HO_4; clear HO_5; clear HO_7; clear HO_10; clear BK371; clear BK380; clear HB; have HO_4 := n0_; have HO_5 := n1_; have HO_7 := n2_; have HO_10 := n3_; have BK371 := n4_; have BK380 := n5_; have HB := n6_; clear n0_ n1_ n2_ n3_ n4_ n5_ n6_; (try clear hb); (try clear hb2); (try clear hk); (try clear hi); obtain ⟨Ao62, co62, eo62⟩ := Kd.R_slice HO_5.out; subst eo62) | (go_at_call 49; (with_reducible refine (smaltolaw03_count.calls kj45 _ _ t384 t418 _ ?side1 ?side2 A58.out).mono ?_); (case side1 => repeat (first | exact (Kd.R_reads' HO_5.out).2.2 | (with_reducible refine Kd.C_alloc ?_ _) | (with_reducible refine Kd.C_drewN ?_ _) | (with_reducible refine Kd.C_drew ?_))); (case side2 => exact (Kd.R_reads' HO_5.out).2.1); rintro e w63 ⟨rfl, hb⟩; have n0_ := Aside0.mk (Kd.R_below (by (with_reducible repeat (first | apply Kd.R_alloc | apply Kd.R_drewN | apply Kd.R_drew)); exact HO_4.out) hb); have n1_ := Aside0.mk (Kd.R_below (by (with_reducible repeat (first | apply Kd.R_alloc | apply Kd.R_drewN | apply Kd.R_drew)); exact HO_5.out) hb); have n2_ := Aside0.mk (Kd.R_below (by (with_reducible repeat (first | apply Kd.R_alloc | apply Kd.R_drewN | apply Kd.R_drew)); exact HO_7.out) hb); have n3_ := Aside0.mk (Kd.R_below (by (with_reducible repeat (first | apply Kd.R_alloc | apply Kd.R_drewN | apply Kd.R_drew)); exact HO_10.out) hb); have n4_ := Aside0.mk (blk_below (g := gb371) (o := .cells #[.int .u8 a0_0, .int .u8 a0_1, .int .u8 a0_2, .int .u8 a0_3, .int .u8 a0_4, .slice A0_5 l0_5.length c0_5] 66 (0, 0)) (by (with_reducible repeat (first | refine blk_drewN ?_ _ | refine blk_drew ?_ | refine blk_alloc ?_ _)); exact BK371.out) hb); have n5_ := Aside0.mk (blk_below (g := gb380) (o := .cells #[.int .i64 t372, .int .i64 t373, .int .i64 t374, .int .i64 t375, .int .i64 t376] 23 (0, 0)) (by (with_reducible repeat (first | refine blk_drewN ?_ _ | refine blk_drew ?_ | refine blk_alloc ?_ _)); exact BK380.out) hb); have n6_ := Aside0.mk (below_step (by repeat (first | (with_reducible first | exact HB.out | apply below_alloc | apply pw_below_drewN | apply below_drew1 | refine below_set ?_ GE371.out | refine below_set ?_ GE380.out) | exact HB.out)) hb); clear HO_4; clear HO_5; clear HO_7; clear HO_10; clear BK371; clear BK380; clear HB; have HO_4 := n0_; have HO_5 := n1_; have HO_7 := n2_; have HO_10 := n3_; have BK371 := n4_; have BK380 := n5_; have HB := n6_; clear n0_ n1_ n2_ n3_ n4_ n5_ n6_; (try clear hb); (try clear hb2); (try clear hk); (try clear hi)))
             go_roundg kj45
             case measure => have := HJ6.out; have := HK2.out; have := HJ33.out; have := HJ45.out; omega
             case rel => exact ⟨(wrap64 (x9_2 + 1)), (by first | rfl | (simp; done) | (simp [*]; done)), H', ⟨by have := HJ6.out; have := HK2.out; have := HJ33.out; have := HJ45.out; omega⟩, ⟨by (with_reducible repeat (first | apply Kd.R_alloc | apply Kd.R_drewN | apply Kd.R_drew)); exact HO_4.out⟩, ⟨by (with_reducible repeat (first | apply Kd.R_alloc | apply Kd.R_drewN | apply Kd.R_drew)); exact Kd.R_mono HO_5.out (fun _ hk => hk.1)⟩, ⟨by (with_reducible repeat (first | apply Kd.R_alloc | apply Kd.R_drewN | apply Kd.R_drew)); exact Kd.R_mono HO_7.out (fun _ hk => hk.1)⟩, ⟨by (with_reducible repeat (first | refine blk_drewN ?_ _ | refine blk_drew ?_ | refine blk_alloc ?_ _)); exact BK371.out⟩, ⟨by (with_reducible repeat (first | refine blk_drewN ?_ _ | refine blk_drew ?_ | refine blk_alloc ?_ _)); exact BK380.out⟩, ⟨by repeat (first | (with_reducible first | exact HB.out | apply below_alloc | apply pw_below_drewN | apply below_drew1 | refine below_set ?_ GE371.out | refine below_set ?_ GE380.out) | exact HB.out)⟩⟩
            rw [if_neg c59] at H
            have c59b0 : (t417 == (wrap64 (t418 - x12_45))) = false := beq_eq_false_iff_ne.mpr c59
            have c59b1 : (t417 != (wrap64 (t418 - x12_45))) = true := bne_iff_ne.mpr c59
            obtain rfl := Option.some.inj H
            obtain ⟨Ao64, co64, eo64⟩ := Kd.R_slice HO_10.out
            subst eo64
            go_wp2_with (first | (go_at_call 49; (with_reducible refine (smaltolaw03_count.calls kj45 _ _ t412 t417 _ ?side1 ?side2 A57.out).mono ?_); (case side1 => repeat (first | exact (Kd.R_reads' HO_10.out).2.2 | (with_reducible refine Kd.C_alloc ?_ _) | (with_reducible refine Kd.C_drewN ?_ _) | (with_reducible refine Kd.C_drew ?_))); (case side2 => exact (Kd.R_reads' HO_10.out).2.1); rintro e w65 ⟨rfl, hb⟩; have n0_ := Aside0.mk (Kd.R_below (by (with_reducible repeat (first | apply Kd.R_alloc | apply Kd.R_drewN | apply Kd.R_drew)); exact HO_4.out) hb); have n1_ := Aside0.mk (Kd.R_below (by (with_reducible repeat (first | apply Kd.R_alloc | apply Kd.R_drewN | apply Kd.R_drew)); exact HO_5.out) hb); have n2_ := Aside0.mk (Kd.R_below (by (with_reducible repeat (first | apply Kd.R_alloc | apply Kd.R_drewN | apply Kd.R_drew)); exact HO_7.out) hb); have n3_ := Aside0.mk (Kd.R_below (by (with_reducible repeat (first | apply Kd.R_alloc | apply Kd.R_drewN | apply Kd.R_drew)); exact HO_10.out) hb); have n4_ := Aside0.mk (blk_below (g := gb371) (o := .cells #[.int .u8 a0_0, .int .u8 a0_1, .int .u8 a0_2, .int .u8 a0_3, .int .u8 a0_4, .slice A0_5 l0_5.length c0_5] 66 (0, 0)) (by (with_reducible repeat (first | refine blk_drewN ?_ _ | refine blk_drew ?_ | refine blk_alloc ?_ _)); exact BK371.out) hb); have n5_ := Aside0.mk (blk_below (g := gb380) (o := .cells #[.int .i64 t372, .int .i64 t373, .int .i64 t374, .int .i64 t375, .int .i64 t376] 23 (0, 0)) (by (with_reducible repeat (first | refine blk_drewN ?_ _ | refine blk_drew ?_ | refine blk_alloc ?_ _)); exact BK380.out) hb); have n6_ := Aside0.mk (below_step (by repeat (first | (with_reducible first | exact HB.out | apply below_alloc | apply pw_below_drewN | apply below_drew1 | refine below_set ?_ GE371.out | refine below_set ?_ GE380.out) | exact HB.out)) hb); clear HO_4; clear HO_5; clear HO_7; clear HO_10; clear BK371; clear BK380; clear HB; have HO_4 := n0_; have HO_5 := n1_; have HO_7 := n2_; have HO_10 := n3_; have BK371 := n4_; have BK380 := n5_; have HB := n6_; clear n0_ n1_ n2_ n3_ n4_ n5_ n6_; (try clear hb); (try clear hb2); (try clear hk); (try clear hi); obtain ⟨Ao66, co66, eo66⟩ := Kd.R_slice HO_5.out; subst eo66) | (go_at_call 49; (with_reducible refine (smaltolaw03_count.calls kj45 _ _ t384 t418 _ ?side1 ?side2 A58.out).mono ?_); (case side1 => repeat (first | exact (Kd.R_reads' HO_5.out).2.2 | (with_reducible refine Kd.C_alloc ?_ _) | (with_reducible refine Kd.C_drewN ?_ _) | (with_reducible refine Kd.C_drew ?_))); (case side2 => exact (Kd.R_reads' HO_5.out).2.1); rintro e w67 ⟨rfl, hb⟩; have n0_ := Aside0.mk (Kd.R_below (by (with_reducible repeat (first | apply Kd.R_alloc | apply Kd.R_drewN | apply Kd.R_drew)); exact HO_4.out) hb); have n1_ := Aside0.mk (Kd.R_below (by (with_reducible repeat (first | apply Kd.R_alloc | apply Kd.R_drewN | apply Kd.R_drew)); exact HO_5.out) hb); have n2_ := Aside0.mk (Kd.R_below (by (with_reducible repeat (first | apply Kd.R_alloc | apply Kd.R_drewN | apply Kd.R_drew)); exact HO_7.out) hb); have n3_ := Aside0.mk (Kd.R_below (by (with_reducible repeat (first | apply Kd.R_alloc | apply Kd.R_drewN | apply Kd.R_drew)); exact HO_10.out) hb); have n4_ := Aside0.mk (blk_below (g := gb371) (o := .cells #[.int .u8 a0_0, .int .u8 a0_1, .int .u8 a0_2, .int .u8 a0_3, .int .u8 a0_4, .slice A0_5 l0_5.length c0_5] 66 (0, 0)) (by (with_reducible repeat (first | refine blk_drewN ?_ _ | refine blk_drew ?_ | refine blk_alloc ?_ _)); exact BK371.out) hb); have n5_ := Aside0.mk (blk_below (g := gb380) (o := .cells #[.int .i64 t372, .int .i64 t373, .int .i64 t374, .int .i64 t375, .int .i64 t376] 23 (0, 0)) (by (with_reducible repeat (first | refine blk_drewN ?_ _ | refine blk_drew ?_ | refine blk_alloc ?_ _)); exact BK380.out) hb); have n6_ := Aside0.mk (below_step (by repeat (first | (with_reducible first | exact HB.out | apply below_alloc | apply pw_below_drewN | apply below_drew1 | refine below_set ?_ GE371.out | refine below_set ?_ GE380.out) | exact HB.out)) hb); clear HO_4; clear HO_5; clear HO_7; clear HO_10; clear BK371; clear BK380; clear HB; have HO_4 := n0_; have HO_5 := n1_; have HO_7 := n2_; have HO_10 := n3_; have BK371 := n4_; have BK380 := n5_; have HB := n6_; clear n0_ n1_ n2_ n3_ n4_ n5_ n6_; (try clear hb); (try clear hb2); (try clear hk); (try clear hi)))
            go_ret
            exact ⟨by first | rfl | (simp [errW_none, errW_some] <;> rfl) | (simp only [← hji40]; first | rfl | (simp [errW_none, errW_some] <;> rfl)) | (simp [*, errW_none, errW_some] <;> rfl), by repeat (first | (with_reducible first | exact HB.out | apply below_alloc | apply pw_below_drewN | apply below_drew1 | refine below_set ?_ GE371.out | refine below_set ?_ GE380.out) | exact HB.out)⟩
           rw [if_neg c56] at H
           have c56b0 : (t415 == 0) = false := beq_eq_false_iff_ne.mpr c56
           have c56b1 : (t415 != 0) = true := bne_iff_ne.mpr c56
           obtain rfl := Option.some.inj H
           go_wp2
           go_ret
           exact ⟨by first | rfl | (simp [errW_none, errW_some] <;> rfl) | (simp only [← hji40]; first | rfl | (simp [errW_none, errW_some] <;> rfl)) | (simp [*, errW_none, errW_some] <;> rfl), by repeat (first | (with_reducible first | exact HB.out | apply below_alloc | apply pw_below_drewN | apply below_drew1 | refine below_set ?_ GE371.out | refine below_set ?_ GE380.out) | exact HB.out)⟩
         rw [if_neg c43] at H
         exact absurd H (by simp)
        rw [if_neg c42] at H
        exact absurd H (by simp)
       rw [if_neg c41] at H
       exact absurd H (by simp)
      rw [if_neg c38] at H
      exact absurd H (by simp)
     rw [if_neg c37] at H
     exact absurd H (by simp)
    replace c36 := Bool.eq_false_iff.mpr c36
    subst c36
    have H1 : ((knownC.f).bind fun _ => (some true)) = some r := by rw [if_neg (show ¬ (false = true) by decide)] at H; exact H
    clear H
    have H := H1
    clear H1
    replace H := Option.bind_eq_some_iff.mp H
    obtain ⟨_, A680, H⟩ := H
    replace H : (some true) = some r := H
    have A68 := Aside0.mk A680
    clear A680
    obtain rfl := Option.some.inj H
    go_wp2_with (first | ((with_reducible refine gate_callee (f := 13) rfl ?_); refine goesL_ (some 93) rfl rfl Tryd.func13 (by kernel_rfl) rfl #[] rfl (by (try simp only [List.map_toArray, List.map_cons, List.map_nil]); first | done | rfl | (simp only [List.length_drop, List.length_take]; rfl)) ?_; (with_reducible refine (knownC.calls   _ ?side1 A68.out).mono ?_); (case side1 => exact Hand.TabW.below HTAB.out (by repeat (first | (with_reducible first | exact HB.out | apply below_alloc | apply pw_below_drewN | apply below_drew1 | refine below_set ?_ GE371.out | refine below_set ?_ GE380.out) | exact HB.out))); rintro e w69 ⟨rfl, hb⟩; refine ⟨_, rfl, ?_⟩; have n0_ := Aside0.mk (Kd.R_below (by (with_reducible repeat (first | apply Kd.R_alloc | apply Kd.R_drewN | apply Kd.R_drew)); exact HO_4.out) hb); have n1_ := Aside0.mk (Kd.R_below (by (with_reducible repeat (first | apply Kd.R_alloc | apply Kd.R_drewN | apply Kd.R_drew)); exact HO_5.out) hb); have n2_ := Aside0.mk (Kd.R_below (by (with_reducible repeat (first | apply Kd.R_alloc | apply Kd.R_drewN | apply Kd.R_drew)); exact HO_7.out) hb); have n3_ := Aside0.mk (blk_below (g := gb371) (o := .cells #[.int .u8 a0_0, .int .u8 a0_1, .int .u8 a0_2, .int .u8 a0_3, .int .u8 a0_4, .slice A0_5 l0_5.length c0_5] 66 (0, 0)) (by (with_reducible repeat (first | refine blk_drewN ?_ _ | refine blk_drew ?_ | refine blk_alloc ?_ _)); exact BK371.out) hb); have n4_ := Aside0.mk (blk_below (g := gb380) (o := .cells #[.int .i64 t372, .int .i64 t373, .int .i64 t374, .int .i64 t375, .int .i64 t376] 23 (0, 0)) (by (with_reducible repeat (first | refine blk_drewN ?_ _ | refine blk_drew ?_ | refine blk_alloc ?_ _)); exact BK380.out) hb); have n5_ := Aside0.mk (below_step (by repeat (first | (with_reducible first | exact HB.out | apply below_alloc | apply pw_below_drewN | apply below_drew1 | refine below_set ?_ GE371.out | refine below_set ?_ GE380.out) | exact HB.out)) hb); clear HO_4; clear HO_5; clear HO_7; clear BK371; clear BK380; clear HB; have HO_4 := n0_; have HO_5 := n1_; have HO_7 := n2_; have BK371 := n3_; have BK380 := n4_; have HB := n5_; clear n0_ n1_ n2_ n3_ n4_ n5_; (try clear hb); (try clear hb2); (try clear hk); (try clear hi)))
    go_ret
    exact ⟨by first | rfl | (simp [errW_none, errW_some] <;> rfl) | (simp [*, errW_none, errW_some] <;> rfl), by repeat (first | (with_reducible first | exact HB.out | apply below_alloc | apply pw_below_drewN | apply below_drew1 | refine below_set ?_ GE371.out | refine below_set ?_ GE380.out) | exact HB.out)⟩
end Go.Proofs.YtbijamlgcebgeaaDoor.Q
-- part PC
namespace Go.Proofs.YtbijamlgcebgeaaDoor.Hand
open Go.RowKit Go.Shelf Go.Sort Go.Proofs.YtbijamlgcebgeaaDoorW.PrintWords Go.Proofs.YtbijamlgcebgeaaDoorW.PrintMore Go.Proofs.YtbijamlgcebgeaaDoor.Q
/-- What Dear answers. -/
def dearI (F : Furn) : List Int := (dearL F.bars F.length F.gap F.load F.near F.l (fewestB F).2.1 F.l.length).map Int.ofNat
theorem dear_f {F : Furn} (hF : F.Ok) : fork_Dear.f F.bars F.length F.gap F.load F.near F.l = some (if (fewestB F).2.2 = true then (dearI F, 0) else ([], 7)) := by
  obtain ⟨s, hs⟩ := new_nil hF
  unfold fork_Dear.f dearR
  rw [hs]
  rfl
theorem dearI_mem (F : Furn) (i : Nat) : ((i : Nat) : Int) ∈ dearI F ↔ i < F.l.length ∧ (fewestB (lessF F i)).2.1 < (fewestB F).2.1 := by
  unfold dearI dearL
  rw [List.mem_map]
  constructor
  · rintro ⟨j, hj, e⟩
    obtain rfl : j = i := Int.ofNat.inj e
    rw [List.mem_filter, List.mem_range, decide_eq_true_eq] at hj
    exact hj
  · rintro ⟨h1, h2⟩
    exact ⟨i, by rw [List.mem_filter, List.mem_range, decide_eq_true_eq]; exact ⟨h1, h2⟩, rfl⟩
theorem dearI_up (F : Furn) : (dearI F).Pairwise (· < ·) ∧ (∀ y ∈ dearI F, 0 ≤ y ∧ y < F.l.length) ∧ (dearI F).length ≤ F.l.length := by
  refine ⟨?_, ?_, ?_⟩
  · unfold dearI
    rw [List.pairwise_map]
    exact (List.pairwise_lt_range.filter _).imp (fun h => Int.ofNat_lt.2 h)
  · intro y hy
    unfold dearI dearL at hy
    obtain ⟨j, hj, rfl⟩ := List.mem_map.1 hy
    have := List.mem_range.1 (List.mem_filter.1 hj).1
    simp only [Int.ofNat_eq_natCast]
    omega
  · exact dear_len _ _ _ _ _ _ _
theorem cost_l0 {F : Furn} (hF : F.Ok) (h : (fewestB F).2.2 = true) : ∀ d (i k : Nat), i + d = F.l.length → 3 * d + 20 ≤ k →
    lC.l0 k F.l (fewestB F).1 0 (dearI F) i F.bars F.length F.gap F.load F.near = some true := by
  have hl := hF.len
  intro d
  induction d with
  | zero =>
    intro i k hi hk
    obtain ⟨k, rfl⟩ : ∃ q, k = q + 1 + 1 := ⟨k - 2, by omega⟩
    rw [lC.l0, if_neg (by omega), lC.j2, if_neg (by decide)]
    rfl
  | succ d ih =>
    intro i k hi hk
    obtain ⟨k, rfl⟩ : ∃ q, k = q + 1 + 1 + 1 := ⟨k - 3, by omega⟩
    have hil : i < F.l.length := by omega
    have hih := ih (i + 1) k (by omega) (by omega)
    rw [show ((i + 1 : Nat) : Int) = (i : Int) + 1 by omega] at hih
    obtain ⟨h1, h2, h3⟩ := few_less hF h hil
    obtain ⟨g1, _, _, _⟩ := fewest_some hF h
    obtain ⟨g2, _, _, _⟩ := fewest_some (less_ok hF i) h1
    have hc1 := few_count hF h
    have hc2 := few_count (less_ok hF i) h1
    have hb : ∀ {G : Furn} {m : Nat} {x : List Int}, G.l.length ≤ 6 → Good G m x → m ≤ 6 → x.length ≤ 1000 ∧ (∀ y ∈ x, 0 ≤ y ∧ y ≤ 1000) := fun h0 h h6 => ⟨by rw [h.len]; omega, fun y hy => by have := h.rng y hy; omega⟩
    have hm1 : (fewestB F).2.1 ≤ F.l.length := (fewest_some hF h).2.1
    have hll : (lessF F i).l.length = F.l.length - 1 := List.length_eraseIdx_of_lt hil
    obtain ⟨b1, b2⟩ := hb hl g1 (by omega)
    obtain ⟨b3, b4⟩ := hb (by omega) g2 (by omega)
    have hx1 := g1.len
    have hx2 := g2.len
    have hd := dearI_up F
    have hld := loads_f (less_ok hF i)
    rw [if_pos h1] at hld
    have hld' : fork_Loads.f F.bars F.length F.gap F.load F.near (F.l.take i ++ F.l.drop (i + 1)) = some ((fewestB (lessF F i)).1, 0) := by
      rw [← List.eraseIdx_eq_take_drop_succ]
      exact hld
    rw [lC.l0, if_pos (by omega), lC.j2, if_pos (by decide), if_pos (by omega), if_pos (by omega), Int.toNat_natCast, own_f (by rw [List.length_take]; omega)]
    simp only [bs]
    rw [w64 (x := (i : Int) + 1) (by omega), if_pos (by omega), if_pos (by omega), show ((i : Int) + 1).toNat = i + 1 by omega, if_pos (by rw [List.length_take, List.length_drop]; omega), hld', has_f (by omega) _ _ (by omega)]
    simp only [bs]
    have hdm := dearI_mem F i
    have j3 : ∀ q : Int, (((fewestB (lessF F i)).2.1 : Nat) : Int) = (((fewestB F).2.1 : Nat) : Int) - q → lC.j3 (k + 1) F.l (fewestB F).1 0 (dearI F) i (fewestB (lessF F i)).1 0 q F.bars F.length F.gap F.load F.near = some true := by
      intro q hq
      rw [lC.j3, if_pos rfl, count_f b3 b4 _ (by omega), count_f b1 b2 _ (by omega)]
      simp only [bs]
      rw [hc1, hc2, ← hq, w64 (by omega), if_pos rfl, w64 (by omega)]
      exact hih
    by_cases hdi : (fewestB (lessF F i)).2.1 < (fewestB F).2.1
    · rw [if_pos (by rw [decide_eq_true_eq]; exact hdm.2 ⟨hil, hdi⟩)]
      exact j3 1 (by omega)
    · rw [if_neg (by rw [decide_eq_true_eq]; exact fun hx => hdi (hdm.1 hx).2)]
      exact j3 0 (by omega)
/-- The plain law of ForkCost. -/
theorem cost_pure {a0 a1 a2 a3 a4 : Int} {l : List S63} (h0 : okB5 ⟨a0, a1, a2, a3, a4⟩ = true) (h1 : ∀ x ∈ l, okB5 x = true) : lC.f 100 a0 a1 a2 a3 a4 l = some true := by
  obtain ⟨F, hF, hm, _⟩ := made_f h0 h1
  have hl := hF.len
  have hd := dearI_up F
  unfold lC.f
  rw [hm]
  simp only [bs]
  rw [own_f (by omega)]
  simp only [bs]
  rw [loads_f hF, dear_f hF]
  by_cases h : (fewestB F).2.2 = true
  · rw [if_pos h, if_pos h]
    simp only [bs]
    rw [if_pos trivial, if_pos trivial, up_f (by omega) _ hd.1 hd.2.1 _ (by omega)]
    simp only [bs]
    rw [lC.j0, if_neg (by decide)]
    exact cost_l0 hF h F.l.length 0 99 (by omega) (by omega)
  · rw [if_neg h, if_neg h]
    simp only [bs]
    rw [if_pos trivial, if_neg (by decide), if_pos trivial, if_pos (by simp), up_f (by simp) _ (by simp) (by simp) _ (by simp)]
    simp only [bs]
    rw [lC.j0, if_neg (by decide)]
    have l0 : lC.l0 99 F.l [] 7 [] 0 F.bars F.length F.gap F.load F.near = some true := by
      rw [lC.l0]
      split
      · rw [lC.j2, if_neg (by decide)]; rfl
      · rw [lC.j2, if_neg (by decide)]; rfl
    exact l0
theorem cost_calls {W : World} (y : S63) (A : Option Addr) (l : List S63) (c : Nat) (h0 : okB5 y = true) (h1 : ∀ x ∈ l, okB5 x = true) (hc : l.length ≤ c) (hr : Kd.C k63 W A l.length l) (hT : TabW W) :
    Calls Tryd.prog 11 #[.agg #[.int .u8 y.f0, .int .u8 y.f1, .int .u8 y.f2, .int .u8 y.f3, .int .u8 y.f4, .slice A l.length c]] W fun e W' => e = .returned (.bool true) ∧ Below W.heap.size W W' :=
  lC.calls 100 y.f0 y.f1 y.f2 y.f3 y.f4 A c l true W hT hr hc (cost_pure h0 h1)
end Go.Proofs.YtbijamlgcebgeaaDoor.Hand
-- part CA
namespace Go.Proofs.YtbijamlgcebgeaaDoor.forkCost
open Go.ChangeShapes Go.WideShapes Go.ChangeAt Go.RowKit Go.Proofs.YtbijamlgcebgeaaDoor.Hand
set_option maxRecDepth 100000 in
theorem contract (H : Type) (enc : TypeId × Value → H) (W : World) (base : Nat) (args : Array Value) (ds gs : List (DataW H)) (before : List MemPlace)
    (hval : ∀ (j : Nat) t v, Tryd.f11.params[j]? = some t → args[j]? = some v → Value.okWide Tryd.prog W .any base t v)
    (hW : DataW.Whole enc Tryd.prog Tryd.f11.params.toList Rows.forkCostSpec.vars false W args.toList ds gs before) (hL : laidMetH Tryd.prog Rows.forkCostRow.laid W) :
    Calls Tryd.prog 11 args W fun e W' => ∃ v, e = .returned v ∧ Rows.forkCostSpec.post enc Tryd.prog Tryd.f11 false true false false W args v W' := by
  have hT : TabW W := tabW_of hL
  have hW' := hW
  obtain ⟨p, q, hA0, hV, rfl, hfz, hnd⟩ := hW
  have hA : DataW.TrodAll enc Tryd.prog W 0 (fun _ => true) true Tryd.f11.params.toList args.toList ds p := hA0
  rw [Tryd.params11] at hA hval
  obtain ⟨v0, vs0, d0, ds0, p0, q0, hargs, rfl, rfl, k0, r0⟩ := trodAll_cons hA
  obtain ⟨rfl, rfl, rfl⟩ := trodAll_nil r0
  obtain rfl : args = #[v0] := by cases args; simp_all
  obtain ⟨rfl, rfl⟩ := trodVars_none hV
  have lt0 : ∀ x ∈ p0, x.block < W.heap.size := by obtain ⟨m, hm⟩ := k0; exact DataW.trod_lt m _ _ _ hm
  obtain ⟨y0, A0, l0, c0, rfl, ok0, all0, hc0, hr0⟩ := open66 (hval 0 66 v0 rfl rfl) k0
  clear hA0 hval
  refine (cost_calls y0 A0 l0 c0 ok0 all0 hc0 hr0 hT).mono fun e' W' ⟨he, bel⟩ => ?_
  subst he
  exact ⟨_, rfl, _, _, _, [], _, [], hW', trodAll_mk1 (shut_bool Tryd.underlying4 _), (trodAll_cons_mk (Below.trod laidOut (by kernel_rfl) (of_decide_eq_true (by kernel_rfl)) k0 bel lt0) trodAll_mk0), rfl, bel.frame _, fun h => by cases h⟩
/-- A world for the witness: the settled one, the tables (blocks 0 and 1) holding what their initialisers lay. -/
def lay32 : Obj → Obj
  | .cells _ t frozen => .cells (Lib.deBruijn32tab.map fun (n : Nat) => Value.int .u8 n).toArray t frozen
  | o => o
def lay64 : Obj → Obj
  | .cells _ t frozen => .cells (Lib.deBruijn64tab.map fun (n : Nat) => Value.int .u8 n).toArray t frozen
  | o => o
noncomputable def laidWorld (os : Os) : World := { World.holding Tryd.prog os ⟨#[], #[], []⟩ with heap := ((World.holding Tryd.prog os ⟨#[], #[], []⟩).heap.modify 0 lay32).modify 1 lay64 }
theorem laid_met (os : Os) : laidMet Tryd.prog Rows.forkCostRow.laid ((laidWorld os).forCall (fun _ _ => 0) ⟨#[], #[.agg #[.int .u8 0, .int .u8 0, .int .u8 0, .int .u8 0, .int .u8 0, .slice none 0 0]], []⟩).memory :=
  laidMet_of_run' 8 (by kernel_rfl) (by kernel_rfl)
theorem reads (os : Os) {H : Type} (enc : TypeId × Value → H) : ∃ places, DataW.whole enc Tryd.prog ((laidWorld os).forCall (fun _ _ => 0) ⟨#[], #[.agg #[.int .u8 0, .int .u8 0, .int .u8 0, .int .u8 0, .int .u8 0, .slice none 0 0]], []⟩).memory Tryd.f11.params.toList Rows.forkCostSpec.vars false (#[.agg #[.int .u8 0, .int .u8 0, .int .u8 0, .int .u8 0, .int .u8 0, .slice none 0 0]] : Array Value).toList 8 = some ([.agg [.agg [.lit (.int .u8 0), .lit (.int .u8 0), .lit (.int .u8 0), .lit (.int .u8 0), .lit (.int .u8 0)], .nil]], [], places) :=
  ⟨[], by kernel_rfl⟩
set_option maxRecDepth 100000 in
theorem lifted (os : Os) (started : os.Started) (H : Type) (enc : TypeId × Value → H) (F : Stop.Interp) :
    ReturnsInHanded {} Tryd.checked os 11 .any ((OpenSpec.ofChange Rows.forkCostSpec).preRow enc Tryd.prog Tryd.f11 Rows.forkCostRow.domain false Rows.forkCostRow.laid) (((OpenSpec.ofChange Rows.forkCostSpec).at F).post enc Tryd.prog Tryd.f11 false true false false) := by
  obtain ⟨places, hx⟩ := reads os enc
  refine returnsInHanded_of_row (C := Tryd.checked) (s := OpenSpec.ofChange Rows.forkCostSpec) own started (by kernel_rfl) Tryd.func11
    (witness_row_at (enc := enc) (C := Tryd.checked) false (laidWorld os) #[.agg #[.int .u8 0, .int .u8 0, .int .u8 0, .int .u8 0, .int .u8 0, .slice none 0 0]] rfl (by kernel_rfl) (by kernel_rfl) (by kernel_rfl)
      (OpenSpec.preRow_of_cond 8 hx (by kernel_rfl) (fun k hk => by cases hk) (by kernel_rfl) (laid_met os))) ?_
  intro W base args ds gs before hval hW _ _ _ hL _ _
  exact contract H enc W base args ds gs before hval hW hL
theorem said : Rows.ForkCostSaid :=
  OpenClaim.holds_of_cond 11 Tryd.f11 rfl rfl rfl rfl rfl rfl rfl ⟨rfl, rfl, rfl, rfl, rfl⟩ rfl rfl rfl rfl rfl (by kernel_rfl) Tryd.func11 (by kernel_rfl)
    (of_decide_eq_true (by kernel_rfl)) (by unfold Func.isWrapper; first | (rw [if_pos (by decide +kernel)]; kernel_rfl) | (rw [if_neg (by decide +kernel)]; exact ⟨rfl, rfl⟩))
    (fun os started H enc _ F => by rw [OpenClaim.pre_eq_preRow]; exact lifted os started H enc F)
theorem plain (f : FuncId) (fn : Func) (hf : Tryd.pinned.checked.prog.funcNamed "smalto/smaltolaw03.ForkCost" = some f) (hfn : Tryd.pinned.checked.prog.funcs[f]? = some fn) :
    false = Tryd.pinned.checked.prog.looks [] ∧ ∀ (j : Nat) t, fn.params[j]? = some t → Tryd.pinned.checked.prog.wantsStandIn t = false := by
  obtain rfl : f = 11 := Option.some.inj ((show Tryd.prog.funcNamed "smalto/smaltolaw03.ForkCost" = some 11 by kernel_rfl).symm.trans hf) |>.symm
  obtain rfl : fn = Tryd.f11 := (Option.some.inj (Tryd.func11.symm.trans hfn)).symm
  refine ⟨by kernel_rfl, fun j t ht => ?_⟩
  rw [Tryd.params11] at ht
  have hm := Array.mem_of_getElem? ht
  simp only [List.mem_toArray, List.mem_cons, List.not_mem_nil, or_false] at hm
  rcases hm with rfl
  · exact (show Tryd.prog.wantsStandIn 66 = false by kernel_rfl)
/-- The card. -/
theorem card : Rows.ForkCostCardSaid :=
  Claim7.holds_tied_plain_at .later [] _ _ _ _ said (fun _ h => by cases h) (by kernel_rfl) (fun _ h => by cases h) forkCost_row_tie rfl ⟨rfl, rfl⟩ (by kernel_rfl) rfl plain (by kernel_rfl)
end Go.Proofs.YtbijamlgcebgeaaDoor.forkCost
namespace Go.Proofs.YtbijamlgcebgeaaDoor
theorem forkCost_card : Rows.ForkCostCardSaid := forkCost.card
end Go.Proofs.YtbijamlgcebgeaaDoor

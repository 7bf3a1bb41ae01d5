/- What the laws about the fork share: words about rows and regions, the walks of the package fork and of the references, and what they compute. Part 4 of 5. -/
import Derived.Test.YtbijamlgcebgeaaDoorC3
set_option linter.unusedVariables false
set_option linter.unusedSimpArgs false
-- part Q3
namespace Go.Proofs.YtbijamlgcebgeaaDoor.Q
open Go.RowKit Go.Proofs.YtbijamlgcebgeaaDoorW.PrintWords Go.Proofs.YtbijamlgcebgeaaDoorW.PrintLast Go.Proofs.YtbijamlgcebgeaaDoorW.PrintMore
attribute [local go_sem] max2_int min2_int max_two min_two max_three min_three max_four min_four   -- for this text's walks alone
mutual
def smaltoref03_Check.j0 : Nat → List (S74) → Bool → Option (Int)
  | 0, _, _ => none
  | k + 1, x1, x33 => if x33 = true then (some 4) else (if (x1.length : Int) > 6 then (some 5) else (smaltoref03_Check.l0 k x1 0))
def smaltoref03_Check.l0 : Nat → List (S74) → Int → Option (Int)
  | 0, _, _ => none
  | k + 1, x1, x5 => if x5 < (x1.length : Int) then (if 0 ≤ x5 then ((smaltoref03_In.f ((rd_T74 x1 x5).f0) 1 200).bind fun t201 => (if t201 = true then ((smaltoref03_In.f ((rd_T74 x1 x5).f1) 1 100).bind fun t203 => (if t203 = true then ((smaltoref03_Span.f ((rd_T74 x1 x5).f2.f0) ((rd_T74 x1 x5).f2.f1) 1 500).bind fun t205 => (if t205 = true then ((smaltoref03_Span.f ((rd_T74 x1 x5).f3.f0) ((rd_T74 x1 x5).f3.f1) 0 1000).bind fun t207 => (if t207 = true then (smaltoref03_Check.l0 k x1 (wrap64 (x5 + 1))) else (some 2))) else (some 2))) else (some 2))) else (some 2))) else (none)) else (some 0)
end
def smaltoref03_Check.f (k : Nat) (a0_0 : Int) (a0_1 : Int) (a0_2 : Int) (a0_3 : Int) (a0_4 : Int) (l1 : List (S74)) : Option (Int) := (smaltoref03_In.f a0_0 1 3).bind fun t195 => (if t195 = true then ((smaltoref03_In.f a0_1 1 200).bind fun t196 => (if t196 = true then ((smaltoref03_In.f a0_2 0 20).bind fun t197 => (if t197 = true then ((smaltoref03_In.f a0_3 1 2000).bind fun t198 => (if t198 = true then ((smaltoref03_In.f a0_4 0 100).bind fun t199 => (smaltoref03_Check.j0 k l1 (!t199))) else (smaltoref03_Check.j0 k l1 true))) else (smaltoref03_Check.j0 k l1 true))) else (smaltoref03_Check.j0 k l1 true))) else (smaltoref03_Check.j0 k l1 true))
theorem smaltoref03_Check.mono_l : ∀ k, (∀ y0 y1, LeO (smaltoref03_Check.j0 k y0 y1) (smaltoref03_Check.j0 (k + 1) y0 y1)) ∧ (∀ y0 y1, LeO (smaltoref03_Check.l0 k y0 y1) (smaltoref03_Check.l0 (k + 1) y0 y1))
  | 0 => ⟨fun _ _ r h => by simp [smaltoref03_Check.j0] at h, fun _ _ r h => by simp [smaltoref03_Check.l0] at h⟩
  | k + 1 => by
    obtain ⟨ih0, ih1⟩ := smaltoref03_Check.mono_l k
    refine ⟨?_, ?_⟩
    · intro y0 y1
      unfold smaltoref03_Check.j0
      repeat' first
      | (with_reducible exact ih0 _ _)
      | (with_reducible exact ih1 _ _)
      | (with_reducible exact LeO.refl _)
      | (with_reducible exact LeO.none _)
      | (with_reducible refine LeO.ite ?_ ?_)
      | (with_reducible refine LeO.bind ?_ (fun _ => ?_))
      | exact ih0 _ _
      | exact ih1 _ _
      | exact LeO.none _
      | refine LeO.ite ?_ ?_
      | refine LeO.bind ?_ (fun _ => ?_)
    · intro y0 y1
      unfold smaltoref03_Check.l0
      repeat' first
      | (with_reducible exact ih0 _ _)
      | (with_reducible exact ih1 _ _)
      | (with_reducible exact LeO.refl _)
      | (with_reducible exact LeO.none _)
      | (with_reducible refine LeO.ite ?_ ?_)
      | (with_reducible refine LeO.bind ?_ (fun _ => ?_))
      | exact ih0 _ _
      | exact ih1 _ _
      | exact LeO.none _
      | refine LeO.ite ?_ ?_
      | refine LeO.bind ?_ (fun _ => ?_)
theorem smaltoref03_Check.mono : ∀ a0 a1 a2 a3 a4 a5 k, LeO (smaltoref03_Check.f k a0 a1 a2 a3 a4 a5) (smaltoref03_Check.f (k + 1) a0 a1 a2 a3 a4 a5) := by
  intro a0 a1 a2 a3 a4 a5 k
  obtain ⟨ih0, ih1⟩ := smaltoref03_Check.mono_l k
  unfold smaltoref03_Check.f
  repeat' first
      | (with_reducible exact ih0 _ _)
      | (with_reducible exact ih1 _ _)
      | (with_reducible exact LeO.refl _)
      | (with_reducible exact LeO.none _)
      | (with_reducible refine LeO.ite ?_ ?_)
      | (with_reducible refine LeO.bind ?_ (fun _ => ?_))
      | exact ih0 _ _
      | exact ih1 _ _
      | exact LeO.none _
      | refine LeO.ite ?_ ?_
      | refine LeO.bind ?_ (fun _ => ?_)
set_option maxHeartbeats 8000000 in
set_option maxRecDepth 100000 in
theorem smaltoref03_Check.calls (k : Nat) (a0_0 : Int) (a0_1 : Int) (a0_2 : Int) (a0_3 : Int) (a0_4 : Int) (A1 : Option Addr) (c1 : Nat) (l1 : List (S74)) (r : Int) (w : World) (hr1 : Kd.C k74 w A1 l1.length l1) (hc1 : l1.length ≤ c1) (h : smaltoref03_Check.f k a0_0 a0_1 a0_2 a0_3 a0_4 l1 = some r) :
    Calls Tryd.prog 22 #[.agg #[.int .i64 a0_0, .int .i64 a0_1, .int .i64 a0_2, .int .i64 a0_3, .int .i64 a0_4], .slice A1 l1.length c1] w fun e w' => e = .returned (.int .i64 r) ∧ Below w.heap.size w w' := by
  have hu23 := Tryd.underlying23
  have hu36 := Tryd.underlying36
  have HR1 := Aside0.mk hr1
  have HC1 := Aside0.mk hc1
  clear hr1 hc1
  have HB := Aside0.mk (Below.refl w.heap.size w)
  have H : ((smaltoref03_In.f a0_0 1 3).bind fun t195 => (if t195 = true then ((smaltoref03_In.f a0_1 1 200).bind fun t196 => (if t196 = true then ((smaltoref03_In.f a0_2 0 20).bind fun t197 => (if t197 = true then ((smaltoref03_In.f a0_3 1 2000).bind fun t198 => (if t198 = true then ((smaltoref03_In.f a0_4 0 100).bind fun t199 => (smaltoref03_Check.j0 k l1 (!t199))) else (smaltoref03_Check.j0 k l1 true))) else (smaltoref03_Check.j0 k l1 true))) else (smaltoref03_Check.j0 k l1 true))) else (smaltoref03_Check.j0 k l1 true))) = some r := h
  clear h
  have HC3 := Aside0.mk H
  clear H
  go_enter Tryd.func22, Tryd.ntmps22
  go_upto_region 1 with (first | ((with_reducible refine gate_dst (N := 2) rfl ?_); refine box_event ?hg (N := 2) ?hd (cs := #[.int .i64 a0_0, .int .i64 a0_1, .int .i64 a0_2, .int .i64 a0_3, .int .i64 a0_4]) (t := 23) ?hr ?_; (case hd => rfl); (case hg => rfl); (case hr => first | (go_simp; done) | (go_simp; rfl)); intro gb194 hg w4 hbox hb; have n0_ := Aside0.mk (below_step (by repeat (first | (with_reducible first | exact HB.out | apply below_alloc | apply pw_below_drewN | apply below_drew1) | exact HB.out)) hb); have n1_ := Aside0.mk (hbox); have n2_ := Aside0.mk ((by rw [hg]; exact (below_size (by repeat (first | (with_reducible first | exact HB.out | apply below_alloc | apply pw_below_drewN | apply below_drew1) | exact HB.out))) : w.heap.size ≤ gb194)); have n3_ := Aside0.mk ((by rw [hg]; exact (below_size (by repeat (first | (with_reducible first | exact HB.out | apply below_alloc | apply pw_below_drewN | apply below_drew1) | exact HB.out))) : w.heap.size ≤ gb194)); clear HB; have HB := n0_; have BK194 := n1_; have GW194 := n2_; have GE194 := n3_; clear n0_ n1_ n2_ n3_; clear hb hbox hg))
  (try simp only [Act.put, List.setIfInBounds_toArray, List.set_cons_zero, List.set_cons_succ])
  go_cut [33] (fun v33 wc => ∃ (kq : Nat) (x33_2 : Bool), v33 = .bool x33_2 ∧ Aside0 (smaltoref03_Check.j0 kq l1 x33_2 = some r) ∧ Aside0 (kq ≤ k) ∧ Aside0 (wc.heap[gb194]? = some (.cells #[.int .i64 a0_0, .int .i64 a0_1, .int .i64 a0_2, .int .i64 a0_3, .int .i64 a0_4] 23 (0, 0))) ∧ Aside0 (Below w.heap.size w wc))
  case first =>
    have H := HC3.out
    clear HC3
    replace H := Option.bind_eq_some_iff.mp H
    obtain ⟨t195, A50, H⟩ := H
    replace H : (if t195 = true then ((smaltoref03_In.f a0_1 1 200).bind fun t196 => (if t196 = true then ((smaltoref03_In.f a0_2 0 20).bind fun t197 => (if t197 = true then ((smaltoref03_In.f a0_3 1 2000).bind fun t198 => (if t198 = true then ((smaltoref03_In.f a0_4 0 100).bind fun t199 => (smaltoref03_Check.j0 k l1 (!t199))) else (smaltoref03_Check.j0 k l1 true))) else (smaltoref03_Check.j0 k l1 true))) else (smaltoref03_Check.j0 k l1 true))) else (smaltoref03_Check.j0 k l1 true)) = some r := H
    have A5 := Aside0.mk A50
    clear A50
    by_cases c6 : t195 = true
    · subst c6
      have H1 : ((smaltoref03_In.f a0_1 1 200).bind fun t196 => (if t196 = true then ((smaltoref03_In.f a0_2 0 20).bind fun t197 => (if t197 = true then ((smaltoref03_In.f a0_3 1 2000).bind fun t198 => (if t198 = true then ((smaltoref03_In.f a0_4 0 100).bind fun t199 => (smaltoref03_Check.j0 k l1 (!t199))) else (smaltoref03_Check.j0 k l1 true))) else (smaltoref03_Check.j0 k l1 true))) else (smaltoref03_Check.j0 k l1 true))) = some r := by rw [if_pos rfl] at H; exact H
      clear H
      have H := H1
      clear H1
      replace H := Option.bind_eq_some_iff.mp H
      obtain ⟨t196, A70, H⟩ := H
      replace H : (if t196 = true then ((smaltoref03_In.f a0_2 0 20).bind fun t197 => (if t197 = true then ((smaltoref03_In.f a0_3 1 2000).bind fun t198 => (if t198 = true then ((smaltoref03_In.f a0_4 0 100).bind fun t199 => (smaltoref03_Check.j0 k l1 (!t199))) else (smaltoref03_Check.j0 k l1 true))) else (smaltoref03_Check.j0 k l1 true))) else (smaltoref03_Check.j0 k l1 true)) = some r := H
      have A7 := Aside0.mk A70
      clear A70
      by_cases c8 : t196 = true
      · subst c8
        have H1 : ((smaltoref03_In.f a0_2 0 20).bind fun t197 => (if t197 = true then ((smaltoref03_In.f a0_3 1 2000).bind fun t198 => (if t198 = true then ((smaltoref03_In.f a0_4 0 100).bind fun t199 => (smaltoref03_Check.j0 k l1 (!t199))) else (smaltoref03_Check.j0 k l1 true))) else (smaltoref03_Check.j0 k l1 true))) = some r := by rw [if_pos rfl] at H; exact H
        clear H
        have H := H1
        clear H1
        replace H := Option.bind_eq_some_iff.mp H
        obtain ⟨t197, A90, H⟩ := H
        replace H : (if t197 = true then ((smaltoref03_In.f a0_3 1 2000).bind fun t198 => (if t198 = true then ((smaltoref03_In.f a0_4 0 100).bind fun t199 => (smaltoref03_Check.j0 k l1 (!t199))) else (smaltoref03_Check.j0 k l1 true))) else (smaltoref03_Check.j0 k l1 true)) = some r := H
        have A9 := Aside0.mk A90
        clear A90
        by_cases c10 : t197 = true
        · subst c10
          have H1 : ((smaltoref03_In.f a0_3 1 2000).bind fun t198 => (if t198 = true then ((smaltoref03_In.f a0_4 0 100).bind fun t199 => (smaltoref03_Check.j0 k l1 (!t199))) else (smaltoref03_Check.j0 k l1 true))) = some r := by rw [if_pos rfl] at H; exact H
          clear H
          have H := H1
          clear H1
          replace H := Option.bind_eq_some_iff.mp H
          obtain ⟨t198, A110, H⟩ := H
          replace H : (if t198 = true then ((smaltoref03_In.f a0_4 0 100).bind fun t199 => (smaltoref03_Check.j0 k l1 (!t199))) else (smaltoref03_Check.j0 k l1 true)) = some r := H
          have A11 := Aside0.mk A110
          clear A110
          by_cases c12 : t198 = true
          · subst c12
            have H1 : ((smaltoref03_In.f a0_4 0 100).bind fun t199 => (smaltoref03_Check.j0 k l1 (!t199))) = some r := by rw [if_pos rfl] at H; exact H
            clear H
            have H := H1
            clear H1
            replace H := Option.bind_eq_some_iff.mp H
            obtain ⟨t199, A130, H⟩ := H
            replace H : (smaltoref03_Check.j0 k l1 (!t199)) = some r := H
            have A13 := Aside0.mk A130
            clear A130
            have H' := Aside0.mk H
            clear H
            have hcz14_0 : w4.cell? ⟨gb194, 0, none⟩ = some (.int .i64 a0_0) := (blk_cell BK194.out 0).trans rfl
            have hcz14_1 : w4.cell? ⟨gb194, 1, none⟩ = some (.int .i64 a0_1) := (blk_cell BK194.out 1).trans rfl
            have hcz14_2 : w4.cell? ⟨gb194, 2, none⟩ = some (.int .i64 a0_2) := (blk_cell BK194.out 2).trans rfl
            have hcz14_3 : w4.cell? ⟨gb194, 3, none⟩ = some (.int .i64 a0_3) := (blk_cell BK194.out 3).trans rfl
            have hcz14_4 : w4.cell? ⟨gb194, 4, none⟩ = some (.int .i64 a0_4) := (blk_cell BK194.out 4).trans rfl
            have hfz14_0 := blk_frozen BK194.out 0
            have hfz14_1 := blk_frozen BK194.out 1
            have hfz14_2 := blk_frozen BK194.out 2
            have hfz14_3 := blk_frozen BK194.out 3
            have hfz14_4 := blk_frozen BK194.out 4
            go_wp2_with (first | ((with_reducible refine gate_callee (f := 65) rfl ?_); refine goesL_ (some 8) rfl rfl Tryd.func65 (by kernel_rfl) rfl #[.int .i64 a0_0, .int .i64 1, .int .i64 3] rfl (by (try simp only [List.map_toArray, List.map_cons, List.map_nil]); first | done | rfl | (simp only [List.length_drop, List.length_take]; rfl)) ?_; (with_reducible refine (smaltoref03_In.calls a0_0 1 3 true _ A5.out).mono ?_); rintro e w' ⟨rfl, ⟨nd, rfl⟩⟩; refine ⟨_, rfl, ?_⟩) | (go_at_call 65; (with_reducible refine (smaltoref03_In.calls a0_1 1 200 true _ A7.out).mono ?_); rintro e w' ⟨rfl, ⟨nd, rfl⟩⟩) | (go_at_call 65; (with_reducible refine (smaltoref03_In.calls a0_2 0 20 true _ A9.out).mono ?_); rintro e w' ⟨rfl, ⟨nd, rfl⟩⟩) | (go_at_call 65; (with_reducible refine (smaltoref03_In.calls a0_3 1 2000 true _ A11.out).mono ?_); rintro e w' ⟨rfl, ⟨nd, rfl⟩⟩) | (go_at_call 65; (with_reducible refine (smaltoref03_In.calls a0_4 0 100 t199 _ A13.out).mono ?_); rintro e w' ⟨rfl, ⟨nd, rfl⟩⟩))
            go_meet
            case rel => exact ⟨_, (!t199), (by first | rfl | (simp; done) | (simp [*]; done)), H', ⟨by first | omega | exact Nat.le_refl _⟩, ⟨by (with_reducible repeat (first | refine blk_drewN ?_ _ | refine blk_drew ?_ | refine blk_alloc ?_ _)); exact BK194.out⟩, ⟨by repeat (first | (with_reducible first | exact HB.out | apply below_alloc | apply pw_below_drewN | apply below_drew1 | refine below_set ?_ GE194.out) | exact HB.out)⟩⟩
          · replace c12 := Bool.eq_false_iff.mpr c12
            subst c12
            have H1 : (smaltoref03_Check.j0 k l1 true) = some r := by rw [if_neg (show ¬ (false = true) by decide)] at H; exact H
            clear H
            have H := H1
            clear H1
            have H' := Aside0.mk H
            clear H
            have hcz15_0 : w4.cell? ⟨gb194, 0, none⟩ = some (.int .i64 a0_0) := (blk_cell BK194.out 0).trans rfl
            have hcz15_1 : w4.cell? ⟨gb194, 1, none⟩ = some (.int .i64 a0_1) := (blk_cell BK194.out 1).trans rfl
            have hcz15_2 : w4.cell? ⟨gb194, 2, none⟩ = some (.int .i64 a0_2) := (blk_cell BK194.out 2).trans rfl
            have hcz15_3 : w4.cell? ⟨gb194, 3, none⟩ = some (.int .i64 a0_3) := (blk_cell BK194.out 3).trans rfl
            have hcz15_4 : w4.cell? ⟨gb194, 4, none⟩ = some (.int .i64 a0_4) := (blk_cell BK194.out 4).trans rfl
            have hfz15_0 := blk_frozen BK194.out 0
            have hfz15_1 := blk_frozen BK194.out 1
            have hfz15_2 := blk_frozen BK194.out 2
            have hfz15_3 := blk_frozen BK194.out 3
            have hfz15_4 := blk_frozen BK194.out 4
            go_wp2_with (first | ((with_reducible refine gate_callee (f := 65) rfl ?_); refine goesL_ (some 8) rfl rfl Tryd.func65 (by kernel_rfl) rfl #[.int .i64 a0_0, .int .i64 1, .int .i64 3] rfl (by (try simp only [List.map_toArray, List.map_cons, List.map_nil]); first | done | rfl | (simp only [List.length_drop, List.length_take]; rfl)) ?_; (with_reducible refine (smaltoref03_In.calls a0_0 1 3 true _ A5.out).mono ?_); rintro e w' ⟨rfl, ⟨nd, rfl⟩⟩; refine ⟨_, rfl, ?_⟩) | (go_at_call 65; (with_reducible refine (smaltoref03_In.calls a0_1 1 200 true _ A7.out).mono ?_); rintro e w' ⟨rfl, ⟨nd, rfl⟩⟩) | (go_at_call 65; (with_reducible refine (smaltoref03_In.calls a0_2 0 20 true _ A9.out).mono ?_); rintro e w' ⟨rfl, ⟨nd, rfl⟩⟩) | (go_at_call 65; (with_reducible refine (smaltoref03_In.calls a0_3 1 2000 false _ A11.out).mono ?_); rintro e w' ⟨rfl, ⟨nd, rfl⟩⟩))
            go_meet
            case rel => exact ⟨_, (true), (by first | rfl | (simp; done) | (simp [*]; done)), H', ⟨by first | omega | exact Nat.le_refl _⟩, ⟨by (with_reducible repeat (first | refine blk_drewN ?_ _ | refine blk_drew ?_ | refine blk_alloc ?_ _)); exact BK194.out⟩, ⟨by repeat (first | (with_reducible first | exact HB.out | apply below_alloc | apply pw_below_drewN | apply below_drew1 | refine below_set ?_ GE194.out) | exact HB.out)⟩⟩
        · replace c10 := Bool.eq_false_iff.mpr c10
          subst c10
          have H1 : (smaltoref03_Check.j0 k l1 true) = some r := by rw [if_neg (show ¬ (false = true) by decide)] at H; exact H
          clear H
          have H := H1
          clear H1
          have H' := Aside0.mk H
          clear H
          have hcz16_0 : w4.cell? ⟨gb194, 0, none⟩ = some (.int .i64 a0_0) := (blk_cell BK194.out 0).trans rfl
          have hcz16_1 : w4.cell? ⟨gb194, 1, none⟩ = some (.int .i64 a0_1) := (blk_cell BK194.out 1).trans rfl
          have hcz16_2 : w4.cell? ⟨gb194, 2, none⟩ = some (.int .i64 a0_2) := (blk_cell BK194.out 2).trans rfl
          have hcz16_3 : w4.cell? ⟨gb194, 3, none⟩ = some (.int .i64 a0_3) := (blk_cell BK194.out 3).trans rfl
          have hcz16_4 : w4.cell? ⟨gb194, 4, none⟩ = some (.int .i64 a0_4) := (blk_cell BK194.out 4).trans rfl
          have hfz16_0 := blk_frozen BK194.out 0
          have hfz16_1 := blk_frozen BK194.out 1
          have hfz16_2 := blk_frozen BK194.out 2
          have hfz16_3 := blk_frozen BK194.out 3
          have hfz16_4 := blk_frozen BK194.out 4
          go_wp2_with (first | ((with_reducible refine gate_callee (f := 65) rfl ?_); refine goesL_ (some 8) rfl rfl Tryd.func65 (by kernel_rfl) rfl #[.int .i64 a0_0, .int .i64 1, .int .i64 3] rfl (by (try simp only [List.map_toArray, List.map_cons, List.map_nil]); first | done | rfl | (simp only [List.length_drop, List.length_take]; rfl)) ?_; (with_reducible refine (smaltoref03_In.calls a0_0 1 3 true _ A5.out).mono ?_); rintro e w' ⟨rfl, ⟨nd, rfl⟩⟩; refine ⟨_, rfl, ?_⟩) | (go_at_call 65; (with_reducible refine (smaltoref03_In.calls a0_1 1 200 true _ A7.out).mono ?_); rintro e w' ⟨rfl, ⟨nd, rfl⟩⟩) | (go_at_call 65; (with_reducible refine (smaltoref03_In.calls a0_2 0 20 false _ A9.out).mono ?_); rintro e w' ⟨rfl, ⟨nd, rfl⟩⟩))
          go_meet
          case rel => exact ⟨_, (true), (by first | rfl | (simp; done) | (simp [*]; done)), H', ⟨by first | omega | exact Nat.le_refl _⟩, ⟨by (with_reducible repeat (first | refine blk_drewN ?_ _ | refine blk_drew ?_ | refine blk_alloc ?_ _)); exact BK194.out⟩, ⟨by repeat (first | (with_reducible first | exact HB.out | apply below_alloc | apply pw_below_drewN | apply below_drew1 | refine below_set ?_ GE194.out) | exact HB.out)⟩⟩
      · replace c8 := Bool.eq_false_iff.mpr c8
        subst c8
        have H1 : (smaltoref03_Check.j0 k l1 true) = some r := by rw [if_neg (show ¬ (false = true) by decide)] at H; exact H
        clear H
        have H := H1
        clear H1
        have H' := Aside0.mk H
        clear H
        have hcz17_0 : w4.cell? ⟨gb194, 0, none⟩ = some (.int .i64 a0_0) := (blk_cell BK194.out 0).trans rfl
        have hcz17_1 : w4.cell? ⟨gb194, 1, none⟩ = some (.int .i64 a0_1) := (blk_cell BK194.out 1).trans rfl
        have hcz17_2 : w4.cell? ⟨gb194, 2, none⟩ = some (.int .i64 a0_2) := (blk_cell BK194.out 2).trans rfl
        have hcz17_3 : w4.cell? ⟨gb194, 3, none⟩ = some (.int .i64 a0_3) := (blk_cell BK194.out 3).trans rfl
        have hcz17_4 : w4.cell? ⟨gb194, 4, none⟩ = some (.int .i64 a0_4) := (blk_cell BK194.out 4).trans rfl
        have hfz17_0 := blk_frozen BK194.out 0
        have hfz17_1 := blk_frozen BK194.out 1
        have hfz17_2 := blk_frozen BK194.out 2
        have hfz17_3 := blk_frozen BK194.out 3
        have hfz17_4 := blk_frozen BK194.out 4
        go_wp2_with (first | ((with_reducible refine gate_callee (f := 65) rfl ?_); refine goesL_ (some 8) rfl rfl Tryd.func65 (by kernel_rfl) rfl #[.int .i64 a0_0, .int .i64 1, .int .i64 3] rfl (by (try simp only [List.map_toArray, List.map_cons, List.map_nil]); first | done | rfl | (simp only [List.length_drop, List.length_take]; rfl)) ?_; (with_reducible refine (smaltoref03_In.calls a0_0 1 3 true _ A5.out).mono ?_); rintro e w' ⟨rfl, ⟨nd, rfl⟩⟩; refine ⟨_, rfl, ?_⟩) | (go_at_call 65; (with_reducible refine (smaltoref03_In.calls a0_1 1 200 false _ A7.out).mono ?_); rintro e w' ⟨rfl, ⟨nd, rfl⟩⟩))
        go_meet
        case rel => exact ⟨_, (true), (by first | rfl | (simp; done) | (simp [*]; done)), H', ⟨by first | omega | exact Nat.le_refl _⟩, ⟨by (with_reducible repeat (first | refine blk_drewN ?_ _ | refine blk_drew ?_ | refine blk_alloc ?_ _)); exact BK194.out⟩, ⟨by repeat (first | (with_reducible first | exact HB.out | apply below_alloc | apply pw_below_drewN | apply below_drew1 | refine below_set ?_ GE194.out) | exact HB.out)⟩⟩
    · replace c6 := Bool.eq_false_iff.mpr c6
      subst c6
      have H1 : (smaltoref03_Check.j0 k l1 true) = some r := by rw [if_neg (show ¬ (false = true) by decide)] at H; exact H
      clear H
      have H := H1
      clear H1
      have H' := Aside0.mk H
      clear H
      have hcz18_0 : w4.cell? ⟨gb194, 0, none⟩ = some (.int .i64 a0_0) := (blk_cell BK194.out 0).trans rfl
      have hcz18_1 : w4.cell? ⟨gb194, 1, none⟩ = some (.int .i64 a0_1) := (blk_cell BK194.out 1).trans rfl
      have hcz18_2 : w4.cell? ⟨gb194, 2, none⟩ = some (.int .i64 a0_2) := (blk_cell BK194.out 2).trans rfl
      have hcz18_3 : w4.cell? ⟨gb194, 3, none⟩ = some (.int .i64 a0_3) := (blk_cell BK194.out 3).trans rfl
      have hcz18_4 : w4.cell? ⟨gb194, 4, none⟩ = some (.int .i64 a0_4) := (blk_cell BK194.out 4).trans rfl
      have hfz18_0 := blk_frozen BK194.out 0
      have hfz18_1 := blk_frozen BK194.out 1
      have hfz18_2 := blk_frozen BK194.out 2
      have hfz18_3 := blk_frozen BK194.out 3
      have hfz18_4 := blk_frozen BK194.out 4
      go_wp2_with (first | ((with_reducible refine gate_callee (f := 65) rfl ?_); refine goesL_ (some 8) rfl rfl Tryd.func65 (by kernel_rfl) rfl #[.int .i64 a0_0, .int .i64 1, .int .i64 3] rfl (by (try simp only [List.map_toArray, List.map_cons, List.map_nil]); first | done | rfl | (simp only [List.length_drop, List.length_take]; rfl)) ?_; (with_reducible refine (smaltoref03_In.calls a0_0 1 3 false _ A5.out).mono ?_); rintro e w' ⟨rfl, ⟨nd, rfl⟩⟩; refine ⟨_, rfl, ?_⟩))
      go_meet
      case rel => exact ⟨_, (true), (by first | rfl | (simp; done) | (simp [*]; done)), H', ⟨by first | omega | exact Nat.le_refl _⟩, ⟨by (with_reducible repeat (first | refine blk_drewN ?_ _ | refine blk_drew ?_ | refine blk_alloc ?_ _)); exact BK194.out⟩, ⟨by repeat (first | (with_reducible first | exact HB.out | apply below_alloc | apply pw_below_drewN | apply below_drew1 | refine below_set ?_ GE194.out) | exact HB.out)⟩⟩
  case rest =>
    clear HC3
    try clear c1
    try clear c2
    try clear p2
    try clear c6
    try clear c8
    try clear c10
    try clear c12
    try clear hcz14_0
    try clear hcz14_1
    try clear hcz14_2
    try clear hcz14_3
    try clear hcz14_4
    try clear hcz15_0
    try clear hcz15_1
    try clear hcz15_2
    try clear hcz15_3
    try clear hcz15_4
    try clear hcz16_0
    try clear hcz16_1
    try clear hcz16_2
    try clear hcz16_3
    try clear hcz16_4
    try clear hcz17_0
    try clear hcz17_1
    try clear hcz17_2
    try clear hcz17_3
    try clear hcz17_4
    try clear hcz18_0
    try clear hcz18_1
    try clear hcz18_2
    try clear hcz18_3
    try clear hcz18_4
    try clear hfz14_0
    try clear hfz14_1
    try clear hfz14_2
    try clear hfz14_3
    try clear hfz14_4
    try clear hfz15_0
    try clear hfz15_1
    try clear hfz15_2
    try clear hfz15_3
    try clear hfz15_4
    try clear hfz16_0
    try clear hfz16_1
    try clear hfz16_2
    try clear hfz16_3
    try clear hfz16_4
    try clear hfz17_0
    try clear hfz17_1
    try clear hfz17_2
    try clear hfz17_3
    try clear hfz17_4
    try clear hfz18_0
    try clear hfz18_1
    try clear hfz18_2
    try clear hfz18_3
    try clear hfz18_4
    obtain ⟨kq, x33_2, rfl, HA, HJ2, BK194, HB⟩ := hcut
    cases kq with
    | zero => exact absurd HA.out (by simp [smaltoref03_Check.j0])
    | succ kj2 =>
      have H := HA.out
      clear HA
      simp only [smaltoref03_Check.j0] at H
      by_cases c19 : x33_2 = true
      · subst c19
        have H1 : (some 4) = some r := by rw [if_pos rfl] at H; exact H
        clear H
        have H := H1
        clear H1
        obtain rfl := Option.some.inj H
        go_wp2
        go_ret
        exact ⟨by first | rfl | (simp [errW_none, errW_some] <;> rfl) | (simp [*, errW_none, errW_some] <;> rfl), by repeat (first | (with_reducible first | exact HB.out | apply below_alloc | apply pw_below_drewN | apply below_drew1 | refine below_set ?_ GE194.out) | exact HB.out)⟩
      · replace c19 := Bool.eq_false_iff.mpr c19
        subst c19
        have H1 : (if (l1.length : Int) > 6 then (some 5) else (smaltoref03_Check.l0 kj2 l1 0)) = some r := by rw [if_neg (show ¬ (false = true) by decide)] at H; exact H
        clear H
        have H := H1
        clear H1
        by_cases c20 : (l1.length : Int) > 6
        · rw [if_pos c20] at H
          have c20b0 : decide (6 < (l1.length : Int)) = true := decide_eq_true c20
          have c20b1 : decide (6 < l1.length) = true := decide_eq_true (by omega)
          clear c20
          obtain rfl := Option.some.inj H
          go_wp2
          go_ret
          exact ⟨by first | rfl | (simp [errW_none, errW_some] <;> rfl) | (simp [*, errW_none, errW_some] <;> rfl), by repeat (first | (with_reducible first | exact HB.out | apply below_alloc | apply pw_below_drewN | apply below_drew1 | refine below_set ?_ GE194.out) | exact HB.out)⟩
        · rw [if_neg c20] at H
          have c20b0 : decide (6 < (l1.length : Int)) = false := decide_eq_false c20
          have c20b1 : decide (6 < l1.length) = false := decide_eq_false (by omega)
          clear c20
          have H' := Aside0.mk H
          clear H
          go_wp2
          go_loopg [5] kj2 (fun kq v5 w' => ∃ (x5_2 : Int), v5 = .int .i64 x5_2 ∧ Aside0 (smaltoref03_Check.l0 kq l1 x5_2 = some r) ∧ Aside0 (kq ≤ kj2) ∧ Aside0 (w'.heap[gb194]? = some (.cells #[.int .i64 a0_0, .int .i64 a0_1, .int .i64 a0_2, .int .i64 a0_3, .int .i64 a0_4] 23 (0, 0))) ∧ Aside0 (Below w.heap.size w w'))
          case atStart => exact ⟨(0), (by first | rfl | (simp; done) | (simp [*]; done)), H', ⟨Nat.le_refl _⟩, ⟨by (with_reducible repeat (first | refine blk_drewN ?_ _ | refine blk_drew ?_ | refine blk_alloc ?_ _)); exact BK194.out⟩, ⟨by repeat (first | (with_reducible first | exact HB.out | apply below_alloc | apply pw_below_drewN | apply below_drew1 | refine below_set ?_ GE194.out) | exact HB.out)⟩⟩
          case round =>
            clear H'
            try clear c1
            try clear c2
            try clear p2
            try clear c6
            try clear c8
            try clear c10
            try clear c12
            try clear c19
            try clear c20
            try clear c20b0
            try clear c20b1
            try clear hcz14_0
            try clear hcz14_1
            try clear hcz14_2
            try clear hcz14_3
            try clear hcz14_4
            try clear hcz15_0
            try clear hcz15_1
            try clear hcz15_2
            try clear hcz15_3
            try clear hcz15_4
            try clear hcz16_0
            try clear hcz16_1
            try clear hcz16_2
            try clear hcz16_3
            try clear hcz16_4
            try clear hcz17_0
            try clear hcz17_1
            try clear hcz17_2
            try clear hcz17_3
            try clear hcz17_4
            try clear hcz18_0
            try clear hcz18_1
            try clear hcz18_2
            try clear hcz18_3
            try clear hcz18_4
            try clear hfz14_0
            try clear hfz14_1
            try clear hfz14_2
            try clear hfz14_3
            try clear hfz14_4
            try clear hfz15_0
            try clear hfz15_1
            try clear hfz15_2
            try clear hfz15_3
            try clear hfz15_4
            try clear hfz16_0
            try clear hfz16_1
            try clear hfz16_2
            try clear hfz16_3
            try clear hfz16_4
            try clear hfz17_0
            try clear hfz17_1
            try clear hfz17_2
            try clear hfz17_3
            try clear hfz17_4
            try clear hfz18_0
            try clear hfz18_1
            try clear hfz18_2
            try clear hfz18_3
            try clear hfz18_4
            try clear p2
            obtain ⟨x5_2, rfl, HA, HK2, BK194, HB⟩ := hrel
            cases gk with
            | zero => exact absurd HA.out (by simp [smaltoref03_Check.l0])
            | succ k2 =>
              have H := HA.out
              clear HA
              simp only [smaltoref03_Check.l0] at H
              by_cases c21 : x5_2 < (l1.length : Int)
              · rw [if_pos c21] at H
                have c21b0 : decide (x5_2 < (l1.length : Int)) = true := decide_eq_true c21
                clear c21
                by_cases c22 : 0 ≤ x5_2
                · rw [if_pos c22] at H
                  have c22b0 : decide (0 ≤ x5_2) = true := decide_eq_true c22
                  clear c22
                  replace H := Option.bind_eq_some_iff.mp H
                  obtain ⟨t201, A230, H⟩ := H
                  replace H : (if t201 = true then ((smaltoref03_In.f ((rd_T74 l1 x5_2).f1) 1 100).bind fun t203 => (if t203 = true then ((smaltoref03_Span.f ((rd_T74 l1 x5_2).f2.f0) ((rd_T74 l1 x5_2).f2.f1) 1 500).bind fun t205 => (if t205 = true then ((smaltoref03_Span.f ((rd_T74 l1 x5_2).f3.f0) ((rd_T74 l1 x5_2).f3.f1) 0 1000).bind fun t207 => (if t207 = true then (smaltoref03_Check.l0 k2 l1 (wrap64 (x5_2 + 1))) else (some 2))) else (some 2))) else (some 2))) else (some 2)) = some r := H
                  have A23 := Aside0.mk A230
                  clear A230
                  by_cases c24 : t201 = true
                  · subst c24
                    have H1 : ((smaltoref03_In.f ((rd_T74 l1 x5_2).f1) 1 100).bind fun t203 => (if t203 = true then ((smaltoref03_Span.f ((rd_T74 l1 x5_2).f2.f0) ((rd_T74 l1 x5_2).f2.f1) 1 500).bind fun t205 => (if t205 = true then ((smaltoref03_Span.f ((rd_T74 l1 x5_2).f3.f0) ((rd_T74 l1 x5_2).f3.f1) 0 1000).bind fun t207 => (if t207 = true then (smaltoref03_Check.l0 k2 l1 (wrap64 (x5_2 + 1))) else (some 2))) else (some 2))) else (some 2))) = some r := by rw [if_pos rfl] at H; exact H
                    clear H
                    have H := H1
                    clear H1
                    replace H := Option.bind_eq_some_iff.mp H
                    obtain ⟨t203, A250, H⟩ := H
                    replace H : (if t203 = true then ((smaltoref03_Span.f ((rd_T74 l1 x5_2).f2.f0) ((rd_T74 l1 x5_2).f2.f1) 1 500).bind fun t205 => (if t205 = true then ((smaltoref03_Span.f ((rd_T74 l1 x5_2).f3.f0) ((rd_T74 l1 x5_2).f3.f1) 0 1000).bind fun t207 => (if t207 = true then (smaltoref03_Check.l0 k2 l1 (wrap64 (x5_2 + 1))) else (some 2))) else (some 2))) else (some 2)) = some r := H
                    have A25 := Aside0.mk A250
                    clear A250
                    by_cases c26 : t203 = true
                    · subst c26
                      have H1 : ((smaltoref03_Span.f ((rd_T74 l1 x5_2).f2.f0) ((rd_T74 l1 x5_2).f2.f1) 1 500).bind fun t205 => (if t205 = true then ((smaltoref03_Span.f ((rd_T74 l1 x5_2).f3.f0) ((rd_T74 l1 x5_2).f3.f1) 0 1000).bind fun t207 => (if t207 = true then (smaltoref03_Check.l0 k2 l1 (wrap64 (x5_2 + 1))) else (some 2))) else (some 2))) = some r := by rw [if_pos rfl] at H; exact H
                      clear H
                      have H := H1
                      clear H1
                      replace H := Option.bind_eq_some_iff.mp H
                      obtain ⟨t205, A270, H⟩ := H
                      replace H : (if t205 = true then ((smaltoref03_Span.f ((rd_T74 l1 x5_2).f3.f0) ((rd_T74 l1 x5_2).f3.f1) 0 1000).bind fun t207 => (if t207 = true then (smaltoref03_Check.l0 k2 l1 (wrap64 (x5_2 + 1))) else (some 2))) else (some 2)) = some r := H
                      have A27 := Aside0.mk A270
                      clear A270
                      by_cases c28 : t205 = true
                      · subst c28
                        have H1 : ((smaltoref03_Span.f ((rd_T74 l1 x5_2).f3.f0) ((rd_T74 l1 x5_2).f3.f1) 0 1000).bind fun t207 => (if t207 = true then (smaltoref03_Check.l0 k2 l1 (wrap64 (x5_2 + 1))) else (some 2))) = some r := by rw [if_pos rfl] at H; exact H
                        clear H
                        have H := H1
                        clear H1
                        replace H := Option.bind_eq_some_iff.mp H
                        obtain ⟨t207, A290, H⟩ := H
                        replace H : (if t207 = true then (smaltoref03_Check.l0 k2 l1 (wrap64 (x5_2 + 1))) else (some 2)) = some r := H
                        have A29 := Aside0.mk A290
                        clear A290
                        by_cases c30 : t207 = true
                        · subst c30
                          have H1 : (smaltoref03_Check.l0 k2 l1 (wrap64 (x5_2 + 1))) = some r := by rw [if_pos rfl] at H; exact H
                          clear H
                          have H := H1
                          clear H1
                          have H' := Aside0.mk H
                          clear H
                          have p200 : 0 ≤ (x5_2 : Int) := of_decide_eq_true (by first | (with_reducible assumption) | assumption)
                          have q200 : x5_2 < (l1.length : Int) := of_decide_eq_true (by first | (with_reducible assumption) | assumption)
                          obtain ⟨ad200, e200, hx200_0, hx200_1, hx200_2, hx200_3, hx200_4, hx200_5⟩ := at_T74 HR1.out x5_2 p200 q200
                          cases e200
                          replace hx200_0 := (HB.out.cell (World.block_lt_of_cell? w _ hx200_0)).trans hx200_0
                          replace hx200_1 := (HB.out.cell (World.block_lt_of_cell? w _ hx200_1)).trans hx200_1
                          replace hx200_2 := (HB.out.cell (World.block_lt_of_cell? w _ hx200_2)).trans hx200_2
                          replace hx200_3 := (HB.out.cell (World.block_lt_of_cell? w _ hx200_3)).trans hx200_3
                          replace hx200_4 := (HB.out.cell (World.block_lt_of_cell? w _ hx200_4)).trans hx200_4
                          replace hx200_5 := (HB.out.cell (World.block_lt_of_cell? w _ hx200_5)).trans hx200_5
                          replace p200 := eq_true p200
                          replace q200 := eq_true q200
                          go_wp2_with (first | ((with_reducible refine gate_callee (f := 65) rfl ?_); refine goesL_ (some 48) rfl rfl Tryd.func65 (by kernel_rfl) rfl #[.int .i64 ((rd_T74 l1 x5_2).f0), .int .i64 1, .int .i64 200] rfl (by (try simp only [List.map_toArray, List.map_cons, List.map_nil]); first | done | rfl | (simp only [List.length_drop, List.length_take]; rfl)) ?_; (with_reducible refine (smaltoref03_In.calls ((rd_T74 l1 x5_2).f0) 1 200 true _ A23.out).mono ?_); rintro e w' ⟨rfl, ⟨nd, rfl⟩⟩; refine ⟨_, rfl, ?_⟩; have p202 : 0 ≤ (x5_2 : Int) := of_decide_eq_true (by first | (with_reducible assumption) | assumption); have q202 : x5_2 < (l1.length : Int) := of_decide_eq_true (by first | (with_reducible assumption) | assumption); obtain ⟨ad202, e202, hx202_0, hx202_1, hx202_2, hx202_3, hx202_4, hx202_5⟩ := at_T74 HR1.out x5_2 p202 q202; obtain rfl : ad200 = ad202 := (by injection e202); replace hx202_0 := (HB.out.cell (World.block_lt_of_cell? w _ hx202_0)).trans hx202_0; replace hx202_1 := (HB.out.cell (World.block_lt_of_cell? w _ hx202_1)).trans hx202_1; replace hx202_2 := (HB.out.cell (World.block_lt_of_cell? w _ hx202_2)).trans hx202_2; replace hx202_3 := (HB.out.cell (World.block_lt_of_cell? w _ hx202_3)).trans hx202_3; replace hx202_4 := (HB.out.cell (World.block_lt_of_cell? w _ hx202_4)).trans hx202_4; replace hx202_5 := (HB.out.cell (World.block_lt_of_cell? w _ hx202_5)).trans hx202_5; replace p202 := eq_true p202; replace q202 := eq_true q202) | (go_at_call 65; (with_reducible refine (smaltoref03_In.calls ((rd_T74 l1 x5_2).f1) 1 100 true _ A25.out).mono ?_); rintro e w' ⟨rfl, ⟨nd, rfl⟩⟩; have p204 : 0 ≤ (x5_2 : Int) := of_decide_eq_true (by first | (with_reducible assumption) | assumption); have q204 : x5_2 < (l1.length : Int) := of_decide_eq_true (by first | (with_reducible assumption) | assumption); obtain ⟨ad204, e204, hx204_0, hx204_1, hx204_2, hx204_3, hx204_4, hx204_5⟩ := at_T74 HR1.out x5_2 p204 q204; obtain rfl : ad200 = ad204 := (by injection e204); replace hx204_0 := (HB.out.cell (World.block_lt_of_cell? w _ hx204_0)).trans hx204_0; replace hx204_1 := (HB.out.cell (World.block_lt_of_cell? w _ hx204_1)).trans hx204_1; replace hx204_2 := (HB.out.cell (World.block_lt_of_cell? w _ hx204_2)).trans hx204_2; replace hx204_3 := (HB.out.cell (World.block_lt_of_cell? w _ hx204_3)).trans hx204_3; replace hx204_4 := (HB.out.cell (World.block_lt_of_cell? w _ hx204_4)).trans hx204_4; replace hx204_5 := (HB.out.cell (World.block_lt_of_cell? w _ hx204_5)).trans hx204_5; replace p204 := eq_true p204; replace q204 := eq_true q204) | (go_at_call 66; (with_reducible refine (smaltoref03_Span.calls ((rd_T74 l1 x5_2).f2.f0) ((rd_T74 l1 x5_2).f2.f1) 1 500 true _ A27.out).mono ?_); rintro e w31 ⟨rfl, hb⟩; have n0_ := Aside0.mk (blk_below (g := gb194) (o := .cells #[.int .i64 a0_0, .int .i64 a0_1, .int .i64 a0_2, .int .i64 a0_3, .int .i64 a0_4] 23 (0, 0)) (by (with_reducible repeat (first | refine blk_drewN ?_ _ | refine blk_drew ?_ | refine blk_alloc ?_ _)); exact BK194.out) hb); have n1_ := Aside0.mk (below_step (by repeat (first | (with_reducible first | exact HB.out | apply below_alloc | apply pw_below_drewN | apply below_drew1 | refine below_set ?_ GE194.out) | exact HB.out)) hb); clear BK194; clear HB; have BK194 := n0_; have HB := n1_; clear n0_ n1_; (try clear hb); (try clear hb2); (try clear hk); (try clear hi); have p206 : 0 ≤ (x5_2 : Int) := of_decide_eq_true (by first | (with_reducible assumption) | assumption); have q206 : x5_2 < (l1.length : Int) := of_decide_eq_true (by first | (with_reducible assumption) | assumption); obtain ⟨ad206, e206, hx206_0, hx206_1, hx206_2, hx206_3, hx206_4, hx206_5⟩ := at_T74 HR1.out x5_2 p206 q206; obtain rfl : ad200 = ad206 := (by injection e206); replace hx206_0 := (HB.out.cell (World.block_lt_of_cell? w _ hx206_0)).trans hx206_0; replace hx206_1 := (HB.out.cell (World.block_lt_of_cell? w _ hx206_1)).trans hx206_1; replace hx206_2 := (HB.out.cell (World.block_lt_of_cell? w _ hx206_2)).trans hx206_2; replace hx206_3 := (HB.out.cell (World.block_lt_of_cell? w _ hx206_3)).trans hx206_3; replace hx206_4 := (HB.out.cell (World.block_lt_of_cell? w _ hx206_4)).trans hx206_4; replace hx206_5 := (HB.out.cell (World.block_lt_of_cell? w _ hx206_5)).trans hx206_5; replace p206 := eq_true p206; replace q206 := eq_true q206) | (go_at_call 66; (with_reducible refine (smaltoref03_Span.calls ((rd_T74 l1 x5_2).f3.f0) ((rd_T74 l1 x5_2).f3.f1) 0 1000 true _ A29.out).mono ?_); rintro e w32 ⟨rfl, hb⟩; have n0_ := Aside0.mk (blk_below (g := gb194) (o := .cells #[.int .i64 a0_0, .int .i64 a0_1, .int .i64 a0_2, .int .i64 a0_3, .int .i64 a0_4] 23 (0, 0)) (by (with_reducible repeat (first | refine blk_drewN ?_ _ | refine blk_drew ?_ | refine blk_alloc ?_ _)); exact BK194.out) hb); have n1_ := Aside0.mk (below_step (by repeat (first | (with_reducible first | exact HB.out | apply below_alloc | apply pw_below_drewN | apply below_drew1 | refine below_set ?_ GE194.out) | exact HB.out)) hb); clear BK194; clear HB; have BK194 := n0_; have HB := n1_; clear n0_ n1_; (try clear hb); (try clear hb2); (try clear hk); (try clear hi)))
                          go_roundg k2
                          case measure => have := HJ2.out; have := HK2.out; omega
                          case rel => exact ⟨(wrap64 (x5_2 + 1)), (by first | rfl | (simp; done) | (simp [*]; done)), H', ⟨by have := HJ2.out; have := HK2.out; omega⟩, ⟨by (with_reducible repeat (first | refine blk_drewN ?_ _ | refine blk_drew ?_ | refine blk_alloc ?_ _)); exact BK194.out⟩, ⟨by repeat (first | (with_reducible first | exact HB.out | apply below_alloc | apply pw_below_drewN | apply below_drew1 | refine below_set ?_ GE194.out) | exact HB.out)⟩⟩
                        · replace c30 := Bool.eq_false_iff.mpr c30
                          subst c30
                          have H1 : (some 2) = some r := by rw [if_neg (show ¬ (false = true) by decide)] at H; exact H
                          clear H
                          have H := H1
                          clear H1
                          obtain rfl := Option.some.inj H
                          have p200 : 0 ≤ (x5_2 : Int) := of_decide_eq_true (by first | (with_reducible assumption) | assumption)
                          have q200 : x5_2 < (l1.length : Int) := of_decide_eq_true (by first | (with_reducible assumption) | assumption)
                          obtain ⟨ad200, e200, hx200_0, hx200_1, hx200_2, hx200_3, hx200_4, hx200_5⟩ := at_T74 HR1.out x5_2 p200 q200
                          cases e200
                          replace hx200_0 := (HB.out.cell (World.block_lt_of_cell? w _ hx200_0)).trans hx200_0
                          replace hx200_1 := (HB.out.cell (World.block_lt_of_cell? w _ hx200_1)).trans hx200_1
                          replace hx200_2 := (HB.out.cell (World.block_lt_of_cell? w _ hx200_2)).trans hx200_2
                          replace hx200_3 := (HB.out.cell (World.block_lt_of_cell? w _ hx200_3)).trans hx200_3
                          replace hx200_4 := (HB.out.cell (World.block_lt_of_cell? w _ hx200_4)).trans hx200_4
                          replace hx200_5 := (HB.out.cell (World.block_lt_of_cell? w _ hx200_5)).trans hx200_5
                          replace p200 := eq_true p200
                          replace q200 := eq_true q200
                          go_wp2_with (first | ((with_reducible refine gate_callee (f := 65) rfl ?_); refine goesL_ (some 48) rfl rfl Tryd.func65 (by kernel_rfl) rfl #[.int .i64 ((rd_T74 l1 x5_2).f0), .int .i64 1, .int .i64 200] rfl (by (try simp only [List.map_toArray, List.map_cons, List.map_nil]); first | done | rfl | (simp only [List.length_drop, List.length_take]; rfl)) ?_; (with_reducible refine (smaltoref03_In.calls ((rd_T74 l1 x5_2).f0) 1 200 true _ A23.out).mono ?_); rintro e w' ⟨rfl, ⟨nd, rfl⟩⟩; refine ⟨_, rfl, ?_⟩; have p202 : 0 ≤ (x5_2 : Int) := of_decide_eq_true (by first | (with_reducible assumption) | assumption); have q202 : x5_2 < (l1.length : Int) := of_decide_eq_true (by first | (with_reducible assumption) | assumption); obtain ⟨ad202, e202, hx202_0, hx202_1, hx202_2, hx202_3, hx202_4, hx202_5⟩ := at_T74 HR1.out x5_2 p202 q202; obtain rfl : ad200 = ad202 := (by injection e202); replace hx202_0 := (HB.out.cell (World.block_lt_of_cell? w _ hx202_0)).trans hx202_0; replace hx202_1 := (HB.out.cell (World.block_lt_of_cell? w _ hx202_1)).trans hx202_1; replace hx202_2 := (HB.out.cell (World.block_lt_of_cell? w _ hx202_2)).trans hx202_2; replace hx202_3 := (HB.out.cell (World.block_lt_of_cell? w _ hx202_3)).trans hx202_3; replace hx202_4 := (HB.out.cell (World.block_lt_of_cell? w _ hx202_4)).trans hx202_4; replace hx202_5 := (HB.out.cell (World.block_lt_of_cell? w _ hx202_5)).trans hx202_5; replace p202 := eq_true p202; replace q202 := eq_true q202) | (go_at_call 65; (with_reducible refine (smaltoref03_In.calls ((rd_T74 l1 x5_2).f1) 1 100 true _ A25.out).mono ?_); rintro e w' ⟨rfl, ⟨nd, rfl⟩⟩; have p204 : 0 ≤ (x5_2 : Int) := of_decide_eq_true (by first | (with_reducible assumption) | assumption); have q204 : x5_2 < (l1.length : Int) := of_decide_eq_true (by first | (with_reducible assumption) | assumption); obtain ⟨ad204, e204, hx204_0, hx204_1, hx204_2, hx204_3, hx204_4, hx204_5⟩ := at_T74 HR1.out x5_2 p204 q204; obtain rfl : ad200 = ad204 := (by injection e204); replace hx204_0 := (HB.out.cell (World.block_lt_of_cell? w _ hx204_0)).trans hx204_0; replace hx204_1 := (HB.out.cell (World.block_lt_of_cell? w _ hx204_1)).trans hx204_1; replace hx204_2 := (HB.out.cell (World.block_lt_of_cell? w _ hx204_2)).trans hx204_2; replace hx204_3 := (HB.out.cell (World.block_lt_of_cell? w _ hx204_3)).trans hx204_3; replace hx204_4 := (HB.out.cell (World.block_lt_of_cell? w _ hx204_4)).trans hx204_4; replace hx204_5 := (HB.out.cell (World.block_lt_of_cell? w _ hx204_5)).trans hx204_5; replace p204 := eq_true p204; replace q204 := eq_true q204) | (go_at_call 66; (with_reducible refine (smaltoref03_Span.calls ((rd_T74 l1 x5_2).f2.f0) ((rd_T74 l1 x5_2).f2.f1) 1 500 true _ A27.out).mono ?_); rintro e w33 ⟨rfl, hb⟩; have n0_ := Aside0.mk (blk_below (g := gb194) (o := .cells #[.int .i64 a0_0, .int .i64 a0_1, .int .i64 a0_2, .int .i64 a0_3, .int .i64 a0_4] 23 (0, 0)) (by (with_reducible repeat (first | refine blk_drewN ?_ _ | refine blk_drew ?_ | refine blk_alloc ?_ _)); exact BK194.out) hb); have n1_ := Aside0.mk (below_step (by repeat (first | (with_reducible first | exact HB.out | apply below_alloc | apply pw_below_drewN | apply below_drew1 | refine below_set ?_ GE194.out) | exact HB.out)) hb); clear BK194; clear HB; have BK194 := n0_; have HB := n1_; clear n0_ n1_; (try clear hb); (try clear hb2); (try clear hk); (try clear hi); have p206 : 0 ≤ (x5_2 : Int) := of_decide_eq_true (by first | (with_reducible assumption) | assumption); have q206 : x5_2 < (l1.length : Int) := of_decide_eq_true (by first | (with_reducible assumption) | assumption); obtain ⟨ad206, e206, hx206_0, hx206_1, hx206_2, hx206_3, hx206_4, hx206_5⟩ := at_T74 HR1.out x5_2 p206 q206; obtain rfl : ad200 = ad206 := (by injection e206); replace hx206_0 := (HB.out.cell (World.block_lt_of_cell? w _ hx206_0)).trans hx206_0; replace hx206_1 := (HB.out.cell (World.block_lt_of_cell? w _ hx206_1)).trans hx206_1; replace hx206_2 := (HB.out.cell (World.block_lt_of_cell? w _ hx206_2)).trans hx206_2; replace hx206_3 := (HB.out.cell (World.block_lt_of_cell? w _ hx206_3)).trans hx206_3; replace hx206_4 := (HB.out.cell (World.block_lt_of_cell? w _ hx206_4)).trans hx206_4; replace hx206_5 := (HB.out.cell (World.block_lt_of_cell? w _ hx206_5)).trans hx206_5; replace p206 := eq_true p206; replace q206 := eq_true q206) | (go_at_call 66; (with_reducible refine (smaltoref03_Span.calls ((rd_T74 l1 x5_2).f3.f0) ((rd_T74 l1 x5_2).f3.f1) 0 1000 false _ A29.out).mono ?_); rintro e w34 ⟨rfl, hb⟩; have n0_ := Aside0.mk (blk_below (g := gb194) (o := .cells #[.int .i64 a0_0, .int .i64 a0_1, .int .i64 a0_2, .int .i64 a0_3, .int .i64 a0_4] 23 (0, 0)) (by (with_reducible repeat (first | refine blk_drewN ?_ _ | refine blk_drew ?_ | refine blk_alloc ?_ _)); exact BK194.out) hb); have n1_ := Aside0.mk (below_step (by repeat (first | (with_reducible first | exact HB.out | apply below_alloc | apply pw_below_drewN | apply below_drew1 | refine below_set ?_ GE194.out) | exact HB.out)) hb); clear BK194; clear HB; have BK194 := n0_; have HB := n1_; clear n0_ n1_; (try clear hb); (try clear hb2); (try clear hk); (try clear hi)))
                          go_ret
                          exact ⟨by first | rfl | (simp [errW_none, errW_some] <;> rfl) | (simp [*, errW_none, errW_some] <;> rfl), by repeat (first | (with_reducible first | exact HB.out | apply below_alloc | apply pw_below_drewN | apply below_drew1 | refine below_set ?_ GE194.out) | exact HB.out)⟩
                      · replace c28 := Bool.eq_false_iff.mpr c28
                        subst c28
                        have H1 : (some 2) = some r := by rw [if_neg (show ¬ (false = true) by decide)] at H; exact H
                        clear H
                        have H := H1
                        clear H1
                        obtain rfl := Option.some.inj H
                        have p200 : 0 ≤ (x5_2 : Int) := of_decide_eq_true (by first | (with_reducible assumption) | assumption)
                        have q200 : x5_2 < (l1.length : Int) := of_decide_eq_true (by first | (with_reducible assumption) | assumption)
                        obtain ⟨ad200, e200, hx200_0, hx200_1, hx200_2, hx200_3, hx200_4, hx200_5⟩ := at_T74 HR1.out x5_2 p200 q200
                        cases e200
                        replace hx200_0 := (HB.out.cell (World.block_lt_of_cell? w _ hx200_0)).trans hx200_0
                        replace hx200_1 := (HB.out.cell (World.block_lt_of_cell? w _ hx200_1)).trans hx200_1
                        replace hx200_2 := (HB.out.cell (World.block_lt_of_cell? w _ hx200_2)).trans hx200_2
                        replace hx200_3 := (HB.out.cell (World.block_lt_of_cell? w _ hx200_3)).trans hx200_3
                        replace hx200_4 := (HB.out.cell (World.block_lt_of_cell? w _ hx200_4)).trans hx200_4
                        replace hx200_5 := (HB.out.cell (World.block_lt_of_cell? w _ hx200_5)).trans hx200_5
                        replace p200 := eq_true p200
                        replace q200 := eq_true q200
                        go_wp2_with (first | ((with_reducible refine gate_callee (f := 65) rfl ?_); refine goesL_ (some 48) rfl rfl Tryd.func65 (by kernel_rfl) rfl #[.int .i64 ((rd_T74 l1 x5_2).f0), .int .i64 1, .int .i64 200] rfl (by (try simp only [List.map_toArray, List.map_cons, List.map_nil]); first | done | rfl | (simp only [List.length_drop, List.length_take]; rfl)) ?_; (with_reducible refine (smaltoref03_In.calls ((rd_T74 l1 x5_2).f0) 1 200 true _ A23.out).mono ?_); rintro e w' ⟨rfl, ⟨nd, rfl⟩⟩; refine ⟨_, rfl, ?_⟩; have p202 : 0 ≤ (x5_2 : Int) := of_decide_eq_true (by first | (with_reducible assumption) | assumption); have q202 : x5_2 < (l1.length : Int) := of_decide_eq_true (by first | (with_reducible assumption) | assumption); obtain ⟨ad202, e202, hx202_0, hx202_1, hx202_2, hx202_3, hx202_4, hx202_5⟩ := at_T74 HR1.out x5_2 p202 q202; obtain rfl : ad200 = ad202 := (by injection e202); replace hx202_0 := (HB.out.cell (World.block_lt_of_cell? w _ hx202_0)).trans hx202_0; replace hx202_1 := (HB.out.cell (World.block_lt_of_cell? w _ hx202_1)).trans hx202_1; replace hx202_2 := (HB.out.cell (World.block_lt_of_cell? w _ hx202_2)).trans hx202_2; replace hx202_3 := (HB.out.cell (World.block_lt_of_cell? w _ hx202_3)).trans hx202_3; replace hx202_4 := (HB.out.cell (World.block_lt_of_cell? w _ hx202_4)).trans hx202_4; replace hx202_5 := (HB.out.cell (World.block_lt_of_cell? w _ hx202_5)).trans hx202_5; replace p202 := eq_true p202; replace q202 := eq_true q202) | (go_at_call 65; (with_reducible refine (smaltoref03_In.calls ((rd_T74 l1 x5_2).f1) 1 100 true _ A25.out).mono ?_); rintro e w' ⟨rfl, ⟨nd, rfl⟩⟩; have p204 : 0 ≤ (x5_2 : Int) := of_decide_eq_true (by first | (with_reducible assumption) | assumption); have q204 : x5_2 < (l1.length : Int) := of_decide_eq_true (by first | (with_reducible assumption) | assumption); obtain ⟨ad204, e204, hx204_0, hx204_1, hx204_2, hx204_3, hx204_4, hx204_5⟩ := at_T74 HR1.out x5_2 p204 q204; obtain rfl : ad200 = ad204 := (by injection e204); replace hx204_0 := (HB.out.cell (World.block_lt_of_cell? w _ hx204_0)).trans hx204_0; replace hx204_1 := (HB.out.cell (World.block_lt_of_cell? w _ hx204_1)).trans hx204_1; replace hx204_2 := (HB.out.cell (World.block_lt_of_cell? w _ hx204_2)).trans hx204_2; replace hx204_3 := (HB.out.cell (World.block_lt_of_cell? w _ hx204_3)).trans hx204_3; replace hx204_4 := (HB.out.cell (World.block_lt_of_cell? w _ hx204_4)).trans hx204_4; replace hx204_5 := (HB.out.cell (World.block_lt_of_cell? w _ hx204_5)).trans hx204_5; replace p204 := eq_true p204; replace q204 := eq_true q204) | (go_at_call 66; (with_reducible refine (smaltoref03_Span.calls ((rd_T74 l1 x5_2).f2.f0) ((rd_T74 l1 x5_2).f2.f1) 1 500 false _ A27.out).mono ?_); rintro e w35 ⟨rfl, hb⟩; have n0_ := Aside0.mk (blk_below (g := gb194) (o := .cells #[.int .i64 a0_0, .int .i64 a0_1, .int .i64 a0_2, .int .i64 a0_3, .int .i64 a0_4] 23 (0, 0)) (by (with_reducible repeat (first | refine blk_drewN ?_ _ | refine blk_drew ?_ | refine blk_alloc ?_ _)); exact BK194.out) hb); have n1_ := Aside0.mk (below_step (by repeat (first | (with_reducible first | exact HB.out | apply below_alloc | apply pw_below_drewN | apply below_drew1 | refine below_set ?_ GE194.out) | exact HB.out)) hb); clear BK194; clear HB; have BK194 := n0_; have HB := n1_; clear n0_ n1_; (try clear hb); (try clear hb2); (try clear hk); (try clear hi)))
                        go_ret
                        exact ⟨by first | rfl | (simp [errW_none, errW_some] <;> rfl) | (simp [*, errW_none, errW_some] <;> rfl), by repeat (first | (with_reducible first | exact HB.out | apply below_alloc | apply pw_below_drewN | apply below_drew1 | refine below_set ?_ GE194.out) | exact HB.out)⟩
                    · replace c26 := Bool.eq_false_iff.mpr c26
                      subst c26
                      have H1 : (some 2) = some r := by rw [if_neg (show ¬ (false = true) by decide)] at H; exact H
                      clear H
                      have H := H1
                      clear H1
                      obtain rfl := Option.some.inj H
                      have p200 : 0 ≤ (x5_2 : Int) := of_decide_eq_true (by first | (with_reducible assumption) | assumption)
                      have q200 : x5_2 < (l1.length : Int) := of_decide_eq_true (by first | (with_reducible assumption) | assumption)
                      obtain ⟨ad200, e200, hx200_0, hx200_1, hx200_2, hx200_3, hx200_4, hx200_5⟩ := at_T74 HR1.out x5_2 p200 q200
                      cases e200
                      replace hx200_0 := (HB.out.cell (World.block_lt_of_cell? w _ hx200_0)).trans hx200_0
                      replace hx200_1 := (HB.out.cell (World.block_lt_of_cell? w _ hx200_1)).trans hx200_1
                      replace hx200_2 := (HB.out.cell (World.block_lt_of_cell? w _ hx200_2)).trans hx200_2
                      replace hx200_3 := (HB.out.cell (World.block_lt_of_cell? w _ hx200_3)).trans hx200_3
                      replace hx200_4 := (HB.out.cell (World.block_lt_of_cell? w _ hx200_4)).trans hx200_4
                      replace hx200_5 := (HB.out.cell (World.block_lt_of_cell? w _ hx200_5)).trans hx200_5
                      replace p200 := eq_true p200
                      replace q200 := eq_true q200
                      go_wp2_with (first | ((with_reducible refine gate_callee (f := 65) rfl ?_); refine goesL_ (some 48) rfl rfl Tryd.func65 (by kernel_rfl) rfl #[.int .i64 ((rd_T74 l1 x5_2).f0), .int .i64 1, .int .i64 200] rfl (by (try simp only [List.map_toArray, List.map_cons, List.map_nil]); first | done | rfl | (simp only [List.length_drop, List.length_take]; rfl)) ?_; (with_reducible refine (smaltoref03_In.calls ((rd_T74 l1 x5_2).f0) 1 200 true _ A23.out).mono ?_); rintro e w' ⟨rfl, ⟨nd, rfl⟩⟩; refine ⟨_, rfl, ?_⟩; have p202 : 0 ≤ (x5_2 : Int) := of_decide_eq_true (by first | (with_reducible assumption) | assumption); have q202 : x5_2 < (l1.length : Int) := of_decide_eq_true (by first | (with_reducible assumption) | assumption); obtain ⟨ad202, e202, hx202_0, hx202_1, hx202_2, hx202_3, hx202_4, hx202_5⟩ := at_T74 HR1.out x5_2 p202 q202; obtain rfl : ad200 = ad202 := (by injection e202); replace hx202_0 := (HB.out.cell (World.block_lt_of_cell? w _ hx202_0)).trans hx202_0; replace hx202_1 := (HB.out.cell (World.block_lt_of_cell? w _ hx202_1)).trans hx202_1; replace hx202_2 := (HB.out.cell (World.block_lt_of_cell? w _ hx202_2)).trans hx202_2; replace hx202_3 := (HB.out.cell (World.block_lt_of_cell? w _ hx202_3)).trans hx202_3; replace hx202_4 := (HB.out.cell (World.block_lt_of_cell? w _ hx202_4)).trans hx202_4; replace hx202_5 := (HB.out.cell (World.block_lt_of_cell? w _ hx202_5)).trans hx202_5; replace p202 := eq_true p202; replace q202 := eq_true q202) | (go_at_call 65; (with_reducible refine (smaltoref03_In.calls ((rd_T74 l1 x5_2).f1) 1 100 false _ A25.out).mono ?_); rintro e w' ⟨rfl, ⟨nd, rfl⟩⟩))
                      go_ret
                      exact ⟨by first | rfl | (simp [errW_none, errW_some] <;> rfl) | (simp [*, errW_none, errW_some] <;> rfl), by repeat (first | (with_reducible first | exact HB.out | apply below_alloc | apply pw_below_drewN | apply below_drew1 | refine below_set ?_ GE194.out) | exact HB.out)⟩
                  · replace c24 := Bool.eq_false_iff.mpr c24
                    subst c24
                    have H1 : (some 2) = some r := by rw [if_neg (show ¬ (false = true) by decide)] at H; exact H
                    clear H
                    have H := H1
                    clear H1
                    obtain rfl := Option.some.inj H
                    have p200 : 0 ≤ (x5_2 : Int) := of_decide_eq_true (by first | (with_reducible assumption) | assumption)
                    have q200 : x5_2 < (l1.length : Int) := of_decide_eq_true (by first | (with_reducible assumption) | assumption)
                    obtain ⟨ad200, e200, hx200_0, hx200_1, hx200_2, hx200_3, hx200_4, hx200_5⟩ := at_T74 HR1.out x5_2 p200 q200
                    cases e200
                    replace hx200_0 := (HB.out.cell (World.block_lt_of_cell? w _ hx200_0)).trans hx200_0
                    replace hx200_1 := (HB.out.cell (World.block_lt_of_cell? w _ hx200_1)).trans hx200_1
                    replace hx200_2 := (HB.out.cell (World.block_lt_of_cell? w _ hx200_2)).trans hx200_2
                    replace hx200_3 := (HB.out.cell (World.block_lt_of_cell? w _ hx200_3)).trans hx200_3
                    replace hx200_4 := (HB.out.cell (World.block_lt_of_cell? w _ hx200_4)).trans hx200_4
                    replace hx200_5 := (HB.out.cell (World.block_lt_of_cell? w _ hx200_5)).trans hx200_5
                    replace p200 := eq_true p200
                    replace q200 := eq_true q200
                    go_wp2_with (first | ((with_reducible refine gate_callee (f := 65) rfl ?_); refine goesL_ (some 48) rfl rfl Tryd.func65 (by kernel_rfl) rfl #[.int .i64 ((rd_T74 l1 x5_2).f0), .int .i64 1, .int .i64 200] rfl (by (try simp only [List.map_toArray, List.map_cons, List.map_nil]); first | done | rfl | (simp only [List.length_drop, List.length_take]; rfl)) ?_; (with_reducible refine (smaltoref03_In.calls ((rd_T74 l1 x5_2).f0) 1 200 false _ A23.out).mono ?_); rintro e w' ⟨rfl, ⟨nd, rfl⟩⟩; refine ⟨_, rfl, ?_⟩))
                    go_ret
                    exact ⟨by first | rfl | (simp [errW_none, errW_some] <;> rfl) | (simp [*, errW_none, errW_some] <;> rfl), by repeat (first | (with_reducible first | exact HB.out | apply below_alloc | apply pw_below_drewN | apply below_drew1 | refine below_set ?_ GE194.out) | exact HB.out)⟩
                · rw [if_neg c22] at H
                  exact absurd H (by simp)
              · rw [if_neg c21] at H
                have c21b0 : decide (x5_2 < (l1.length : Int)) = false := decide_eq_false c21
                clear c21
                obtain rfl := Option.some.inj H
                go_wp2
                go_ret
                exact ⟨by first | rfl | (simp [errW_none, errW_some] <;> rfl) | (simp [*, errW_none, errW_some] <;> rfl), by repeat (first | (with_reducible first | exact HB.out | apply below_alloc | apply pw_below_drewN | apply below_drew1 | refine below_set ?_ GE194.out) | exact HB.out)⟩
end Go.Proofs.YtbijamlgcebgeaaDoor.Q

-- part JA
namespace Go.Proofs.YtbijamlgcebgeaaDoor.Hand
open Go.RowKit Go.Shelf Go.Sort Go.Proofs.YtbijamlgcebgeaaDoorW.PrintWords Go.Proofs.YtbijamlgcebgeaaDoorW.PrintMore Go.Proofs.YtbijamlgcebgeaaDoor.Q
theorem w64 {x : Int} (h : -9223372036854775808 ≤ x ∧ x < 9223372036854775808) : wrap64 x = x := by
  unfold wrap64; omega
theorem In_eq (a b c : Int) : smaltoref03_In.f a b c = some (allIn b c [a]) := by
  unfold smaltoref03_In.f
  rw [allIn_one]
  split <;> rename_i h <;> simp <;> omega
theorem Span_eq (a b c d : Int) : smaltoref03_Span.f a b c d = some (decide (a ≤ b) && allIn c d [a, b]) := by
  unfold smaltoref03_Span.f
  rw [In_eq, allIn_two, allIn_one]
  simp only [Option.bind_some]
  split <;> rename_i h <;> simp at h ⊢
  · rw [Bool.eq_iff_iff]; simp; omega
  · omega
theorem rd74_get {l : List S74} {i : Nat} (h : i < l.length) : rd_T74 l (i : Int) = l[i] := by
  simp [rd_T74, List.getD_eq_getElem?_getD, h]
theorem rd_get {l : List Int} {i : Nat} (h : i < l.length) : rd l (i : Int) = l[i] := by
  simp [rd, List.getD_eq_getElem?_getD, h]
theorem Check_l0 (l : List S74) (hl : l.length ≤ 1000) : ∀ n i k : Nat, i + n = l.length → n < k → smaltoref03_Check.l0 k l i = some (if (l.drop i).any (fun x => !signB x) = true then 2 else 0) := by
  intro n
  induction n with
  | zero =>
    intro i k h hk
    obtain ⟨k, rfl⟩ : ∃ j, k = j + 1 := ⟨k - 1, by omega⟩
    unfold smaltoref03_Check.l0
    rw [if_neg (by omega), List.drop_eq_nil_of_le (by omega)]
    rfl
  | succ n ih =>
    intro i k h hk
    obtain ⟨k, rfl⟩ : ∃ j, k = j + 1 := ⟨k - 1, by omega⟩
    have hi : i < l.length := by omega
    unfold smaltoref03_Check.l0
    rw [if_pos (by omega), if_pos (by omega), rd74_get hi, List.drop_eq_getElem_cons hi, List.any_cons, w64 (by omega)]
    have := ih (i + 1) k (by omega) (by omega)
    rw [show ((i + 1 : Nat) : Int) = (i : Int) + 1 by omega] at this
    rw [this]
    simp only [In_eq, Span_eq, Option.bind_some]
    generalize hx : l[i] = x
    have hs : signB x = (allIn 1 200 [x.f0] && allIn 1 100 [x.f1] && (decide (x.f2.f0 ≤ x.f2.f1) && allIn 1 500 [x.f2.f0, x.f2.f1]) && (decide (x.f3.f0 ≤ x.f3.f1) && allIn 0 1000 [x.f3.f0, x.f3.f1])) := rfl
    rw [hs]
    cases allIn 1 200 [x.f0] <;> cases allIn 1 100 [x.f1] <;> cases (decide (x.f2.f0 ≤ x.f2.f1) && allIn 1 500 [x.f2.f0, x.f2.f1]) <;> cases (decide (x.f3.f0 ≤ x.f3.f1) && allIn 0 1000 [x.f3.f0, x.f3.f1]) <;> simp
theorem Check_eq (a b c d e : Int) (l : List S74) (hl : l.length ≤ 1000) (k : Nat) (hk : l.length + 2 ≤ k) : smaltoref03_Check.f k a b c d e l = some (checkF a b c d e l) := by
  obtain ⟨k, rfl⟩ : ∃ j, k = j + 1 := ⟨k - 1, by omega⟩
  have h0 := Check_l0 l hl l.length 0 k (by omega) (by omega)
  unfold smaltoref03_Check.f checkF rulesB
  simp only [In_eq, Option.bind_some]
  have h4 : smaltoref03_Check.j0 (k + 1) l true = some 4 := by unfold smaltoref03_Check.j0; rfl
  have h5 : smaltoref03_Check.j0 (k + 1) l false = some (if 6 < l.length then 5 else if l.any (fun x => !signB x) = true then 2 else 0) := by
    rw [smaltoref03_Check.j0, if_neg (by simp)]
    simp only [List.drop_zero, show ((0 : Nat) : Int) = 0 from rfl] at h0
    rw [h0]
    by_cases h6 : 6 < l.length
    · rw [if_pos (by omega), if_pos h6]
    · rw [if_neg (by omega), if_neg h6]
  cases allIn 1 3 [a] <;> cases allIn 1 200 [b] <;> cases allIn 0 20 [c] <;> cases allIn 1 2000 [d] <;> cases allIn 0 100 [e] <;> simp [h4, h5]
/-- The error of a load. -/
def openF (a b c d e : Int) (l : List S74) (load : List Int) : Int := match newR a b c d e l load with
  | .error x => x
  | .ok _ => 0
/-- A load that has its form is the list of its set. -/
theorem bits_snoc : ∀ s : Nat, s < 64 → ∀ x : Nat, x < 6 → s < 2 ^ x → bitsOf (s ||| 2 ^ x) = bitsOf s ++ [x] ∧ s ||| 2 ^ x < 2 ^ (x + 1) := by decide +kernel
theorem setL_list {n : Nat} {load : List Int} (hn : n ≤ 6) : ∀ (d k s0 s : Nat), k + d = load.length → setL n load d k s0 = some s → (bitsOf s0).map Int.ofNat = load.take k → (∀ x : Nat, 0 < k → rd load ((k : Int) - 1) = x → s0 < 2 ^ (x + 1)) → (k = 0 → s0 = 0) → (0 < k → 0 ≤ rd load ((k : Int) - 1)) → s0 < 64 →
    (bitsOf s).map Int.ofNat = load ∧ s < 64 := by
  intro d
  induction d with
  | zero =>
    intro k s0 s hk h h1 h2 h3 h5 h4
    cases h
    rw [h1, List.take_of_length_le (by omega)]
    exact ⟨rfl, h4⟩
  | succ d ih =>
    intro k s0 s hk h h1 h2 h3 h5 h4
    unfold setL at h
    have hi : k < load.length := by omega
    split at h
    · rename_i ha
      split at h
      · cases h
      · rename_i hb
        rw [allIn_one] at ha
        simp only [Bool.and_eq_true, decide_eq_true_eq] at ha
        obtain ⟨x, hx⟩ : ∃ x : Nat, rd load k = x := ⟨(rd load k).toNat, by omega⟩
        rw [hx] at h ha
        simp only [Int.toNat_natCast] at h
        have hlt : s0 < 2 ^ x := by
          by_cases hk0 : k = 0
          · rw [h3 hk0]; exact Nat.two_pow_pos x
          · obtain ⟨y, hy⟩ : ∃ y : Nat, rd load ((k : Int) - 1) = y := ⟨(rd load ((k : Int) - 1)).toNat, by have := h5 (by omega); omega⟩
            have hyx : y < x := by
              have : ¬ (rd load k ≤ rd load ((k : Int) - 1)) := fun hc => hb ⟨by omega, hc⟩
              omega
            exact Nat.lt_of_lt_of_le (h2 y (by omega) hy) (Nat.pow_le_pow_right (by omega) (by omega))
        obtain ⟨q1, q2⟩ := bits_snoc s0 h4 x (by omega) hlt
        refine ih (k + 1) _ s (by omega) h ?_ ?_ (by omega) ?_ ?_
        · rw [q1, List.map_append, h1, List.take_succ_eq_append_getElem hi]
          have := rd_get hi
          rw [hx] at this
          simp [← this]
        · intro x' _ hx'
          rw [show ((k + 1 : Nat) : Int) - 1 = k by omega, hx] at hx'
          obtain rfl : x = x' := by omega
          exact q2
        · intro _
          rw [show ((k + 1 : Nat) : Int) - 1 = k by omega, hx]
          omega
        · have : 2 ^ (x + 1) ≤ 2 ^ 6 := Nat.pow_le_pow_right (by omega) (by omega)
          omega
    · cases h
theorem newR_list {a b c d e : Int} {l : List S74} {load : List Int} {s : Nat} (h : newR a b c d e l load = .ok s) : (bitsOf s).map Int.ofNat = load ∧ s < 64 :=
  setL_list (check_ok (newR_ok h).1).len _ _ _ _ (by omega) (newR_ok h).2 (by simp [bitsOf]) (by omega) (by simp) (by omega) (by omega)
end Go.Proofs.YtbijamlgcebgeaaDoor.Hand

-- part IM
namespace Go.Proofs.YtbijamlgcebgeaaDoor.Hand
open Go.RowKit
section
variable {P : Program} {ops : Array Oper} {md : Region.Mode} {Q : Exit → Act → World → Prop}
end
end Go.Proofs.YtbijamlgcebgeaaDoor.Hand

-- part IO
namespace Go.Proofs.YtbijamlgcebgeaaDoor.Hand
open Go.RowKit
section
variable {P : Program} {ops : Array Oper} {md : Region.Mode}
theorem countP_set {p q : Nat → Bool} {i : Nat} (hp : p i = true) (hq : q i = false) (hpq : ∀ j, j ≠ i → q j = p j) : ∀ L : List Nat, L.Nodup → i ∈ L → L.countP p = L.countP q + 1 := by
  intro L
  induction L with
  | nil => intro _ h; cases h
  | cons j L ih =>
    intro hn h
    have hn' := List.nodup_cons.1 hn
    simp only [List.countP_cons]
    by_cases hj : j = i
    · subst hj
      have : L.countP p = L.countP q := List.countP_congr (fun k hk => by rw [hpq k (fun e => hn'.1 (e ▸ hk))])
      simp [hp, hq, this]
    · rw [ih hn'.2 (by simpa [Ne.symm hj] using h), hpq j hj]
      omega
def ssaTB (md : Region.Mode) (ops : Array Oper) (n N : Nat) (lims : List Nat) : Bool :=
  Region.noSelect ops && decide (n ≤ N) && (lims.length == n) &&
  ((List.range ops.size).all fun i => (List.range ops.size).all fun j => decide (i = j) || (dstAt ops i == none) || (dstAt ops i != dstAt ops j)) &&
  ((List.range N).all fun i => decide (i < n) || dstAt ops i == none) &&
  ((List.range N).all fun i => (List.range n).all fun j => match dstAt ops j, ops[i]? with
    | some d, some o => !(o.looksAt ops).contains d || Region.waitsFor md ops i j
    | _, _ => true) &&
  ((List.range N).all fun i => match ops[i]? with
    | some o => o.after.toList.all fun e => !Region.binds md e || decide (e.on < i)
    | none => true) &&
  ((List.range N).all fun i => decide (i < n) || decide (N ≤ i + 1) || Region.waitsFor md ops (i + 1) i) &&
  ((List.range n).all fun i => decide (N ≤ n + lims.getD i 0) || Region.waitsFor md ops (n + lims.getD i 0) i)
theorem wpAny_ssaT {Q : Exit → Act → World → Prop} {a0 : Act} {W : Nat → World} (n N g : Nat) (lims : List Nat) (hNs : N ≤ ops.size) (hwall : wallB md ops N = true) (hB : ssaTB md ops n N lims = true)
    (h : ssaL P ops W ((ops.toList.take n).zip lims) (fun aF => (∀ k, n + k < N → ∀ o, ops[n + k]? = some o → eventK P ops (W k) (W (k + 1)) o aF) ∧ ∀ listed : Array Bool, listed.size = ops.size → (∀ i, i < N → listed.getD i true = true) → (∀ i, N ≤ i → i < ops.size → listed.getD i true = false) → wpAny P md ops Q g listed aF (W (N - n))) a0) :
    wpAny P md ops Q (N + g) (Array.replicate ops.size false) a0 (W 0) := by
  simp only [ssaTB, Bool.and_eq_true, beq_iff_eq, decide_eq_true_eq] at hB
  obtain ⟨⟨⟨⟨⟨⟨⟨⟨hsel, hn⟩, hl⟩, hdd⟩, hdn⟩, hlook⟩, hback⟩, hchain⟩, hlim⟩ := hB
  have hdd' : ∀ i j, i ≠ j → ∀ d, dstAt ops i = some d → dstAt ops j ≠ some d := by
    intro i j hij d hi hj
    have hi' : i < ops.size := by
      rcases Nat.lt_or_ge i ops.size with h | h
      · exact h
      · simp [dstAt, Array.getElem?_eq_none h] at hi
    have hj' : j < ops.size := by
      rcases Nat.lt_or_ge j ops.size with h | h
      · exact h
      · simp [dstAt, Array.getElem?_eq_none h] at hj
    have := List.all_eq_true.1 (List.all_eq_true.1 hdd i (List.mem_range.2 hi')) j (List.mem_range.2 hj')
    simp [hij, hi, hj] at this
  have a00 : a0 = putAll ops (fun _ => undef) n a0 (fun j => decide (j < 0)) := by
    have : ∀ (L : List Nat) (a : Act), L.foldl (putStep ops (fun _ => undef) (fun j => decide (j < 0))) a = a := by
      intro L
      induction L with
      | nil => intro a; rfl
      | cons j L ih => intro a; exact ih a
    exact (this _ _).symm
  obtain ⟨v, hy, hev, hQ⟩ := ssaL_vals W a0 n lims (Nat.le_trans hn hNs) hl n 0 (fun _ => undef) (by omega) (fun i hi => by omega) hdd' (by rw [List.drop_zero]; exact a00 ▸ h)
  have waits : ∀ (i : Nat) (o : Oper), i < N → ops[i]? = some o → ∀ t ∈ o.looksAt ops, ∀ j, j < n → dstAt ops j = some t → ∃ e ∈ o.after, Region.binds md e = true ∧ e.on = j := by
    intro i o hiN ho t ht j hj hd
    have hi' : i < ops.size := (Array.getElem?_eq_some_iff.1 ho).1
    have := List.all_eq_true.1 (List.all_eq_true.1 hlook i (List.mem_range.2 hiN)) j (List.mem_range.2 hj)
    rw [hd, ho] at this
    have hc : (o.looksAt ops).contains t = true := by simpa using ht
    simp only [hc, Bool.not_true, Bool.false_or] at this
    obtain ⟨o', ho', e, he, hb, hon⟩ := Region.waitsFor_spec this
    have : o' = o := Option.some.inj (ho'.symm.trans ho)
    subst this
    exact ⟨e, he, hb, hon⟩
  have back : ∀ (i : Nat) (o : Oper), i < N → ops[i]? = some o → ∀ e ∈ o.after, Region.binds md e = true → e.on < i := by
    intro i o hiN ho e he hb
    have hi' : i < ops.size := (Array.getElem?_eq_some_iff.1 ho).1
    have := List.all_eq_true.1 hback i (List.mem_range.2 hiN)
    rw [ho] at this
    have := List.all_eq_true.1 this e (by simpa using he)
    simpa [hb] using this
  -- one step
  have main : ∀ (f : Nat) (listed : Array Bool) (k : Nat), listed.size = ops.size → k ≤ N - n → (∀ t, n + t < N → listed.getD (n + t) true = decide (t < k)) →
      (∀ i, i < n → listed.getD i true = false → k ≤ lims.getD i 0 ∨ N ≤ n + lims.getD i 0) → (∀ i, N ≤ i → i < ops.size → listed.getD i true = false) → (List.range N).countP (fun i => !listed.getD i true) = f →
      wpAny P md ops Q (f + g) listed (putAll ops v n a0 (fun i => listed.getD i true)) (W k) := by
    have allOf : ∀ (listed : Array Bool), listed.size = ops.size → (∀ i, i < N → i ∉ Region.ready md ops listed) → ∀ i, i < N → listed.getD i true = true := by
      intro listed hs hr i
      induction i using Nat.strongRecOn with
      | _ i ih =>
        intro hi
        cases hb : listed.getD i true with
        | true => rfl
        | false =>
          have hio : i < ops.size := by omega
          have : i ∈ Region.ready md ops listed := mem_ready.2 ⟨hb, ops[i], Array.getElem?_eq_getElem hio, fun e he hbd => by
            have hlt := back i _ hi (Array.getElem?_eq_getElem hio) e he hbd
            have := ih e.on hlt (by omega)
            have hsz : e.on < listed.size := by omega
            simp only [Array.getD_eq_getD_getElem?, Array.getElem?_eq_getElem hsz, Option.getD_some] at this ⊢
            exact this⟩
          exact absurd this (hr i hi)
    intro f
    induction f with
    | zero =>
      intro listed k hs hk hevl hun htl hc
      have hall : ∀ i, i < N → listed.getD i true = true := by
        intro i hi
        have := List.countP_eq_zero.1 hc i (List.mem_range.2 hi)
        simpa using this
      have hk' : k = N - n := by
        rcases Nat.lt_or_ge k (N - n) with h | h
        · have h1 := hevl k (by omega)
          rw [hall (n + k) (by omega)] at h1
          simp at h1
        · omega
      have : putAll ops v n a0 (fun i => listed.getD i true) = putAll ops v n a0 (fun j => decide (j < n)) := 
        foldPut_congr _ _ (fun j hj => by have := List.mem_range.1 hj; rw [hall j (by omega)]; simp [this])
      rw [this, hk', Nat.zero_add]
      exact hQ listed hs hall htl
    | succ f ih =>
      intro listed k hs hk hevl hun htl hc
      have hex : ∃ i, i < N ∧ listed.getD i true = false := by
        have : 0 < (List.range N).countP (fun i => !listed.getD i true) := by omega
        obtain ⟨i, hi, hp⟩ := List.countP_pos_iff.1 this
        exact ⟨i, List.mem_range.1 hi, by simpa using hp⟩
      have hnot : ¬ ∀ i, i < N → i ∉ Region.ready md ops listed := fun h => by
        obtain ⟨i, hi, hb⟩ := hex
        rw [allOf listed hs h i hi] at hb
        cases hb
      rw [show f + 1 + g = (f + g) + 1 by omega]
      refine ⟨fun hr => absurd (fun i _ => by rw [hr]; simp) hnot, fun i hi => ?_⟩
      obtain ⟨hil, o, ho, hafter⟩ := mem_ready.1 hi
      have hio : i < ops.size := (Array.getElem?_eq_some_iff.1 ho).1
      have hiN : i < N := by
        rcases Nat.lt_or_ge i N with h | h
        · exact h
        · obtain ⟨i0, h0, hb0⟩ := hex
          exact absurd hi (wall_waits hwall h0 hb0 h)
      have hset : (listed.setIfInBounds i true).getD i true = true := by simp [Array.getD_eq_getD_getElem?, Array.getElem?_setIfInBounds, hs, hio]
      have hc' : (List.range N).countP (fun j => !(listed.setIfInBounds i true).getD j true) = f := by
        have := countP_set (p := fun j => !listed.getD j true) (q := fun j => !(listed.setIfInBounds i true).getD j true) (i := i) (by simp [hil]) (by simp [hset]) (fun j hj => by
          simp only [getD_set_ne true (Ne.symm hj)]) (List.range N) List.nodup_range (List.mem_range.2 hiN)
        omega
      have htl' : ∀ j, N ≤ j → j < ops.size → (listed.setIfInBounds i true).getD j true = false := fun j h1 h2 => by rw [getD_set_ne true (by omega)]; exact htl j h1 h2
      -- the values are the final ones
      have hsame : ∀ q : Nat → Bool, (∀ j, j < n → listed.getD j true = true → (∃ e ∈ o.after, Region.binds md e = true ∧ e.on = j) → q j = true) → 
          execOp (putAll ops v n a0 (fun i => listed.getD i true)).eval o = execOp (putAll ops v n a0 q).eval o ∧ Region.wanted o (yielded ops (putAll ops v n a0 (fun i => listed.getD i true)).tmps) = Region.wanted o (yielded ops (putAll ops v n a0 q).tmps) := by
        intro q hq
        refine ssa_congr (fun cs b => Region.noSelect_spec hsel i o cs b ho) (fun t ht j hj hd => ?_)
        obtain ⟨e, he, hb, hon⟩ := waits i o hiN ho t ht j hj hd
        have h1 := hafter e he hb
        rw [hon] at h1
        have h2 : listed.getD j true = true := by
          cases hx : listed.getD j true with
          | true => rfl
          | false => rw [getD_both hx] at h1; cases h1
        rw [h2, hq j hj h2 ⟨e, he, hb, hon⟩]
      by_cases hin : i < n
      · have hkl : k ≤ lims.getD i 0 ∨ N ≤ n + lims.getD i 0 := hun i hin hil
        have hkl' : k ≤ lims.getD i 0 := by omega
        have hyi := hy i hin o ho k hkl'
        obtain ⟨e1, e2⟩ := hsame (fun j => decide (j < i)) (fun j hj _ ⟨e, he, hb, hon⟩ => by have := back i o hiN ho e he hb; simp; omega)
        have hyi' := hyi.of_same e1 e2
        refine wpOp_of_stOp (K := fun a' => a' = (putAll ops v n a0 (fun i => listed.getD i true)).put o.dst (v i)) (fun a' ha' => ?_) (hyi'.stOp ho rfl)
        subst ha'
        have hdo : o.dst = dstAt ops i := by simp [dstAt, ho]
        rw [hdo, ← putAll_set (q := fun j => (listed.setIfInBounds i true).getD j true) hin (fun j hj d hdi => hdd' i j (Ne.symm hj) d hdi) hil hset (fun j hj => getD_set_ne true (Ne.symm hj))]
        refine ih _ k (by simpa using hs) hk (fun t ht => ?_) (fun j hj hjl => ?_) htl' hc'
        · rw [getD_set_ne true (by omega)]; exact hevl t ht
        · by_cases hij : i = j
          · subst hij; rw [hset] at hjl; cases hjl
          · rw [getD_set_ne true hij] at hjl; exact hun j hj hjl
      · obtain ⟨t, rfl⟩ : ∃ t, i = n + t := ⟨i - n, by omega⟩
        have h1 := hevl t hiN
        rw [hil] at h1
        have htk : k ≤ t := by simpa using h1.symm
        have htk' : t = k := by
          rcases Nat.lt_or_ge k t with h | h
          · have hcn := List.all_eq_true.1 hchain (n + (t - 1)) (List.mem_range.2 (by omega))
            have h3 : n + (t - 1) + 1 = n + t := by omega
            rw [h3] at hcn
            have hz : Region.waitsFor md ops (n + t) (n + (t - 1)) = true := by
              simp only [Bool.or_eq_true, decide_eq_true_eq] at hcn
              rcases hcn with (h' | h') | h'
              · omega
              · omega
              · exact h'
            obtain ⟨o', ho', e, he, hb, hon⟩ := Region.waitsFor_spec hz
            have : o' = o := Option.some.inj (ho'.symm.trans ho)
            subst this
            have h4 := hafter e he hb
            have h5 := hevl (t - 1) (by omega)
            rw [hon] at h4
            have h6 : listed.getD (n + (t - 1)) true = true := by
              cases hx : listed.getD (n + (t - 1)) true with
              | true => rfl
              | false => rw [getD_both hx] at h4; cases h4
            rw [h6] at h5
            have : t - 1 < k := by simpa using h5.symm
            omega
          · omega
        subst htk'
        have hE := hev t hiN o ho
        obtain ⟨e1, e2⟩ := hsame (fun j => decide (j < n)) (fun j hj _ _ => by simp [hj])
        obtain ⟨hw, hr⟩ := hE
        have hdn' : o.dst = none := by
          have := List.all_eq_true.1 hdn (n + t) (List.mem_range.2 hiN)
          simp only [Bool.or_eq_true, decide_eq_true_eq, beq_iff_eq] at this
          rcases this with h | h
          · omega
          · simpa [dstAt, ho] using h
        unfold wpOp
        simp only [ho]
        rw [if_pos (by rw [e2]; exact hw)]
        refine .inl ?_
        unfold Oper.wp
        rw [e1, hr]
        simp only [Oper.upon, hdn']
        show wpAny P md ops Q (f + g) _ (putAll ops v n a0 (fun i => listed.getD i true)) (W (t + 1))
        have hp : putAll ops v n a0 (fun i => listed.getD i true) = putAll ops v n a0 (fun i => (listed.setIfInBounds (n + t) true).getD i true) :=
          foldPut_congr _ _ (fun j hj => by have := List.mem_range.1 hj; rw [getD_set_ne true (by omega)])
        rw [hp]
        refine ih _ (t + 1) (by simpa using hs) (by omega) (fun s hs' => ?_) (fun j hj hjl => ?_) htl' hc'
        · by_cases hst : s = t
          · subst hst; rw [hset]; simp
          · rw [getD_set_ne true (by omega), hevl s hs']
            simp only [decide_eq_decide]
            omega
        · rw [getD_set_ne true (by omega)] at hjl
          have h7 := hun j hj hjl
          have h8 := List.all_eq_true.1 hlim j (List.mem_range.2 hj)
          simp only [Bool.or_eq_true, decide_eq_true_eq] at h8
          rcases h8 with h8 | h8
          · right; exact h8
          · left
            have hne : lims.getD j 0 ≠ t := by
              intro e
              rw [e] at h8
              obtain ⟨o', ho', e', he, hb, hon⟩ := Region.waitsFor_spec h8
              have : o' = o := Option.some.inj (ho'.symm.trans ho)
              subst this
              have h4 := hafter e' he hb
              rw [hon, getD_both hjl] at h4
              cases h4
            rcases h7 with h7 | h7
            · omega
            · obtain ⟨o', ho', _⟩ := Region.waitsFor_spec h8
              have := (Array.getElem?_eq_some_iff.1 ho').1
              omega
  have hcnt : (List.range N).countP (fun i => !(Array.replicate ops.size false).getD i true) = N := by
    have : ∀ L : List Nat, (∀ j ∈ L, j < N) → L.countP (fun i => !(Array.replicate ops.size false).getD i true) = L.length := by
      intro L
      induction L with
      | nil => intro _; rfl
      | cons j L ih =>
        intro h
        have hj := h j (by simp)
        rw [List.countP_cons, ih (fun k hk => h k (by simp [hk]))]
        have hjo : j < ops.size := by omega
        simp [Array.getD_eq_getD_getElem?, Array.getElem?_replicate, hjo]
    rw [this _ (fun j hj => List.mem_range.1 hj)]
    simp
  have hmain := main N (Array.replicate ops.size false) 0 (by simp) (Nat.zero_le _) (fun t ht => by simp [Array.getD_eq_getD_getElem?, Array.getElem?_replicate, show n + t < ops.size by omega]) (fun i _ _ => .inl (Nat.zero_le _)) (fun i h1 h2 => by simp [Array.getD_eq_getD_getElem?, Array.getElem?_replicate, h2]) hcnt
  have hstart : putAll ops v n a0 (fun i => (Array.replicate ops.size false).getD i true) = a0 := by
    have : ∀ (L : List Nat) (a : Act), (∀ j ∈ L, j < ops.size) → L.foldl (putStep ops v (fun i => (Array.replicate ops.size false).getD i true)) a = a := by
      intro L
      induction L with
      | nil => intro a _; rfl
      | cons j L ih =>
        intro a h
        simp only [List.foldl_cons]
        have hj := h j (by simp)
        have : putStep ops v (fun i => (Array.replicate ops.size false).getD i true) a j = a := by
          unfold putStep
          simp [Array.getD_eq_getD_getElem?, Array.getElem?_replicate, hj]
        rw [this]
        exact ih _ (fun k hk => h k (by simp [hk]))
    exact this _ _ (fun j hj => by have := List.mem_range.1 hj; omega)
  rw [hstart] at hmain
  exact hmain
def finT (N m : Nat) : Array Bool := ((List.range m).map fun i => decide (i < N)).toArray
theorem finT_eq {N : Nat} {listed : Array Bool} {m : Nat} (hs : listed.size = m) (h1 : ∀ i, i < N → listed.getD i true = true) (h2 : ∀ i, N ≤ i → i < m → listed.getD i true = false) : listed = finT N m := by
  apply Array.ext
  · simp [finT, hs]
  · intro i hi1 hi2
    have hget : listed.getD i true = listed[i] := by simp [Array.getD_eq_getD_getElem?, Array.getElem?_eq_getElem hi1]
    have : (finT N m)[i] = decide (i < N) := by simp [finT]
    rw [this, ← hget]
    by_cases hi : i < N
    · rw [h1 i hi]; simp [hi]
    · rw [h2 i (by omega) (by omega)]; simp [hi]
theorem wp_region_ssaT {Q : Exit → Act → World → Prop} {id : Nat} {a : Act} {w : World} {l : List Oper} (n N : Nat) (lims : List Nat) (ws : List World) (hm : P.follows .mixedOrders = true) (hNs : N ≤ l.length) (hwall : wallB .any l.toArray N = true) (hB : ssaTB .any l.toArray n N lims = true) (hseq : Region.seqB .any l.toArray (l.drop N).length N (finT N l.length) = true)
    (h : ssaL P l.toArray (wsF w.drew ws) ((l.take n).zip lims) (fun aF => ssaEv P l.toArray aF ((l.drop n).take (N - n)) w.drew ws ∧ wpList P l.toArray Q (l.drop N) aF (wsF w.drew ws (N - n))) a) : (Code.region id l.toArray true).wp P Q a w := by
  have key : ∀ (L : List (Oper × Nat)) (Q1 Q2 : Act → Prop) (a : Act), (∀ a, Q1 a → Q2 a) → ssaL P l.toArray (wsF w.drew ws) L Q1 a → ssaL P l.toArray (wsF w.drew ws) L Q2 a := by
    intro L Q1 Q2
    induction L with
    | nil => intro a hq h; exact hq a h
    | cons x L ih =>
      obtain ⟨o, t⟩ := x
      intro a hq ⟨v, h1, h2⟩
      exact ⟨v, h1, ih _ hq h2⟩
  have := wpAny_ssaT (md := .any) (ops := l.toArray) (W := wsF w.drew ws) (Q := Q) (a0 := a) n N (l.drop N).length lims (by simpa using hNs) hwall hB (key _ (fun aF => ssaEv P l.toArray aF ((l.drop n).take (N - n)) w.drew ws ∧ wpList P l.toArray Q (l.drop N) aF (wsF w.drew ws (N - n))) _ _ (fun aF ⟨h1, h2⟩ => by
    obtain ⟨h3, h4⟩ := ssaEv_at _ _ _ h1
    refine ⟨fun k hk o ho => h4 k o ?_, fun listed hs hl1 hl2 => ?_⟩
    · rw [List.getElem?_take, if_pos (by omega)]
      simpa [List.getElem?_drop] using ho
    · have e := finT_eq hs hl1 hl2
      subst e
      exact wpAny_of_seq (l.drop N) N _ aF _ (fun j => by simp [List.getElem?_drop]) (by simpa using hseq) h2) (by simpa using h))
  rw [wsF_zero] at this
  refine wp_region_any hm ?_
  have hlen : N + (l.drop N).length = l.toArray.size := by simp; omega
  rw [hlen] at this
  exact this
end
end Go.Proofs.YtbijamlgcebgeaaDoor.Hand

-- part IN
namespace Go.Proofs.YtbijamlgcebgeaaDoor.Hand
open Go.RowKit Go.Shelf Go.Sort Go.Proofs.YtbijamlgcebgeaaDoorW.PrintWords Go.Proofs.YtbijamlgcebgeaaDoorW.PrintMore Go.Proofs.YtbijamlgcebgeaaDoor.Q
attribute [local go_sem] max2_mx min2_mn max_two min_two
def refHeatK (l : List S74) (load : List Int) (k : Nat) : Int × Int := (List.range k).foldl (fun (s : Int × Int) (j : Nat) => (mx s.1 (rd_T74 l (rd load j)).f3.f0, mn s.2 (rd_T74 l (rd load j)).f3.f1)) (0, 1000)
theorem refHeatK_succ (l : List S74) (load : List Int) (k : Nat) : refHeatK l load (k + 1) = (mx (refHeatK l load k).1 (rd_T74 l (rd load k)).f3.f0, mn (refHeatK l load k).2 (rd_T74 l (rd load k)).f3.f1) := by simp [refHeatK, List.range_succ]
def refHeatR (l : List S74) (load : List Int) : Int × Int × Bool :=
  if (refHeatK l load load.length).2 < (refHeatK l load load.length).1 then (0, 0, false) else ((refHeatK l load load.length).1, (refHeatK l load load.length).2, true)
theorem results26 {v : Value} {t : Array Value} {W : World} {b : Nat} {p q : Int} (h0 : t.getD 4 undef = .pointer (some ⟨b, 0, none⟩)) (hb : Box W b #[.int .i64 p, .int .i64 q] 36) (hv : .tuple #[.agg #[.int .i64 p, .int .i64 q], t.getD 5 undef] = v) : (results Tryd.f26 t).run Tryd.prog W = .ok v W := by
  have d0 : W.cell? ⟨b, 0, none⟩ = some (.int .i64 p) := hb.cell 0 rfl
  have d1 : W.cell? ⟨b, 1, none⟩ = some (.int .i64 q) := hb.cell 1 rfl
  rw [← hv]
  simp only [Array.getD_eq_getD_getElem?] at h0
  simp [results, Tryd.results26, go_sem, h0, d0, d1]
set_option maxRecDepth 100000 in
set_option maxHeartbeats 2000000 in
theorem refheat_calls (l : List S74) (load : List Int) (A1 A2 : Option Addr) (c1 c2 : Nat) (w : World) (hr1 : Kd.C k74 w A1 l.length l) (hr2 : Kd.C (Kd.int .i64) w A2 load.length load) (hv : ∀ j : Nat, j < load.length → 0 ≤ rd load j ∧ rd load j < l.length) :
    Calls Tryd.prog 26 #[.slice A1 l.length c1, .slice A2 load.length c2] w fun e w' => e = .returned (.tuple #[.agg #[.int .i64 (refHeatR l load).1, .int .i64 (refHeatR l load).2.1], .bool (refHeatR l load).2.2]) ∧ Below w.heap.size w w' := by
  obtain ⟨q, hq⟩ : ∃ q, refHeatR l load = q := ⟨_, rfl⟩
  obtain ⟨q1, q2, q3⟩ := q
  rw [hq]
  have Hq := Lib.hid hq
  have hv' := Lib.hid hv
  obtain ⟨hl1, hl2⟩ : l.length ≤ 9223372036854775807 ∧ load.length ≤ 9223372036854775807 := ⟨hr1.2.1, hr2.2.1⟩
  clear hq hv
  go_enter Tryd.func26, Tryd.ntmps26
  go_wp2
  go_loopw [7] (fun i W => ∃ k : Nat, k ≤ load.length ∧ i = .int .i64 k ∧ Box W w.heap.size #[.int .i64 0, .int .i64 0] 36 ∧ Box W (w.heap.size + 1) #[.int .i64 (refHeatK l load k).1, .int .i64 (refHeatK l load k).2] 36 ∧ Below w.heap.size w W) (fun i _ => load.length - (intOf i).toNat)
  case atStart => exact ⟨0, Nat.zero_le _, rfl, (Box.new _ _ _).alloc _, Box.new' _ _ _ (by simp), ((Below.refl _ _).alloc (Nat.le_refl _) _).alloc (by simp) _⟩
  case round =>
    obtain ⟨k, hk, rfl, x4, x6, hbl⟩ := hrel
    by_cases hlt : k < load.length
    · obtain ⟨al, e1, r1⟩ := Kd.at_int (Kd.C_below hr2 hbl) k (by omega) (by omega)
      subst e1
      rw [Int.toNat_natCast] at r1
      obtain ⟨al', e1', r1'⟩ := Kd.at_int hr2 k (by omega) (by omega)
      cases e1'
      rw [Int.toNat_natCast] at r1'
      have hal := World.block_lt_of_cell? _ _ r1'
      clear r1'
      obtain ⟨i, hi⟩ : ∃ i, rd load k = i := ⟨_, rfl⟩
      obtain ⟨v1, v2⟩ := hv'.out k hlt
      rw [hi] at r1 v1 v2
      obtain ⟨i, rfl⟩ : ∃ n : Nat, i = n := ⟨i.toNat, by omega⟩
      obtain ⟨ad, e2, g0, g1, g2, g3, g4, g5⟩ := at_T74 (Kd.C_below hr1 hbl) i (by omega) (by omega)
      subst e2
      rw [Int.toNat_natCast] at g0 g1 g2 g3 g4 g5
      clear g0 g1 g2 g3
      obtain ⟨ad', e2', m0, m1, m2, m3, m4, m5⟩ := at_T74 hr1 i (by omega) (by omega)
      cases e2'
      rw [Int.toNat_natCast] at m5
      have had := World.block_lt_of_cell? _ _ m5
      clear m0 m1 m2 m3 m4 m5
      have hsucc := Lib.hid (refHeatK_succ l load k)
      rw [hi] at hsucc
      obtain ⟨lo, hlo⟩ : ∃ v, (refHeatK l load k).1 = v := ⟨_, rfl⟩
      obtain ⟨hh, hhh⟩ : ∃ v, (refHeatK l load k).2 = v := ⟨_, rfl⟩
      rw [hlo, hhh] at x6 hsucc
      obtain ⟨p, hp⟩ : ∃ v, (rd_T74 l i).f3.f0 = v := ⟨_, rfl⟩
      obtain ⟨q, hqq⟩ : ∃ v, (rd_T74 l i).f3.f1 = v := ⟨_, rfl⟩
      rw [hp, hqq] at hsucc
      rw [hp] at g4
      rw [hqq] at g5
      have c0 : wr.cell? ⟨w.heap.size + 1, 0, none⟩ = some (.int .i64 lo) := x6.cell 0 rfl
      have c1 : wr.cell? ⟨w.heap.size + 1, 1, none⟩ = some (.int .i64 hh) := x6.cell 1 rfl
      have f0 : wr.frozen? ⟨w.heap.size + 1, 0, none⟩ = false := x6.frozen 0
      have f1 : wr.frozen? ⟨w.heap.size + 1, 1, none⟩ = false := x6.frozen 1
      have r1s : ∀ u, (wr.setCell ⟨w.heap.size + 1, 0, none⟩ u).cell? (al.add k) = some (.int .i64 i) := fun u => (World.cell?_of_block (w := wr) (Below.heap_setCell wr ⟨w.heap.size + 1, 0, none⟩ u _ (by show (al.add k).block ≠ w.heap.size + 1; omega))).trans r1
      have g5s : ∀ u, (wr.setCell ⟨w.heap.size + 1, 0, none⟩ u).cell? ⟨(ad.add (i * 6)).block, (ad.add (i * 6)).off + 5, none⟩ = some (.int .i64 q) := fun u => (World.cell?_of_block (w := wr) (Below.heap_setCell wr ⟨w.heap.size + 1, 0, none⟩ u _ (by show (ad.add (i * 6)).block ≠ w.heap.size + 1; have : (ad.add (i * 6)).block < w.heap.size := had; omega))).trans g5
      clear hi hlo hhh hp hqq hal had
      go_wp2
      refine wp_region_ssaT 25 26 [0, 0, 0, 0, 0, 0, 0, 0, 0, 0, 0, 0, 0, 0, 1, 1, 1, 1, 1, 1, 1, 1, 1, 1, 0] [wr.drew.setCell ⟨w.heap.size + 1, 0, none⟩ (.int .i64 (mx lo p))] (by kernel_rfl) (by decide) (by kernel_rfl) (by kernel_rfl) (by kernel_rfl) ?_
      simp only [List.take_succ_cons, List.take_zero, List.drop_succ_cons, List.drop_zero, List.zip_cons_cons, List.zip_nil_left, List.zip_nil_right, Nat.reduceSub]
      iterate 14 (refine ssa_step (fun K hK => ?_); simp only [wsF_zero]; go_simp; refine hK _ _ (fun s h1 h2 => absurd h1 (by omega)) ?_; clear hK K)
      iterate 10 (refine ssa_step (fun K hK => ?_); simp only [wsF_zero]; go_simp; refine hK _ _ (fun s h1 h2 K2 hK2 => ?_) ?_; (focus (have hs := Nat.le_antisymm h2 h1; subst hs; simp only [wsF_one]; go_simp; exact hK2)); clear hK K)
      (refine ssa_step (fun K hK => ?_); simp only [wsF_zero]; go_simp; refine hK _ _ (fun s h1 h2 => absurd h1 (by omega)) ?_; clear hK K)
      refine ⟨⟨⟨rfl, ?_⟩, trivial⟩, ?_⟩
      · go_simp
      simp only [wsF_one]
      go_wp2
      have y4 := (x4.other (b' := w.heap.size + 1) (by omega) 0 (.int .i64 (mx lo p))).other (b' := w.heap.size + 1) (by omega) 1 (.int .i64 (mn hh q))
      have y6 := (x6.set 0 (.int .i64 (mx lo p))).set 1 (.int .i64 (mn hh q))
      go_roundw
      case rel => exact ⟨k + 1, by omega, by go_num, y4.drew, by rw [hsucc.out]; exact y6.drew, ((hbl.setCell (p := ⟨w.heap.size + 1, 0, none⟩) (by simp) _).setCell (p := ⟨w.heap.size + 1, 1, none⟩) (by simp) _).drew⟩
      case measure => simp [intOf]; omega
    · have c0 : wr.cell? ⟨w.heap.size + 1, 0, none⟩ = some (.int .i64 (refHeatK l load k).1) := x6.cell 0 rfl
      have c1 : wr.cell? ⟨w.heap.size + 1, 1, none⟩ = some (.int .i64 (refHeatK l load k).2) := x6.cell 1 rfl
      have hkl : k = load.length := by omega
      have hfin := Hq.out
      unfold refHeatR at hfin
      rw [← hkl] at hfin
      obtain ⟨lo, hlo⟩ : ∃ v, (refHeatK l load k).1 = v := ⟨_, rfl⟩
      obtain ⟨hh, hhh⟩ : ∃ v, (refHeatK l load k).2 = v := ⟨_, rfl⟩
      rw [hlo, hhh] at hfin
      rw [hlo] at c0 x6
      rw [hhh] at c1 x6
      have f0 : wr.frozen? ⟨w.heap.size, 0, none⟩ = false := x4.frozen 0
      have f1 : wr.frozen? ⟨w.heap.size, 1, none⟩ = false := x4.frozen 1
      have d0 : wr.cell? ⟨w.heap.size, 0, none⟩ = some (.int .i64 0) := x4.cell 0 rfl
      have d1 : wr.cell? ⟨w.heap.size, 1, none⟩ = some (.int .i64 0) := x4.cell 1 rfl
      clear hlo hhh
      by_cases hcmp : hh < lo
      · obtain ⟨rfl, rfl, rfl⟩ : q1 = 0 ∧ q2 = 0 ∧ q3 = false := by rw [if_pos hcmp] at hfin; simpa [eq_comm] using hfin
        have hc2 : decide (hh < lo) = true := decide_eq_true hcmp
        have y4 := (x4.set 0 (.int .i64 0)).set 1 (.int .i64 0)
        clear hfin
        go_wp2
        refine bodyPost_ret (results26 rfl y4 rfl) rfl ?_
        exact ⟨rfl, (hbl.setCell (p := ⟨w.heap.size, 0, none⟩) (by simp) _).setCell (p := ⟨w.heap.size, 1, none⟩) (by simp) _⟩
      · have hc2 : decide (hh < lo) = false := decide_eq_false hcmp
        have y4 := (x4.set 0 (.int .i64 lo)).set 1 (.int .i64 hh)
        obtain ⟨e1, e2, e3⟩ : lo = q1 ∧ hh = q2 ∧ true = q3 := by rw [if_neg hcmp] at hfin; simpa using hfin
        subst e3
        have He1 := Lib.hid e1
        have He2 := Lib.hid e2
        clear hfin e1 e2
        go_wp2
        refine bodyPost_ret (results26 rfl y4 rfl) rfl ?_
        exact ⟨by rw [He1.out, He2.out]; rfl, (hbl.setCell (p := ⟨w.heap.size, 0, none⟩) (by simp) _).setCell (p := ⟨w.heap.size, 1, none⟩) (by simp) _⟩
end Go.Proofs.YtbijamlgcebgeaaDoor.Hand

-- part IR
namespace Go.Proofs.YtbijamlgcebgeaaDoor.Hand
open Go.RowKit Go.Shelf Go.Sort Go.Proofs.YtbijamlgcebgeaaDoorW.PrintWords Go.Proofs.YtbijamlgcebgeaaDoorW.PrintMore Go.Proofs.YtbijamlgcebgeaaDoor.Q
def optE : Option Nat → Int
  | none => 4
  | some _ => 0
set_option maxRecDepth 100000 in
set_option maxHeartbeats 2000000 in
theorem refopen_calls (a b c d e : Int) (l : List S74) (load : List Int) (A1 A2 : Option Addr) (c1 c2 : Nat) (hc1 : l.length ≤ c1) (w : World) (hr1 : Kd.C k74 w A1 l.length l) (hr2 : Kd.C (Kd.int .i64) w A2 load.length load) (hl : l.length ≤ 1000) (hp : load.length ≤ 1000) :
    Calls Tryd.prog 23 #[.agg #[.int .i64 a, .int .i64 b, .int .i64 c, .int .i64 d, .int .i64 e], .slice A1 l.length c1, .slice A2 load.length c2] w fun e_ w' => e_ = .returned (.int .i64 (openF a b c d e l load)) ∧ Below w.heap.size w w' := by
  obtain ⟨ck, hck⟩ : ∃ ck, checkF a b c d e l = ck := ⟨_, rfl⟩
  have hcq := Check_eq a b c d e l hl (l.length + 2) (Nat.le_refl _)
  rw [hck] at hcq
  have Hcq := Lib.hid hcq
  by_cases h0 : ck = 0
  · obtain ⟨q, hq⟩ : ∃ q, setL l.length load load.length 0 0 = q := ⟨_, rfl⟩
    have hr : openF a b c d e l load = optE q := by
      unfold openF newR
      rw [hck, if_pos h0, hq]
      cases q <;> rfl
    obtain ⟨r, hr'⟩ : ∃ r, openF a b c d e l load = r := ⟨_, rfl⟩
    rw [hr'] at hr ⊢
    have Hr := Lib.hid hr
    have Hq := Lib.hid hq
    clear hck hcq hr hr' hq
    subst h0
    go_enter Tryd.func23, Tryd.ntmps23
    go_wp2_with fail
    refine (smaltoref03_Check.calls (l.length + 2) a b c d e A1 c1 l 0 _ (Kd.C_alloc hr1 _) hc1 Hcq.out).mono ?_
    rintro e_ w1 ⟨rfl, hb1⟩
    have hB1 : Below w.heap.size w w1 := ((Below.refl _ _).alloc (Nat.le_refl _) _).trans (hb1.mono (by simp))
    clear hb1
    go_wp2
    go_loopw [8] (fun i W => ∃ k s : Nat, k ≤ load.length ∧ i = .int .i64 k ∧ Below w.heap.size w W ∧ Hid (setL l.length load (load.length - k) k s = q)) (fun i _ => load.length - (intOf i).toNat)
    case atStart => exact ⟨0, 0, Nat.zero_le _, rfl, hB1, Lib.hid Hq.out⟩
    case round =>
      obtain ⟨k, s, hk, rfl, hbl, hst⟩ := hrel
      by_cases hlt : k < load.length
      · obtain ⟨al, e1, s1⟩ := Kd.at_int (Kd.C_below hr2 hbl) k (by omega) (by omega)
        subst e1
        rw [Int.toNat_natCast] at s1
        have hst' := hst.out
        rw [show load.length - k = (load.length - (k + 1)) + 1 by omega] at hst'
        unfold setL at hst'
        obtain ⟨bi, hbi⟩ : ∃ v, allIn 0 ((l.length : Int) - 1) [rd load k] = v := ⟨_, rfl⟩
        rw [hbi] at hst'
        have HIn := Lib.hid (show smaltoref03_In.f (rd load k) 0 (IntKind.i64.wrap ((l.length : Int) - 1)) = some bi by rw [IntKind.wrap_i64, In_eq, show ((l.length : Int) - 1 + 9223372036854775808) % 18446744073709551616 - 9223372036854775808 = (l.length : Int) - 1 by omega, hbi])
        have HIn2 := Lib.hid (show smaltoref03_In.f (rd load k) 0 ((l.length : Int) - 1) = some bi by rw [In_eq, hbi])
        clear hbi hst
        have p1 : ((0 : Int) ≤ k) = True := eq_true (by omega)
        have p2 : ((k : Int) < load.length) = True := eq_true (by omega)
        cases bi
        · simp only [Bool.false_eq_true, if_false] at hst'
          subst hst'
          have hr4 := Hr.out
          simp only [optE] at hr4
          subst hr4
          go_wp2
          go_quiet (first | (go_at_call 65; refine (smaltoref03_In.calls _ _ _ false _ (by first | exact HIn.out | exact HIn2.out)).mono ?_; rintro e_ w' ⟨rfl, ⟨nd, rfl⟩⟩; exact ⟨rfl, _, World.drewN_drewN _ _ _⟩))
          try go_wp2
          go_ret
          exact ⟨rfl, pw_below_drewN hbl nq⟩
        · simp only [if_true] at hst'
          by_cases hk0 : 0 < k
          · have hg1 : decide ((0 : Int) < k) = true := decide_eq_true (by omega)
            obtain ⟨al', e2, s2⟩ := Kd.at_int (Kd.C_below hr2 hbl) ((k : Int) - 1) (by omega) (by omega)
            cases e2
            obtain ⟨j, hj⟩ : ∃ j : Nat, (k : Int) - 1 = j := ⟨k - 1, by omega⟩
            rw [hj] at hst' s2
            rw [Int.toNat_natCast] at s2
            have hjw := Lib.hid (show IntKind.i64.wrap ((k : Int) - 1) = j by rw [IntKind.wrap_i64]; omega)
            have p3 : ((0 : Int) ≤ j) = True := eq_true (by omega)
            have p4 : ((j : Int) < load.length) = True := eq_true (by omega)
            by_cases hle : rd load k ≤ rd load j
            · rw [if_pos ⟨hk0, hle⟩] at hst'
              subst hst'
              have hr4 := Hr.out
              simp only [optE] at hr4
              subst hr4
              have hg2 : decide (rd load k ≤ rd load j) = true := decide_eq_true hle
              have hjw' := hjw.out
              go_wp2
              go_quiet (first | (go_at_call 65; refine (smaltoref03_In.calls _ _ _ true _ (by first | exact HIn.out | exact HIn2.out)).mono ?_; rintro e_ w' ⟨rfl, ⟨nd, rfl⟩⟩; exact ⟨rfl, _, World.drewN_drewN _ _ _⟩))
              try go_wp2
              go_ret
              exact ⟨rfl, pw_below_drewN hbl nq⟩
            · rw [if_neg (fun h => hle h.2)] at hst'
              have hg2 : decide (rd load k ≤ rd load j) = false := decide_eq_false hle
              have hjw' := hjw.out
              go_wp2
              go_quiet (first | (go_at_call 65; refine (smaltoref03_In.calls _ _ _ true _ (by first | exact HIn.out | exact HIn2.out)).mono ?_; rintro e_ w' ⟨rfl, ⟨nd, rfl⟩⟩; exact ⟨rfl, _, World.drewN_drewN _ _ _⟩))
              go_wp2
              refine ⟨⟨k + 1, _, by omega, by go_num, pw_below_drewN hbl nq, Lib.hid hst'⟩, ?_⟩
              simp [intOf]; omega
          · have hg1 : decide ((0 : Int) < k) = false := decide_eq_false (by omega)
            rw [if_neg (fun h => hk0 h.1)] at hst'
            go_wp2
            go_quiet (first | (go_at_call 65; refine (smaltoref03_In.calls _ _ _ true _ (by first | exact HIn.out | exact HIn2.out)).mono ?_; rintro e_ w' ⟨rfl, ⟨nd, rfl⟩⟩; exact ⟨rfl, _, World.drewN_drewN _ _ _⟩))
            go_wp2
            refine ⟨⟨k + 1, _, by omega, by go_num, pw_below_drewN hbl nq, Lib.hid hst'⟩, ?_⟩
            simp [intOf]; omega
      · obtain rfl : k = load.length := by omega
        have hst' := hst.out
        rw [Nat.sub_self] at hst'
        unfold setL at hst'
        subst hst'
        have hr4 := Hr.out
        simp only [optE] at hr4
        subst hr4
        go_wp2
        go_ret
        exact ⟨rfl, hbl⟩
  · have hr : openF a b c d e l load = ck := by
      unfold openF newR
      rw [hck, if_neg h0]
    rw [hr]
    have h1 : (ck != 0) = true := by simp [h0]
    clear hck hcq hr h0
    go_enter Tryd.func23, Tryd.ntmps23
    go_wp2_with fail
    refine (smaltoref03_Check.calls (l.length + 2) a b c d e A1 c1 l ck _ (Kd.C_alloc hr1 _) hc1 Hcq.out).mono ?_
    rintro e_ w1 ⟨rfl, hb1⟩
    have hB1 : Below w.heap.size w w1 := ((Below.refl _ _).alloc (Nat.le_refl _) _).trans (hb1.mono (by simp))
    clear hb1
    go_wp2
    go_ret
    exact ⟨rfl, hB1⟩
end Go.Proofs.YtbijamlgcebgeaaDoor.Hand

-- part Q4
namespace Go.Proofs.YtbijamlgcebgeaaDoor.Q
open Go.RowKit Go.Proofs.YtbijamlgcebgeaaDoorW.PrintWords Go.Proofs.YtbijamlgcebgeaaDoorW.PrintLast Go.Proofs.YtbijamlgcebgeaaDoorW.PrintMore
attribute [local go_sem] max2_int min2_int max_two min_two max_three min_three max_four min_four   -- for this text's walks alone
mutual
def smaltoref03_Lie.l0 : Nat → List (S74) → List Int → List Int → Int → Int → Int → Int → Int → Int → Option (Bool)
  | 0, _, _, _, _, _, _, _, _, _ => none
  | k + 1, x1, x2, x3, x9, x215000, x215001, x215002, x215003, x215004 => if x9 < x215000 then (smaltoref03_Lie.l1 k x1 x2 x3 x9 0 0 0 x215000 x215001 x215002 x215003 x215004) else (some true)
def smaltoref03_Lie.l1 : Nat → List (S74) → List Int → List Int → Int → Int → Int → Int → Int → Int → Int → Int → Int → Option (Bool)
  | 0, _, _, _, _, _, _, _, _, _, _, _, _ => none
  | k + 1, x1, x2, x3, x9, x10, x11, x12, x215000, x215001, x215002, x215003, x215004 => if x12 < (x2.length : Int) then (if 0 ≤ x12 then (if x12 < (x3.length : Int) then (if (rd x3 x12) = x9 then (if 0 ≤ (rd x2 x12) then (if (rd x2 x12) < (x1.length : Int) then (smaltoref03_Lie.l1 k x1 x2 x3 x9 (wrap64 (x10 + ((rd_T74 x1 (rd x2 x12)).f0))) (wrap64 (x11 + 1)) (wrap64 (x12 + 1)) x215000 x215001 x215002 x215003 x215004) else (none)) else (none)) else (smaltoref03_Lie.l1 k x1 x2 x3 x9 x10 x11 (wrap64 (x12 + 1)) x215000 x215001 x215002 x215003 x215004)) else (none)) else (none)) else (if x11 > 0 then (if (wrap64 (x10 + (wrap64 (x215002 * (wrap64 (x11 - 1)))))) > x215001 then (some false) else (smaltoref03_Lie.l0 k x1 x2 x3 (wrap64 (x9 + 1)) x215000 x215001 x215002 x215003 x215004)) else (smaltoref03_Lie.l0 k x1 x2 x3 (wrap64 (x9 + 1)) x215000 x215001 x215002 x215003 x215004))
end
def smaltoref03_Lie.f (k : Nat) (a0_0 : Int) (a0_1 : Int) (a0_2 : Int) (a0_3 : Int) (a0_4 : Int) (l1 : List (S74)) (l2 : List Int) (l3 : List Int) : Option (Bool) := smaltoref03_Lie.l0 k l1 l2 l3 0 a0_0 a0_1 a0_2 a0_3 a0_4
theorem smaltoref03_Lie.mono_l : ∀ k, (∀ y0 y1 y2 y3 y4 y5 y6 y7 y8, LeO (smaltoref03_Lie.l0 k y0 y1 y2 y3 y4 y5 y6 y7 y8) (smaltoref03_Lie.l0 (k + 1) y0 y1 y2 y3 y4 y5 y6 y7 y8)) ∧ (∀ y0 y1 y2 y3 y4 y5 y6 y7 y8 y9 y10 y11, LeO (smaltoref03_Lie.l1 k y0 y1 y2 y3 y4 y5 y6 y7 y8 y9 y10 y11) (smaltoref03_Lie.l1 (k + 1) y0 y1 y2 y3 y4 y5 y6 y7 y8 y9 y10 y11))
  | 0 => ⟨fun _ _ _ _ _ _ _ _ _ r h => by simp [smaltoref03_Lie.l0] at h, fun _ _ _ _ _ _ _ _ _ _ _ _ r h => by simp [smaltoref03_Lie.l1] at h⟩
  | k + 1 => by
    obtain ⟨ih0, ih1⟩ := smaltoref03_Lie.mono_l k
    refine ⟨?_, ?_⟩
    · intro y0 y1 y2 y3 y4 y5 y6 y7 y8
      unfold smaltoref03_Lie.l0
      repeat' first
      | (with_reducible exact ih0 _ _ _ _ _ _ _ _ _)
      | (with_reducible exact ih1 _ _ _ _ _ _ _ _ _ _ _ _)
      | (with_reducible exact LeO.refl _)
      | (with_reducible exact LeO.none _)
      | (with_reducible refine LeO.ite ?_ ?_)
      | (with_reducible refine LeO.bind ?_ (fun _ => ?_))
      | exact ih0 _ _ _ _ _ _ _ _ _
      | exact ih1 _ _ _ _ _ _ _ _ _ _ _ _
      | exact LeO.none _
      | refine LeO.ite ?_ ?_
      | refine LeO.bind ?_ (fun _ => ?_)
    · intro y0 y1 y2 y3 y4 y5 y6 y7 y8 y9 y10 y11
      unfold smaltoref03_Lie.l1
      repeat' first
      | (with_reducible exact ih0 _ _ _ _ _ _ _ _ _)
      | (with_reducible exact ih1 _ _ _ _ _ _ _ _ _ _ _ _)
      | (with_reducible exact LeO.refl _)
      | (with_reducible exact LeO.none _)
      | (with_reducible refine LeO.ite ?_ ?_)
      | (with_reducible refine LeO.bind ?_ (fun _ => ?_))
      | exact ih0 _ _ _ _ _ _ _ _ _
      | exact ih1 _ _ _ _ _ _ _ _ _ _ _ _
      | exact LeO.none _
      | refine LeO.ite ?_ ?_
      | refine LeO.bind ?_ (fun _ => ?_)
theorem smaltoref03_Lie.mono : ∀ a0 a1 a2 a3 a4 a5 a6 a7 k, LeO (smaltoref03_Lie.f k a0 a1 a2 a3 a4 a5 a6 a7) (smaltoref03_Lie.f (k + 1) a0 a1 a2 a3 a4 a5 a6 a7) := by
  intro a0 a1 a2 a3 a4 a5 a6 a7 k
  obtain ⟨ih0, ih1⟩ := smaltoref03_Lie.mono_l k
  unfold smaltoref03_Lie.f
  repeat' first
      | (with_reducible exact ih0 _ _ _ _ _ _ _ _ _)
      | (with_reducible exact ih1 _ _ _ _ _ _ _ _ _ _ _ _)
      | (with_reducible exact LeO.refl _)
      | (with_reducible exact LeO.none _)
      | (with_reducible refine LeO.ite ?_ ?_)
      | (with_reducible refine LeO.bind ?_ (fun _ => ?_))
      | exact ih0 _ _ _ _ _ _ _ _ _
      | exact ih1 _ _ _ _ _ _ _ _ _ _ _ _
      | exact LeO.none _
      | refine LeO.ite ?_ ?_
      | refine LeO.bind ?_ (fun _ => ?_)
set_option maxHeartbeats 8000000 in
set_option maxRecDepth 100000 in
theorem smaltoref03_Lie.calls (k : Nat) (a0_0 : Int) (a0_1 : Int) (a0_2 : Int) (a0_3 : Int) (a0_4 : Int) (A1 : Option Addr) (c1 : Nat) (l1 : List (S74)) (A2 : Option Addr) (c2 : Nat) (l2 : List Int) (A3 : Option Addr) (c3 : Nat) (l3 : List Int) (r : Bool) (w : World) (hr1 : Kd.C k74 w A1 l1.length l1) (hc1 : l1.length ≤ c1) (hr2 : Kd.C (Kd.int .i64) w A2 l2.length l2) (hc2 : l2.length ≤ c2) (hr3 : Kd.C (Kd.int .i64) w A3 l3.length l3) (hc3 : l3.length ≤ c3) (h : smaltoref03_Lie.f k a0_0 a0_1 a0_2 a0_3 a0_4 l1 l2 l3 = some r) :
    Calls Tryd.prog 67 #[.agg #[.int .i64 a0_0, .int .i64 a0_1, .int .i64 a0_2, .int .i64 a0_3, .int .i64 a0_4], .slice A1 l1.length c1, .slice A2 l2.length c2, .slice A3 l3.length c3] w fun e w' => e = .returned (.bool r) ∧ Below w.heap.size w w' := by
  have hu23 := Tryd.underlying23
  have HR1 := Aside0.mk hr1
  have HC1 := Aside0.mk hc1
  clear hr1 hc1
  have HR2 := Aside0.mk hr2
  have HC2 := Aside0.mk hc2
  clear hr2 hc2
  have HR3 := Aside0.mk hr3
  have HC3 := Aside0.mk hc3
  clear hr3 hc3
  have HB := Aside0.mk (Below.refl w.heap.size w)
  have H : (smaltoref03_Lie.l0 k l1 l2 l3 0 a0_0 a0_1 a0_2 a0_3 a0_4) = some r := h
  clear h
  have H' := Aside0.mk H
  clear H
  go_enter Tryd.func67, Tryd.ntmps67
  go_wp2_with (first | ((with_reducible refine gate_dst (N := 4) rfl ?_); refine box_event ?hg (N := 4) ?hd (cs := #[.int .i64 a0_0, .int .i64 a0_1, .int .i64 a0_2, .int .i64 a0_3, .int .i64 a0_4]) (t := 23) ?hr ?_; (case hd => rfl); (case hg => rfl); (case hr => first | (go_simp; done) | (go_simp; rfl)); intro gb214 hg w5 hbox hb; have n0_ := Aside0.mk (below_step (by repeat (first | (with_reducible first | exact HB.out | apply below_alloc | apply pw_below_drewN | apply below_drew1) | exact HB.out)) hb); have n1_ := Aside0.mk (hbox); have n2_ := Aside0.mk ((by rw [hg]; exact (below_size (by repeat (first | (with_reducible first | exact HB.out | apply below_alloc | apply pw_below_drewN | apply below_drew1) | exact HB.out))) : w.heap.size ≤ gb214)); have n3_ := Aside0.mk ((by rw [hg]; exact (below_size (by repeat (first | (with_reducible first | exact HB.out | apply below_alloc | apply pw_below_drewN | apply below_drew1) | exact HB.out))) : w.heap.size ≤ gb214)); clear HB; have HB := n0_; have BK214 := n1_; have GW214 := n2_; have GE214 := n3_; clear n0_ n1_ n2_ n3_; clear hb hbox hg))
  go_loopg [9] k (fun kq v9 w' => ∃ (x9_1 : Int), v9 = .int .i64 x9_1 ∧ Aside0 (smaltoref03_Lie.l0 kq l1 l2 l3 x9_1 a0_0 a0_1 a0_2 a0_3 a0_4 = some r) ∧ Aside0 (kq ≤ k) ∧ Aside0 (w'.heap[gb214]? = some (.cells #[.int .i64 a0_0, .int .i64 a0_1, .int .i64 a0_2, .int .i64 a0_3, .int .i64 a0_4] 23 (0, 0))) ∧ Aside0 (Below w.heap.size w w'))
  case atStart => exact ⟨(0), (by first | rfl | (simp; done) | (simp [*]; done)), H', ⟨Nat.le_refl _⟩, ⟨by (with_reducible repeat (first | refine blk_drewN ?_ _ | refine blk_drew ?_ | refine blk_alloc ?_ _)); exact BK214.out⟩, ⟨by repeat (first | (with_reducible first | exact HB.out | apply below_alloc | apply pw_below_drewN | apply below_drew1 | refine below_set ?_ GE214.out) | exact HB.out)⟩⟩
  case round =>
    clear H'
    try clear c1
    try clear c2
    try clear p2
    try clear c3
    obtain ⟨x9_1, rfl, HA, HK1, BK214, HB⟩ := hrel
    cases gk with
    | zero => exact absurd HA.out (by simp [smaltoref03_Lie.l0])
    | succ k1 =>
      have H := HA.out
      clear HA
      simp only [smaltoref03_Lie.l0] at H
      by_cases c6 : x9_1 < a0_0
      · rw [if_pos c6] at H
        have c6b0 : decide (x9_1 < a0_0) = true := decide_eq_true c6
        clear c6
        have H' := Aside0.mk H
        clear H
        have hcz7_0 : wr.cell? ⟨gb214, 0, none⟩ = some (.int .i64 a0_0) := (blk_cell BK214.out 0).trans rfl
        have hcz7_1 : wr.cell? ⟨gb214, 1, none⟩ = some (.int .i64 a0_1) := (blk_cell BK214.out 1).trans rfl
        have hcz7_2 : wr.cell? ⟨gb214, 2, none⟩ = some (.int .i64 a0_2) := (blk_cell BK214.out 2).trans rfl
        have hcz7_3 : wr.cell? ⟨gb214, 3, none⟩ = some (.int .i64 a0_3) := (blk_cell BK214.out 3).trans rfl
        have hcz7_4 : wr.cell? ⟨gb214, 4, none⟩ = some (.int .i64 a0_4) := (blk_cell BK214.out 4).trans rfl
        have hfz7_0 := blk_frozen BK214.out 0
        have hfz7_1 := blk_frozen BK214.out 1
        have hfz7_2 := blk_frozen BK214.out 2
        have hfz7_3 := blk_frozen BK214.out 3
        have hfz7_4 := blk_frozen BK214.out 4
        go_wp2
        go_loopg [10, 11, 12] k1 (fun kq v10 v11 v12 w' => ∃ (x10_2 : Int) (x11_2 : Int) (x12_2 : Int), v10 = .int .i64 x10_2 ∧ v11 = .int .i64 x11_2 ∧ v12 = .int .i64 x12_2 ∧ Aside0 (smaltoref03_Lie.l1 kq l1 l2 l3 x9_1 x10_2 x11_2 x12_2 a0_0 a0_1 a0_2 a0_3 a0_4 = some r) ∧ Aside0 (kq ≤ k1) ∧ Aside0 (w'.heap[gb214]? = some (.cells #[.int .i64 a0_0, .int .i64 a0_1, .int .i64 a0_2, .int .i64 a0_3, .int .i64 a0_4] 23 (0, 0))) ∧ Aside0 (Below w.heap.size w w'))
        case atStart => exact ⟨(0), (0), (0), (by first | rfl | (simp; done) | (simp [*]; done)), (by first | rfl | (simp; done) | (simp [*]; done)), (by first | rfl | (simp; done) | (simp [*]; done)), H', ⟨Nat.le_refl _⟩, ⟨by (with_reducible repeat (first | refine blk_drewN ?_ _ | refine blk_drew ?_ | refine blk_alloc ?_ _)); exact BK214.out⟩, ⟨by repeat (first | (with_reducible first | exact HB.out | apply below_alloc | apply pw_below_drewN | apply below_drew1 | refine below_set ?_ GE214.out) | exact HB.out)⟩⟩
        case round =>
          clear H'
          try clear c1
          try clear c2
          try clear p2
          try clear c3
          try clear c6
          try clear c6b0
          try clear hcz7_0
          try clear hcz7_1
          try clear hcz7_2
          try clear hcz7_3
          try clear hcz7_4
          try clear hfz7_0
          try clear hfz7_1
          try clear hfz7_2
          try clear hfz7_3
          try clear hfz7_4
          try clear p2
          obtain ⟨x10_2, x11_2, x12_2, rfl, rfl, rfl, HA, HK2, BK214, HB⟩ := hrel
          cases gk with
          | zero => exact absurd HA.out (by simp [smaltoref03_Lie.l1])
          | succ k2 =>
            have H := HA.out
            clear HA
            simp only [smaltoref03_Lie.l1] at H
            by_cases c8 : x12_2 < (l2.length : Int)
            · rw [if_pos c8] at H
              have c8b0 : decide (x12_2 < (l2.length : Int)) = true := decide_eq_true c8
              clear c8
              by_cases c9 : 0 ≤ x12_2
              · rw [if_pos c9] at H
                have c9b0 : decide (0 ≤ x12_2) = true := decide_eq_true c9
                clear c9
                by_cases c10 : x12_2 < (l3.length : Int)
                · rw [if_pos c10] at H
                  have c10b0 : decide (x12_2 < (l3.length : Int)) = true := decide_eq_true c10
                  clear c10
                  by_cases c11 : (rd l3 x12_2) = x9_1
                  · rw [if_pos c11] at H
                    have c11b0 : ((rd l3 x12_2) == x9_1) = true := beq_iff_eq.mpr c11
                    have c11b1 : ((rd l3 x12_2) != x9_1) = false := bne_eq_false_iff_eq.mpr c11
                    clear c11
                    by_cases c12 : 0 ≤ (rd l2 x12_2)
                    · rw [if_pos c12] at H
                      have c12b0 : decide (0 ≤ (rd l2 x12_2)) = true := decide_eq_true c12
                      clear c12
                      by_cases c13 : (rd l2 x12_2) < (l1.length : Int)
                      · rw [if_pos c13] at H
                        have c13b0 : decide ((rd l2 x12_2) < (l1.length : Int)) = true := decide_eq_true c13
                        clear c13
                        have H' := Aside0.mk H
                        clear H
                        have p215 : 0 ≤ (x12_2 : Int) := of_decide_eq_true (by first | (with_reducible assumption) | assumption)
                        have q215 : x12_2 < (l3.length : Int) := of_decide_eq_true (by first | (with_reducible assumption) | assumption)
                        obtain ⟨ad215, e215, hx215_0⟩ := Kd.at_int HR3.out x12_2 p215 q215
                        cases e215
                        replace hx215_0 := (HB.out.cell (World.block_lt_of_cell? w _ hx215_0)).trans hx215_0
                        replace p215 := eq_true p215
                        replace q215 := eq_true q215
                        have p216 : 0 ≤ (x12_2 : Int) := of_decide_eq_true (by first | (with_reducible assumption) | assumption)
                        have q216 : x12_2 < (l2.length : Int) := of_decide_eq_true (by first | (with_reducible assumption) | assumption)
                        obtain ⟨ad216, e216, hx216_0⟩ := Kd.at_int HR2.out x12_2 p216 q216
                        cases e216
                        replace hx216_0 := (HB.out.cell (World.block_lt_of_cell? w _ hx216_0)).trans hx216_0
                        replace p216 := eq_true p216
                        replace q216 := eq_true q216
                        have p217 : 0 ≤ ((rd l2 x12_2) : Int) := of_decide_eq_true (by first | (with_reducible assumption) | assumption)
                        have q217 : (rd l2 x12_2) < (l1.length : Int) := of_decide_eq_true (by first | (with_reducible assumption) | assumption)
                        obtain ⟨ad217, e217, hx217_0, hx217_1, hx217_2, hx217_3, hx217_4, hx217_5⟩ := at_T74 HR1.out (rd l2 x12_2) p217 q217
                        cases e217
                        replace hx217_0 := (HB.out.cell (World.block_lt_of_cell? w _ hx217_0)).trans hx217_0
                        replace hx217_1 := (HB.out.cell (World.block_lt_of_cell? w _ hx217_1)).trans hx217_1
                        replace hx217_2 := (HB.out.cell (World.block_lt_of_cell? w _ hx217_2)).trans hx217_2
                        replace hx217_3 := (HB.out.cell (World.block_lt_of_cell? w _ hx217_3)).trans hx217_3
                        replace hx217_4 := (HB.out.cell (World.block_lt_of_cell? w _ hx217_4)).trans hx217_4
                        replace hx217_5 := (HB.out.cell (World.block_lt_of_cell? w _ hx217_5)).trans hx217_5
                        replace p217 := eq_true p217
                        replace q217 := eq_true q217
                        go_wp2
                        go_roundg k2
                        case measure => have := HK1.out; have := HK2.out; omega
                        case rel => exact ⟨(wrap64 (x10_2 + ((rd_T74 l1 (rd l2 x12_2)).f0))), (wrap64 (x11_2 + 1)), (wrap64 (x12_2 + 1)), (by first | rfl | (simp; done) | (simp [*]; done)), (by first | rfl | (simp; done) | (simp [*]; done)), (by first | rfl | (simp; done) | (simp [*]; done)), H', ⟨by have := HK1.out; have := HK2.out; omega⟩, ⟨by (with_reducible repeat (first | refine blk_drewN ?_ _ | refine blk_drew ?_ | refine blk_alloc ?_ _)); exact BK214.out⟩, ⟨by repeat (first | (with_reducible first | exact HB.out | apply below_alloc | apply pw_below_drewN | apply below_drew1 | refine below_set ?_ GE214.out) | exact HB.out)⟩⟩
                      · rw [if_neg c13] at H
                        exact absurd H (by simp)
                    · rw [if_neg c12] at H
                      exact absurd H (by simp)
                  · rw [if_neg c11] at H
                    have c11b0 : ((rd l3 x12_2) == x9_1) = false := beq_eq_false_iff_ne.mpr c11
                    have c11b1 : ((rd l3 x12_2) != x9_1) = true := bne_iff_ne.mpr c11
                    have H' := Aside0.mk H
                    clear H
                    have p215 : 0 ≤ (x12_2 : Int) := of_decide_eq_true (by first | (with_reducible assumption) | assumption)
                    have q215 : x12_2 < (l3.length : Int) := of_decide_eq_true (by first | (with_reducible assumption) | assumption)
                    obtain ⟨ad215, e215, hx215_0⟩ := Kd.at_int HR3.out x12_2 p215 q215
                    cases e215
                    replace hx215_0 := (HB.out.cell (World.block_lt_of_cell? w _ hx215_0)).trans hx215_0
                    replace p215 := eq_true p215
                    replace q215 := eq_true q215
                    go_wp2
                    go_roundg k2
                    case measure => have := HK1.out; have := HK2.out; omega
                    case rel => exact ⟨(x10_2), (x11_2), (wrap64 (x12_2 + 1)), (by first | rfl | (simp; done) | (simp [*]; done)), (by first | rfl | (simp; done) | (simp [*]; done)), (by first | rfl | (simp; done) | (simp [*]; done)), H', ⟨by have := HK1.out; have := HK2.out; omega⟩, ⟨by (with_reducible repeat (first | refine blk_drewN ?_ _ | refine blk_drew ?_ | refine blk_alloc ?_ _)); exact BK214.out⟩, ⟨by repeat (first | (with_reducible first | exact HB.out | apply below_alloc | apply pw_below_drewN | apply below_drew1 | refine below_set ?_ GE214.out) | exact HB.out)⟩⟩
                · rw [if_neg c10] at H
                  exact absurd H (by simp)
              · rw [if_neg c9] at H
                exact absurd H (by simp)
            · rw [if_neg c8] at H
              have c8b0 : decide (x12_2 < (l2.length : Int)) = false := decide_eq_false c8
              clear c8
              by_cases c14 : x11_2 > 0
              · rw [if_pos c14] at H
                have c14b0 : decide (0 < x11_2) = true := decide_eq_true c14
                clear c14
                by_cases c15 : (wrap64 (x10_2 + (wrap64 (a0_2 * (wrap64 (x11_2 - 1)))))) > a0_1
                · rw [if_pos c15] at H
                  have c15b0 : decide (a0_1 < (wrap64 (x10_2 + (wrap64 (a0_2 * (wrap64 (x11_2 - 1))))))) = true := decide_eq_true c15
                  clear c15
                  obtain rfl := Option.some.inj H
                  have hcz16_0 : wr.cell? ⟨gb214, 0, none⟩ = some (.int .i64 a0_0) := (blk_cell BK214.out 0).trans rfl
                  have hcz16_1 : wr.cell? ⟨gb214, 1, none⟩ = some (.int .i64 a0_1) := (blk_cell BK214.out 1).trans rfl
                  have hcz16_2 : wr.cell? ⟨gb214, 2, none⟩ = some (.int .i64 a0_2) := (blk_cell BK214.out 2).trans rfl
                  have hcz16_3 : wr.cell? ⟨gb214, 3, none⟩ = some (.int .i64 a0_3) := (blk_cell BK214.out 3).trans rfl
                  have hcz16_4 : wr.cell? ⟨gb214, 4, none⟩ = some (.int .i64 a0_4) := (blk_cell BK214.out 4).trans rfl
                  have hfz16_0 := blk_frozen BK214.out 0
                  have hfz16_1 := blk_frozen BK214.out 1
                  have hfz16_2 := blk_frozen BK214.out 2
                  have hfz16_3 := blk_frozen BK214.out 3
                  have hfz16_4 := blk_frozen BK214.out 4
                  go_wp2
                  go_ret
                  exact ⟨by first | rfl | (simp [errW_none, errW_some] <;> rfl) | (simp [*, errW_none, errW_some] <;> rfl), by repeat (first | (with_reducible first | exact HB.out | apply below_alloc | apply pw_below_drewN | apply below_drew1 | refine below_set ?_ GE214.out) | exact HB.out)⟩
                · rw [if_neg c15] at H
                  have c15b0 : decide (a0_1 < (wrap64 (x10_2 + (wrap64 (a0_2 * (wrap64 (x11_2 - 1))))))) = false := decide_eq_false c15
                  clear c15
                  have H' := Aside0.mk H
                  clear H
                  have hcz17_0 : wr.cell? ⟨gb214, 0, none⟩ = some (.int .i64 a0_0) := (blk_cell BK214.out 0).trans rfl
                  have hcz17_1 : wr.cell? ⟨gb214, 1, none⟩ = some (.int .i64 a0_1) := (blk_cell BK214.out 1).trans rfl
                  have hcz17_2 : wr.cell? ⟨gb214, 2, none⟩ = some (.int .i64 a0_2) := (blk_cell BK214.out 2).trans rfl
                  have hcz17_3 : wr.cell? ⟨gb214, 3, none⟩ = some (.int .i64 a0_3) := (blk_cell BK214.out 3).trans rfl
                  have hcz17_4 : wr.cell? ⟨gb214, 4, none⟩ = some (.int .i64 a0_4) := (blk_cell BK214.out 4).trans rfl
                  have hfz17_0 := blk_frozen BK214.out 0
                  have hfz17_1 := blk_frozen BK214.out 1
                  have hfz17_2 := blk_frozen BK214.out 2
                  have hfz17_3 := blk_frozen BK214.out 3
                  have hfz17_4 := blk_frozen BK214.out 4
                  go_wp2
                  go_roundg k2
                  case measure => have := HK1.out; have := HK2.out; omega
                  case rel => exact ⟨(wrap64 (x9_1 + 1)), (by first | rfl | (simp; done) | (simp [*]; done)), H', ⟨by have := HK1.out; have := HK2.out; omega⟩, ⟨by (with_reducible repeat (first | refine blk_drewN ?_ _ | refine blk_drew ?_ | refine blk_alloc ?_ _)); exact BK214.out⟩, ⟨by repeat (first | (with_reducible first | exact HB.out | apply below_alloc | apply pw_below_drewN | apply below_drew1 | refine below_set ?_ GE214.out) | exact HB.out)⟩⟩
              · rw [if_neg c14] at H
                have c14b0 : decide (0 < x11_2) = false := decide_eq_false c14
                clear c14
                have H' := Aside0.mk H
                clear H
                go_wp2
                go_roundg k2
                case measure => have := HK1.out; have := HK2.out; omega
                case rel => exact ⟨(wrap64 (x9_1 + 1)), (by first | rfl | (simp; done) | (simp [*]; done)), H', ⟨by have := HK1.out; have := HK2.out; omega⟩, ⟨by (with_reducible repeat (first | refine blk_drewN ?_ _ | refine blk_drew ?_ | refine blk_alloc ?_ _)); exact BK214.out⟩, ⟨by repeat (first | (with_reducible first | exact HB.out | apply below_alloc | apply pw_below_drewN | apply below_drew1 | refine below_set ?_ GE214.out) | exact HB.out)⟩⟩
      · rw [if_neg c6] at H
        have c6b0 : decide (x9_1 < a0_0) = false := decide_eq_false c6
        clear c6
        obtain rfl := Option.some.inj H
        have hcz18_0 : wr.cell? ⟨gb214, 0, none⟩ = some (.int .i64 a0_0) := (blk_cell BK214.out 0).trans rfl
        have hcz18_1 : wr.cell? ⟨gb214, 1, none⟩ = some (.int .i64 a0_1) := (blk_cell BK214.out 1).trans rfl
        have hcz18_2 : wr.cell? ⟨gb214, 2, none⟩ = some (.int .i64 a0_2) := (blk_cell BK214.out 2).trans rfl
        have hcz18_3 : wr.cell? ⟨gb214, 3, none⟩ = some (.int .i64 a0_3) := (blk_cell BK214.out 3).trans rfl
        have hcz18_4 : wr.cell? ⟨gb214, 4, none⟩ = some (.int .i64 a0_4) := (blk_cell BK214.out 4).trans rfl
        have hfz18_0 := blk_frozen BK214.out 0
        have hfz18_1 := blk_frozen BK214.out 1
        have hfz18_2 := blk_frozen BK214.out 2
        have hfz18_3 := blk_frozen BK214.out 3
        have hfz18_4 := blk_frozen BK214.out 4
        go_wp2
        go_ret
        exact ⟨by first | rfl | (simp [errW_none, errW_some] <;> rfl) | (simp [*, errW_none, errW_some] <;> rfl), by repeat (first | (with_reducible first | exact HB.out | apply below_alloc | apply pw_below_drewN | apply below_drew1 | refine below_set ?_ GE214.out) | exact HB.out)⟩
end Go.Proofs.YtbijamlgcebgeaaDoor.Q

-- part Q5
namespace Go.Proofs.YtbijamlgcebgeaaDoor.Q
open Go.RowKit Go.Proofs.YtbijamlgcebgeaaDoorW.PrintWords Go.Proofs.YtbijamlgcebgeaaDoorW.PrintLast Go.Proofs.YtbijamlgcebgeaaDoorW.PrintMore
attribute [local go_sem] max2_int min2_int max_two min_two max_three min_three max_four min_four   -- for this text's walks alone
mutual
def smaltoref03_Bars.l0 : Nat → List (S74) → List Int → List Int → Int → Int → Int → Int → Int → Int → Option (List Int × Bool)
  | 0, _, _, _, _, _, _, _, _, _ => none
  | k + 1, x1, x2, x3, x10, x219000, x219001, x219002, x219003, x219004 => if x10 < x219000 then ((some (([] : List Int) : List Int)).bind fun y220 => (if y220.length + x3.length < 17592186044416 then ((some (y220 ++ x3 : List Int)).bind fun y223 => ((some (([x10] : List Int) : List Int)).bind fun y226 => (if y223.length + y226.length < 17592186044416 then ((smaltoref03_Bars.f k x219000 x219001 x219002 x219003 x219004 x1 x2 (y223 ++ y226)).bind fun bt232 => (if bt232.2 = true then (some (bt232.1, true)) else (smaltoref03_Bars.l0 k x1 x2 x3 (wrap64 (x10 + 1)) x219000 x219001 x219002 x219003 x219004))) else (none)))) else (none))) else (some (([] : List Int), false))
def smaltoref03_Bars.f : Nat → Int → Int → Int → Int → Int → List (S74) → List Int → List Int → Option (List Int × Bool)
  | 0, _, _, _, _, _, _, _, _ => none
  | k + 1, a0_0, a0_1, a0_2, a0_3, a0_4, l1, l2, l3 => if (l3.length : Int) = (l2.length : Int) then ((smaltoref03_Lie.f k a0_0 a0_1 a0_2 a0_3 a0_4 l1 l2 l3).bind fun t219 => (some (l3, t219))) else (smaltoref03_Bars.l0 k l1 l2 l3 0 a0_0 a0_1 a0_2 a0_3 a0_4)
end
theorem smaltoref03_Bars.mono_l : ∀ k, (∀ y0 y1 y2 y3 y4 y5 y6 y7, LeO (smaltoref03_Bars.f k y0 y1 y2 y3 y4 y5 y6 y7) (smaltoref03_Bars.f (k + 1) y0 y1 y2 y3 y4 y5 y6 y7)) ∧ (∀ y0 y1 y2 y3 y4 y5 y6 y7 y8, LeO (smaltoref03_Bars.l0 k y0 y1 y2 y3 y4 y5 y6 y7 y8) (smaltoref03_Bars.l0 (k + 1) y0 y1 y2 y3 y4 y5 y6 y7 y8))
  | 0 => ⟨fun _ _ _ _ _ _ _ _ r h => by simp [smaltoref03_Bars.f] at h, fun _ _ _ _ _ _ _ _ _ r h => by simp [smaltoref03_Bars.l0] at h⟩
  | k + 1 => by
    obtain ⟨ih0, ih1⟩ := smaltoref03_Bars.mono_l k
    refine ⟨?_, ?_⟩
    · intro y0 y1 y2 y3 y4 y5 y6 y7
      unfold smaltoref03_Bars.f
      repeat' first
      | (with_reducible exact ih0 _ _ _ _ _ _ _ _)
      | (with_reducible exact ih1 _ _ _ _ _ _ _ _ _)
      | (with_reducible exact smaltoref03_Lie.mono _ _ _ _ _ _ _ _ _)
      | (with_reducible exact LeO.refl _)
      | (with_reducible exact LeO.none _)
      | (with_reducible refine LeO.ite ?_ ?_)
      | (with_reducible refine LeO.bind ?_ (fun _ => ?_))
      | exact ih0 _ _ _ _ _ _ _ _
      | exact ih1 _ _ _ _ _ _ _ _ _
      | exact smaltoref03_Lie.mono _ _ _ _ _ _ _ _ _
      | exact LeO.none _
      | refine LeO.ite ?_ ?_
      | refine LeO.bind ?_ (fun _ => ?_)
    · intro y0 y1 y2 y3 y4 y5 y6 y7 y8
      unfold smaltoref03_Bars.l0
      repeat' first
      | (with_reducible exact ih0 _ _ _ _ _ _ _ _)
      | (with_reducible exact ih1 _ _ _ _ _ _ _ _ _)
      | (with_reducible exact smaltoref03_Lie.mono _ _ _ _ _ _ _ _ _)
      | (with_reducible exact LeO.refl _)
      | (with_reducible exact LeO.none _)
      | (with_reducible refine LeO.ite ?_ ?_)
      | (with_reducible refine LeO.bind ?_ (fun _ => ?_))
      | exact ih0 _ _ _ _ _ _ _ _
      | exact ih1 _ _ _ _ _ _ _ _ _
      | exact smaltoref03_Lie.mono _ _ _ _ _ _ _ _ _
      | exact LeO.none _
      | refine LeO.ite ?_ ?_
      | refine LeO.bind ?_ (fun _ => ?_)
theorem smaltoref03_Bars.mono : ∀ a0 a1 a2 a3 a4 a5 a6 a7 k, LeO (smaltoref03_Bars.f k a0 a1 a2 a3 a4 a5 a6 a7) (smaltoref03_Bars.f (k + 1) a0 a1 a2 a3 a4 a5 a6 a7) := by
  intro a0 a1 a2 a3 a4 a5 a6 a7 k
  obtain ⟨ih0, ih1⟩ := smaltoref03_Bars.mono_l k
  exact ih0 a0 a1 a2 a3 a4 a5 a6 a7
def smaltoref03_Bars.T6 : Bool × List (List Nat × List Nat) := (true, [([], []), ([], []), ([], []), ([], []), ([], []), ([3, 4], [3, 4]), ([], []), ([6], [6]), ([5, 7, 5], [5, 7]), ([0, 1, 2, 8, 8], [0, 1, 2, 8]), ([9], [9]), ([10], [10]), ([10], [10]), ([11, 9, 0, 1, 2, 3, 4, 5, 6, 7, 8, 9, 10, 11], [11]), ([12, 13, 0, 1, 2, 3, 4, 5, 6, 7, 8, 9, 10, 11, 12, 13], [12])])
def smaltoref03_Bars.B6 : List Nat := [0, 0, 0, 0, 0, 24, 0, 64, 248, 511, 1023, 2047, 2047, 4095, 16383]
theorem smaltoref03_Bars.tab6 : rtab .any (opsOf Tryd.f25 6) = smaltoref03_Bars.T6 := by kernel_rfl
theorem smaltoref03_Bars.bits6 : waitsOk smaltoref03_Bars.T6.2 smaltoref03_Bars.B6 = true := by kernel_rfl
set_option maxHeartbeats 8000000 in
set_option maxRecDepth 100000 in
theorem smaltoref03_Bars.calls (k : Nat) : ∀ (a0_0 : Int) (a0_1 : Int) (a0_2 : Int) (a0_3 : Int) (a0_4 : Int) (A1 : Option Addr) (c1 : Nat) (l1 : List (S74)) (A2 : Option Addr) (c2 : Nat) (l2 : List Int) (P3_ : Nat → Prop) (u9000_ : Value) (l3 : List Int) (r1 : List Int) (r2 : Bool) (w0 w : World) (hB : Below w0.heap.size w0 w) (hr1 : ∀ W_, Kept w W_ (fun k_ => P3_ k_) → Kd.C k74 W_ A1 l1.length l1) (hc1 : l1.length ≤ c1) (hr2 : ∀ W_, Kept w W_ (fun k_ => P3_ k_) → Kd.C (Kd.int .i64) W_ A2 l2.length l2) (hc2 : l2.length ≤ c2) (ho3 : Kd.R (Kd.int .i64) 3 w w0.heap.size P3_ u9000_ l3) (h : smaltoref03_Bars.f k a0_0 a0_1 a0_2 a0_3 a0_4 l1 l2 l3 = some (r1, r2)),
    Calls Tryd.prog 25 #[.agg #[.int .i64 a0_0, .int .i64 a0_1, .int .i64 a0_2, .int .i64 a0_3, .int .i64 a0_4], .slice A1 l1.length c1, .slice A2 l2.length c2, u9000_] w fun e w' => ∃ v0_ : Value, e = .returned (.tuple #[v0_, .bool r2]) ∧ Kd.R (Kd.int .i64) 3 w' w0.heap.size (fun k_ => (P3_ k_ ∨ w.heap.size ≤ k_)) v0_ r1 ∧ Below w0.heap.size w0 w' ∧ Kept w w' (fun k_ => P3_ k_) := by
  induction k using Nat.strongRecOn with
  | _ k ih =>
  intro a0_0 a0_1 a0_2 a0_3 a0_4 A1 c1 l1 A2 c2 l2 P3_ u9000_ l3 r1 r2 w0 w hB hr1 hc1 hr2 hc2 ho3 h
  cases k with
  | zero => exact absurd h (by simp [smaltoref03_Bars.f])
  | succ k =>
  simp only [smaltoref03_Bars.f] at h
  have hu23 := Tryd.underlying23
  have HR1 := Aside0.mk hr1
  have HC1 := Aside0.mk hc1
  clear hr1 hc1
  have HR2 := Aside0.mk hr2
  have HC2 := Aside0.mk hc2
  clear hr2 hc2
  have HO3 := Aside0.mk (show Kd.R (Kd.int .i64) 3 w w0.heap.size (fun k_ => (P3_ k_ ∨ w.heap.size ≤ k_)) u9000_ l3 from Kd.R_mono ho3 (fun k_ hk => (.inl hk)))
  have HK := Aside0.mk (Kept.refl w (fun k_ => P3_ k_))
  have HW0 := Aside0.mk hB.size
  have HB := Aside0.mk hB
  clear hB
  have H : (if (l3.length : Int) = (l2.length : Int) then ((smaltoref03_Lie.f k a0_0 a0_1 a0_2 a0_3 a0_4 l1 l2 l3).bind fun t219 => (some (l3, t219))) else (smaltoref03_Bars.l0 k l1 l2 l3 0 a0_0 a0_1 a0_2 a0_3 a0_4)) = some (r1, r2) := h
  clear h
  by_cases c5 : (l3.length : Int) = (l2.length : Int)
  · rw [if_pos c5] at H
    have c5b0 : ((l3.length : Int) == (l2.length : Int)) = true := beq_iff_eq.mpr c5
    have c5b1 : ((l3.length : Int) != (l2.length : Int)) = false := bne_eq_false_iff_eq.mpr c5
    have c5b2 : (l3.length == l2.length) = true := by first | simpa using c5 | (simp at c5 ⊢; omega)
    clear c5
    replace H := Option.bind_eq_some_iff.mp H
    obtain ⟨t219, A60, H⟩ := H
    replace H : (some (l3, t219)) = some (r1, r2) := H
    have A6 := Aside0.mk A60
    clear A60
    simp only [Option.some.injEq, Prod.mk.injEq] at H
    obtain ⟨rfl, rfl⟩ := H
    go_enter Tryd.func25, Tryd.ntmps25
    go_wp2_with (first | ((with_reducible refine gate_dst (N := 4) rfl ?_); refine box_event ?hg (N := 4) ?hd (cs := #[.int .i64 a0_0, .int .i64 a0_1, .int .i64 a0_2, .int .i64 a0_3, .int .i64 a0_4]) (t := 23) ?hr ?_; (case hd => rfl); (case hg => rfl); (case hr => first | (go_simp; done) | (go_simp; rfl)); intro gb218 hg w7 hbox hb; have n0_ := Aside0.mk (Kd.R_below (by (with_reducible repeat (first | apply Kd.R_alloc | apply Kd.R_drewN | apply Kd.R_drew)); exact HO3.out) hb); have n1_ := Aside0.mk (Kept.below (S := (fun k_ => P3_ k_)) (by repeat (first | (with_reducible first | exact HK.out | apply Kept.alloc | apply Kept.drewN | apply Kept.drew) | exact HK.out)) hb); have n2_ := Aside0.mk (below_step (by repeat (first | (with_reducible first | exact HB.out | apply below_alloc | apply pw_below_drewN | apply below_drew1) | exact HB.out)) hb); have n3_ := Aside0.mk (hbox); have n4_ := Aside0.mk ((by rw [hg]; exact (by first | exact HK.out.1 | exact (show Kept w _ (fun k_ => P3_ k_) from by repeat (first | (with_reducible first | exact HK.out | apply Kept.alloc | apply Kept.drewN | apply Kept.drew) | exact HK.out)).1) : w.heap.size ≤ gb218)); have n5_ := Aside0.mk ((by rw [hg]; exact (below_size (by repeat (first | (with_reducible first | exact HB.out | apply below_alloc | apply pw_below_drewN | apply below_drew1) | exact HB.out))) : w0.heap.size ≤ gb218)); clear HO3; clear HK; clear HB; have HO3 := n0_; have HK := n1_; have HB := n2_; have BK218 := n3_; have GW218 := n4_; have GE218 := n5_; clear n0_ n1_ n2_ n3_ n4_ n5_; clear hb hbox hg; obtain ⟨Ao8, co8, eo8⟩ := Kd.R_slice HO3.out; subst eo8; have hcz9_0 : w7.cell? ⟨gb218, 0, none⟩ = some (.int .i64 a0_0) := (blk_cell BK218.out 0).trans rfl; have hcz9_1 : w7.cell? ⟨gb218, 1, none⟩ = some (.int .i64 a0_1) := (blk_cell BK218.out 1).trans rfl; have hcz9_2 : w7.cell? ⟨gb218, 2, none⟩ = some (.int .i64 a0_2) := (blk_cell BK218.out 2).trans rfl; have hcz9_3 : w7.cell? ⟨gb218, 3, none⟩ = some (.int .i64 a0_3) := (blk_cell BK218.out 3).trans rfl; have hcz9_4 : w7.cell? ⟨gb218, 4, none⟩ = some (.int .i64 a0_4) := (blk_cell BK218.out 4).trans rfl; have hfz9_0 := blk_frozen BK218.out 0; have hfz9_1 := blk_frozen BK218.out 1; have hfz9_2 := blk_frozen BK218.out 2; have hfz9_3 := blk_frozen BK218.out 3; have hfz9_4 := blk_frozen BK218.out 4) | ((with_reducible refine gate_callee (f := 67) rfl ?_); refine goesL_ (some 23) rfl rfl Tryd.func67 (by kernel_rfl) rfl #[.agg #[.int .i64 a0_0, .int .i64 a0_1, .int .i64 a0_2, .int .i64 a0_3, .int .i64 a0_4], .slice A1 l1.length c1, .slice A2 l2.length c2, .slice Ao8 l3.length co8] rfl (by (try simp only [List.map_toArray, List.map_cons, List.map_nil]); first | done | rfl | (simp only [List.length_drop, List.length_take]; rfl)) ?_; (with_reducible refine (smaltoref03_Lie.calls k a0_0 a0_1 a0_2 a0_3 a0_4 _ _ l1 _ _ l2 _ _ l3 t219 _ ?side1 ?side2 ?side3 ?side4 ?side5 ?side6 A6.out).mono ?_); (case side1 => exact Kd.C_kept_now HR1.out (by repeat (first | (with_reducible first | exact HK.out | apply Kept.alloc | apply Kept.drewN | apply Kept.drew | refine Kept.setCell ?_ (.inr GW218.out) _) | exact HK.out))); (case side2 => exact HC1.out); (case side3 => exact Kd.C_kept_now HR2.out (by repeat (first | (with_reducible first | exact HK.out | apply Kept.alloc | apply Kept.drewN | apply Kept.drew | refine Kept.setCell ?_ (.inr GW218.out) _) | exact HK.out))); (case side4 => exact HC2.out); (case side5 => repeat (first | exact (Kd.R_reads' HO3.out).2.2 | (with_reducible refine Kd.C_alloc ?_ _) | (with_reducible refine Kd.C_drewN ?_ _) | (with_reducible refine Kd.C_drew ?_))); (case side6 => exact (Kd.R_reads' HO3.out).2.1); rintro e w10 ⟨rfl, hb⟩; refine ⟨_, rfl, ?_⟩; have n0_ := Aside0.mk (Kd.R_below (by (with_reducible repeat (first | apply Kd.R_alloc | apply Kd.R_drewN | apply Kd.R_drew)); exact HO3.out) hb); have n1_ := Aside0.mk (blk_below (g := gb218) (o := .cells #[.int .i64 a0_0, .int .i64 a0_1, .int .i64 a0_2, .int .i64 a0_3, .int .i64 a0_4] 23 (0, 0)) (by (with_reducible repeat (first | refine blk_drewN ?_ _ | refine blk_drew ?_ | refine blk_alloc ?_ _)); exact BK218.out) hb); have n2_ := Aside0.mk (Kept.below (S := (fun k_ => P3_ k_)) (by repeat (first | (with_reducible first | exact HK.out | apply Kept.alloc | apply Kept.drewN | apply Kept.drew | refine Kept.setCell ?_ (.inr GW218.out) _) | exact HK.out)) hb); have n3_ := Aside0.mk (below_step (by repeat (first | (with_reducible first | exact HB.out | apply below_alloc | apply pw_below_drewN | apply below_drew1 | refine below_set ?_ GE218.out) | exact HB.out)) hb); clear HO3; clear BK218; clear HK; clear HB; have HO3 := n0_; have BK218 := n1_; have HK := n2_; have HB := n3_; clear n0_ n1_ n2_ n3_; (try clear hb); (try clear hb2); (try clear hk); (try clear hi)))
    go_ret2
    exact ⟨_, by first | rfl | (simp [errW_none, errW_some] <;> rfl) | (simp [*, errW_none, errW_some] <;> rfl), by (with_reducible repeat (first | apply Kd.R_alloc | apply Kd.R_drewN | apply Kd.R_drew)); exact HO3.out, by repeat (first | (with_reducible first | exact HB.out | apply below_alloc | apply pw_below_drewN | apply below_drew1 | refine below_set ?_ GE218.out) | exact HB.out), by repeat (first | (with_reducible first | exact HK.out | apply Kept.alloc | apply Kept.drewN | apply Kept.drew | refine Kept.setCell ?_ (.inr GW218.out) _) | exact HK.out)⟩
  · rw [if_neg c5] at H
    have c5b0 : ((l3.length : Int) == (l2.length : Int)) = false := beq_eq_false_iff_ne.mpr c5
    have c5b1 : ((l3.length : Int) != (l2.length : Int)) = true := bne_iff_ne.mpr c5
    have c5b2 : (l3.length == l2.length) = false := by first | simpa using c5 | (simp at c5 ⊢; omega)
    have H' := Aside0.mk H
    clear H
    go_enter Tryd.func25, Tryd.ntmps25
    go_wp2_with (first | ((with_reducible refine gate_dst (N := 4) rfl ?_); refine box_event ?hg (N := 4) ?hd (cs := #[.int .i64 a0_0, .int .i64 a0_1, .int .i64 a0_2, .int .i64 a0_3, .int .i64 a0_4]) (t := 23) ?hr ?_; (case hd => rfl); (case hg => rfl); (case hr => first | (go_simp; done) | (go_simp; rfl)); intro gb218 hg w11 hbox hb; have n0_ := Aside0.mk (Kd.R_below (by (with_reducible repeat (first | apply Kd.R_alloc | apply Kd.R_drewN | apply Kd.R_drew)); exact HO3.out) hb); have n1_ := Aside0.mk (Kept.below (S := (fun k_ => P3_ k_)) (by repeat (first | (with_reducible first | exact HK.out | apply Kept.alloc | apply Kept.drewN | apply Kept.drew) | exact HK.out)) hb); have n2_ := Aside0.mk (below_step (by repeat (first | (with_reducible first | exact HB.out | apply below_alloc | apply pw_below_drewN | apply below_drew1) | exact HB.out)) hb); have n3_ := Aside0.mk (hbox); have n4_ := Aside0.mk ((by rw [hg]; exact (by first | exact HK.out.1 | exact (show Kept w _ (fun k_ => P3_ k_) from by repeat (first | (with_reducible first | exact HK.out | apply Kept.alloc | apply Kept.drewN | apply Kept.drew) | exact HK.out)).1) : w.heap.size ≤ gb218)); have n5_ := Aside0.mk ((by rw [hg]; exact (below_size (by repeat (first | (with_reducible first | exact HB.out | apply below_alloc | apply pw_below_drewN | apply below_drew1) | exact HB.out))) : w0.heap.size ≤ gb218)); clear HO3; clear HK; clear HB; have HO3 := n0_; have HK := n1_; have HB := n2_; have BK218 := n3_; have GW218 := n4_; have GE218 := n5_; clear n0_ n1_ n2_ n3_ n4_ n5_; clear hb hbox hg; obtain ⟨Ao12, co12, eo12⟩ := Kd.R_slice HO3.out; subst eo12))
    go_loopg [10] k (fun kq v10 w' => ∃ (x10_1 : Int), v10 = .int .i64 x10_1 ∧ Aside0 (smaltoref03_Bars.l0 kq l1 l2 l3 x10_1 a0_0 a0_1 a0_2 a0_3 a0_4 = some (r1, r2)) ∧ Aside0 (kq ≤ k) ∧ Aside0 (Kd.R (Kd.int .i64) 3 w' w0.heap.size (fun k_ => (P3_ k_ ∨ w.heap.size ≤ k_)) (.slice Ao12 l3.length co12) l3) ∧ Aside0 (w'.heap[gb218]? = some (.cells #[.int .i64 a0_0, .int .i64 a0_1, .int .i64 a0_2, .int .i64 a0_3, .int .i64 a0_4] 23 (0, 0))) ∧ Aside0 (Kept w w' (fun k_ => P3_ k_)) ∧ Aside0 (Below w0.heap.size w0 w'))
    case atStart => exact ⟨(0), (by first | rfl | (simp; done) | (simp [*]; done)), H', ⟨Nat.le_refl _⟩, ⟨by (with_reducible repeat (first | apply Kd.R_alloc | apply Kd.R_drewN | apply Kd.R_drew)); exact HO3.out⟩, ⟨by (with_reducible repeat (first | refine blk_drewN ?_ _ | refine blk_drew ?_ | refine blk_alloc ?_ _)); exact BK218.out⟩, ⟨by repeat (first | (with_reducible first | exact HK.out | apply Kept.alloc | apply Kept.drewN | apply Kept.drew | refine Kept.setCell ?_ (.inr GW218.out) _) | exact HK.out)⟩, ⟨by repeat (first | (with_reducible first | exact HB.out | apply below_alloc | apply pw_below_drewN | apply below_drew1 | refine below_set ?_ GE218.out) | exact HB.out)⟩⟩
    case round =>
      clear H'
      try clear c1
      try clear c2
      try clear p2
      try clear c5
      try clear c5b0
      try clear c5b1
      try clear c5b2
      try clear c6
      try clear hcz9_0
      try clear hcz9_1
      try clear hcz9_2
      try clear hcz9_3
      try clear hcz9_4
      try clear hfz9_0
      try clear hfz9_1
      try clear hfz9_2
      try clear hfz9_3
      try clear hfz9_4
      obtain ⟨x10_1, rfl, HA, HK1, HO_3, BK218, HK, HB⟩ := hrel
      cases gk with
      | zero => exact absurd HA.out (by simp [smaltoref03_Bars.l0])
      | succ k1 =>
        have H := HA.out
        clear HA
        simp only [smaltoref03_Bars.l0] at H
        by_cases c13 : x10_1 < a0_0
        · rw [if_pos c13] at H
          have c13b0 : decide (x10_1 < a0_0) = true := decide_eq_true c13
          clear c13
          obtain ⟨y220, hy220⟩ : ∃ y_ : List Int, y_ = (([] : List Int)) := ⟨_, rfl⟩
          replace H : (if y220.length + l3.length < 17592186044416 then ((some (y220 ++ l3 : List Int)).bind fun y223 => ((some (([x10_1] : List Int) : List Int)).bind fun y226 => (if y223.length + y226.length < 17592186044416 then ((smaltoref03_Bars.f k1 a0_0 a0_1 a0_2 a0_3 a0_4 l1 l2 (y223 ++ y226)).bind fun bt232 => (if bt232.2 = true then (some (bt232.1, true)) else (smaltoref03_Bars.l0 k1 l1 l2 l3 (wrap64 (x10_1 + 1)) a0_0 a0_1 a0_2 a0_3 a0_4))) else (none)))) else (none)) = some (r1, r2) := by first | (rw [hy220]; with_reducible exact H) | (have H2_ := (Option.bind_some _ _).symm.trans H; rw [hy220]; with_reducible exact H2_) | (have H2_ := (Option.bind_some _ _).symm.trans H; with_reducible exact H2_) | with_reducible exact H | (rw [hy220]; exact H) | exact H
          have Ny220 := Aside0.mk hy220
          clear hy220
          by_cases c14 : y220.length + l3.length < 17592186044416
          · rw [if_pos c14] at H
            have LMc14 := Aside0.mk c14
            clear c14
            obtain ⟨y223, hy223⟩ : ∃ y_ : List Int, y_ = (y220 ++ l3) := ⟨_, rfl⟩
            replace H : ((some (([x10_1] : List Int) : List Int)).bind fun y226 => (if y223.length + y226.length < 17592186044416 then ((smaltoref03_Bars.f k1 a0_0 a0_1 a0_2 a0_3 a0_4 l1 l2 (y223 ++ y226)).bind fun bt232 => (if bt232.2 = true then (some (bt232.1, true)) else (smaltoref03_Bars.l0 k1 l1 l2 l3 (wrap64 (x10_1 + 1)) a0_0 a0_1 a0_2 a0_3 a0_4))) else (none))) = some (r1, r2) := by first | (rw [hy223]; with_reducible exact H) | (have H2_ := (Option.bind_some _ _).symm.trans H; rw [hy223]; with_reducible exact H2_) | (have H2_ := (Option.bind_some _ _).symm.trans H; with_reducible exact H2_) | with_reducible exact H | (rw [hy223]; exact H) | exact H
            have Ny223 := Aside0.mk hy223
            clear hy223
            obtain ⟨y226, hy226⟩ : ∃ y_ : List Int, y_ = (([x10_1] : List Int)) := ⟨_, rfl⟩
            replace H : (if y223.length + y226.length < 17592186044416 then ((smaltoref03_Bars.f k1 a0_0 a0_1 a0_2 a0_3 a0_4 l1 l2 (y223 ++ y226)).bind fun bt232 => (if bt232.2 = true then (some (bt232.1, true)) else (smaltoref03_Bars.l0 k1 l1 l2 l3 (wrap64 (x10_1 + 1)) a0_0 a0_1 a0_2 a0_3 a0_4))) else (none)) = some (r1, r2) := by first | (rw [hy226]; with_reducible exact H) | (have H2_ := (Option.bind_some _ _).symm.trans H; rw [hy226]; with_reducible exact H2_) | (have H2_ := (Option.bind_some _ _).symm.trans H; with_reducible exact H2_) | with_reducible exact H | (rw [hy226]; exact H) | exact H
            have Ny226 := Aside0.mk hy226
            clear hy226
            by_cases c15 : y223.length + y226.length < 17592186044416
            · rw [if_pos c15] at H
              have LMc15 := Aside0.mk c15
              clear c15
              obtain ⟨y229, hy229⟩ : ∃ y_ : List Int, y_ = (y223 ++ y226) := ⟨_, rfl⟩
              replace H : ((smaltoref03_Bars.f k1 a0_0 a0_1 a0_2 a0_3 a0_4 l1 l2 y229).bind fun bt232 => (if bt232.2 = true then (some (bt232.1, true)) else (smaltoref03_Bars.l0 k1 l1 l2 l3 (wrap64 (x10_1 + 1)) a0_0 a0_1 a0_2 a0_3 a0_4))) = some (r1, r2) := by first | (rw [hy229]; with_reducible exact H) | (have H2_ := (Option.bind_some _ _).symm.trans H; rw [hy229]; with_reducible exact H2_) | (have H2_ := (Option.bind_some _ _).symm.trans H; with_reducible exact H2_) | with_reducible exact H | (rw [hy229]; exact H) | exact H
              have Ny229 := Aside0.mk hy229
              clear hy229
              replace H := Option.bind_eq_some_iff.mp H
              obtain ⟨⟨t232, t235⟩, A160, H⟩ := H
              replace H : (if t235 = true then (some (t232, true)) else (smaltoref03_Bars.l0 k1 l1 l2 l3 (wrap64 (x10_1 + 1)) a0_0 a0_1 a0_2 a0_3 a0_4)) = some (r1, r2) := H
              have A16 := Aside0.mk A160
              clear A160
              by_cases c17 : t235 = true
              · subst c17
                have H1 : (some (t232, true)) = some (r1, r2) := by rw [if_pos rfl] at H; exact H
                clear H
                have H := H1
                clear H1
                simp only [Option.some.injEq, Prod.mk.injEq] at H
                obtain ⟨rfl, rfl⟩ := H
                have hcz18_0 : wr.cell? ⟨gb218, 0, none⟩ = some (.int .i64 a0_0) := (blk_cell BK218.out 0).trans rfl
                have hcz18_1 : wr.cell? ⟨gb218, 1, none⟩ = some (.int .i64 a0_1) := (blk_cell BK218.out 1).trans rfl
                have hcz18_2 : wr.cell? ⟨gb218, 2, none⟩ = some (.int .i64 a0_2) := (blk_cell BK218.out 2).trans rfl
                have hcz18_3 : wr.cell? ⟨gb218, 3, none⟩ = some (.int .i64 a0_3) := (blk_cell BK218.out 3).trans rfl
                have hcz18_4 : wr.cell? ⟨gb218, 4, none⟩ = some (.int .i64 a0_4) := (blk_cell BK218.out 4).trans rfl
                have hfz18_0 := blk_frozen BK218.out 0
                have hfz18_1 := blk_frozen BK218.out 1
                have hfz18_2 := blk_frozen BK218.out 2
                have hfz18_3 := blk_frozen BK218.out 3
                have hfz18_4 := blk_frozen BK218.out 4
                try go_wp2
                have n0_ := Aside0.mk (Kd.R_drew HO_3.out)
                have n1_ := Aside0.mk (blk_drew BK218.out)
                have n2_ := Aside0.mk (Kept.drew HK.out)
                have n3_ := Aside0.mk (below_drew1 HB.out)
                clear HO_3
                clear BK218
                clear HK
                clear HB
                have HO_3 := n0_
                have BK218 := n1_
                have HK := n2_
                have HB := n3_
                clear n0_ n1_ n2_ n3_
                refine start_ (n := 15) (S := fun w' => w'.cell? ⟨gb218, 0, none⟩ = some (.int .i64 a0_0) ∧ w'.cell? ⟨gb218, 1, none⟩ = some (.int .i64 a0_1) ∧ w'.cell? ⟨gb218, 2, none⟩ = some (.int .i64 a0_2) ∧ w'.cell? ⟨gb218, 3, none⟩ = some (.int .i64 a0_3) ∧ w'.cell? ⟨gb218, 4, none⟩ = some (.int .i64 a0_4)) (ds := []) #[false, false, false, false, false, false, false, false, false, false, false, false, false, false, false] (by kernel_rfl) rfl rfl ⟨(blk_cell BK218.out 0).trans rfl, (blk_cell BK218.out 1).trans rfl, (blk_cell BK218.out 2).trans rfl, (blk_cell BK218.out 3).trans rfl, (blk_cell BK218.out 4).trans rfl⟩ (fun hHeld => ?_); refine with_tabW smaltoref03_Bars.tab6 smaltoref03_Bars.bits6 (fun HT_ HW_ => ?_)
                generalize wr.drew = w19 at HO_3 BK218 HK HB hHeld ⊢
                refine pure_ (i := 1) (N := some 32) (v := ?_) (a' := ?_) #[false, true, false, false, false, false, false, false, false, false, false, false, false, false, false] rfl rfl (any_of HT_.out (by kernel_rfl)) (fun _ _ _ h => h) (Or.inl ⟨by rfl, ?_⟩) ?_ ?_
                rotate_left
                · intro w'
                  go_simp
                  with_reducible rfl
                rotate_left
                · simp only [Act.put, List.setIfInBounds_toArray, List.set_cons_zero, List.set_cons_succ, i64_w, i32_w]
                  rfl
                refine pure_ (i := 2) (N := some 33) (v := ?_) (a' := ?_) #[false, true, true, false, false, false, false, false, false, false, false, false, false, false, false] rfl rfl (any_of HT_.out (by kernel_rfl)) (fun _ _ _ h => h) (Or.inl ⟨by rfl, ?_⟩) ?_ ?_
                rotate_left
                · intro w'
                  go_simp
                  with_reducible rfl
                rotate_left
                · simp only [Act.put, List.setIfInBounds_toArray, List.set_cons_zero, List.set_cons_succ, i64_w, i32_w]
                  rfl
                refine pure_ (i := 4) (N := some 35) (v := ?_) (a' := ?_) #[false, true, true, false, true, false, false, false, false, false, false, false, false, false, false] rfl rfl (any_of HT_.out (by kernel_rfl)) (fun _ _ _ h => h) (Or.inl ⟨by rfl, ?_⟩) ?_ ?_
                rotate_left
                · intro w'
                  go_simp
                  with_reducible rfl
                rotate_left
                · simp only [Act.put, List.setIfInBounds_toArray, List.set_cons_zero, List.set_cons_succ, i64_w, i32_w]
                  rfl
                refine pure_ (i := 6) (N := some 37) (v := ?_) (a' := ?_) #[false, true, true, false, true, false, true, false, false, false, false, false, false, false, false] rfl rfl (any_of HT_.out (by kernel_rfl)) (fun _ _ _ h => h) (Or.inl ⟨by rfl, ?_⟩) ?_ ?_
                rotate_left
                · intro w'
                  go_simp
                  with_reducible rfl
                rotate_left
                · simp only [Act.put, List.setIfInBounds_toArray, List.set_cons_zero, List.set_cons_succ, i64_w, i32_w]
                  rfl
                refine take_ (i := 0) (N := some 31) (v := ?_) (a' := ?_) #[true, true, true, false, true, false, true, false, false, false, false, false, false, false, false] rfl rfl (take_ofW HT_.out HW_.out (by kernel_rfl)) (fun _ _ _ h => h) (Or.inl ⟨by rfl, ?_⟩) hHeld ?_ ?_
                rotate_left
                · rintro w' ⟨s0, s1, s2, s3, s4⟩
                  go_simp
                  with_reducible rfl
                rotate_left
                · simp only [Act.put, List.setIfInBounds_toArray, List.set_cons_zero, List.set_cons_succ, i64_w, i32_w]
                  rfl
                refine join_ (σ := Value × Value × Value) 7 #[true, true, true, true, true, true, true, true, false, false, false, false, false, false, false] (fun s_ => [(34, s_.1), (36, s_.2.1), (38, s_.2.2)]) (fun s_ w' => (w'.cell? ⟨gb218, 0, none⟩ = some (.int .i64 a0_0) ∧ w'.cell? ⟨gb218, 1, none⟩ = some (.int .i64 a0_1) ∧ w'.cell? ⟨gb218, 2, none⟩ = some (.int .i64 a0_2) ∧ w'.cell? ⟨gb218, 3, none⟩ = some (.int .i64 a0_3) ∧ w'.cell? ⟨gb218, 4, none⟩ = some (.int .i64 a0_4)) ∧ (Kd.R (Kd.int .i64) 3 w' w0.heap.size (fun k_ => (P3_ k_ ∨ w.heap.size ≤ k_) ∧ some k_ ≠ (s_.2.2 : Value).ownBlock ∧ some k_ ≠ (.slice Ao12 l3.length co12 : Value).ownBlock) s_.2.1 y223) ∧ (Kd.R (Kd.int .i64) 3 w' w0.heap.size (fun k_ => (P3_ k_ ∨ w.heap.size ≤ k_) ∧ some k_ ≠ (s_.2.1 : Value).ownBlock ∧ some k_ ≠ (.slice Ao12 l3.length co12 : Value).ownBlock) s_.2.2 y226) ∧ (Kd.R (Kd.int .i64) 3 w' w0.heap.size (fun k_ => (P3_ k_ ∨ w.heap.size ≤ k_) ∧ some k_ ≠ (s_.2.1 : Value).ownBlock ∧ some k_ ≠ (s_.2.2 : Value).ownBlock) (.slice Ao12 l3.length co12) l3) ∧ (w'.heap[gb218]? = some (.cells #[.int .i64 a0_0, .int .i64 a0_1, .int .i64 a0_2, .int .i64 a0_3, .int .i64 a0_4] 23 (0, 0))) ∧ (Kept w w' (fun k_ => P3_ k_)) ∧ (Below w0.heap.size w0 w')) ?_ ?_
                rotate_left
                · intro hCont
                  refine two_ (i := 3) (j := 7) (Ni := some 34) (Nj := some 38) #[true, true, true, true, true, false, true, false, false, false, false, false, false, false, false] #[true, true, true, false, true, false, true, true, false, false, false, false, false, false, false] rfl rfl rfl rfl (two_of HT_.out (by kernel_rfl)) (by decide) (by decide) (fun K hK => ?_) (fun K hK => ?_)
                  · skip
                    refine Kd.R_lit_step (Kd.int .i64) _ 3 ?hg (N := 34) ?hd (xs := ([] : List Int)) (inner := []) (ok := fun _ => True) (okp := fun _ => True) ?hr ?hp (fun _ hk => hk) trivial (Below.refl _ _) (Nat.le_refl _) (by simp) ?_; (case hd => rfl); (case hg => rfl); (case hr => first | (go_simp; done) | (go_simp; rfl)); (case hp => exact (Reps.none _ _))
                    intro v221 w20 ho21 hb hg_ hnew_
                    clear hg_ hnew_
                    (first | rw [← Ny220.out] at ho21 | (simp only [Int.reduceToNat] at ho21; rw [← Ny220.out] at ho21))
                    have n0_ := Aside0.mk (Kd.R_elder' (by (with_reducible repeat (first | apply Kd.R_alloc | apply Kd.R_drewN | apply Kd.R_drew)); exact HO_3.out) (Kd.R_base ho21) hb)
                    have n1_ := Aside0.mk (Kd.R_lower (Kd.R_new' (Kd.R_newM (M := fun k_ => (P3_ k_ ∨ w.heap.size ≤ k_)) ho21 (by first | exact HK.out.1 | exact (show Kept w _ (fun k_ => P3_ k_) from by repeat (first | (with_reducible first | exact HK.out | apply Kept.alloc | apply Kept.drewN | apply Kept.drew | refine Kept.setCell ?_ (.inr GW218.out) _) | exact HK.out)).1) (fun k_ h_ => .inr h_)) (Kd.R_lt (by (with_reducible repeat (first | apply Kd.R_alloc | apply Kd.R_drewN | apply Kd.R_drew)); exact HO_3.out))) (below_size (by repeat (first | (with_reducible first | exact HB.out | apply below_alloc | apply pw_below_drewN | apply below_drew1 | refine below_set ?_ GE218.out) | exact HB.out))))
                    have n2_ := Aside0.mk (blk_below (g := gb218) (o := .cells #[.int .i64 a0_0, .int .i64 a0_1, .int .i64 a0_2, .int .i64 a0_3, .int .i64 a0_4] 23 (0, 0)) (by (with_reducible repeat (first | refine blk_drewN ?_ _ | refine blk_drew ?_ | refine blk_alloc ?_ _)); exact BK218.out) hb)
                    have n3_ := Aside0.mk (Kept.below (S := (fun k_ => P3_ k_)) (by repeat (first | (with_reducible first | exact HK.out | apply Kept.alloc | apply Kept.drewN | apply Kept.drew | refine Kept.setCell ?_ (.inr GW218.out) _) | exact HK.out)) hb)
                    have n4_ := Aside0.mk (below_step (by repeat (first | (with_reducible first | exact HB.out | apply below_alloc | apply pw_below_drewN | apply below_drew1 | refine below_set ?_ GE218.out) | exact HB.out)) hb)
                    clear HO_3
                    clear BK218
                    clear HK
                    clear HB
                    have HO_3 := n0_
                    have HO222 := n1_
                    have BK218 := n2_
                    have HK := n3_
                    have HB := n4_
                    clear n0_ n1_ n2_ n3_ n4_
                    clear hb ho21
                    refine hK.out _ _ ⟨(blk_cell BK218.out 0).trans rfl, (blk_cell BK218.out 1).trans rfl, (blk_cell BK218.out 2).trans rfl, (blk_cell BK218.out 3).trans rfl, (blk_cell BK218.out 4).trans rfl⟩ (fun hHeld => ?_)
                    clear hK K
                    refine norm_ (a' := ?_) ?_ ?_
                    rotate_left
                    · show Act.put _ (some 34) _ = _
                      simp only [Act.put, List.setIfInBounds_toArray, List.set_cons_zero, List.set_cons_succ, i64_w, i32_w]
                      rfl
                    refine two_ (i := 5) (j := 7) (Ni := some 36) (Nj := some 38) #[true, true, true, true, true, true, true, false, false, false, false, false, false, false, false] #[true, true, true, true, true, false, true, true, false, false, false, false, false, false, false] rfl rfl rfl rfl (two_of HT_.out (by kernel_rfl)) (by decide) (by decide) (fun K hK => ?_) (fun K hK => ?_)
                    · skip
                      refine Kd.R_append_rows_step (Kd.int .i64) (w0 := w0) w0.heap.size (by rfl) (.tmp 34) (.tmp 35) 25 3 (.int .i64 0) 8 rfl Tryd.underlying25 info3 rfl (by decide) (by omega) v221 y220 l3 _ _ _ (fun k_ => (P3_ k_ ∨ w.heap.size ≤ k_) ∧ some k_ ≠ (.slice Ao12 l3.length co12 : Value).ownBlock) (fun _ => False) rfl rfl ?aO ?aR (fun _ _ h => h) (fun _ h => h.elim) ?aF ?aB ?aS ?aL ?_
                      (case aR => repeat (first | exact (Kd.R_reads' HO_3.out).2.2 | (with_reducible refine Kd.C_alloc ?_ _) | (with_reducible refine Kd.C_drewN ?_ _) | (with_reducible refine Kd.C_drew ?_)))
                      (case aB => exact (by repeat (first | (with_reducible first | exact HB.out | apply below_alloc | apply pw_below_drewN | apply below_drew1 | refine below_set ?_ GE218.out) | exact HB.out)))
                      (case aF => exact (fun k_ hk => ⟨(.inr (Nat.le_trans (by first | exact HK.out.1 | exact (show Kept w _ (fun k_ => P3_ k_) from by repeat (first | (with_reducible first | exact HK.out | apply Kept.alloc | apply Kept.drewN | apply Kept.drew | refine Kept.setCell ?_ (.inr GW218.out) _) | exact HK.out)).1) hk)), Kd.fresh' (Kd.R_lt (by (with_reducible repeat (first | apply Kd.R_alloc | apply Kd.R_drewN | apply Kd.R_drew)); exact HO_3.out)) k_ hk⟩))
                      (case aO => exact (by (with_reducible repeat (first | apply Kd.R_alloc | apply Kd.R_drewN | apply Kd.R_drew)); exact Kd.R_mono HO222.out (fun _ hk => ⟨hk.1.1, hk.2⟩)))
                      (case aS => exact (below_size (by repeat (first | (with_reducible first | exact HB.out | apply below_alloc | apply pw_below_drewN | apply below_drew1 | refine below_set ?_ GE218.out) | exact HB.out))))
                      (case aL => have := LMc14.out; omega)
                      intro v224 w22 ho hb hg hat
                      rw [← Ny223.out] at ho
                      have n0_ := Aside0.mk (Kd.R_after (ok := (fun k_ => (P3_ k_ ∨ w.heap.size ≤ k_))) (by (with_reducible repeat (first | apply Kd.R_alloc | apply Kd.R_drewN | apply Kd.R_drew)); exact HO_3.out) hg hat)
                      have n1_ := Aside0.mk (blk_grown (g := gb218) (o := .cells #[.int .i64 a0_0, .int .i64 a0_1, .int .i64 a0_2, .int .i64 a0_3, .int .i64 a0_4] 23 (0, 0)) (by (with_reducible repeat (first | refine blk_drewN ?_ _ | refine blk_drew ?_ | refine blk_alloc ?_ _)); exact BK218.out) hg (Kd.R_ne HO222.out BK218.out (by decide)))
                      have n2_ := Aside0.mk (hb)
                      have n3_ := Aside0.mk (Kept.of_grown (S := (fun k_ => P3_ k_)) hg (by repeat (first | (with_reducible first | exact HK.out | apply Kept.alloc | apply Kept.drewN | apply Kept.drew | refine Kept.setCell ?_ (.inr GW218.out) _) | exact HK.out)) (fun k_ e_ => (HO222.out.1 k_ e_).1.1))
                      have n4_ := Aside0.mk (ho)
                      clear HO_3
                      clear BK218
                      clear HB
                      clear HK
                      clear HO222
                      have HO_3 := n0_
                      have BK218 := n1_
                      have HB := n2_
                      have HK := n3_
                      have HO225 := n4_
                      clear n0_ n1_ n2_ n3_ n4_
                      clear ho hb hg hat
                      refine hK.out _ _ ⟨(blk_cell BK218.out 0).trans rfl, (blk_cell BK218.out 1).trans rfl, (blk_cell BK218.out 2).trans rfl, (blk_cell BK218.out 3).trans rfl, (blk_cell BK218.out 4).trans rfl⟩ (fun hHeld => ?_)
                      clear hK K
                      refine norm_ (a' := ?_) ?_ ?_
                      rotate_left
                      · show Act.put _ (some 36) _ = _
                        simp only [Act.put, List.setIfInBounds_toArray, List.set_cons_zero, List.set_cons_succ, i64_w, i32_w]
                        rfl
                      refine one_ (i := 7) (N := some 38) #[true, true, true, true, true, true, true, true, false, false, false, false, false, false, false] rfl rfl (one_of HT_.out (by kernel_rfl)) (by decide) (fun K hK => ?_)
                      refine Kd.R_lit_step (Kd.int .i64) _ 3 ?hg (N := 38) ?hd (xs := ([x10_1] : List Int)) (inner := [.int .i64 x10_1]) (ok := fun _ => True) (okp := fun _ => True) ?hr ?hp (fun _ hk => hk) trivial (Below.refl _ _) (Nat.le_refl _) (by simp) ?_; (case hd => rfl); (case hg => rfl); (case hr => first | (go_simp; done) | (go_simp; rfl)); (case hp => exact (Reps.one (show Kd.M (Kd.int .i64) _ _ _ x10_1 [.int .i64 x10_1] from rfl) (Reps.none _ _)))
                      intro v227 w23 ho24 hb hg_ hnew_
                      clear hg_ hnew_
                      (first | rw [← Ny226.out] at ho24 | (simp only [Int.reduceToNat] at ho24; rw [← Ny226.out] at ho24))
                      have n0_ := Aside0.mk (Kd.R_elder' (by (with_reducible repeat (first | apply Kd.R_alloc | apply Kd.R_drewN | apply Kd.R_drew)); exact HO_3.out) (Kd.R_base ho24) hb)
                      have n1_ := Aside0.mk (Kd.R_elder' (by (with_reducible repeat (first | apply Kd.R_alloc | apply Kd.R_drewN | apply Kd.R_drew)); exact HO225.out) (Kd.R_base ho24) hb)
                      have n2_ := Aside0.mk (Kd.R_lower (Kd.R_new' (Kd.R_new' (Kd.R_newM (M := fun k_ => (P3_ k_ ∨ w.heap.size ≤ k_)) ho24 (by first | exact HK.out.1 | exact (show Kept w _ (fun k_ => P3_ k_) from by repeat (first | (with_reducible first | exact HK.out | apply Kept.alloc | apply Kept.drewN | apply Kept.drew | refine Kept.setCell ?_ (.inr GW218.out) _) | exact HK.out)).1) (fun k_ h_ => .inr h_)) (Kd.R_lt (by (with_reducible repeat (first | apply Kd.R_alloc | apply Kd.R_drewN | apply Kd.R_drew)); exact HO_3.out))) (Kd.R_lt (by (with_reducible repeat (first | apply Kd.R_alloc | apply Kd.R_drewN | apply Kd.R_drew)); exact HO225.out))) (below_size (by repeat (first | (with_reducible first | exact HB.out | apply below_alloc | apply pw_below_drewN | apply below_drew1 | refine below_set ?_ GE218.out) | exact HB.out))))
                      have n3_ := Aside0.mk (blk_below (g := gb218) (o := .cells #[.int .i64 a0_0, .int .i64 a0_1, .int .i64 a0_2, .int .i64 a0_3, .int .i64 a0_4] 23 (0, 0)) (by (with_reducible repeat (first | refine blk_drewN ?_ _ | refine blk_drew ?_ | refine blk_alloc ?_ _)); exact BK218.out) hb)
                      have n4_ := Aside0.mk (Kept.below (S := (fun k_ => P3_ k_)) (by repeat (first | (with_reducible first | exact HK.out | apply Kept.alloc | apply Kept.drewN | apply Kept.drew | refine Kept.setCell ?_ (.inr GW218.out) _) | exact HK.out)) hb)
                      have n5_ := Aside0.mk (below_step (by repeat (first | (with_reducible first | exact HB.out | apply below_alloc | apply pw_below_drewN | apply below_drew1 | refine below_set ?_ GE218.out) | exact HB.out)) hb)
                      clear HO_3
                      clear HO225
                      clear BK218
                      clear HK
                      clear HB
                      have HO_3 := n0_
                      have HO225 := n1_
                      have HO228 := n2_
                      have BK218 := n3_
                      have HK := n4_
                      have HB := n5_
                      clear n0_ n1_ n2_ n3_ n4_ n5_
                      clear hb ho24
                      refine hK.out _ _ ⟨(blk_cell BK218.out 0).trans rfl, (blk_cell BK218.out 1).trans rfl, (blk_cell BK218.out 2).trans rfl, (blk_cell BK218.out 3).trans rfl, (blk_cell BK218.out 4).trans rfl⟩ (fun hHeld => ?_)
                      clear hK K
                      refine norm_ (a' := ?_) ?_ ?_
                      rotate_left
                      · show Act.put _ (some 38) _ = _
                        simp only [Act.put, List.setIfInBounds_toArray, List.set_cons_zero, List.set_cons_succ, i64_w, i32_w]
                        rfl
                      exact norm_ (by simp only [putAll, Act.put, List.setIfInBounds_toArray, List.set_cons_zero, List.set_cons_succ]) (hCont (v221, v224, v227) _ ⟨hHeld, (by (with_reducible repeat (first | apply Kd.R_alloc | apply Kd.R_drewN | apply Kd.R_drew)); exact Kd.R_mono HO225.out (fun _ hk => ⟨hk.1.1, ⟨hk.2, hk.1.2⟩⟩)), (by (with_reducible repeat (first | apply Kd.R_alloc | apply Kd.R_drewN | apply Kd.R_drew)); exact Kd.R_mono HO228.out (fun _ hk => ⟨hk.1.1.1, ⟨hk.2, hk.1.2⟩⟩)), (by (with_reducible repeat (first | apply Kd.R_alloc | apply Kd.R_drewN | apply Kd.R_drew)); exact Kd.R_mono HO_3.out (fun _ hk => ⟨hk.1.1, ⟨hk.1.2, hk.2⟩⟩)), (by (with_reducible repeat (first | refine blk_drewN ?_ _ | refine blk_drew ?_ | refine blk_alloc ?_ _)); exact BK218.out), (by repeat (first | (with_reducible first | exact HK.out | apply Kept.alloc | apply Kept.drewN | apply Kept.drew | refine Kept.setCell ?_ (.inr GW218.out) _) | exact HK.out)), (by repeat (first | (with_reducible first | exact HB.out | apply below_alloc | apply pw_below_drewN | apply below_drew1 | refine below_set ?_ GE218.out) | exact HB.out))⟩)
                    · skip
                      refine Kd.R_lit_step (Kd.int .i64) _ 3 ?hg (N := 38) ?hd (xs := ([x10_1] : List Int)) (inner := [.int .i64 x10_1]) (ok := fun _ => True) (okp := fun _ => True) ?hr ?hp (fun _ hk => hk) trivial (Below.refl _ _) (Nat.le_refl _) (by simp) ?_; (case hd => rfl); (case hg => rfl); (case hr => first | (go_simp; done) | (go_simp; rfl)); (case hp => exact (Reps.one (show Kd.M (Kd.int .i64) _ _ _ x10_1 [.int .i64 x10_1] from rfl) (Reps.none _ _)))
                      intro v227 w22 ho23 hb hg_ hnew_
                      clear hg_ hnew_
                      (first | rw [← Ny226.out] at ho23 | (simp only [Int.reduceToNat] at ho23; rw [← Ny226.out] at ho23))
                      have n0_ := Aside0.mk (Kd.R_elder' (by (with_reducible repeat (first | apply Kd.R_alloc | apply Kd.R_drewN | apply Kd.R_drew)); exact HO_3.out) (Kd.R_base ho23) hb)
                      have n1_ := Aside0.mk (Kd.R_elder' (by (with_reducible repeat (first | apply Kd.R_alloc | apply Kd.R_drewN | apply Kd.R_drew)); exact HO222.out) (Kd.R_base ho23) hb)
                      have n2_ := Aside0.mk (Kd.R_lower (Kd.R_new' (Kd.R_new' (Kd.R_newM (M := fun k_ => (P3_ k_ ∨ w.heap.size ≤ k_)) ho23 (by first | exact HK.out.1 | exact (show Kept w _ (fun k_ => P3_ k_) from by repeat (first | (with_reducible first | exact HK.out | apply Kept.alloc | apply Kept.drewN | apply Kept.drew | refine Kept.setCell ?_ (.inr GW218.out) _) | exact HK.out)).1) (fun k_ h_ => .inr h_)) (Kd.R_lt (by (with_reducible repeat (first | apply Kd.R_alloc | apply Kd.R_drewN | apply Kd.R_drew)); exact HO_3.out))) (Kd.R_lt (by (with_reducible repeat (first | apply Kd.R_alloc | apply Kd.R_drewN | apply Kd.R_drew)); exact HO222.out))) (below_size (by repeat (first | (with_reducible first | exact HB.out | apply below_alloc | apply pw_below_drewN | apply below_drew1 | refine below_set ?_ GE218.out) | exact HB.out))))
                      have n3_ := Aside0.mk (blk_below (g := gb218) (o := .cells #[.int .i64 a0_0, .int .i64 a0_1, .int .i64 a0_2, .int .i64 a0_3, .int .i64 a0_4] 23 (0, 0)) (by (with_reducible repeat (first | refine blk_drewN ?_ _ | refine blk_drew ?_ | refine blk_alloc ?_ _)); exact BK218.out) hb)
                      have n4_ := Aside0.mk (Kept.below (S := (fun k_ => P3_ k_)) (by repeat (first | (with_reducible first | exact HK.out | apply Kept.alloc | apply Kept.drewN | apply Kept.drew | refine Kept.setCell ?_ (.inr GW218.out) _) | exact HK.out)) hb)
                      have n5_ := Aside0.mk (below_step (by repeat (first | (with_reducible first | exact HB.out | apply below_alloc | apply pw_below_drewN | apply below_drew1 | refine below_set ?_ GE218.out) | exact HB.out)) hb)
                      clear HO_3
                      clear HO222
                      clear BK218
                      clear HK
                      clear HB
                      have HO_3 := n0_
                      have HO222 := n1_
                      have HO228 := n2_
                      have BK218 := n3_
                      have HK := n4_
                      have HB := n5_
                      clear n0_ n1_ n2_ n3_ n4_ n5_
                      clear hb ho23
                      refine hK.out _ _ ⟨(blk_cell BK218.out 0).trans rfl, (blk_cell BK218.out 1).trans rfl, (blk_cell BK218.out 2).trans rfl, (blk_cell BK218.out 3).trans rfl, (blk_cell BK218.out 4).trans rfl⟩ (fun hHeld => ?_)
                      clear hK K
                      refine norm_ (a' := ?_) ?_ ?_
                      rotate_left
                      · show Act.put _ (some 38) _ = _
                        simp only [Act.put, List.setIfInBounds_toArray, List.set_cons_zero, List.set_cons_succ, i64_w, i32_w]
                        rfl
                      refine one_ (i := 5) (N := some 36) #[true, true, true, true, true, true, true, true, false, false, false, false, false, false, false] rfl rfl (one_of HT_.out (by kernel_rfl)) (by decide) (fun K hK => ?_)
                      refine Kd.R_append_rows_step (Kd.int .i64) (w0 := w0) w0.heap.size (by rfl) (.tmp 34) (.tmp 35) 25 3 (.int .i64 0) 8 rfl Tryd.underlying25 info3 rfl (by decide) (by omega) v221 y220 l3 _ _ _ (fun k_ => (P3_ k_ ∨ w.heap.size ≤ k_) ∧ some k_ ≠ (.slice Ao12 l3.length co12 : Value).ownBlock ∧ some k_ ≠ (v227 : Value).ownBlock) (fun _ => False) rfl rfl ?aO ?aR (fun _ _ h => h) (fun _ h => h.elim) ?aF ?aB ?aS ?aL ?_
                      (case aR => repeat (first | exact (Kd.R_reads' HO_3.out).2.2 | (with_reducible refine Kd.C_alloc ?_ _) | (with_reducible refine Kd.C_drewN ?_ _) | (with_reducible refine Kd.C_drew ?_)))
                      (case aB => exact (by repeat (first | (with_reducible first | exact HB.out | apply below_alloc | apply pw_below_drewN | apply below_drew1 | refine below_set ?_ GE218.out) | exact HB.out)))
                      (case aF => exact (fun k_ hk => ⟨(.inr (Nat.le_trans (by first | exact HK.out.1 | exact (show Kept w _ (fun k_ => P3_ k_) from by repeat (first | (with_reducible first | exact HK.out | apply Kept.alloc | apply Kept.drewN | apply Kept.drew | refine Kept.setCell ?_ (.inr GW218.out) _) | exact HK.out)).1) hk)), Kd.fresh' (Kd.R_lt (by (with_reducible repeat (first | apply Kd.R_alloc | apply Kd.R_drewN | apply Kd.R_drew)); exact HO_3.out)) k_ hk, Kd.fresh' (Kd.R_lt (by (with_reducible repeat (first | apply Kd.R_alloc | apply Kd.R_drewN | apply Kd.R_drew)); exact HO228.out)) k_ hk⟩))
                      (case aO => exact (by (with_reducible repeat (first | apply Kd.R_alloc | apply Kd.R_drewN | apply Kd.R_drew)); exact Kd.R_mono HO222.out (fun _ hk => ⟨hk.1.1.1, ⟨hk.1.2, hk.2⟩⟩)))
                      (case aS => exact (below_size (by repeat (first | (with_reducible first | exact HB.out | apply below_alloc | apply pw_below_drewN | apply below_drew1 | refine below_set ?_ GE218.out) | exact HB.out))))
                      (case aL => have := LMc14.out; omega)
                      intro v224 w24 ho hb hg hat
                      rw [← Ny223.out] at ho
                      have n0_ := Aside0.mk (Kd.R_after (ok := (fun k_ => (P3_ k_ ∨ w.heap.size ≤ k_) ∧ some k_ ≠ (v227 : Value).ownBlock)) (by (with_reducible repeat (first | apply Kd.R_alloc | apply Kd.R_drewN | apply Kd.R_drew)); exact Kd.R_mono HO_3.out (fun _ hk => ⟨⟨hk.1.1, hk.2⟩, hk.1.2⟩)) hg hat)
                      have n1_ := Aside0.mk (blk_grown (g := gb218) (o := .cells #[.int .i64 a0_0, .int .i64 a0_1, .int .i64 a0_2, .int .i64 a0_3, .int .i64 a0_4] 23 (0, 0)) (by (with_reducible repeat (first | refine blk_drewN ?_ _ | refine blk_drew ?_ | refine blk_alloc ?_ _)); exact BK218.out) hg (Kd.R_ne HO222.out BK218.out (by decide)))
                      have n2_ := Aside0.mk (Kd.R_after (ok := (fun k_ => (P3_ k_ ∨ w.heap.size ≤ k_) ∧ some k_ ≠ (.slice Ao12 l3.length co12 : Value).ownBlock)) (by (with_reducible repeat (first | apply Kd.R_alloc | apply Kd.R_drewN | apply Kd.R_drew)); exact Kd.R_mono HO228.out (fun _ hk => ⟨⟨hk.1.1.1, hk.1.2⟩, hk.2⟩)) hg hat)
                      have n3_ := Aside0.mk (hb)
                      have n4_ := Aside0.mk (Kept.of_grown (S := (fun k_ => P3_ k_)) hg (by repeat (first | (with_reducible first | exact HK.out | apply Kept.alloc | apply Kept.drewN | apply Kept.drew | refine Kept.setCell ?_ (.inr GW218.out) _) | exact HK.out)) (fun k_ e_ => (HO222.out.1 k_ e_).1.1.1))
                      have n5_ := Aside0.mk (ho)
                      clear HO_3
                      clear BK218
                      clear HO228
                      clear HB
                      clear HK
                      clear HO222
                      have HO_3 := n0_
                      have BK218 := n1_
                      have HO228 := n2_
                      have HB := n3_
                      have HK := n4_
                      have HO225 := n5_
                      clear n0_ n1_ n2_ n3_ n4_ n5_
                      clear ho hb hg hat
                      refine hK.out _ _ ⟨(blk_cell BK218.out 0).trans rfl, (blk_cell BK218.out 1).trans rfl, (blk_cell BK218.out 2).trans rfl, (blk_cell BK218.out 3).trans rfl, (blk_cell BK218.out 4).trans rfl⟩ (fun hHeld => ?_)
                      clear hK K
                      refine norm_ (a' := ?_) ?_ ?_
                      rotate_left
                      · show Act.put _ (some 36) _ = _
                        simp only [Act.put, List.setIfInBounds_toArray, List.set_cons_zero, List.set_cons_succ, i64_w, i32_w]
                        rfl
                      exact norm_ (by simp only [putAll, Act.put, List.setIfInBounds_toArray, List.set_cons_zero, List.set_cons_succ]) (hCont (v221, v224, v227) _ ⟨hHeld, (by (with_reducible repeat (first | apply Kd.R_alloc | apply Kd.R_drewN | apply Kd.R_drew)); exact Kd.R_mono HO225.out (fun _ hk => ⟨hk.1, ⟨hk.2.2, hk.2.1⟩⟩)), (by (with_reducible repeat (first | apply Kd.R_alloc | apply Kd.R_drewN | apply Kd.R_drew)); exact Kd.R_mono HO228.out (fun _ hk => ⟨hk.1.1, ⟨hk.2, hk.1.2⟩⟩)), (by (with_reducible repeat (first | apply Kd.R_alloc | apply Kd.R_drewN | apply Kd.R_drew)); exact Kd.R_mono HO_3.out (fun _ hk => ⟨hk.1.1, ⟨hk.2, hk.1.2⟩⟩)), (by (with_reducible repeat (first | refine blk_drewN ?_ _ | refine blk_drew ?_ | refine blk_alloc ?_ _)); exact BK218.out), (by repeat (first | (with_reducible first | exact HK.out | apply Kept.alloc | apply Kept.drewN | apply Kept.drew | refine Kept.setCell ?_ (.inr GW218.out) _) | exact HK.out)), (by repeat (first | (with_reducible first | exact HB.out | apply below_alloc | apply pw_below_drewN | apply below_drew1 | refine below_set ?_ GE218.out) | exact HB.out))⟩)
                  · skip
                    refine Kd.R_lit_step (Kd.int .i64) _ 3 ?hg (N := 38) ?hd (xs := ([x10_1] : List Int)) (inner := [.int .i64 x10_1]) (ok := fun _ => True) (okp := fun _ => True) ?hr ?hp (fun _ hk => hk) trivial (Below.refl _ _) (Nat.le_refl _) (by simp) ?_; (case hd => rfl); (case hg => rfl); (case hr => first | (go_simp; done) | (go_simp; rfl)); (case hp => exact (Reps.one (show Kd.M (Kd.int .i64) _ _ _ x10_1 [.int .i64 x10_1] from rfl) (Reps.none _ _)))
                    intro v227 w20 ho21 hb hg_ hnew_
                    clear hg_ hnew_
                    (first | rw [← Ny226.out] at ho21 | (simp only [Int.reduceToNat] at ho21; rw [← Ny226.out] at ho21))
                    have n0_ := Aside0.mk (Kd.R_elder' (by (with_reducible repeat (first | apply Kd.R_alloc | apply Kd.R_drewN | apply Kd.R_drew)); exact HO_3.out) (Kd.R_base ho21) hb)
                    have n1_ := Aside0.mk (Kd.R_lower (Kd.R_new' (Kd.R_newM (M := fun k_ => (P3_ k_ ∨ w.heap.size ≤ k_)) ho21 (by first | exact HK.out.1 | exact (show Kept w _ (fun k_ => P3_ k_) from by repeat (first | (with_reducible first | exact HK.out | apply Kept.alloc | apply Kept.drewN | apply Kept.drew | refine Kept.setCell ?_ (.inr GW218.out) _) | exact HK.out)).1) (fun k_ h_ => .inr h_)) (Kd.R_lt (by (with_reducible repeat (first | apply Kd.R_alloc | apply Kd.R_drewN | apply Kd.R_drew)); exact HO_3.out))) (below_size (by repeat (first | (with_reducible first | exact HB.out | apply below_alloc | apply pw_below_drewN | apply below_drew1 | refine below_set ?_ GE218.out) | exact HB.out))))
                    have n2_ := Aside0.mk (blk_below (g := gb218) (o := .cells #[.int .i64 a0_0, .int .i64 a0_1, .int .i64 a0_2, .int .i64 a0_3, .int .i64 a0_4] 23 (0, 0)) (by (with_reducible repeat (first | refine blk_drewN ?_ _ | refine blk_drew ?_ | refine blk_alloc ?_ _)); exact BK218.out) hb)
                    have n3_ := Aside0.mk (Kept.below (S := (fun k_ => P3_ k_)) (by repeat (first | (with_reducible first | exact HK.out | apply Kept.alloc | apply Kept.drewN | apply Kept.drew | refine Kept.setCell ?_ (.inr GW218.out) _) | exact HK.out)) hb)
                    have n4_ := Aside0.mk (below_step (by repeat (first | (with_reducible first | exact HB.out | apply below_alloc | apply pw_below_drewN | apply below_drew1 | refine below_set ?_ GE218.out) | exact HB.out)) hb)
                    clear HO_3
                    clear BK218
                    clear HK
                    clear HB
                    have HO_3 := n0_
                    have HO228 := n1_
                    have BK218 := n2_
                    have HK := n3_
                    have HB := n4_
                    clear n0_ n1_ n2_ n3_ n4_
                    clear hb ho21
                    refine hK.out _ _ ⟨(blk_cell BK218.out 0).trans rfl, (blk_cell BK218.out 1).trans rfl, (blk_cell BK218.out 2).trans rfl, (blk_cell BK218.out 3).trans rfl, (blk_cell BK218.out 4).trans rfl⟩ (fun hHeld => ?_)
                    clear hK K
                    refine norm_ (a' := ?_) ?_ ?_
                    rotate_left
                    · show Act.put _ (some 38) _ = _
                      simp only [Act.put, List.setIfInBounds_toArray, List.set_cons_zero, List.set_cons_succ, i64_w, i32_w]
                      rfl
                    refine one_ (i := 3) (N := some 34) #[true, true, true, true, true, false, true, true, false, false, false, false, false, false, false] rfl rfl (one_of HT_.out (by kernel_rfl)) (by decide) (fun K hK => ?_)
                    refine Kd.R_lit_step (Kd.int .i64) _ 3 ?hg (N := 34) ?hd (xs := ([] : List Int)) (inner := []) (ok := fun _ => True) (okp := fun _ => True) ?hr ?hp (fun _ hk => hk) trivial (Below.refl _ _) (Nat.le_refl _) (by simp) ?_; (case hd => rfl); (case hg => rfl); (case hr => first | (go_simp; done) | (go_simp; rfl)); (case hp => exact (Reps.none _ _))
                    intro v221 w22 ho23 hb hg_ hnew_
                    clear hg_ hnew_
                    (first | rw [← Ny220.out] at ho23 | (simp only [Int.reduceToNat] at ho23; rw [← Ny220.out] at ho23))
                    have n0_ := Aside0.mk (Kd.R_elder' (by (with_reducible repeat (first | apply Kd.R_alloc | apply Kd.R_drewN | apply Kd.R_drew)); exact HO_3.out) (Kd.R_base ho23) hb)
                    have n1_ := Aside0.mk (Kd.R_elder' (by (with_reducible repeat (first | apply Kd.R_alloc | apply Kd.R_drewN | apply Kd.R_drew)); exact HO228.out) (Kd.R_base ho23) hb)
                    have n2_ := Aside0.mk (Kd.R_lower (Kd.R_new' (Kd.R_new' (Kd.R_newM (M := fun k_ => (P3_ k_ ∨ w.heap.size ≤ k_)) ho23 (by first | exact HK.out.1 | exact (show Kept w _ (fun k_ => P3_ k_) from by repeat (first | (with_reducible first | exact HK.out | apply Kept.alloc | apply Kept.drewN | apply Kept.drew | refine Kept.setCell ?_ (.inr GW218.out) _) | exact HK.out)).1) (fun k_ h_ => .inr h_)) (Kd.R_lt (by (with_reducible repeat (first | apply Kd.R_alloc | apply Kd.R_drewN | apply Kd.R_drew)); exact HO_3.out))) (Kd.R_lt (by (with_reducible repeat (first | apply Kd.R_alloc | apply Kd.R_drewN | apply Kd.R_drew)); exact HO228.out))) (below_size (by repeat (first | (with_reducible first | exact HB.out | apply below_alloc | apply pw_below_drewN | apply below_drew1 | refine below_set ?_ GE218.out) | exact HB.out))))
                    have n3_ := Aside0.mk (blk_below (g := gb218) (o := .cells #[.int .i64 a0_0, .int .i64 a0_1, .int .i64 a0_2, .int .i64 a0_3, .int .i64 a0_4] 23 (0, 0)) (by (with_reducible repeat (first | refine blk_drewN ?_ _ | refine blk_drew ?_ | refine blk_alloc ?_ _)); exact BK218.out) hb)
                    have n4_ := Aside0.mk (Kept.below (S := (fun k_ => P3_ k_)) (by repeat (first | (with_reducible first | exact HK.out | apply Kept.alloc | apply Kept.drewN | apply Kept.drew | refine Kept.setCell ?_ (.inr GW218.out) _) | exact HK.out)) hb)
                    have n5_ := Aside0.mk (below_step (by repeat (first | (with_reducible first | exact HB.out | apply below_alloc | apply pw_below_drewN | apply below_drew1 | refine below_set ?_ GE218.out) | exact HB.out)) hb)
                    clear HO_3
                    clear HO228
                    clear BK218
                    clear HK
                    clear HB
                    have HO_3 := n0_
                    have HO228 := n1_
                    have HO222 := n2_
                    have BK218 := n3_
                    have HK := n4_
                    have HB := n5_
                    clear n0_ n1_ n2_ n3_ n4_ n5_
                    clear hb ho23
                    refine hK.out _ _ ⟨(blk_cell BK218.out 0).trans rfl, (blk_cell BK218.out 1).trans rfl, (blk_cell BK218.out 2).trans rfl, (blk_cell BK218.out 3).trans rfl, (blk_cell BK218.out 4).trans rfl⟩ (fun hHeld => ?_)
                    clear hK K
                    refine norm_ (a' := ?_) ?_ ?_
                    rotate_left
                    · show Act.put _ (some 34) _ = _
                      simp only [Act.put, List.setIfInBounds_toArray, List.set_cons_zero, List.set_cons_succ, i64_w, i32_w]
                      rfl
                    refine one_ (i := 5) (N := some 36) #[true, true, true, true, true, true, true, true, false, false, false, false, false, false, false] rfl rfl (one_of HT_.out (by kernel_rfl)) (by decide) (fun K hK => ?_)
                    refine Kd.R_append_rows_step (Kd.int .i64) (w0 := w0) w0.heap.size (by rfl) (.tmp 34) (.tmp 35) 25 3 (.int .i64 0) 8 rfl Tryd.underlying25 info3 rfl (by decide) (by omega) v221 y220 l3 _ _ _ (fun k_ => (P3_ k_ ∨ w.heap.size ≤ k_) ∧ some k_ ≠ (.slice Ao12 l3.length co12 : Value).ownBlock ∧ some k_ ≠ (v227 : Value).ownBlock) (fun _ => False) rfl rfl ?aO ?aR (fun _ _ h => h) (fun _ h => h.elim) ?aF ?aB ?aS ?aL ?_
                    (case aR => repeat (first | exact (Kd.R_reads' HO_3.out).2.2 | (with_reducible refine Kd.C_alloc ?_ _) | (with_reducible refine Kd.C_drewN ?_ _) | (with_reducible refine Kd.C_drew ?_)))
                    (case aB => exact (by repeat (first | (with_reducible first | exact HB.out | apply below_alloc | apply pw_below_drewN | apply below_drew1 | refine below_set ?_ GE218.out) | exact HB.out)))
                    (case aF => exact (fun k_ hk => ⟨(.inr (Nat.le_trans (by first | exact HK.out.1 | exact (show Kept w _ (fun k_ => P3_ k_) from by repeat (first | (with_reducible first | exact HK.out | apply Kept.alloc | apply Kept.drewN | apply Kept.drew | refine Kept.setCell ?_ (.inr GW218.out) _) | exact HK.out)).1) hk)), Kd.fresh' (Kd.R_lt (by (with_reducible repeat (first | apply Kd.R_alloc | apply Kd.R_drewN | apply Kd.R_drew)); exact HO_3.out)) k_ hk, Kd.fresh' (Kd.R_lt (by (with_reducible repeat (first | apply Kd.R_alloc | apply Kd.R_drewN | apply Kd.R_drew)); exact HO228.out)) k_ hk⟩))
                    (case aO => exact (by (with_reducible repeat (first | apply Kd.R_alloc | apply Kd.R_drewN | apply Kd.R_drew)); exact Kd.R_mono HO222.out (fun _ hk => ⟨hk.1.1.1, ⟨hk.1.2, hk.2⟩⟩)))
                    (case aS => exact (below_size (by repeat (first | (with_reducible first | exact HB.out | apply below_alloc | apply pw_below_drewN | apply below_drew1 | refine below_set ?_ GE218.out) | exact HB.out))))
                    (case aL => have := LMc14.out; omega)
                    intro v224 w24 ho hb hg hat
                    rw [← Ny223.out] at ho
                    have n0_ := Aside0.mk (Kd.R_after (ok := (fun k_ => (P3_ k_ ∨ w.heap.size ≤ k_) ∧ some k_ ≠ (v227 : Value).ownBlock)) (by (with_reducible repeat (first | apply Kd.R_alloc | apply Kd.R_drewN | apply Kd.R_drew)); exact HO_3.out) hg hat)
                    have n1_ := Aside0.mk (blk_grown (g := gb218) (o := .cells #[.int .i64 a0_0, .int .i64 a0_1, .int .i64 a0_2, .int .i64 a0_3, .int .i64 a0_4] 23 (0, 0)) (by (with_reducible repeat (first | refine blk_drewN ?_ _ | refine blk_drew ?_ | refine blk_alloc ?_ _)); exact BK218.out) hg (Kd.R_ne HO222.out BK218.out (by decide)))
                    have n2_ := Aside0.mk (Kd.R_after (ok := (fun k_ => (P3_ k_ ∨ w.heap.size ≤ k_) ∧ some k_ ≠ (.slice Ao12 l3.length co12 : Value).ownBlock)) (by (with_reducible repeat (first | apply Kd.R_alloc | apply Kd.R_drewN | apply Kd.R_drew)); exact Kd.R_mono HO228.out (fun _ hk => ⟨⟨hk.1.1.1, hk.1.2⟩, hk.2⟩)) hg hat)
                    have n3_ := Aside0.mk (hb)
                    have n4_ := Aside0.mk (Kept.of_grown (S := (fun k_ => P3_ k_)) hg (by repeat (first | (with_reducible first | exact HK.out | apply Kept.alloc | apply Kept.drewN | apply Kept.drew | refine Kept.setCell ?_ (.inr GW218.out) _) | exact HK.out)) (fun k_ e_ => (HO222.out.1 k_ e_).1.1.1))
                    have n5_ := Aside0.mk (ho)
                    clear HO_3
                    clear BK218
                    clear HO228
                    clear HB
                    clear HK
                    clear HO222
                    have HO_3 := n0_
                    have BK218 := n1_
                    have HO228 := n2_
                    have HB := n3_
                    have HK := n4_
                    have HO225 := n5_
                    clear n0_ n1_ n2_ n3_ n4_ n5_
                    clear ho hb hg hat
                    refine hK.out _ _ ⟨(blk_cell BK218.out 0).trans rfl, (blk_cell BK218.out 1).trans rfl, (blk_cell BK218.out 2).trans rfl, (blk_cell BK218.out 3).trans rfl, (blk_cell BK218.out 4).trans rfl⟩ (fun hHeld => ?_)
                    clear hK K
                    refine norm_ (a' := ?_) ?_ ?_
                    rotate_left
                    · show Act.put _ (some 36) _ = _
                      simp only [Act.put, List.setIfInBounds_toArray, List.set_cons_zero, List.set_cons_succ, i64_w, i32_w]
                      rfl
                    exact norm_ (by simp only [putAll, Act.put, List.setIfInBounds_toArray, List.set_cons_zero, List.set_cons_succ]) (hCont (v221, v224, v227) _ ⟨hHeld, (by (with_reducible repeat (first | apply Kd.R_alloc | apply Kd.R_drewN | apply Kd.R_drew)); exact Kd.R_mono HO225.out (fun _ hk => ⟨hk.1, ⟨hk.2.2, hk.2.1⟩⟩)), (by (with_reducible repeat (first | apply Kd.R_alloc | apply Kd.R_drewN | apply Kd.R_drew)); exact Kd.R_mono HO228.out (fun _ hk => ⟨hk.1.1, ⟨hk.2, hk.1.2⟩⟩)), (by (with_reducible repeat (first | apply Kd.R_alloc | apply Kd.R_drewN | apply Kd.R_drew)); exact Kd.R_mono HO_3.out (fun _ hk => ⟨hk.1.1, ⟨hk.2, hk.1.2⟩⟩)), (by (with_reducible repeat (first | refine blk_drewN ?_ _ | refine blk_drew ?_ | refine blk_alloc ?_ _)); exact BK218.out), (by repeat (first | (with_reducible first | exact HK.out | apply Kept.alloc | apply Kept.drewN | apply Kept.drew | refine Kept.setCell ?_ (.inr GW218.out) _) | exact HK.out)), (by repeat (first | (with_reducible first | exact HB.out | apply below_alloc | apply pw_below_drewN | apply below_drew1 | refine below_set ?_ GE218.out) | exact HB.out))⟩)
                rintro ⟨v221, v224, v227⟩ w25 ⟨hS_, h0_, h1_, h2_, h3_, h4_, h5_⟩
                have n0_ : Aside0 (Kd.R (Kd.int .i64) 3 w25 w0.heap.size (fun k_ => (P3_ k_ ∨ w.heap.size ≤ k_) ∧ some k_ ≠ (v227 : Value).ownBlock ∧ some k_ ≠ (.slice Ao12 l3.length co12 : Value).ownBlock) v224 y223) := ⟨h0_⟩
                have n1_ : Aside0 (Kd.R (Kd.int .i64) 3 w25 w0.heap.size (fun k_ => (P3_ k_ ∨ w.heap.size ≤ k_) ∧ some k_ ≠ (v224 : Value).ownBlock ∧ some k_ ≠ (.slice Ao12 l3.length co12 : Value).ownBlock) v227 y226) := ⟨h1_⟩
                have n2_ : Aside0 (Kd.R (Kd.int .i64) 3 w25 w0.heap.size (fun k_ => (P3_ k_ ∨ w.heap.size ≤ k_) ∧ some k_ ≠ (v224 : Value).ownBlock ∧ some k_ ≠ (v227 : Value).ownBlock) (.slice Ao12 l3.length co12) l3) := ⟨h2_⟩
                have n3_ : Aside0 (w25.heap[gb218]? = some (.cells #[.int .i64 a0_0, .int .i64 a0_1, .int .i64 a0_2, .int .i64 a0_3, .int .i64 a0_4] 23 (0, 0))) := ⟨h3_⟩
                have n4_ : Aside0 (Kept w w25 (fun k_ => P3_ k_)) := ⟨h4_⟩
                have n5_ : Aside0 (Below w0.heap.size w0 w25) := ⟨h5_⟩
                clear HO_3
                clear BK218
                clear HK
                clear HB
                clear h0_ h1_ h2_ h3_ h4_ h5_
                have HO225 := n0_
                have HO228 := n1_
                have HO_3 := n2_
                have BK218 := n3_
                have HK := n4_
                have HB := n5_
                clear n0_ n1_ n2_ n3_ n4_ n5_
                have hHeld : w25.cell? ⟨gb218, 0, none⟩ = some (.int .i64 a0_0) ∧ w25.cell? ⟨gb218, 1, none⟩ = some (.int .i64 a0_1) ∧ w25.cell? ⟨gb218, 2, none⟩ = some (.int .i64 a0_2) ∧ w25.cell? ⟨gb218, 3, none⟩ = some (.int .i64 a0_3) ∧ w25.cell? ⟨gb218, 4, none⟩ = some (.int .i64 a0_4) := hS_
                obtain ⟨Ao27, co27, eo27⟩ := Kd.R_slice HO228.out
                (first | subst eo27 | (injection eo27 with f1_ f2_ f3_; have f4_ := f1_.symm; have f5_ := f3_.symm; clear f1_ f2_ f3_; subst f4_; subst f5_))
                refine norm_ (a' := ?_) ?_ ?_
                rotate_left
                · simp only [putAll, Act.put, List.setIfInBounds_toArray, List.set_cons_zero, List.set_cons_succ]
                  rfl
                refine one_ (i := 8) (N := some 39) #[true, true, true, true, true, true, true, true, true, false, false, false, false, false, false] rfl rfl (one_of HT_.out (by kernel_rfl)) (by decide) (fun K hK => ?_)
                refine Kd.R_append_rows_step (Kd.int .i64) (w0 := w0) w0.heap.size (by rfl) (.tmp 36) (.tmp 38) 25 3 (.int .i64 0) 8 rfl Tryd.underlying25 info3 rfl (by decide) (by omega) v224 y223 y226 _ _ _ (fun k_ => (P3_ k_ ∨ w.heap.size ≤ k_) ∧ some k_ ≠ (.slice Ao12 l3.length co12 : Value).ownBlock ∧ some k_ ≠ (.slice Ao27 y226.length co27 : Value).ownBlock) (fun _ => False) rfl rfl ?aO ?aR (fun _ _ h => h) (fun _ h => h.elim) ?aF ?aB ?aS ?aL ?_
                (case aR => repeat (first | exact (Kd.R_reads' HO228.out).2.2 | (with_reducible refine Kd.C_alloc ?_ _) | (with_reducible refine Kd.C_drewN ?_ _) | (with_reducible refine Kd.C_drew ?_)))
                (case aB => exact (by repeat (first | (with_reducible first | exact HB.out | apply below_alloc | apply pw_below_drewN | apply below_drew1 | refine below_set ?_ GE218.out) | exact HB.out)))
                (case aF => exact (fun k_ hk => ⟨(.inr (Nat.le_trans (by first | exact HK.out.1 | exact (show Kept w _ (fun k_ => P3_ k_) from by repeat (first | (with_reducible first | exact HK.out | apply Kept.alloc | apply Kept.drewN | apply Kept.drew | refine Kept.setCell ?_ (.inr GW218.out) _) | exact HK.out)).1) hk)), Kd.fresh' (Kd.R_lt (by (with_reducible repeat (first | apply Kd.R_alloc | apply Kd.R_drewN | apply Kd.R_drew)); exact HO_3.out)) k_ hk, Kd.fresh' (Kd.R_lt (by (with_reducible repeat (first | apply Kd.R_alloc | apply Kd.R_drewN | apply Kd.R_drew)); exact HO228.out)) k_ hk⟩))
                (case aO => exact (by (with_reducible repeat (first | apply Kd.R_alloc | apply Kd.R_drewN | apply Kd.R_drew)); exact Kd.R_mono HO225.out (fun _ hk => ⟨hk.1, ⟨hk.2.2, hk.2.1⟩⟩)))
                (case aS => exact (below_size (by repeat (first | (with_reducible first | exact HB.out | apply below_alloc | apply pw_below_drewN | apply below_drew1 | refine below_set ?_ GE218.out) | exact HB.out))))
                (case aL => have := LMc15.out; omega)
                intro v230 w26 ho hb hg hat
                rw [← Ny229.out] at ho
                have n0_ := Aside0.mk (Kd.R_after (ok := (fun k_ => (P3_ k_ ∨ w.heap.size ≤ k_) ∧ some k_ ≠ (.slice Ao27 y226.length co27 : Value).ownBlock)) (by (with_reducible repeat (first | apply Kd.R_alloc | apply Kd.R_drewN | apply Kd.R_drew)); exact Kd.R_mono HO_3.out (fun _ hk => ⟨⟨hk.1, hk.2.2⟩, hk.2.1⟩)) hg hat)
                have n1_ := Aside0.mk (blk_grown (g := gb218) (o := .cells #[.int .i64 a0_0, .int .i64 a0_1, .int .i64 a0_2, .int .i64 a0_3, .int .i64 a0_4] 23 (0, 0)) (by (with_reducible repeat (first | refine blk_drewN ?_ _ | refine blk_drew ?_ | refine blk_alloc ?_ _)); exact BK218.out) hg (Kd.R_ne HO225.out BK218.out (by decide)))
                have n2_ := Aside0.mk (Kd.R_after (ok := (fun k_ => (P3_ k_ ∨ w.heap.size ≤ k_) ∧ some k_ ≠ (.slice Ao12 l3.length co12 : Value).ownBlock)) (by (with_reducible repeat (first | apply Kd.R_alloc | apply Kd.R_drewN | apply Kd.R_drew)); exact Kd.R_mono HO228.out (fun _ hk => ⟨⟨hk.1, hk.2.2⟩, hk.2.1⟩)) hg hat)
                have n3_ := Aside0.mk (hb)
                have n4_ := Aside0.mk (Kept.of_grown (S := (fun k_ => P3_ k_)) hg (by repeat (first | (with_reducible first | exact HK.out | apply Kept.alloc | apply Kept.drewN | apply Kept.drew | refine Kept.setCell ?_ (.inr GW218.out) _) | exact HK.out)) (fun k_ e_ => (HO225.out.1 k_ e_).1))
                have n5_ := Aside0.mk (ho)
                clear HO_3
                clear BK218
                clear HO228
                clear HB
                clear HK
                clear HO225
                have HO_3 := n0_
                have BK218 := n1_
                have HO228 := n2_
                have HB := n3_
                have HK := n4_
                have HO231 := n5_
                clear n0_ n1_ n2_ n3_ n4_ n5_
                clear ho hb hg hat
                obtain ⟨Ao28, co28, eo28⟩ := Kd.R_slice HO231.out
                (first | subst eo28 | (injection eo28 with f1_ f2_ f3_; have f4_ := f1_.symm; have f5_ := f3_.symm; clear f1_ f2_ f3_; subst f4_; subst f5_))
                refine hK.out _ _ ⟨(blk_cell BK218.out 0).trans rfl, (blk_cell BK218.out 1).trans rfl, (blk_cell BK218.out 2).trans rfl, (blk_cell BK218.out 3).trans rfl, (blk_cell BK218.out 4).trans rfl⟩ (fun hHeld => ?_)
                clear hK K
                refine norm_ (a' := ?_) ?_ ?_
                rotate_left
                · show Act.put _ (some 39) _ = _
                  simp only [Act.put, List.setIfInBounds_toArray, List.set_cons_zero, List.set_cons_succ, i64_w, i32_w]
                  rfl
                refine one_ (i := 9) (N := some 40) #[true, true, true, true, true, true, true, true, true, true, false, false, false, false, false] rfl rfl (one_of HT_.out (by kernel_rfl)) (by decide) (fun K hK => ?_)
                refine goes_ Tryd.func25 (by kernel_rfl) rfl #[.agg #[.int .i64 a0_0, .int .i64 a0_1, .int .i64 a0_2, .int .i64 a0_3, .int .i64 a0_4], .slice A1 l1.length c1, .slice A2 l2.length c2, .slice Ao28 y229.length co28] (by rfl) rfl rfl (by (try simp only [List.map_toArray, List.map_cons, List.map_nil]); first | done | rfl | (simp only [List.length_drop, List.length_take]; rfl)) ?_
                with_reducible refine (ih k1 (by have := HK1.out; omega) a0_0 a0_1 a0_2 a0_3 a0_4 _ _ l1 _ _ l2 (fun k_ => some k_ = (.slice Ao28 y229.length co28 : Value).ownBlock) (.slice Ao28 y229.length co28) y229 t232 true w0 _ ?side1 ?side2 ?side3 ?side4 ?side5 ?side6 A16.out).mono ?_
                (case side1 => repeat (first | (with_reducible first | exact HB.out | apply below_alloc | apply pw_below_drewN | apply below_drew1 | refine below_set ?_ GE218.out) | exact HB.out))
                (case side2 => exact Kd.C_kept_call HR1.out (by repeat (first | (with_reducible first | exact HK.out | apply Kept.alloc | apply Kept.drewN | apply Kept.drew | refine Kept.setCell ?_ (.inr GW218.out) _) | exact HK.out)) (fun k_ hs_ => (fun e_ => (HO231.out.1 k_ e_.symm).1) hs_))
                (case side3 => exact HC1.out)
                (case side4 => exact Kd.C_kept_call HR2.out (by repeat (first | (with_reducible first | exact HK.out | apply Kept.alloc | apply Kept.drewN | apply Kept.drew | refine Kept.setCell ?_ (.inr GW218.out) _) | exact HK.out)) (fun k_ hs_ => (fun e_ => (HO231.out.1 k_ e_.symm).1) hs_))
                (case side5 => exact HC2.out)
                (case side6 => exact Kd.R_tight rfl HO231.out)
                rintro e w29 ⟨v233, rfl, ho0, hb, hkp⟩
                refine ⟨_, rfl, ?_⟩
                have n0_ := Aside0.mk (Kd.R_mono (ok' := fun k_ => (P3_ k_ ∨ w.heap.size ≤ k_) ∧ some k_ ≠ (.slice Ao27 y226.length co27 : Value).ownBlock ∧ some k_ ≠ (v233 : Value).ownBlock) (Kd.R_keptB (HO_3.out) hkp (fun k_ hk_ hs_ => (hk_.2) hs_)) (fun k_ hk_ => ⟨hk_.1.1.1, hk_.1.1.2, fun e_ => Or.elim (ho0.1 k_ e_.symm) (fun hs_ => hk_.2.1 hs_) (fun hn_ => Nat.not_le.2 hk_.2.2 hn_)⟩))
                have n1_ := Aside0.mk (blk_kept (by (with_reducible repeat (first | refine blk_drewN ?_ _ | refine blk_drew ?_ | refine blk_alloc ?_ _)); exact BK218.out) hkp (fun hs_ => (fun e_ => (Kd.R_ne HO231.out BK218.out (by decide)) e_) hs_))
                have n2_ := Aside0.mk (Kd.R_mono (ok' := fun k_ => (P3_ k_ ∨ w.heap.size ≤ k_) ∧ some k_ ≠ (.slice Ao12 l3.length co12 : Value).ownBlock ∧ some k_ ≠ (v233 : Value).ownBlock) (Kd.R_keptB (HO228.out) hkp (fun k_ hk_ hs_ => (hk_.2) hs_)) (fun k_ hk_ => ⟨hk_.1.1.1, hk_.1.1.2, fun e_ => Or.elim (ho0.1 k_ e_.symm) (fun hs_ => hk_.2.1 hs_) (fun hn_ => Nat.not_le.2 hk_.2.2 hn_)⟩))
                have n3_ := Aside0.mk (Kd.R_mono (ok' := fun k_ => (P3_ k_ ∨ w.heap.size ≤ k_) ∧ some k_ ≠ (.slice Ao12 l3.length co12 : Value).ownBlock ∧ some k_ ≠ (.slice Ao27 y226.length co27 : Value).ownBlock) ho0 (fun k_ hk_ => ⟨Or.elim hk_ (fun hs_ => (HO231.out.1 k_ (hs_).symm).1) (fun hn_ => (.inr (Nat.le_trans (by first | exact HK.out.1 | exact (show Kept w _ (fun k_ => P3_ k_) from by repeat (first | (with_reducible first | exact HK.out | apply Kept.alloc | apply Kept.drewN | apply Kept.drew | refine Kept.setCell ?_ (.inr GW218.out) _) | exact HK.out)).1) hn_))), Or.elim hk_ (fun hs_ => fun e_ => (((HO_3.out).1 k_ e_.symm).2) hs_) (fun hn_ => (Kd.fresh' (Kd.R_lt (by (with_reducible repeat (first | apply Kd.R_alloc | apply Kd.R_drewN | apply Kd.R_drew)); exact HO_3.out)) k_ hn_)), Or.elim hk_ (fun hs_ => fun e_ => (((HO228.out).1 k_ e_.symm).2) hs_) (fun hn_ => (Kd.fresh' (Kd.R_lt (by (with_reducible repeat (first | apply Kd.R_alloc | apply Kd.R_drewN | apply Kd.R_drew)); exact HO228.out)) k_ hn_))⟩))
                have n4_ := Aside0.mk (Kept.then_ (S := (fun k_ => P3_ k_)) (by repeat (first | (with_reducible first | exact HK.out | apply Kept.alloc | apply Kept.drewN | apply Kept.drew | refine Kept.setCell ?_ (.inr GW218.out) _) | exact HK.out)) hkp (fun k_ hs_ => (fun e_ => (HO231.out.1 k_ e_.symm).1) hs_))
                have n5_ := Aside0.mk (hb)
                clear HO_3
                clear BK218
                clear HO228
                clear HK
                clear HB
                clear HO231
                have HO_3 := n0_
                have BK218 := n1_
                have HO228 := n2_
                have HO234 := n3_
                have HK := n4_
                have HB := n5_
                clear n0_ n1_ n2_ n3_ n4_ n5_
                (try clear hb)
                (try clear hkp)
                (try clear ho0)
                refine hK.out _ _ ⟨(blk_cell BK218.out 0).trans rfl, (blk_cell BK218.out 1).trans rfl, (blk_cell BK218.out 2).trans rfl, (blk_cell BK218.out 3).trans rfl, (blk_cell BK218.out 4).trans rfl⟩ (fun hHeld => ?_)
                clear hK K
                refine norm_ (a' := ?_) ?_ ?_
                rotate_left
                · show Act.put _ (some 40) _ = _
                  simp only [Act.put, List.setIfInBounds_toArray, List.set_cons_zero, List.set_cons_succ, i64_w, i32_w]
                  rfl
                refine pure_ (i := 10) (N := some 30) (v := ?_) (a' := ?_) #[true, true, true, true, true, true, true, true, true, true, true, false, false, false, false] rfl rfl (any_of HT_.out (by kernel_rfl)) (fun _ _ _ h => h) (Or.inl ⟨by rfl, ?_⟩) ?_ ?_
                rotate_left
                · intro w'
                  go_simp
                  with_reducible rfl
                rotate_left
                · simp only [Act.put, List.setIfInBounds_toArray, List.set_cons_zero, List.set_cons_succ, i64_w, i32_w]
                  rfl
                refine pure_ (i := 11) (N := some 41) (v := ?_) (a' := ?_) #[true, true, true, true, true, true, true, true, true, true, true, true, false, false, false] rfl rfl (any_of HT_.out (by kernel_rfl)) (fun _ _ _ h => h) (Or.inl ⟨by rfl, ?_⟩) ?_ ?_
                rotate_left
                · intro w'
                  go_simp
                  with_reducible rfl
                rotate_left
                · simp only [Act.put, List.setIfInBounds_toArray, List.set_cons_zero, List.set_cons_succ, i64_w, i32_w]
                  rfl
                refine pure_ (i := 12) (N := some 42) (v := ?_) (a' := ?_) #[true, true, true, true, true, true, true, true, true, true, true, true, true, false, false] rfl rfl (any_of HT_.out (by kernel_rfl)) (fun _ _ _ h => h) (Or.inl ⟨by rfl, ?_⟩) ?_ ?_
                rotate_left
                · intro w'
                  go_simp
                  with_reducible rfl
                rotate_left
                · simp only [Act.put, List.setIfInBounds_toArray, List.set_cons_zero, List.set_cons_succ, i64_w, i32_w]
                  rfl
                refine pure_ (i := 13) (N := some 11) (v := ?_) (a' := ?_) #[true, true, true, true, true, true, true, true, true, true, true, true, true, true, false] rfl rfl (any_of HT_.out (by kernel_rfl)) (fun _ _ _ h => h) (Or.inl ⟨by rfl, ?_⟩) ?_ ?_
                rotate_left
                · intro w'
                  go_simp
                  with_reducible rfl
                rotate_left
                · simp only [Act.put, List.setIfInBounds_toArray, List.set_cons_zero, List.set_cons_succ, i64_w, i32_w]
                  rfl
                refine pure_ (i := 14) (N := some 12) (v := ?_) (a' := ?_) #[true, true, true, true, true, true, true, true, true, true, true, true, true, true, true] rfl rfl (any_of HT_.out (by kernel_rfl)) (fun _ _ _ h => h) (Or.inl ⟨by rfl, ?_⟩) ?_ ?_
                rotate_left
                · intro w'
                  go_simp
                  with_reducible rfl
                rotate_left
                · simp only [Act.put, List.setIfInBounds_toArray, List.set_cons_zero, List.set_cons_succ, i64_w, i32_w]
                  rfl
                refine done_ (done_of HT_.out (by kernel_rfl)) ?_
                try go_wp2
                go_ret2
                exact ⟨_, by first | rfl | (simp [errW_none, errW_some] <;> rfl) | (simp [*, errW_none, errW_some] <;> rfl), by (with_reducible repeat (first | apply Kd.R_alloc | apply Kd.R_drewN | apply Kd.R_drew)); exact Kd.R_mono HO234.out (fun _ hk => hk.1), by repeat (first | (with_reducible first | exact HB.out | apply below_alloc | apply pw_below_drewN | apply below_drew1 | refine below_set ?_ GE218.out) | exact HB.out), by repeat (first | (with_reducible first | exact HK.out | apply Kept.alloc | apply Kept.drewN | apply Kept.drew | refine Kept.setCell ?_ (.inr GW218.out) _) | exact HK.out)⟩
              · replace c17 := Bool.eq_false_iff.mpr c17
                subst c17
                have H1 : (smaltoref03_Bars.l0 k1 l1 l2 l3 (wrap64 (x10_1 + 1)) a0_0 a0_1 a0_2 a0_3 a0_4) = some (r1, r2) := by rw [if_neg (show ¬ (false = true) by decide)] at H; exact H
                clear H
                have H := H1
                clear H1
                have H' := Aside0.mk H
                clear H
                have hcz30_0 : wr.cell? ⟨gb218, 0, none⟩ = some (.int .i64 a0_0) := (blk_cell BK218.out 0).trans rfl
                have hcz30_1 : wr.cell? ⟨gb218, 1, none⟩ = some (.int .i64 a0_1) := (blk_cell BK218.out 1).trans rfl
                have hcz30_2 : wr.cell? ⟨gb218, 2, none⟩ = some (.int .i64 a0_2) := (blk_cell BK218.out 2).trans rfl
                have hcz30_3 : wr.cell? ⟨gb218, 3, none⟩ = some (.int .i64 a0_3) := (blk_cell BK218.out 3).trans rfl
                have hcz30_4 : wr.cell? ⟨gb218, 4, none⟩ = some (.int .i64 a0_4) := (blk_cell BK218.out 4).trans rfl
                have hfz30_0 := blk_frozen BK218.out 0
                have hfz30_1 := blk_frozen BK218.out 1
                have hfz30_2 := blk_frozen BK218.out 2
                have hfz30_3 := blk_frozen BK218.out 3
                have hfz30_4 := blk_frozen BK218.out 4
                try go_wp2
                have n0_ := Aside0.mk (Kd.R_drew HO_3.out)
                have n1_ := Aside0.mk (blk_drew BK218.out)
                have n2_ := Aside0.mk (Kept.drew HK.out)
                have n3_ := Aside0.mk (below_drew1 HB.out)
                clear HO_3
                clear BK218
                clear HK
                clear HB
                have HO_3 := n0_
                have BK218 := n1_
                have HK := n2_
                have HB := n3_
                clear n0_ n1_ n2_ n3_
                refine start_ (n := 15) (S := fun w' => w'.cell? ⟨gb218, 0, none⟩ = some (.int .i64 a0_0) ∧ w'.cell? ⟨gb218, 1, none⟩ = some (.int .i64 a0_1) ∧ w'.cell? ⟨gb218, 2, none⟩ = some (.int .i64 a0_2) ∧ w'.cell? ⟨gb218, 3, none⟩ = some (.int .i64 a0_3) ∧ w'.cell? ⟨gb218, 4, none⟩ = some (.int .i64 a0_4)) (ds := []) #[false, false, false, false, false, false, false, false, false, false, false, false, false, false, false] (by kernel_rfl) rfl rfl ⟨(blk_cell BK218.out 0).trans rfl, (blk_cell BK218.out 1).trans rfl, (blk_cell BK218.out 2).trans rfl, (blk_cell BK218.out 3).trans rfl, (blk_cell BK218.out 4).trans rfl⟩ (fun hHeld => ?_); refine with_tabW smaltoref03_Bars.tab6 smaltoref03_Bars.bits6 (fun HT_ HW_ => ?_)
                generalize wr.drew = w31 at HO_3 BK218 HK HB hHeld ⊢
                refine pure_ (i := 1) (N := some 32) (v := ?_) (a' := ?_) #[false, true, false, false, false, false, false, false, false, false, false, false, false, false, false] rfl rfl (any_of HT_.out (by kernel_rfl)) (fun _ _ _ h => h) (Or.inl ⟨by rfl, ?_⟩) ?_ ?_
                rotate_left
                · intro w'
                  go_simp
                  with_reducible rfl
                rotate_left
                · simp only [Act.put, List.setIfInBounds_toArray, List.set_cons_zero, List.set_cons_succ, i64_w, i32_w]
                  rfl
                refine pure_ (i := 2) (N := some 33) (v := ?_) (a' := ?_) #[false, true, true, false, false, false, false, false, false, false, false, false, false, false, false] rfl rfl (any_of HT_.out (by kernel_rfl)) (fun _ _ _ h => h) (Or.inl ⟨by rfl, ?_⟩) ?_ ?_
                rotate_left
                · intro w'
                  go_simp
                  with_reducible rfl
                rotate_left
                · simp only [Act.put, List.setIfInBounds_toArray, List.set_cons_zero, List.set_cons_succ, i64_w, i32_w]
                  rfl
                refine pure_ (i := 4) (N := some 35) (v := ?_) (a' := ?_) #[false, true, true, false, true, false, false, false, false, false, false, false, false, false, false] rfl rfl (any_of HT_.out (by kernel_rfl)) (fun _ _ _ h => h) (Or.inl ⟨by rfl, ?_⟩) ?_ ?_
                rotate_left
                · intro w'
                  go_simp
                  with_reducible rfl
                rotate_left
                · simp only [Act.put, List.setIfInBounds_toArray, List.set_cons_zero, List.set_cons_succ, i64_w, i32_w]
                  rfl
                refine pure_ (i := 6) (N := some 37) (v := ?_) (a' := ?_) #[false, true, true, false, true, false, true, false, false, false, false, false, false, false, false] rfl rfl (any_of HT_.out (by kernel_rfl)) (fun _ _ _ h => h) (Or.inl ⟨by rfl, ?_⟩) ?_ ?_
                rotate_left
                · intro w'
                  go_simp
                  with_reducible rfl
                rotate_left
                · simp only [Act.put, List.setIfInBounds_toArray, List.set_cons_zero, List.set_cons_succ, i64_w, i32_w]
                  rfl
                refine take_ (i := 0) (N := some 31) (v := ?_) (a' := ?_) #[true, true, true, false, true, false, true, false, false, false, false, false, false, false, false] rfl rfl (take_ofW HT_.out HW_.out (by kernel_rfl)) (fun _ _ _ h => h) (Or.inl ⟨by rfl, ?_⟩) hHeld ?_ ?_
                rotate_left
                · rintro w' ⟨s0, s1, s2, s3, s4⟩
                  go_simp
                  with_reducible rfl
                rotate_left
                · simp only [Act.put, List.setIfInBounds_toArray, List.set_cons_zero, List.set_cons_succ, i64_w, i32_w]
                  rfl
                refine join_ (σ := Value × Value × Value) 7 #[true, true, true, true, true, true, true, true, false, false, false, false, false, false, false] (fun s_ => [(34, s_.1), (36, s_.2.1), (38, s_.2.2)]) (fun s_ w' => (w'.cell? ⟨gb218, 0, none⟩ = some (.int .i64 a0_0) ∧ w'.cell? ⟨gb218, 1, none⟩ = some (.int .i64 a0_1) ∧ w'.cell? ⟨gb218, 2, none⟩ = some (.int .i64 a0_2) ∧ w'.cell? ⟨gb218, 3, none⟩ = some (.int .i64 a0_3) ∧ w'.cell? ⟨gb218, 4, none⟩ = some (.int .i64 a0_4)) ∧ (Kd.R (Kd.int .i64) 3 w' w0.heap.size (fun k_ => (P3_ k_ ∨ w.heap.size ≤ k_) ∧ some k_ ≠ (s_.2.2 : Value).ownBlock ∧ some k_ ≠ (.slice Ao12 l3.length co12 : Value).ownBlock) s_.2.1 y223) ∧ (Kd.R (Kd.int .i64) 3 w' w0.heap.size (fun k_ => (P3_ k_ ∨ w.heap.size ≤ k_) ∧ some k_ ≠ (s_.2.1 : Value).ownBlock ∧ some k_ ≠ (.slice Ao12 l3.length co12 : Value).ownBlock) s_.2.2 y226) ∧ (Kd.R (Kd.int .i64) 3 w' w0.heap.size (fun k_ => (P3_ k_ ∨ w.heap.size ≤ k_) ∧ some k_ ≠ (s_.2.1 : Value).ownBlock ∧ some k_ ≠ (s_.2.2 : Value).ownBlock) (.slice Ao12 l3.length co12) l3) ∧ (w'.heap[gb218]? = some (.cells #[.int .i64 a0_0, .int .i64 a0_1, .int .i64 a0_2, .int .i64 a0_3, .int .i64 a0_4] 23 (0, 0))) ∧ (Kept w w' (fun k_ => P3_ k_)) ∧ (Below w0.heap.size w0 w')) ?_ ?_
                rotate_left
                · intro hCont
                  refine two_ (i := 3) (j := 7) (Ni := some 34) (Nj := some 38) #[true, true, true, true, true, false, true, false, false, false, false, false, false, false, false] #[true, true, true, false, true, false, true, true, false, false, false, false, false, false, false] rfl rfl rfl rfl (two_of HT_.out (by kernel_rfl)) (by decide) (by decide) (fun K hK => ?_) (fun K hK => ?_)
                  · skip
                    refine Kd.R_lit_step (Kd.int .i64) _ 3 ?hg (N := 34) ?hd (xs := ([] : List Int)) (inner := []) (ok := fun _ => True) (okp := fun _ => True) ?hr ?hp (fun _ hk => hk) trivial (Below.refl _ _) (Nat.le_refl _) (by simp) ?_; (case hd => rfl); (case hg => rfl); (case hr => first | (go_simp; done) | (go_simp; rfl)); (case hp => exact (Reps.none _ _))
                    intro v221 w32 ho33 hb hg_ hnew_
                    clear hg_ hnew_
                    (first | rw [← Ny220.out] at ho33 | (simp only [Int.reduceToNat] at ho33; rw [← Ny220.out] at ho33))
                    have n0_ := Aside0.mk (Kd.R_elder' (by (with_reducible repeat (first | apply Kd.R_alloc | apply Kd.R_drewN | apply Kd.R_drew)); exact HO_3.out) (Kd.R_base ho33) hb)
                    have n1_ := Aside0.mk (Kd.R_lower (Kd.R_new' (Kd.R_newM (M := fun k_ => (P3_ k_ ∨ w.heap.size ≤ k_)) ho33 (by first | exact HK.out.1 | exact (show Kept w _ (fun k_ => P3_ k_) from by repeat (first | (with_reducible first | exact HK.out | apply Kept.alloc | apply Kept.drewN | apply Kept.drew | refine Kept.setCell ?_ (.inr GW218.out) _) | exact HK.out)).1) (fun k_ h_ => .inr h_)) (Kd.R_lt (by (with_reducible repeat (first | apply Kd.R_alloc | apply Kd.R_drewN | apply Kd.R_drew)); exact HO_3.out))) (below_size (by repeat (first | (with_reducible first | exact HB.out | apply below_alloc | apply pw_below_drewN | apply below_drew1 | refine below_set ?_ GE218.out) | exact HB.out))))
                    have n2_ := Aside0.mk (blk_below (g := gb218) (o := .cells #[.int .i64 a0_0, .int .i64 a0_1, .int .i64 a0_2, .int .i64 a0_3, .int .i64 a0_4] 23 (0, 0)) (by (with_reducible repeat (first | refine blk_drewN ?_ _ | refine blk_drew ?_ | refine blk_alloc ?_ _)); exact BK218.out) hb)
                    have n3_ := Aside0.mk (Kept.below (S := (fun k_ => P3_ k_)) (by repeat (first | (with_reducible first | exact HK.out | apply Kept.alloc | apply Kept.drewN | apply Kept.drew | refine Kept.setCell ?_ (.inr GW218.out) _) | exact HK.out)) hb)
                    have n4_ := Aside0.mk (below_step (by repeat (first | (with_reducible first | exact HB.out | apply below_alloc | apply pw_below_drewN | apply below_drew1 | refine below_set ?_ GE218.out) | exact HB.out)) hb)
                    clear HO_3
                    clear BK218
                    clear HK
                    clear HB
                    have HO_3 := n0_
                    have HO222 := n1_
                    have BK218 := n2_
                    have HK := n3_
                    have HB := n4_
                    clear n0_ n1_ n2_ n3_ n4_
                    clear hb ho33
                    refine hK.out _ _ ⟨(blk_cell BK218.out 0).trans rfl, (blk_cell BK218.out 1).trans rfl, (blk_cell BK218.out 2).trans rfl, (blk_cell BK218.out 3).trans rfl, (blk_cell BK218.out 4).trans rfl⟩ (fun hHeld => ?_)
                    clear hK K
                    refine norm_ (a' := ?_) ?_ ?_
                    rotate_left
                    · show Act.put _ (some 34) _ = _
                      simp only [Act.put, List.setIfInBounds_toArray, List.set_cons_zero, List.set_cons_succ, i64_w, i32_w]
                      rfl
                    refine two_ (i := 5) (j := 7) (Ni := some 36) (Nj := some 38) #[true, true, true, true, true, true, true, false, false, false, false, false, false, false, false] #[true, true, true, true, true, false, true, true, false, false, false, false, false, false, false] rfl rfl rfl rfl (two_of HT_.out (by kernel_rfl)) (by decide) (by decide) (fun K hK => ?_) (fun K hK => ?_)
                    · skip
                      refine Kd.R_append_rows_step (Kd.int .i64) (w0 := w0) w0.heap.size (by rfl) (.tmp 34) (.tmp 35) 25 3 (.int .i64 0) 8 rfl Tryd.underlying25 info3 rfl (by decide) (by omega) v221 y220 l3 _ _ _ (fun k_ => (P3_ k_ ∨ w.heap.size ≤ k_) ∧ some k_ ≠ (.slice Ao12 l3.length co12 : Value).ownBlock) (fun _ => False) rfl rfl ?aO ?aR (fun _ _ h => h) (fun _ h => h.elim) ?aF ?aB ?aS ?aL ?_
                      (case aR => repeat (first | exact (Kd.R_reads' HO_3.out).2.2 | (with_reducible refine Kd.C_alloc ?_ _) | (with_reducible refine Kd.C_drewN ?_ _) | (with_reducible refine Kd.C_drew ?_)))
                      (case aB => exact (by repeat (first | (with_reducible first | exact HB.out | apply below_alloc | apply pw_below_drewN | apply below_drew1 | refine below_set ?_ GE218.out) | exact HB.out)))
                      (case aF => exact (fun k_ hk => ⟨(.inr (Nat.le_trans (by first | exact HK.out.1 | exact (show Kept w _ (fun k_ => P3_ k_) from by repeat (first | (with_reducible first | exact HK.out | apply Kept.alloc | apply Kept.drewN | apply Kept.drew | refine Kept.setCell ?_ (.inr GW218.out) _) | exact HK.out)).1) hk)), Kd.fresh' (Kd.R_lt (by (with_reducible repeat (first | apply Kd.R_alloc | apply Kd.R_drewN | apply Kd.R_drew)); exact HO_3.out)) k_ hk⟩))
                      (case aO => exact (by (with_reducible repeat (first | apply Kd.R_alloc | apply Kd.R_drewN | apply Kd.R_drew)); exact Kd.R_mono HO222.out (fun _ hk => ⟨hk.1.1, hk.2⟩)))
                      (case aS => exact (below_size (by repeat (first | (with_reducible first | exact HB.out | apply below_alloc | apply pw_below_drewN | apply below_drew1 | refine below_set ?_ GE218.out) | exact HB.out))))
                      (case aL => have := LMc14.out; omega)
                      intro v224 w34 ho hb hg hat
                      rw [← Ny223.out] at ho
                      have n0_ := Aside0.mk (Kd.R_after (ok := (fun k_ => (P3_ k_ ∨ w.heap.size ≤ k_))) (by (with_reducible repeat (first | apply Kd.R_alloc | apply Kd.R_drewN | apply Kd.R_drew)); exact HO_3.out) hg hat)
                      have n1_ := Aside0.mk (blk_grown (g := gb218) (o := .cells #[.int .i64 a0_0, .int .i64 a0_1, .int .i64 a0_2, .int .i64 a0_3, .int .i64 a0_4] 23 (0, 0)) (by (with_reducible repeat (first | refine blk_drewN ?_ _ | refine blk_drew ?_ | refine blk_alloc ?_ _)); exact BK218.out) hg (Kd.R_ne HO222.out BK218.out (by decide)))
                      have n2_ := Aside0.mk (hb)
                      have n3_ := Aside0.mk (Kept.of_grown (S := (fun k_ => P3_ k_)) hg (by repeat (first | (with_reducible first | exact HK.out | apply Kept.alloc | apply Kept.drewN | apply Kept.drew | refine Kept.setCell ?_ (.inr GW218.out) _) | exact HK.out)) (fun k_ e_ => (HO222.out.1 k_ e_).1.1))
                      have n4_ := Aside0.mk (ho)
                      clear HO_3
                      clear BK218
                      clear HB
                      clear HK
                      clear HO222
                      have HO_3 := n0_
                      have BK218 := n1_
                      have HB := n2_
                      have HK := n3_
                      have HO225 := n4_
                      clear n0_ n1_ n2_ n3_ n4_
                      clear ho hb hg hat
                      refine hK.out _ _ ⟨(blk_cell BK218.out 0).trans rfl, (blk_cell BK218.out 1).trans rfl, (blk_cell BK218.out 2).trans rfl, (blk_cell BK218.out 3).trans rfl, (blk_cell BK218.out 4).trans rfl⟩ (fun hHeld => ?_)
                      clear hK K
                      refine norm_ (a' := ?_) ?_ ?_
                      rotate_left
                      · show Act.put _ (some 36) _ = _
                        simp only [Act.put, List.setIfInBounds_toArray, List.set_cons_zero, List.set_cons_succ, i64_w, i32_w]
                        rfl
                      refine one_ (i := 7) (N := some 38) #[true, true, true, true, true, true, true, true, false, false, false, false, false, false, false] rfl rfl (one_of HT_.out (by kernel_rfl)) (by decide) (fun K hK => ?_)
                      refine Kd.R_lit_step (Kd.int .i64) _ 3 ?hg (N := 38) ?hd (xs := ([x10_1] : List Int)) (inner := [.int .i64 x10_1]) (ok := fun _ => True) (okp := fun _ => True) ?hr ?hp (fun _ hk => hk) trivial (Below.refl _ _) (Nat.le_refl _) (by simp) ?_; (case hd => rfl); (case hg => rfl); (case hr => first | (go_simp; done) | (go_simp; rfl)); (case hp => exact (Reps.one (show Kd.M (Kd.int .i64) _ _ _ x10_1 [.int .i64 x10_1] from rfl) (Reps.none _ _)))
                      intro v227 w35 ho36 hb hg_ hnew_
                      clear hg_ hnew_
                      (first | rw [← Ny226.out] at ho36 | (simp only [Int.reduceToNat] at ho36; rw [← Ny226.out] at ho36))
                      have n0_ := Aside0.mk (Kd.R_elder' (by (with_reducible repeat (first | apply Kd.R_alloc | apply Kd.R_drewN | apply Kd.R_drew)); exact HO_3.out) (Kd.R_base ho36) hb)
                      have n1_ := Aside0.mk (Kd.R_elder' (by (with_reducible repeat (first | apply Kd.R_alloc | apply Kd.R_drewN | apply Kd.R_drew)); exact HO225.out) (Kd.R_base ho36) hb)
                      have n2_ := Aside0.mk (Kd.R_lower (Kd.R_new' (Kd.R_new' (Kd.R_newM (M := fun k_ => (P3_ k_ ∨ w.heap.size ≤ k_)) ho36 (by first | exact HK.out.1 | exact (show Kept w _ (fun k_ => P3_ k_) from by repeat (first | (with_reducible first | exact HK.out | apply Kept.alloc | apply Kept.drewN | apply Kept.drew | refine Kept.setCell ?_ (.inr GW218.out) _) | exact HK.out)).1) (fun k_ h_ => .inr h_)) (Kd.R_lt (by (with_reducible repeat (first | apply Kd.R_alloc | apply Kd.R_drewN | apply Kd.R_drew)); exact HO_3.out))) (Kd.R_lt (by (with_reducible repeat (first | apply Kd.R_alloc | apply Kd.R_drewN | apply Kd.R_drew)); exact HO225.out))) (below_size (by repeat (first | (with_reducible first | exact HB.out | apply below_alloc | apply pw_below_drewN | apply below_drew1 | refine below_set ?_ GE218.out) | exact HB.out))))
                      have n3_ := Aside0.mk (blk_below (g := gb218) (o := .cells #[.int .i64 a0_0, .int .i64 a0_1, .int .i64 a0_2, .int .i64 a0_3, .int .i64 a0_4] 23 (0, 0)) (by (with_reducible repeat (first | refine blk_drewN ?_ _ | refine blk_drew ?_ | refine blk_alloc ?_ _)); exact BK218.out) hb)
                      have n4_ := Aside0.mk (Kept.below (S := (fun k_ => P3_ k_)) (by repeat (first | (with_reducible first | exact HK.out | apply Kept.alloc | apply Kept.drewN | apply Kept.drew | refine Kept.setCell ?_ (.inr GW218.out) _) | exact HK.out)) hb)
                      have n5_ := Aside0.mk (below_step (by repeat (first | (with_reducible first | exact HB.out | apply below_alloc | apply pw_below_drewN | apply below_drew1 | refine below_set ?_ GE218.out) | exact HB.out)) hb)
                      clear HO_3
                      clear HO225
                      clear BK218
                      clear HK
                      clear HB
                      have HO_3 := n0_
                      have HO225 := n1_
                      have HO228 := n2_
                      have BK218 := n3_
                      have HK := n4_
                      have HB := n5_
                      clear n0_ n1_ n2_ n3_ n4_ n5_
                      clear hb ho36
                      refine hK.out _ _ ⟨(blk_cell BK218.out 0).trans rfl, (blk_cell BK218.out 1).trans rfl, (blk_cell BK218.out 2).trans rfl, (blk_cell BK218.out 3).trans rfl, (blk_cell BK218.out 4).trans rfl⟩ (fun hHeld => ?_)
                      clear hK K
                      refine norm_ (a' := ?_) ?_ ?_
                      rotate_left
                      · show Act.put _ (some 38) _ = _
                        simp only [Act.put, List.setIfInBounds_toArray, List.set_cons_zero, List.set_cons_succ, i64_w, i32_w]
                        rfl
                      exact norm_ (by simp only [putAll, Act.put, List.setIfInBounds_toArray, List.set_cons_zero, List.set_cons_succ]) (hCont (v221, v224, v227) _ ⟨hHeld, (by (with_reducible repeat (first | apply Kd.R_alloc | apply Kd.R_drewN | apply Kd.R_drew)); exact Kd.R_mono HO225.out (fun _ hk => ⟨hk.1.1, ⟨hk.2, hk.1.2⟩⟩)), (by (with_reducible repeat (first | apply Kd.R_alloc | apply Kd.R_drewN | apply Kd.R_drew)); exact Kd.R_mono HO228.out (fun _ hk => ⟨hk.1.1.1, ⟨hk.2, hk.1.2⟩⟩)), (by (with_reducible repeat (first | apply Kd.R_alloc | apply Kd.R_drewN | apply Kd.R_drew)); exact Kd.R_mono HO_3.out (fun _ hk => ⟨hk.1.1, ⟨hk.1.2, hk.2⟩⟩)), (by (with_reducible repeat (first | refine blk_drewN ?_ _ | refine blk_drew ?_ | refine blk_alloc ?_ _)); exact BK218.out), (by repeat (first | (with_reducible first | exact HK.out | apply Kept.alloc | apply Kept.drewN | apply Kept.drew | refine Kept.setCell ?_ (.inr GW218.out) _) | exact HK.out)), (by repeat (first | (with_reducible first | exact HB.out | apply below_alloc | apply pw_below_drewN | apply below_drew1 | refine below_set ?_ GE218.out) | exact HB.out))⟩)
                    · skip
                      refine Kd.R_lit_step (Kd.int .i64) _ 3 ?hg (N := 38) ?hd (xs := ([x10_1] : List Int)) (inner := [.int .i64 x10_1]) (ok := fun _ => True) (okp := fun _ => True) ?hr ?hp (fun _ hk => hk) trivial (Below.refl _ _) (Nat.le_refl _) (by simp) ?_; (case hd => rfl); (case hg => rfl); (case hr => first | (go_simp; done) | (go_simp; rfl)); (case hp => exact (Reps.one (show Kd.M (Kd.int .i64) _ _ _ x10_1 [.int .i64 x10_1] from rfl) (Reps.none _ _)))
                      intro v227 w34 ho35 hb hg_ hnew_
                      clear hg_ hnew_
                      (first | rw [← Ny226.out] at ho35 | (simp only [Int.reduceToNat] at ho35; rw [← Ny226.out] at ho35))
                      have n0_ := Aside0.mk (Kd.R_elder' (by (with_reducible repeat (first | apply Kd.R_alloc | apply Kd.R_drewN | apply Kd.R_drew)); exact HO_3.out) (Kd.R_base ho35) hb)
                      have n1_ := Aside0.mk (Kd.R_elder' (by (with_reducible repeat (first | apply Kd.R_alloc | apply Kd.R_drewN | apply Kd.R_drew)); exact HO222.out) (Kd.R_base ho35) hb)
                      have n2_ := Aside0.mk (Kd.R_lower (Kd.R_new' (Kd.R_new' (Kd.R_newM (M := fun k_ => (P3_ k_ ∨ w.heap.size ≤ k_)) ho35 (by first | exact HK.out.1 | exact (show Kept w _ (fun k_ => P3_ k_) from by repeat (first | (with_reducible first | exact HK.out | apply Kept.alloc | apply Kept.drewN | apply Kept.drew | refine Kept.setCell ?_ (.inr GW218.out) _) | exact HK.out)).1) (fun k_ h_ => .inr h_)) (Kd.R_lt (by (with_reducible repeat (first | apply Kd.R_alloc | apply Kd.R_drewN | apply Kd.R_drew)); exact HO_3.out))) (Kd.R_lt (by (with_reducible repeat (first | apply Kd.R_alloc | apply Kd.R_drewN | apply Kd.R_drew)); exact HO222.out))) (below_size (by repeat (first | (with_reducible first | exact HB.out | apply below_alloc | apply pw_below_drewN | apply below_drew1 | refine below_set ?_ GE218.out) | exact HB.out))))
                      have n3_ := Aside0.mk (blk_below (g := gb218) (o := .cells #[.int .i64 a0_0, .int .i64 a0_1, .int .i64 a0_2, .int .i64 a0_3, .int .i64 a0_4] 23 (0, 0)) (by (with_reducible repeat (first | refine blk_drewN ?_ _ | refine blk_drew ?_ | refine blk_alloc ?_ _)); exact BK218.out) hb)
                      have n4_ := Aside0.mk (Kept.below (S := (fun k_ => P3_ k_)) (by repeat (first | (with_reducible first | exact HK.out | apply Kept.alloc | apply Kept.drewN | apply Kept.drew | refine Kept.setCell ?_ (.inr GW218.out) _) | exact HK.out)) hb)
                      have n5_ := Aside0.mk (below_step (by repeat (first | (with_reducible first | exact HB.out | apply below_alloc | apply pw_below_drewN | apply below_drew1 | refine below_set ?_ GE218.out) | exact HB.out)) hb)
                      clear HO_3
                      clear HO222
                      clear BK218
                      clear HK
                      clear HB
                      have HO_3 := n0_
                      have HO222 := n1_
                      have HO228 := n2_
                      have BK218 := n3_
                      have HK := n4_
                      have HB := n5_
                      clear n0_ n1_ n2_ n3_ n4_ n5_
                      clear hb ho35
                      refine hK.out _ _ ⟨(blk_cell BK218.out 0).trans rfl, (blk_cell BK218.out 1).trans rfl, (blk_cell BK218.out 2).trans rfl, (blk_cell BK218.out 3).trans rfl, (blk_cell BK218.out 4).trans rfl⟩ (fun hHeld => ?_)
                      clear hK K
                      refine norm_ (a' := ?_) ?_ ?_
                      rotate_left
                      · show Act.put _ (some 38) _ = _
                        simp only [Act.put, List.setIfInBounds_toArray, List.set_cons_zero, List.set_cons_succ, i64_w, i32_w]
                        rfl
                      refine one_ (i := 5) (N := some 36) #[true, true, true, true, true, true, true, true, false, false, false, false, false, false, false] rfl rfl (one_of HT_.out (by kernel_rfl)) (by decide) (fun K hK => ?_)
                      refine Kd.R_append_rows_step (Kd.int .i64) (w0 := w0) w0.heap.size (by rfl) (.tmp 34) (.tmp 35) 25 3 (.int .i64 0) 8 rfl Tryd.underlying25 info3 rfl (by decide) (by omega) v221 y220 l3 _ _ _ (fun k_ => (P3_ k_ ∨ w.heap.size ≤ k_) ∧ some k_ ≠ (.slice Ao12 l3.length co12 : Value).ownBlock ∧ some k_ ≠ (v227 : Value).ownBlock) (fun _ => False) rfl rfl ?aO ?aR (fun _ _ h => h) (fun _ h => h.elim) ?aF ?aB ?aS ?aL ?_
                      (case aR => repeat (first | exact (Kd.R_reads' HO_3.out).2.2 | (with_reducible refine Kd.C_alloc ?_ _) | (with_reducible refine Kd.C_drewN ?_ _) | (with_reducible refine Kd.C_drew ?_)))
                      (case aB => exact (by repeat (first | (with_reducible first | exact HB.out | apply below_alloc | apply pw_below_drewN | apply below_drew1 | refine below_set ?_ GE218.out) | exact HB.out)))
                      (case aF => exact (fun k_ hk => ⟨(.inr (Nat.le_trans (by first | exact HK.out.1 | exact (show Kept w _ (fun k_ => P3_ k_) from by repeat (first | (with_reducible first | exact HK.out | apply Kept.alloc | apply Kept.drewN | apply Kept.drew | refine Kept.setCell ?_ (.inr GW218.out) _) | exact HK.out)).1) hk)), Kd.fresh' (Kd.R_lt (by (with_reducible repeat (first | apply Kd.R_alloc | apply Kd.R_drewN | apply Kd.R_drew)); exact HO_3.out)) k_ hk, Kd.fresh' (Kd.R_lt (by (with_reducible repeat (first | apply Kd.R_alloc | apply Kd.R_drewN | apply Kd.R_drew)); exact HO228.out)) k_ hk⟩))
                      (case aO => exact (by (with_reducible repeat (first | apply Kd.R_alloc | apply Kd.R_drewN | apply Kd.R_drew)); exact Kd.R_mono HO222.out (fun _ hk => ⟨hk.1.1.1, ⟨hk.1.2, hk.2⟩⟩)))
                      (case aS => exact (below_size (by repeat (first | (with_reducible first | exact HB.out | apply below_alloc | apply pw_below_drewN | apply below_drew1 | refine below_set ?_ GE218.out) | exact HB.out))))
                      (case aL => have := LMc14.out; omega)
                      intro v224 w36 ho hb hg hat
                      rw [← Ny223.out] at ho
                      have n0_ := Aside0.mk (Kd.R_after (ok := (fun k_ => (P3_ k_ ∨ w.heap.size ≤ k_) ∧ some k_ ≠ (v227 : Value).ownBlock)) (by (with_reducible repeat (first | apply Kd.R_alloc | apply Kd.R_drewN | apply Kd.R_drew)); exact Kd.R_mono HO_3.out (fun _ hk => ⟨⟨hk.1.1, hk.2⟩, hk.1.2⟩)) hg hat)
                      have n1_ := Aside0.mk (blk_grown (g := gb218) (o := .cells #[.int .i64 a0_0, .int .i64 a0_1, .int .i64 a0_2, .int .i64 a0_3, .int .i64 a0_4] 23 (0, 0)) (by (with_reducible repeat (first | refine blk_drewN ?_ _ | refine blk_drew ?_ | refine blk_alloc ?_ _)); exact BK218.out) hg (Kd.R_ne HO222.out BK218.out (by decide)))
                      have n2_ := Aside0.mk (Kd.R_after (ok := (fun k_ => (P3_ k_ ∨ w.heap.size ≤ k_) ∧ some k_ ≠ (.slice Ao12 l3.length co12 : Value).ownBlock)) (by (with_reducible repeat (first | apply Kd.R_alloc | apply Kd.R_drewN | apply Kd.R_drew)); exact Kd.R_mono HO228.out (fun _ hk => ⟨⟨hk.1.1.1, hk.1.2⟩, hk.2⟩)) hg hat)
                      have n3_ := Aside0.mk (hb)
                      have n4_ := Aside0.mk (Kept.of_grown (S := (fun k_ => P3_ k_)) hg (by repeat (first | (with_reducible first | exact HK.out | apply Kept.alloc | apply Kept.drewN | apply Kept.drew | refine Kept.setCell ?_ (.inr GW218.out) _) | exact HK.out)) (fun k_ e_ => (HO222.out.1 k_ e_).1.1.1))
                      have n5_ := Aside0.mk (ho)
                      clear HO_3
                      clear BK218
                      clear HO228
                      clear HB
                      clear HK
                      clear HO222
                      have HO_3 := n0_
                      have BK218 := n1_
                      have HO228 := n2_
                      have HB := n3_
                      have HK := n4_
                      have HO225 := n5_
                      clear n0_ n1_ n2_ n3_ n4_ n5_
                      clear ho hb hg hat
                      refine hK.out _ _ ⟨(blk_cell BK218.out 0).trans rfl, (blk_cell BK218.out 1).trans rfl, (blk_cell BK218.out 2).trans rfl, (blk_cell BK218.out 3).trans rfl, (blk_cell BK218.out 4).trans rfl⟩ (fun hHeld => ?_)
                      clear hK K
                      refine norm_ (a' := ?_) ?_ ?_
                      rotate_left
                      · show Act.put _ (some 36) _ = _
                        simp only [Act.put, List.setIfInBounds_toArray, List.set_cons_zero, List.set_cons_succ, i64_w, i32_w]
                        rfl
                      exact norm_ (by simp only [putAll, Act.put, List.setIfInBounds_toArray, List.set_cons_zero, List.set_cons_succ]) (hCont (v221, v224, v227) _ ⟨hHeld, (by (with_reducible repeat (first | apply Kd.R_alloc | apply Kd.R_drewN | apply Kd.R_drew)); exact Kd.R_mono HO225.out (fun _ hk => ⟨hk.1, ⟨hk.2.2, hk.2.1⟩⟩)), (by (with_reducible repeat (first | apply Kd.R_alloc | apply Kd.R_drewN | apply Kd.R_drew)); exact Kd.R_mono HO228.out (fun _ hk => ⟨hk.1.1, ⟨hk.2, hk.1.2⟩⟩)), (by (with_reducible repeat (first | apply Kd.R_alloc | apply Kd.R_drewN | apply Kd.R_drew)); exact Kd.R_mono HO_3.out (fun _ hk => ⟨hk.1.1, ⟨hk.2, hk.1.2⟩⟩)), (by (with_reducible repeat (first | refine blk_drewN ?_ _ | refine blk_drew ?_ | refine blk_alloc ?_ _)); exact BK218.out), (by repeat (first | (with_reducible first | exact HK.out | apply Kept.alloc | apply Kept.drewN | apply Kept.drew | refine Kept.setCell ?_ (.inr GW218.out) _) | exact HK.out)), (by repeat (first | (with_reducible first | exact HB.out | apply below_alloc | apply pw_below_drewN | apply below_drew1 | refine below_set ?_ GE218.out) | exact HB.out))⟩)
                  · skip
                    refine Kd.R_lit_step (Kd.int .i64) _ 3 ?hg (N := 38) ?hd (xs := ([x10_1] : List Int)) (inner := [.int .i64 x10_1]) (ok := fun _ => True) (okp := fun _ => True) ?hr ?hp (fun _ hk => hk) trivial (Below.refl _ _) (Nat.le_refl _) (by simp) ?_; (case hd => rfl); (case hg => rfl); (case hr => first | (go_simp; done) | (go_simp; rfl)); (case hp => exact (Reps.one (show Kd.M (Kd.int .i64) _ _ _ x10_1 [.int .i64 x10_1] from rfl) (Reps.none _ _)))
                    intro v227 w32 ho33 hb hg_ hnew_
                    clear hg_ hnew_
                    (first | rw [← Ny226.out] at ho33 | (simp only [Int.reduceToNat] at ho33; rw [← Ny226.out] at ho33))
                    have n0_ := Aside0.mk (Kd.R_elder' (by (with_reducible repeat (first | apply Kd.R_alloc | apply Kd.R_drewN | apply Kd.R_drew)); exact HO_3.out) (Kd.R_base ho33) hb)
                    have n1_ := Aside0.mk (Kd.R_lower (Kd.R_new' (Kd.R_newM (M := fun k_ => (P3_ k_ ∨ w.heap.size ≤ k_)) ho33 (by first | exact HK.out.1 | exact (show Kept w _ (fun k_ => P3_ k_) from by repeat (first | (with_reducible first | exact HK.out | apply Kept.alloc | apply Kept.drewN | apply Kept.drew | refine Kept.setCell ?_ (.inr GW218.out) _) | exact HK.out)).1) (fun k_ h_ => .inr h_)) (Kd.R_lt (by (with_reducible repeat (first | apply Kd.R_alloc | apply Kd.R_drewN | apply Kd.R_drew)); exact HO_3.out))) (below_size (by repeat (first | (with_reducible first | exact HB.out | apply below_alloc | apply pw_below_drewN | apply below_drew1 | refine below_set ?_ GE218.out) | exact HB.out))))
                    have n2_ := Aside0.mk (blk_below (g := gb218) (o := .cells #[.int .i64 a0_0, .int .i64 a0_1, .int .i64 a0_2, .int .i64 a0_3, .int .i64 a0_4] 23 (0, 0)) (by (with_reducible repeat (first | refine blk_drewN ?_ _ | refine blk_drew ?_ | refine blk_alloc ?_ _)); exact BK218.out) hb)
                    have n3_ := Aside0.mk (Kept.below (S := (fun k_ => P3_ k_)) (by repeat (first | (with_reducible first | exact HK.out | apply Kept.alloc | apply Kept.drewN | apply Kept.drew | refine Kept.setCell ?_ (.inr GW218.out) _) | exact HK.out)) hb)
                    have n4_ := Aside0.mk (below_step (by repeat (first | (with_reducible first | exact HB.out | apply below_alloc | apply pw_below_drewN | apply below_drew1 | refine below_set ?_ GE218.out) | exact HB.out)) hb)
                    clear HO_3
                    clear BK218
                    clear HK
                    clear HB
                    have HO_3 := n0_
                    have HO228 := n1_
                    have BK218 := n2_
                    have HK := n3_
                    have HB := n4_
                    clear n0_ n1_ n2_ n3_ n4_
                    clear hb ho33
                    refine hK.out _ _ ⟨(blk_cell BK218.out 0).trans rfl, (blk_cell BK218.out 1).trans rfl, (blk_cell BK218.out 2).trans rfl, (blk_cell BK218.out 3).trans rfl, (blk_cell BK218.out 4).trans rfl⟩ (fun hHeld => ?_)
                    clear hK K
                    refine norm_ (a' := ?_) ?_ ?_
                    rotate_left
                    · show Act.put _ (some 38) _ = _
                      simp only [Act.put, List.setIfInBounds_toArray, List.set_cons_zero, List.set_cons_succ, i64_w, i32_w]
                      rfl
                    refine one_ (i := 3) (N := some 34) #[true, true, true, true, true, false, true, true, false, false, false, false, false, false, false] rfl rfl (one_of HT_.out (by kernel_rfl)) (by decide) (fun K hK => ?_)
                    refine Kd.R_lit_step (Kd.int .i64) _ 3 ?hg (N := 34) ?hd (xs := ([] : List Int)) (inner := []) (ok := fun _ => True) (okp := fun _ => True) ?hr ?hp (fun _ hk => hk) trivial (Below.refl _ _) (Nat.le_refl _) (by simp) ?_; (case hd => rfl); (case hg => rfl); (case hr => first | (go_simp; done) | (go_simp; rfl)); (case hp => exact (Reps.none _ _))
                    intro v221 w34 ho35 hb hg_ hnew_
                    clear hg_ hnew_
                    (first | rw [← Ny220.out] at ho35 | (simp only [Int.reduceToNat] at ho35; rw [← Ny220.out] at ho35))
                    have n0_ := Aside0.mk (Kd.R_elder' (by (with_reducible repeat (first | apply Kd.R_alloc | apply Kd.R_drewN | apply Kd.R_drew)); exact HO_3.out) (Kd.R_base ho35) hb)
                    have n1_ := Aside0.mk (Kd.R_elder' (by (with_reducible repeat (first | apply Kd.R_alloc | apply Kd.R_drewN | apply Kd.R_drew)); exact HO228.out) (Kd.R_base ho35) hb)
                    have n2_ := Aside0.mk (Kd.R_lower (Kd.R_new' (Kd.R_new' (Kd.R_newM (M := fun k_ => (P3_ k_ ∨ w.heap.size ≤ k_)) ho35 (by first | exact HK.out.1 | exact (show Kept w _ (fun k_ => P3_ k_) from by repeat (first | (with_reducible first | exact HK.out | apply Kept.alloc | apply Kept.drewN | apply Kept.drew | refine Kept.setCell ?_ (.inr GW218.out) _) | exact HK.out)).1) (fun k_ h_ => .inr h_)) (Kd.R_lt (by (with_reducible repeat (first | apply Kd.R_alloc | apply Kd.R_drewN | apply Kd.R_drew)); exact HO_3.out))) (Kd.R_lt (by (with_reducible repeat (first | apply Kd.R_alloc | apply Kd.R_drewN | apply Kd.R_drew)); exact HO228.out))) (below_size (by repeat (first | (with_reducible first | exact HB.out | apply below_alloc | apply pw_below_drewN | apply below_drew1 | refine below_set ?_ GE218.out) | exact HB.out))))
                    have n3_ := Aside0.mk (blk_below (g := gb218) (o := .cells #[.int .i64 a0_0, .int .i64 a0_1, .int .i64 a0_2, .int .i64 a0_3, .int .i64 a0_4] 23 (0, 0)) (by (with_reducible repeat (first | refine blk_drewN ?_ _ | refine blk_drew ?_ | refine blk_alloc ?_ _)); exact BK218.out) hb)
                    have n4_ := Aside0.mk (Kept.below (S := (fun k_ => P3_ k_)) (by repeat (first | (with_reducible first | exact HK.out | apply Kept.alloc | apply Kept.drewN | apply Kept.drew | refine Kept.setCell ?_ (.inr GW218.out) _) | exact HK.out)) hb)
                    have n5_ := Aside0.mk (below_step (by repeat (first | (with_reducible first | exact HB.out | apply below_alloc | apply pw_below_drewN | apply below_drew1 | refine below_set ?_ GE218.out) | exact HB.out)) hb)
                    clear HO_3
                    clear HO228
                    clear BK218
                    clear HK
                    clear HB
                    have HO_3 := n0_
                    have HO228 := n1_
                    have HO222 := n2_
                    have BK218 := n3_
                    have HK := n4_
                    have HB := n5_
                    clear n0_ n1_ n2_ n3_ n4_ n5_
                    clear hb ho35
                    refine hK.out _ _ ⟨(blk_cell BK218.out 0).trans rfl, (blk_cell BK218.out 1).trans rfl, (blk_cell BK218.out 2).trans rfl, (blk_cell BK218.out 3).trans rfl, (blk_cell BK218.out 4).trans rfl⟩ (fun hHeld => ?_)
                    clear hK K
                    refine norm_ (a' := ?_) ?_ ?_
                    rotate_left
                    · show Act.put _ (some 34) _ = _
                      simp only [Act.put, List.setIfInBounds_toArray, List.set_cons_zero, List.set_cons_succ, i64_w, i32_w]
                      rfl
                    refine one_ (i := 5) (N := some 36) #[true, true, true, true, true, true, true, true, false, false, false, false, false, false, false] rfl rfl (one_of HT_.out (by kernel_rfl)) (by decide) (fun K hK => ?_)
                    refine Kd.R_append_rows_step (Kd.int .i64) (w0 := w0) w0.heap.size (by rfl) (.tmp 34) (.tmp 35) 25 3 (.int .i64 0) 8 rfl Tryd.underlying25 info3 rfl (by decide) (by omega) v221 y220 l3 _ _ _ (fun k_ => (P3_ k_ ∨ w.heap.size ≤ k_) ∧ some k_ ≠ (.slice Ao12 l3.length co12 : Value).ownBlock ∧ some k_ ≠ (v227 : Value).ownBlock) (fun _ => False) rfl rfl ?aO ?aR (fun _ _ h => h) (fun _ h => h.elim) ?aF ?aB ?aS ?aL ?_
                    (case aR => repeat (first | exact (Kd.R_reads' HO_3.out).2.2 | (with_reducible refine Kd.C_alloc ?_ _) | (with_reducible refine Kd.C_drewN ?_ _) | (with_reducible refine Kd.C_drew ?_)))
                    (case aB => exact (by repeat (first | (with_reducible first | exact HB.out | apply below_alloc | apply pw_below_drewN | apply below_drew1 | refine below_set ?_ GE218.out) | exact HB.out)))
                    (case aF => exact (fun k_ hk => ⟨(.inr (Nat.le_trans (by first | exact HK.out.1 | exact (show Kept w _ (fun k_ => P3_ k_) from by repeat (first | (with_reducible first | exact HK.out | apply Kept.alloc | apply Kept.drewN | apply Kept.drew | refine Kept.setCell ?_ (.inr GW218.out) _) | exact HK.out)).1) hk)), Kd.fresh' (Kd.R_lt (by (with_reducible repeat (first | apply Kd.R_alloc | apply Kd.R_drewN | apply Kd.R_drew)); exact HO_3.out)) k_ hk, Kd.fresh' (Kd.R_lt (by (with_reducible repeat (first | apply Kd.R_alloc | apply Kd.R_drewN | apply Kd.R_drew)); exact HO228.out)) k_ hk⟩))
                    (case aO => exact (by (with_reducible repeat (first | apply Kd.R_alloc | apply Kd.R_drewN | apply Kd.R_drew)); exact Kd.R_mono HO222.out (fun _ hk => ⟨hk.1.1.1, ⟨hk.1.2, hk.2⟩⟩)))
                    (case aS => exact (below_size (by repeat (first | (with_reducible first | exact HB.out | apply below_alloc | apply pw_below_drewN | apply below_drew1 | refine below_set ?_ GE218.out) | exact HB.out))))
                    (case aL => have := LMc14.out; omega)
                    intro v224 w36 ho hb hg hat
                    rw [← Ny223.out] at ho
                    have n0_ := Aside0.mk (Kd.R_after (ok := (fun k_ => (P3_ k_ ∨ w.heap.size ≤ k_) ∧ some k_ ≠ (v227 : Value).ownBlock)) (by (with_reducible repeat (first | apply Kd.R_alloc | apply Kd.R_drewN | apply Kd.R_drew)); exact HO_3.out) hg hat)
                    have n1_ := Aside0.mk (blk_grown (g := gb218) (o := .cells #[.int .i64 a0_0, .int .i64 a0_1, .int .i64 a0_2, .int .i64 a0_3, .int .i64 a0_4] 23 (0, 0)) (by (with_reducible repeat (first | refine blk_drewN ?_ _ | refine blk_drew ?_ | refine blk_alloc ?_ _)); exact BK218.out) hg (Kd.R_ne HO222.out BK218.out (by decide)))
                    have n2_ := Aside0.mk (Kd.R_after (ok := (fun k_ => (P3_ k_ ∨ w.heap.size ≤ k_) ∧ some k_ ≠ (.slice Ao12 l3.length co12 : Value).ownBlock)) (by (with_reducible repeat (first | apply Kd.R_alloc | apply Kd.R_drewN | apply Kd.R_drew)); exact Kd.R_mono HO228.out (fun _ hk => ⟨⟨hk.1.1.1, hk.1.2⟩, hk.2⟩)) hg hat)
                    have n3_ := Aside0.mk (hb)
                    have n4_ := Aside0.mk (Kept.of_grown (S := (fun k_ => P3_ k_)) hg (by repeat (first | (with_reducible first | exact HK.out | apply Kept.alloc | apply Kept.drewN | apply Kept.drew | refine Kept.setCell ?_ (.inr GW218.out) _) | exact HK.out)) (fun k_ e_ => (HO222.out.1 k_ e_).1.1.1))
                    have n5_ := Aside0.mk (ho)
                    clear HO_3
                    clear BK218
                    clear HO228
                    clear HB
                    clear HK
                    clear HO222
                    have HO_3 := n0_
                    have BK218 := n1_
                    have HO228 := n2_
                    have HB := n3_
                    have HK := n4_
                    have HO225 := n5_
                    clear n0_ n1_ n2_ n3_ n4_ n5_
                    clear ho hb hg hat
                    refine hK.out _ _ ⟨(blk_cell BK218.out 0).trans rfl, (blk_cell BK218.out 1).trans rfl, (blk_cell BK218.out 2).trans rfl, (blk_cell BK218.out 3).trans rfl, (blk_cell BK218.out 4).trans rfl⟩ (fun hHeld => ?_)
                    clear hK K
                    refine norm_ (a' := ?_) ?_ ?_
                    rotate_left
                    · show Act.put _ (some 36) _ = _
                      simp only [Act.put, List.setIfInBounds_toArray, List.set_cons_zero, List.set_cons_succ, i64_w, i32_w]
                      rfl
                    exact norm_ (by simp only [putAll, Act.put, List.setIfInBounds_toArray, List.set_cons_zero, List.set_cons_succ]) (hCont (v221, v224, v227) _ ⟨hHeld, (by (with_reducible repeat (first | apply Kd.R_alloc | apply Kd.R_drewN | apply Kd.R_drew)); exact Kd.R_mono HO225.out (fun _ hk => ⟨hk.1, ⟨hk.2.2, hk.2.1⟩⟩)), (by (with_reducible repeat (first | apply Kd.R_alloc | apply Kd.R_drewN | apply Kd.R_drew)); exact Kd.R_mono HO228.out (fun _ hk => ⟨hk.1.1, ⟨hk.2, hk.1.2⟩⟩)), (by (with_reducible repeat (first | apply Kd.R_alloc | apply Kd.R_drewN | apply Kd.R_drew)); exact Kd.R_mono HO_3.out (fun _ hk => ⟨hk.1.1, ⟨hk.2, hk.1.2⟩⟩)), (by (with_reducible repeat (first | refine blk_drewN ?_ _ | refine blk_drew ?_ | refine blk_alloc ?_ _)); exact BK218.out), (by repeat (first | (with_reducible first | exact HK.out | apply Kept.alloc | apply Kept.drewN | apply Kept.drew | refine Kept.setCell ?_ (.inr GW218.out) _) | exact HK.out)), (by repeat (first | (with_reducible first | exact HB.out | apply below_alloc | apply pw_below_drewN | apply below_drew1 | refine below_set ?_ GE218.out) | exact HB.out))⟩)
                rintro ⟨v221, v224, v227⟩ w37 ⟨hS_, h0_, h1_, h2_, h3_, h4_, h5_⟩
                have n0_ : Aside0 (Kd.R (Kd.int .i64) 3 w37 w0.heap.size (fun k_ => (P3_ k_ ∨ w.heap.size ≤ k_) ∧ some k_ ≠ (v227 : Value).ownBlock ∧ some k_ ≠ (.slice Ao12 l3.length co12 : Value).ownBlock) v224 y223) := ⟨h0_⟩
                have n1_ : Aside0 (Kd.R (Kd.int .i64) 3 w37 w0.heap.size (fun k_ => (P3_ k_ ∨ w.heap.size ≤ k_) ∧ some k_ ≠ (v224 : Value).ownBlock ∧ some k_ ≠ (.slice Ao12 l3.length co12 : Value).ownBlock) v227 y226) := ⟨h1_⟩
                have n2_ : Aside0 (Kd.R (Kd.int .i64) 3 w37 w0.heap.size (fun k_ => (P3_ k_ ∨ w.heap.size ≤ k_) ∧ some k_ ≠ (v224 : Value).ownBlock ∧ some k_ ≠ (v227 : Value).ownBlock) (.slice Ao12 l3.length co12) l3) := ⟨h2_⟩
                have n3_ : Aside0 (w37.heap[gb218]? = some (.cells #[.int .i64 a0_0, .int .i64 a0_1, .int .i64 a0_2, .int .i64 a0_3, .int .i64 a0_4] 23 (0, 0))) := ⟨h3_⟩
                have n4_ : Aside0 (Kept w w37 (fun k_ => P3_ k_)) := ⟨h4_⟩
                have n5_ : Aside0 (Below w0.heap.size w0 w37) := ⟨h5_⟩
                clear HO_3
                clear BK218
                clear HK
                clear HB
                clear h0_ h1_ h2_ h3_ h4_ h5_
                have HO225 := n0_
                have HO228 := n1_
                have HO_3 := n2_
                have BK218 := n3_
                have HK := n4_
                have HB := n5_
                clear n0_ n1_ n2_ n3_ n4_ n5_
                have hHeld : w37.cell? ⟨gb218, 0, none⟩ = some (.int .i64 a0_0) ∧ w37.cell? ⟨gb218, 1, none⟩ = some (.int .i64 a0_1) ∧ w37.cell? ⟨gb218, 2, none⟩ = some (.int .i64 a0_2) ∧ w37.cell? ⟨gb218, 3, none⟩ = some (.int .i64 a0_3) ∧ w37.cell? ⟨gb218, 4, none⟩ = some (.int .i64 a0_4) := hS_
                obtain ⟨Ao39, co39, eo39⟩ := Kd.R_slice HO228.out
                (first | subst eo39 | (injection eo39 with f1_ f2_ f3_; have f4_ := f1_.symm; have f5_ := f3_.symm; clear f1_ f2_ f3_; subst f4_; subst f5_))
                refine norm_ (a' := ?_) ?_ ?_
                rotate_left
                · simp only [putAll, Act.put, List.setIfInBounds_toArray, List.set_cons_zero, List.set_cons_succ]
                  rfl
                refine one_ (i := 8) (N := some 39) #[true, true, true, true, true, true, true, true, true, false, false, false, false, false, false] rfl rfl (one_of HT_.out (by kernel_rfl)) (by decide) (fun K hK => ?_)
                refine Kd.R_append_rows_step (Kd.int .i64) (w0 := w0) w0.heap.size (by rfl) (.tmp 36) (.tmp 38) 25 3 (.int .i64 0) 8 rfl Tryd.underlying25 info3 rfl (by decide) (by omega) v224 y223 y226 _ _ _ (fun k_ => (P3_ k_ ∨ w.heap.size ≤ k_) ∧ some k_ ≠ (.slice Ao12 l3.length co12 : Value).ownBlock ∧ some k_ ≠ (.slice Ao39 y226.length co39 : Value).ownBlock) (fun _ => False) rfl rfl ?aO ?aR (fun _ _ h => h) (fun _ h => h.elim) ?aF ?aB ?aS ?aL ?_
                (case aR => repeat (first | exact (Kd.R_reads' HO228.out).2.2 | (with_reducible refine Kd.C_alloc ?_ _) | (with_reducible refine Kd.C_drewN ?_ _) | (with_reducible refine Kd.C_drew ?_)))
                (case aB => exact (by repeat (first | (with_reducible first | exact HB.out | apply below_alloc | apply pw_below_drewN | apply below_drew1 | refine below_set ?_ GE218.out) | exact HB.out)))
                (case aF => exact (fun k_ hk => ⟨(.inr (Nat.le_trans (by first | exact HK.out.1 | exact (show Kept w _ (fun k_ => P3_ k_) from by repeat (first | (with_reducible first | exact HK.out | apply Kept.alloc | apply Kept.drewN | apply Kept.drew | refine Kept.setCell ?_ (.inr GW218.out) _) | exact HK.out)).1) hk)), Kd.fresh' (Kd.R_lt (by (with_reducible repeat (first | apply Kd.R_alloc | apply Kd.R_drewN | apply Kd.R_drew)); exact HO_3.out)) k_ hk, Kd.fresh' (Kd.R_lt (by (with_reducible repeat (first | apply Kd.R_alloc | apply Kd.R_drewN | apply Kd.R_drew)); exact HO228.out)) k_ hk⟩))
                (case aO => exact (by (with_reducible repeat (first | apply Kd.R_alloc | apply Kd.R_drewN | apply Kd.R_drew)); exact Kd.R_mono HO225.out (fun _ hk => ⟨hk.1, ⟨hk.2.2, hk.2.1⟩⟩)))
                (case aS => exact (below_size (by repeat (first | (with_reducible first | exact HB.out | apply below_alloc | apply pw_below_drewN | apply below_drew1 | refine below_set ?_ GE218.out) | exact HB.out))))
                (case aL => have := LMc15.out; omega)
                intro v230 w38 ho hb hg hat
                rw [← Ny229.out] at ho
                have n0_ := Aside0.mk (Kd.R_after (ok := (fun k_ => (P3_ k_ ∨ w.heap.size ≤ k_) ∧ some k_ ≠ (.slice Ao39 y226.length co39 : Value).ownBlock)) (by (with_reducible repeat (first | apply Kd.R_alloc | apply Kd.R_drewN | apply Kd.R_drew)); exact Kd.R_mono HO_3.out (fun _ hk => ⟨⟨hk.1, hk.2.2⟩, hk.2.1⟩)) hg hat)
                have n1_ := Aside0.mk (blk_grown (g := gb218) (o := .cells #[.int .i64 a0_0, .int .i64 a0_1, .int .i64 a0_2, .int .i64 a0_3, .int .i64 a0_4] 23 (0, 0)) (by (with_reducible repeat (first | refine blk_drewN ?_ _ | refine blk_drew ?_ | refine blk_alloc ?_ _)); exact BK218.out) hg (Kd.R_ne HO225.out BK218.out (by decide)))
                have n2_ := Aside0.mk (Kd.R_after (ok := (fun k_ => (P3_ k_ ∨ w.heap.size ≤ k_) ∧ some k_ ≠ (.slice Ao12 l3.length co12 : Value).ownBlock)) (by (with_reducible repeat (first | apply Kd.R_alloc | apply Kd.R_drewN | apply Kd.R_drew)); exact Kd.R_mono HO228.out (fun _ hk => ⟨⟨hk.1, hk.2.2⟩, hk.2.1⟩)) hg hat)
                have n3_ := Aside0.mk (hb)
                have n4_ := Aside0.mk (Kept.of_grown (S := (fun k_ => P3_ k_)) hg (by repeat (first | (with_reducible first | exact HK.out | apply Kept.alloc | apply Kept.drewN | apply Kept.drew | refine Kept.setCell ?_ (.inr GW218.out) _) | exact HK.out)) (fun k_ e_ => (HO225.out.1 k_ e_).1))
                have n5_ := Aside0.mk (ho)
                clear HO_3
                clear BK218
                clear HO228
                clear HB
                clear HK
                clear HO225
                have HO_3 := n0_
                have BK218 := n1_
                have HO228 := n2_
                have HB := n3_
                have HK := n4_
                have HO231 := n5_
                clear n0_ n1_ n2_ n3_ n4_ n5_
                clear ho hb hg hat
                obtain ⟨Ao40, co40, eo40⟩ := Kd.R_slice HO231.out
                (first | subst eo40 | (injection eo40 with f1_ f2_ f3_; have f4_ := f1_.symm; have f5_ := f3_.symm; clear f1_ f2_ f3_; subst f4_; subst f5_))
                refine hK.out _ _ ⟨(blk_cell BK218.out 0).trans rfl, (blk_cell BK218.out 1).trans rfl, (blk_cell BK218.out 2).trans rfl, (blk_cell BK218.out 3).trans rfl, (blk_cell BK218.out 4).trans rfl⟩ (fun hHeld => ?_)
                clear hK K
                refine norm_ (a' := ?_) ?_ ?_
                rotate_left
                · show Act.put _ (some 39) _ = _
                  simp only [Act.put, List.setIfInBounds_toArray, List.set_cons_zero, List.set_cons_succ, i64_w, i32_w]
                  rfl
                refine one_ (i := 9) (N := some 40) #[true, true, true, true, true, true, true, true, true, true, false, false, false, false, false] rfl rfl (one_of HT_.out (by kernel_rfl)) (by decide) (fun K hK => ?_)
                refine goes_ Tryd.func25 (by kernel_rfl) rfl #[.agg #[.int .i64 a0_0, .int .i64 a0_1, .int .i64 a0_2, .int .i64 a0_3, .int .i64 a0_4], .slice A1 l1.length c1, .slice A2 l2.length c2, .slice Ao40 y229.length co40] (by rfl) rfl rfl (by (try simp only [List.map_toArray, List.map_cons, List.map_nil]); first | done | rfl | (simp only [List.length_drop, List.length_take]; rfl)) ?_
                with_reducible refine (ih k1 (by have := HK1.out; omega) a0_0 a0_1 a0_2 a0_3 a0_4 _ _ l1 _ _ l2 (fun k_ => some k_ = (.slice Ao40 y229.length co40 : Value).ownBlock) (.slice Ao40 y229.length co40) y229 t232 false w0 _ ?side1 ?side2 ?side3 ?side4 ?side5 ?side6 A16.out).mono ?_
                (case side1 => repeat (first | (with_reducible first | exact HB.out | apply below_alloc | apply pw_below_drewN | apply below_drew1 | refine below_set ?_ GE218.out) | exact HB.out))
                (case side2 => exact Kd.C_kept_call HR1.out (by repeat (first | (with_reducible first | exact HK.out | apply Kept.alloc | apply Kept.drewN | apply Kept.drew | refine Kept.setCell ?_ (.inr GW218.out) _) | exact HK.out)) (fun k_ hs_ => (fun e_ => (HO231.out.1 k_ e_.symm).1) hs_))
                (case side3 => exact HC1.out)
                (case side4 => exact Kd.C_kept_call HR2.out (by repeat (first | (with_reducible first | exact HK.out | apply Kept.alloc | apply Kept.drewN | apply Kept.drew | refine Kept.setCell ?_ (.inr GW218.out) _) | exact HK.out)) (fun k_ hs_ => (fun e_ => (HO231.out.1 k_ e_.symm).1) hs_))
                (case side5 => exact HC2.out)
                (case side6 => exact Kd.R_tight rfl HO231.out)
                rintro e w41 ⟨v233, rfl, ho0, hb, hkp⟩
                refine ⟨_, rfl, ?_⟩
                have n0_ := Aside0.mk (Kd.R_mono (ok' := fun k_ => (P3_ k_ ∨ w.heap.size ≤ k_) ∧ some k_ ≠ (.slice Ao39 y226.length co39 : Value).ownBlock ∧ some k_ ≠ (v233 : Value).ownBlock) (Kd.R_keptB (HO_3.out) hkp (fun k_ hk_ hs_ => (hk_.2) hs_)) (fun k_ hk_ => ⟨hk_.1.1.1, hk_.1.1.2, fun e_ => Or.elim (ho0.1 k_ e_.symm) (fun hs_ => hk_.2.1 hs_) (fun hn_ => Nat.not_le.2 hk_.2.2 hn_)⟩))
                have n1_ := Aside0.mk (blk_kept (by (with_reducible repeat (first | refine blk_drewN ?_ _ | refine blk_drew ?_ | refine blk_alloc ?_ _)); exact BK218.out) hkp (fun hs_ => (fun e_ => (Kd.R_ne HO231.out BK218.out (by decide)) e_) hs_))
                have n2_ := Aside0.mk (Kd.R_mono (ok' := fun k_ => (P3_ k_ ∨ w.heap.size ≤ k_) ∧ some k_ ≠ (.slice Ao12 l3.length co12 : Value).ownBlock ∧ some k_ ≠ (v233 : Value).ownBlock) (Kd.R_keptB (HO228.out) hkp (fun k_ hk_ hs_ => (hk_.2) hs_)) (fun k_ hk_ => ⟨hk_.1.1.1, hk_.1.1.2, fun e_ => Or.elim (ho0.1 k_ e_.symm) (fun hs_ => hk_.2.1 hs_) (fun hn_ => Nat.not_le.2 hk_.2.2 hn_)⟩))
                have n3_ := Aside0.mk (Kd.R_mono (ok' := fun k_ => (P3_ k_ ∨ w.heap.size ≤ k_) ∧ some k_ ≠ (.slice Ao12 l3.length co12 : Value).ownBlock ∧ some k_ ≠ (.slice Ao39 y226.length co39 : Value).ownBlock) ho0 (fun k_ hk_ => ⟨Or.elim hk_ (fun hs_ => (HO231.out.1 k_ (hs_).symm).1) (fun hn_ => (.inr (Nat.le_trans (by first | exact HK.out.1 | exact (show Kept w _ (fun k_ => P3_ k_) from by repeat (first | (with_reducible first | exact HK.out | apply Kept.alloc | apply Kept.drewN | apply Kept.drew | refine Kept.setCell ?_ (.inr GW218.out) _) | exact HK.out)).1) hn_))), Or.elim hk_ (fun hs_ => fun e_ => (((HO_3.out).1 k_ e_.symm).2) hs_) (fun hn_ => (Kd.fresh' (Kd.R_lt (by (with_reducible repeat (first | apply Kd.R_alloc | apply Kd.R_drewN | apply Kd.R_drew)); exact HO_3.out)) k_ hn_)), Or.elim hk_ (fun hs_ => fun e_ => (((HO228.out).1 k_ e_.symm).2) hs_) (fun hn_ => (Kd.fresh' (Kd.R_lt (by (with_reducible repeat (first | apply Kd.R_alloc | apply Kd.R_drewN | apply Kd.R_drew)); exact HO228.out)) k_ hn_))⟩))
                have n4_ := Aside0.mk (Kept.then_ (S := (fun k_ => P3_ k_)) (by repeat (first | (with_reducible first | exact HK.out | apply Kept.alloc | apply Kept.drewN | apply Kept.drew | refine Kept.setCell ?_ (.inr GW218.out) _) | exact HK.out)) hkp (fun k_ hs_ => (fun e_ => (HO231.out.1 k_ e_.symm).1) hs_))
                have n5_ := Aside0.mk (hb)
                clear HO_3
                clear BK218
                clear HO228
                clear HK
                clear HB
                clear HO231
                have HO_3 := n0_
                have BK218 := n1_
                have HO228 := n2_
                have HO234 := n3_
                have HK := n4_
                have HB := n5_
                clear n0_ n1_ n2_ n3_ n4_ n5_
                (try clear hb)
                (try clear hkp)
                (try clear ho0)
                refine hK.out _ _ ⟨(blk_cell BK218.out 0).trans rfl, (blk_cell BK218.out 1).trans rfl, (blk_cell BK218.out 2).trans rfl, (blk_cell BK218.out 3).trans rfl, (blk_cell BK218.out 4).trans rfl⟩ (fun hHeld => ?_)
                clear hK K
                refine norm_ (a' := ?_) ?_ ?_
                rotate_left
                · show Act.put _ (some 40) _ = _
                  simp only [Act.put, List.setIfInBounds_toArray, List.set_cons_zero, List.set_cons_succ, i64_w, i32_w]
                  rfl
                refine pure_ (i := 10) (N := some 30) (v := ?_) (a' := ?_) #[true, true, true, true, true, true, true, true, true, true, true, false, false, false, false] rfl rfl (any_of HT_.out (by kernel_rfl)) (fun _ _ _ h => h) (Or.inl ⟨by rfl, ?_⟩) ?_ ?_
                rotate_left
                · intro w'
                  go_simp
                  with_reducible rfl
                rotate_left
                · simp only [Act.put, List.setIfInBounds_toArray, List.set_cons_zero, List.set_cons_succ, i64_w, i32_w]
                  rfl
                refine pure_ (i := 11) (N := some 41) (v := ?_) (a' := ?_) #[true, true, true, true, true, true, true, true, true, true, true, true, false, false, false] rfl rfl (any_of HT_.out (by kernel_rfl)) (fun _ _ _ h => h) (Or.inl ⟨by rfl, ?_⟩) ?_ ?_
                rotate_left
                · intro w'
                  go_simp
                  with_reducible rfl
                rotate_left
                · simp only [Act.put, List.setIfInBounds_toArray, List.set_cons_zero, List.set_cons_succ, i64_w, i32_w]
                  rfl
                refine pure_ (i := 12) (N := some 42) (v := ?_) (a' := ?_) #[true, true, true, true, true, true, true, true, true, true, true, true, true, false, false] rfl rfl (any_of HT_.out (by kernel_rfl)) (fun _ _ _ h => h) (Or.inl ⟨by rfl, ?_⟩) ?_ ?_
                rotate_left
                · intro w'
                  go_simp
                  with_reducible rfl
                rotate_left
                · simp only [Act.put, List.setIfInBounds_toArray, List.set_cons_zero, List.set_cons_succ, i64_w, i32_w]
                  rfl
                refine pure_ (i := 13) (N := some 11) (v := ?_) (a' := ?_) #[true, true, true, true, true, true, true, true, true, true, true, true, true, true, false] rfl rfl (any_of HT_.out (by kernel_rfl)) (fun _ _ _ h => h) (Or.inl ⟨by rfl, ?_⟩) ?_ ?_
                rotate_left
                · intro w'
                  go_simp
                  with_reducible rfl
                rotate_left
                · simp only [Act.put, List.setIfInBounds_toArray, List.set_cons_zero, List.set_cons_succ, i64_w, i32_w]
                  rfl
                refine pure_ (i := 14) (N := some 12) (v := ?_) (a' := ?_) #[true, true, true, true, true, true, true, true, true, true, true, true, true, true, true] rfl rfl (any_of HT_.out (by kernel_rfl)) (fun _ _ _ h => h) (Or.inl ⟨by rfl, ?_⟩) ?_ ?_
                rotate_left
                · intro w'
                  go_simp
                  with_reducible rfl
                rotate_left
                · simp only [Act.put, List.setIfInBounds_toArray, List.set_cons_zero, List.set_cons_succ, i64_w, i32_w]
                  rfl
                refine done_ (done_of HT_.out (by kernel_rfl)) ?_
                try go_wp2
                go_roundg k1
                case measure => have := HK1.out; omega
                case rel => exact ⟨(wrap64 (x10_1 + 1)), (by first | rfl | (simp; done) | (simp [*]; done)), H', ⟨by have := HK1.out; omega⟩, ⟨by (with_reducible repeat (first | apply Kd.R_alloc | apply Kd.R_drewN | apply Kd.R_drew)); exact Kd.R_mono HO_3.out (fun _ hk => hk.1)⟩, ⟨by (with_reducible repeat (first | refine blk_drewN ?_ _ | refine blk_drew ?_ | refine blk_alloc ?_ _)); exact BK218.out⟩, ⟨by repeat (first | (with_reducible first | exact HK.out | apply Kept.alloc | apply Kept.drewN | apply Kept.drew | refine Kept.setCell ?_ (.inr GW218.out) _) | exact HK.out)⟩, ⟨by repeat (first | (with_reducible first | exact HB.out | apply below_alloc | apply pw_below_drewN | apply below_drew1 | refine below_set ?_ GE218.out) | exact HB.out)⟩⟩
            · rw [if_neg c15] at H
              exact absurd H (by simp)
          · rw [if_neg c14] at H
            exact absurd H (by simp)
        · rw [if_neg c13] at H
          have c13b0 : decide (x10_1 < a0_0) = false := decide_eq_false c13
          clear c13
          simp only [Option.some.injEq, Prod.mk.injEq] at H
          obtain ⟨rfl, rfl⟩ := H
          have hcz42_0 : wr.cell? ⟨gb218, 0, none⟩ = some (.int .i64 a0_0) := (blk_cell BK218.out 0).trans rfl
          have hcz42_1 : wr.cell? ⟨gb218, 1, none⟩ = some (.int .i64 a0_1) := (blk_cell BK218.out 1).trans rfl
          have hcz42_2 : wr.cell? ⟨gb218, 2, none⟩ = some (.int .i64 a0_2) := (blk_cell BK218.out 2).trans rfl
          have hcz42_3 : wr.cell? ⟨gb218, 3, none⟩ = some (.int .i64 a0_3) := (blk_cell BK218.out 3).trans rfl
          have hcz42_4 : wr.cell? ⟨gb218, 4, none⟩ = some (.int .i64 a0_4) := (blk_cell BK218.out 4).trans rfl
          have hfz42_0 := blk_frozen BK218.out 0
          have hfz42_1 := blk_frozen BK218.out 1
          have hfz42_2 := blk_frozen BK218.out 2
          have hfz42_3 := blk_frozen BK218.out 3
          have hfz42_4 := blk_frozen BK218.out 4
          go_wp2
          go_ret2
          exact ⟨_, by first | rfl | (simp [errW_none, errW_some] <;> rfl) | (simp [*, errW_none, errW_some] <;> rfl), by first | exact Kd.R_nil _ _ _ _ _ | exact Kd.N_nil _ _ _ _ _ | exact Kd.V_nil _ _ _ _ _ | exact Kd.Q_nil _ _ _ _ _ | exact Kd.S_nil _ _ _ _ _, by repeat (first | (with_reducible first | exact HB.out | apply below_alloc | apply pw_below_drewN | apply below_drew1 | refine below_set ?_ GE218.out) | exact HB.out), by repeat (first | (with_reducible first | exact HK.out | apply Kept.alloc | apply Kept.drewN | apply Kept.drew | refine Kept.setCell ?_ (.inr GW218.out) _) | exact HK.out)⟩
end Go.Proofs.YtbijamlgcebgeaaDoor.Q

-- part IP
namespace Go.Proofs.YtbijamlgcebgeaaDoor.Hand
open Go.RowKit Go.Shelf Go.Sort Go.Proofs.YtbijamlgcebgeaaDoorW.PrintWords Go.Proofs.YtbijamlgcebgeaaDoorW.PrintMore Go.Proofs.YtbijamlgcebgeaaDoor.Q
attribute [local go_sem] max2_mx min2_mn max_two min_two
def refAt (l : List S74) (load : List Int) (k : Nat) : S74 := rd_T74 l (rd load k)
def refWeightK (l : List S74) (load : List Int) (k : Nat) : Int × Int := (List.range k).foldl (fun (s : Int × Int) (j : Nat) => (s.1 + (refAt l load j).f2.f0, s.2 + (refAt l load j).f2.f1)) (0, 0)
theorem refWeightK_succ (l : List S74) (load : List Int) (k : Nat) : refWeightK l load (k + 1) = ((refWeightK l load k).1 + (refAt l load k).f2.f0, (refWeightK l load k).2 + (refAt l load k).f2.f1) := by simp [refWeightK, List.range_succ]
/-- Sign i is about as high as the first j. -/
def refNear1 (l : List S74) (load : List Int) (e : Int) (i j : Nat) : Bool := (List.range j).all fun k => decide (mx ((refAt l load i).f1 - (refAt l load k).f1) ((refAt l load k).f1 - (refAt l load i).f1) ≤ e)
def refNearK (l : List S74) (load : List Int) (e : Int) (k : Nat) : Bool := (List.range k).all fun i => refNear1 l load e i i
theorem refNear1_succ (l : List S74) (load : List Int) (e : Int) (i j : Nat) : refNear1 l load e i (j + 1) = (refNear1 l load e i j && decide (mx ((refAt l load i).f1 - (refAt l load j).f1) ((refAt l load j).f1 - (refAt l load i).f1) ≤ e)) := by simp [refNear1, List.range_succ]
theorem refNearK_succ (l : List S74) (load : List Int) (e : Int) (k : Nat) : refNearK l load e (k + 1) = (refNearK l load e k && refNear1 l load e k k) := by simp [refNearK, List.range_succ]
theorem refNear1_le (l : List S74) (load : List Int) (e : Int) (i : Nat) {k n : Nat} (hk : k ≤ n) (h : refNear1 l load e i k = false) : refNear1 l load e i n = false := by
  unfold refNear1 at *
  rw [List.all_eq_false] at *
  obtain ⟨x, hx, hp⟩ := h
  exact ⟨x, List.mem_range.2 (Nat.lt_of_lt_of_le (List.mem_range.1 hx) hk), hp⟩
theorem refNearK_le (l : List S74) (load : List Int) (e : Int) {k n : Nat} (hk : k ≤ n) (h : refNearK l load e k = false) : refNearK l load e n = false := by
  unfold refNearK at *
  rw [List.all_eq_false] at *
  obtain ⟨x, hx, hp⟩ := h
  exact ⟨x, List.mem_range.2 (Nat.lt_of_lt_of_le (List.mem_range.1 hx) hk), hp⟩
/-- What the reference's Goes returns, where Bars says ok. -/
def refGoesR (d e : Int) (l : List S74) (load : List Int) (ok : Bool) : Bool × Bool :=
  if refNearK l load e load.length = true then ((refHeatR l load).2.2 && ok && decide ((refWeightK l load load.length).2 ≤ d), (refHeatR l load).2.2 && ok && decide ((refWeightK l load load.length).1 ≤ d)) else (false, false)
theorem refWeight_bd (l : List S74) (load : List Int) (hb : ∀ x ∈ l, (1 ≤ x.f2.f0 ∧ x.f2.f0 ≤ x.f2.f1 ∧ x.f2.f1 ≤ 500)) (hv : ∀ j : Nat, j < load.length → 0 ≤ rd load j ∧ rd load j < l.length) : ∀ k, k ≤ load.length → 0 ≤ (refWeightK l load k).1 ∧ (refWeightK l load k).1 ≤ 500 * k ∧ 0 ≤ (refWeightK l load k).2 ∧ (refWeightK l load k).2 ≤ 500 * k := by
  intro k
  induction k with
  | zero => intro _; simp [refWeightK]
  | succ k ih =>
    intro hk
    have h1 := ih (by omega)
    have h2 := hv k (by omega)
    have h3 : refAt l load k ∈ l := by
      unfold refAt
      obtain ⟨i, hi⟩ : ∃ i : Nat, rd load k = i := ⟨(rd load k).toNat, by omega⟩
      rw [hi]
      exact rd_mem (by omega)
    have h4 := hb _ h3
    rw [refWeightK_succ]
    simp only
    omega
set_option maxRecDepth 100000 in
set_option maxHeartbeats 2000000 in
theorem refgoes_calls (K : Nat) (a b c d e : Int) (l : List S74) (load : List Int) (A1 A2 : Option Addr) (c1 c2 : Nat) (hc1 : l.length ≤ c1) (hc2 : load.length ≤ c2) (w : World) (hr1 : Kd.C k74 w A1 l.length l) (hr2 : Kd.C (Kd.int .i64) w A2 load.length load) (hlen : load.length ≤ 1000)
    (hv : ∀ j : Nat, j < load.length → 0 ≤ rd load j ∧ rd load j < l.length) (hbd : ∀ x ∈ l, (1 ≤ x.f1 ∧ x.f1 ≤ 100) ∧ (1 ≤ x.f2.f0 ∧ x.f2.f0 ≤ x.f2.f1 ∧ x.f2.f1 ≤ 500)) (r1 : List Int) (r2 : Bool)
    (hB : refNearK l load e load.length = true → smaltoref03_Bars.f K a b c d e l load [] = some (r1, r2)) :
    Calls Tryd.prog 24 #[.agg #[.int .i64 a, .int .i64 b, .int .i64 c, .int .i64 d, .int .i64 e], .slice A1 l.length c1, .slice A2 load.length c2] w fun e_ w' => e_ = .returned (.tuple #[.bool (refGoesR d e l load r2).1, .bool (refGoesR d e l load r2).2]) ∧ Below w.heap.size w w' := by
  obtain ⟨q, hq⟩ : ∃ q, refGoesR d e l load r2 = q := ⟨_, rfl⟩
  obtain ⟨q1, q2⟩ := q
  rw [hq]
  have Hq := Lib.hid hq
  have Hv := Lib.hid hv
  have Hbd := Lib.hid hbd
  have HB := Lib.hid hB
  have hwb := Lib.hid (refWeight_bd l load (fun x hx => (hbd x hx).2) hv)
  clear hq hv hbd hB
  go_enter Tryd.func24, Tryd.ntmps24
  go_wp2
  go_loopw [9] (fun i W => ∃ k : Nat, k ≤ load.length ∧ i = .int .i64 k ∧ Box W w.heap.size #[.int .i64 a, .int .i64 b, .int .i64 c, .int .i64 d, .int .i64 e] 23 ∧ Box W (w.heap.size + 1) #[.int .i64 (refWeightK l load k).1, .int .i64 (refWeightK l load k).2] 36 ∧ Below w.heap.size w W ∧ Hid (refNearK l load e k = true)) (fun i _ => load.length - (intOf i).toNat)
  case atStart => exact ⟨0, Nat.zero_le _, rfl, (Box.new _ _ _).alloc _, Box.new' _ _ _ (by simp), ((Below.refl _ _).alloc (Nat.le_refl _) _).alloc (by simp) _, Lib.hid rfl⟩
  case round =>
    obtain ⟨k, hk, rfl, x3, x8, hbl, hnr⟩ := hrel
    by_cases hlt : k < load.length
    · obtain ⟨al, e1, s1⟩ := Kd.at_int (Kd.C_below hr2 hbl) k (by omega) (by omega)
      subst e1
      rw [Int.toNat_natCast] at s1
      have hra : refAt l load k = rd_T74 l (rd load k) := rfl
      obtain ⟨i, hi⟩ : ∃ i, rd load k = i := ⟨_, rfl⟩
      obtain ⟨v1, v2⟩ := Hv.out k hlt
      rw [hi] at s1 v1 v2 hra
      obtain ⟨i, rfl⟩ : ∃ n : Nat, i = n := ⟨i.toNat, by omega⟩
      obtain ⟨ad, e2, g0, g1, g2, g3, g4, g5⟩ := at_T74 (Kd.C_below hr1 hbl) i (by omega) (by omega)
      subst e2
      rw [Int.toNat_natCast] at g0 g1 g2 g3 g4 g5
      rw [← hra] at g0 g1 g2 g3 g4 g5
      have hbk := (Hbd.out (refAt l load k) (by rw [hra]; exact rd_mem (by omega))).1
      clear hra hi
      have hsw := Lib.hid (refWeightK_succ l load k)
      have hws := Lib.hid (hwb.out k hk)
      have hws' := Lib.hid (hwb.out (k + 1) (by omega))
      obtain ⟨s, hs⟩ : ∃ v, refAt l load k = v := ⟨_, rfl⟩
      have Hs := Lib.hid hs
      rw [hs] at g0 g1 g2 g3 g4 g5 hsw hbk
      clear hs
      obtain ⟨p0, hp0⟩ : ∃ v, (refWeightK l load k).1 = v := ⟨_, rfl⟩
      obtain ⟨q0, hq0⟩ : ∃ v, (refWeightK l load k).2 = v := ⟨_, rfl⟩
      rw [hp0, hq0] at x8 hsw hws
      clear hp0 hq0
      have hsz := hbl.size
      obtain ⟨wq, hwq⟩ : ∃ v, wr.alloc (.cells #[.int .i64 s.f0, .int .i64 s.f1, .int .i64 s.f2.f0, .int .i64 s.f2.f1, .int .i64 s.f3.f0, .int .i64 s.f3.f1] 74) = v := ⟨_, rfl⟩
      have z10 : Box wq wr.heap.size #[.int .i64 s.f0, .int .i64 s.f1, .int .i64 s.f2.f0, .int .i64 s.f2.f1, .int .i64 s.f3.f0, .int .i64 s.f3.f1] 74 := hwq ▸ Box.new _ _ _
      have z3 : Box wq w.heap.size #[.int .i64 a, .int .i64 b, .int .i64 c, .int .i64 d, .int .i64 e] 23 := hwq ▸ x3.alloc _
      have z8 : Box wq (w.heap.size + 1) #[.int .i64 p0, .int .i64 q0] 36 := hwq ▸ x8.alloc _
      have zbl : Below w.heap.size w wq := hwq ▸ hbl.alloc (by omega) _
      obtain ⟨B, hB⟩ : ∃ B, wr.heap.size = B := ⟨_, rfl⟩
      have h2 := x8.lt
      rw [hB] at h2 z10
      have d0 : wq.cell? ⟨w.heap.size + 1, 0, none⟩ = some (.int .i64 p0) := z8.cell 0 rfl
      have d1 : wq.cell? ⟨w.heap.size + 1, 1, none⟩ = some (.int .i64 q0) := z8.cell 1 rfl
      have d2 : wq.cell? ⟨B, 2, none⟩ = some (.int .i64 s.f2.f0) := z10.cell 2 rfl
      have d3 : wq.cell? ⟨B, 3, none⟩ = some (.int .i64 s.f2.f1) := z10.cell 3 rfl
      have f0 : wq.frozen? ⟨w.heap.size + 1, 0, none⟩ = false := z8.frozen 0
      have f1 : wq.frozen? ⟨w.heap.size + 1, 1, none⟩ = false := z8.frozen 1
      have d3s : ∀ u, (wq.setCell ⟨w.heap.size + 1, 0, none⟩ u).cell? ⟨B, 3, none⟩ = some (.int .i64 s.f2.f1) := fun u => (World.cell?_of_block (w := wq) (Below.heap_setCell wq ⟨w.heap.size + 1, 0, none⟩ u _ (by show B ≠ w.heap.size + 1; omega))).trans d3
      go_wp2
      clear hwq
      refine wp_region_ssaT 13 14 [0, 0, 0, 0, 0, 0, 0, 0, 1, 1, 1, 1, 0] [wq.drew.setCell ⟨w.heap.size + 1, 0, none⟩ (.int .i64 (p0 + s.f2.f0))] (by kernel_rfl) (by decide) (by kernel_rfl) (by kernel_rfl) (by kernel_rfl) ?_
      simp only [List.take_succ_cons, List.take_zero, List.drop_succ_cons, List.drop_zero, List.zip_cons_cons, List.zip_nil_left, List.zip_nil_right, Nat.reduceSub]
      have W1 := hws.out
      have W2 := hws'.out
      rw [hsw.out] at W2
      simp only at W1 W2
      clear hws hws'
      iterate 8 (refine ssa_step (fun K hK => ?_); simp only [wsF_zero]; go_simp; refine hK _ _ (fun s h1 h2 => absurd h1 (by omega)) ?_; clear hK K)
      iterate 4 (refine ssa_step (fun K hK => ?_); simp only [wsF_zero]; go_simp; refine hK _ _ (fun s h1 h2 K2 hK2 => ?_) ?_; (focus (have hs := Nat.le_antisymm h2 h1; subst hs; simp only [wsF_one]; go_simp; exact hK2)); clear hK K)
      (refine ssa_step (fun K hK => ?_); simp only [wsF_zero]; go_simp; refine hK _ _ (fun s h1 h2 => absurd h1 (by omega)) ?_; clear hK K)
      refine ⟨⟨⟨rfl, ?_⟩, trivial⟩, ?_⟩
      · go_simp
        rw [show IntKind.i64.wrap (p0 + s.f2.f0) = p0 + s.f2.f0 by simp [IntKind.wrap, IntKind.bits, IntKind.signed]; omega]
      simp only [wsF_one]
      have y3 := (z3.other (b' := w.heap.size + 1) (by omega) 0 (.int .i64 (p0 + s.f2.f0))).other (b' := w.heap.size + 1) (by omega) 1 (.int .i64 (q0 + s.f2.f1))
      have y10 := (z10.other (b' := w.heap.size + 1) (by omega) 0 (.int .i64 (p0 + s.f2.f0))).other (b' := w.heap.size + 1) (by omega) 1 (.int .i64 (q0 + s.f2.f1))
      have y8 := (z8.set 0 (.int .i64 (p0 + s.f2.f0))).set 1 (.int .i64 (q0 + s.f2.f1))
      have ybl := ((zbl.setCell (p := ⟨w.heap.size + 1, 0, none⟩) (by simp) (.int .i64 (p0 + s.f2.f0))).setCell (p := ⟨w.heap.size + 1, 1, none⟩) (by simp) (.int .i64 (q0 + s.f2.f1))).drew
      go_wp2
      go_loopw [11] (fun i W => ∃ j : Nat, j ≤ k ∧ i = .int .i64 j ∧ Box W w.heap.size #[.int .i64 a, .int .i64 b, .int .i64 c, .int .i64 d, .int .i64 e] 23 ∧ Box W (w.heap.size + 1) #[.int .i64 (refWeightK l load (k + 1)).1, .int .i64 (refWeightK l load (k + 1)).2] 36 ∧ Box W B #[.int .i64 s.f0, .int .i64 s.f1, .int .i64 s.f2.f0, .int .i64 s.f2.f1, .int .i64 s.f3.f0, .int .i64 s.f3.f1] 74 ∧ Below w.heap.size w W ∧ Hid (refNear1 l load e k j = true)) (fun i _ => k - (intOf i).toNat)
      case atStart => exact ⟨0, Nat.zero_le _, rfl, y3.drew, by rw [hsw.out]; exact y8.drew, y10.drew, ybl, Lib.hid rfl⟩
      case round =>
        obtain ⟨j, hj, rfl, t3, t8, t10, tbl, hnj⟩ := hrel
        by_cases hjk : j < k
        · obtain ⟨al', e3, s3⟩ := Kd.at_int (Kd.C_below hr2 tbl) j (by omega) (by omega)
          cases e3
          rw [Int.toNat_natCast] at s3
          have hra : refAt l load j = rd_T74 l (rd load j) := rfl
          obtain ⟨u, hu⟩ : ∃ u, rd load j = u := ⟨_, rfl⟩
          obtain ⟨v1', v2'⟩ := Hv.out j (by omega)
          rw [hu] at s3 v1' v2' hra
          obtain ⟨u, rfl⟩ : ∃ n : Nat, u = n := ⟨u.toNat, by omega⟩
          obtain ⟨ad', e4, k0, k1, k2, k3, k4, k5⟩ := at_T74 (Kd.C_below hr1 tbl) u (by omega) (by omega)
          cases e4
          rw [Int.toNat_natCast] at k0 k1 k2 k3 k4 k5
          rw [← hra] at k0 k1 k2 k3 k4 k5
          have hbj := (Hbd.out (refAt l load j) (by rw [hra]; exact rd_mem (by omega))).1
          clear hra hu
          have hn1 := Lib.hid (refNear1_succ l load e k j)
          rw [Hs.out] at hn1
          obtain ⟨s', hs'⟩ : ∃ v, refAt l load j = v := ⟨_, rfl⟩
          rw [hs'] at k0 k1 k2 k3 k4 k5 hn1 hbj
          clear hs'
          obtain ⟨wp, hwp⟩ : ∃ v, wr.alloc (.cells #[.int .i64 s'.f0, .int .i64 s'.f1, .int .i64 s'.f2.f0, .int .i64 s'.f2.f1, .int .i64 s'.f3.f0, .int .i64 s'.f3.f1] 74) = v := ⟨_, rfl⟩
          have q12 : Box wp wr.heap.size #[.int .i64 s'.f0, .int .i64 s'.f1, .int .i64 s'.f2.f0, .int .i64 s'.f2.f1, .int .i64 s'.f3.f0, .int .i64 s'.f3.f1] 74 := hwp ▸ Box.new _ _ _
          have q3 := hwp ▸ t3.alloc (.cells #[.int .i64 s'.f0, .int .i64 s'.f1, .int .i64 s'.f2.f0, .int .i64 s'.f2.f1, .int .i64 s'.f3.f0, .int .i64 s'.f3.f1] 74)
          have q8 := hwp ▸ t8.alloc (.cells #[.int .i64 s'.f0, .int .i64 s'.f1, .int .i64 s'.f2.f0, .int .i64 s'.f2.f1, .int .i64 s'.f3.f0, .int .i64 s'.f3.f1] 74)
          have q10 := hwp ▸ t10.alloc (.cells #[.int .i64 s'.f0, .int .i64 s'.f1, .int .i64 s'.f2.f0, .int .i64 s'.f2.f1, .int .i64 s'.f3.f0, .int .i64 s'.f3.f1] 74)
          have qbl : Below w.heap.size w wp := hwp ▸ tbl.alloc (by have := t3.lt; omega) _
          obtain ⟨C, hC⟩ : ∃ C, wr.heap.size = C := ⟨_, rfl⟩
          rw [hC] at q12
          have e12 : wp.cell? ⟨C, 1, none⟩ = some (.int .i64 s'.f1) := q12.cell 1 rfl
          have e10 : wp.cell? ⟨B, 1, none⟩ = some (.int .i64 s.f1) := q10.cell 1 rfl
          have e3 : wp.cell? ⟨w.heap.size, 4, none⟩ = some (.int .i64 e) := q3.cell 4 rfl
          go_wp2
          · rename_i hcm
            have hf : refNear1 l load e k (j + 1) = false := by rw [hn1.out]; simp; omega
            have hf2 := refNear1_le l load e k (show j + 1 ≤ k by omega) hf
            have hf3 : refNearK l load e (k + 1) = false := by rw [refNearK_succ, hf2]; simp
            have hf4 := refNearK_le l load e (show k + 1 ≤ load.length by omega) hf3
            have hq' := Hq.out
            unfold refGoesR at hq'
            rw [hf4] at hq'
            simp only [Bool.false_eq_true, if_false, Prod.mk.injEq] at hq'
            obtain ⟨rfl, rfl⟩ := hq'
            first
              | (go_ret2; exact ⟨rfl, qbl⟩)
              | (go_ret; exact ⟨rfl, qbl⟩)
              | (go_ret2; exact qbl)
              | (go_ret; exact qbl)
          · rename_i hcm
            refine ⟨⟨j + 1, by omega, by go_num, q3, q8, q10, qbl, Lib.hid ?_⟩, ?_⟩
            · rw [hn1.out, hnj.out]; simp; omega
            · simp [intOf]; omega
        · obtain rfl : j = k := by omega
          go_wp2
          refine ⟨⟨j + 1, by omega, by go_num, t3, t8, tbl, Lib.hid ?_⟩, ?_⟩
          · rw [refNearK_succ, hnr.out, hnj.out]; rfl
          · simp [intOf]; omega
    · obtain rfl : k = load.length := by omega
      go_wp2_with fail
      refine (refheat_calls l load A1 A2 c1 c2 wr (Kd.C_below hr1 hbl) (Kd.C_below hr2 hbl) Hv.out).mono ?_
      rintro e_ w1 ⟨rfl, hb1⟩
      have hfin := Hq.out
      unfold refGoesR at hfin
      rw [hnr.out] at hfin
      generalize refHeatR l load = T at hfin ⊢
      obtain ⟨t1, t2, t3⟩ := T
      dsimp only at hfin
      have hB' := HB.out hnr.out
      have y3 := x3.step hb1
      have y8 := x8.step hb1
      have hb2 := hbl.trans (hb1.mono (by have := x3.lt; omega))
      obtain ⟨wa, hwa⟩ : ∃ v, w1.alloc (.cells #[.int .i64 t1, .int .i64 t2] 36) = v := ⟨_, rfl⟩
      have z3 : Box wa w.heap.size #[.int .i64 a, .int .i64 b, .int .i64 c, .int .i64 d, .int .i64 e] 23 := hwa ▸ y3.alloc _
      have z8 : Box wa (w.heap.size + 1) #[.int .i64 (refWeightK l load load.length).1, .int .i64 (refWeightK l load load.length).2] 36 := hwa ▸ y8.alloc _
      have zbl : Below w.heap.size w wa := hwa ▸ hb2.alloc (by have := y3.lt; omega) _
      have e0 : wa.cell? ⟨w.heap.size, 0, none⟩ = some (.int .i64 a) := z3.cell 0 rfl
      have e1 : wa.cell? ⟨w.heap.size, 1, none⟩ = some (.int .i64 b) := z3.cell 1 rfl
      have e2 : wa.cell? ⟨w.heap.size, 2, none⟩ = some (.int .i64 c) := z3.cell 2 rfl
      have e3 : wa.cell? ⟨w.heap.size, 3, none⟩ = some (.int .i64 d) := z3.cell 3 rfl
      have e4 : wa.cell? ⟨w.heap.size, 4, none⟩ = some (.int .i64 e) := z3.cell 4 rfl
      go_wp2_with fail
      refine (smaltoref03_Bars.calls K a b c d e A1 c1 l A2 c2 load (fun _ => False) _ [] r1 r2 wa wa (Below.refl _ _) (Kd.C_kept_came ⟨fun _ h => h⟩ hr1 zbl (fun _ h => h.elim)) hc1 (Kd.C_kept_came (Kd.heap_int _) hr2 zbl (fun _ h => h.elim)) hc2 (Kd.R_nil _ _ _ _ _) hB').mono ?_
      rintro e_ w2 ⟨v0, rfl, hR, hb3, hkk⟩
      have u3 := z3.step hb3
      have u8 := z8.step hb3
      have ubl := zbl.trans (hb3.mono (by have := z3.lt; omega))
      have i3 : w2.cell? ⟨w.heap.size, 3, none⟩ = some (.int .i64 d) := u3.cell 3 rfl
      have i8 : w2.cell? ⟨w.heap.size + 1, 0, none⟩ = some (.int .i64 (refWeightK l load load.length).1) := u8.cell 0 rfl
      have i9 : w2.cell? ⟨w.heap.size + 1, 1, none⟩ = some (.int .i64 (refWeightK l load load.length).2) := u8.cell 1 rfl
      simp only [if_true, Prod.mk.injEq] at hfin
      obtain ⟨hf1, hf2⟩ := hfin
      clear hB' HB hR hkk
      obtain ⟨x1, hx1⟩ : ∃ v, (refWeightK l load load.length).1 = v := ⟨_, rfl⟩
      obtain ⟨x2, hx2⟩ : ∃ v, (refWeightK l load load.length).2 = v := ⟨_, rfl⟩
      rw [hx1] at i8 hf2
      rw [hx2] at i9 hf1
      clear hx1 hx2 u8 z8 y8 x8
      obtain ⟨o1, ho1⟩ : ∃ v, decide (x1 ≤ d) = v := ⟨_, rfl⟩
      obtain ⟨o2, ho2⟩ : ∃ v, decide (x2 ≤ d) = v := ⟨_, rfl⟩
      rw [ho1] at hf2
      rw [ho2] at hf1
      go_wp2_with fail
      have ho1' : decide (x1 ≤ d) = o1 := ho1
      have ho2' : decide (x2 ≤ d) = o2 := ho2
      cases t3 <;> cases r2 <;> simp at hf1 hf2 <;> subst hf1 hf2
      all_goals
        go_quiet (fail)
        try go_wp2
        go_ret2
        exact ⟨rfl, pw_below_drewN ubl nq⟩
end Go.Proofs.YtbijamlgcebgeaaDoor.Hand

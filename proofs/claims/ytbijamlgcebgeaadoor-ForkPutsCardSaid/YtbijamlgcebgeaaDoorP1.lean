/- ForkPuts: the law returns true for every input, where the two tables of the library hold what their initialisers lay; its arguments read as they read before. -/
import Derived.Test.YtbijamlgcebgeaaDoorC5
import Derived.Test.YtbijamlgcebgeaaDoorCards
import Derived.Test.YtbijamlgcebgeaaDoorTie
set_option linter.unusedVariables false
set_option linter.unusedSimpArgs false
-- part QB
namespace Go.Proofs.YtbijamlgcebgeaaDoor.Q
open Go.RowKit Go.Proofs.YtbijamlgcebgeaaDoorW.PrintWords Go.Proofs.YtbijamlgcebgeaaDoorW.PrintLast Go.Proofs.YtbijamlgcebgeaaDoorW.PrintMore
attribute [local go_sem] max2_int min2_int max_two min_two max_three min_three max_four min_four
def smaltoref03_All.l0 : Nat → List (S74) → List Int → Int → Option (List Int)
  | 0, _, _, _ => none
  | k + 1, x0, x3, x4 => if x4 < (x0.length : Int) then (if x3.length < 17592186044416 then (smaltoref03_All.l0 k x0 (x3 ++ [x4]) (wrap64 (x4 + 1))) else (none)) else (some x3)
def smaltoref03_All.f (k : Nat) (l0 : List (S74)) : Option (List Int) := smaltoref03_All.l0 k l0 (([] : List Int)) 0
theorem smaltoref03_All.mono_l : ∀ k, (∀ y0 y1 y2, LeO (smaltoref03_All.l0 k y0 y1 y2) (smaltoref03_All.l0 (k + 1) y0 y1 y2))
  | 0 => fun _ _ _ r h => by simp [smaltoref03_All.l0] at h
  | k + 1 => by
    have ih0 := smaltoref03_All.mono_l k
    · intro y0 y1 y2
      unfold smaltoref03_All.l0
      repeat' first
      | (with_reducible exact ih0 _ _ _)
      | (with_reducible exact LeO.refl _)
      | (with_reducible exact LeO.none _)
      | (with_reducible refine LeO.ite ?_ ?_)
      | (with_reducible refine LeO.bind ?_ (fun _ => ?_))
      | exact ih0 _ _ _
      | exact LeO.none _
      | refine LeO.ite ?_ ?_
      | refine LeO.bind ?_ (fun _ => ?_)
theorem smaltoref03_All.mono : ∀ a0 k, LeO (smaltoref03_All.f k a0) (smaltoref03_All.f (k + 1) a0) := by
  intro a0 k
  have ih0 := smaltoref03_All.mono_l k
  unfold smaltoref03_All.f
  repeat' first
      | (with_reducible exact ih0 _ _ _)
      | (with_reducible exact LeO.refl _)
      | (with_reducible exact LeO.none _)
      | (with_reducible refine LeO.ite ?_ ?_)
      | (with_reducible refine LeO.bind ?_ (fun _ => ?_))
      | exact ih0 _ _ _
      | exact LeO.none _
      | refine LeO.ite ?_ ?_
      | refine LeO.bind ?_ (fun _ => ?_)
set_option maxHeartbeats 8000000 in
set_option maxRecDepth 100000 in
theorem smaltoref03_All.calls (k : Nat) (A0 : Option Addr) (c0 : Nat) (l0 : List (S74)) (r : List Int) (w : World) (hr0 : Kd.C k74 w A0 l0.length l0) (hc0 : l0.length ≤ c0) (h : smaltoref03_All.f k l0 = some r) :
    Calls Tryd.prog 80 #[.slice A0 l0.length c0] w fun e w' => ∃ v0_ : Value, e = .returned (v0_) ∧ Kd.R (Kd.int .i64) 3 w' w.heap.size (fun _ => True) v0_ r ∧ Below w.heap.size w w' := by
  have HR0 := Aside0.mk hr0
  have HC0 := Aside0.mk hc0
  clear hr0 hc0
  have HB := Aside0.mk (Below.refl w.heap.size w)
  have H : (smaltoref03_All.l0 k l0 (([] : List Int)) 0) = some r := h
  clear h
  obtain ⟨y254, hy254⟩ : ∃ y_ : List Int, y_ = (([] : List Int)) := ⟨_, rfl⟩
  replace H : (smaltoref03_All.l0 k l0 y254 0) = some r := by first | (rw [hy254]; with_reducible exact H) | (have H2_ := (Option.bind_some _ _).symm.trans H; rw [hy254]; with_reducible exact H2_) | (have H2_ := (Option.bind_some _ _).symm.trans H; with_reducible exact H2_) | with_reducible exact H | (rw [hy254]; exact H) | exact H
  have Ny254 := Aside0.mk hy254
  clear hy254
  have H' := Aside0.mk H
  clear H
  go_enter Tryd.func80, Tryd.ntmps80
  go_wp2_with (first | ((with_reducible refine gate_dst (N := 5) rfl ?_); refine Kd.R_lit (Kd.int .i64) _ 3 ?hg (N := 5) ?hd (xs := ([] : List Int)) (inner := []) (ok := fun _ => True) (okp := fun _ => True) ?hr ?hp (fun _ hk => hk) trivial (Below.refl _ _) (Nat.le_refl _) (by simp) ?_; (case hd => rfl); (case hg => rfl); (case hr => first | (go_simp; done) | (go_simp; rfl)); (case hp => exact (Reps.none _ _)); intro v255 w2 ho3 hb hg_ hnew_; clear hg_ hnew_; (first | rw [← Ny254.out] at ho3 | (simp only [Int.reduceToNat] at ho3; rw [← Ny254.out] at ho3)); have n0_ := Aside0.mk (Kd.R_lower ho3 (below_size (by repeat (first | (with_reducible first | exact HB.out | apply below_alloc | apply pw_below_drewN | apply below_drew1) | exact HB.out)))); have n1_ := Aside0.mk (below_step (by repeat (first | (with_reducible first | exact HB.out | apply below_alloc | apply pw_below_drewN | apply below_drew1) | exact HB.out)) hb); clear HB; have HO256 := n0_; have HB := n1_; clear n0_ n1_; clear hb ho3))
  go_loopg [3, 4] k (fun kq v3 v4 w' => ∃ (x3_1 : List Int) (x4_1 : Int), v4 = .int .i64 x4_1 ∧ Aside0 (smaltoref03_All.l0 kq l0 x3_1 x4_1 = some r) ∧ Aside0 (kq ≤ k) ∧ Aside0 (Kd.R (Kd.int .i64) 3 w' w.heap.size (fun _ => True) v3 x3_1) ∧ Aside0 (Below w.heap.size w w'))
  case atStart => exact ⟨(y254), (0), (by first | rfl | (simp; done) | (simp [*]; done)), H', ⟨Nat.le_refl _⟩, ⟨by (with_reducible repeat (first | apply Kd.R_alloc | apply Kd.R_drewN | apply Kd.R_drew)); exact HO256.out⟩, ⟨by repeat (first | (with_reducible first | exact HB.out | apply below_alloc | apply pw_below_drewN | apply below_drew1) | exact HB.out)⟩⟩
  case round =>
    clear H'
    try clear p2
    obtain ⟨x3_1, x4_1, rfl, HA, HK1, HO_3, HB⟩ := hrel
    cases gk with
    | zero => exact absurd HA.out (by simp [smaltoref03_All.l0])
    | succ k1 =>
      have H := HA.out
      clear HA
      simp only [smaltoref03_All.l0] at H
      by_cases c4 : x4_1 < (l0.length : Int)
      · rw [if_pos c4] at H
        have c4b0 : decide (x4_1 < (l0.length : Int)) = true := decide_eq_true c4
        clear c4
        by_cases c5 : x3_1.length < 17592186044416
        · rw [if_pos c5] at H
          have LMc5 := Aside0.mk c5
          clear c5
          obtain ⟨y257, hy257⟩ : ∃ y_ : List Int, y_ = (x3_1 ++ [x4_1]) := ⟨_, rfl⟩
          replace H : (smaltoref03_All.l0 k1 l0 y257 (wrap64 (x4_1 + 1))) = some r := by first | (rw [hy257]; with_reducible exact H) | (have H2_ := (Option.bind_some _ _).symm.trans H; rw [hy257]; with_reducible exact H2_) | (have H2_ := (Option.bind_some _ _).symm.trans H; with_reducible exact H2_) | with_reducible exact H | (rw [hy257]; exact H) | exact H
          have Ny257 := Aside0.mk hy257
          clear hy257
          have H' := Aside0.mk H
          clear H
          go_wp2_with (first | ((with_reducible refine gate_builtin (b := .append) (xs := #[.tmp 12, .tmp 14]) rfl ?_); at_builtin; refine Kd.R_append (Kd.int .i64) (w0 := w) w.heap.size rfl (.tmp 12) (.tmp 14) 25 3 (.int .i64 0) 8 rfl Tryd.underlying25 info3 rfl (by decide) (by omega) u3 x3_1 x4_1 [.int .i64 x4_1] (fun _ => True) (fun _ => False) rfl rfl ?aP (fun _ hk => hk.elim) ?aF ?aO ?aB ?aS ?aL ?_; (case aP => exact rfl); (case aB => exact (by repeat (first | (with_reducible first | exact HB.out | apply below_alloc | apply pw_below_drewN | apply below_drew1) | exact HB.out))); (case aF => exact (fun _ _ => trivial)); (case aO => exact (by (with_reducible repeat (first | apply Kd.R_alloc | apply Kd.R_drewN | apply Kd.R_drew)); exact HO_3.out)); (case aS => exact (below_size (by repeat (first | (with_reducible first | exact HB.out | apply below_alloc | apply pw_below_drewN | apply below_drew1) | exact HB.out)))); (case aL => have := LMc5.out; omega); intro v258 w6 ho hb hg hat; rw [← Ny257.out] at ho; have n0_ := Aside0.mk (hb); have n1_ := Aside0.mk (ho); clear HB; clear HO_3; have HB := n0_; have HO259 := n1_; clear n0_ n1_; clear ho hb hg hat))
          go_roundg k1
          case measure => have := HK1.out; omega
          case rel => exact ⟨(y257), (wrap64 (x4_1 + 1)), (by first | rfl | (simp; done) | (simp [*]; done)), H', ⟨by have := HK1.out; omega⟩, ⟨by (with_reducible repeat (first | apply Kd.R_alloc | apply Kd.R_drewN | apply Kd.R_drew)); exact HO259.out⟩, ⟨by repeat (first | (with_reducible first | exact HB.out | apply below_alloc | apply pw_below_drewN | apply below_drew1) | exact HB.out)⟩⟩
        · rw [if_neg c5] at H
          exact absurd H (by simp)
      · rw [if_neg c4] at H
        have c4b0 : decide (x4_1 < (l0.length : Int)) = false := decide_eq_false c4
        clear c4
        obtain rfl := Option.some.inj H
        go_wp2
        go_ret
        exact ⟨_, by first | rfl | (simp [errW_none, errW_some] <;> rfl) | (simp [*, errW_none, errW_some] <;> rfl), by (with_reducible repeat (first | apply Kd.R_alloc | apply Kd.R_drewN | apply Kd.R_drew)); exact HO_3.out, by repeat (first | (with_reducible first | exact HB.out | apply below_alloc | apply pw_below_drewN | apply below_drew1) | exact HB.out)⟩
def smaltoref03_Table.l0 : Nat → List (S74) → List Bool → Int → Int → Int → Int → Int → Int → Option (List Bool)
  | 0, _, _, _, _, _, _, _, _ => none
  | k + 1, x1, x5, x6, x261000, x261001, x261002, x261003, x261004 => if 0 ≤ (IntKind.u64.wrap ((x1.length : Int))) then (if x6 < (shl .i64 1 (IntKind.u64.wrap ((x1.length : Int)))) then ((smaltoref03_All.f k x1).bind fun t264 => ((smaltoref03_Numbers.f k t264 x6).bind fun t267 => ((smaltoref03_Goes.f k x261000 x261001 x261002 x261003 x261004 x1 t267).bind fun bt270 => (if x5.length < 140737488355328 then (smaltoref03_Table.l0 k x1 (x5 ++ [bt270.1]) (wrap64 (x6 + 1)) x261000 x261001 x261002 x261003 x261004) else (none))))) else (some x5)) else (none)
def smaltoref03_Table.f (k : Nat) (a0_0 : Int) (a0_1 : Int) (a0_2 : Int) (a0_3 : Int) (a0_4 : Int) (l1 : List (S74)) : Option (List Bool) := smaltoref03_Table.l0 k l1 (([] : List Bool)) 0 a0_0 a0_1 a0_2 a0_3 a0_4
theorem smaltoref03_Table.mono_l : ∀ k, (∀ y0 y1 y2 y3 y4 y5 y6 y7, LeO (smaltoref03_Table.l0 k y0 y1 y2 y3 y4 y5 y6 y7) (smaltoref03_Table.l0 (k + 1) y0 y1 y2 y3 y4 y5 y6 y7))
  | 0 => fun _ _ _ _ _ _ _ _ r h => by simp [smaltoref03_Table.l0] at h
  | k + 1 => by
    have ih0 := smaltoref03_Table.mono_l k
    · intro y0 y1 y2 y3 y4 y5 y6 y7
      unfold smaltoref03_Table.l0
      repeat' first
      | (with_reducible exact ih0 _ _ _ _ _ _ _ _)
      | (with_reducible exact smaltoref03_All.mono _ _)
      | (with_reducible exact smaltoref03_Goes.mono _ _ _ _ _ _ _ _)
      | (with_reducible exact smaltoref03_Numbers.mono _ _ _)
      | (with_reducible exact LeO.refl _)
      | (with_reducible exact LeO.none _)
      | (with_reducible refine LeO.ite ?_ ?_)
      | (with_reducible refine LeO.bind ?_ (fun _ => ?_))
      | exact ih0 _ _ _ _ _ _ _ _
      | exact smaltoref03_All.mono _ _
      | exact smaltoref03_Goes.mono _ _ _ _ _ _ _ _
      | exact smaltoref03_Numbers.mono _ _ _
      | exact LeO.none _
      | refine LeO.ite ?_ ?_
      | refine LeO.bind ?_ (fun _ => ?_)
theorem smaltoref03_Table.mono : ∀ a0 a1 a2 a3 a4 a5 k, LeO (smaltoref03_Table.f k a0 a1 a2 a3 a4 a5) (smaltoref03_Table.f (k + 1) a0 a1 a2 a3 a4 a5) := by
  intro a0 a1 a2 a3 a4 a5 k
  have ih0 := smaltoref03_Table.mono_l k
  unfold smaltoref03_Table.f
  repeat' first
      | (with_reducible exact ih0 _ _ _ _ _ _ _ _)
      | (with_reducible exact smaltoref03_All.mono _ _)
      | (with_reducible exact smaltoref03_Goes.mono _ _ _ _ _ _ _ _)
      | (with_reducible exact smaltoref03_Numbers.mono _ _ _)
      | (with_reducible exact LeO.refl _)
      | (with_reducible exact LeO.none _)
      | (with_reducible refine LeO.ite ?_ ?_)
      | (with_reducible refine LeO.bind ?_ (fun _ => ?_))
      | exact ih0 _ _ _ _ _ _ _ _
      | exact smaltoref03_All.mono _ _
      | exact smaltoref03_Goes.mono _ _ _ _ _ _ _ _
      | exact smaltoref03_Numbers.mono _ _ _
      | exact LeO.none _
      | refine LeO.ite ?_ ?_
      | refine LeO.bind ?_ (fun _ => ?_)
def smaltoref03_Table.T5 : Bool × List (List Nat × List Nat) := (true, [([], []), ([], []), ([], []), ([2], [2]), ([], []), ([3, 4, 3], [3, 4]), ([0, 1, 5, 5], [0, 1, 5]), ([6], [6]), ([7], [7]), ([7], [7]), ([8, 6, 0, 1, 2, 3, 4, 5, 6, 7, 8], [8]), ([9, 10, 0, 1, 2, 3, 4, 5, 6, 7, 8, 9, 10], [9])])
def smaltoref03_Table.B5 : List Nat := [0, 0, 0, 4, 0, 28, 63, 127, 255, 255, 511, 2047]
theorem smaltoref03_Table.tab5 : rtab .any (opsOf Tryd.f34 5) = smaltoref03_Table.T5 := by kernel_rfl
theorem smaltoref03_Table.bits5 : waitsOk smaltoref03_Table.T5.2 smaltoref03_Table.B5 = true := by kernel_rfl
set_option maxHeartbeats 8000000 in
set_option maxRecDepth 100000 in
theorem smaltoref03_Table.calls (k : Nat) (a0_0 : Int) (a0_1 : Int) (a0_2 : Int) (a0_3 : Int) (a0_4 : Int) (A1 : Option Addr) (c1 : Nat) (l1 : List (S74)) (r : List Bool) (w : World) (hr1 : Kd.C k74 w A1 l1.length l1) (hc1 : l1.length ≤ c1) (h : smaltoref03_Table.f k a0_0 a0_1 a0_2 a0_3 a0_4 l1 = some r) :
    Calls Tryd.prog 34 #[.agg #[.int .i64 a0_0, .int .i64 a0_1, .int .i64 a0_2, .int .i64 a0_3, .int .i64 a0_4], .slice A1 l1.length c1] w fun e w' => ∃ v0_ : Value, e = .returned (v0_) ∧ Kd.R Kd.bool 4 w' w.heap.size (fun _ => True) v0_ r ∧ Below w.heap.size w w' := by
  have hu23 := Tryd.underlying23
  have HR1 := Aside0.mk hr1
  have HC1 := Aside0.mk hc1
  clear hr1 hc1
  have HB := Aside0.mk (Below.refl w.heap.size w)
  have H : (smaltoref03_Table.l0 k l1 (([] : List Bool)) 0 a0_0 a0_1 a0_2 a0_3 a0_4) = some r := h
  clear h
  obtain ⟨y261, hy261⟩ : ∃ y_ : List Bool, y_ = (([] : List Bool)) := ⟨_, rfl⟩
  replace H : (smaltoref03_Table.l0 k l1 y261 0 a0_0 a0_1 a0_2 a0_3 a0_4) = some r := by first | (rw [hy261]; with_reducible exact H) | (have H2_ := (Option.bind_some _ _).symm.trans H; rw [hy261]; with_reducible exact H2_) | (have H2_ := (Option.bind_some _ _).symm.trans H; with_reducible exact H2_) | with_reducible exact H | (rw [hy261]; exact H) | exact H
  have Ny261 := Aside0.mk hy261
  clear hy261
  have H' := Aside0.mk H
  clear H
  go_enter Tryd.func34, Tryd.ntmps34
  go_wp2_with (first | ((with_reducible refine gate_dst (N := 2) rfl ?_); refine box_event ?hg (N := 2) ?hd (cs := #[.int .i64 a0_0, .int .i64 a0_1, .int .i64 a0_2, .int .i64 a0_3, .int .i64 a0_4]) (t := 23) ?hr ?_; (case hd => rfl); (case hg => rfl); (case hr => first | (go_simp; done) | (go_simp; rfl)); intro gb260 hg w3 hbox hb; have n0_ := Aside0.mk (below_step (by repeat (first | (with_reducible first | exact HB.out | apply below_alloc | apply pw_below_drewN | apply below_drew1) | exact HB.out)) hb); have n1_ := Aside0.mk (hbox); have n2_ := Aside0.mk ((by rw [hg]; exact (below_size (by repeat (first | (with_reducible first | exact HB.out | apply below_alloc | apply pw_below_drewN | apply below_drew1) | exact HB.out))) : w.heap.size ≤ gb260)); have n3_ := Aside0.mk ((by rw [hg]; exact (below_size (by repeat (first | (with_reducible first | exact HB.out | apply below_alloc | apply pw_below_drewN | apply below_drew1) | exact HB.out))) : w.heap.size ≤ gb260)); clear HB; have HB := n0_; have BK260 := n1_; have GW260 := n2_; have GE260 := n3_; clear n0_ n1_ n2_ n3_; clear hb hbox hg) | ((with_reducible refine gate_dst (N := 9) rfl ?_); refine Kd.R_lit Kd.bool _ 4 ?hg (N := 9) ?hd (xs := ([] : List Bool)) (inner := []) (ok := fun _ => True) (okp := fun _ => True) ?hr ?hp (fun _ hk => hk) trivial (Below.refl _ _) (Nat.le_refl _) (by simp) ?_; (case hd => rfl); (case hg => rfl); (case hr => first | (go_simp; done) | (go_simp; rfl)); (case hp => exact (Reps.none _ _)); intro v262 w4 ho5 hb hg_ hnew_; clear hg_ hnew_; (first | rw [← Ny261.out] at ho5 | (simp only [Int.reduceToNat] at ho5; rw [← Ny261.out] at ho5)); have n0_ := Aside0.mk (Kd.R_lower ho5 (below_size (by repeat (first | (with_reducible first | exact HB.out | apply below_alloc | apply pw_below_drewN | apply below_drew1 | refine below_set ?_ GE260.out) | exact HB.out)))); have n1_ := Aside0.mk (blk_below (g := gb260) (o := .cells #[.int .i64 a0_0, .int .i64 a0_1, .int .i64 a0_2, .int .i64 a0_3, .int .i64 a0_4] 23 (0, 0)) (by (with_reducible repeat (first | refine blk_drewN ?_ _ | refine blk_drew ?_ | refine blk_alloc ?_ _)); exact BK260.out) hb); have n2_ := Aside0.mk (below_step (by repeat (first | (with_reducible first | exact HB.out | apply below_alloc | apply pw_below_drewN | apply below_drew1 | refine below_set ?_ GE260.out) | exact HB.out)) hb); clear BK260; clear HB; have HO263 := n0_; have BK260 := n1_; have HB := n2_; clear n0_ n1_ n2_; clear hb ho5))
  go_loopg [5, 6] k (fun kq v5 v6 w' => ∃ (x5_1 : List Bool) (x6_1 : Int), v6 = .int .i64 x6_1 ∧ Aside0 (smaltoref03_Table.l0 kq l1 x5_1 x6_1 a0_0 a0_1 a0_2 a0_3 a0_4 = some r) ∧ Aside0 (kq ≤ k) ∧ Aside0 (Kd.R Kd.bool 4 w' w.heap.size (fun _ => True) v5 x5_1) ∧ Aside0 (w'.heap[gb260]? = some (.cells #[.int .i64 a0_0, .int .i64 a0_1, .int .i64 a0_2, .int .i64 a0_3, .int .i64 a0_4] 23 (0, 0))) ∧ Aside0 (Below w.heap.size w w'))
  case atStart => exact ⟨(y261), (0), (by first | rfl | (simp; done) | (simp [*]; done)), H', ⟨Nat.le_refl _⟩, ⟨by (with_reducible repeat (first | apply Kd.R_alloc | apply Kd.R_drewN | apply Kd.R_drew)); exact HO263.out⟩, ⟨by (with_reducible repeat (first | refine blk_drewN ?_ _ | refine blk_drew ?_ | refine blk_alloc ?_ _)); exact BK260.out⟩, ⟨by repeat (first | (with_reducible first | exact HB.out | apply below_alloc | apply pw_below_drewN | apply below_drew1 | refine below_set ?_ GE260.out) | exact HB.out)⟩⟩
  case round =>
    clear H'
    try clear c1
    try clear p2
    try clear c3
    obtain ⟨x5_1, x6_1, rfl, HA, HK1, HO_5, BK260, HB⟩ := hrel
    cases gk with
    | zero => exact absurd HA.out (by simp [smaltoref03_Table.l0])
    | succ k1 =>
      have H := HA.out
      clear HA
      simp only [smaltoref03_Table.l0] at H
      obtain ⟨ji6, hji6⟩ : ∃ j_ : Int, (IntKind.u64.wrap ((l1.length : Int))) = j_ := ⟨_, rfl⟩
      replace H : (if 0 ≤ (ji6) then (if x6_1 < (shl .i64 1 (ji6)) then ((smaltoref03_All.f k1 l1).bind fun t264 => ((smaltoref03_Numbers.f k1 t264 x6_1).bind fun t267 => ((smaltoref03_Goes.f k1 a0_0 a0_1 a0_2 a0_3 a0_4 l1 t267).bind fun bt270 => (if x5_1.length < 140737488355328 then (smaltoref03_Table.l0 k1 l1 (x5_1 ++ [bt270.1]) (wrap64 (x6_1 + 1)) a0_0 a0_1 a0_2 a0_3 a0_4) else (none))))) else (some x5_1)) else (none)) = some r := by first | (rw [hji6] at H; exact H) | (simp only [hji6] at H ⊢; exact H)
      by_cases c7 : 0 ≤ (ji6)
      · rw [if_pos c7] at H
        have c7b0 := eq_true c7
        have c7b1 : decide (0 ≤ (ji6)) = true := decide_eq_true c7
        clear c7
        obtain ⟨ji8, hji8⟩ : ∃ j_ : Int, (shl .i64 1 (ji6)) = j_ := ⟨_, rfl⟩
        replace H : (if x6_1 < (ji8) then ((smaltoref03_All.f k1 l1).bind fun t264 => ((smaltoref03_Numbers.f k1 t264 x6_1).bind fun t267 => ((smaltoref03_Goes.f k1 a0_0 a0_1 a0_2 a0_3 a0_4 l1 t267).bind fun bt270 => (if x5_1.length < 140737488355328 then (smaltoref03_Table.l0 k1 l1 (x5_1 ++ [bt270.1]) (wrap64 (x6_1 + 1)) a0_0 a0_1 a0_2 a0_3 a0_4) else (none))))) else (some x5_1)) = some r := by first | (rw [hji8] at H; exact H) | (simp only [hji8] at H ⊢; exact H)
        have hji8_ : (IntKind.i64.wrap (1 * 2 ^ min (ji6).toNat 64)) = ji8 := hji8
        have hji8z : (ji6) ≤ 64 → (IntKind.i64.wrap (1 * 2 ^ (ji6).toNat)) = ji8 := shl_small hji8
        have hji8u : (IntKind.i64.wrap (2 ^ min (ji6).toNat 64)) = ji8 := by have h_ := hji8_; rw [Int.one_mul] at h_; exact h_
        have hji8v : (ji6) ≤ 64 → (IntKind.i64.wrap (2 ^ (ji6).toNat)) = ji8 := fun hle_ => by have h_ := hji8z hle_; rw [Int.one_mul] at h_; exact h_
        have hji8y : (wrap64 (1 * 2 ^ min (ji6).toNat 64)) = ji8 := (i64_w _).symm.trans hji8_
        have hji8x : (ji6) ≤ 64 → (wrap64 (1 * 2 ^ (ji6).toNat)) = ji8 := fun h_ => (i64_w _).symm.trans (hji8z h_)
        by_cases c9 : x6_1 < (ji8)
        · rw [if_pos c9] at H
          have c9b0 : decide (x6_1 < (ji8)) = true := decide_eq_true c9
          clear c9
          replace H := Option.bind_eq_some_iff.mp H
          obtain ⟨t264, A100, H⟩ := H
          replace H : ((smaltoref03_Numbers.f k1 t264 x6_1).bind fun t267 => ((smaltoref03_Goes.f k1 a0_0 a0_1 a0_2 a0_3 a0_4 l1 t267).bind fun bt270 => (if x5_1.length < 140737488355328 then (smaltoref03_Table.l0 k1 l1 (x5_1 ++ [bt270.1]) (wrap64 (x6_1 + 1)) a0_0 a0_1 a0_2 a0_3 a0_4) else (none)))) = some r := H
          have A10 := Aside0.mk A100
          clear A100
          replace H := Option.bind_eq_some_iff.mp H
          obtain ⟨t267, A110, H⟩ := H
          replace H : ((smaltoref03_Goes.f k1 a0_0 a0_1 a0_2 a0_3 a0_4 l1 t267).bind fun bt270 => (if x5_1.length < 140737488355328 then (smaltoref03_Table.l0 k1 l1 (x5_1 ++ [bt270.1]) (wrap64 (x6_1 + 1)) a0_0 a0_1 a0_2 a0_3 a0_4) else (none))) = some r := H
          have A11 := Aside0.mk A110
          clear A110
          replace H := Option.bind_eq_some_iff.mp H
          obtain ⟨⟨t270, t271⟩, A120, H⟩ := H
          replace H : (if x5_1.length < 140737488355328 then (smaltoref03_Table.l0 k1 l1 (x5_1 ++ [t270]) (wrap64 (x6_1 + 1)) a0_0 a0_1 a0_2 a0_3 a0_4) else (none)) = some r := H
          have A12 := Aside0.mk A120
          clear A120
          by_cases c13 : x5_1.length < 140737488355328
          · rw [if_pos c13] at H
            have LMc13 := Aside0.mk c13
            clear c13
            obtain ⟨y272, hy272⟩ : ∃ y_ : List Bool, y_ = (x5_1 ++ [t270]) := ⟨_, rfl⟩
            replace H : (smaltoref03_Table.l0 k1 l1 y272 (wrap64 (x6_1 + 1)) a0_0 a0_1 a0_2 a0_3 a0_4) = some r := by first | (rw [hy272]; with_reducible exact H) | (have H2_ := (Option.bind_some _ _).symm.trans H; rw [hy272]; with_reducible exact H2_) | (have H2_ := (Option.bind_some _ _).symm.trans H; with_reducible exact H2_) | with_reducible exact H | (rw [hy272]; exact H) | exact H
            have Ny272 := Aside0.mk hy272
            clear hy272
            have H' := Aside0.mk H
            clear H
            try go_wp2
            have n0_ := Aside0.mk (Kd.R_drew HO_5.out)
            have n1_ := Aside0.mk (blk_drew BK260.out)
            have n2_ := Aside0.mk (below_drew1 HB.out)
            clear HO_5
            clear BK260
            clear HB
            have HO_5 := n0_
            have BK260 := n1_
            have HB := n2_
            clear n0_ n1_ n2_
            refine start_ (n := 12) (S := fun w' => w'.cell? ⟨gb260, 0, none⟩ = some (.int .i64 a0_0) ∧ w'.cell? ⟨gb260, 1, none⟩ = some (.int .i64 a0_1) ∧ w'.cell? ⟨gb260, 2, none⟩ = some (.int .i64 a0_2) ∧ w'.cell? ⟨gb260, 3, none⟩ = some (.int .i64 a0_3) ∧ w'.cell? ⟨gb260, 4, none⟩ = some (.int .i64 a0_4)) (ds := []) #[false, false, false, false, false, false, false, false, false, false, false, false] (by kernel_rfl) rfl rfl ⟨(blk_cell BK260.out 0).trans rfl, (blk_cell BK260.out 1).trans rfl, (blk_cell BK260.out 2).trans rfl, (blk_cell BK260.out 3).trans rfl, (blk_cell BK260.out 4).trans rfl⟩ (fun hHeld => ?_); refine with_tabW smaltoref03_Table.tab5 smaltoref03_Table.bits5 (fun HT_ HW_ => ?_)
            generalize wr.drew = w14 at HO_5 BK260 HB hHeld ⊢
            refine pure_ (i := 1) (N := some 20) (v := ?_) (a' := ?_) #[false, true, false, false, false, false, false, false, false, false, false, false] rfl rfl (any_of HT_.out (by kernel_rfl)) (fun _ _ _ h => h) (Or.inl ⟨by rfl, ?_⟩) ?_ ?_
            rotate_left
            · intro w'
              go_simp
              with_reducible rfl
            rotate_left
            · simp only [Act.put, List.setIfInBounds_toArray, List.set_cons_zero, List.set_cons_succ, i64_w, i32_w]
              rfl
            refine pure_ (i := 2) (N := some 21) (v := ?_) (a' := ?_) #[false, true, true, false, false, false, false, false, false, false, false, false] rfl rfl (any_of HT_.out (by kernel_rfl)) (fun _ _ _ h => h) (Or.inl ⟨by rfl, ?_⟩) ?_ ?_
            rotate_left
            · intro w'
              go_simp
              with_reducible rfl
            rotate_left
            · simp only [Act.put, List.setIfInBounds_toArray, List.set_cons_zero, List.set_cons_succ, i64_w, i32_w]
              rfl
            refine pure_ (i := 4) (N := some 23) (v := ?_) (a' := ?_) #[false, true, true, false, true, false, false, false, false, false, false, false] rfl rfl (any_of HT_.out (by kernel_rfl)) (fun _ _ _ h => h) (Or.inl ⟨by rfl, ?_⟩) ?_ ?_
            rotate_left
            · intro w'
              go_simp
              with_reducible rfl
            rotate_left
            · simp only [Act.put, List.setIfInBounds_toArray, List.set_cons_zero, List.set_cons_succ, i64_w, i32_w]
              rfl
            refine take_ (i := 0) (N := some 19) (v := ?_) (a' := ?_) #[true, true, true, false, true, false, false, false, false, false, false, false] rfl rfl (take_ofW HT_.out HW_.out (by kernel_rfl)) (fun _ _ _ h => h) (Or.inl ⟨by rfl, ?_⟩) hHeld ?_ ?_
            rotate_left
            · rintro w' ⟨s0, s1, s2, s3, s4⟩
              go_simp
              with_reducible rfl
            rotate_left
            · simp only [Act.put, List.setIfInBounds_toArray, List.set_cons_zero, List.set_cons_succ, i64_w, i32_w]
              rfl
            refine one_ (i := 3) (N := some 22) #[true, true, true, true, true, false, false, false, false, false, false, false] rfl rfl (one_of HT_.out (by kernel_rfl)) (by decide) (fun K hK => ?_)
            refine goes_ Tryd.func80 (by kernel_rfl) rfl #[.slice A1 l1.length c1] (by rfl) rfl rfl (by (try simp only [List.map_toArray, List.map_cons, List.map_nil]); first | done | rfl | (simp only [List.length_drop, List.length_take]; rfl)) ?_
            with_reducible refine (smaltoref03_All.calls k1 _ _ l1 t264 _ ?side1 ?side2 A10.out).mono ?_
            (case side1 => repeat (first | exact (Kd.C_below HR1.out HB.out) | (with_reducible refine Kd.C_alloc ?_ _) | (with_reducible refine Kd.C_drewN ?_ _) | (with_reducible refine Kd.C_drew ?_)))
            (case side2 => exact HC1.out)
            rintro e w15 ⟨v265, rfl, ho0, hb⟩
            refine ⟨_, rfl, ?_⟩
            have n0_ := Aside0.mk (Kd.R_below (by (with_reducible repeat (first | apply Kd.R_alloc | apply Kd.R_drewN | apply Kd.R_drew)); exact HO_5.out) hb)
            have n1_ := Aside0.mk (Kd.R_lower ho0 (below_size (by repeat (first | (with_reducible first | exact HB.out | apply below_alloc | apply pw_below_drewN | apply below_drew1 | refine below_set ?_ GE260.out) | exact HB.out))))
            have n2_ := Aside0.mk (blk_below (g := gb260) (o := .cells #[.int .i64 a0_0, .int .i64 a0_1, .int .i64 a0_2, .int .i64 a0_3, .int .i64 a0_4] 23 (0, 0)) (by (with_reducible repeat (first | refine blk_drewN ?_ _ | refine blk_drew ?_ | refine blk_alloc ?_ _)); exact BK260.out) hb)
            have n3_ := Aside0.mk (below_step (by repeat (first | (with_reducible first | exact HB.out | apply below_alloc | apply pw_below_drewN | apply below_drew1 | refine below_set ?_ GE260.out) | exact HB.out)) hb)
            clear HO_5
            clear BK260
            clear HB
            have HO_5 := n0_
            have HO266 := n1_
            have BK260 := n2_
            have HB := n3_
            clear n0_ n1_ n2_ n3_
            (try clear hb)
            (try clear hb2)
            (try clear hk)
            (try clear hi)
            (try clear ho0)
            obtain ⟨Ao16, co16, eo16⟩ := Kd.R_slice HO266.out
            (first | subst eo16 | (injection eo16 with f1_ f2_ f3_; have f4_ := f1_.symm; have f5_ := f3_.symm; clear f1_ f2_ f3_; subst f4_; subst f5_))
            refine hK.out _ _ ⟨(blk_cell BK260.out 0).trans rfl, (blk_cell BK260.out 1).trans rfl, (blk_cell BK260.out 2).trans rfl, (blk_cell BK260.out 3).trans rfl, (blk_cell BK260.out 4).trans rfl⟩ (fun hHeld => ?_)
            clear hK K
            refine norm_ (a' := ?_) ?_ ?_
            rotate_left
            · show Act.put _ (some 22) _ = _
              simp only [Act.put, List.setIfInBounds_toArray, List.set_cons_zero, List.set_cons_succ, i64_w, i32_w]
              rfl
            refine one_ (i := 5) (N := some 24) #[true, true, true, true, true, true, false, false, false, false, false, false] rfl rfl (one_of HT_.out (by kernel_rfl)) (by decide) (fun K hK => ?_)
            refine goes_ Tryd.func71 (by kernel_rfl) rfl #[.slice Ao16 t264.length co16, .int .i64 x6_1] (by rfl) rfl rfl (by (try simp only [List.map_toArray, List.map_cons, List.map_nil]); first | done | rfl | (simp only [List.length_drop, List.length_take]; rfl)) ?_
            with_reducible refine (smaltoref03_Numbers.calls k1 _ _ t264 x6_1 t267 _ ?side1 ?side2 A11.out).mono ?_
            (case side1 => repeat (first | exact (Kd.R_reads' HO266.out).2.2 | (with_reducible refine Kd.C_alloc ?_ _) | (with_reducible refine Kd.C_drewN ?_ _) | (with_reducible refine Kd.C_drew ?_)))
            (case side2 => exact (Kd.R_reads' HO266.out).2.1)
            rintro e w17 ⟨v268, rfl, ho0, hb⟩
            refine ⟨_, rfl, ?_⟩
            have n0_ := Aside0.mk (Kd.R_below (by (with_reducible repeat (first | apply Kd.R_alloc | apply Kd.R_drewN | apply Kd.R_drew)); exact HO_5.out) hb)
            have n1_ := Aside0.mk (Kd.R_elder' (by (with_reducible repeat (first | apply Kd.R_alloc | apply Kd.R_drewN | apply Kd.R_drew)); exact HO266.out) (Kd.R_base ho0) hb)
            have n2_ := Aside0.mk (Kd.R_lower (Kd.R_new' ho0 (Kd.R_lt (by (with_reducible repeat (first | apply Kd.R_alloc | apply Kd.R_drewN | apply Kd.R_drew)); exact HO266.out))) (below_size (by repeat (first | (with_reducible first | exact HB.out | apply below_alloc | apply pw_below_drewN | apply below_drew1 | refine below_set ?_ GE260.out) | exact HB.out))))
            have n3_ := Aside0.mk (blk_below (g := gb260) (o := .cells #[.int .i64 a0_0, .int .i64 a0_1, .int .i64 a0_2, .int .i64 a0_3, .int .i64 a0_4] 23 (0, 0)) (by (with_reducible repeat (first | refine blk_drewN ?_ _ | refine blk_drew ?_ | refine blk_alloc ?_ _)); exact BK260.out) hb)
            have n4_ := Aside0.mk (below_step (by repeat (first | (with_reducible first | exact HB.out | apply below_alloc | apply pw_below_drewN | apply below_drew1 | refine below_set ?_ GE260.out) | exact HB.out)) hb)
            clear HO_5
            clear HO266
            clear BK260
            clear HB
            have HO_5 := n0_
            have HO266 := n1_
            have HO269 := n2_
            have BK260 := n3_
            have HB := n4_
            clear n0_ n1_ n2_ n3_ n4_
            (try clear hb)
            (try clear hb2)
            (try clear hk)
            (try clear hi)
            (try clear ho0)
            obtain ⟨Ao18, co18, eo18⟩ := Kd.R_slice HO269.out
            (first | subst eo18 | (injection eo18 with f1_ f2_ f3_; have f4_ := f1_.symm; have f5_ := f3_.symm; clear f1_ f2_ f3_; subst f4_; subst f5_))
            refine hK.out _ _ ⟨(blk_cell BK260.out 0).trans rfl, (blk_cell BK260.out 1).trans rfl, (blk_cell BK260.out 2).trans rfl, (blk_cell BK260.out 3).trans rfl, (blk_cell BK260.out 4).trans rfl⟩ (fun hHeld => ?_)
            clear hK K
            refine norm_ (a' := ?_) ?_ ?_
            rotate_left
            · show Act.put _ (some 24) _ = _
              simp only [Act.put, List.setIfInBounds_toArray, List.set_cons_zero, List.set_cons_succ, i64_w, i32_w]
              rfl
            refine one_ (i := 6) (N := some 25) #[true, true, true, true, true, true, true, false, false, false, false, false] rfl rfl (one_of HT_.out (by kernel_rfl)) (by decide) (fun K hK => ?_)
            refine goes_ Tryd.func24 (by kernel_rfl) rfl #[.agg #[.int .i64 a0_0, .int .i64 a0_1, .int .i64 a0_2, .int .i64 a0_3, .int .i64 a0_4], .slice A1 l1.length c1, .slice Ao18 t267.length co18] (by rfl) rfl rfl (by (try simp only [List.map_toArray, List.map_cons, List.map_nil]); first | done | rfl | (simp only [List.length_drop, List.length_take]; rfl)) ?_
            with_reducible refine (smaltoref03_Goes.calls k1 a0_0 a0_1 a0_2 a0_3 a0_4 _ _ l1 _ _ t267 t270 t271 _ ?side1 ?side2 ?side3 ?side4 A12.out).mono ?_
            (case side1 => repeat (first | exact (Kd.C_below HR1.out HB.out) | (with_reducible refine Kd.C_alloc ?_ _) | (with_reducible refine Kd.C_drewN ?_ _) | (with_reducible refine Kd.C_drew ?_)))
            (case side2 => exact HC1.out)
            (case side3 => repeat (first | exact (Kd.R_reads' HO269.out).2.2 | (with_reducible refine Kd.C_alloc ?_ _) | (with_reducible refine Kd.C_drewN ?_ _) | (with_reducible refine Kd.C_drew ?_)))
            (case side4 => exact (Kd.R_reads' HO269.out).2.1)
            rintro e w19 ⟨rfl, hb⟩
            refine ⟨_, rfl, ?_⟩
            have n0_ := Aside0.mk (Kd.R_below (by (with_reducible repeat (first | apply Kd.R_alloc | apply Kd.R_drewN | apply Kd.R_drew)); exact HO_5.out) hb)
            have n1_ := Aside0.mk (Kd.R_below (by (with_reducible repeat (first | apply Kd.R_alloc | apply Kd.R_drewN | apply Kd.R_drew)); exact HO266.out) hb)
            have n2_ := Aside0.mk (Kd.R_below (by (with_reducible repeat (first | apply Kd.R_alloc | apply Kd.R_drewN | apply Kd.R_drew)); exact HO269.out) hb)
            have n3_ := Aside0.mk (blk_below (g := gb260) (o := .cells #[.int .i64 a0_0, .int .i64 a0_1, .int .i64 a0_2, .int .i64 a0_3, .int .i64 a0_4] 23 (0, 0)) (by (with_reducible repeat (first | refine blk_drewN ?_ _ | refine blk_drew ?_ | refine blk_alloc ?_ _)); exact BK260.out) hb)
            have n4_ := Aside0.mk (below_step (by repeat (first | (with_reducible first | exact HB.out | apply below_alloc | apply pw_below_drewN | apply below_drew1 | refine below_set ?_ GE260.out) | exact HB.out)) hb)
            clear HO_5
            clear HO266
            clear HO269
            clear BK260
            clear HB
            have HO_5 := n0_
            have HO266 := n1_
            have HO269 := n2_
            have BK260 := n3_
            have HB := n4_
            clear n0_ n1_ n2_ n3_ n4_
            (try clear hb)
            (try clear hb2)
            (try clear hk)
            (try clear hi)
            refine hK.out _ _ ⟨(blk_cell BK260.out 0).trans rfl, (blk_cell BK260.out 1).trans rfl, (blk_cell BK260.out 2).trans rfl, (blk_cell BK260.out 3).trans rfl, (blk_cell BK260.out 4).trans rfl⟩ (fun hHeld => ?_)
            clear hK K
            refine norm_ (a' := ?_) ?_ ?_
            rotate_left
            · show Act.put _ (some 25) _ = _
              simp only [Act.put, List.setIfInBounds_toArray, List.set_cons_zero, List.set_cons_succ, i64_w, i32_w]
              rfl
            refine pure_ (i := 7) (N := some 18) (v := ?_) (a' := ?_) #[true, true, true, true, true, true, true, true, false, false, false, false] rfl rfl (any_of HT_.out (by kernel_rfl)) (fun _ _ _ h => h) (Or.inl ⟨by rfl, ?_⟩) ?_ ?_
            rotate_left
            · intro w'
              go_simp
              with_reducible rfl
            rotate_left
            · simp only [Act.put, List.setIfInBounds_toArray, List.set_cons_zero, List.set_cons_succ, i64_w, i32_w]
              rfl
            refine pure_ (i := 8) (N := some 26) (v := ?_) (a' := ?_) #[true, true, true, true, true, true, true, true, true, false, false, false] rfl rfl (any_of HT_.out (by kernel_rfl)) (fun _ _ _ h => h) (Or.inl ⟨by rfl, ?_⟩) ?_ ?_
            rotate_left
            · intro w'
              go_simp
              with_reducible rfl
            rotate_left
            · simp only [Act.put, List.setIfInBounds_toArray, List.set_cons_zero, List.set_cons_succ, i64_w, i32_w]
              rfl
            refine pure_ (i := 9) (N := some 27) (v := ?_) (a' := ?_) #[true, true, true, true, true, true, true, true, true, true, false, false] rfl rfl (any_of HT_.out (by kernel_rfl)) (fun _ _ _ h => h) (Or.inl ⟨by rfl, ?_⟩) ?_ ?_
            rotate_left
            · intro w'
              go_simp
              with_reducible rfl
            rotate_left
            · simp only [Act.put, List.setIfInBounds_toArray, List.set_cons_zero, List.set_cons_succ, i64_w, i32_w]
              rfl
            refine pure_ (i := 10) (N := some 7) (v := ?_) (a' := ?_) #[true, true, true, true, true, true, true, true, true, true, true, false] rfl rfl (any_of HT_.out (by kernel_rfl)) (fun _ _ _ h => h) (Or.inl ⟨by rfl, ?_⟩) ?_ ?_
            rotate_left
            · intro w'
              go_simp
              with_reducible rfl
            rotate_left
            · simp only [Act.put, List.setIfInBounds_toArray, List.set_cons_zero, List.set_cons_succ, i64_w, i32_w]
              rfl
            refine pure_ (i := 11) (N := some 8) (v := ?_) (a' := ?_) #[true, true, true, true, true, true, true, true, true, true, true, true] rfl rfl (any_of HT_.out (by kernel_rfl)) (fun _ _ _ h => h) (Or.inl ⟨by rfl, ?_⟩) ?_ ?_
            rotate_left
            · intro w'
              go_simp
              with_reducible rfl
            rotate_left
            · simp only [Act.put, List.setIfInBounds_toArray, List.set_cons_zero, List.set_cons_succ, i64_w, i32_w]
              rfl
            refine done_ (done_of HT_.out (by kernel_rfl)) ?_
            try go_wp2_with (first | ((with_reducible refine gate_builtin (b := .append) (xs := #[.tmp 28, .tmp 30]) rfl ?_); at_builtin; refine Kd.R_append Kd.bool (w0 := w) w.heap.size rfl (.tmp 28) (.tmp 30) 53 4 (.bool false) 1 rfl Tryd.underlying53 info4 rfl (by decide) (by omega) u5 x5_1 t270 [.bool t270] (fun _ => True) (fun _ => False) rfl rfl ?aP (fun _ hk => hk.elim) ?aF ?aO ?aB ?aS ?aL ?_; (case aP => exact rfl); (case aB => exact (by repeat (first | (with_reducible first | exact HB.out | apply below_alloc | apply pw_below_drewN | apply below_drew1 | refine below_set ?_ GE260.out) | exact HB.out))); (case aF => exact (fun _ _ => trivial)); (case aO => exact (by (with_reducible repeat (first | apply Kd.R_alloc | apply Kd.R_drewN | apply Kd.R_drew)); exact HO_5.out)); (case aS => exact (below_size (by repeat (first | (with_reducible first | exact HB.out | apply below_alloc | apply pw_below_drewN | apply below_drew1 | refine below_set ?_ GE260.out) | exact HB.out)))); (case aL => have := LMc13.out; omega); intro v273 w20 ho hb hg hat; rw [← Ny272.out] at ho; have n0_ := Aside0.mk (blk_grown (g := gb260) (o := .cells #[.int .i64 a0_0, .int .i64 a0_1, .int .i64 a0_2, .int .i64 a0_3, .int .i64 a0_4] 23 (0, 0)) (by (with_reducible repeat (first | refine blk_drewN ?_ _ | refine blk_drew ?_ | refine blk_alloc ?_ _)); exact BK260.out) hg (Kd.R_ne HO_5.out BK260.out (by decide))); have n1_ := Aside0.mk (Kd.R_over' (by (with_reducible repeat (first | apply Kd.R_alloc | apply Kd.R_drewN | apply Kd.R_drew)); exact HO266.out) (Kd.R_typed (by (with_reducible repeat (first | apply Kd.R_alloc | apply Kd.R_drewN | apply Kd.R_drew)); exact HO_5.out)) (by decide) hg); have n2_ := Aside0.mk (Kd.R_over' (by (with_reducible repeat (first | apply Kd.R_alloc | apply Kd.R_drewN | apply Kd.R_drew)); exact HO269.out) (Kd.R_typed (by (with_reducible repeat (first | apply Kd.R_alloc | apply Kd.R_drewN | apply Kd.R_drew)); exact HO_5.out)) (by decide) hg); have n3_ := Aside0.mk (hb); have n4_ := Aside0.mk (ho); clear BK260; clear HO266; clear HO269; clear HB; clear HO_5; have BK260 := n0_; have HO266 := n1_; have HO269 := n2_; have HB := n3_; have HO274 := n4_; clear n0_ n1_ n2_ n3_ n4_; clear ho hb hg hat))
            go_roundg k1
            case measure => have := HK1.out; omega
            case rel => exact ⟨(y272), (wrap64 (x6_1 + 1)), (by first | rfl | (simp; done) | (simp [*]; done)), H', ⟨by have := HK1.out; omega⟩, ⟨by (with_reducible repeat (first | apply Kd.R_alloc | apply Kd.R_drewN | apply Kd.R_drew)); exact HO274.out⟩, ⟨by (with_reducible repeat (first | refine blk_drewN ?_ _ | refine blk_drew ?_ | refine blk_alloc ?_ _)); exact BK260.out⟩, ⟨by repeat (first | (with_reducible first | exact HB.out | apply below_alloc | apply pw_below_drewN | apply below_drew1 | refine below_set ?_ GE260.out) | exact HB.out)⟩⟩
          · rw [if_neg c13] at H
            exact absurd H (by simp)
        · rw [if_neg c9] at H
          have c9b0 : decide (x6_1 < (ji8)) = false := decide_eq_false c9
          clear c9
          obtain rfl := Option.some.inj H
          go_wp2
          go_ret
          exact ⟨_, by first | rfl | (simp [errW_none, errW_some] <;> rfl) | (simp only [← hji6, ← hji8]; first | rfl | (simp [errW_none, errW_some] <;> rfl)) | (simp [*, errW_none, errW_some] <;> rfl), by (with_reducible repeat (first | apply Kd.R_alloc | apply Kd.R_drewN | apply Kd.R_drew)); exact HO_5.out, by repeat (first | (with_reducible first | exact HB.out | apply below_alloc | apply pw_below_drewN | apply below_drew1 | refine below_set ?_ GE260.out) | exact HB.out)⟩
      · rw [if_neg c7] at H
        exact absurd H (by simp)
end Go.Proofs.YtbijamlgcebgeaaDoor.Q

-- part KB
namespace Go.Proofs.YtbijamlgcebgeaaDoor.Hand
open Go.RowKit Go.Shelf Go.Sort Go.Proofs.YtbijamlgcebgeaaDoorW.PrintWords Go.Proofs.YtbijamlgcebgeaaDoorW.PrintMore Go.Proofs.YtbijamlgcebgeaaDoor.Q
theorem All_l0 (l : List S74) (hl : l.length ≤ 1000) : ∀ n i k : Nat, i + n = l.length → n < k → smaltoref03_All.l0 k l (allL i) i = some (allL l.length) := by
  intro n
  induction n with
  | zero =>
    intro i k h hk
    obtain ⟨k, rfl⟩ : ∃ j, k = j + 1 := ⟨k - 1, by omega⟩
    unfold smaltoref03_All.l0
    rw [if_neg (by omega), show i = l.length by omega]
  | succ n ih =>
    intro i k h hk
    obtain ⟨k, rfl⟩ : ∃ j, k = j + 1 := ⟨k - 1, by omega⟩
    unfold smaltoref03_All.l0
    rw [if_pos (by omega), if_pos (by simp [allL]; omega), w64 (by omega)]
    have := ih (i + 1) k (by omega) (by omega)
    rw [show ((i + 1 : Nat) : Int) = (i : Int) + 1 by omega] at this
    rw [← this]
    simp [allL, List.range_succ]
theorem All_eq (l : List S74) (hl : l.length ≤ 1000) (k : Nat) (hk : l.length < k) : smaltoref03_All.f k l = some (allL l.length) := All_l0 l hl l.length 0 k (by omega) hk
theorem two_pow_u : ∀ n : Nat, n ≤ 6 → shl .i64 1 (IntKind.u64.wrap (n : Int)) = ((2 ^ n : Nat) : Int) ∧ 0 ≤ IntKind.u64.wrap (n : Int) ∧ 2 ^ n ≤ 64 := by decide +kernel
/-- Which sets go. -/
def tableL (F : Furn) : List Bool := (List.range (2 ^ F.l.length)).map (goesB F)
theorem Table_l0 {F : Furn} (hF : F.Ok) : ∀ (n s k : Nat), s + n = 2 ^ F.l.length → n + 101 ≤ k → smaltoref03_Table.l0 k F.l ((List.range s).map (goesB F)) s F.bars F.length F.gap F.load F.near = some (tableL F) := by
  obtain ⟨p1, p2, p3⟩ := two_pow_u F.l.length hF.len
  have hlen := hF.len
  intro n
  induction n with
  | zero =>
    intro s k h hk
    obtain ⟨k, rfl⟩ : ∃ j, k = j + 1 := ⟨k - 1, by omega⟩
    unfold smaltoref03_Table.l0
    rw [if_pos p2, p1, if_neg (by omega), show s = 2 ^ F.l.length by omega]
    rfl
  | succ n ih =>
    intro s k h hk
    obtain ⟨k, rfl⟩ : ∃ j, k = j + 1 := ⟨k - 1, by omega⟩
    have hs : s < 2 ^ F.l.length := by omega
    unfold smaltoref03_Table.l0
    rw [if_pos p2, p1, if_pos (by omega), All_eq F.l (by omega) k (by omega)]
    simp only [Option.bind_some]
    rw [Numbers_eq _ (by simp [allL]; omega) s (by omega) k (by omega)]
    simp only [Option.bind_some]
    rw [pick_all _ hF.len s hs]
    obtain ⟨r2, hr⟩ := goes_set hF (t := s) (bitsOf_below hs) k (by omega)
    rw [hr]
    simp only [Option.bind_some]
    rw [if_pos (by simp; omega), w64 (by omega)]
    have := ih (s + 1) k (by omega) (by omega)
    rw [show ((s + 1 : Nat) : Int) = (s : Int) + 1 by omega] at this
    rw [← this]
    simp [List.range_succ]
theorem Table_eq {F : Furn} (hF : F.Ok) (k : Nat) (hk : 165 ≤ k) : smaltoref03_Table.f k F.bars F.length F.gap F.load F.near F.l = some (tableL F) := by
  have p3 := (two_pow_u F.l.length hF.len).2.2
  exact Table_l0 hF (2 ^ F.l.length) 0 k (by omega) (by omega)
theorem tableL_at (F : Furn) {s : Nat} (hs : s < 2 ^ F.l.length) : rdOf false (tableL F) (s : Int) = goesB F s := by
  simp [rdOf, tableL, List.getD_eq_getElem?_getD, hs]
end Go.Proofs.YtbijamlgcebgeaaDoor.Hand

-- part QC
namespace Go.Proofs.YtbijamlgcebgeaaDoor.Q
open Go.RowKit Go.Proofs.YtbijamlgcebgeaaDoorW.PrintWords Go.Proofs.YtbijamlgcebgeaaDoorW.PrintLast Go.Proofs.YtbijamlgcebgeaaDoorW.PrintMore
attribute [local go_sem] max2_int min2_int max_two min_two max_three min_three max_four min_four
mutual
def smaltoref03_Lists.l0 : Nat → Int → List (List Int) → List (List Int) → Int → Option ((List (List Int)))
  | 0, _, _, _, _ => none
  | k + 1, x1, x5, x6, x7 => if x7 < (x6.length : Int) then (smaltoref03_Lists.l1 k x1 x5 x6 x7 0) else (some x5)
def smaltoref03_Lists.l1 : Nat → Int → List (List Int) → List (List Int) → Int → Int → Option ((List (List Int)))
  | 0, _, _, _, _, _ => none
  | k + 1, x1, x5, x6, x7, x8 => if x8 < x1 then ((some (([] : List Int) : List Int)).bind fun y233 => (if 0 ≤ x7 then (if x7 < (x6.length : Int) then (if y233.length + (rd_L3 x6 x7).length < 17592186044416 then ((some (y233 ++ (rd_L3 x6 x7) : List Int)).bind fun y237 => (if y237.length < 17592186044416 then (if x5.length < 5864062014805 then (smaltoref03_Lists.l1 k x1 (x5 ++ [(y237 ++ [x8])]) x6 x7 (wrap64 (x8 + 1))) else (none)) else (none))) else (none)) else (none)) else (none))) else (smaltoref03_Lists.l0 k x1 x5 x6 (wrap64 (x7 + 1)))
def smaltoref03_Lists.f : Nat → Int → Int → Option ((List (List Int)))
  | 0, _, _ => none
  | k + 1, a0, a1 => if a0 = 0 then (some (([(([] : List Int))] : List (List Int)))) else ((smaltoref03_Lists.f k (wrap64 (a0 - 1)) a1).bind fun t230 => (smaltoref03_Lists.l0 k a1 (([] : List (List Int))) t230 0))
end
theorem smaltoref03_Lists.mono_l : ∀ k, (∀ y0 y1, LeO (smaltoref03_Lists.f k y0 y1) (smaltoref03_Lists.f (k + 1) y0 y1)) ∧ (∀ y0 y1 y2 y3, LeO (smaltoref03_Lists.l0 k y0 y1 y2 y3) (smaltoref03_Lists.l0 (k + 1) y0 y1 y2 y3)) ∧ (∀ y0 y1 y2 y3 y4, LeO (smaltoref03_Lists.l1 k y0 y1 y2 y3 y4) (smaltoref03_Lists.l1 (k + 1) y0 y1 y2 y3 y4))
  | 0 => ⟨fun _ _ r h => by simp [smaltoref03_Lists.f] at h, fun _ _ _ _ r h => by simp [smaltoref03_Lists.l0] at h, fun _ _ _ _ _ r h => by simp [smaltoref03_Lists.l1] at h⟩
  | k + 1 => by
    obtain ⟨ih0, ih1, ih2⟩ := smaltoref03_Lists.mono_l k
    refine ⟨?_, ?_, ?_⟩
    · intro y0 y1
      unfold smaltoref03_Lists.f
      repeat' first
      | (with_reducible exact ih0 _ _)
      | (with_reducible exact ih1 _ _ _ _)
      | (with_reducible exact ih2 _ _ _ _ _)
      | (with_reducible exact LeO.refl _)
      | (with_reducible exact LeO.none _)
      | (with_reducible refine LeO.ite ?_ ?_)
      | (with_reducible refine LeO.bind ?_ (fun _ => ?_))
      | exact ih0 _ _
      | exact ih1 _ _ _ _
      | exact ih2 _ _ _ _ _
      | exact LeO.none _
      | refine LeO.ite ?_ ?_
      | refine LeO.bind ?_ (fun _ => ?_)
    · intro y0 y1 y2 y3
      unfold smaltoref03_Lists.l0
      repeat' first
      | (with_reducible exact ih0 _ _)
      | (with_reducible exact ih1 _ _ _ _)
      | (with_reducible exact ih2 _ _ _ _ _)
      | (with_reducible exact LeO.refl _)
      | (with_reducible exact LeO.none _)
      | (with_reducible refine LeO.ite ?_ ?_)
      | (with_reducible refine LeO.bind ?_ (fun _ => ?_))
      | exact ih0 _ _
      | exact ih1 _ _ _ _
      | exact ih2 _ _ _ _ _
      | exact LeO.none _
      | refine LeO.ite ?_ ?_
      | refine LeO.bind ?_ (fun _ => ?_)
    · intro y0 y1 y2 y3 y4
      unfold smaltoref03_Lists.l1
      repeat' first
      | (with_reducible exact ih0 _ _)
      | (with_reducible exact ih1 _ _ _ _)
      | (with_reducible exact ih2 _ _ _ _ _)
      | (with_reducible exact LeO.refl _)
      | (with_reducible exact LeO.none _)
      | (with_reducible refine LeO.ite ?_ ?_)
      | (with_reducible refine LeO.bind ?_ (fun _ => ?_))
      | exact ih0 _ _
      | exact ih1 _ _ _ _
      | exact ih2 _ _ _ _ _
      | exact LeO.none _
      | refine LeO.ite ?_ ?_
      | refine LeO.bind ?_ (fun _ => ?_)
theorem smaltoref03_Lists.mono : ∀ a0 a1 k, LeO (smaltoref03_Lists.f k a0 a1) (smaltoref03_Lists.f (k + 1) a0 a1) := by
  intro a0 a1 k
  obtain ⟨ih0, ih1, ih2⟩ := smaltoref03_Lists.mono_l k
  exact ih0 a0 a1
set_option maxHeartbeats 8000000 in
set_option maxRecDepth 100000 in
theorem smaltoref03_Lists.calls (k : Nat) : ∀ (a0 : Int) (a1 : Int) (r : List (List Int)) (w : World) (h : smaltoref03_Lists.f k a0 a1 = some r),
    Calls Tryd.prog 78 #[.int .i64 a0, .int .i64 a1] w fun e w' => ∃ v0_ : Value, e = .returned (v0_) ∧ Kd.N (Kd.slice 3 (Kd.int .i64)) 25 w' w.heap.size (fun k_ => (w.heap.size ≤ k_)) v0_ r ∧ Below w.heap.size w w' := by
  induction k using Nat.strongRecOn with
  | _ k ih =>
  intro a0 a1 r w h
  cases k with
  | zero => exact absurd h (by simp [smaltoref03_Lists.f])
  | succ k =>
  simp only [smaltoref03_Lists.f] at h
  have HB := Aside0.mk (Below.refl w.heap.size w)
  have H : (if a0 = 0 then (some (([(([] : List Int))] : List (List Int)))) else ((smaltoref03_Lists.f k (wrap64 (a0 - 1)) a1).bind fun t230 => (smaltoref03_Lists.l0 k a1 (([] : List (List Int))) t230 0))) = some r := h
  clear h
  by_cases c3 : a0 = 0
  · rw [if_pos c3] at H
    have c3b0 : (a0 == 0) = true := beq_iff_eq.mpr c3
    have c3b1 : (a0 != 0) = false := bne_eq_false_iff_eq.mpr c3
    clear c3
    obtain ⟨y221, hy221⟩ : ∃ y_ : List Int, y_ = (([] : List Int)) := ⟨_, rfl⟩
    replace H : (some (([y221] : List (List Int)))) = some r := by first | (rw [hy221]; with_reducible exact H) | (have H2_ := (Option.bind_some _ _).symm.trans H; rw [hy221]; with_reducible exact H2_) | (have H2_ := (Option.bind_some _ _).symm.trans H; with_reducible exact H2_) | with_reducible exact H | (rw [hy221]; exact H) | exact H
    have Ny221 := Aside0.mk hy221
    clear hy221
    obtain ⟨y224, hy224⟩ : ∃ y_ : List (List Int), y_ = (([y221] : List (List Int))) := ⟨_, rfl⟩
    replace H : (some y224) = some r := by first | (rw [hy224]; with_reducible exact H) | (have H2_ := (Option.bind_some _ _).symm.trans H; rw [hy224]; with_reducible exact H2_) | (have H2_ := (Option.bind_some _ _).symm.trans H; with_reducible exact H2_) | with_reducible exact H | (rw [hy224]; exact H) | exact H
    have Ny224 := Aside0.mk hy224
    clear hy224
    obtain rfl := Option.some.inj H
    go_enter Tryd.func78, Tryd.ntmps78
    go_wp2_with (first | ((with_reducible refine gate_dst (N := 11) rfl ?_); refine Kd.R_lit (Kd.int .i64) _ 3 ?hg (N := 11) ?hd (xs := ([] : List Int)) (inner := []) (ok := fun _ => True) (okp := fun _ => True) ?hr ?hp (fun _ hk => hk) trivial (Below.refl _ _) (Nat.le_refl _) (by simp) ?_; (case hd => rfl); (case hg => rfl); (case hr => first | (go_simp; done) | (go_simp; rfl)); (case hp => exact (Reps.none _ _)); intro v222 w4 ho5 hb hg_ hnew_; clear hg_ hnew_; (first | rw [← Ny221.out] at ho5 | (simp only [Int.reduceToNat] at ho5; rw [← Ny221.out] at ho5)); have n0_ := Aside0.mk (Kd.R_lower (Kd.R_newM (M := fun k_ => (w.heap.size ≤ k_)) ho5 (below_size (by repeat (first | (with_reducible first | exact HB.out | apply below_alloc | apply pw_below_drewN | apply below_drew1) | exact HB.out))) (fun k_ h_ => h_)) (below_size (by repeat (first | (with_reducible first | exact HB.out | apply below_alloc | apply pw_below_drewN | apply below_drew1) | exact HB.out)))); have n1_ := Aside0.mk (below_step (by repeat (first | (with_reducible first | exact HB.out | apply below_alloc | apply pw_below_drewN | apply below_drew1) | exact HB.out)) hb); clear HB; have HO223 := n0_; have HB := n1_; clear n0_ n1_; clear hb ho5; obtain ⟨Ao6, co6, eo6⟩ := Kd.R_slice HO223.out; subst eo6) | ((with_reducible refine gate_dst (N := 12) rfl ?_); refine Kd.N_lit (Kd.slice 3 (Kd.int .i64)) _ 25 ?hg (N' := 12) ?hd (xs := ([y221] : List (List Int))) (inner := [.slice Ao6 y221.length co6]) (ok := (fun k_ => (w.heap.size ≤ k_))) (okp := (fun k_ => (w.heap.size ≤ k_))) ?hr ?hp (fun _ hk => hk) ((show ∀ k_, w4.heap.size ≤ k_ → (fun k_ => (w.heap.size ≤ k_)) k_ from fun k_ hk => (Nat.le_trans (below_size (by repeat (first | (with_reducible first | exact HB.out | apply below_alloc | apply pw_below_drewN | apply below_drew1) | exact HB.out))) hk)) _ (Nat.le_refl _)) (Below.refl _ _) (Nat.le_refl _) (by simp) ?_; (case hd => rfl); (case hg => rfl); (case hr => first | (go_simp; done) | (go_simp; rfl)); (case hp => exact (Reps.one (show Kd.FK (Kd.slice 3 (Kd.int .i64)) _ _ y221 [.slice Ao6 y221.length co6] from (Kd.FK_slice_mk (Kd.R_reads' (Kd.R_mono (ok' := (fun k_ => (w.heap.size ≤ k_))) (HO223.out) (fun k_ hk => hk.1))).2.1 (Kd.R_F (Kd.R_mono (ok' := (fun k_ => (w.heap.size ≤ k_))) (HO223.out) (fun k_ hk => hk.1))))) (Reps.none _ _))); intro v225 w7 ho8 hb hg_ hnew_; clear hg_ hnew_; (first | rw [← Ny224.out] at ho8 | (simp only [Int.reduceToNat] at ho8; rw [← Ny224.out] at ho8)); have n0_ := Aside0.mk (Kd.N_lower ho8 (below_size (by repeat (first | (with_reducible first | exact HB.out | apply below_alloc | apply pw_below_drewN | apply below_drew1) | exact HB.out)))); have n1_ := Aside0.mk (below_step (by repeat (first | (with_reducible first | exact HB.out | apply below_alloc | apply pw_below_drewN | apply below_drew1) | exact HB.out)) hb); clear HB; clear HO223; have HO226 := n0_; have HB := n1_; clear n0_ n1_; clear hb ho8))
    go_ret
    exact ⟨_, by first | rfl | (simp [errW_none, errW_some] <;> rfl) | (simp [*, errW_none, errW_some] <;> rfl), by (with_reducible repeat (first | apply Kd.N_alloc | apply Kd.N_drewN | apply Kd.N_drew)); exact HO226.out, by repeat (first | (with_reducible first | exact HB.out | apply below_alloc | apply pw_below_drewN | apply below_drew1) | exact HB.out)⟩
  · rw [if_neg c3] at H
    have c3b0 : (a0 == 0) = false := beq_eq_false_iff_ne.mpr c3
    have c3b1 : (a0 != 0) = true := bne_iff_ne.mpr c3
    obtain ⟨y227, hy227⟩ : ∃ y_ : List (List Int), y_ = (([] : List (List Int))) := ⟨_, rfl⟩
    replace H : ((smaltoref03_Lists.f k (wrap64 (a0 - 1)) a1).bind fun t230 => (smaltoref03_Lists.l0 k a1 y227 t230 0)) = some r := by first | (rw [hy227]; with_reducible exact H) | (have H2_ := (Option.bind_some _ _).symm.trans H; rw [hy227]; with_reducible exact H2_) | (have H2_ := (Option.bind_some _ _).symm.trans H; with_reducible exact H2_) | with_reducible exact H | (rw [hy227]; exact H) | exact H
    have Ny227 := Aside0.mk hy227
    clear hy227
    replace H := Option.bind_eq_some_iff.mp H
    obtain ⟨t230, A90, H⟩ := H
    replace H : (smaltoref03_Lists.l0 k a1 y227 t230 0) = some r := H
    have A9 := Aside0.mk A90
    clear A90
    have H' := Aside0.mk H
    clear H
    go_enter Tryd.func78, Tryd.ntmps78
    go_wp2_with (first | ((with_reducible refine gate_dst (N := 13) rfl ?_); refine Kd.N_lit (Kd.slice 3 (Kd.int .i64)) _ 25 ?hg (N' := 13) ?hd (xs := ([] : List (List Int))) (inner := []) (ok := (fun k_ => (w.heap.size ≤ k_))) (okp := (fun k_ => (w.heap.size ≤ k_))) ?hr ?hp (fun _ hk => hk) ((show ∀ k_, w.heap.size ≤ k_ → (fun k_ => (w.heap.size ≤ k_)) k_ from fun k_ hk => (Nat.le_trans (below_size (by repeat (first | (with_reducible first | exact HB.out | apply below_alloc | apply pw_below_drewN | apply below_drew1) | exact HB.out))) hk)) _ (Nat.le_refl _)) (Below.refl _ _) (Nat.le_refl _) (by simp) ?_; (case hd => rfl); (case hg => rfl); (case hr => first | (go_simp; done) | (go_simp; rfl)); (case hp => exact (Reps.none _ _)); intro v228 w10 ho11 hb hg_ hnew_; clear hg_ hnew_; (first | rw [← Ny227.out] at ho11 | (simp only [Int.reduceToNat] at ho11; rw [← Ny227.out] at ho11)); have n0_ := Aside0.mk (Kd.N_lower ho11 (below_size (by repeat (first | (with_reducible first | exact HB.out | apply below_alloc | apply pw_below_drewN | apply below_drew1) | exact HB.out)))); have n1_ := Aside0.mk (below_step (by repeat (first | (with_reducible first | exact HB.out | apply below_alloc | apply pw_below_drewN | apply below_drew1) | exact HB.out)) hb); clear HB; have HO229 := n0_; have HB := n1_; clear n0_ n1_; clear hb ho11) | ((with_reducible refine gate_callee (f := 78) rfl ?_); refine goesL_ (some 17) rfl rfl Tryd.func78 (by kernel_rfl) rfl #[.int .i64 (wrap64 (a0 - 1)), .int .i64 a1] rfl (by (try simp only [List.map_toArray, List.map_cons, List.map_nil]); first | done | rfl | (simp only [List.length_drop, List.length_take]; rfl)) ?_; (with_reducible refine (ih k (by omega) (wrap64 (a0 - 1)) a1 t230 _ A9.out).mono ?_); rintro e w12 ⟨v231, rfl, ho0, hb⟩; refine ⟨_, rfl, ?_⟩; have n0_ := Aside0.mk (Kd.N_elder' (by (with_reducible repeat (first | apply Kd.N_alloc | apply Kd.N_drewN | apply Kd.N_drew)); exact HO229.out) (Kd.N_base ho0) hb); have n1_ := Aside0.mk (Kd.N_lower (Kd.N_mono (ok' := fun k_ => (w.heap.size ≤ k_) ∧ some k_ ≠ (v228 : Value).ownBlock) ho0 (fun k_ hk_ => ⟨(Nat.le_trans (below_size (by repeat (first | (with_reducible first | exact HB.out | apply below_alloc | apply pw_below_drewN | apply below_drew1) | exact HB.out))) hk_), (Kd.fresh' (Kd.N_lt (by (with_reducible repeat (first | apply Kd.N_alloc | apply Kd.N_drewN | apply Kd.N_drew)); exact HO229.out)) k_ hk_)⟩)) (below_size (by repeat (first | (with_reducible first | exact HB.out | apply below_alloc | apply pw_below_drewN | apply below_drew1) | exact HB.out)))); have n2_ := Aside0.mk (below_step (by repeat (first | (with_reducible first | exact HB.out | apply below_alloc | apply pw_below_drewN | apply below_drew1) | exact HB.out)) hb); clear HO229; clear HB; have HO229 := n0_; have HO232 := n1_; have HB := n2_; clear n0_ n1_ n2_; (try clear hb); (try clear hb2); (try clear hk); (try clear hi); (try clear ho0)))
    go_loopg [5, 7] k (fun kq v5 v7 w' => ∃ (x5_1 : List (List Int)) (x7_1 : Int), v7 = .int .i64 x7_1 ∧ Aside0 (smaltoref03_Lists.l0 kq a1 x5_1 t230 x7_1 = some r) ∧ Aside0 (kq ≤ k) ∧ Aside0 (Kd.N (Kd.slice 3 (Kd.int .i64)) 25 w' w.heap.size (fun k_ => (w.heap.size ≤ k_) ∧ some k_ ≠ (v231 : Value).ownBlock) v5 x5_1) ∧ Aside0 (Kd.N (Kd.slice 3 (Kd.int .i64)) 25 w' w.heap.size (fun k_ => (w.heap.size ≤ k_) ∧ some k_ ≠ (v5 : Value).ownBlock) v231 t230) ∧ Aside0 (Below w.heap.size w w'))
    case atStart => exact ⟨(y227), (0), (by first | rfl | (simp; done) | (simp [*]; done)), H', ⟨Nat.le_refl _⟩, ⟨by (with_reducible repeat (first | apply Kd.N_alloc | apply Kd.N_drewN | apply Kd.N_drew)); exact HO229.out⟩, ⟨by (with_reducible repeat (first | apply Kd.N_alloc | apply Kd.N_drewN | apply Kd.N_drew)); exact HO232.out⟩, ⟨by repeat (first | (with_reducible first | exact HB.out | apply below_alloc | apply pw_below_drewN | apply below_drew1) | exact HB.out)⟩⟩
    case round =>
      clear H'
      try clear p2
      try clear c3
      try clear c3b0
      try clear c3b1
      try clear p6
      try clear c7
      obtain ⟨x5_1, x7_1, rfl, HA, HK1, HO_5, HO_6, HB⟩ := hrel
      cases gk with
      | zero => exact absurd HA.out (by simp [smaltoref03_Lists.l0])
      | succ k1 =>
        have H := HA.out
        clear HA
        simp only [smaltoref03_Lists.l0] at H
        by_cases c13 : x7_1 < (t230.length : Int)
        · rw [if_pos c13] at H
          have c13b0 : decide (x7_1 < (t230.length : Int)) = true := decide_eq_true c13
          clear c13
          have H' := Aside0.mk H
          clear H
          obtain ⟨Ao14, co14, eo14⟩ := Kd.N_slice HO_6.out
          subst eo14
          go_wp2
          go_loopg [5, 8] k1 (fun kq v5 v8 w' => ∃ (x5_2 : List (List Int)) (x8_2 : Int), v8 = .int .i64 x8_2 ∧ Aside0 (smaltoref03_Lists.l1 kq a1 x5_2 t230 x7_1 x8_2 = some r) ∧ Aside0 (kq ≤ k1) ∧ Aside0 (Kd.N (Kd.slice 3 (Kd.int .i64)) 25 w' w.heap.size (fun k_ => (w.heap.size ≤ k_) ∧ some k_ ≠ ((.slice Ao14 t230.length co14) : Value).ownBlock) v5 x5_2) ∧ Aside0 (Kd.N (Kd.slice 3 (Kd.int .i64)) 25 w' w.heap.size (fun k_ => (w.heap.size ≤ k_) ∧ some k_ ≠ (v5 : Value).ownBlock) (.slice Ao14 t230.length co14) t230) ∧ Aside0 (Below w.heap.size w w'))
          case atStart => exact ⟨(x5_1), (0), (by first | rfl | (simp; done) | (simp [*]; done)), H', ⟨Nat.le_refl _⟩, ⟨by (with_reducible repeat (first | apply Kd.N_alloc | apply Kd.N_drewN | apply Kd.N_drew)); exact HO_5.out⟩, ⟨by (with_reducible repeat (first | apply Kd.N_alloc | apply Kd.N_drewN | apply Kd.N_drew)); exact HO_6.out⟩, ⟨by repeat (first | (with_reducible first | exact HB.out | apply below_alloc | apply pw_below_drewN | apply below_drew1) | exact HB.out)⟩⟩
          case round =>
            clear H'
            try clear c1
            try clear p2
            try clear c3
            try clear c3b0
            try clear c3b1
            try clear p6
            try clear c7
            try clear c13
            try clear c13b0
            try clear p2
            try clear p6
            obtain ⟨x5_2, x8_2, rfl, HA, HK2, HO_5, HO_6, HB⟩ := hrel
            cases gk with
            | zero => exact absurd HA.out (by simp [smaltoref03_Lists.l1])
            | succ k2 =>
              have H := HA.out
              clear HA
              simp only [smaltoref03_Lists.l1] at H
              by_cases c15 : x8_2 < a1
              · rw [if_pos c15] at H
                have c15b0 : decide (x8_2 < a1) = true := decide_eq_true c15
                clear c15
                obtain ⟨y233, hy233⟩ : ∃ y_ : List Int, y_ = (([] : List Int)) := ⟨_, rfl⟩
                replace H : (if 0 ≤ x7_1 then (if x7_1 < (t230.length : Int) then (if y233.length + (rd_L3 t230 x7_1).length < 17592186044416 then ((some (y233 ++ (rd_L3 t230 x7_1) : List Int)).bind fun y237 => (if y237.length < 17592186044416 then (if x5_2.length < 5864062014805 then (smaltoref03_Lists.l1 k2 a1 (x5_2 ++ [(y237 ++ [x8_2])]) t230 x7_1 (wrap64 (x8_2 + 1))) else (none)) else (none))) else (none)) else (none)) else (none)) = some r := by first | (rw [hy233]; with_reducible exact H) | (have H2_ := (Option.bind_some _ _).symm.trans H; rw [hy233]; with_reducible exact H2_) | (have H2_ := (Option.bind_some _ _).symm.trans H; with_reducible exact H2_) | with_reducible exact H | (rw [hy233]; exact H) | exact H
                have Ny233 := Aside0.mk hy233
                clear hy233
                by_cases c16 : 0 ≤ x7_1
                · rw [if_pos c16] at H
                  have c16b0 : decide (0 ≤ x7_1) = true := decide_eq_true c16
                  clear c16
                  by_cases c17 : x7_1 < (t230.length : Int)
                  · rw [if_pos c17] at H
                    have c17b0 : decide (x7_1 < (t230.length : Int)) = true := decide_eq_true c17
                    clear c17
                    by_cases c18 : y233.length + (rd_L3 t230 x7_1).length < 17592186044416
                    · rw [if_pos c18] at H
                      have LMc18 := Aside0.mk c18
                      clear c18
                      obtain ⟨y237, hy237⟩ : ∃ y_ : List Int, y_ = (y233 ++ (rd_L3 t230 x7_1)) := ⟨_, rfl⟩
                      replace H : (if y237.length < 17592186044416 then (if x5_2.length < 5864062014805 then (smaltoref03_Lists.l1 k2 a1 (x5_2 ++ [(y237 ++ [x8_2])]) t230 x7_1 (wrap64 (x8_2 + 1))) else (none)) else (none)) = some r := by first | (rw [hy237]; with_reducible exact H) | (have H2_ := (Option.bind_some _ _).symm.trans H; rw [hy237]; with_reducible exact H2_) | (have H2_ := (Option.bind_some _ _).symm.trans H; with_reducible exact H2_) | with_reducible exact H | (rw [hy237]; exact H) | exact H
                      have Ny237 := Aside0.mk hy237
                      clear hy237
                      by_cases c19 : y237.length < 17592186044416
                      · rw [if_pos c19] at H
                        have LMc19 := Aside0.mk c19
                        clear c19
                        obtain ⟨y240, hy240⟩ : ∃ y_ : List Int, y_ = (y237 ++ [x8_2]) := ⟨_, rfl⟩
                        replace H : (if x5_2.length < 5864062014805 then (smaltoref03_Lists.l1 k2 a1 (x5_2 ++ [y240]) t230 x7_1 (wrap64 (x8_2 + 1))) else (none)) = some r := by first | (rw [hy240]; with_reducible exact H) | (have H2_ := (Option.bind_some _ _).symm.trans H; rw [hy240]; with_reducible exact H2_) | (have H2_ := (Option.bind_some _ _).symm.trans H; with_reducible exact H2_) | with_reducible exact H | (rw [hy240]; exact H) | exact H
                        have Ny240 := Aside0.mk hy240
                        clear hy240
                        by_cases c20 : x5_2.length < 5864062014805
                        · rw [if_pos c20] at H
                          have LMc20 := Aside0.mk c20
                          clear c20
                          obtain ⟨y243, hy243⟩ : ∃ y_ : List (List Int), y_ = (x5_2 ++ [y240]) := ⟨_, rfl⟩
                          replace H : (smaltoref03_Lists.l1 k2 a1 y243 t230 x7_1 (wrap64 (x8_2 + 1))) = some r := by first | (rw [hy243]; with_reducible exact H) | (have H2_ := (Option.bind_some _ _).symm.trans H; rw [hy243]; with_reducible exact H2_) | (have H2_ := (Option.bind_some _ _).symm.trans H; with_reducible exact H2_) | with_reducible exact H | (rw [hy243]; exact H) | exact H
                          have Ny243 := Aside0.mk hy243
                          clear hy243
                          have H' := Aside0.mk H
                          clear H
                          go_wp2_with (first | ((with_reducible refine gate_dst (N := 30) rfl ?_); refine Kd.R_lit (Kd.int .i64) _ 3 ?hg (N := 30) ?hd (xs := ([] : List Int)) (inner := []) (ok := fun _ => True) (okp := fun _ => True) ?hr ?hp (fun _ hk => hk) trivial (Below.refl _ _) (Nat.le_refl _) (by simp) ?_; (case hd => rfl); (case hg => rfl); (case hr => first | (go_simp; done) | (go_simp; rfl)); (case hp => exact (Reps.none _ _)); intro v234 w21 ho22 hb hg_ hnew_; clear hg_ hnew_; (first | rw [← Ny233.out] at ho22 | (simp only [Int.reduceToNat] at ho22; rw [← Ny233.out] at ho22)); have n0_ := Aside0.mk (Kd.N_elder' (by (with_reducible repeat (first | apply Kd.N_alloc | apply Kd.N_drewN | apply Kd.N_drew)); exact HO_5.out) (Kd.R_base ho22) hb); have n1_ := Aside0.mk (Kd.N_elder' (by (with_reducible repeat (first | apply Kd.N_alloc | apply Kd.N_drewN | apply Kd.N_drew)); exact HO_6.out) (Kd.R_base ho22) hb); have n2_ := Aside0.mk (Kd.R_lower (Kd.R_newM (M := fun k_ => (w.heap.size ≤ k_)) ho22 (below_size (by repeat (first | (with_reducible first | exact HB.out | apply below_alloc | apply pw_below_drewN | apply below_drew1) | exact HB.out))) (fun k_ h_ => h_)) (below_size (by repeat (first | (with_reducible first | exact HB.out | apply below_alloc | apply pw_below_drewN | apply below_drew1) | exact HB.out)))); have n3_ := Aside0.mk (below_step (by repeat (first | (with_reducible first | exact HB.out | apply below_alloc | apply pw_below_drewN | apply below_drew1) | exact HB.out)) hb); clear HO_5; clear HO_6; clear HB; have HO_5 := n0_; have HO_6 := n1_; have HO235 := n2_; have HB := n3_; clear n0_ n1_ n2_ n3_; clear hb ho22; have p236 : 0 ≤ (x7_1 : Int) := of_decide_eq_true (by first | (with_reducible assumption) | assumption); have q236 : x7_1 < (t230.length : Int) := of_decide_eq_true (by first | (with_reducible assumption) | assumption); obtain ⟨ad236, A236_0, c236_0, e236, hx236_0, hl236_0, hi236_0⟩ := at_L3 (Kd.N_reads' HO_6.out).2.2 x7_1 p236 q236; cases e236; obtain ⟨ce236, hce236, hMe236, hcc236⟩ := Kd.N_get HO_6.out [] x7_1 p236 (by first | exact q236 | exact of_decide_eq_true (by first | (with_reducible assumption) | assumption) | (have e_ := (Kd.N_reads' HO_6.out).1; omega)); obtain ⟨ua236_0, uc236_0, rfl, ul236_0, ge236_0⟩ := Kd.FK_slice_open hMe236; have hv236_0 := hcc236 0 _ rfl; rw [Nat.add_zero, show ((Kd.slice 3 (Kd.int .i64))).sz = 1 from rfl, Nat.mul_one] at hv236_0; replace hv236_0 := Option.some.inj (hv236_0.symm.trans hx236_0); injection hv236_0 with hva_ hvn_ hvc_; rw [hva_] at ge236_0; rw [hvc_] at ul236_0; have HL236_0 := Aside0.mk (show Kd.V (Kd.int .i64) 3 _ w.heap.size _ _ (rd_L3 t230 x7_1) from Kd.V_mk ul236_0 ge236_0); clear hva_ hvn_ hvc_ ge236_0 ul236_0; clear hcc236 hce236; have HR236_0 := Aside0.mk hi236_0; have HC236_0 := Aside0.mk hl236_0; clear hi236_0 hl236_0; replace p236 := eq_true p236; replace q236 := eq_true q236) | ((with_reducible refine gate_builtin (b := .append) (xs := #[.tmp 30, .tmp 34]) rfl ?_); at_builtin; refine Kd.R_append_rows (Kd.int .i64) (w0 := w) w.heap.size rfl (.tmp 30) (.tmp 34) 25 3 (.int .i64 0) 8 rfl Tryd.underlying25 info3 rfl (by decide) (by omega) v234 y233 (rd_L3 t230 x7_1) _ _ _ (fun k_ => (w.heap.size ≤ k_)) (fun _ => False) rfl rfl ?aO ?aR (fun _ _ h => h) (fun _ h => h.elim) ?aF ?aB ?aS ?aL ?_; (case aR => repeat (first | exact (by repeat (first | (with_reducible exact HR236_0.out) | (with_reducible refine Kd.C_alloc ?_ _) | (with_reducible refine Kd.C_drewN ?_ _) | (with_reducible refine Kd.C_drew ?_) | exact HR236_0.out)) | (with_reducible refine Kd.C_alloc ?_ _) | (with_reducible refine Kd.C_drewN ?_ _) | (with_reducible refine Kd.C_drew ?_))); (case aB => exact (by repeat (first | (with_reducible first | exact HB.out | apply below_alloc | apply pw_below_drewN | apply below_drew1) | exact HB.out))); (case aF => exact (fun k_ hk => (Nat.le_trans (below_size (by repeat (first | (with_reducible first | exact HB.out | apply below_alloc | apply pw_below_drewN | apply below_drew1) | exact HB.out))) hk))); (case aO => exact (by (with_reducible repeat (first | apply Kd.R_alloc | apply Kd.R_drewN | apply Kd.R_drew)); exact Kd.R_mono HO235.out (fun _ hk => hk.1))); (case aS => exact (below_size (by repeat (first | (with_reducible first | exact HB.out | apply below_alloc | apply pw_below_drewN | apply below_drew1) | exact HB.out)))); (case aL => have := LMc18.out; omega); intro v238 w23 ho hb hg hat; rw [← Ny237.out] at ho; have n0_ := Aside0.mk (Kd.N_afterv (ok := (fun k_ => (w.heap.size ≤ k_) ∧ some k_ ≠ (.slice (some ad236) t230.length co14 : Value).ownBlock)) (by (with_reducible repeat (first | apply Kd.N_alloc | apply Kd.N_drewN | apply Kd.N_drew)); exact HO_5.out) hg hat); have n1_ := Aside0.mk (Kd.N_afterv (ok := (fun k_ => (w.heap.size ≤ k_) ∧ some k_ ≠ (u5 : Value).ownBlock)) (by (with_reducible repeat (first | apply Kd.N_alloc | apply Kd.N_drewN | apply Kd.N_drew)); exact HO_6.out) hg hat); have n2_ := Aside0.mk (Kd.V_afterv (ok := (fun k_ => (w.heap.size ≤ k_) ∧ some k_ ≠ (u5 : Value).ownBlock ∧ some k_ ≠ (.slice (some ad236) t230.length co14 : Value).ownBlock)) (by (with_reducible repeat (first | apply Kd.V_alloc | apply Kd.V_drewN | apply Kd.V_drew)); exact Kd.V_mono HL236_0.out (fun _ hk => ⟨⟨hk.1.1.1, ⟨hk.1.1.2, hk.2⟩⟩, hk.1.2⟩)) hg hat); have n3_ := Aside0.mk (hb); have n4_ := Aside0.mk (ho); clear HO_5; clear HO_6; clear HL236_0; clear HB; clear HO235; have HO_5 := n0_; have HO_6 := n1_; have HL236_0 := n2_; have HB := n3_; have HO239 := n4_; clear n0_ n1_ n2_ n3_ n4_; clear ho hb hg hat) | ((with_reducible refine gate_builtin (b := .append) (xs := #[.tmp 35, .tmp 37]) rfl ?_); at_builtin; refine Kd.R_append (Kd.int .i64) (w0 := w) w.heap.size rfl (.tmp 35) (.tmp 37) 25 3 (.int .i64 0) 8 rfl Tryd.underlying25 info3 rfl (by decide) (by omega) v238 y237 x8_2 [.int .i64 x8_2] (fun k_ => (w.heap.size ≤ k_)) (fun _ => False) rfl rfl ?aP (fun _ hk => hk.elim) ?aF ?aO ?aB ?aS ?aL ?_; (case aP => exact rfl); (case aB => exact (by repeat (first | (with_reducible first | exact HB.out | apply below_alloc | apply pw_below_drewN | apply below_drew1) | exact HB.out))); (case aF => exact (fun k_ hk => (Nat.le_trans (below_size (by repeat (first | (with_reducible first | exact HB.out | apply below_alloc | apply pw_below_drewN | apply below_drew1) | exact HB.out))) hk))); (case aO => exact (by (with_reducible repeat (first | apply Kd.R_alloc | apply Kd.R_drewN | apply Kd.R_drew)); exact HO239.out)); (case aS => exact (below_size (by repeat (first | (with_reducible first | exact HB.out | apply below_alloc | apply pw_below_drewN | apply below_drew1) | exact HB.out)))); (case aL => have := LMc19.out; omega); intro v241 w24 ho hb hg hat; rw [← Ny240.out] at ho; have n0_ := Aside0.mk (Kd.N_afterv (ok := (fun k_ => (w.heap.size ≤ k_) ∧ some k_ ≠ (.slice (some ad236) t230.length co14 : Value).ownBlock)) (by (with_reducible repeat (first | apply Kd.N_alloc | apply Kd.N_drewN | apply Kd.N_drew)); exact HO_5.out) hg hat); have n1_ := Aside0.mk (Kd.N_afterv (ok := (fun k_ => (w.heap.size ≤ k_) ∧ some k_ ≠ (u5 : Value).ownBlock)) (by (with_reducible repeat (first | apply Kd.N_alloc | apply Kd.N_drewN | apply Kd.N_drew)); exact HO_6.out) hg hat); have n2_ := Aside0.mk (Kd.V_afterv (ok := (fun k_ => (w.heap.size ≤ k_) ∧ some k_ ≠ (u5 : Value).ownBlock ∧ some k_ ≠ (.slice (some ad236) t230.length co14 : Value).ownBlock)) (by (with_reducible repeat (first | apply Kd.V_alloc | apply Kd.V_drewN | apply Kd.V_drew)); exact HL236_0.out) hg hat); have n3_ := Aside0.mk (hb); have n4_ := Aside0.mk (ho); clear HO_5; clear HO_6; clear HL236_0; clear HB; clear HO239; have HO_5 := n0_; have HO_6 := n1_; have HL236_0 := n2_; have HB := n3_; have HO242 := n4_; clear n0_ n1_ n2_ n3_ n4_; clear ho hb hg hat; obtain ⟨Ao26, co26, eo26⟩ := Kd.R_slice HO242.out; subst eo26) | ((with_reducible refine gate_builtin (b := .append) (xs := #[.tmp 29, .tmp 39]) rfl ?_); at_builtin; refine Kd.N_append (Kd.slice 3 (Kd.int .i64)) (w0 := w) w.heap.size rfl (.tmp 29) (.tmp 39) 110 25 (.slice none 0 0) 24 rfl Tryd.underlying110 info25 rfl (by decide) (by omega) u5 x5_2 y240 [.slice Ao26 y240.length co26] (fun k_ => (w.heap.size ≤ k_) ∧ some k_ ≠ (.slice (some ad236) t230.length co14 : Value).ownBlock) (fun k_ => ((fun k_ => (w.heap.size ≤ k_) ∧ some k_ ≠ (.slice (some ad236) t230.length co14 : Value).ownBlock)) k_ ∧ some k_ ≠ (u5 : Value).ownBlock) rfl rfl ?aP (fun _ hk => hk) ?aF ?aO ?aB ?aS ?aL ?_; (case aP => exact (Kd.FK_slice_mk (Kd.R_reads' (Kd.R_mono (ok' := (fun k_ => ((fun k_ => (w.heap.size ≤ k_) ∧ some k_ ≠ (.slice (some ad236) t230.length co14 : Value).ownBlock)) k_ ∧ some k_ ≠ (u5 : Value).ownBlock)) (Kd.R_apart' (Kd.R_apart' (HO242.out) (Kd.N_typed HO_6.out) (by decide)) (Kd.N_typed HO_5.out) (by decide)) (fun k_ hk => ⟨⟨hk.1.1, hk.1.2⟩, hk.2⟩))).2.1 (Kd.R_F (Kd.R_mono (ok' := (fun k_ => ((fun k_ => (w.heap.size ≤ k_) ∧ some k_ ≠ (.slice (some ad236) t230.length co14 : Value).ownBlock)) k_ ∧ some k_ ≠ (u5 : Value).ownBlock)) (Kd.R_apart' (Kd.R_apart' (HO242.out) (Kd.N_typed HO_6.out) (by decide)) (Kd.N_typed HO_5.out) (by decide)) (fun k_ hk => ⟨⟨hk.1.1, hk.1.2⟩, hk.2⟩))))); (case aB => exact (by repeat (first | (with_reducible first | exact HB.out | apply below_alloc | apply pw_below_drewN | apply below_drew1) | exact HB.out))); (case aF => exact (fun k_ hk => ⟨(Nat.le_trans (below_size (by repeat (first | (with_reducible first | exact HB.out | apply below_alloc | apply pw_below_drewN | apply below_drew1) | exact HB.out))) hk), Kd.fresh' (Kd.N_lt (by (with_reducible repeat (first | apply Kd.N_alloc | apply Kd.N_drewN | apply Kd.N_drew)); exact HO_6.out)) k_ hk⟩)); (case aO => exact (by (with_reducible repeat (first | apply Kd.N_alloc | apply Kd.N_drewN | apply Kd.N_drew)); exact Kd.N_mono HO_5.out (fun _ hk => ⟨hk.1.1, hk.1.2⟩))); (case aS => exact (below_size (by repeat (first | (with_reducible first | exact HB.out | apply below_alloc | apply pw_below_drewN | apply below_drew1) | exact HB.out)))); (case aL => have := LMc20.out; omega); intro v244 w25 ho hb hg hat; rw [← Ny243.out] at ho; have n0_ := Aside0.mk (Kd.N_afterv (ok := (fun k_ => (w.heap.size ≤ k_) ∧ some k_ ≠ (.slice Ao26 y240.length co26 : Value).ownBlock)) (by (with_reducible repeat (first | apply Kd.N_alloc | apply Kd.N_drewN | apply Kd.N_drew)); exact Kd.N_mono HO_6.out (fun _ hk => ⟨⟨hk.1.1, hk.2⟩, hk.1.2⟩)) hg hat); have n1_ := Aside0.mk (Kd.V_afterv (ok := (fun k_ => (w.heap.size ≤ k_) ∧ some k_ ≠ (.slice (some ad236) t230.length co14 : Value).ownBlock ∧ some k_ ≠ (.slice Ao26 y240.length co26 : Value).ownBlock)) (by (with_reducible repeat (first | apply Kd.V_alloc | apply Kd.V_drewN | apply Kd.V_drew)); exact Kd.V_mono HL236_0.out (fun _ hk => ⟨⟨hk.1.1, ⟨hk.1.2.2, hk.2⟩⟩, hk.1.2.1⟩)) hg hat); have n2_ := Aside0.mk (hb); have n3_ := Aside0.mk (ho); clear HO_6; clear HL236_0; clear HB; clear HO_5; clear HO242; have HO_6 := n0_; have HL236_0 := n1_; have HB := n2_; have HO245 := n3_; clear n0_ n1_ n2_ n3_; clear ho hb hg hat))
                          go_roundg k2
                          case measure => have := HK1.out; have := HK2.out; omega
                          case rel => exact ⟨(y243), (wrap64 (x8_2 + 1)), (by first | rfl | (simp; done) | (simp [*]; done)), H', ⟨by have := HK1.out; have := HK2.out; omega⟩, ⟨by (with_reducible repeat (first | apply Kd.N_alloc | apply Kd.N_drewN | apply Kd.N_drew)); exact HO245.out⟩, ⟨by (with_reducible repeat (first | apply Kd.N_alloc | apply Kd.N_drewN | apply Kd.N_drew)); exact Kd.N_mono HO_6.out (fun _ hk => ⟨hk.1.1, hk.2⟩)⟩, ⟨by repeat (first | (with_reducible first | exact HB.out | apply below_alloc | apply pw_below_drewN | apply below_drew1) | exact HB.out)⟩⟩
                        · rw [if_neg c20] at H
                          exact absurd H (by simp)
                      · rw [if_neg c19] at H
                        exact absurd H (by simp)
                    · rw [if_neg c18] at H
                      exact absurd H (by simp)
                  · rw [if_neg c17] at H
                    exact absurd H (by simp)
                · rw [if_neg c16] at H
                  exact absurd H (by simp)
              · rw [if_neg c15] at H
                have c15b0 : decide (x8_2 < a1) = false := decide_eq_false c15
                clear c15
                have H' := Aside0.mk H
                clear H
                go_wp2
                go_roundg k2
                case measure => have := HK1.out; have := HK2.out; omega
                case rel => exact ⟨(x5_2), (wrap64 (x7_1 + 1)), (by first | rfl | (simp; done) | (simp [*]; done)), H', ⟨by have := HK1.out; have := HK2.out; omega⟩, ⟨by (with_reducible repeat (first | apply Kd.N_alloc | apply Kd.N_drewN | apply Kd.N_drew)); exact HO_5.out⟩, ⟨by (with_reducible repeat (first | apply Kd.N_alloc | apply Kd.N_drewN | apply Kd.N_drew)); exact HO_6.out⟩, ⟨by repeat (first | (with_reducible first | exact HB.out | apply below_alloc | apply pw_below_drewN | apply below_drew1) | exact HB.out)⟩⟩
        · rw [if_neg c13] at H
          have c13b0 : decide (x7_1 < (t230.length : Int)) = false := decide_eq_false c13
          clear c13
          obtain rfl := Option.some.inj H
          obtain ⟨Ao27, co27, eo27⟩ := Kd.N_slice HO_6.out
          subst eo27
          go_wp2
          go_ret
          exact ⟨_, by first | rfl | (simp [errW_none, errW_some] <;> rfl) | (simp [*, errW_none, errW_some] <;> rfl), by (with_reducible repeat (first | apply Kd.N_alloc | apply Kd.N_drewN | apply Kd.N_drew)); exact Kd.N_mono HO_5.out (fun _ hk => hk.1), by repeat (first | (with_reducible first | exact HB.out | apply below_alloc | apply pw_below_drewN | apply below_drew1) | exact HB.out)⟩
mutual
def smaltoref03_Fired.l0 : Nat → List Bool → List Int → Int → Option (Bool)
  | 0, _, _, _ => none
  | k + 1, x0, x1, x5 => if x5 < 6 then (smaltoref03_Fired.l1 k x0 x1 x5 0 0) else (some true)
def smaltoref03_Fired.l1 : Nat → List Bool → List Int → Int → Int → Int → Option (Bool)
  | 0, _, _, _, _, _ => none
  | k + 1, x0, x1, x5, x6, x7 => if x7 < (x1.length : Int) then (if 0 ≤ x7 then (if (rd x1 x7) = x5 then (if 0 ≤ (IntKind.u64.wrap (x7)) then (smaltoref03_Fired.l1 k x0 x1 x5 (wrap64 (x6 + (shl .i64 1 (IntKind.u64.wrap (x7))))) (wrap64 (x7 + 1))) else (none)) else (smaltoref03_Fired.l1 k x0 x1 x5 x6 (wrap64 (x7 + 1)))) else (none)) else (if 0 ≤ x6 then (if x6 < (x0.length : Int) then (if rdOf false x0 x6 = true then (smaltoref03_Fired.l0 k x0 x1 (wrap64 (x5 + 1))) else (some false)) else (none)) else (none))
end
def smaltoref03_Fired.f (k : Nat) (l0 : List Bool) (l1 : List Int) : Option (Bool) := smaltoref03_Fired.l0 k l0 l1 0
theorem smaltoref03_Fired.mono_l : ∀ k, (∀ y0 y1 y2, LeO (smaltoref03_Fired.l0 k y0 y1 y2) (smaltoref03_Fired.l0 (k + 1) y0 y1 y2)) ∧ (∀ y0 y1 y2 y3 y4, LeO (smaltoref03_Fired.l1 k y0 y1 y2 y3 y4) (smaltoref03_Fired.l1 (k + 1) y0 y1 y2 y3 y4))
  | 0 => ⟨fun _ _ _ r h => by simp [smaltoref03_Fired.l0] at h, fun _ _ _ _ _ r h => by simp [smaltoref03_Fired.l1] at h⟩
  | k + 1 => by
    obtain ⟨ih0, ih1⟩ := smaltoref03_Fired.mono_l k
    refine ⟨?_, ?_⟩
    · intro y0 y1 y2
      unfold smaltoref03_Fired.l0
      repeat' first
      | (with_reducible exact ih0 _ _ _)
      | (with_reducible exact ih1 _ _ _ _ _)
      | (with_reducible exact LeO.refl _)
      | (with_reducible exact LeO.none _)
      | (with_reducible refine LeO.ite ?_ ?_)
      | (with_reducible refine LeO.bind ?_ (fun _ => ?_))
      | exact ih0 _ _ _
      | exact ih1 _ _ _ _ _
      | exact LeO.none _
      | refine LeO.ite ?_ ?_
      | refine LeO.bind ?_ (fun _ => ?_)
    · intro y0 y1 y2 y3 y4
      unfold smaltoref03_Fired.l1
      repeat' first
      | (with_reducible exact ih0 _ _ _)
      | (with_reducible exact ih1 _ _ _ _ _)
      | (with_reducible exact LeO.refl _)
      | (with_reducible exact LeO.none _)
      | (with_reducible refine LeO.ite ?_ ?_)
      | (with_reducible refine LeO.bind ?_ (fun _ => ?_))
      | exact ih0 _ _ _
      | exact ih1 _ _ _ _ _
      | exact LeO.none _
      | refine LeO.ite ?_ ?_
      | refine LeO.bind ?_ (fun _ => ?_)
theorem smaltoref03_Fired.mono : ∀ a0 a1 k, LeO (smaltoref03_Fired.f k a0 a1) (smaltoref03_Fired.f (k + 1) a0 a1) := by
  intro a0 a1 k
  obtain ⟨ih0, ih1⟩ := smaltoref03_Fired.mono_l k
  unfold smaltoref03_Fired.f
  repeat' first
      | (with_reducible exact ih0 _ _ _)
      | (with_reducible exact ih1 _ _ _ _ _)
      | (with_reducible exact LeO.refl _)
      | (with_reducible exact LeO.none _)
      | (with_reducible refine LeO.ite ?_ ?_)
      | (with_reducible refine LeO.bind ?_ (fun _ => ?_))
      | exact ih0 _ _ _
      | exact ih1 _ _ _ _ _
      | exact LeO.none _
      | refine LeO.ite ?_ ?_
      | refine LeO.bind ?_ (fun _ => ?_)
set_option maxHeartbeats 8000000 in
set_option maxRecDepth 100000 in
theorem smaltoref03_Fired.calls (k : Nat) (A0 : Option Addr) (c0 : Nat) (l0 : List Bool) (A1 : Option Addr) (c1 : Nat) (l1 : List Int) (r : Bool) (w : World) (hr0 : Kd.C Kd.bool w A0 l0.length l0) (hc0 : l0.length ≤ c0) (hr1 : Kd.C (Kd.int .i64) w A1 l1.length l1) (hc1 : l1.length ≤ c1) (h : smaltoref03_Fired.f k l0 l1 = some r) :
    Calls Tryd.prog 79 #[.slice A0 l0.length c0, .slice A1 l1.length c1] w fun e w' => e = .returned (.bool r) ∧ Drawn0 w w' := by
  have HR0 := Aside0.mk hr0
  have HC0 := Aside0.mk hc0
  clear hr0 hc0
  have HR1 := Aside0.mk hr1
  have HC1 := Aside0.mk hc1
  clear hr1 hc1
  have H : (smaltoref03_Fired.l0 k l0 l1 0) = some r := h
  clear h
  have H' := Aside0.mk H
  clear H
  go_enter Tryd.func79, Tryd.ntmps79
  go_wp2
  go_loopg [5] k (fun kq v5 w' => ∃ (x5_1 : Int), v5 = .int .i64 x5_1 ∧ Aside0 (smaltoref03_Fired.l0 kq l0 l1 x5_1 = some r) ∧ Aside0 (kq ≤ k) ∧ Drawn0 w w')
  case atStart => exact ⟨(0), (by first | rfl | (simp; done) | (simp [*]; done)), H', ⟨Nat.le_refl _⟩, by repeat (first | exact Drawn0.refl _ | apply Drawn0.step)⟩
  case round =>
    clear H'
    try clear c1
    try clear p2
    obtain ⟨x5_1, rfl, HA, HK1, ⟨m1, rfl⟩⟩ := hrel
    cases gk with
    | zero => exact absurd HA.out (by simp [smaltoref03_Fired.l0])
    | succ k1 =>
      have H := HA.out
      clear HA
      simp only [smaltoref03_Fired.l0] at H
      by_cases c3 : x5_1 < 6
      · rw [if_pos c3] at H
        have c3b0 : decide (x5_1 < 6) = true := decide_eq_true c3
        clear c3
        have H' := Aside0.mk H
        clear H
        go_wp2
        go_loopg [6, 7] k1 (fun kq v6 v7 w' => ∃ (x6_2 : Int) (x7_2 : Int), v6 = .int .i64 x6_2 ∧ v7 = .int .i64 x7_2 ∧ Aside0 (smaltoref03_Fired.l1 kq l0 l1 x5_1 x6_2 x7_2 = some r) ∧ Aside0 (kq ≤ k1) ∧ Drawn0 w w')
        case atStart => exact ⟨(0), (0), (by first | rfl | (simp; done) | (simp [*]; done)), (by first | rfl | (simp; done) | (simp [*]; done)), H', ⟨Nat.le_refl _⟩, by repeat (first | exact Drawn0.refl _ | apply Drawn0.step)⟩
        case round =>
          clear H'
          try clear c1
          try clear p2
          try clear c3
          try clear c3b0
          try clear p2
          obtain ⟨x6_2, x7_2, rfl, rfl, HA, HK2, ⟨m2, rfl⟩⟩ := hrel
          cases gk with
          | zero => exact absurd HA.out (by simp [smaltoref03_Fired.l1])
          | succ k2 =>
            have H := HA.out
            clear HA
            simp only [smaltoref03_Fired.l1] at H
            by_cases c4 : x7_2 < (l1.length : Int)
            · rw [if_pos c4] at H
              have c4b0 : decide (x7_2 < (l1.length : Int)) = true := decide_eq_true c4
              clear c4
              by_cases c5 : 0 ≤ x7_2
              · rw [if_pos c5] at H
                have c5b0 : decide (0 ≤ x7_2) = true := decide_eq_true c5
                clear c5
                by_cases c6 : (rd l1 x7_2) = x5_1
                · rw [if_pos c6] at H
                  have c6b0 : ((rd l1 x7_2) == x5_1) = true := beq_iff_eq.mpr c6
                  have c6b1 : ((rd l1 x7_2) != x5_1) = false := bne_eq_false_iff_eq.mpr c6
                  clear c6
                  obtain ⟨ji7, hji7⟩ : ∃ j_ : Int, (IntKind.u64.wrap (x7_2)) = j_ := ⟨_, rfl⟩
                  replace H : (if 0 ≤ (ji7) then (smaltoref03_Fired.l1 k2 l0 l1 x5_1 (wrap64 (x6_2 + (shl .i64 1 (ji7)))) (wrap64 (x7_2 + 1))) else (none)) = some r := by first | (rw [hji7] at H; exact H) | (simp only [hji7] at H ⊢; exact H)
                  by_cases c8 : 0 ≤ (ji7)
                  · rw [if_pos c8] at H
                    have c8b0 := eq_true c8
                    have c8b1 : decide (0 ≤ (ji7)) = true := decide_eq_true c8
                    clear c8
                    obtain ⟨ji9, hji9⟩ : ∃ j_ : Int, (shl .i64 1 (ji7)) = j_ := ⟨_, rfl⟩
                    replace H : (smaltoref03_Fired.l1 k2 l0 l1 x5_1 (wrap64 (x6_2 + (ji9))) (wrap64 (x7_2 + 1))) = some r := by first | (rw [hji9] at H; exact H) | (simp only [hji9] at H ⊢; exact H)
                    have hji9_ : (IntKind.i64.wrap (1 * 2 ^ min (ji7).toNat 64)) = ji9 := hji9
                    have hji9z : (ji7) ≤ 64 → (IntKind.i64.wrap (1 * 2 ^ (ji7).toNat)) = ji9 := shl_small hji9
                    have hji9u : (IntKind.i64.wrap (2 ^ min (ji7).toNat 64)) = ji9 := by have h_ := hji9_; rw [Int.one_mul] at h_; exact h_
                    have hji9v : (ji7) ≤ 64 → (IntKind.i64.wrap (2 ^ (ji7).toNat)) = ji9 := fun hle_ => by have h_ := hji9z hle_; rw [Int.one_mul] at h_; exact h_
                    have hji9y : (wrap64 (1 * 2 ^ min (ji7).toNat 64)) = ji9 := (i64_w _).symm.trans hji9_
                    have hji9x : (ji7) ≤ 64 → (wrap64 (1 * 2 ^ (ji7).toNat)) = ji9 := fun h_ => (i64_w _).symm.trans (hji9z h_)
                    have H' := Aside0.mk H
                    clear H
                    have p246 : 0 ≤ (x7_2 : Int) := of_decide_eq_true (by first | (with_reducible assumption) | assumption)
                    have q246 : x7_2 < (l1.length : Int) := of_decide_eq_true (by first | (with_reducible assumption) | assumption)
                    obtain ⟨ad246, e246, hx246_0⟩ := Kd.at_int HR1.out x7_2 p246 q246
                    cases e246
                    replace p246 := eq_true p246
                    replace q246 := eq_true q246
                    go_wp2
                    go_roundg k2
                    case measure => have := HK1.out; have := HK2.out; omega
                    case rel => exact ⟨(wrap64 (x6_2 + (ji9))), (wrap64 (x7_2 + 1)), (by first | rfl | (simp; done) | (simp only [← hji9] <;> (first | rfl | simp)) | (simp [*]; done)), (by first | rfl | (simp; done) | (simp [*]; done)), H', ⟨by have := HK1.out; have := HK2.out; omega⟩, by repeat (first | exact Drawn0.refl _ | apply Drawn0.step)⟩
                  · rw [if_neg c8] at H
                    exact absurd H (by simp)
                · rw [if_neg c6] at H
                  have c6b0 : ((rd l1 x7_2) == x5_1) = false := beq_eq_false_iff_ne.mpr c6
                  have c6b1 : ((rd l1 x7_2) != x5_1) = true := bne_iff_ne.mpr c6
                  have H' := Aside0.mk H
                  clear H
                  have p246 : 0 ≤ (x7_2 : Int) := of_decide_eq_true (by first | (with_reducible assumption) | assumption)
                  have q246 : x7_2 < (l1.length : Int) := of_decide_eq_true (by first | (with_reducible assumption) | assumption)
                  obtain ⟨ad246, e246, hx246_0⟩ := Kd.at_int HR1.out x7_2 p246 q246
                  cases e246
                  replace p246 := eq_true p246
                  replace q246 := eq_true q246
                  go_wp2
                  go_roundg k2
                  case measure => have := HK1.out; have := HK2.out; omega
                  case rel => exact ⟨(x6_2), (wrap64 (x7_2 + 1)), (by first | rfl | (simp; done) | (simp [*]; done)), (by first | rfl | (simp; done) | (simp [*]; done)), H', ⟨by have := HK1.out; have := HK2.out; omega⟩, by repeat (first | exact Drawn0.refl _ | apply Drawn0.step)⟩
              · rw [if_neg c5] at H
                exact absurd H (by simp)
            · rw [if_neg c4] at H
              have c4b0 : decide (x7_2 < (l1.length : Int)) = false := decide_eq_false c4
              clear c4
              by_cases c10 : 0 ≤ x6_2
              · rw [if_pos c10] at H
                have c10b0 : decide (0 ≤ x6_2) = true := decide_eq_true c10
                clear c10
                by_cases c11 : x6_2 < (l0.length : Int)
                · rw [if_pos c11] at H
                  have c11b0 : decide (x6_2 < (l0.length : Int)) = true := decide_eq_true c11
                  clear c11
                  obtain ⟨bq12, hbq12⟩ : ∃ b_ : Bool, b_ = (rdOf false l0 x6_2) := ⟨_, rfl⟩
                  replace H : (if bq12 = true then (smaltoref03_Fired.l0 k2 l0 l1 (wrap64 (x5_1 + 1))) else (some false)) = some r := by rw [← hbq12] at H; exact H
                  have Nbq12 := Aside0.mk hbq12
                  clear hbq12
                  by_cases c13 : bq12 = true
                  · subst c13
                    have H1 : (smaltoref03_Fired.l0 k2 l0 l1 (wrap64 (x5_1 + 1))) = some r := by rw [if_pos rfl] at H; exact H
                    clear H
                    have H := H1
                    clear H1
                    have H' := Aside0.mk H
                    clear H
                    have p247 : 0 ≤ (x6_2 : Int) := of_decide_eq_true (by first | (with_reducible assumption) | assumption)
                    have q247 : x6_2 < (l0.length : Int) := of_decide_eq_true (by first | (with_reducible assumption) | assumption)
                    obtain ⟨ad247, e247, hx247_0⟩ := Kd.at_bool HR0.out x6_2 p247 q247
                    (try rw [← Nbq12.out] at hx247_0)
                    cases e247
                    replace p247 := eq_true p247
                    replace q247 := eq_true q247
                    go_wp2
                    go_roundg k2
                    case measure => have := HK1.out; have := HK2.out; omega
                    case rel => exact ⟨(wrap64 (x5_1 + 1)), (by first | rfl | (simp; done) | (simp [*]; done)), H', ⟨by have := HK1.out; have := HK2.out; omega⟩, by repeat (first | exact Drawn0.refl _ | apply Drawn0.step)⟩
                  · replace c13 := Bool.eq_false_iff.mpr c13
                    subst c13
                    have H1 : (some false) = some r := by rw [if_neg (show ¬ (false = true) by decide)] at H; exact H
                    clear H
                    have H := H1
                    clear H1
                    obtain rfl := Option.some.inj H
                    have p247 : 0 ≤ (x6_2 : Int) := of_decide_eq_true (by first | (with_reducible assumption) | assumption)
                    have q247 : x6_2 < (l0.length : Int) := of_decide_eq_true (by first | (with_reducible assumption) | assumption)
                    obtain ⟨ad247, e247, hx247_0⟩ := Kd.at_bool HR0.out x6_2 p247 q247
                    (try rw [← Nbq12.out] at hx247_0)
                    cases e247
                    replace p247 := eq_true p247
                    replace q247 := eq_true q247
                    go_wp2
                    go_ret
                    exact ⟨by first | rfl | (simp; done) | (simp [*]; done), by repeat (first | exact Drawn0.refl _ | apply Drawn0.step)⟩
                · rw [if_neg c11] at H
                  exact absurd H (by simp)
              · rw [if_neg c10] at H
                exact absurd H (by simp)
      · rw [if_neg c3] at H
        have c3b0 : decide (x5_1 < 6) = false := decide_eq_false c3
        clear c3
        obtain rfl := Option.some.inj H
        go_wp2
        go_ret
        exact ⟨by first | rfl | (simp; done) | (simp [*]; done), by repeat (first | exact Drawn0.refl _ | apply Drawn0.step)⟩
mutual
def smaltoref03_Loads.l0 : Nat → List Bool → Int → Int → Option (List Int × Int × Bool)
  | 0, _, _, _ => none
  | k + 1, x0, x1, x7 => if x7 ≤ x1 then ((smaltoref03_Lists.f k x1 x7).bind fun t248 => (smaltoref03_Loads.l1 k x0 x1 x7 t248 0)) else (some (([] : List Int), 0, false))
def smaltoref03_Loads.l1 : Nat → List Bool → Int → Int → List (List Int) → Int → Option (List Int × Int × Bool)
  | 0, _, _, _, _, _ => none
  | k + 1, x0, x1, x7, x8, x9 => if x9 < (x8.length : Int) then (if 0 ≤ x9 then ((smaltoref03_Fired.f k x0 (rd_L3 x8 x9)).bind fun t252 => (if t252 = true then (some (rd_L3 x8 x9, x7, true)) else (smaltoref03_Loads.l1 k x0 x1 x7 x8 (wrap64 (x9 + 1))))) else (none)) else (smaltoref03_Loads.l0 k x0 x1 (wrap64 (x7 + 1)))
end
def smaltoref03_Loads.f (k : Nat) (l0 : List Bool) (a1 : Int) : Option (List Int × Int × Bool) := smaltoref03_Loads.l0 k l0 a1 0
theorem smaltoref03_Loads.mono_l : ∀ k, (∀ y0 y1 y2, LeO (smaltoref03_Loads.l0 k y0 y1 y2) (smaltoref03_Loads.l0 (k + 1) y0 y1 y2)) ∧ (∀ y0 y1 y2 y3 y4, LeO (smaltoref03_Loads.l1 k y0 y1 y2 y3 y4) (smaltoref03_Loads.l1 (k + 1) y0 y1 y2 y3 y4))
  | 0 => ⟨fun _ _ _ r h => by simp [smaltoref03_Loads.l0] at h, fun _ _ _ _ _ r h => by simp [smaltoref03_Loads.l1] at h⟩
  | k + 1 => by
    obtain ⟨ih0, ih1⟩ := smaltoref03_Loads.mono_l k
    refine ⟨?_, ?_⟩
    · intro y0 y1 y2
      unfold smaltoref03_Loads.l0
      repeat' first
      | (with_reducible exact ih0 _ _ _)
      | (with_reducible exact ih1 _ _ _ _ _)
      | (with_reducible exact smaltoref03_Fired.mono _ _ _)
      | (with_reducible exact smaltoref03_Lists.mono _ _ _)
      | (with_reducible exact LeO.refl _)
      | (with_reducible exact LeO.none _)
      | (with_reducible refine LeO.ite ?_ ?_)
      | (with_reducible refine LeO.bind ?_ (fun _ => ?_))
      | exact ih0 _ _ _
      | exact ih1 _ _ _ _ _
      | exact smaltoref03_Fired.mono _ _ _
      | exact smaltoref03_Lists.mono _ _ _
      | exact LeO.none _
      | refine LeO.ite ?_ ?_
      | refine LeO.bind ?_ (fun _ => ?_)
    · intro y0 y1 y2 y3 y4
      unfold smaltoref03_Loads.l1
      repeat' first
      | (with_reducible exact ih0 _ _ _)
      | (with_reducible exact ih1 _ _ _ _ _)
      | (with_reducible exact smaltoref03_Fired.mono _ _ _)
      | (with_reducible exact smaltoref03_Lists.mono _ _ _)
      | (with_reducible exact LeO.refl _)
      | (with_reducible exact LeO.none _)
      | (with_reducible refine LeO.ite ?_ ?_)
      | (with_reducible refine LeO.bind ?_ (fun _ => ?_))
      | exact ih0 _ _ _
      | exact ih1 _ _ _ _ _
      | exact smaltoref03_Fired.mono _ _ _
      | exact smaltoref03_Lists.mono _ _ _
      | exact LeO.none _
      | refine LeO.ite ?_ ?_
      | refine LeO.bind ?_ (fun _ => ?_)
theorem smaltoref03_Loads.mono : ∀ a0 a1 k, LeO (smaltoref03_Loads.f k a0 a1) (smaltoref03_Loads.f (k + 1) a0 a1) := by
  intro a0 a1 k
  obtain ⟨ih0, ih1⟩ := smaltoref03_Loads.mono_l k
  unfold smaltoref03_Loads.f
  repeat' first
      | (with_reducible exact ih0 _ _ _)
      | (with_reducible exact ih1 _ _ _ _ _)
      | (with_reducible exact smaltoref03_Fired.mono _ _ _)
      | (with_reducible exact smaltoref03_Lists.mono _ _ _)
      | (with_reducible exact LeO.refl _)
      | (with_reducible exact LeO.none _)
      | (with_reducible refine LeO.ite ?_ ?_)
      | (with_reducible refine LeO.bind ?_ (fun _ => ?_))
      | exact ih0 _ _ _
      | exact ih1 _ _ _ _ _
      | exact smaltoref03_Fired.mono _ _ _
      | exact smaltoref03_Lists.mono _ _ _
      | exact LeO.none _
      | refine LeO.ite ?_ ?_
      | refine LeO.bind ?_ (fun _ => ?_)
set_option maxHeartbeats 8000000 in
set_option maxRecDepth 100000 in
theorem smaltoref03_Loads.calls (k : Nat) (A0 : Option Addr) (c0 : Nat) (l0 : List Bool) (a1 : Int) (r1 : List Int) (r2 : Int) (r3 : Bool) (w : World) (hr0 : Kd.C Kd.bool w A0 l0.length l0) (hc0 : l0.length ≤ c0) (h : smaltoref03_Loads.f k l0 a1 = some (r1, r2, r3)) :
    Calls Tryd.prog 33 #[.slice A0 l0.length c0, .int .i64 a1] w fun e w' => ∃ v0_ : Value, e = .returned (.tuple #[v0_, .int .i64 r2, .bool r3]) ∧ Kd.V (Kd.int .i64) 3 w' w.heap.size (fun k_ => (w.heap.size ≤ k_)) v0_ r1 ∧ Below w.heap.size w w' := by
  have HR0 := Aside0.mk hr0
  have HC0 := Aside0.mk hc0
  clear hr0 hc0
  have HB := Aside0.mk (Below.refl w.heap.size w)
  have H : (smaltoref03_Loads.l0 k l0 a1 0) = some (r1, r2, r3) := h
  clear h
  have H' := Aside0.mk H
  clear H
  go_enter Tryd.func33, Tryd.ntmps33
  go_wp2
  go_loopg [7] k (fun kq v7 w' => ∃ (x7_1 : Int), v7 = .int .i64 x7_1 ∧ Aside0 (smaltoref03_Loads.l0 kq l0 a1 x7_1 = some (r1, r2, r3)) ∧ Aside0 (kq ≤ k) ∧ Aside0 (Below w.heap.size w w'))
  case atStart => exact ⟨(0), (by first | rfl | (simp; done) | (simp [*]; done)), H', ⟨Nat.le_refl _⟩, ⟨by repeat (first | (with_reducible first | exact HB.out | apply below_alloc | apply pw_below_drewN | apply below_drew1) | exact HB.out)⟩⟩
  case round =>
    clear H'
    try clear p2
    obtain ⟨x7_1, rfl, HA, HK1, HB⟩ := hrel
    cases gk with
    | zero => exact absurd HA.out (by simp [smaltoref03_Loads.l0])
    | succ k1 =>
      have H := HA.out
      clear HA
      simp only [smaltoref03_Loads.l0] at H
      by_cases c3 : x7_1 ≤ a1
      · rw [if_pos c3] at H
        have c3b0 : decide (x7_1 ≤ a1) = true := decide_eq_true c3
        clear c3
        replace H := Option.bind_eq_some_iff.mp H
        obtain ⟨t248, A40, H⟩ := H
        replace H : (smaltoref03_Loads.l1 k1 l0 a1 x7_1 t248 0) = some (r1, r2, r3) := H
        have A4 := Aside0.mk A40
        clear A40
        have H' := Aside0.mk H
        clear H
        go_wp2_with (first | ((with_reducible refine gate_callee (f := 78) rfl ?_); refine goesL_ (some 17) rfl rfl Tryd.func78 (by kernel_rfl) rfl #[.int .i64 a1, .int .i64 x7_1] rfl (by (try simp only [List.map_toArray, List.map_cons, List.map_nil]); first | done | rfl | (simp only [List.length_drop, List.length_take]; rfl)) ?_; (with_reducible refine (smaltoref03_Lists.calls k1 a1 x7_1 t248 _ A4.out).mono ?_); rintro e w5 ⟨v249, rfl, ho0, hb⟩; refine ⟨_, rfl, ?_⟩; have n0_ := Aside0.mk (Kd.N_lower (Kd.N_mono (ok' := fun k_ => (w.heap.size ≤ k_)) ho0 (fun k_ hk_ => (Nat.le_trans (below_size (by repeat (first | (with_reducible first | exact HB.out | apply below_alloc | apply pw_below_drewN | apply below_drew1) | exact HB.out))) hk_))) (below_size (by repeat (first | (with_reducible first | exact HB.out | apply below_alloc | apply pw_below_drewN | apply below_drew1) | exact HB.out)))); have n1_ := Aside0.mk (below_step (by repeat (first | (with_reducible first | exact HB.out | apply below_alloc | apply pw_below_drewN | apply below_drew1) | exact HB.out)) hb); clear HB; have HO250 := n0_; have HB := n1_; clear n0_ n1_; (try clear hb); (try clear hb2); (try clear hk); (try clear hi); (try clear ho0)))
        go_loopg [9] k1 (fun kq v9 w' => ∃ (x9_2 : Int), v9 = .int .i64 x9_2 ∧ Aside0 (smaltoref03_Loads.l1 kq l0 a1 x7_1 t248 x9_2 = some (r1, r2, r3)) ∧ Aside0 (kq ≤ k1) ∧ Aside0 (Kd.N (Kd.slice 3 (Kd.int .i64)) 25 w' w.heap.size (fun k_ => (w.heap.size ≤ k_)) v249 t248) ∧ Aside0 (Below w.heap.size w w'))
        case atStart => exact ⟨(0), (by first | rfl | (simp; done) | (simp [*]; done)), H', ⟨Nat.le_refl _⟩, ⟨by (with_reducible repeat (first | apply Kd.N_alloc | apply Kd.N_drewN | apply Kd.N_drew)); exact HO250.out⟩, ⟨by repeat (first | (with_reducible first | exact HB.out | apply below_alloc | apply pw_below_drewN | apply below_drew1) | exact HB.out)⟩⟩
        case round =>
          clear H'
          try clear p2
          try clear c3
          try clear c3b0
          try clear p2
          obtain ⟨x9_2, rfl, HA, HK2, HO_8, HB⟩ := hrel
          cases gk with
          | zero => exact absurd HA.out (by simp [smaltoref03_Loads.l1])
          | succ k2 =>
            have H := HA.out
            clear HA
            simp only [smaltoref03_Loads.l1] at H
            by_cases c6 : x9_2 < (t248.length : Int)
            · rw [if_pos c6] at H
              have c6b0 : decide (x9_2 < (t248.length : Int)) = true := decide_eq_true c6
              clear c6
              by_cases c7 : 0 ≤ x9_2
              · rw [if_pos c7] at H
                have c7b0 : decide (0 ≤ x9_2) = true := decide_eq_true c7
                clear c7
                replace H := Option.bind_eq_some_iff.mp H
                obtain ⟨t252, A80, H⟩ := H
                replace H : (if t252 = true then (some (rd_L3 t248 x9_2, x7_1, true)) else (smaltoref03_Loads.l1 k2 l0 a1 x7_1 t248 (wrap64 (x9_2 + 1)))) = some (r1, r2, r3) := H
                have A8 := Aside0.mk A80
                clear A80
                by_cases c9 : t252 = true
                · subst c9
                  have H1 : (some (rd_L3 t248 x9_2, x7_1, true)) = some (r1, r2, r3) := by rw [if_pos rfl] at H; exact H
                  clear H
                  have H := H1
                  clear H1
                  simp only [Option.some.injEq, Prod.mk.injEq] at H
                  obtain ⟨rfl, rfl, rfl⟩ := H
                  obtain ⟨Ao10, co10, eo10⟩ := Kd.N_slice HO_8.out
                  subst eo10
                  have p251 : 0 ≤ (x9_2 : Int) := of_decide_eq_true (by first | (with_reducible assumption) | assumption)
                  have q251 : x9_2 < (t248.length : Int) := of_decide_eq_true (by first | (with_reducible assumption) | assumption)
                  obtain ⟨ad251, A251_0, c251_0, e251, hx251_0, hl251_0, hi251_0⟩ := at_L3 (Kd.N_reads' HO_8.out).2.2 x9_2 p251 q251
                  cases e251
                  obtain ⟨ce251, hce251, hMe251, hcc251⟩ := Kd.N_get HO_8.out [] x9_2 p251 (by first | exact q251 | exact of_decide_eq_true (by first | (with_reducible assumption) | assumption) | (have e_ := (Kd.N_reads' HO_8.out).1; omega))
                  obtain ⟨ua251_0, uc251_0, rfl, ul251_0, ge251_0⟩ := Kd.FK_slice_open hMe251
                  have hv251_0 := hcc251 0 _ rfl
                  rw [Nat.add_zero, show ((Kd.slice 3 (Kd.int .i64))).sz = 1 from rfl, Nat.mul_one] at hv251_0
                  replace hv251_0 := Option.some.inj (hv251_0.symm.trans hx251_0)
                  injection hv251_0 with hva_ hvn_ hvc_
                  rw [hva_] at ge251_0
                  rw [hvc_] at ul251_0
                  have HL251_0 := Aside0.mk (show Kd.V (Kd.int .i64) 3 _ w.heap.size _ _ (rd_L3 t248 x9_2) from Kd.V_mk ul251_0 ge251_0)
                  clear hva_ hvn_ hvc_ ge251_0 ul251_0
                  clear hcc251 hce251
                  have HR251_0 := Aside0.mk hi251_0
                  have HC251_0 := Aside0.mk hl251_0
                  clear hi251_0 hl251_0
                  replace p251 := eq_true p251
                  replace q251 := eq_true q251
                  go_wp2_with (first | ((with_reducible refine gate_callee (f := 79) rfl ?_); refine goesL_ (some 29) rfl rfl Tryd.func79 (by kernel_rfl) rfl #[.slice A0 l0.length c0, .slice A251_0 (rd_L3 t248 x9_2).length c251_0] rfl (by (try simp only [List.map_toArray, List.map_cons, List.map_nil]); first | done | rfl | (simp only [List.length_drop, List.length_take]; rfl)) ?_; (with_reducible refine (smaltoref03_Fired.calls k2 _ _ l0 _ _ (rd_L3 t248 x9_2) true _ ?side1 ?side2 ?side3 ?side4 A8.out).mono ?_); (case side1 => repeat (first | exact (Kd.C_below HR0.out HB.out) | (with_reducible refine Kd.C_alloc ?_ _) | (with_reducible refine Kd.C_drewN ?_ _) | (with_reducible refine Kd.C_drew ?_))); (case side2 => exact HC0.out); (case side3 => repeat (first | exact (by repeat (first | (with_reducible exact HR251_0.out) | (with_reducible refine Kd.C_alloc ?_ _) | (with_reducible refine Kd.C_drewN ?_ _) | (with_reducible refine Kd.C_drew ?_) | exact HR251_0.out)) | (with_reducible refine Kd.C_alloc ?_ _) | (with_reducible refine Kd.C_drewN ?_ _) | (with_reducible refine Kd.C_drew ?_))); (case side4 => exact HC251_0.out); rintro e w' ⟨rfl, ⟨nd, rfl⟩⟩; refine ⟨_, rfl, ?_⟩; have p253 : 0 ≤ (x9_2 : Int) := of_decide_eq_true (by first | (with_reducible assumption) | assumption); have q253 : x9_2 < (t248.length : Int) := of_decide_eq_true (by first | (with_reducible assumption) | assumption); obtain ⟨ad253, A253_0, c253_0, e253, hx253_0, hl253_0, hi253_0⟩ := at_L3 (Kd.N_reads' HO_8.out).2.2 x9_2 p253 q253; obtain rfl : ad251 = ad253 := (by injection e253); obtain ⟨ce253, hce253, hMe253, hcc253⟩ := Kd.N_get HO_8.out [] x9_2 p253 (by first | exact q253 | exact of_decide_eq_true (by first | (with_reducible assumption) | assumption) | (have e_ := (Kd.N_reads' HO_8.out).1; omega)); obtain ⟨ua253_0, uc253_0, rfl, ul253_0, ge253_0⟩ := Kd.FK_slice_open hMe253; have hv253_0 := hcc253 0 _ rfl; rw [Nat.add_zero, show ((Kd.slice 3 (Kd.int .i64))).sz = 1 from rfl, Nat.mul_one] at hv253_0; replace hv253_0 := Option.some.inj (hv253_0.symm.trans hx253_0); injection hv253_0 with hva_ hvn_ hvc_; rw [hva_] at ge253_0; rw [hvc_] at ul253_0; have HL253_0 := Aside0.mk (show Kd.V (Kd.int .i64) 3 _ w.heap.size _ _ (rd_L3 t248 x9_2) from Kd.V_mk ul253_0 ge253_0); clear hva_ hvn_ hvc_ ge253_0 ul253_0; clear hcc253 hce253; have HR253_0 := Aside0.mk hi253_0; have HC253_0 := Aside0.mk hl253_0; clear hi253_0 hl253_0; replace p253 := eq_true p253; replace q253 := eq_true q253; have ea_ := Option.some.inj (hx251_0.symm.trans hx253_0); injection ea_ with ea_ en_ ec_; subst ea_; subst ec_; clear en_))
                  go_ret3
                  exact ⟨_, by first | rfl | (simp [errW_none, errW_some] <;> rfl) | (simp [*, errW_none, errW_some] <;> rfl), by (with_reducible repeat (first | apply Kd.V_alloc | apply Kd.V_drewN | apply Kd.V_drew)); exact Kd.V_mono HL253_0.out (fun _ hk => hk.1), by repeat (first | (with_reducible first | exact HB.out | apply below_alloc | apply pw_below_drewN | apply below_drew1) | exact HB.out)⟩
                · replace c9 := Bool.eq_false_iff.mpr c9
                  subst c9
                  have H1 : (smaltoref03_Loads.l1 k2 l0 a1 x7_1 t248 (wrap64 (x9_2 + 1))) = some (r1, r2, r3) := by rw [if_neg (show ¬ (false = true) by decide)] at H; exact H
                  clear H
                  have H := H1
                  clear H1
                  have H' := Aside0.mk H
                  clear H
                  obtain ⟨Ao11, co11, eo11⟩ := Kd.N_slice HO_8.out
                  subst eo11
                  have p251 : 0 ≤ (x9_2 : Int) := of_decide_eq_true (by first | (with_reducible assumption) | assumption)
                  have q251 : x9_2 < (t248.length : Int) := of_decide_eq_true (by first | (with_reducible assumption) | assumption)
                  obtain ⟨ad251, A251_0, c251_0, e251, hx251_0, hl251_0, hi251_0⟩ := at_L3 (Kd.N_reads' HO_8.out).2.2 x9_2 p251 q251
                  cases e251
                  obtain ⟨ce251, hce251, hMe251, hcc251⟩ := Kd.N_get HO_8.out [] x9_2 p251 (by first | exact q251 | exact of_decide_eq_true (by first | (with_reducible assumption) | assumption) | (have e_ := (Kd.N_reads' HO_8.out).1; omega))
                  obtain ⟨ua251_0, uc251_0, rfl, ul251_0, ge251_0⟩ := Kd.FK_slice_open hMe251
                  have hv251_0 := hcc251 0 _ rfl
                  rw [Nat.add_zero, show ((Kd.slice 3 (Kd.int .i64))).sz = 1 from rfl, Nat.mul_one] at hv251_0
                  replace hv251_0 := Option.some.inj (hv251_0.symm.trans hx251_0)
                  injection hv251_0 with hva_ hvn_ hvc_
                  rw [hva_] at ge251_0
                  rw [hvc_] at ul251_0
                  have HL251_0 := Aside0.mk (show Kd.V (Kd.int .i64) 3 _ w.heap.size _ _ (rd_L3 t248 x9_2) from Kd.V_mk ul251_0 ge251_0)
                  clear hva_ hvn_ hvc_ ge251_0 ul251_0
                  clear hcc251 hce251
                  have HR251_0 := Aside0.mk hi251_0
                  have HC251_0 := Aside0.mk hl251_0
                  clear hi251_0 hl251_0
                  replace p251 := eq_true p251
                  replace q251 := eq_true q251
                  go_wp2_with (first | ((with_reducible refine gate_callee (f := 79) rfl ?_); refine goesL_ (some 29) rfl rfl Tryd.func79 (by kernel_rfl) rfl #[.slice A0 l0.length c0, .slice A251_0 (rd_L3 t248 x9_2).length c251_0] rfl (by (try simp only [List.map_toArray, List.map_cons, List.map_nil]); first | done | rfl | (simp only [List.length_drop, List.length_take]; rfl)) ?_; (with_reducible refine (smaltoref03_Fired.calls k2 _ _ l0 _ _ (rd_L3 t248 x9_2) false _ ?side1 ?side2 ?side3 ?side4 A8.out).mono ?_); (case side1 => repeat (first | exact (Kd.C_below HR0.out HB.out) | (with_reducible refine Kd.C_alloc ?_ _) | (with_reducible refine Kd.C_drewN ?_ _) | (with_reducible refine Kd.C_drew ?_))); (case side2 => exact HC0.out); (case side3 => repeat (first | exact (by repeat (first | (with_reducible exact HR251_0.out) | (with_reducible refine Kd.C_alloc ?_ _) | (with_reducible refine Kd.C_drewN ?_ _) | (with_reducible refine Kd.C_drew ?_) | exact HR251_0.out)) | (with_reducible refine Kd.C_alloc ?_ _) | (with_reducible refine Kd.C_drewN ?_ _) | (with_reducible refine Kd.C_drew ?_))); (case side4 => exact HC251_0.out); rintro e w' ⟨rfl, ⟨nd, rfl⟩⟩; refine ⟨_, rfl, ?_⟩))
                  go_roundg k2
                  case measure => have := HK1.out; have := HK2.out; omega
                  case rel => exact ⟨(wrap64 (x9_2 + 1)), (by first | rfl | (simp; done) | (simp [*]; done)), H', ⟨by have := HK1.out; have := HK2.out; omega⟩, ⟨by (with_reducible repeat (first | apply Kd.N_alloc | apply Kd.N_drewN | apply Kd.N_drew)); exact HO_8.out⟩, ⟨by repeat (first | (with_reducible first | exact HB.out | apply below_alloc | apply pw_below_drewN | apply below_drew1) | exact HB.out)⟩⟩
              · rw [if_neg c7] at H
                exact absurd H (by simp)
            · rw [if_neg c6] at H
              have c6b0 : decide (x9_2 < (t248.length : Int)) = false := decide_eq_false c6
              clear c6
              have H' := Aside0.mk H
              clear H
              obtain ⟨Ao12, co12, eo12⟩ := Kd.N_slice HO_8.out
              subst eo12
              go_wp2
              go_roundg k2
              case measure => have := HK1.out; have := HK2.out; omega
              case rel => exact ⟨(wrap64 (x7_1 + 1)), (by first | rfl | (simp; done) | (simp [*]; done)), H', ⟨by have := HK1.out; have := HK2.out; omega⟩, ⟨by repeat (first | (with_reducible first | exact HB.out | apply below_alloc | apply pw_below_drewN | apply below_drew1) | exact HB.out)⟩⟩
      · rw [if_neg c3] at H
        have c3b0 : decide (x7_1 ≤ a1) = false := decide_eq_false c3
        clear c3
        simp only [Option.some.injEq, Prod.mk.injEq] at H
        obtain ⟨rfl, rfl, rfl⟩ := H
        go_wp2
        go_ret3
        exact ⟨_, by first | rfl | (simp [errW_none, errW_some] <;> rfl) | (simp [*, errW_none, errW_some] <;> rfl), Kd.R_V (base := w.heap.size) (by first | exact Kd.R_nil _ _ _ _ _ | exact Kd.N_nil _ _ _ _ _ | exact Kd.V_nil _ _ _ _ _ | exact Kd.Q_nil _ _ _ _ _ | exact Kd.S_nil _ _ _ _ _), by repeat (first | (with_reducible first | exact HB.out | apply below_alloc | apply pw_below_drewN | apply below_drew1) | exact HB.out)⟩
end Go.Proofs.YtbijamlgcebgeaaDoor.Q

-- part NA
namespace Go.Proofs.YtbijamlgcebgeaaDoor.Hand
open Go.RowKit Go.Shelf Go.Sort Go.Proofs.YtbijamlgcebgeaaDoorW.PrintWords Go.Proofs.YtbijamlgcebgeaaDoorW.PrintMore Go.Proofs.YtbijamlgcebgeaaDoor.Q
/-- All lists of n numbers below m, ascending. -/
def allLs (m : Nat) : Nat → List (List Int)
  | 0 => [[]]
  | n + 1 => (allLs m n).flatMap fun b => (List.range m).map fun j => b ++ [((j : Nat) : Int)]
theorem allLs_succ (m n : Nat) : allLs m (n + 1) = (allLs m n).flatMap fun b => (List.range m).map fun j => b ++ [((j : Nat) : Int)] := rfl
theorem allLs_first (m : Nat) : ∀ n, allLs m (n + 1) = (List.range m).flatMap fun j => (allLs m n).map fun b => ((j : Nat) : Int) :: b := by
  intro n
  induction n with
  | zero => simp [allLs, List.flatMap, List.map_map, Function.comp_def]; induction m <;> simp_all [List.range_succ]
  | succ n ih =>
    rw [allLs_succ m (n + 1)]
    conv => lhs; rw [ih, List.flatMap_assoc]
    congr 1
    funext j
    rw [allLs_succ, List.map_flatMap, List.flatMap_map]
    congr 1
    funext b
    simp
theorem allLs_len (m : Nat) : ∀ n, (allLs m n).length = m ^ n := by
  intro n
  induction n with
  | zero => rfl
  | succ n ih =>
    have hs : ∀ L : List (List Int), (L.map fun _ => m).sum = L.length * m := by
      intro L
      induction L with
      | nil => simp
      | cons x L ihL => simp only [List.map_cons, List.sum_cons, List.length_cons, ihL, Nat.succ_mul]; omega
    rw [allLs_succ, List.length_flatMap]
    simp only [List.length_map, List.length_range]
    rw [hs, ih, Nat.pow_succ]
theorem allLs_mem (m : Nat) : ∀ n, ∀ x ∈ allLs m n, x.length = n ∧ ∀ y ∈ x, 0 ≤ y ∧ y < m := by
  intro n
  induction n with
  | zero => intro x hx; simp [allLs] at hx; subst hx; simp
  | succ n ih =>
    intro x hx
    rw [allLs, List.mem_flatMap] at hx
    obtain ⟨b, hb, hx⟩ := hx
    obtain ⟨j, hj, rfl⟩ := List.mem_map.1 hx
    have := ih b hb
    refine ⟨by simp [this.1], ?_⟩
    intro y hy
    rcases List.mem_append.1 hy with h | h
    · exact this.2 y h
    · have : y = j := by simpa using h
      have := List.mem_range.1 hj
      omega
theorem rdL3_get {l : List (List Int)} {i : Nat} (h : i < l.length) : rd_L3 l (i : Int) = l[i] := by
  simp [rd_L3, List.getD_eq_getElem?_getD, h]
theorem pow_bd6 {m n : Nat} (hm : m ≤ 6) (hn : n ≤ 6) : m ^ n ≤ 46656 := by
  have h1 : m ^ n ≤ 6 ^ n := Nat.pow_le_pow_left hm n
  have h2 : 6 ^ n ≤ 6 ^ 6 := Nat.pow_le_pow_right (by omega) hn
  omega
/-- One of the elder lists, with each number behind it. -/
theorem Lists_l1 (m : Nat) (hm : m ≤ 6) (before : List (List Int)) (hb : before.length ≤ 46656) (i : Nat) (hi : i < before.length) (hbl : before[i].length ≤ 6) : ∀ (n j k : Nat) (out : List (List Int)), j + n = m → out.length + n ≤ 1000000 →
    smaltoref03_Lists.l1 (k + n + 1) m out before i j = smaltoref03_Lists.l0 k m (out ++ (List.range' j n).map fun j => before[i] ++ [((j : Nat) : Int)]) before ((i : Int) + 1) := by
  intro n
  induction n with
  | zero =>
    intro j k out h ho
    rw [Nat.add_zero, smaltoref03_Lists.l1, if_neg (by omega), w64 (by omega)]
    simp
  | succ n ih =>
    intro j k out h ho
    have := ih (j + 1) k (out ++ [before[i] ++ [((j : Nat) : Int)]]) (by omega) (by simp; omega)
    rw [show ((j + 1 : Nat) : Int) = (j : Int) + 1 by omega] at this
    rw [show k + (n + 1) + 1 = (k + n + 1) + 1 by omega, smaltoref03_Lists.l1, if_pos (by omega)]
    simp only [Option.bind_some, List.nil_append, List.length_nil]
    rw [if_pos (by omega), if_pos (by omega), rdL3_get hi, if_pos (by omega), if_pos (by omega), if_pos (by omega), w64 (by omega), this]
    simp [List.range'_succ]
theorem Lists_l0 (m : Nat) (hm : m ≤ 6) (before : List (List Int)) (hb : before.length ≤ 46656) (hbl : ∀ x ∈ before, x.length ≤ 6) : ∀ (n i k : Nat) (out : List (List Int)), i + n = before.length → out.length + n * m ≤ 900000 → n * (m + 2) + 1 ≤ k →
    smaltoref03_Lists.l0 k m out before i = some (out ++ (before.drop i).flatMap fun b => (List.range m).map fun j => b ++ [((j : Nat) : Int)]) := by
  intro n
  induction n with
  | zero =>
    intro i k out h ho hk
    obtain ⟨k, rfl⟩ : ∃ j, k = j + 1 := ⟨k - 1, by omega⟩
    rw [smaltoref03_Lists.l0, if_neg (by omega), List.drop_eq_nil_of_le (by omega)]
    simp
  | succ n ih =>
    intro i k out h ho hk
    rw [Nat.succ_mul] at hk ho
    obtain ⟨k, rfl⟩ : ∃ j, k = (j + m + 1) + 1 := ⟨k - (m + 2), by omega⟩
    have hi : i < before.length := by omega
    have h1 := Lists_l1 m hm before hb i hi (hbl _ (List.getElem_mem hi)) m 0 k out (by omega) (by omega)
    rw [smaltoref03_Lists.l0, if_pos (by omega)]
    simp only [show ((0 : Nat) : Int) = 0 from rfl] at h1
    rw [h1]
    have := ih (i + 1) k (out ++ (List.range' 0 m).map fun j => before[i] ++ [((j : Nat) : Int)]) (by omega) (by simp; omega) (by omega)
    rw [show ((i + 1 : Nat) : Int) = (i : Int) + 1 by omega] at this
    rw [this, List.drop_eq_getElem_cons hi]
    simp only [List.range_eq_range', List.flatMap_cons, List.append_assoc]
theorem Lists_eq (m : Nat) (hm : m ≤ 6) : ∀ n : Nat, n ≤ 6 → ∀ k, 400000 + n + 1 ≤ k → smaltoref03_Lists.f k n m = some (allLs m n) := by
  intro n
  induction n with
  | zero =>
    intro _ k hk
    obtain ⟨k, rfl⟩ : ∃ j, k = j + 1 := ⟨k - 1, by omega⟩
    rw [smaltoref03_Lists.f, if_pos (by omega)]
    rfl
  | succ n ih =>
    intro hn k hk
    obtain ⟨k, rfl⟩ : ∃ j, k = j + 1 := ⟨k - 1, by omega⟩
    have hlen := allLs_len m n
    have hbd := pow_bd6 hm (show n ≤ 6 by omega)
    rw [smaltoref03_Lists.f, if_neg (by omega), show wrap64 (((n + 1 : Nat) : Int) - 1) = (n : Int) by rw [w64 (by omega)]; omega, ih (by omega) k (by omega)]
    simp only [Option.bind_some]
    have h2 : m ^ n * m ≤ 46656 * 6 := Nat.mul_le_mul hbd hm
    have h3 : m ^ n * (m + 2) ≤ 46656 * 8 := Nat.mul_le_mul hbd (by omega)
    have := Lists_l0 m hm (allLs m n) (by omega) (fun x hx => by have := (allLs_mem m n x hx).1; omega) (m ^ n) 0 k [] (by omega) (by simp; omega) (by omega)
    simp only [show ((0 : Nat) : Int) = 0 from rfl] at this
    rw [this]
    simp [allLs]
/-- The set of the signs with number j. -/
def setN (l : List Int) (j : Int) : Nat := (List.range l.length).foldl (fun s (i : Nat) => if rd l i = j then s ||| 2 ^ i else s) 0
def setK (l : List Int) (j : Int) (k : Nat) : Nat := (List.range k).foldl (fun s (i : Nat) => if rd l i = j then s ||| 2 ^ i else s) 0
theorem setK_succ (l : List Int) (j : Int) (k : Nat) : setK l j (k + 1) = if rd l k = j then setK l j k ||| 2 ^ k else setK l j k := by simp [setK, List.range_succ]
theorem setK_lt (l : List Int) (j : Int) : ∀ k, setK l j k < 2 ^ k := by
  intro k
  induction k with
  | zero => simp [setK]
  | succ k ih =>
    rw [setK_succ]
    have : 2 ^ k < 2 ^ (k + 1) := Nat.pow_lt_pow_right (by decide) (by omega)
    split
    · exact Nat.or_lt_two_pow (by omega) this
    · omega
theorem setK_congr (l l' : List Int) (j : Int) : ∀ k, (∀ i : Nat, i < k → rd l i = rd l' i) → setK l j k = setK l' j k := by
  intro k
  induction k with
  | zero => intro _; rfl
  | succ k ih => intro h; rw [setK_succ, setK_succ, h k (by omega), ih (fun i hi => h i (by omega))]
theorem setN_snoc (l : List Int) (y j : Int) : setN (l ++ [y]) j = if y = j then setN l j ||| 2 ^ l.length else setN l j := by
  have h1 : setN (l ++ [y]) j = setK (l ++ [y]) j (l.length + 1) := by simp [setN, setK]
  have h2 : setK (l ++ [y]) j l.length = setN l j := setK_congr _ _ j l.length (fun i hi => rd_snoc_lt hi)
  rw [h1, setK_succ, rd_snoc_at, h2]
/-- Whether each load goes. -/
def firedB (F : Furn) (l : List Int) : Bool := (List.range 6).all fun (j : Nat) => goesB F (setN l j)
theorem two_pow_w : ∀ n : Nat, n < 6 → shl .i64 1 (IntKind.u64.wrap (n : Int)) = ((2 ^ n : Nat) : Int) ∧ 0 ≤ IntKind.u64.wrap (n : Int) := by decide +kernel
section
variable {F : Furn} (hF : F.Ok) {l : List Int} (hl : l.length = F.l.length)
include hF hl
theorem Fired_l1 (x : Nat) (hx : x < 6) : ∀ (n i k : Nat), i + n = l.length →
    smaltoref03_Fired.l1 (k + n + 1) (tableL F) l x (setK l x i) i = if goesB F (setN l x) = true then smaltoref03_Fired.l0 k (tableL F) l ((x : Int) + 1) else some false := by
  have hs6 := hF.len
  intro n
  induction n with
  | zero =>
    intro i k h
    obtain rfl : i = l.length := by omega
    have hlt := setK_lt l x l.length
    have h64 := (two_pow_u F.l.length hs6).2.2
    rw [hl] at hlt
    rw [Nat.add_zero, smaltoref03_Fired.l1, if_neg (by omega), if_pos (by omega), if_pos (by simp only [tableL, List.length_map, List.length_range]; rw [hl]; omega), w64 (by omega), hl, tableL_at F hlt]
    rw [show setN l x = setK l x F.l.length by rw [← hl]; rfl]
  | succ n ih =>
    intro i k h
    have := ih (i + 1) k (by omega)
    rw [show ((i + 1 : Nat) : Int) = (i : Int) + 1 by omega, setK_succ] at this
    obtain ⟨p1, p2⟩ := two_pow_w i (by omega)
    have hlt := setK_lt l x i
    have h64 : 2 ^ i ≤ 2 ^ 6 := Nat.pow_le_pow_right (by omega) (by omega)
    rw [show k + (n + 1) + 1 = (k + n + 1) + 1 by omega, smaltoref03_Fired.l1, if_pos (by omega), if_pos (by omega), w64 (x := (i : Int) + 1) (by omega)]
    by_cases hr : rd l i = x
    · rw [if_pos hr, if_pos p2, p1]
      rw [if_pos hr, show setK l x i ||| 2 ^ i = setK l x i + 2 ^ i by have := Nat.two_pow_add_eq_or_of_lt hlt 1; rw [Nat.mul_one] at this; rw [Nat.or_comm, ← this]; omega] at this
      rw [w64 (by omega), show (setK l x i : Int) + ((2 ^ i : Nat) : Int) = ((setK l x i + 2 ^ i : Nat) : Int) by omega]
      exact this
    · rw [if_neg hr]
      rw [if_neg hr] at this
      exact this
theorem Fired_l0 : ∀ (n x k : Nat), x + n = 6 → n * 8 + 1 ≤ k → smaltoref03_Fired.l0 k (tableL F) l x = some ((List.range' x n).all fun (j : Nat) => goesB F (setN l j)) := by
  have hs6 := hF.len
  intro n
  induction n with
  | zero =>
    intro x k h hk
    obtain ⟨k, rfl⟩ : ∃ j, k = j + 1 := ⟨k - 1, by omega⟩
    rw [smaltoref03_Fired.l0, if_neg (by omega)]
    rfl
  | succ n ih =>
    intro x k h hk
    obtain ⟨k, rfl⟩ : ∃ j, k = (j + l.length + 1) + 1 := ⟨k - l.length - 2, by omega⟩
    have h1 := Fired_l1 hF hl x (by omega) l.length 0 k (by omega)
    have h2 := ih (x + 1) k (by omega) (by omega)
    rw [show ((x + 1 : Nat) : Int) = (x : Int) + 1 by omega] at h2
    rw [show setK l x 0 = 0 from rfl] at h1
    simp only [show ((0 : Nat) : Int) = 0 from rfl] at h1
    rw [smaltoref03_Fired.l0, if_pos (by omega), h1, h2, List.range'_succ, List.all_cons]
    cases goesB F (setN l x) <;> simp
theorem Fired_eq (k : Nat) (hk : 60 ≤ k) : smaltoref03_Fired.f k (tableL F) l = some (firedB F l) := by
  have := Fired_l0 hF hl 6 0 k (by omega) (by omega)
  unfold smaltoref03_Fired.f firedB
  simp only [show ((0 : Nat) : Int) = 0 from rfl] at this
  rw [this, List.range_eq_range']
end
end Go.Proofs.YtbijamlgcebgeaaDoor.Hand

-- part NB
namespace Go.Proofs.YtbijamlgcebgeaaDoor.Hand
open Go.RowKit Go.Shelf Go.Sort Go.Proofs.YtbijamlgcebgeaaDoorW.PrintWords Go.Proofs.YtbijamlgcebgeaaDoorW.PrintMore Go.Proofs.YtbijamlgcebgeaaDoor.Q
theorem goes_none {F : Furn} (hF : F.Ok) : goesB F 0 = true := by
  have h1 := hF.load
  have h2 := hF.near
  unfold goesB highW fitsB alikeB
  have e : bitsOf 0 = [] := by decide
  rw [e]
  simp [sumB, heatB, highB, barsB, optL]
  omega
theorem sub_of_bits {p s : Nat} (h : ∀ i, p.testBit i = true → s.testBit i = true) : p &&& s = p := by
  apply Nat.eq_of_testBit_eq
  intro i
  rw [Nat.testBit_and]
  cases hp : p.testBit i with
  | false => rfl
  | true => rw [h i hp]; rfl
theorem setK_bits (l : List Int) (j : Int) {k n : Nat} (h : k ≤ n) : ∀ i, (setK l j k).testBit i = true → (setK l j n).testBit i = true := by
  induction n with
  | zero => have : k = 0 := by omega
            subst this; exact fun i h => h
  | succ n ih =>
    by_cases e : k = n + 1
    · subst e; exact fun i h => h
    · intro i hi
      have := ih (by omega) i hi
      rw [setK_succ]
      split
      · rw [Nat.testBit_or, this]; rfl
      · exact this
theorem setN_sub (l b : List Int) (j : Int) : setN l j &&& setN (l ++ b) j = setN l j := by
  refine sub_of_bits ?_
  have h1 : setN l j = setK (l ++ b) j l.length := setK_congr _ _ j l.length (fun i hi => by
    rw [rd_get hi, rd_get (by simp; omega), List.getElem_append_left hi])
  have h2 : setN (l ++ b) j = setK (l ++ b) j (l.length + b.length) := by simp [setN, setK]
  rw [h1, h2]
  exact setK_bits _ _ (by omega)
theorem setN_lt (l : List Int) (j : Int) : setN l j < 2 ^ l.length := setK_lt l j l.length
theorem flatMap_congr' {α β : Type} {f g : α → List β} : ∀ {l : List α}, (∀ x ∈ l, f x = g x) → l.flatMap f = l.flatMap g
  | [], _ => rfl
  | x :: l, h => by
    rw [List.flatMap_cons, List.flatMap_cons, h x (by simp), flatMap_congr' (fun y hy => h y (by simp [hy]))]
theorem genL_filter {F : Furn} (hF : F.Ok) {m : Nat} (hm : m ≤ 6) : ∀ (d : Nat) (l : List Int) (x : L6), l.length + d = F.l.length → (∀ j : Nat, j < 6 → x.get j = setN l j ∧ goesB F (setN l j) = true) →
    genL F m d l x = ((allLs m d).map fun b => l ++ b).filter (firedB F) := by
  intro d
  induction d with
  | zero =>
    intro l x h hx
    have hf : firedB F l = true := by
      unfold firedB
      rw [List.all_eq_true]
      intro j hj
      exact (hx j (List.mem_range.1 hj)).2
    simp [genL, allLs, hf]
  | succ d ih =>
    intro l x h hx
    rw [allLs_first, List.map_flatMap, List.filter_flatMap]
    show (List.range m).flatMap _ = _
    apply flatMap_congr'
    intro j hj
    have hj' := List.mem_range.1 hj
    have hy : setN (l ++ [(j : Int)]) j = x.get j ||| 2 ^ l.length := by rw [setN_snoc, if_pos rfl, (hx j (by omega)).1]
    rw [List.map_map]
    by_cases hg : goesB F (x.get j ||| 2 ^ l.length) = true
    · rw [if_pos hg, ih (l ++ [(j : Int)]) _ (by simp; omega) (by
        intro i hi
        rw [L6.get_put _ _ _ _ (by omega)]
        by_cases hij : i = j
        · subst hij
          rw [if_pos (.inl rfl), hy]
          exact ⟨rfl, hg⟩
        · rw [if_neg (fun h => h.elim hij (fun h => hij (by omega))), setN_snoc, if_neg (by omega)]
          exact hx i hi)]
      congr 1
      apply List.map_congr_left
      intro b _
      simp
    · rw [if_neg hg]
      symm
      rw [List.filter_eq_nil_iff]
      intro L hL
      obtain ⟨b, hb, rfl⟩ := List.mem_map.1 hL
      intro hf
      unfold firedB at hf
      rw [List.all_eq_true] at hf
      have h1 := hf j (List.mem_range.2 (by omega))
      have e : l ++ (j : Int) :: b = (l ++ [(j : Int)]) ++ b := by simp
      have h2 : goesB F (setN ((l ++ [(j : Int)]) ++ b) j) = true := by rw [← e]; exact h1
      have hlen := (allLs_mem m d b hb).1
      have hlt := setN_lt ((l ++ [(j : Int)]) ++ b) j
      rw [show ((l ++ [(j : Int)]) ++ b).length = F.l.length by simp; omega] at hlt
      have h3 := goesB_sub hF (setN_sub (l ++ [(j : Int)]) b j) (bitsOf_below hlt) h2
      rw [hy] at h3
      exact hg h3
theorem listsL_eq {F : Furn} (hF : F.Ok) {m : Nat} (hm : m ≤ 6) : listsL F m = (allLs m F.l.length).filter (firedB F) := by
  unfold listsL
  rw [genL_filter hF hm F.l.length [] L6.zero (by simp) (by
    intro j hj
    have : setN [] (j : Int) = 0 := rfl
    rw [this]
    refine ⟨?_, goes_none hF⟩
    unfold L6.get L6.zero
    simp)]
  simp
end Go.Proofs.YtbijamlgcebgeaaDoor.Hand

-- part QF
namespace Go.Proofs.YtbijamlgcebgeaaDoor.Q
open Go.RowKit Go.Proofs.YtbijamlgcebgeaaDoorW.PrintWords Go.Proofs.YtbijamlgcebgeaaDoorW.PrintLast Go.Proofs.YtbijamlgcebgeaaDoorW.PrintMore
attribute [local go_sem] max2_int min2_int max_two min_two max_three min_three max_four min_four
def smaltoref03_Form.l0 : Nat → List (S74) → List Int → Int → Option (Bool)
  | 0, _, _, _ => none
  | k + 1, x0, x1, x5 => if x5 < (x1.length : Int) then (if 0 ≤ x5 then ((smaltoref03_In.f (rd x1 x5) 0 5).bind fun t319 => (if t319 = true then (smaltoref03_Form.l0 k x0 x1 (wrap64 (x5 + 1))) else (some false))) else (none)) else (some ((x1.length : Int) == (x0.length : Int)))
def smaltoref03_Form.f (k : Nat) (l0 : List (S74)) (l1 : List Int) : Option (Bool) := smaltoref03_Form.l0 k l0 l1 0
theorem smaltoref03_Form.mono_l : ∀ k, (∀ y0 y1 y2, LeO (smaltoref03_Form.l0 k y0 y1 y2) (smaltoref03_Form.l0 (k + 1) y0 y1 y2))
  | 0 => fun _ _ _ r h => by simp [smaltoref03_Form.l0] at h
  | k + 1 => by
    have ih0 := smaltoref03_Form.mono_l k
    · intro y0 y1 y2
      unfold smaltoref03_Form.l0
      repeat' first
      | (with_reducible exact ih0 _ _ _)
      | (with_reducible exact LeO.refl _)
      | (with_reducible exact LeO.none _)
      | (with_reducible refine LeO.ite ?_ ?_)
      | (with_reducible refine LeO.bind ?_ (fun _ => ?_))
      | exact ih0 _ _ _
      | exact LeO.none _
      | refine LeO.ite ?_ ?_
      | refine LeO.bind ?_ (fun _ => ?_)
theorem smaltoref03_Form.mono : ∀ a0 a1 k, LeO (smaltoref03_Form.f k a0 a1) (smaltoref03_Form.f (k + 1) a0 a1) := by
  intro a0 a1 k
  have ih0 := smaltoref03_Form.mono_l k
  unfold smaltoref03_Form.f
  repeat' first
      | (with_reducible exact ih0 _ _ _)
      | (with_reducible exact LeO.refl _)
      | (with_reducible exact LeO.none _)
      | (with_reducible refine LeO.ite ?_ ?_)
      | (with_reducible refine LeO.bind ?_ (fun _ => ?_))
      | exact ih0 _ _ _
      | exact LeO.none _
      | refine LeO.ite ?_ ?_
      | refine LeO.bind ?_ (fun _ => ?_)
set_option maxHeartbeats 8000000 in
set_option maxRecDepth 100000 in
theorem smaltoref03_Form.calls (k : Nat) (A0 : Option Addr) (c0 : Nat) (l0 : List (S74)) (A1 : Option Addr) (c1 : Nat) (l1 : List Int) (r : Bool) (w : World) (hr0 : Kd.C k74 w A0 l0.length l0) (hc0 : l0.length ≤ c0) (hr1 : Kd.C (Kd.int .i64) w A1 l1.length l1) (hc1 : l1.length ≤ c1) (h : smaltoref03_Form.f k l0 l1 = some r) :
    Calls Tryd.prog 39 #[.slice A0 l0.length c0, .slice A1 l1.length c1] w fun e w' => e = .returned (.bool r) ∧ Drawn0 w w' := by
  have HR0 := Aside0.mk hr0
  have HC0 := Aside0.mk hc0
  clear hr0 hc0
  have HR1 := Aside0.mk hr1
  have HC1 := Aside0.mk hc1
  clear hr1 hc1
  have H : (smaltoref03_Form.l0 k l0 l1 0) = some r := h
  clear h
  have H' := Aside0.mk H
  clear H
  go_enter Tryd.func39, Tryd.ntmps39
  go_wp2
  go_loopg [5] k (fun kq v5 w' => ∃ (x5_1 : Int), v5 = .int .i64 x5_1 ∧ Aside0 (smaltoref03_Form.l0 kq l0 l1 x5_1 = some r) ∧ Aside0 (kq ≤ k) ∧ Drawn0 w w')
  case atStart => exact ⟨(0), (by first | rfl | (simp; done) | (simp [*]; done)), H', ⟨Nat.le_refl _⟩, by repeat (first | exact Drawn0.refl _ | apply Drawn0.step)⟩
  case round =>
    clear H'
    try clear c1
    try clear p2
    obtain ⟨x5_1, rfl, HA, HK1, ⟨m1, rfl⟩⟩ := hrel
    cases gk with
    | zero => exact absurd HA.out (by simp [smaltoref03_Form.l0])
    | succ k1 =>
      have H := HA.out
      clear HA
      simp only [smaltoref03_Form.l0] at H
      by_cases c3 : x5_1 < (l1.length : Int)
      · rw [if_pos c3] at H
        have c3b0 : decide (x5_1 < (l1.length : Int)) = true := decide_eq_true c3
        clear c3
        by_cases c4 : 0 ≤ x5_1
        · rw [if_pos c4] at H
          have c4b0 : decide (0 ≤ x5_1) = true := decide_eq_true c4
          clear c4
          replace H := Option.bind_eq_some_iff.mp H
          obtain ⟨t319, A50, H⟩ := H
          replace H : (if t319 = true then (smaltoref03_Form.l0 k1 l0 l1 (wrap64 (x5_1 + 1))) else (some false)) = some r := H
          have A5 := Aside0.mk A50
          clear A50
          by_cases c6 : t319 = true
          · subst c6
            have H1 : (smaltoref03_Form.l0 k1 l0 l1 (wrap64 (x5_1 + 1))) = some r := by rw [if_pos rfl] at H; exact H
            clear H
            have H := H1
            clear H1
            have H' := Aside0.mk H
            clear H
            have p318 : 0 ≤ (x5_1 : Int) := of_decide_eq_true (by first | (with_reducible assumption) | assumption)
            have q318 : x5_1 < (l1.length : Int) := of_decide_eq_true (by first | (with_reducible assumption) | assumption)
            obtain ⟨ad318, e318, hx318_0⟩ := Kd.at_int HR1.out x5_1 p318 q318
            cases e318
            replace p318 := eq_true p318
            replace q318 := eq_true q318
            go_wp2_with (first | ((with_reducible refine gate_callee (f := 65) rfl ?_); refine goesL_ (some 16) rfl rfl Tryd.func65 (by kernel_rfl) rfl #[.int .i64 (rd l1 x5_1), .int .i64 0, .int .i64 5] rfl (by (try simp only [List.map_toArray, List.map_cons, List.map_nil]); first | done | rfl | (simp only [List.length_drop, List.length_take]; rfl)) ?_; (with_reducible refine (smaltoref03_In.calls (rd l1 x5_1) 0 5 true _ A5.out).mono ?_); rintro e w' ⟨rfl, ⟨nd, rfl⟩⟩; refine ⟨_, rfl, ?_⟩))
            go_roundg k1
            case measure => have := HK1.out; omega
            case rel => exact ⟨(wrap64 (x5_1 + 1)), (by first | rfl | (simp; done) | (simp [*]; done)), H', ⟨by have := HK1.out; omega⟩, by repeat (first | exact Drawn0.refl _ | apply Drawn0.step)⟩
          · replace c6 := Bool.eq_false_iff.mpr c6
            subst c6
            have H1 : (some false) = some r := by rw [if_neg (show ¬ (false = true) by decide)] at H; exact H
            clear H
            have H := H1
            clear H1
            obtain rfl := Option.some.inj H
            have p318 : 0 ≤ (x5_1 : Int) := of_decide_eq_true (by first | (with_reducible assumption) | assumption)
            have q318 : x5_1 < (l1.length : Int) := of_decide_eq_true (by first | (with_reducible assumption) | assumption)
            obtain ⟨ad318, e318, hx318_0⟩ := Kd.at_int HR1.out x5_1 p318 q318
            cases e318
            replace p318 := eq_true p318
            replace q318 := eq_true q318
            go_wp2_with (first | ((with_reducible refine gate_callee (f := 65) rfl ?_); refine goesL_ (some 16) rfl rfl Tryd.func65 (by kernel_rfl) rfl #[.int .i64 (rd l1 x5_1), .int .i64 0, .int .i64 5] rfl (by (try simp only [List.map_toArray, List.map_cons, List.map_nil]); first | done | rfl | (simp only [List.length_drop, List.length_take]; rfl)) ?_; (with_reducible refine (smaltoref03_In.calls (rd l1 x5_1) 0 5 false _ A5.out).mono ?_); rintro e w' ⟨rfl, ⟨nd, rfl⟩⟩; refine ⟨_, rfl, ?_⟩))
            go_ret
            exact ⟨by first | rfl | (simp; done) | (simp [*]; done), by repeat (first | exact Drawn0.refl _ | apply Drawn0.step)⟩
        · rw [if_neg c4] at H
          exact absurd H (by simp)
      · rw [if_neg c3] at H
        have c3b0 : decide (x5_1 < (l1.length : Int)) = false := decide_eq_false c3
        clear c3
        obtain rfl := Option.some.inj H
        go_wp2
        go_ret
        exact ⟨by first | rfl | (simp; done) | (simp [*]; done), by repeat (first | exact Drawn0.refl _ | apply Drawn0.step)⟩
def smaltoref03_Far.l0 : Nat → List Int → List Int → Int → Int → Option (Int)
  | 0, _, _, _, _ => none
  | k + 1, x0, x1, x5, x6 => if x6 < (x0.length : Int) then (if 0 ≤ x6 then (if x6 < (x1.length : Int) then (if (rd x0 x6) = (rd x1 x6) then (smaltoref03_Far.l0 k x0 x1 x5 (wrap64 (x6 + 1))) else (smaltoref03_Far.l0 k x0 x1 (wrap64 (x5 + 1)) (wrap64 (x6 + 1)))) else (none)) else (none)) else (some x5)
def smaltoref03_Far.f (k : Nat) (l0 : List Int) (l1 : List Int) : Option (Int) := smaltoref03_Far.l0 k l0 l1 0 0
theorem smaltoref03_Far.mono_l : ∀ k, (∀ y0 y1 y2 y3, LeO (smaltoref03_Far.l0 k y0 y1 y2 y3) (smaltoref03_Far.l0 (k + 1) y0 y1 y2 y3))
  | 0 => fun _ _ _ _ r h => by simp [smaltoref03_Far.l0] at h
  | k + 1 => by
    have ih0 := smaltoref03_Far.mono_l k
    · intro y0 y1 y2 y3
      unfold smaltoref03_Far.l0
      repeat' first
      | (with_reducible exact ih0 _ _ _ _)
      | (with_reducible exact LeO.refl _)
      | (with_reducible exact LeO.none _)
      | (with_reducible refine LeO.ite ?_ ?_)
      | (with_reducible refine LeO.bind ?_ (fun _ => ?_))
      | exact ih0 _ _ _ _
      | exact LeO.none _
      | refine LeO.ite ?_ ?_
      | refine LeO.bind ?_ (fun _ => ?_)
theorem smaltoref03_Far.mono : ∀ a0 a1 k, LeO (smaltoref03_Far.f k a0 a1) (smaltoref03_Far.f (k + 1) a0 a1) := by
  intro a0 a1 k
  have ih0 := smaltoref03_Far.mono_l k
  unfold smaltoref03_Far.f
  repeat' first
      | (with_reducible exact ih0 _ _ _ _)
      | (with_reducible exact LeO.refl _)
      | (with_reducible exact LeO.none _)
      | (with_reducible refine LeO.ite ?_ ?_)
      | (with_reducible refine LeO.bind ?_ (fun _ => ?_))
      | exact ih0 _ _ _ _
      | exact LeO.none _
      | refine LeO.ite ?_ ?_
      | refine LeO.bind ?_ (fun _ => ?_)
set_option maxHeartbeats 8000000 in
set_option maxRecDepth 100000 in
theorem smaltoref03_Far.calls (k : Nat) (A0 : Option Addr) (c0 : Nat) (l0 : List Int) (A1 : Option Addr) (c1 : Nat) (l1 : List Int) (r : Int) (w : World) (hr0 : Kd.C (Kd.int .i64) w A0 l0.length l0) (hc0 : l0.length ≤ c0) (hr1 : Kd.C (Kd.int .i64) w A1 l1.length l1) (hc1 : l1.length ≤ c1) (h : smaltoref03_Far.f k l0 l1 = some r) :
    Calls Tryd.prog 85 #[.slice A0 l0.length c0, .slice A1 l1.length c1] w fun e w' => e = .returned (.int .i64 r) ∧ Drawn0 w w' := by
  have HR0 := Aside0.mk hr0
  have HC0 := Aside0.mk hc0
  clear hr0 hc0
  have HR1 := Aside0.mk hr1
  have HC1 := Aside0.mk hc1
  clear hr1 hc1
  have H : (smaltoref03_Far.l0 k l0 l1 0 0) = some r := h
  clear h
  have H' := Aside0.mk H
  clear H
  go_enter Tryd.func85, Tryd.ntmps85
  go_wp2
  repeat (go_quiet (fail); try go_wp2)
  go_loopg [5, 6] k (fun kq v5 v6 w' => ∃ (x5_1 : Int) (x6_1 : Int), v5 = .int .i64 x5_1 ∧ v6 = .int .i64 x6_1 ∧ Aside0 (smaltoref03_Far.l0 kq l0 l1 x5_1 x6_1 = some r) ∧ Aside0 (kq ≤ k) ∧ Drawn0 w w')
  case atStart => exact ⟨(0), (0), (by first | rfl | (simp; done) | (simp [*]; done)), (by first | rfl | (simp; done) | (simp [*]; done)), H', ⟨Nat.le_refl _⟩, by repeat (first | exact Drawn0.refl _ | apply Drawn0.step)⟩
  case round =>
    clear H'
    try clear c1
    try clear p2
    obtain ⟨x5_1, x6_1, rfl, rfl, HA, HK1, ⟨m1, rfl⟩⟩ := hrel
    cases gk with
    | zero => exact absurd HA.out (by simp [smaltoref03_Far.l0])
    | succ k1 =>
      have H := HA.out
      clear HA
      simp only [smaltoref03_Far.l0] at H
      by_cases c3 : x6_1 < (l0.length : Int)
      · rw [if_pos c3] at H
        have c3b0 : decide (x6_1 < (l0.length : Int)) = true := decide_eq_true c3
        clear c3
        by_cases c4 : 0 ≤ x6_1
        · rw [if_pos c4] at H
          have c4b0 : decide (0 ≤ x6_1) = true := decide_eq_true c4
          clear c4
          by_cases c5 : x6_1 < (l1.length : Int)
          · rw [if_pos c5] at H
            have c5b0 : decide (x6_1 < (l1.length : Int)) = true := decide_eq_true c5
            clear c5
            by_cases c6 : (rd l0 x6_1) = (rd l1 x6_1)
            · rw [if_pos c6] at H
              have c6b0 : ((rd l0 x6_1) == (rd l1 x6_1)) = true := beq_iff_eq.mpr c6
              have c6b1 : ((rd l0 x6_1) != (rd l1 x6_1)) = false := bne_eq_false_iff_eq.mpr c6
              clear c6
              have H' := Aside0.mk H
              clear H
              have p320 : 0 ≤ (x6_1 : Int) := of_decide_eq_true (by first | (with_reducible assumption) | assumption)
              have q320 : x6_1 < (l0.length : Int) := of_decide_eq_true (by first | (with_reducible assumption) | assumption)
              obtain ⟨ad320, e320, hx320_0⟩ := Kd.at_int HR0.out x6_1 p320 q320
              cases e320
              replace p320 := eq_true p320
              replace q320 := eq_true q320
              have p321 : 0 ≤ (x6_1 : Int) := of_decide_eq_true (by first | (with_reducible assumption) | assumption)
              have q321 : x6_1 < (l1.length : Int) := of_decide_eq_true (by first | (with_reducible assumption) | assumption)
              obtain ⟨ad321, e321, hx321_0⟩ := Kd.at_int HR1.out x6_1 p321 q321
              cases e321
              replace p321 := eq_true p321
              replace q321 := eq_true q321
              go_wp2
              repeat (go_quiet (fail); try go_wp2)
              go_roundg k1
              case measure => have := HK1.out; omega
              case rel => exact ⟨(x5_1), (wrap64 (x6_1 + 1)), (by first | rfl | (simp; done) | (simp [*]; done)), (by first | rfl | (simp; done) | (simp [*]; done)), H', ⟨by have := HK1.out; omega⟩, by repeat (first | exact Drawn0.refl _ | apply Drawn0.step)⟩
            · rw [if_neg c6] at H
              have c6b0 : ((rd l0 x6_1) == (rd l1 x6_1)) = false := beq_eq_false_iff_ne.mpr c6
              have c6b1 : ((rd l0 x6_1) != (rd l1 x6_1)) = true := bne_iff_ne.mpr c6
              have H' := Aside0.mk H
              clear H
              have p320 : 0 ≤ (x6_1 : Int) := of_decide_eq_true (by first | (with_reducible assumption) | assumption)
              have q320 : x6_1 < (l0.length : Int) := of_decide_eq_true (by first | (with_reducible assumption) | assumption)
              obtain ⟨ad320, e320, hx320_0⟩ := Kd.at_int HR0.out x6_1 p320 q320
              cases e320
              replace p320 := eq_true p320
              replace q320 := eq_true q320
              have p321 : 0 ≤ (x6_1 : Int) := of_decide_eq_true (by first | (with_reducible assumption) | assumption)
              have q321 : x6_1 < (l1.length : Int) := of_decide_eq_true (by first | (with_reducible assumption) | assumption)
              obtain ⟨ad321, e321, hx321_0⟩ := Kd.at_int HR1.out x6_1 p321 q321
              cases e321
              replace p321 := eq_true p321
              replace q321 := eq_true q321
              go_wp2
              repeat (go_quiet (fail); try go_wp2)
              go_roundg k1
              case measure => have := HK1.out; omega
              case rel => exact ⟨(wrap64 (x5_1 + 1)), (wrap64 (x6_1 + 1)), (by first | rfl | (simp; done) | (simp [*]; done)), (by first | rfl | (simp; done) | (simp [*]; done)), H', ⟨by have := HK1.out; omega⟩, by repeat (first | exact Drawn0.refl _ | apply Drawn0.step)⟩
          · rw [if_neg c5] at H
            exact absurd H (by simp)
        · rw [if_neg c4] at H
          exact absurd H (by simp)
      · rw [if_neg c3] at H
        have c3b0 : decide (x6_1 < (l0.length : Int)) = false := decide_eq_false c3
        clear c3
        obtain rfl := Option.some.inj H
        go_wp2
        repeat (go_quiet (fail); try go_wp2)
        go_ret
        exact ⟨by first | rfl | (simp; done) | (simp [*]; done), by repeat (first | exact Drawn0.refl _ | apply Drawn0.step)⟩
mutual
def smaltoref03_Put.l0 : Nat → List Bool → List Int → Int → Int → Option (List Int × Int)
  | 0, _, _, _, _ => none
  | k + 1, x0, x1, x6, x7 => if x7 < (x1.length : Int) then (if 0 ≤ x7 then (smaltoref03_Put.l0 k x0 x1 (mx x6 (rd x1 x7)) (wrap64 (x7 + 1))) else (none)) else ((smaltoref03_Lists.f k (x1.length : Int) (wrap64 (x6 + 1))).bind fun t323 => (smaltoref03_Put.l1 k x0 x1 t323 (([] : List Int)) (-1) 0))
def smaltoref03_Put.l1 : Nat → List Bool → List Int → List (List Int) → List Int → Int → Int → Option (List Int × Int)
  | 0, _, _, _, _, _, _ => none
  | k + 1, x0, x1, x8, x9, x10, x11 => if x11 < (x8.length : Int) then (if 0 ≤ x11 then ((smaltoref03_Far.f k (rd_L3 x8 x11) x1).bind fun t330 => (if x10 < 0 then ((smaltoref03_Fired.f k x0 (rd_L3 x8 x11)).bind fun t332 => (if t332 = true then (smaltoref03_Put.l1 k x0 x1 x8 (rd_L3 x8 x11) t330 (wrap64 (x11 + 1))) else (smaltoref03_Put.l1 k x0 x1 x8 x9 x10 (wrap64 (x11 + 1))))) else (if t330 < x10 then ((smaltoref03_Fired.f k x0 (rd_L3 x8 x11)).bind fun t335 => (if t335 = true then (smaltoref03_Put.l1 k x0 x1 x8 (rd_L3 x8 x11) t330 (wrap64 (x11 + 1))) else (smaltoref03_Put.l1 k x0 x1 x8 x9 x10 (wrap64 (x11 + 1))))) else (smaltoref03_Put.l1 k x0 x1 x8 x9 x10 (wrap64 (x11 + 1)))))) else (none)) else (some (x9, x10))
end
def smaltoref03_Put.f (k : Nat) (l0 : List Bool) (l1 : List Int) : Option (List Int × Int) := smaltoref03_Put.l0 k l0 l1 (-1) 0
theorem smaltoref03_Put.mono_l : ∀ k, (∀ y0 y1 y2 y3, LeO (smaltoref03_Put.l0 k y0 y1 y2 y3) (smaltoref03_Put.l0 (k + 1) y0 y1 y2 y3)) ∧ (∀ y0 y1 y2 y3 y4 y5, LeO (smaltoref03_Put.l1 k y0 y1 y2 y3 y4 y5) (smaltoref03_Put.l1 (k + 1) y0 y1 y2 y3 y4 y5))
  | 0 => ⟨fun _ _ _ _ r h => by simp [smaltoref03_Put.l0] at h, fun _ _ _ _ _ _ r h => by simp [smaltoref03_Put.l1] at h⟩
  | k + 1 => by
    obtain ⟨ih0, ih1⟩ := smaltoref03_Put.mono_l k
    refine ⟨?_, ?_⟩
    · intro y0 y1 y2 y3
      unfold smaltoref03_Put.l0
      repeat' first
      | (with_reducible exact ih0 _ _ _ _)
      | (with_reducible exact ih1 _ _ _ _ _ _)
      | (with_reducible exact smaltoref03_Far.mono _ _ _)
      | (with_reducible exact smaltoref03_Fired.mono _ _ _)
      | (with_reducible exact smaltoref03_Lists.mono _ _ _)
      | (with_reducible exact LeO.refl _)
      | (with_reducible exact LeO.none _)
      | (with_reducible refine LeO.ite ?_ ?_)
      | (with_reducible refine LeO.bind ?_ (fun _ => ?_))
      | exact ih0 _ _ _ _
      | exact ih1 _ _ _ _ _ _
      | exact smaltoref03_Far.mono _ _ _
      | exact smaltoref03_Fired.mono _ _ _
      | exact smaltoref03_Lists.mono _ _ _
      | exact LeO.none _
      | refine LeO.ite ?_ ?_
      | refine LeO.bind ?_ (fun _ => ?_)
    · intro y0 y1 y2 y3 y4 y5
      unfold smaltoref03_Put.l1
      repeat' first
      | (with_reducible exact ih0 _ _ _ _)
      | (with_reducible exact ih1 _ _ _ _ _ _)
      | (with_reducible exact smaltoref03_Far.mono _ _ _)
      | (with_reducible exact smaltoref03_Fired.mono _ _ _)
      | (with_reducible exact smaltoref03_Lists.mono _ _ _)
      | (with_reducible exact LeO.refl _)
      | (with_reducible exact LeO.none _)
      | (with_reducible refine LeO.ite ?_ ?_)
      | (with_reducible refine LeO.bind ?_ (fun _ => ?_))
      | exact ih0 _ _ _ _
      | exact ih1 _ _ _ _ _ _
      | exact smaltoref03_Far.mono _ _ _
      | exact smaltoref03_Fired.mono _ _ _
      | exact smaltoref03_Lists.mono _ _ _
      | exact LeO.none _
      | refine LeO.ite ?_ ?_
      | refine LeO.bind ?_ (fun _ => ?_)
theorem smaltoref03_Put.mono : ∀ a0 a1 k, LeO (smaltoref03_Put.f k a0 a1) (smaltoref03_Put.f (k + 1) a0 a1) := by
  intro a0 a1 k
  obtain ⟨ih0, ih1⟩ := smaltoref03_Put.mono_l k
  unfold smaltoref03_Put.f
  repeat' first
      | (with_reducible exact ih0 _ _ _ _)
      | (with_reducible exact ih1 _ _ _ _ _ _)
      | (with_reducible exact smaltoref03_Far.mono _ _ _)
      | (with_reducible exact smaltoref03_Fired.mono _ _ _)
      | (with_reducible exact smaltoref03_Lists.mono _ _ _)
      | (with_reducible exact LeO.refl _)
      | (with_reducible exact LeO.none _)
      | (with_reducible refine LeO.ite ?_ ?_)
      | (with_reducible refine LeO.bind ?_ (fun _ => ?_))
      | exact ih0 _ _ _ _
      | exact ih1 _ _ _ _ _ _
      | exact smaltoref03_Far.mono _ _ _
      | exact smaltoref03_Fired.mono _ _ _
      | exact smaltoref03_Lists.mono _ _ _
      | exact LeO.none _
      | refine LeO.ite ?_ ?_
      | refine LeO.bind ?_ (fun _ => ?_)
set_option maxHeartbeats 8000000 in
set_option maxRecDepth 100000 in
theorem smaltoref03_Put.calls (k : Nat) (A0 : Option Addr) (c0 : Nat) (l0 : List Bool) (A1 : Option Addr) (c1 : Nat) (l1 : List Int) (r1 : List Int) (r2 : Int) (w : World) (hr0 : Kd.C Kd.bool w A0 l0.length l0) (hc0 : l0.length ≤ c0) (hr1 : Kd.C (Kd.int .i64) w A1 l1.length l1) (hc1 : l1.length ≤ c1) (h : smaltoref03_Put.f k l0 l1 = some (r1, r2)) :
    Calls Tryd.prog 40 #[.slice A0 l0.length c0, .slice A1 l1.length c1] w fun e w' => ∃ v0_ : Value, e = .returned (.tuple #[v0_, .int .i64 r2]) ∧ Kd.V (Kd.int .i64) 3 w' w.heap.size (fun k_ => (w.heap.size ≤ k_)) v0_ r1 ∧ Below w.heap.size w w' := by
  have HR0 := Aside0.mk hr0
  have HC0 := Aside0.mk hc0
  clear hr0 hc0
  have HR1 := Aside0.mk hr1
  have HC1 := Aside0.mk hc1
  clear hr1 hc1
  have HB := Aside0.mk (Below.refl w.heap.size w)
  have H : (smaltoref03_Put.l0 k l0 l1 (-1) 0) = some (r1, r2) := h
  clear h
  have H' := Aside0.mk H
  clear H
  go_enter Tryd.func40, Tryd.ntmps40
  go_wp2
  go_loopg [6, 7] k (fun kq v6 v7 w' => ∃ (x6_1 : Int) (x7_1 : Int), v6 = .int .i64 x6_1 ∧ v7 = .int .i64 x7_1 ∧ Aside0 (smaltoref03_Put.l0 kq l0 l1 x6_1 x7_1 = some (r1, r2)) ∧ Aside0 (kq ≤ k) ∧ Aside0 (Below w.heap.size w w'))
  case atStart => exact ⟨((-1)), (0), (by first | rfl | (simp; done) | (simp [*]; done)), (by first | rfl | (simp; done) | (simp [*]; done)), H', ⟨Nat.le_refl _⟩, ⟨by repeat (first | (with_reducible first | exact HB.out | apply below_alloc | apply pw_below_drewN | apply below_drew1) | exact HB.out)⟩⟩
  case round =>
    clear H'
    try clear c1
    try clear p2
    obtain ⟨x6_1, x7_1, rfl, rfl, HA, HK1, HB⟩ := hrel
    cases gk with
    | zero => exact absurd HA.out (by simp [smaltoref03_Put.l0])
    | succ k1 =>
      have H := HA.out
      clear HA
      simp only [smaltoref03_Put.l0] at H
      by_cases c3 : x7_1 < (l1.length : Int)
      · rw [if_pos c3] at H
        have c3b0 : decide (x7_1 < (l1.length : Int)) = true := decide_eq_true c3
        clear c3
        by_cases c4 : 0 ≤ x7_1
        · rw [if_pos c4] at H
          have c4b0 : decide (0 ≤ x7_1) = true := decide_eq_true c4
          clear c4
          obtain ⟨ji5, hji5⟩ : ∃ j_ : Int, (mx x6_1 (rd l1 x7_1)) = j_ := ⟨_, rfl⟩
          replace H : (smaltoref03_Put.l0 k1 l0 l1 ji5 (wrap64 (x7_1 + 1))) = some (r1, r2) := by first | (rw [hji5] at H; exact H) | (simp only [hji5] at H ⊢; exact H)
          have hji5_ : (if x6_1 < (rd l1 x7_1) then (rd l1 x7_1) else x6_1) = ji5 := hji5
          have H' := Aside0.mk H
          clear H
          have p322 : 0 ≤ (x7_1 : Int) := of_decide_eq_true (by first | (with_reducible assumption) | assumption)
          have q322 : x7_1 < (l1.length : Int) := of_decide_eq_true (by first | (with_reducible assumption) | assumption)
          obtain ⟨ad322, e322, hx322_0⟩ := Kd.at_int HR1.out x7_1 p322 q322
          cases e322
          replace hx322_0 := (HB.out.cell (World.block_lt_of_cell? w _ hx322_0)).trans hx322_0
          replace p322 := eq_true p322
          replace q322 := eq_true q322
          go_wp2
          go_roundg k1
          case measure => have := HK1.out; omega
          case rel => exact ⟨(ji5), (wrap64 (x7_1 + 1)), (by first | rfl | (simp; done) | (simp only [← hji5] <;> (first | rfl | simp)) | (simp [*]; done)), (by first | rfl | (simp; done) | (simp [*]; done)), H', ⟨by have := HK1.out; omega⟩, ⟨by repeat (first | (with_reducible first | exact HB.out | apply below_alloc | apply pw_below_drewN | apply below_drew1) | exact HB.out)⟩⟩
        · rw [if_neg c4] at H
          exact absurd H (by simp)
      · rw [if_neg c3] at H
        have c3b0 : decide (x7_1 < (l1.length : Int)) = false := decide_eq_false c3
        clear c3
        replace H := Option.bind_eq_some_iff.mp H
        obtain ⟨t323, A60, H⟩ := H
        replace H : (smaltoref03_Put.l1 k1 l0 l1 t323 (([] : List Int)) (-1) 0) = some (r1, r2) := H
        have A6 := Aside0.mk A60
        clear A60
        obtain ⟨y326, hy326⟩ : ∃ y_ : List Int, y_ = (([] : List Int)) := ⟨_, rfl⟩
        replace H : (smaltoref03_Put.l1 k1 l0 l1 t323 y326 (-1) 0) = some (r1, r2) := by first | (rw [hy326]; with_reducible exact H) | (have H2_ := (Option.bind_some _ _).symm.trans H; rw [hy326]; with_reducible exact H2_) | (have H2_ := (Option.bind_some _ _).symm.trans H; with_reducible exact H2_) | with_reducible exact H | (rw [hy326]; exact H) | exact H
        have Ny326 := Aside0.mk hy326
        clear hy326
        have H' := Aside0.mk H
        clear H
        go_wp2_with (first | ((with_reducible refine gate_callee (f := 78) rfl ?_); refine goesL_ (some 29) rfl rfl Tryd.func78 (by kernel_rfl) rfl #[.int .i64 (l1.length : Int), .int .i64 (wrap64 (x6_1 + 1))] rfl (by (try simp only [List.map_toArray, List.map_cons, List.map_nil]); first | done | rfl | (simp only [List.length_drop, List.length_take]; rfl)) ?_; (with_reducible refine (smaltoref03_Lists.calls k1 (l1.length : Int) (wrap64 (x6_1 + 1)) t323 _ A6.out).mono ?_); rintro e w7 ⟨v324, rfl, ho0, hb⟩; refine ⟨_, rfl, ?_⟩; have n0_ := Aside0.mk (Kd.N_lower (Kd.N_mono (ok' := fun k_ => (w.heap.size ≤ k_)) ho0 (fun k_ hk_ => (Nat.le_trans (below_size (by repeat (first | (with_reducible first | exact HB.out | apply below_alloc | apply pw_below_drewN | apply below_drew1) | exact HB.out))) hk_))) (below_size (by repeat (first | (with_reducible first | exact HB.out | apply below_alloc | apply pw_below_drewN | apply below_drew1) | exact HB.out)))); have n1_ := Aside0.mk (below_step (by repeat (first | (with_reducible first | exact HB.out | apply below_alloc | apply pw_below_drewN | apply below_drew1) | exact HB.out)) hb); clear HB; have HO325 := n0_; have HB := n1_; clear n0_ n1_; (try clear hb); (try clear hb2); (try clear hk); (try clear hi); (try clear ho0)) | ((with_reducible refine gate_dst (N := 30) rfl ?_); refine Kd.R_lit (Kd.int .i64) _ 3 ?hg (N := 30) ?hd (xs := ([] : List Int)) (inner := []) (ok := fun _ => True) (okp := fun _ => True) ?hr ?hp (fun _ hk => hk) trivial (Below.refl _ _) (Nat.le_refl _) (by simp) ?_; (case hd => rfl); (case hg => rfl); (case hr => first | (go_simp; done) | (go_simp; rfl)); (case hp => exact (Reps.none _ _)); intro v327 w8 ho9 hb hg_ hnew_; clear hg_ hnew_; (first | rw [← Ny326.out] at ho9 | (simp only [Int.reduceToNat] at ho9; rw [← Ny326.out] at ho9)); have n0_ := Aside0.mk (Kd.N_elder' (by (with_reducible repeat (first | apply Kd.N_alloc | apply Kd.N_drewN | apply Kd.N_drew)); exact HO325.out) (Kd.R_base ho9) hb); have n1_ := Aside0.mk (Kd.R_lower (Kd.R_newM (M := fun k_ => (w.heap.size ≤ k_)) ho9 (below_size (by repeat (first | (with_reducible first | exact HB.out | apply below_alloc | apply pw_below_drewN | apply below_drew1) | exact HB.out))) (fun k_ h_ => h_)) (below_size (by repeat (first | (with_reducible first | exact HB.out | apply below_alloc | apply pw_below_drewN | apply below_drew1) | exact HB.out)))); have n2_ := Aside0.mk (below_step (by repeat (first | (with_reducible first | exact HB.out | apply below_alloc | apply pw_below_drewN | apply below_drew1) | exact HB.out)) hb); clear HO325; clear HB; have HO325 := n0_; have HO328 := n1_; have HB := n2_; clear n0_ n1_ n2_; clear hb ho9))
        go_loopg [9, 10, 11] k1 (fun kq v9 v10 v11 w' => ∃ (x9_2 : List Int) (x10_2 : Int) (x11_2 : Int), v10 = .int .i64 x10_2 ∧ v11 = .int .i64 x11_2 ∧ Aside0 (smaltoref03_Put.l1 kq l0 l1 t323 x9_2 x10_2 x11_2 = some (r1, r2)) ∧ Aside0 (kq ≤ k1) ∧ Aside0 (Kd.N (Kd.slice 3 (Kd.int .i64)) 25 w' w.heap.size (fun k_ => (w.heap.size ≤ k_)) v324 t323) ∧ Aside0 (Kd.V (Kd.int .i64) 3 w' w.heap.size (fun k_ => (w.heap.size ≤ k_) ∧ some k_ ≠ (v324 : Value).ownBlock) v9 x9_2) ∧ Aside0 (Below w.heap.size w w'))
        case atStart => exact ⟨(y326), ((-1)), (0), (by first | rfl | (simp; done) | (simp [*]; done)), (by first | rfl | (simp; done) | (simp [*]; done)), H', ⟨Nat.le_refl _⟩, ⟨by (with_reducible repeat (first | apply Kd.N_alloc | apply Kd.N_drewN | apply Kd.N_drew)); exact Kd.N_mono HO325.out (fun _ hk => hk.1)⟩, ⟨Kd.R_V (by (with_reducible repeat (first | apply Kd.R_alloc | apply Kd.R_drewN | apply Kd.R_drew)); exact Kd.R_mono (Kd.R_apart' HO328.out (Kd.N_typed HO325.out) (by decide)) (fun _ hk => ⟨hk.1.1, hk.2⟩))⟩, ⟨by repeat (first | (with_reducible first | exact HB.out | apply below_alloc | apply pw_below_drewN | apply below_drew1) | exact HB.out)⟩⟩
        case round =>
          clear H'
          try clear c1
          try clear p2
          try clear c3
          try clear c3b0
          try clear p3
          try clear q3
          try clear hx3
          try clear c4
          try clear c4b0
          try clear p6
          try clear c7
          try clear hx322_0
          try clear p2
          try clear p322
          try clear q322
          obtain ⟨x9_2, x10_2, x11_2, rfl, rfl, HA, HK2, HO_8, HO_9, HB⟩ := hrel
          cases gk with
          | zero => exact absurd HA.out (by simp [smaltoref03_Put.l1])
          | succ k2 =>
            have H := HA.out
            clear HA
            simp only [smaltoref03_Put.l1] at H
            by_cases c10 : x11_2 < (t323.length : Int)
            · rw [if_pos c10] at H
              have c10b0 : decide (x11_2 < (t323.length : Int)) = true := decide_eq_true c10
              clear c10
              by_cases c11 : 0 ≤ x11_2
              · rw [if_pos c11] at H
                have c11b0 : decide (0 ≤ x11_2) = true := decide_eq_true c11
                clear c11
                replace H := Option.bind_eq_some_iff.mp H
                obtain ⟨t330, A120, H⟩ := H
                replace H : (if x10_2 < 0 then ((smaltoref03_Fired.f k2 l0 (rd_L3 t323 x11_2)).bind fun t332 => (if t332 = true then (smaltoref03_Put.l1 k2 l0 l1 t323 (rd_L3 t323 x11_2) t330 (wrap64 (x11_2 + 1))) else (smaltoref03_Put.l1 k2 l0 l1 t323 x9_2 x10_2 (wrap64 (x11_2 + 1))))) else (if t330 < x10_2 then ((smaltoref03_Fired.f k2 l0 (rd_L3 t323 x11_2)).bind fun t335 => (if t335 = true then (smaltoref03_Put.l1 k2 l0 l1 t323 (rd_L3 t323 x11_2) t330 (wrap64 (x11_2 + 1))) else (smaltoref03_Put.l1 k2 l0 l1 t323 x9_2 x10_2 (wrap64 (x11_2 + 1))))) else (smaltoref03_Put.l1 k2 l0 l1 t323 x9_2 x10_2 (wrap64 (x11_2 + 1))))) = some (r1, r2) := H
                have A12 := Aside0.mk A120
                clear A120
                by_cases c13 : x10_2 < 0
                · rw [if_pos c13] at H
                  have c13b0 : decide (x10_2 < 0) = true := decide_eq_true c13
                  clear c13
                  replace H := Option.bind_eq_some_iff.mp H
                  obtain ⟨t332, A140, H⟩ := H
                  replace H : (if t332 = true then (smaltoref03_Put.l1 k2 l0 l1 t323 (rd_L3 t323 x11_2) t330 (wrap64 (x11_2 + 1))) else (smaltoref03_Put.l1 k2 l0 l1 t323 x9_2 x10_2 (wrap64 (x11_2 + 1)))) = some (r1, r2) := H
                  have A14 := Aside0.mk A140
                  clear A140
                  by_cases c15 : t332 = true
                  · subst c15
                    have H1 : (smaltoref03_Put.l1 k2 l0 l1 t323 (rd_L3 t323 x11_2) t330 (wrap64 (x11_2 + 1))) = some (r1, r2) := by rw [if_pos rfl] at H; exact H
                    clear H
                    have H := H1
                    clear H1
                    have H' := Aside0.mk H
                    clear H
                    obtain ⟨Ao16, co16, eo16⟩ := Kd.N_slice HO_8.out
                    subst eo16
                    have p329 : 0 ≤ (x11_2 : Int) := of_decide_eq_true (by first | (with_reducible assumption) | assumption)
                    have q329 : x11_2 < (t323.length : Int) := of_decide_eq_true (by first | (with_reducible assumption) | assumption)
                    obtain ⟨ad329, A329_0, c329_0, e329, hx329_0, hl329_0, hi329_0⟩ := at_L3 (Kd.N_reads' HO_8.out).2.2 x11_2 p329 q329
                    cases e329
                    obtain ⟨ce329, hce329, hMe329, hcc329⟩ := Kd.N_get HO_8.out [] x11_2 p329 (by first | exact q329 | exact of_decide_eq_true (by first | (with_reducible assumption) | assumption) | (have e_ := (Kd.N_reads' HO_8.out).1; omega))
                    obtain ⟨ua329_0, uc329_0, rfl, ul329_0, ge329_0⟩ := Kd.FK_slice_open hMe329
                    have hv329_0 := hcc329 0 _ rfl
                    rw [Nat.add_zero, show ((Kd.slice 3 (Kd.int .i64))).sz = 1 from rfl, Nat.mul_one] at hv329_0
                    replace hv329_0 := Option.some.inj (hv329_0.symm.trans hx329_0)
                    injection hv329_0 with hva_ hvn_ hvc_
                    rw [hva_] at ge329_0
                    rw [hvc_] at ul329_0
                    have HL329_0 := Aside0.mk (show Kd.V (Kd.int .i64) 3 _ w.heap.size _ _ (rd_L3 t323 x11_2) from Kd.V_mk ul329_0 ge329_0)
                    clear hva_ hvn_ hvc_ ge329_0 ul329_0
                    clear hcc329 hce329
                    have HR329_0 := Aside0.mk hi329_0
                    have HC329_0 := Aside0.mk hl329_0
                    clear hi329_0 hl329_0
                    replace p329 := eq_true p329
                    replace q329 := eq_true q329
                    go_wp2_with (first | ((with_reducible refine gate_callee (f := 85) rfl ?_); refine goesL_ (some 42) rfl rfl Tryd.func85 (by kernel_rfl) rfl #[.slice A329_0 (rd_L3 t323 x11_2).length c329_0, .slice A1 l1.length c1] rfl (by (try simp only [List.map_toArray, List.map_cons, List.map_nil]); first | done | rfl | (simp only [List.length_drop, List.length_take]; rfl)) ?_; (with_reducible refine (smaltoref03_Far.calls k2 _ _ (rd_L3 t323 x11_2) _ _ l1 t330 _ ?side1 ?side2 ?side3 ?side4 A12.out).mono ?_); (case side1 => repeat (first | exact (by repeat (first | (with_reducible exact HR329_0.out) | (with_reducible refine Kd.C_alloc ?_ _) | (with_reducible refine Kd.C_drewN ?_ _) | (with_reducible refine Kd.C_drew ?_) | exact HR329_0.out)) | (with_reducible refine Kd.C_alloc ?_ _) | (with_reducible refine Kd.C_drewN ?_ _) | (with_reducible refine Kd.C_drew ?_))); (case side2 => exact HC329_0.out); (case side3 => repeat (first | exact (Kd.C_below HR1.out HB.out) | (with_reducible refine Kd.C_alloc ?_ _) | (with_reducible refine Kd.C_drewN ?_ _) | (with_reducible refine Kd.C_drew ?_))); (case side4 => exact HC1.out); rintro e w' ⟨rfl, ⟨nd, rfl⟩⟩; refine ⟨_, rfl, ?_⟩; have p331 : 0 ≤ (x11_2 : Int) := of_decide_eq_true (by first | (with_reducible assumption) | assumption); have q331 : x11_2 < (t323.length : Int) := of_decide_eq_true (by first | (with_reducible assumption) | assumption); obtain ⟨ad331, A331_0, c331_0, e331, hx331_0, hl331_0, hi331_0⟩ := at_L3 (Kd.N_reads' HO_8.out).2.2 x11_2 p331 q331; obtain rfl : ad329 = ad331 := (by injection e331); obtain ⟨ce331, hce331, hMe331, hcc331⟩ := Kd.N_get HO_8.out [] x11_2 p331 (by first | exact q331 | exact of_decide_eq_true (by first | (with_reducible assumption) | assumption) | (have e_ := (Kd.N_reads' HO_8.out).1; omega)); obtain ⟨ua331_0, uc331_0, rfl, ul331_0, ge331_0⟩ := Kd.FK_slice_open hMe331; have hv331_0 := hcc331 0 _ rfl; rw [Nat.add_zero, show ((Kd.slice 3 (Kd.int .i64))).sz = 1 from rfl, Nat.mul_one] at hv331_0; replace hv331_0 := Option.some.inj (hv331_0.symm.trans hx331_0); injection hv331_0 with hva_ hvn_ hvc_; rw [hva_] at ge331_0; rw [hvc_] at ul331_0; have HL331_0 := Aside0.mk (show Kd.V (Kd.int .i64) 3 _ w.heap.size _ _ (rd_L3 t323 x11_2) from Kd.V_mk ul331_0 ge331_0); clear hva_ hvn_ hvc_ ge331_0 ul331_0; clear hcc331 hce331; have HR331_0 := Aside0.mk hi331_0; have HC331_0 := Aside0.mk hl331_0; clear hi331_0 hl331_0; replace p331 := eq_true p331; replace q331 := eq_true q331; have ea_ := Option.some.inj (hx329_0.symm.trans hx331_0); injection ea_ with ea_ en_ ec_; subst ea_; subst ec_; clear en_) | (go_at_call 79; (with_reducible refine (smaltoref03_Fired.calls k2 _ _ l0 _ _ (rd_L3 t323 x11_2) true _ ?side1 ?side2 ?side3 ?side4 A14.out).mono ?_); (case side1 => repeat (first | exact (Kd.C_below HR0.out (by repeat (first | (with_reducible first | exact HB.out | apply below_alloc | apply pw_below_drewN | apply below_drew1) | exact HB.out))) | (with_reducible refine Kd.C_alloc ?_ _) | (with_reducible refine Kd.C_drewN ?_ _) | (with_reducible refine Kd.C_drew ?_))); (case side2 => exact HC0.out); (case side3 => repeat (first | exact (by repeat (first | (with_reducible exact HR331_0.out) | (with_reducible refine Kd.C_alloc ?_ _) | (with_reducible refine Kd.C_drewN ?_ _) | (with_reducible refine Kd.C_drew ?_) | exact HR331_0.out)) | (with_reducible refine Kd.C_alloc ?_ _) | (with_reducible refine Kd.C_drewN ?_ _) | (with_reducible refine Kd.C_drew ?_))); (case side4 => exact HC331_0.out); rintro e w' ⟨rfl, ⟨nd, rfl⟩⟩; have p333 : 0 ≤ (x11_2 : Int) := of_decide_eq_true (by first | (with_reducible assumption) | assumption); have q333 : x11_2 < (t323.length : Int) := of_decide_eq_true (by first | (with_reducible assumption) | assumption); obtain ⟨ad333, A333_0, c333_0, e333, hx333_0, hl333_0, hi333_0⟩ := at_L3 (Kd.N_reads' HO_8.out).2.2 x11_2 p333 q333; obtain rfl : ad329 = ad333 := (by injection e333); obtain ⟨ce333, hce333, hMe333, hcc333⟩ := Kd.N_get HO_8.out [] x11_2 p333 (by first | exact q333 | exact of_decide_eq_true (by first | (with_reducible assumption) | assumption) | (have e_ := (Kd.N_reads' HO_8.out).1; omega)); obtain ⟨ua333_0, uc333_0, rfl, ul333_0, ge333_0⟩ := Kd.FK_slice_open hMe333; have hv333_0 := hcc333 0 _ rfl; rw [Nat.add_zero, show ((Kd.slice 3 (Kd.int .i64))).sz = 1 from rfl, Nat.mul_one] at hv333_0; replace hv333_0 := Option.some.inj (hv333_0.symm.trans hx333_0); injection hv333_0 with hva_ hvn_ hvc_; rw [hva_] at ge333_0; rw [hvc_] at ul333_0; have HL333_0 := Aside0.mk (show Kd.V (Kd.int .i64) 3 _ w.heap.size _ _ (rd_L3 t323 x11_2) from Kd.V_mk ul333_0 ge333_0); clear hva_ hvn_ hvc_ ge333_0 ul333_0; clear hcc333 hce333; have HR333_0 := Aside0.mk hi333_0; have HC333_0 := Aside0.mk hl333_0; clear hi333_0 hl333_0; replace p333 := eq_true p333; replace q333 := eq_true q333; have ea_ := Option.some.inj (hx329_0.symm.trans hx333_0); injection ea_ with ea_ en_ ec_; subst ea_; subst ec_; clear en_))
                    go_roundg k2
                    case measure => have := HK1.out; have := HK2.out; omega
                    case rel => exact ⟨(rd_L3 t323 x11_2), (t330), (wrap64 (x11_2 + 1)), (by first | rfl | (simp; done) | (simp [*]; done)), (by first | rfl | (simp; done) | (simp [*]; done)), H', ⟨by have := HK1.out; have := HK2.out; omega⟩, ⟨by (with_reducible repeat (first | apply Kd.N_alloc | apply Kd.N_drewN | apply Kd.N_drew)); exact HO_8.out⟩, ⟨by (with_reducible repeat (first | apply Kd.V_alloc | apply Kd.V_drewN | apply Kd.V_drew)); exact HL333_0.out⟩, ⟨by repeat (first | (with_reducible first | exact HB.out | apply below_alloc | apply pw_below_drewN | apply below_drew1) | exact HB.out)⟩⟩
                  · replace c15 := Bool.eq_false_iff.mpr c15
                    subst c15
                    have H1 : (smaltoref03_Put.l1 k2 l0 l1 t323 x9_2 x10_2 (wrap64 (x11_2 + 1))) = some (r1, r2) := by rw [if_neg (show ¬ (false = true) by decide)] at H; exact H
                    clear H
                    have H := H1
                    clear H1
                    have H' := Aside0.mk H
                    clear H
                    obtain ⟨Ao17, co17, eo17⟩ := Kd.N_slice HO_8.out
                    subst eo17
                    have p329 : 0 ≤ (x11_2 : Int) := of_decide_eq_true (by first | (with_reducible assumption) | assumption)
                    have q329 : x11_2 < (t323.length : Int) := of_decide_eq_true (by first | (with_reducible assumption) | assumption)
                    obtain ⟨ad329, A329_0, c329_0, e329, hx329_0, hl329_0, hi329_0⟩ := at_L3 (Kd.N_reads' HO_8.out).2.2 x11_2 p329 q329
                    cases e329
                    obtain ⟨ce329, hce329, hMe329, hcc329⟩ := Kd.N_get HO_8.out [] x11_2 p329 (by first | exact q329 | exact of_decide_eq_true (by first | (with_reducible assumption) | assumption) | (have e_ := (Kd.N_reads' HO_8.out).1; omega))
                    obtain ⟨ua329_0, uc329_0, rfl, ul329_0, ge329_0⟩ := Kd.FK_slice_open hMe329
                    have hv329_0 := hcc329 0 _ rfl
                    rw [Nat.add_zero, show ((Kd.slice 3 (Kd.int .i64))).sz = 1 from rfl, Nat.mul_one] at hv329_0
                    replace hv329_0 := Option.some.inj (hv329_0.symm.trans hx329_0)
                    injection hv329_0 with hva_ hvn_ hvc_
                    rw [hva_] at ge329_0
                    rw [hvc_] at ul329_0
                    have HL329_0 := Aside0.mk (show Kd.V (Kd.int .i64) 3 _ w.heap.size _ _ (rd_L3 t323 x11_2) from Kd.V_mk ul329_0 ge329_0)
                    clear hva_ hvn_ hvc_ ge329_0 ul329_0
                    clear hcc329 hce329
                    have HR329_0 := Aside0.mk hi329_0
                    have HC329_0 := Aside0.mk hl329_0
                    clear hi329_0 hl329_0
                    replace p329 := eq_true p329
                    replace q329 := eq_true q329
                    go_wp2_with (first | ((with_reducible refine gate_callee (f := 85) rfl ?_); refine goesL_ (some 42) rfl rfl Tryd.func85 (by kernel_rfl) rfl #[.slice A329_0 (rd_L3 t323 x11_2).length c329_0, .slice A1 l1.length c1] rfl (by (try simp only [List.map_toArray, List.map_cons, List.map_nil]); first | done | rfl | (simp only [List.length_drop, List.length_take]; rfl)) ?_; (with_reducible refine (smaltoref03_Far.calls k2 _ _ (rd_L3 t323 x11_2) _ _ l1 t330 _ ?side1 ?side2 ?side3 ?side4 A12.out).mono ?_); (case side1 => repeat (first | exact (by repeat (first | (with_reducible exact HR329_0.out) | (with_reducible refine Kd.C_alloc ?_ _) | (with_reducible refine Kd.C_drewN ?_ _) | (with_reducible refine Kd.C_drew ?_) | exact HR329_0.out)) | (with_reducible refine Kd.C_alloc ?_ _) | (with_reducible refine Kd.C_drewN ?_ _) | (with_reducible refine Kd.C_drew ?_))); (case side2 => exact HC329_0.out); (case side3 => repeat (first | exact (Kd.C_below HR1.out HB.out) | (with_reducible refine Kd.C_alloc ?_ _) | (with_reducible refine Kd.C_drewN ?_ _) | (with_reducible refine Kd.C_drew ?_))); (case side4 => exact HC1.out); rintro e w' ⟨rfl, ⟨nd, rfl⟩⟩; refine ⟨_, rfl, ?_⟩; have p331 : 0 ≤ (x11_2 : Int) := of_decide_eq_true (by first | (with_reducible assumption) | assumption); have q331 : x11_2 < (t323.length : Int) := of_decide_eq_true (by first | (with_reducible assumption) | assumption); obtain ⟨ad331, A331_0, c331_0, e331, hx331_0, hl331_0, hi331_0⟩ := at_L3 (Kd.N_reads' HO_8.out).2.2 x11_2 p331 q331; obtain rfl : ad329 = ad331 := (by injection e331); obtain ⟨ce331, hce331, hMe331, hcc331⟩ := Kd.N_get HO_8.out [] x11_2 p331 (by first | exact q331 | exact of_decide_eq_true (by first | (with_reducible assumption) | assumption) | (have e_ := (Kd.N_reads' HO_8.out).1; omega)); obtain ⟨ua331_0, uc331_0, rfl, ul331_0, ge331_0⟩ := Kd.FK_slice_open hMe331; have hv331_0 := hcc331 0 _ rfl; rw [Nat.add_zero, show ((Kd.slice 3 (Kd.int .i64))).sz = 1 from rfl, Nat.mul_one] at hv331_0; replace hv331_0 := Option.some.inj (hv331_0.symm.trans hx331_0); injection hv331_0 with hva_ hvn_ hvc_; rw [hva_] at ge331_0; rw [hvc_] at ul331_0; have HL331_0 := Aside0.mk (show Kd.V (Kd.int .i64) 3 _ w.heap.size _ _ (rd_L3 t323 x11_2) from Kd.V_mk ul331_0 ge331_0); clear hva_ hvn_ hvc_ ge331_0 ul331_0; clear hcc331 hce331; have HR331_0 := Aside0.mk hi331_0; have HC331_0 := Aside0.mk hl331_0; clear hi331_0 hl331_0; replace p331 := eq_true p331; replace q331 := eq_true q331; have ea_ := Option.some.inj (hx329_0.symm.trans hx331_0); injection ea_ with ea_ en_ ec_; subst ea_; subst ec_; clear en_) | (go_at_call 79; (with_reducible refine (smaltoref03_Fired.calls k2 _ _ l0 _ _ (rd_L3 t323 x11_2) false _ ?side1 ?side2 ?side3 ?side4 A14.out).mono ?_); (case side1 => repeat (first | exact (Kd.C_below HR0.out (by repeat (first | (with_reducible first | exact HB.out | apply below_alloc | apply pw_below_drewN | apply below_drew1) | exact HB.out))) | (with_reducible refine Kd.C_alloc ?_ _) | (with_reducible refine Kd.C_drewN ?_ _) | (with_reducible refine Kd.C_drew ?_))); (case side2 => exact HC0.out); (case side3 => repeat (first | exact (by repeat (first | (with_reducible exact HR331_0.out) | (with_reducible refine Kd.C_alloc ?_ _) | (with_reducible refine Kd.C_drewN ?_ _) | (with_reducible refine Kd.C_drew ?_) | exact HR331_0.out)) | (with_reducible refine Kd.C_alloc ?_ _) | (with_reducible refine Kd.C_drewN ?_ _) | (with_reducible refine Kd.C_drew ?_))); (case side4 => exact HC331_0.out); rintro e w' ⟨rfl, ⟨nd, rfl⟩⟩))
                    go_roundg k2
                    case measure => have := HK1.out; have := HK2.out; omega
                    case rel => exact ⟨(x9_2), (x10_2), (wrap64 (x11_2 + 1)), (by first | rfl | (simp; done) | (simp [*]; done)), (by first | rfl | (simp; done) | (simp [*]; done)), H', ⟨by have := HK1.out; have := HK2.out; omega⟩, ⟨by (with_reducible repeat (first | apply Kd.N_alloc | apply Kd.N_drewN | apply Kd.N_drew)); exact HO_8.out⟩, ⟨by (with_reducible repeat (first | apply Kd.V_alloc | apply Kd.V_drewN | apply Kd.V_drew)); exact HO_9.out⟩, ⟨by repeat (first | (with_reducible first | exact HB.out | apply below_alloc | apply pw_below_drewN | apply below_drew1) | exact HB.out)⟩⟩
                · rw [if_neg c13] at H
                  have c13b0 : decide (x10_2 < 0) = false := decide_eq_false c13
                  clear c13
                  by_cases c18 : t330 < x10_2
                  · rw [if_pos c18] at H
                    have c18b0 : decide (t330 < x10_2) = true := decide_eq_true c18
                    clear c18
                    replace H := Option.bind_eq_some_iff.mp H
                    obtain ⟨t335, A190, H⟩ := H
                    replace H : (if t335 = true then (smaltoref03_Put.l1 k2 l0 l1 t323 (rd_L3 t323 x11_2) t330 (wrap64 (x11_2 + 1))) else (smaltoref03_Put.l1 k2 l0 l1 t323 x9_2 x10_2 (wrap64 (x11_2 + 1)))) = some (r1, r2) := H
                    have A19 := Aside0.mk A190
                    clear A190
                    by_cases c20 : t335 = true
                    · subst c20
                      have H1 : (smaltoref03_Put.l1 k2 l0 l1 t323 (rd_L3 t323 x11_2) t330 (wrap64 (x11_2 + 1))) = some (r1, r2) := by rw [if_pos rfl] at H; exact H
                      clear H
                      have H := H1
                      clear H1
                      have H' := Aside0.mk H
                      clear H
                      obtain ⟨Ao21, co21, eo21⟩ := Kd.N_slice HO_8.out
                      subst eo21
                      have p329 : 0 ≤ (x11_2 : Int) := of_decide_eq_true (by first | (with_reducible assumption) | assumption)
                      have q329 : x11_2 < (t323.length : Int) := of_decide_eq_true (by first | (with_reducible assumption) | assumption)
                      obtain ⟨ad329, A329_0, c329_0, e329, hx329_0, hl329_0, hi329_0⟩ := at_L3 (Kd.N_reads' HO_8.out).2.2 x11_2 p329 q329
                      cases e329
                      obtain ⟨ce329, hce329, hMe329, hcc329⟩ := Kd.N_get HO_8.out [] x11_2 p329 (by first | exact q329 | exact of_decide_eq_true (by first | (with_reducible assumption) | assumption) | (have e_ := (Kd.N_reads' HO_8.out).1; omega))
                      obtain ⟨ua329_0, uc329_0, rfl, ul329_0, ge329_0⟩ := Kd.FK_slice_open hMe329
                      have hv329_0 := hcc329 0 _ rfl
                      rw [Nat.add_zero, show ((Kd.slice 3 (Kd.int .i64))).sz = 1 from rfl, Nat.mul_one] at hv329_0
                      replace hv329_0 := Option.some.inj (hv329_0.symm.trans hx329_0)
                      injection hv329_0 with hva_ hvn_ hvc_
                      rw [hva_] at ge329_0
                      rw [hvc_] at ul329_0
                      have HL329_0 := Aside0.mk (show Kd.V (Kd.int .i64) 3 _ w.heap.size _ _ (rd_L3 t323 x11_2) from Kd.V_mk ul329_0 ge329_0)
                      clear hva_ hvn_ hvc_ ge329_0 ul329_0
                      clear hcc329 hce329
                      have HR329_0 := Aside0.mk hi329_0
                      have HC329_0 := Aside0.mk hl329_0
                      clear hi329_0 hl329_0
                      replace p329 := eq_true p329
                      replace q329 := eq_true q329
                      go_wp2_with (first | ((with_reducible refine gate_callee (f := 85) rfl ?_); refine goesL_ (some 42) rfl rfl Tryd.func85 (by kernel_rfl) rfl #[.slice A329_0 (rd_L3 t323 x11_2).length c329_0, .slice A1 l1.length c1] rfl (by (try simp only [List.map_toArray, List.map_cons, List.map_nil]); first | done | rfl | (simp only [List.length_drop, List.length_take]; rfl)) ?_; (with_reducible refine (smaltoref03_Far.calls k2 _ _ (rd_L3 t323 x11_2) _ _ l1 t330 _ ?side1 ?side2 ?side3 ?side4 A12.out).mono ?_); (case side1 => repeat (first | exact (by repeat (first | (with_reducible exact HR329_0.out) | (with_reducible refine Kd.C_alloc ?_ _) | (with_reducible refine Kd.C_drewN ?_ _) | (with_reducible refine Kd.C_drew ?_) | exact HR329_0.out)) | (with_reducible refine Kd.C_alloc ?_ _) | (with_reducible refine Kd.C_drewN ?_ _) | (with_reducible refine Kd.C_drew ?_))); (case side2 => exact HC329_0.out); (case side3 => repeat (first | exact (Kd.C_below HR1.out HB.out) | (with_reducible refine Kd.C_alloc ?_ _) | (with_reducible refine Kd.C_drewN ?_ _) | (with_reducible refine Kd.C_drew ?_))); (case side4 => exact HC1.out); rintro e w' ⟨rfl, ⟨nd, rfl⟩⟩; refine ⟨_, rfl, ?_⟩; have p334 : 0 ≤ (x11_2 : Int) := of_decide_eq_true (by first | (with_reducible assumption) | assumption); have q334 : x11_2 < (t323.length : Int) := of_decide_eq_true (by first | (with_reducible assumption) | assumption); obtain ⟨ad334, A334_0, c334_0, e334, hx334_0, hl334_0, hi334_0⟩ := at_L3 (Kd.N_reads' HO_8.out).2.2 x11_2 p334 q334; obtain rfl : ad329 = ad334 := (by injection e334); obtain ⟨ce334, hce334, hMe334, hcc334⟩ := Kd.N_get HO_8.out [] x11_2 p334 (by first | exact q334 | exact of_decide_eq_true (by first | (with_reducible assumption) | assumption) | (have e_ := (Kd.N_reads' HO_8.out).1; omega)); obtain ⟨ua334_0, uc334_0, rfl, ul334_0, ge334_0⟩ := Kd.FK_slice_open hMe334; have hv334_0 := hcc334 0 _ rfl; rw [Nat.add_zero, show ((Kd.slice 3 (Kd.int .i64))).sz = 1 from rfl, Nat.mul_one] at hv334_0; replace hv334_0 := Option.some.inj (hv334_0.symm.trans hx334_0); injection hv334_0 with hva_ hvn_ hvc_; rw [hva_] at ge334_0; rw [hvc_] at ul334_0; have HL334_0 := Aside0.mk (show Kd.V (Kd.int .i64) 3 _ w.heap.size _ _ (rd_L3 t323 x11_2) from Kd.V_mk ul334_0 ge334_0); clear hva_ hvn_ hvc_ ge334_0 ul334_0; clear hcc334 hce334; have HR334_0 := Aside0.mk hi334_0; have HC334_0 := Aside0.mk hl334_0; clear hi334_0 hl334_0; replace p334 := eq_true p334; replace q334 := eq_true q334; have ea_ := Option.some.inj (hx329_0.symm.trans hx334_0); injection ea_ with ea_ en_ ec_; subst ea_; subst ec_; clear en_) | (go_at_call 79; (with_reducible refine (smaltoref03_Fired.calls k2 _ _ l0 _ _ (rd_L3 t323 x11_2) true _ ?side1 ?side2 ?side3 ?side4 A19.out).mono ?_); (case side1 => repeat (first | exact (Kd.C_below HR0.out (by repeat (first | (with_reducible first | exact HB.out | apply below_alloc | apply pw_below_drewN | apply below_drew1) | exact HB.out))) | (with_reducible refine Kd.C_alloc ?_ _) | (with_reducible refine Kd.C_drewN ?_ _) | (with_reducible refine Kd.C_drew ?_))); (case side2 => exact HC0.out); (case side3 => repeat (first | exact (by repeat (first | (with_reducible exact HR334_0.out) | (with_reducible refine Kd.C_alloc ?_ _) | (with_reducible refine Kd.C_drewN ?_ _) | (with_reducible refine Kd.C_drew ?_) | exact HR334_0.out)) | (with_reducible refine Kd.C_alloc ?_ _) | (with_reducible refine Kd.C_drewN ?_ _) | (with_reducible refine Kd.C_drew ?_))); (case side4 => exact HC334_0.out); rintro e w' ⟨rfl, ⟨nd, rfl⟩⟩; have p336 : 0 ≤ (x11_2 : Int) := of_decide_eq_true (by first | (with_reducible assumption) | assumption); have q336 : x11_2 < (t323.length : Int) := of_decide_eq_true (by first | (with_reducible assumption) | assumption); obtain ⟨ad336, A336_0, c336_0, e336, hx336_0, hl336_0, hi336_0⟩ := at_L3 (Kd.N_reads' HO_8.out).2.2 x11_2 p336 q336; obtain rfl : ad329 = ad336 := (by injection e336); obtain ⟨ce336, hce336, hMe336, hcc336⟩ := Kd.N_get HO_8.out [] x11_2 p336 (by first | exact q336 | exact of_decide_eq_true (by first | (with_reducible assumption) | assumption) | (have e_ := (Kd.N_reads' HO_8.out).1; omega)); obtain ⟨ua336_0, uc336_0, rfl, ul336_0, ge336_0⟩ := Kd.FK_slice_open hMe336; have hv336_0 := hcc336 0 _ rfl; rw [Nat.add_zero, show ((Kd.slice 3 (Kd.int .i64))).sz = 1 from rfl, Nat.mul_one] at hv336_0; replace hv336_0 := Option.some.inj (hv336_0.symm.trans hx336_0); injection hv336_0 with hva_ hvn_ hvc_; rw [hva_] at ge336_0; rw [hvc_] at ul336_0; have HL336_0 := Aside0.mk (show Kd.V (Kd.int .i64) 3 _ w.heap.size _ _ (rd_L3 t323 x11_2) from Kd.V_mk ul336_0 ge336_0); clear hva_ hvn_ hvc_ ge336_0 ul336_0; clear hcc336 hce336; have HR336_0 := Aside0.mk hi336_0; have HC336_0 := Aside0.mk hl336_0; clear hi336_0 hl336_0; replace p336 := eq_true p336; replace q336 := eq_true q336; have ea_ := Option.some.inj (hx329_0.symm.trans hx336_0); injection ea_ with ea_ en_ ec_; subst ea_; subst ec_; clear en_))
                      go_roundg k2
                      case measure => have := HK1.out; have := HK2.out; omega
                      case rel => exact ⟨(rd_L3 t323 x11_2), (t330), (wrap64 (x11_2 + 1)), (by first | rfl | (simp; done) | (simp [*]; done)), (by first | rfl | (simp; done) | (simp [*]; done)), H', ⟨by have := HK1.out; have := HK2.out; omega⟩, ⟨by (with_reducible repeat (first | apply Kd.N_alloc | apply Kd.N_drewN | apply Kd.N_drew)); exact HO_8.out⟩, ⟨by (with_reducible repeat (first | apply Kd.V_alloc | apply Kd.V_drewN | apply Kd.V_drew)); exact HL336_0.out⟩, ⟨by repeat (first | (with_reducible first | exact HB.out | apply below_alloc | apply pw_below_drewN | apply below_drew1) | exact HB.out)⟩⟩
                    · replace c20 := Bool.eq_false_iff.mpr c20
                      subst c20
                      have H1 : (smaltoref03_Put.l1 k2 l0 l1 t323 x9_2 x10_2 (wrap64 (x11_2 + 1))) = some (r1, r2) := by rw [if_neg (show ¬ (false = true) by decide)] at H; exact H
                      clear H
                      have H := H1
                      clear H1
                      have H' := Aside0.mk H
                      clear H
                      obtain ⟨Ao22, co22, eo22⟩ := Kd.N_slice HO_8.out
                      subst eo22
                      have p329 : 0 ≤ (x11_2 : Int) := of_decide_eq_true (by first | (with_reducible assumption) | assumption)
                      have q329 : x11_2 < (t323.length : Int) := of_decide_eq_true (by first | (with_reducible assumption) | assumption)
                      obtain ⟨ad329, A329_0, c329_0, e329, hx329_0, hl329_0, hi329_0⟩ := at_L3 (Kd.N_reads' HO_8.out).2.2 x11_2 p329 q329
                      cases e329
                      obtain ⟨ce329, hce329, hMe329, hcc329⟩ := Kd.N_get HO_8.out [] x11_2 p329 (by first | exact q329 | exact of_decide_eq_true (by first | (with_reducible assumption) | assumption) | (have e_ := (Kd.N_reads' HO_8.out).1; omega))
                      obtain ⟨ua329_0, uc329_0, rfl, ul329_0, ge329_0⟩ := Kd.FK_slice_open hMe329
                      have hv329_0 := hcc329 0 _ rfl
                      rw [Nat.add_zero, show ((Kd.slice 3 (Kd.int .i64))).sz = 1 from rfl, Nat.mul_one] at hv329_0
                      replace hv329_0 := Option.some.inj (hv329_0.symm.trans hx329_0)
                      injection hv329_0 with hva_ hvn_ hvc_
                      rw [hva_] at ge329_0
                      rw [hvc_] at ul329_0
                      have HL329_0 := Aside0.mk (show Kd.V (Kd.int .i64) 3 _ w.heap.size _ _ (rd_L3 t323 x11_2) from Kd.V_mk ul329_0 ge329_0)
                      clear hva_ hvn_ hvc_ ge329_0 ul329_0
                      clear hcc329 hce329
                      have HR329_0 := Aside0.mk hi329_0
                      have HC329_0 := Aside0.mk hl329_0
                      clear hi329_0 hl329_0
                      replace p329 := eq_true p329
                      replace q329 := eq_true q329
                      go_wp2_with (first | ((with_reducible refine gate_callee (f := 85) rfl ?_); refine goesL_ (some 42) rfl rfl Tryd.func85 (by kernel_rfl) rfl #[.slice A329_0 (rd_L3 t323 x11_2).length c329_0, .slice A1 l1.length c1] rfl (by (try simp only [List.map_toArray, List.map_cons, List.map_nil]); first | done | rfl | (simp only [List.length_drop, List.length_take]; rfl)) ?_; (with_reducible refine (smaltoref03_Far.calls k2 _ _ (rd_L3 t323 x11_2) _ _ l1 t330 _ ?side1 ?side2 ?side3 ?side4 A12.out).mono ?_); (case side1 => repeat (first | exact (by repeat (first | (with_reducible exact HR329_0.out) | (with_reducible refine Kd.C_alloc ?_ _) | (with_reducible refine Kd.C_drewN ?_ _) | (with_reducible refine Kd.C_drew ?_) | exact HR329_0.out)) | (with_reducible refine Kd.C_alloc ?_ _) | (with_reducible refine Kd.C_drewN ?_ _) | (with_reducible refine Kd.C_drew ?_))); (case side2 => exact HC329_0.out); (case side3 => repeat (first | exact (Kd.C_below HR1.out HB.out) | (with_reducible refine Kd.C_alloc ?_ _) | (with_reducible refine Kd.C_drewN ?_ _) | (with_reducible refine Kd.C_drew ?_))); (case side4 => exact HC1.out); rintro e w' ⟨rfl, ⟨nd, rfl⟩⟩; refine ⟨_, rfl, ?_⟩; have p334 : 0 ≤ (x11_2 : Int) := of_decide_eq_true (by first | (with_reducible assumption) | assumption); have q334 : x11_2 < (t323.length : Int) := of_decide_eq_true (by first | (with_reducible assumption) | assumption); obtain ⟨ad334, A334_0, c334_0, e334, hx334_0, hl334_0, hi334_0⟩ := at_L3 (Kd.N_reads' HO_8.out).2.2 x11_2 p334 q334; obtain rfl : ad329 = ad334 := (by injection e334); obtain ⟨ce334, hce334, hMe334, hcc334⟩ := Kd.N_get HO_8.out [] x11_2 p334 (by first | exact q334 | exact of_decide_eq_true (by first | (with_reducible assumption) | assumption) | (have e_ := (Kd.N_reads' HO_8.out).1; omega)); obtain ⟨ua334_0, uc334_0, rfl, ul334_0, ge334_0⟩ := Kd.FK_slice_open hMe334; have hv334_0 := hcc334 0 _ rfl; rw [Nat.add_zero, show ((Kd.slice 3 (Kd.int .i64))).sz = 1 from rfl, Nat.mul_one] at hv334_0; replace hv334_0 := Option.some.inj (hv334_0.symm.trans hx334_0); injection hv334_0 with hva_ hvn_ hvc_; rw [hva_] at ge334_0; rw [hvc_] at ul334_0; have HL334_0 := Aside0.mk (show Kd.V (Kd.int .i64) 3 _ w.heap.size _ _ (rd_L3 t323 x11_2) from Kd.V_mk ul334_0 ge334_0); clear hva_ hvn_ hvc_ ge334_0 ul334_0; clear hcc334 hce334; have HR334_0 := Aside0.mk hi334_0; have HC334_0 := Aside0.mk hl334_0; clear hi334_0 hl334_0; replace p334 := eq_true p334; replace q334 := eq_true q334; have ea_ := Option.some.inj (hx329_0.symm.trans hx334_0); injection ea_ with ea_ en_ ec_; subst ea_; subst ec_; clear en_) | (go_at_call 79; (with_reducible refine (smaltoref03_Fired.calls k2 _ _ l0 _ _ (rd_L3 t323 x11_2) false _ ?side1 ?side2 ?side3 ?side4 A19.out).mono ?_); (case side1 => repeat (first | exact (Kd.C_below HR0.out (by repeat (first | (with_reducible first | exact HB.out | apply below_alloc | apply pw_below_drewN | apply below_drew1) | exact HB.out))) | (with_reducible refine Kd.C_alloc ?_ _) | (with_reducible refine Kd.C_drewN ?_ _) | (with_reducible refine Kd.C_drew ?_))); (case side2 => exact HC0.out); (case side3 => repeat (first | exact (by repeat (first | (with_reducible exact HR334_0.out) | (with_reducible refine Kd.C_alloc ?_ _) | (with_reducible refine Kd.C_drewN ?_ _) | (with_reducible refine Kd.C_drew ?_) | exact HR334_0.out)) | (with_reducible refine Kd.C_alloc ?_ _) | (with_reducible refine Kd.C_drewN ?_ _) | (with_reducible refine Kd.C_drew ?_))); (case side4 => exact HC334_0.out); rintro e w' ⟨rfl, ⟨nd, rfl⟩⟩))
                      go_roundg k2
                      case measure => have := HK1.out; have := HK2.out; omega
                      case rel => exact ⟨(x9_2), (x10_2), (wrap64 (x11_2 + 1)), (by first | rfl | (simp; done) | (simp [*]; done)), (by first | rfl | (simp; done) | (simp [*]; done)), H', ⟨by have := HK1.out; have := HK2.out; omega⟩, ⟨by (with_reducible repeat (first | apply Kd.N_alloc | apply Kd.N_drewN | apply Kd.N_drew)); exact HO_8.out⟩, ⟨by (with_reducible repeat (first | apply Kd.V_alloc | apply Kd.V_drewN | apply Kd.V_drew)); exact HO_9.out⟩, ⟨by repeat (first | (with_reducible first | exact HB.out | apply below_alloc | apply pw_below_drewN | apply below_drew1) | exact HB.out)⟩⟩
                  · rw [if_neg c18] at H
                    have c18b0 : decide (t330 < x10_2) = false := decide_eq_false c18
                    clear c18
                    have H' := Aside0.mk H
                    clear H
                    obtain ⟨Ao23, co23, eo23⟩ := Kd.N_slice HO_8.out
                    subst eo23
                    have p329 : 0 ≤ (x11_2 : Int) := of_decide_eq_true (by first | (with_reducible assumption) | assumption)
                    have q329 : x11_2 < (t323.length : Int) := of_decide_eq_true (by first | (with_reducible assumption) | assumption)
                    obtain ⟨ad329, A329_0, c329_0, e329, hx329_0, hl329_0, hi329_0⟩ := at_L3 (Kd.N_reads' HO_8.out).2.2 x11_2 p329 q329
                    cases e329
                    obtain ⟨ce329, hce329, hMe329, hcc329⟩ := Kd.N_get HO_8.out [] x11_2 p329 (by first | exact q329 | exact of_decide_eq_true (by first | (with_reducible assumption) | assumption) | (have e_ := (Kd.N_reads' HO_8.out).1; omega))
                    obtain ⟨ua329_0, uc329_0, rfl, ul329_0, ge329_0⟩ := Kd.FK_slice_open hMe329
                    have hv329_0 := hcc329 0 _ rfl
                    rw [Nat.add_zero, show ((Kd.slice 3 (Kd.int .i64))).sz = 1 from rfl, Nat.mul_one] at hv329_0
                    replace hv329_0 := Option.some.inj (hv329_0.symm.trans hx329_0)
                    injection hv329_0 with hva_ hvn_ hvc_
                    rw [hva_] at ge329_0
                    rw [hvc_] at ul329_0
                    have HL329_0 := Aside0.mk (show Kd.V (Kd.int .i64) 3 _ w.heap.size _ _ (rd_L3 t323 x11_2) from Kd.V_mk ul329_0 ge329_0)
                    clear hva_ hvn_ hvc_ ge329_0 ul329_0
                    clear hcc329 hce329
                    have HR329_0 := Aside0.mk hi329_0
                    have HC329_0 := Aside0.mk hl329_0
                    clear hi329_0 hl329_0
                    replace p329 := eq_true p329
                    replace q329 := eq_true q329
                    go_wp2_with (first | ((with_reducible refine gate_callee (f := 85) rfl ?_); refine goesL_ (some 42) rfl rfl Tryd.func85 (by kernel_rfl) rfl #[.slice A329_0 (rd_L3 t323 x11_2).length c329_0, .slice A1 l1.length c1] rfl (by (try simp only [List.map_toArray, List.map_cons, List.map_nil]); first | done | rfl | (simp only [List.length_drop, List.length_take]; rfl)) ?_; (with_reducible refine (smaltoref03_Far.calls k2 _ _ (rd_L3 t323 x11_2) _ _ l1 t330 _ ?side1 ?side2 ?side3 ?side4 A12.out).mono ?_); (case side1 => repeat (first | exact (by repeat (first | (with_reducible exact HR329_0.out) | (with_reducible refine Kd.C_alloc ?_ _) | (with_reducible refine Kd.C_drewN ?_ _) | (with_reducible refine Kd.C_drew ?_) | exact HR329_0.out)) | (with_reducible refine Kd.C_alloc ?_ _) | (with_reducible refine Kd.C_drewN ?_ _) | (with_reducible refine Kd.C_drew ?_))); (case side2 => exact HC329_0.out); (case side3 => repeat (first | exact (Kd.C_below HR1.out HB.out) | (with_reducible refine Kd.C_alloc ?_ _) | (with_reducible refine Kd.C_drewN ?_ _) | (with_reducible refine Kd.C_drew ?_))); (case side4 => exact HC1.out); rintro e w' ⟨rfl, ⟨nd, rfl⟩⟩; refine ⟨_, rfl, ?_⟩))
                    go_roundg k2
                    case measure => have := HK1.out; have := HK2.out; omega
                    case rel => exact ⟨(x9_2), (x10_2), (wrap64 (x11_2 + 1)), (by first | rfl | (simp; done) | (simp [*]; done)), (by first | rfl | (simp; done) | (simp [*]; done)), H', ⟨by have := HK1.out; have := HK2.out; omega⟩, ⟨by (with_reducible repeat (first | apply Kd.N_alloc | apply Kd.N_drewN | apply Kd.N_drew)); exact HO_8.out⟩, ⟨by (with_reducible repeat (first | apply Kd.V_alloc | apply Kd.V_drewN | apply Kd.V_drew)); exact HO_9.out⟩, ⟨by repeat (first | (with_reducible first | exact HB.out | apply below_alloc | apply pw_below_drewN | apply below_drew1) | exact HB.out)⟩⟩
              · rw [if_neg c11] at H
                exact absurd H (by simp)
            · rw [if_neg c10] at H
              have c10b0 : decide (x11_2 < (t323.length : Int)) = false := decide_eq_false c10
              clear c10
              simp only [Option.some.injEq, Prod.mk.injEq] at H
              obtain ⟨rfl, rfl⟩ := H
              obtain ⟨Ao24, co24, eo24⟩ := Kd.N_slice HO_8.out
              subst eo24
              go_wp2
              go_ret2
              exact ⟨_, by first | rfl | (simp [errW_none, errW_some] <;> rfl) | (simp [*, errW_none, errW_some] <;> rfl), by (with_reducible repeat (first | apply Kd.V_alloc | apply Kd.V_drewN | apply Kd.V_drew)); exact Kd.V_mono HO_9.out (fun _ hk => hk.1), by repeat (first | (with_reducible first | exact HB.out | apply below_alloc | apply pw_below_drewN | apply below_drew1) | exact HB.out)⟩
end Go.Proofs.YtbijamlgcebgeaaDoor.Q

-- part NC
namespace Go.Proofs.YtbijamlgcebgeaaDoor.Hand
open Go.RowKit Go.Shelf Go.Sort Go.Proofs.YtbijamlgcebgeaaDoorW.PrintWords Go.Proofs.YtbijamlgcebgeaaDoorW.PrintMore Go.Proofs.YtbijamlgcebgeaaDoor.Q
theorem Form_l0 (l : List S74) (loads : List Int) (hl : l.length ≤ 1000) (hp : loads.length ≤ 1000) : ∀ n i k : Nat, i + n = loads.length → n < k → smaltoref03_Form.l0 k l loads i = some (allIn 0 5 (loads.drop i) && decide (loads.length = l.length)) := by
  intro n
  induction n with
  | zero =>
    intro i k h hk
    obtain ⟨k, rfl⟩ : ∃ j, k = j + 1 := ⟨k - 1, by omega⟩
    rw [smaltoref03_Form.l0, if_neg (by omega), List.drop_eq_nil_of_le (by omega)]
    congr 1
    rw [Bool.eq_iff_iff]
    simp [allIn]
    omega
  | succ n ih =>
    intro i k h hk
    obtain ⟨k, rfl⟩ : ∃ j, k = j + 1 := ⟨k - 1, by omega⟩
    have hi : i < loads.length := by omega
    have := ih (i + 1) k (by omega) (by omega)
    rw [show ((i + 1 : Nat) : Int) = (i : Int) + 1 by omega] at this
    rw [smaltoref03_Form.l0, if_pos (by omega), if_pos (by omega), In_eq, rd_get hi, w64 (by omega), this, List.drop_eq_getElem_cons hi]
    simp only [Option.bind_some]
    have e : allIn 0 5 (loads[i] :: loads.drop (i + 1)) = (allIn 0 5 [loads[i]] && allIn 0 5 (loads.drop (i + 1))) := by
      unfold allIn
      simp only [List.any_cons, List.any_nil, Bool.or_false, Bool.not_or]
    rw [e]
    cases allIn 0 5 [loads[i]] <;> simp
theorem Form_eq (l : List S74) (loads : List Int) (hl : l.length ≤ 1000) (hp : loads.length ≤ 1000) (k : Nat) (hk : loads.length < k) : smaltoref03_Form.f k l loads = some (allIn 0 5 loads && decide (loads.length = l.length)) := by
  have := Form_l0 l loads hl hp loads.length 0 k (by omega) hk
  simpa [smaltoref03_Form.f] using this
theorem Far_l0 (x loads : List Int) (hx : x.length = loads.length) (hp : loads.length ≤ 1000) : ∀ n i k : Nat, i + n = loads.length → n < k → smaltoref03_Far.l0 k x loads (farK x loads i) i = some ((farK x loads loads.length : Nat) : Int) := by
  intro n
  induction n with
  | zero =>
    intro i k h hk
    obtain ⟨k, rfl⟩ : ∃ j, k = j + 1 := ⟨k - 1, by omega⟩
    rw [smaltoref03_Far.l0, if_neg (by omega), show i = loads.length by omega]
  | succ n ih =>
    intro i k h hk
    obtain ⟨k, rfl⟩ : ∃ j, k = j + 1 := ⟨k - 1, by omega⟩
    have := ih (i + 1) k (by omega) (by omega)
    have hfl := farK_le x loads i
    rw [show ((i + 1 : Nat) : Int) = (i : Int) + 1 by omega, farK_succ] at this
    rw [smaltoref03_Far.l0, if_pos (by omega), if_pos (by omega), if_pos (by omega), w64 (x := (i : Int) + 1) (by omega), w64 (by omega)]
    by_cases h1 : rd x i = rd loads i
    · rw [if_pos h1]
      rw [if_neg (by simp [h1])] at this
      exact this
    · rw [if_neg h1]
      rw [if_pos (by simp [h1])] at this
      exact this
theorem Far_eq (x loads : List Int) (hx : x.length = loads.length) (hp : loads.length ≤ 1000) (k : Nat) (hk : loads.length < k) : smaltoref03_Far.f k x loads = some ((farK x loads loads.length : Nat) : Int) :=
  Far_l0 x loads hx hp loads.length 0 k (by omega) hk
/-- What the reference has found so far: -1 is nothing. -/
def stL : Option (List Int × Nat) → List Int
  | none => []
  | some (x, _) => x
def stM : Option (List Int × Nat) → Int
  | none => -1
  | some (_, m) => m
def putStepA (F : Furn) (loads : List Int) (st : Option (List Int × Nat)) (x : List Int) : Option (List Int × Nat) := if firedB F x = true then putStep2 loads st x else st
section
variable {F : Furn} (hF : F.Ok) {loads : List Int} (hl : loads.length = F.l.length)
include hF hl
theorem Put_l1 (lists : List (List Int)) (hlen : lists.length ≤ 46656) (hmem : ∀ x ∈ lists, x.length = F.l.length) : ∀ (n i k : Nat) (st : Option (List Int × Nat)), i + n = lists.length → n + 70 < k →
    smaltoref03_Put.l1 k (tableL F) loads lists (stL st) (stM st) i = some (stL ((lists.drop i).foldl (putStepA F loads) st), stM ((lists.drop i).foldl (putStepA F loads) st)) := by
  have hs6 := hF.len
  intro n
  induction n with
  | zero =>
    intro i k st h hk
    obtain ⟨k, rfl⟩ : ∃ j, k = j + 1 := ⟨k - 1, by omega⟩
    rw [smaltoref03_Put.l1, if_neg (by omega), List.drop_eq_nil_of_le (by omega)]
    rfl
  | succ n ih =>
    intro i k st h hk
    obtain ⟨k, rfl⟩ : ∃ j, k = j + 1 := ⟨k - 1, by omega⟩
    have hi : i < lists.length := by omega
    have hx := hmem _ (List.getElem_mem hi)
    have hnext := fun st' => ih (i + 1) k st' (by omega) (by omega)
    simp only [show ((i + 1 : Nat) : Int) = (i : Int) + 1 by omega] at hnext
    rw [smaltoref03_Put.l1, if_pos (by omega), if_pos (by omega), rdL3_get hi, w64 (by omega), List.drop_eq_getElem_cons hi, List.foldl_cons]
    generalize lists[i] = x at hx ⊢
    rw [Far_eq x loads (by omega) (by omega) k (by omega), Fired_eq hF hx k (by omega)]
    simp only [Option.bind_some]
    have hfx : farK x loads x.length = farK x loads loads.length := by rw [hx, hl]
    obtain ⟨st', hst'⟩ : ∃ v, putStepA F loads st x = v := ⟨_, rfl⟩
    rw [hst']
    unfold putStepA at hst'
    cases st with
    | none =>
      rw [if_pos (by simp [stM])]
      cases hfd : firedB F x with
      | true =>
        rw [hfd, if_pos rfl] at hst'
        simp only [putStep2, hfx] at hst'
        subst hst'
        rw [if_pos rfl]
        exact hnext (some (x, farK x loads loads.length))
      | false =>
        rw [hfd, if_neg (by simp)] at hst'
        subst hst'
        rw [if_neg (by simp)]
        exact hnext none
    | some p =>
      obtain ⟨y, m⟩ := p
      rw [if_neg (by simp [stM])]
      simp only [putStep2, hfx] at hst'
      by_cases h1 : farK x loads loads.length < m
      · rw [if_pos (by simp [stM]; omega)]
        rw [if_pos h1] at hst'
        cases hfd : firedB F x with
        | true =>
          rw [hfd, if_pos rfl] at hst'
          subst hst'
          rw [if_pos rfl]
          exact hnext (some (x, farK x loads loads.length))
        | false =>
          rw [hfd, if_neg (by simp)] at hst'
          subst hst'
          rw [if_neg (by simp)]
          exact hnext (some (y, m))
      · rw [if_neg (by simp [stM]; omega)]
        rw [if_neg h1] at hst'
        have e : some (y, m) = st' := by rw [← hst']; split <;> rfl
        subst e
        exact hnext (some (y, m))
theorem Put_l0 (hin : allIn 0 5 loads = true) : ∀ (n i k : Nat), i + n = loads.length → n + 500000 < k →
    smaltoref03_Put.l0 k (tableL F) loads (maxK loads i) i = some (stL (putO F loads (maxK loads loads.length + 1).toNat), stM (putO F loads (maxK loads loads.length + 1).toNat)) := by
  have hs6 := hF.len
  intro n
  induction n with
  | zero =>
    intro i k h hk
    obtain ⟨k, rfl⟩ : ∃ j, k = j + 1 := ⟨k - 1, by omega⟩
    obtain rfl : i = loads.length := by omega
    have hmb := maxK_bd loads hin loads.length (Nat.le_refl _)
    rw [smaltoref03_Put.l0, if_neg (by omega), w64 (by omega)]
    obtain ⟨m, hm⟩ : ∃ m : Nat, maxK loads loads.length + 1 = m := ⟨(maxK loads loads.length + 1).toNat, by omega⟩
    rw [hm, hl, Lists_eq m (by omega) F.l.length hs6 k (by omega)]
    simp only [Option.bind_some, Int.toNat_natCast]
    have hbd := pow_bd6 (show m ≤ 6 by omega) hs6
    have hlen := allLs_len m F.l.length
    have := Put_l1 hF hl (allLs m F.l.length) (by omega) (fun x hx => (allLs_mem m _ x hx).1) (allLs m F.l.length).length 0 k none (by omega) (by omega)
    simp only [show ((0 : Nat) : Int) = 0 from rfl, List.drop_zero] at this
    rw [show smaltoref03_Put.l1 k (tableL F) loads (allLs m F.l.length) [] (-1) 0 = smaltoref03_Put.l1 k (tableL F) loads (allLs m F.l.length) (stL none) (stM none) 0 from rfl, this]
    have e : putO F loads m = (allLs m F.l.length).foldl (putStepA F loads) none := by
      unfold putO
      rw [listsL_eq hF (by omega), List.foldl_filter]
      rfl
    rw [e]
  | succ n ih =>
    intro i k h hk
    obtain ⟨k, rfl⟩ : ∃ j, k = j + 1 := ⟨k - 1, by omega⟩
    have := ih (i + 1) k (by omega) (by omega)
    rw [show ((i + 1 : Nat) : Int) = (i : Int) + 1 by omega, maxK_succ] at this
    rw [smaltoref03_Put.l0, if_pos (by omega), if_pos (by omega), w64 (by omega)]
    exact this
theorem Put_eq (hin : allIn 0 5 loads = true) (k : Nat) (hk : 500020 ≤ k) : smaltoref03_Put.f k (tableL F) loads = some (stL (putO F loads (maxK loads loads.length + 1).toNat), stM (putO F loads (maxK loads loads.length + 1).toNat)) := by
  have hs6 := hF.len
  exact Put_l0 hF hl hin loads.length 0 k (by omega) (by omega)
theorem putO_len {m : Nat} (hm : m ≤ 6) {x : List Int} {k : Nat} (h : putO F loads m = some (x, k)) : x.length = F.l.length := by
  have _ := hl
  have key : ∀ (L : List (List Int)) (st : Option (List Int × Nat)), (∀ y ∈ L, y.length = F.l.length) → (∀ z q, st = some (z, q) → z.length = F.l.length) → ∀ z q, L.foldl (putStep2 loads) st = some (z, q) → z.length = F.l.length := by
    intro L
    induction L with
    | nil => intro st _ h z q hz; exact h z q hz
    | cons y L ih =>
      intro st hL hst z q hz
      refine ih _ (fun y hy => hL y (by simp [hy])) ?_ z q hz
      intro z' q' h'
      unfold putStep2 at h'
      split at h'
      · cases h'; exact hL _ (by simp)
      · split at h'
        · cases h'; exact hL _ (by simp)
        · cases h'; exact hst _ _ rfl
  refine key (listsL F m) none (fun y hy => ?_) (by simp) x k h
  rw [listsL_eq hF hm, List.mem_filter] at hy
  exact (allLs_mem m _ y hy.1).1
end
end Go.Proofs.YtbijamlgcebgeaaDoor.Hand

-- part ND
namespace Go.Proofs.YtbijamlgcebgeaaDoor.Hand
open Go.RowKit Go.Shelf Go.Sort Go.Proofs.YtbijamlgcebgeaaDoorW.PrintWords Go.Proofs.YtbijamlgcebgeaaDoorW.PrintMore Go.Proofs.YtbijamlgcebgeaaDoor.Q
attribute [local go_sem high] eqA36
theorem V_readsX {α : Type} {d : Kd α} {e base : Nat} {W : World} {ok : Nat → Prop} {v : Value} {xs : List α} (h : Kd.V d e W base ok v xs) : ∃ A c, v = .slice A xs.length c ∧ xs.length ≤ c ∧ Kd.C d W A xs.length xs := by
  obtain ⟨A, c, rfl, hl, hf⟩ := h
  exact ⟨A, c, rfl, hl, Kd.F_now hf⟩
set_option maxRecDepth 100000 in
set_option maxHeartbeats 4000000 in
theorem lawputs_calls (a b c d e : Int) (l : List S74) (load : List Int) (A1 A2 : Option Addr) (c1 c2 : Nat) (hc1 : l.length ≤ c1) (hc2 : load.length ≤ c2) (w : World) (hT : TabW w) (hr1 : Kd.C k74 w A1 l.length l) (hr2 : Kd.C (Kd.int .i64) w A2 load.length load) :
    Calls Tryd.prog 7 #[.agg #[.int .i64 a, .int .i64 b, .int .i64 c, .int .i64 d, .int .i64 e], .slice A1 l.length c1, .slice A2 load.length c2] w fun e_ w' => e_ = .returned (.bool true) ∧ Below w.heap.size w w' := by
  obtain ⟨wa, hwa⟩ : ∃ v, w.alloc (.cells #[.int .i64 a, .int .i64 b, .int .i64 c, .int .i64 d, .int .i64 e] 23) = v := ⟨_, rfl⟩
  have hB : Below w.heap.size w wa := hwa ▸ (Below.refl _ _).alloc (Nat.le_refl _) _
  replace hT : TabW wa := hwa ▸ hT.alloc _
  replace hr1 : Kd.C k74 wa A1 l.length l := hwa ▸ Kd.C_alloc hr1 _
  replace hr2 : Kd.C (Kd.int .i64) wa A2 load.length load := hwa ▸ Kd.C_alloc hr2 _
  have x3 : Box wa w.heap.size #[.int .i64 a, .int .i64 b, .int .i64 c, .int .i64 d, .int .i64 e] 23 := hwa ▸ Box.new _ _ _
  have e0 : wa.cell? ⟨w.heap.size, 0, none⟩ = some (.int .i64 a) := x3.cell 0 rfl
  have e1 : wa.cell? ⟨w.heap.size, 1, none⟩ = some (.int .i64 b) := x3.cell 1 rfl
  have e2 : wa.cell? ⟨w.heap.size, 2, none⟩ = some (.int .i64 c) := x3.cell 2 rfl
  have e3 : wa.cell? ⟨w.heap.size, 3, none⟩ = some (.int .i64 d) := x3.cell 3 rfl
  have e4 : wa.cell? ⟨w.heap.size, 4, none⟩ = some (.int .i64 e) := x3.cell 4 rfl
  by_cases h12 : 12 < l.length
  · have p1 : decide ((12 : Int) < l.length) = true := decide_eq_true (by omega)
    go_enter Tryd.func7, Tryd.ntmps7
    go_wp2_with fail
    refine (known_calls _ hT).mono ?_
    rintro e_ uf ⟨rfl, hb⟩
    replace hB := hB.trans (hb.mono hB.size)
    go_wp2
    go_ret
    exact ⟨rfl, hB⟩
  · have p1 : decide ((12 : Int) < l.length) = false := decide_eq_false (by omega)
    by_cases h13 : 12 < load.length
    · have p2 : decide ((12 : Int) < load.length) = true := decide_eq_true (by omega)
      go_enter Tryd.func7, Tryd.ntmps7
      go_wp2_with fail
      refine (known_calls _ hT).mono ?_
      rintro e_ uf ⟨rfl, hb⟩
      replace hB := hB.trans (hb.mono hB.size)
      go_wp2
      go_ret
      exact ⟨rfl, hB⟩
    · have p2 : decide ((12 : Int) < load.length) = false := decide_eq_false (by omega)
      have HOwn := Lib.hid (Own_eq l (by omega))
      have Hints := Lib.hid (ints_eq load (by omega))
      have HSame := Lib.hid (Same_eq l (by omega))
      have HInts := Lib.hid (Ints_eq load (by omega))
      obtain ⟨ck, hck⟩ : ∃ v, checkF a b c d e l = v := ⟨_, rfl⟩
      have HCk := Lib.hid hck
      have HCheck := Lib.hid (hck ▸ Check_eq a b c d e l (by omega) (l.length + 2) (Nat.le_refl _))
      obtain ⟨⟨pl, pm, pe⟩, hpt⟩ : ∃ v, putR a b c d e l load = v := ⟨_, rfl⟩
      have Hpt := Lib.hid hpt
      clear hck hpt
      have Hl : Hid (l.length ≤ 12 ∧ load.length ≤ 12) := Lib.hid ⟨by omega, by omega⟩
      clear h12 h13
      go_enter Tryd.func7, Tryd.ntmps7
      go_wp2_with fail
      clear hwa
      refine (smaltoref03_Own.calls A1 c1 l l _ hr1 hc1 HOwn.out).mono ?_
      rintro e_ u1 ⟨v0, rfl, hR, hb⟩
      obtain ⟨AX, cX, rfl, hcX, hX⟩ := Kd.R_reads hR
      clear hR
      replace hT := hT.below hb
      replace hr1 := Kd.C_below hr1 hb
      replace hB := hB.trans (hb.mono hB.size)
      replace x3 := x3.step hb
      replace hr2 := Kd.C_below hr2 hb
      replace e0 := x3.cell 0 rfl
      replace e1 := x3.cell 1 rfl
      replace e2 := x3.cell 2 rfl
      replace e3 := x3.cell 3 rfl
      replace e4 := x3.cell 4 rfl
      clear hb
      go_wp2_with fail
      refine (smaltolaw03_ints.calls A2 c2 load load _ hr2 hc2 Hints.out).mono ?_
      rintro e_ u1 ⟨v0, rfl, hR, hb⟩
      obtain ⟨AP, cP, rfl, hcP, hP⟩ := Kd.R_reads hR
      clear hR
      replace hT := hT.below hb
      replace hr1 := Kd.C_below hr1 hb
      replace hB := hB.trans (hb.mono hB.size)
      replace x3 := x3.step hb
      replace hr2 := Kd.C_below hr2 hb
      replace hX := Kd.C_below hX hb
      replace e0 := x3.cell 0 rfl
      replace e1 := x3.cell 1 rfl
      replace e2 := x3.cell 2 rfl
      replace e3 := x3.cell 3 rfl
      replace e4 := x3.cell 4 rfl
      clear hb
      go_wp2_with fail
      have hcl := put_exp a b c d e l load AX AP cX cP _ hT hX hP
      rw [Hpt.out] at hcl
      refine (res_C3 hcl).mono ?_
      rintro e_ u1 ⟨AL, cL, rfl, hcL, hL, hb⟩
      clear hcl
      replace hT := hT.below hb
      replace hr1 := Kd.C_below hr1 hb
      replace hB := hB.trans (hb.mono hB.size)
      replace x3 := x3.step hb
      replace hr2 := Kd.C_below hr2 hb
      replace hX := Kd.C_below hX hb
      replace hP := Kd.C_below hP hb
      replace e0 := x3.cell 0 rfl
      replace e1 := x3.cell 1 rfl
      replace e2 := x3.cell 2 rfl
      replace e3 := x3.cell 3 rfl
      replace e4 := x3.cell 4 rfl
      clear hb
      go_wp2_with fail
      refine (smaltoref03_Same.calls (l.length + 1) AX cX l A1 c1 l true _ hX hcX hr1 hc1 HSame.out).mono ?_
      rintro e_ uu ⟨rfl, hd⟩
      have hb := hd.below
      clear hd
      replace hT := hT.below hb
      replace hr1 := Kd.C_below hr1 hb
      replace hB := hB.trans (hb.mono hB.size)
      replace x3 := x3.step hb
      replace hr2 := Kd.C_below hr2 hb
      replace hX := Kd.C_below hX hb
      replace hP := Kd.C_below hP hb
      replace hL := Kd.C_below hL hb
      replace e0 := x3.cell 0 rfl
      replace e1 := x3.cell 1 rfl
      replace e2 := x3.cell 2 rfl
      replace e3 := x3.cell 3 rfl
      replace e4 := x3.cell 4 rfl
      clear hb
      go_wp2_with fail
      refine (smaltoref03_Ints.calls (2 * load.length + 2) AP cP load A2 c2 load true _ hP hcP hr2 hc2 HInts.out).mono ?_
      rintro e_ uu ⟨rfl, hd⟩
      have hb := hd.below
      clear hd
      replace hT := hT.below hb
      replace hr1 := Kd.C_below hr1 hb
      replace hB := hB.trans (hb.mono hB.size)
      replace x3 := x3.step hb
      replace hr2 := Kd.C_below hr2 hb
      replace hX := Kd.C_below hX hb
      replace hP := Kd.C_below hP hb
      replace hL := Kd.C_below hL hb
      replace e0 := x3.cell 0 rfl
      replace e1 := x3.cell 1 rfl
      replace e2 := x3.cell 2 rfl
      replace e3 := x3.cell 3 rfl
      replace e4 := x3.cell 4 rfl
      clear hb
      go_wp2_with fail
      refine (smaltoref03_Check.calls (l.length + 2) a b c d e A1 c1 l ck _ hr1 hc1 HCheck.out).mono ?_
      rintro e_ uu ⟨rfl, hb⟩
      replace hT := hT.below hb
      replace hr1 := Kd.C_below hr1 hb
      replace hB := hB.trans (hb.mono hB.size)
      replace x3 := x3.step hb
      replace hr2 := Kd.C_below hr2 hb
      replace hX := Kd.C_below hX hb
      replace hP := Kd.C_below hP hb
      replace hL := Kd.C_below hL hb
      replace e0 := x3.cell 0 rfl
      replace e1 := x3.cell 1 rfl
      replace e2 := x3.cell 2 rfl
      replace e3 := x3.cell 3 rfl
      replace e4 := x3.cell 4 rfl
      clear hb
      by_cases ho0 : ck = 0
      · subst ho0
        have hF := check_ok HCk.out
        have hpt' := Hpt.out
        unfold putR at hpt'
        rw [newR_nil, if_pos HCk.out] at hpt'
        dsimp only at hpt'
        obtain ⟨f, hf⟩ : ∃ v, (allIn 0 5 load && decide (load.length = l.length)) = v := ⟨_, rfl⟩
        have HForm := Lib.hid (hf ▸ Form_eq l load (by have := Hl.out; omega) (by have := Hl.out; omega) (load.length + 1) (Nat.lt_succ_self _))
        rw [Bool.and_comm, hf] at hpt'
        cases f
        · simp only [Bool.false_eq_true, if_false, Prod.mk.injEq] at hpt'
          obtain ⟨rfl, rfl, rfl⟩ := hpt'
          clear hf hF
          go_wp2_with fail
          refine (smaltoref03_Form.calls (load.length + 1) A1 c1 l A2 c2 load false _ hr1 hc1 hr2 hc2 HForm.out).mono ?_
          rintro e_ uu ⟨rfl, hd⟩
          have hb := hd.below
          clear hd
          replace hT := hT.below hb
          replace hr1 := Kd.C_below hr1 hb
          replace hB := hB.trans (hb.mono hB.size)
          replace x3 := x3.step hb
          replace hr2 := Kd.C_below hr2 hb
          replace hX := Kd.C_below hX hb
          replace hP := Kd.C_below hP hb
          replace hL := Kd.C_below hL hb
          replace e0 := x3.cell 0 rfl
          replace e1 := x3.cell 1 rfl
          replace e2 := x3.cell 2 rfl
          replace e3 := x3.cell 3 rfl
          replace e4 := x3.cell 4 rfl
          clear hb
          go_wp2_with fail
          refine (known_calls _ hT).mono ?_
          rintro e_ uf ⟨rfl, hb⟩
          replace hB := hB.trans (hb.mono hB.size)
          go_wp2
          go_ret
          exact ⟨rfl, hB⟩
        · simp only [if_true] at hpt'
          simp only [Bool.and_eq_true, decide_eq_true_eq] at hf
          obtain ⟨hin, hlen⟩ := hf
          have HPut := Lib.hid (Put_eq (F := mkF a b c d e l) hF hlen hin 500020 (Nat.le_refl _))
          have HTab := Lib.hid (show smaltoref03_Table.f 165 a b c d e l = some (tableL (mkF a b c d e l)) from Table_eq hF 165 (Nat.le_refl _))
          have hmb := maxK_bd load hin load.length (Nat.le_refl _)
          have hpl : ∀ x k, putO (mkF a b c d e l) load (maxK load load.length + 1).toNat = some (x, k) → x.length = l.length := fun x k h => putO_len hF hlen (by omega) h
          obtain ⟨q, hq⟩ : ∃ v, putO (mkF a b c d e l) load (maxK load load.length + 1).toNat = v := ⟨_, rfl⟩
          rw [hq] at hpt' hpl HPut
          generalize tableL (mkF a b c d e l) = tb at HPut HTab
          clear hq hmb hF hin hlen
          go_wp2_with fail
          refine (smaltoref03_Form.calls (load.length + 1) A1 c1 l A2 c2 load true _ hr1 hc1 hr2 hc2 HForm.out).mono ?_
          rintro e_ uu ⟨rfl, hd⟩
          have hb := hd.below
          clear hd
          replace hT := hT.below hb
          replace hr1 := Kd.C_below hr1 hb
          replace hB := hB.trans (hb.mono hB.size)
          replace x3 := x3.step hb
          replace hr2 := Kd.C_below hr2 hb
          replace hX := Kd.C_below hX hb
          replace hP := Kd.C_below hP hb
          replace hL := Kd.C_below hL hb
          replace e0 := x3.cell 0 rfl
          replace e1 := x3.cell 1 rfl
          replace e2 := x3.cell 2 rfl
          replace e3 := x3.cell 3 rfl
          replace e4 := x3.cell 4 rfl
          clear hb
          go_wp2_with fail
          refine (smaltoref03_Table.calls 165 a b c d e A1 c1 l tb _ hr1 hc1 HTab.out).mono ?_
          rintro e_ u1 ⟨v0, rfl, hR, hb⟩
          obtain ⟨AT, cT, rfl, hcT, hTb⟩ := Kd.R_reads hR
          clear hR
          replace hT := hT.below hb
          replace hr1 := Kd.C_below hr1 hb
          replace hB := hB.trans (hb.mono hB.size)
          replace x3 := x3.step hb
          replace hr2 := Kd.C_below hr2 hb
          replace hX := Kd.C_below hX hb
          replace hP := Kd.C_below hP hb
          replace hL := Kd.C_below hL hb
          replace e0 := x3.cell 0 rfl
          replace e1 := x3.cell 1 rfl
          replace e2 := x3.cell 2 rfl
          replace e3 := x3.cell 3 rfl
          replace e4 := x3.cell 4 rfl
          clear hb
          cases q with
          | none =>
            simp only [Prod.mk.injEq] at hpt'
            obtain ⟨rfl, rfl, rfl⟩ := hpt'
            have HPut' : Hid (smaltoref03_Put.f 500020 tb load = some ([], -1)) := HPut
            clear HPut hpl
            go_wp2_with fail
            refine (smaltoref03_Put.calls 500020 AT cT tb A2 c2 load [] (-1) _ hTb hcT hr2 hc2 HPut'.out).mono ?_
            rintro e_ u1 ⟨v0, rfl, hR, hb⟩
            obtain ⟨AB, cB, rfl, hcB, hBs⟩ := V_readsX hR
            clear hR
            replace hT := hT.below hb
            replace hr1 := Kd.C_below hr1 hb
            replace hB := hB.trans (hb.mono hB.size)
            replace x3 := x3.step hb
            replace hr2 := Kd.C_below hr2 hb
            replace hX := Kd.C_below hX hb
            replace hP := Kd.C_below hP hb
            replace hL := Kd.C_below hL hb
            replace hTb := Kd.C_below hTb hb
            replace e0 := x3.cell 0 rfl
            replace e1 := x3.cell 1 rfl
            replace e2 := x3.cell 2 rfl
            replace e3 := x3.cell 3 rfl
            replace e4 := x3.cell 4 rfl
            clear hb
            go_wp2_with fail
            refine (known_calls _ hT).mono ?_
            rintro e_ uf ⟨rfl, hb⟩
            replace hB := hB.trans (hb.mono hB.size)
            go_wp2
            go_ret
            exact ⟨rfl, hB⟩
          | some p =>
            obtain ⟨x, m⟩ := p
            simp only [Prod.mk.injEq] at hpt'
            obtain ⟨rfl, rfl, rfl⟩ := hpt'
            have HPut' : Hid (smaltoref03_Put.f 500020 tb load = some (x, (m : Int))) := HPut
            have Hxl : Hid (x.length ≤ 1000) := Lib.hid (by rw [hpl x m rfl]; have := Hl.out; omega)
            clear HPut hpl
            go_wp2_with fail
            refine (smaltoref03_Put.calls 500020 AT cT tb A2 c2 load x m _ hTb hcT hr2 hc2 HPut'.out).mono ?_
            rintro e_ u1 ⟨v0, rfl, hR, hb⟩
            obtain ⟨AB, cB, rfl, hcB, hBs⟩ := V_readsX hR
            clear hR
            have hm0 : decide ((0 : Int) ≤ (m : Int)) = true := decide_eq_true (by omega)
            replace hT := hT.below hb
            replace hr1 := Kd.C_below hr1 hb
            replace hB := hB.trans (hb.mono hB.size)
            replace x3 := x3.step hb
            replace hr2 := Kd.C_below hr2 hb
            replace hX := Kd.C_below hX hb
            replace hP := Kd.C_below hP hb
            replace hL := Kd.C_below hL hb
            replace hTb := Kd.C_below hTb hb
            replace e0 := x3.cell 0 rfl
            replace e1 := x3.cell 1 rfl
            replace e2 := x3.cell 2 rfl
            replace e3 := x3.cell 3 rfl
            replace e4 := x3.cell 4 rfl
            clear hb
            go_wp2_with fail
            refine (smaltoref03_Ints.calls (2 * x.length + 2) AL cL x AB cB x true _ hL hcL hBs hcB (Ints_eq x Hxl.out)).mono ?_
            rintro e_ uu ⟨rfl, hd⟩
            have hb := hd.below
            clear hd
            replace hT := hT.below hb
            replace hr1 := Kd.C_below hr1 hb
            replace hB := hB.trans (hb.mono hB.size)
            replace x3 := x3.step hb
            replace hr2 := Kd.C_below hr2 hb
            replace hX := Kd.C_below hX hb
            replace hP := Kd.C_below hP hb
            replace hL := Kd.C_below hL hb
            replace hTb := Kd.C_below hTb hb
            replace hBs := Kd.C_below hBs hb
            replace e0 := x3.cell 0 rfl
            replace e1 := x3.cell 1 rfl
            replace e2 := x3.cell 2 rfl
            replace e3 := x3.cell 3 rfl
            replace e4 := x3.cell 4 rfl
            clear hb
            go_wp2_with fail
            refine (known_calls _ hT).mono ?_
            rintro e_ uf ⟨rfl, hb⟩
            replace hB := hB.trans (hb.mono hB.size)
            go_wp2
            go_ret
            exact ⟨rfl, hB⟩
      · have ho1 : (ck == 0) = false := by simp [ho0]
        have hpt' := Hpt.out
        unfold putR at hpt'
        rw [newR_nil, HCk.out, if_neg ho0] at hpt'
        simp only [Prod.mk.injEq] at hpt'
        obtain ⟨rfl, rfl, rfl⟩ := hpt'
        go_wp2_with fail
        refine (known_calls _ hT).mono ?_
        rintro e_ uf ⟨rfl, hb⟩
        replace hB := hB.trans (hb.mono hB.size)
        go_wp2
        go_ret
        exact ⟨rfl, hB⟩
end Go.Proofs.YtbijamlgcebgeaaDoor.Hand

-- part NE
namespace Go.Proofs.YtbijamlgcebgeaaDoor.forkPuts
open Go.ChangeShapes Go.WideShapes Go.ChangeAt Go.RowKit Go.Proofs.YtbijamlgcebgeaaDoor.Hand
set_option maxRecDepth 100000 in
theorem contract (H : Type) (enc : TypeId × Value → H) (W : World) (base : Nat) (args : Array Value) (ds gs : List (DataW H)) (before : List MemPlace)
    (hval : ∀ (j : Nat) t v, Tryd.f7.params[j]? = some t → args[j]? = some v → Value.okWide Tryd.prog W .any base t v)
    (hW : DataW.Whole enc Tryd.prog Tryd.f7.params.toList Rows.forkPutsSpec.vars false W args.toList ds gs before) (hL : laidMetH Tryd.prog Rows.forkPutsRow.laid W) :
    Calls Tryd.prog 7 args W fun e W' => ∃ v, e = .returned v ∧ Rows.forkPutsSpec.post enc Tryd.prog Tryd.f7 false true false false W args v W' := by
  have hT : TabW W := tabW_of hL
  have hW' := hW
  obtain ⟨p, q, hA0, hV, rfl, hfz, hnd⟩ := hW
  have hA : DataW.TrodAll enc Tryd.prog W 0 (fun _ => true) true Tryd.f7.params.toList args.toList ds p := hA0
  rw [Tryd.params7] at hA hval
  obtain ⟨v0, vs0, d0, ds0, p0, q0, hargs, rfl, rfl, k0, r0⟩ := trodAll_cons hA
  obtain ⟨v1, vs1, d1, ds1, p1, q1, rfl, rfl, rfl, k1, r1⟩ := trodAll_cons r0
  obtain ⟨v2, vs2, d2, ds2, p2, q2, rfl, rfl, rfl, k2, r2⟩ := trodAll_cons r1
  obtain ⟨rfl, rfl, rfl⟩ := trodAll_nil r2
  obtain rfl : args = #[v0, v1, v2] := by cases args; simp_all
  obtain ⟨rfl, rfl⟩ := trodVars_none hV
  have lt0 : ∀ x ∈ p0, x.block < W.heap.size := by obtain ⟨m, hm⟩ := k0; exact DataW.trod_lt m _ _ _ hm
  have lt1 : ∀ x ∈ p1, x.block < W.heap.size := by obtain ⟨m, hm⟩ := k1; exact DataW.trod_lt m _ _ _ hm
  have lt2 : ∀ x ∈ p2, x.block < W.heap.size := by obtain ⟨m, hm⟩ := k2; exact DataW.trod_lt m _ _ _ hm
  obtain ⟨a, b, c, d, e, rfl⟩ := open23 (hval 0 23 v0 rfl rfl) k0
  obtain ⟨A1, l1, c1, rfl, hc1, hr1⟩ := open24 (hval 1 24 v1 rfl rfl) k1
  obtain ⟨A2, l2, c2, rfl, hc2, hr2⟩ := open25 (hval 2 25 v2 rfl rfl) k2
  clear hA0 hval
  refine (lawputs_calls a b c d e l1 l2 A1 A2 c1 c2 hc1 hc2 W hT hr1 hr2).mono fun e' W' ⟨he, bel⟩ => ?_
  subst he
  exact ⟨_, rfl, _, _, _, [], _, [], hW', trodAll_mk1 (shut_bool Tryd.underlying4 _), (trodAll_cons_mk (Below.trod laidOut (by kernel_rfl) (of_decide_eq_true (by kernel_rfl)) k0 bel lt0) (trodAll_cons_mk (Below.trod laidOut (by kernel_rfl) (of_decide_eq_true (by kernel_rfl)) k1 bel lt1) (trodAll_cons_mk (Below.trod laidOut (by kernel_rfl) (of_decide_eq_true (by kernel_rfl)) k2 bel lt2) trodAll_mk0))), rfl, bel.frame _, fun h => by cases h⟩
/-- A world for the witness: the settled one, the tables (blocks 0 and 1) holding what their initialisers lay. -/
def lay32 : Obj → Obj
  | .cells _ t frozen => .cells (Lib.deBruijn32tab.map fun (n : Nat) => Value.int .u8 n).toArray t frozen
  | o => o
def lay64 : Obj → Obj
  | .cells _ t frozen => .cells (Lib.deBruijn64tab.map fun (n : Nat) => Value.int .u8 n).toArray t frozen
  | o => o
noncomputable def laidWorld (os : Os) : World := { World.holding Tryd.prog os ⟨#[], #[], []⟩ with heap := ((World.holding Tryd.prog os ⟨#[], #[], []⟩).heap.modify 0 lay32).modify 1 lay64 }
theorem laid_met (os : Os) : laidMet Tryd.prog Rows.forkPutsRow.laid ((laidWorld os).forCall (fun _ _ => 0) ⟨#[], #[.agg #[.int .i64 0, .int .i64 0, .int .i64 0, .int .i64 0, .int .i64 0], .slice none 0 0, .slice none 0 0], []⟩).memory :=
  laidMet_of_run' 8 (by kernel_rfl) (by kernel_rfl)
theorem reads (os : Os) {H : Type} (enc : TypeId × Value → H) : ∃ places, DataW.whole enc Tryd.prog ((laidWorld os).forCall (fun _ _ => 0) ⟨#[], #[.agg #[.int .i64 0, .int .i64 0, .int .i64 0, .int .i64 0, .int .i64 0], .slice none 0 0, .slice none 0 0], []⟩).memory Tryd.f7.params.toList Rows.forkPutsSpec.vars false (#[.agg #[.int .i64 0, .int .i64 0, .int .i64 0, .int .i64 0, .int .i64 0], .slice none 0 0, .slice none 0 0] : Array Value).toList 8 = some ([.agg [.lit (.int .i64 0), .lit (.int .i64 0), .lit (.int .i64 0), .lit (.int .i64 0), .lit (.int .i64 0)], .nil, .nil], [], places) :=
  ⟨[], by kernel_rfl⟩
set_option maxRecDepth 100000 in
theorem lifted (os : Os) (started : os.Started) (H : Type) (enc : TypeId × Value → H) (F : Stop.Interp) :
    ReturnsInHanded {} Tryd.checked os 7 .any ((OpenSpec.ofChange Rows.forkPutsSpec).preRow enc Tryd.prog Tryd.f7 Rows.forkPutsRow.domain false Rows.forkPutsRow.laid) (((OpenSpec.ofChange Rows.forkPutsSpec).at F).post enc Tryd.prog Tryd.f7 false true false false) := by
  obtain ⟨places, hx⟩ := reads os enc
  refine returnsInHanded_of_row (C := Tryd.checked) (s := OpenSpec.ofChange Rows.forkPutsSpec) own started (by kernel_rfl) Tryd.func7
    (witness_row_at (enc := enc) (C := Tryd.checked) false (laidWorld os) #[.agg #[.int .i64 0, .int .i64 0, .int .i64 0, .int .i64 0, .int .i64 0], .slice none 0 0, .slice none 0 0] rfl (by kernel_rfl) (by kernel_rfl) (by kernel_rfl)
      (OpenSpec.preRow_of_cond 8 hx (by kernel_rfl) (fun k hk => by cases hk) (by kernel_rfl) (laid_met os))) ?_
  intro W base args ds gs before hval hW _ _ _ hL _ _
  exact contract H enc W base args ds gs before hval hW hL
theorem said : Rows.ForkPutsSaid :=
  OpenClaim.holds_of_cond 7 Tryd.f7 rfl rfl rfl rfl rfl rfl rfl ⟨rfl, rfl, rfl, rfl, rfl⟩ rfl rfl rfl rfl rfl (by kernel_rfl) Tryd.func7 (by kernel_rfl)
    (of_decide_eq_true (by kernel_rfl)) (by unfold Func.isWrapper; first | (rw [if_pos (by decide +kernel)]; kernel_rfl) | (rw [if_neg (by decide +kernel)]; exact ⟨rfl, rfl⟩))
    (fun os started H enc _ F => by rw [OpenClaim.pre_eq_preRow]; exact lifted os started H enc F)
theorem plain (f : FuncId) (fn : Func) (hf : Tryd.pinned.checked.prog.funcNamed "smalto/smaltolaw03.ForkPuts" = some f) (hfn : Tryd.pinned.checked.prog.funcs[f]? = some fn) :
    false = Tryd.pinned.checked.prog.looks [] ∧ ∀ (j : Nat) t, fn.params[j]? = some t → Tryd.pinned.checked.prog.wantsStandIn t = false := by
  obtain rfl : f = 7 := Option.some.inj ((show Tryd.prog.funcNamed "smalto/smaltolaw03.ForkPuts" = some 7 by kernel_rfl).symm.trans hf) |>.symm
  obtain rfl : fn = Tryd.f7 := (Option.some.inj (Tryd.func7.symm.trans hfn)).symm
  refine ⟨by kernel_rfl, fun j t ht => ?_⟩
  rw [Tryd.params7] at ht
  have hm := Array.mem_of_getElem? ht
  simp only [List.mem_toArray, List.mem_cons, List.not_mem_nil, or_false] at hm
  rcases hm with rfl | rfl | rfl
  · exact (show Tryd.prog.wantsStandIn 23 = false by kernel_rfl)
  · exact (show Tryd.prog.wantsStandIn 24 = false by kernel_rfl)
  · exact (show Tryd.prog.wantsStandIn 25 = false by kernel_rfl)
/-- The card. -/
theorem card : Rows.ForkPutsCardSaid :=
  Claim7.holds_tied_plain_at .later [] _ _ _ _ said (fun _ h => by cases h) (by kernel_rfl) (fun _ h => by cases h) forkPuts_row_tie rfl ⟨rfl, rfl⟩ (by kernel_rfl) rfl plain (by kernel_rfl)
end Go.Proofs.YtbijamlgcebgeaaDoor.forkPuts
namespace Go.Proofs.YtbijamlgcebgeaaDoor
theorem forkPuts_card : Rows.ForkPutsCardSaid := forkPuts.card
end Go.Proofs.YtbijamlgcebgeaaDoor


/- ForkAparts: the law returns true for every input, where the two tables of the library hold what their initialisers lay; its arguments read as they read before. -/
import Derived.Test.YtbijamlgcebgeaaDoorC5
import Derived.Test.YtbijamlgcebgeaaDoorCards
import Derived.Test.YtbijamlgcebgeaaDoorTie
set_option linter.unusedVariables false
set_option linter.unusedSimpArgs false
-- part QB
namespace Go.Proofs.YtbijamlgcebgeaaDoor.Q
open Go.RowKit Go.Proofs.YtbijamlgcebgeaaDoorW.PrintWords Go.Proofs.YtbijamlgcebgeaaDoorW.PrintLast Go.Proofs.YtbijamlgcebgeaaDoorW.PrintMore
attribute [local go_sem] max2_int min2_int max_two min_two max_three min_three max_four min_four
def smaltoref03_All.l0 : Nat → List (S74) → List Int → Int → Option (List Int)
  | 0, _, _, _ => none
  | k + 1, x0, x3, x4 => if x4 < (x0.length : Int) then (if x3.length < 17592186044416 then (smaltoref03_All.l0 k x0 (x3 ++ [x4]) (wrap64 (x4 + 1))) else (none)) else (some x3)
def smaltoref03_All.f (k : Nat) (l0 : List (S74)) : Option (List Int) := smaltoref03_All.l0 k l0 (([] : List Int)) 0
theorem smaltoref03_All.mono_l : ∀ k, (∀ y0 y1 y2, LeO (smaltoref03_All.l0 k y0 y1 y2) (smaltoref03_All.l0 (k + 1) y0 y1 y2))
  | 0 => fun _ _ _ r h => by simp [smaltoref03_All.l0] at h
  | k + 1 => by
    have ih0 := smaltoref03_All.mono_l k
    · intro y0 y1 y2
      unfold smaltoref03_All.l0
      repeat' first
      | (with_reducible exact ih0 _ _ _)
      | (with_reducible exact LeO.refl _)
      | (with_reducible exact LeO.none _)
      | (with_reducible refine LeO.ite ?_ ?_)
      | (with_reducible refine LeO.bind ?_ (fun _ => ?_))
      | exact ih0 _ _ _
      | exact LeO.none _
      | refine LeO.ite ?_ ?_
      | refine LeO.bind ?_ (fun _ => ?_)
theorem smaltoref03_All.mono : ∀ a0 k, LeO (smaltoref03_All.f k a0) (smaltoref03_All.f (k + 1) a0) := by
  intro a0 k
  have ih0 := smaltoref03_All.mono_l k
  unfold smaltoref03_All.f
  repeat' first
      | (with_reducible exact ih0 _ _ _)
      | (with_reducible exact LeO.refl _)
      | (with_reducible exact LeO.none _)
      | (with_reducible refine LeO.ite ?_ ?_)
      | (with_reducible refine LeO.bind ?_ (fun _ => ?_))
      | exact ih0 _ _ _
      | exact LeO.none _
      | refine LeO.ite ?_ ?_
      | refine LeO.bind ?_ (fun _ => ?_)
set_option maxHeartbeats 8000000 in
set_option maxRecDepth 100000 in
theorem smaltoref03_All.calls (k : Nat) (A0 : Option Addr) (c0 : Nat) (l0 : List (S74)) (r : List Int) (w : World) (hr0 : Kd.C k74 w A0 l0.length l0) (hc0 : l0.length ≤ c0) (h : smaltoref03_All.f k l0 = some r) :
    Calls Tryd.prog 80 #[.slice A0 l0.length c0] w fun e w' => ∃ v0_ : Value, e = .returned (v0_) ∧ Kd.R (Kd.int .i64) 3 w' w.heap.size (fun _ => True) v0_ r ∧ Below w.heap.size w w' := by
  have HR0 := Aside0.mk hr0
  have HC0 := Aside0.mk hc0
  clear hr0 hc0
  have HB := Aside0.mk (Below.refl w.heap.size w)
  have H : (smaltoref03_All.l0 k l0 (([] : List Int)) 0) = some r := h
  clear h
  obtain ⟨y254, hy254⟩ : ∃ y_ : List Int, y_ = (([] : List Int)) := ⟨_, rfl⟩
  replace H : (smaltoref03_All.l0 k l0 y254 0) = some r := by first | (rw [hy254]; with_reducible exact H) | (have H2_ := (Option.bind_some _ _).symm.trans H; rw [hy254]; with_reducible exact H2_) | (have H2_ := (Option.bind_some _ _).symm.trans H; with_reducible exact H2_) | with_reducible exact H | (rw [hy254]; exact H) | exact H
  have Ny254 := Aside0.mk hy254
  clear hy254
  have H' := Aside0.mk H
  clear H
  go_enter Tryd.func80, Tryd.ntmps80
  go_wp2_with (first | ((with_reducible refine gate_dst (N := 5) rfl ?_); refine Kd.R_lit (Kd.int .i64) _ 3 ?hg (N := 5) ?hd (xs := ([] : List Int)) (inner := []) (ok := fun _ => True) (okp := fun _ => True) ?hr ?hp (fun _ hk => hk) trivial (Below.refl _ _) (Nat.le_refl _) (by simp) ?_; (case hd => rfl); (case hg => rfl); (case hr => first | (go_simp; done) | (go_simp; rfl)); (case hp => exact (Reps.none _ _)); intro v255 w2 ho3 hb hg_ hnew_; clear hg_ hnew_; (first | rw [← Ny254.out] at ho3 | (simp only [Int.reduceToNat] at ho3; rw [← Ny254.out] at ho3)); have n0_ := Aside0.mk (Kd.R_lower ho3 (below_size (by repeat (first | (with_reducible first | exact HB.out | apply below_alloc | apply pw_below_drewN | apply below_drew1) | exact HB.out)))); have n1_ := Aside0.mk (below_step (by repeat (first | (with_reducible first | exact HB.out | apply below_alloc | apply pw_below_drewN | apply below_drew1) | exact HB.out)) hb); clear HB; have HO256 := n0_; have HB := n1_; clear n0_ n1_; clear hb ho3))
  go_loopg [3, 4] k (fun kq v3 v4 w' => ∃ (x3_1 : List Int) (x4_1 : Int), v4 = .int .i64 x4_1 ∧ Aside0 (smaltoref03_All.l0 kq l0 x3_1 x4_1 = some r) ∧ Aside0 (kq ≤ k) ∧ Aside0 (Kd.R (Kd.int .i64) 3 w' w.heap.size (fun _ => True) v3 x3_1) ∧ Aside0 (Below w.heap.size w w'))
  case atStart => exact ⟨(y254), (0), (by first | rfl | (simp; done) | (simp [*]; done)), H', ⟨Nat.le_refl _⟩, ⟨by (with_reducible repeat (first | apply Kd.R_alloc | apply Kd.R_drewN | apply Kd.R_drew)); exact HO256.out⟩, ⟨by repeat (first | (with_reducible first | exact HB.out | apply below_alloc | apply pw_below_drewN | apply below_drew1) | exact HB.out)⟩⟩
  case round =>
    clear H'
    try clear p2
    obtain ⟨x3_1, x4_1, rfl, HA, HK1, HO_3, HB⟩ := hrel
    cases gk with
    | zero => exact absurd HA.out (by simp [smaltoref03_All.l0])
    | succ k1 =>
      have H := HA.out
      clear HA
      simp only [smaltoref03_All.l0] at H
      by_cases c4 : x4_1 < (l0.length : Int)
      · rw [if_pos c4] at H
        have c4b0 : decide (x4_1 < (l0.length : Int)) = true := decide_eq_true c4
        clear c4
        by_cases c5 : x3_1.length < 17592186044416
        · rw [if_pos c5] at H
          have LMc5 := Aside0.mk c5
          clear c5
          obtain ⟨y257, hy257⟩ : ∃ y_ : List Int, y_ = (x3_1 ++ [x4_1]) := ⟨_, rfl⟩
          replace H : (smaltoref03_All.l0 k1 l0 y257 (wrap64 (x4_1 + 1))) = some r := by first | (rw [hy257]; with_reducible exact H) | (have H2_ := (Option.bind_some _ _).symm.trans H; rw [hy257]; with_reducible exact H2_) | (have H2_ := (Option.bind_some _ _).symm.trans H; with_reducible exact H2_) | with_reducible exact H | (rw [hy257]; exact H) | exact H
          have Ny257 := Aside0.mk hy257
          clear hy257
          have H' := Aside0.mk H
          clear H
          go_wp2_with (first | ((with_reducible refine gate_builtin (b := .append) (xs := #[.tmp 12, .tmp 14]) rfl ?_); at_builtin; refine Kd.R_append (Kd.int .i64) (w0 := w) w.heap.size rfl (.tmp 12) (.tmp 14) 25 3 (.int .i64 0) 8 rfl Tryd.underlying25 info3 rfl (by decide) (by omega) u3 x3_1 x4_1 [.int .i64 x4_1] (fun _ => True) (fun _ => False) rfl rfl ?aP (fun _ hk => hk.elim) ?aF ?aO ?aB ?aS ?aL ?_; (case aP => exact rfl); (case aB => exact (by repeat (first | (with_reducible first | exact HB.out | apply below_alloc | apply pw_below_drewN | apply below_drew1) | exact HB.out))); (case aF => exact (fun _ _ => trivial)); (case aO => exact (by (with_reducible repeat (first | apply Kd.R_alloc | apply Kd.R_drewN | apply Kd.R_drew)); exact HO_3.out)); (case aS => exact (below_size (by repeat (first | (with_reducible first | exact HB.out | apply below_alloc | apply pw_below_drewN | apply below_drew1) | exact HB.out)))); (case aL => have := LMc5.out; omega); intro v258 w6 ho hb hg hat; rw [← Ny257.out] at ho; have n0_ := Aside0.mk (hb); have n1_ := Aside0.mk (ho); clear HB; clear HO_3; have HB := n0_; have HO259 := n1_; clear n0_ n1_; clear ho hb hg hat))
          go_roundg k1
          case measure => have := HK1.out; omega
          case rel => exact ⟨(y257), (wrap64 (x4_1 + 1)), (by first | rfl | (simp; done) | (simp [*]; done)), H', ⟨by have := HK1.out; omega⟩, ⟨by (with_reducible repeat (first | apply Kd.R_alloc | apply Kd.R_drewN | apply Kd.R_drew)); exact HO259.out⟩, ⟨by repeat (first | (with_reducible first | exact HB.out | apply below_alloc | apply pw_below_drewN | apply below_drew1) | exact HB.out)⟩⟩
        · rw [if_neg c5] at H
          exact absurd H (by simp)
      · rw [if_neg c4] at H
        have c4b0 : decide (x4_1 < (l0.length : Int)) = false := decide_eq_false c4
        clear c4
        obtain rfl := Option.some.inj H
        go_wp2
        go_ret
        exact ⟨_, by first | rfl | (simp [errW_none, errW_some] <;> rfl) | (simp [*, errW_none, errW_some] <;> rfl), by (with_reducible repeat (first | apply Kd.R_alloc | apply Kd.R_drewN | apply Kd.R_drew)); exact HO_3.out, by repeat (first | (with_reducible first | exact HB.out | apply below_alloc | apply pw_below_drewN | apply below_drew1) | exact HB.out)⟩
def smaltoref03_Table.l0 : Nat → List (S74) → List Bool → Int → Int → Int → Int → Int → Int → Option (List Bool)
  | 0, _, _, _, _, _, _, _, _ => none
  | k + 1, x1, x5, x6, x261000, x261001, x261002, x261003, x261004 => if 0 ≤ (IntKind.u64.wrap ((x1.length : Int))) then (if x6 < (shl .i64 1 (IntKind.u64.wrap ((x1.length : Int)))) then ((smaltoref03_All.f k x1).bind fun t264 => ((smaltoref03_Numbers.f k t264 x6).bind fun t267 => ((smaltoref03_Goes.f k x261000 x261001 x261002 x261003 x261004 x1 t267).bind fun bt270 => (if x5.length < 140737488355328 then (smaltoref03_Table.l0 k x1 (x5 ++ [bt270.1]) (wrap64 (x6 + 1)) x261000 x261001 x261002 x261003 x261004) else (none))))) else (some x5)) else (none)
def smaltoref03_Table.f (k : Nat) (a0_0 : Int) (a0_1 : Int) (a0_2 : Int) (a0_3 : Int) (a0_4 : Int) (l1 : List (S74)) : Option (List Bool) := smaltoref03_Table.l0 k l1 (([] : List Bool)) 0 a0_0 a0_1 a0_2 a0_3 a0_4
theorem smaltoref03_Table.mono_l : ∀ k, (∀ y0 y1 y2 y3 y4 y5 y6 y7, LeO (smaltoref03_Table.l0 k y0 y1 y2 y3 y4 y5 y6 y7) (smaltoref03_Table.l0 (k + 1) y0 y1 y2 y3 y4 y5 y6 y7))
  | 0 => fun _ _ _ _ _ _ _ _ r h => by simp [smaltoref03_Table.l0] at h
  | k + 1 => by
    have ih0 := smaltoref03_Table.mono_l k
    · intro y0 y1 y2 y3 y4 y5 y6 y7
      unfold smaltoref03_Table.l0
      repeat' first
      | (with_reducible exact ih0 _ _ _ _ _ _ _ _)
      | (with_reducible exact smaltoref03_All.mono _ _)
      | (with_reducible exact smaltoref03_Goes.mono _ _ _ _ _ _ _ _)
      | (with_reducible exact smaltoref03_Numbers.mono _ _ _)
      | (with_reducible exact LeO.refl _)
      | (with_reducible exact LeO.none _)
      | (with_reducible refine LeO.ite ?_ ?_)
      | (with_reducible refine LeO.bind ?_ (fun _ => ?_))
      | exact ih0 _ _ _ _ _ _ _ _
      | exact smaltoref03_All.mono _ _
      | exact smaltoref03_Goes.mono _ _ _ _ _ _ _ _
      | exact smaltoref03_Numbers.mono _ _ _
      | exact LeO.none _
      | refine LeO.ite ?_ ?_
      | refine LeO.bind ?_ (fun _ => ?_)
theorem smaltoref03_Table.mono : ∀ a0 a1 a2 a3 a4 a5 k, LeO (smaltoref03_Table.f k a0 a1 a2 a3 a4 a5) (smaltoref03_Table.f (k + 1) a0 a1 a2 a3 a4 a5) := by
  intro a0 a1 a2 a3 a4 a5 k
  have ih0 := smaltoref03_Table.mono_l k
  unfold smaltoref03_Table.f
  repeat' first
      | (with_reducible exact ih0 _ _ _ _ _ _ _ _)
      | (with_reducible exact smaltoref03_All.mono _ _)
      | (with_reducible exact smaltoref03_Goes.mono _ _ _ _ _ _ _ _)
      | (with_reducible exact smaltoref03_Numbers.mono _ _ _)
      | (with_reducible exact LeO.refl _)
      | (with_reducible exact LeO.none _)
      | (with_reducible refine LeO.ite ?_ ?_)
      | (with_reducible refine LeO.bind ?_ (fun _ => ?_))
      | exact ih0 _ _ _ _ _ _ _ _
      | exact smaltoref03_All.mono _ _
      | exact smaltoref03_Goes.mono _ _ _ _ _ _ _ _
      | exact smaltoref03_Numbers.mono _ _ _
      | exact LeO.none _
      | refine LeO.ite ?_ ?_
      | refine LeO.bind ?_ (fun _ => ?_)
def smaltoref03_Table.T5 : Bool × List (List Nat × List Nat) := (true, [([], []), ([], []), ([], []), ([2], [2]), ([], []), ([3, 4, 3], [3, 4]), ([0, 1, 5, 5], [0, 1, 5]), ([6], [6]), ([7], [7]), ([7], [7]), ([8, 6, 0, 1, 2, 3, 4, 5, 6, 7, 8], [8]), ([9, 10, 0, 1, 2, 3, 4, 5, 6, 7, 8, 9, 10], [9])])
def smaltoref03_Table.B5 : List Nat := [0, 0, 0, 4, 0, 28, 63, 127, 255, 255, 511, 2047]
theorem smaltoref03_Table.tab5 : rtab .any (opsOf Tryd.f34 5) = smaltoref03_Table.T5 := by kernel_rfl
theorem smaltoref03_Table.bits5 : waitsOk smaltoref03_Table.T5.2 smaltoref03_Table.B5 = true := by kernel_rfl
set_option maxHeartbeats 8000000 in
set_option maxRecDepth 100000 in
theorem smaltoref03_Table.calls (k : Nat) (a0_0 : Int) (a0_1 : Int) (a0_2 : Int) (a0_3 : Int) (a0_4 : Int) (A1 : Option Addr) (c1 : Nat) (l1 : List (S74)) (r : List Bool) (w : World) (hr1 : Kd.C k74 w A1 l1.length l1) (hc1 : l1.length ≤ c1) (h : smaltoref03_Table.f k a0_0 a0_1 a0_2 a0_3 a0_4 l1 = some r) :
    Calls Tryd.prog 34 #[.agg #[.int .i64 a0_0, .int .i64 a0_1, .int .i64 a0_2, .int .i64 a0_3, .int .i64 a0_4], .slice A1 l1.length c1] w fun e w' => ∃ v0_ : Value, e = .returned (v0_) ∧ Kd.R Kd.bool 4 w' w.heap.size (fun _ => True) v0_ r ∧ Below w.heap.size w w' := by
  have hu23 := Tryd.underlying23
  have HR1 := Aside0.mk hr1
  have HC1 := Aside0.mk hc1
  clear hr1 hc1
  have HB := Aside0.mk (Below.refl w.heap.size w)
  have H : (smaltoref03_Table.l0 k l1 (([] : List Bool)) 0 a0_0 a0_1 a0_2 a0_3 a0_4) = some r := h
  clear h
  obtain ⟨y261, hy261⟩ : ∃ y_ : List Bool, y_ = (([] : List Bool)) := ⟨_, rfl⟩
  replace H : (smaltoref03_Table.l0 k l1 y261 0 a0_0 a0_1 a0_2 a0_3 a0_4) = some r := by first | (rw [hy261]; with_reducible exact H) | (have H2_ := (Option.bind_some _ _).symm.trans H; rw [hy261]; with_reducible exact H2_) | (have H2_ := (Option.bind_some _ _).symm.trans H; with_reducible exact H2_) | with_reducible exact H | (rw [hy261]; exact H) | exact H
  have Ny261 := Aside0.mk hy261
  clear hy261
  have H' := Aside0.mk H
  clear H
  go_enter Tryd.func34, Tryd.ntmps34
  go_wp2_with (first | ((with_reducible refine gate_dst (N := 2) rfl ?_); refine box_event ?hg (N := 2) ?hd (cs := #[.int .i64 a0_0, .int .i64 a0_1, .int .i64 a0_2, .int .i64 a0_3, .int .i64 a0_4]) (t := 23) ?hr ?_; (case hd => rfl); (case hg => rfl); (case hr => first | (go_simp; done) | (go_simp; rfl)); intro gb260 hg w3 hbox hb; have n0_ := Aside0.mk (below_step (by repeat (first | (with_reducible first | exact HB.out | apply below_alloc | apply pw_below_drewN | apply below_drew1) | exact HB.out)) hb); have n1_ := Aside0.mk (hbox); have n2_ := Aside0.mk ((by rw [hg]; exact (below_size (by repeat (first | (with_reducible first | exact HB.out | apply below_alloc | apply pw_below_drewN | apply below_drew1) | exact HB.out))) : w.heap.size ≤ gb260)); have n3_ := Aside0.mk ((by rw [hg]; exact (below_size (by repeat (first | (with_reducible first | exact HB.out | apply below_alloc | apply pw_below_drewN | apply below_drew1) | exact HB.out))) : w.heap.size ≤ gb260)); clear HB; have HB := n0_; have BK260 := n1_; have GW260 := n2_; have GE260 := n3_; clear n0_ n1_ n2_ n3_; clear hb hbox hg) | ((with_reducible refine gate_dst (N := 9) rfl ?_); refine Kd.R_lit Kd.bool _ 4 ?hg (N := 9) ?hd (xs := ([] : List Bool)) (inner := []) (ok := fun _ => True) (okp := fun _ => True) ?hr ?hp (fun _ hk => hk) trivial (Below.refl _ _) (Nat.le_refl _) (by simp) ?_; (case hd => rfl); (case hg => rfl); (case hr => first | (go_simp; done) | (go_simp; rfl)); (case hp => exact (Reps.none _ _)); intro v262 w4 ho5 hb hg_ hnew_; clear hg_ hnew_; (first | rw [← Ny261.out] at ho5 | (simp only [Int.reduceToNat] at ho5; rw [← Ny261.out] at ho5)); have n0_ := Aside0.mk (Kd.R_lower ho5 (below_size (by repeat (first | (with_reducible first | exact HB.out | apply below_alloc | apply pw_below_drewN | apply below_drew1 | refine below_set ?_ GE260.out) | exact HB.out)))); have n1_ := Aside0.mk (blk_below (g := gb260) (o := .cells #[.int .i64 a0_0, .int .i64 a0_1, .int .i64 a0_2, .int .i64 a0_3, .int .i64 a0_4] 23 (0, 0)) (by (with_reducible repeat (first | refine blk_drewN ?_ _ | refine blk_drew ?_ | refine blk_alloc ?_ _)); exact BK260.out) hb); have n2_ := Aside0.mk (below_step (by repeat (first | (with_reducible first | exact HB.out | apply below_alloc | apply pw_below_drewN | apply below_drew1 | refine below_set ?_ GE260.out) | exact HB.out)) hb); clear BK260; clear HB; have HO263 := n0_; have BK260 := n1_; have HB := n2_; clear n0_ n1_ n2_; clear hb ho5))
  go_loopg [5, 6] k (fun kq v5 v6 w' => ∃ (x5_1 : List Bool) (x6_1 : Int), v6 = .int .i64 x6_1 ∧ Aside0 (smaltoref03_Table.l0 kq l1 x5_1 x6_1 a0_0 a0_1 a0_2 a0_3 a0_4 = some r) ∧ Aside0 (kq ≤ k) ∧ Aside0 (Kd.R Kd.bool 4 w' w.heap.size (fun _ => True) v5 x5_1) ∧ Aside0 (w'.heap[gb260]? = some (.cells #[.int .i64 a0_0, .int .i64 a0_1, .int .i64 a0_2, .int .i64 a0_3, .int .i64 a0_4] 23 (0, 0))) ∧ Aside0 (Below w.heap.size w w'))
  case atStart => exact ⟨(y261), (0), (by first | rfl | (simp; done) | (simp [*]; done)), H', ⟨Nat.le_refl _⟩, ⟨by (with_reducible repeat (first | apply Kd.R_alloc | apply Kd.R_drewN | apply Kd.R_drew)); exact HO263.out⟩, ⟨by (with_reducible repeat (first | refine blk_drewN ?_ _ | refine blk_drew ?_ | refine blk_alloc ?_ _)); exact BK260.out⟩, ⟨by repeat (first | (with_reducible first | exact HB.out | apply below_alloc | apply pw_below_drewN | apply below_drew1 | refine below_set ?_ GE260.out) | exact HB.out)⟩⟩
  case round =>
    clear H'
    try clear c1
    try clear p2
    try clear c3
    obtain ⟨x5_1, x6_1, rfl, HA, HK1, HO_5, BK260, HB⟩ := hrel
    cases gk with
    | zero => exact absurd HA.out (by simp [smaltoref03_Table.l0])
    | succ k1 =>
      have H := HA.out
      clear HA
      simp only [smaltoref03_Table.l0] at H
      obtain ⟨ji6, hji6⟩ : ∃ j_ : Int, (IntKind.u64.wrap ((l1.length : Int))) = j_ := ⟨_, rfl⟩
      replace H : (if 0 ≤ (ji6) then (if x6_1 < (shl .i64 1 (ji6)) then ((smaltoref03_All.f k1 l1).bind fun t264 => ((smaltoref03_Numbers.f k1 t264 x6_1).bind fun t267 => ((smaltoref03_Goes.f k1 a0_0 a0_1 a0_2 a0_3 a0_4 l1 t267).bind fun bt270 => (if x5_1.length < 140737488355328 then (smaltoref03_Table.l0 k1 l1 (x5_1 ++ [bt270.1]) (wrap64 (x6_1 + 1)) a0_0 a0_1 a0_2 a0_3 a0_4) else (none))))) else (some x5_1)) else (none)) = some r := by first | (rw [hji6] at H; exact H) | (simp only [hji6] at H ⊢; exact H)
      by_cases c7 : 0 ≤ (ji6)
      · rw [if_pos c7] at H
        have c7b0 := eq_true c7
        have c7b1 : decide (0 ≤ (ji6)) = true := decide_eq_true c7
        clear c7
        obtain ⟨ji8, hji8⟩ : ∃ j_ : Int, (shl .i64 1 (ji6)) = j_ := ⟨_, rfl⟩
        replace H : (if x6_1 < (ji8) then ((smaltoref03_All.f k1 l1).bind fun t264 => ((smaltoref03_Numbers.f k1 t264 x6_1).bind fun t267 => ((smaltoref03_Goes.f k1 a0_0 a0_1 a0_2 a0_3 a0_4 l1 t267).bind fun bt270 => (if x5_1.length < 140737488355328 then (smaltoref03_Table.l0 k1 l1 (x5_1 ++ [bt270.1]) (wrap64 (x6_1 + 1)) a0_0 a0_1 a0_2 a0_3 a0_4) else (none))))) else (some x5_1)) = some r := by first | (rw [hji8] at H; exact H) | (simp only [hji8] at H ⊢; exact H)
        have hji8_ : (IntKind.i64.wrap (1 * 2 ^ min (ji6).toNat 64)) = ji8 := hji8
        have hji8z : (ji6) ≤ 64 → (IntKind.i64.wrap (1 * 2 ^ (ji6).toNat)) = ji8 := shl_small hji8
        have hji8u : (IntKind.i64.wrap (2 ^ min (ji6).toNat 64)) = ji8 := by have h_ := hji8_; rw [Int.one_mul] at h_; exact h_
        have hji8v : (ji6) ≤ 64 → (IntKind.i64.wrap (2 ^ (ji6).toNat)) = ji8 := fun hle_ => by have h_ := hji8z hle_; rw [Int.one_mul] at h_; exact h_
        have hji8y : (wrap64 (1 * 2 ^ min (ji6).toNat 64)) = ji8 := (i64_w _).symm.trans hji8_
        have hji8x : (ji6) ≤ 64 → (wrap64 (1 * 2 ^ (ji6).toNat)) = ji8 := fun h_ => (i64_w _).symm.trans (hji8z h_)
        by_cases c9 : x6_1 < (ji8)
        · rw [if_pos c9] at H
          have c9b0 : decide (x6_1 < (ji8)) = true := decide_eq_true c9
          clear c9
          replace H := Option.bind_eq_some_iff.mp H
          obtain ⟨t264, A100, H⟩ := H
          replace H : ((smaltoref03_Numbers.f k1 t264 x6_1).bind fun t267 => ((smaltoref03_Goes.f k1 a0_0 a0_1 a0_2 a0_3 a0_4 l1 t267).bind fun bt270 => (if x5_1.length < 140737488355328 then (smaltoref03_Table.l0 k1 l1 (x5_1 ++ [bt270.1]) (wrap64 (x6_1 + 1)) a0_0 a0_1 a0_2 a0_3 a0_4) else (none)))) = some r := H
          have A10 := Aside0.mk A100
          clear A100
          replace H := Option.bind_eq_some_iff.mp H
          obtain ⟨t267, A110, H⟩ := H
          replace H : ((smaltoref03_Goes.f k1 a0_0 a0_1 a0_2 a0_3 a0_4 l1 t267).bind fun bt270 => (if x5_1.length < 140737488355328 then (smaltoref03_Table.l0 k1 l1 (x5_1 ++ [bt270.1]) (wrap64 (x6_1 + 1)) a0_0 a0_1 a0_2 a0_3 a0_4) else (none))) = some r := H
          have A11 := Aside0.mk A110
          clear A110
          replace H := Option.bind_eq_some_iff.mp H
          obtain ⟨⟨t270, t271⟩, A120, H⟩ := H
          replace H : (if x5_1.length < 140737488355328 then (smaltoref03_Table.l0 k1 l1 (x5_1 ++ [t270]) (wrap64 (x6_1 + 1)) a0_0 a0_1 a0_2 a0_3 a0_4) else (none)) = some r := H
          have A12 := Aside0.mk A120
          clear A120
          by_cases c13 : x5_1.length < 140737488355328
          · rw [if_pos c13] at H
            have LMc13 := Aside0.mk c13
            clear c13
            obtain ⟨y272, hy272⟩ : ∃ y_ : List Bool, y_ = (x5_1 ++ [t270]) := ⟨_, rfl⟩
            replace H : (smaltoref03_Table.l0 k1 l1 y272 (wrap64 (x6_1 + 1)) a0_0 a0_1 a0_2 a0_3 a0_4) = some r := by first | (rw [hy272]; with_reducible exact H) | (have H2_ := (Option.bind_some _ _).symm.trans H; rw [hy272]; with_reducible exact H2_) | (have H2_ := (Option.bind_some _ _).symm.trans H; with_reducible exact H2_) | with_reducible exact H | (rw [hy272]; exact H) | exact H
            have Ny272 := Aside0.mk hy272
            clear hy272
            have H' := Aside0.mk H
            clear H
            try go_wp2
            have n0_ := Aside0.mk (Kd.R_drew HO_5.out)
            have n1_ := Aside0.mk (blk_drew BK260.out)
            have n2_ := Aside0.mk (below_drew1 HB.out)
            clear HO_5
            clear BK260
            clear HB
            have HO_5 := n0_
            have BK260 := n1_
            have HB := n2_
            clear n0_ n1_ n2_
            refine start_ (n := 12) (S := fun w' => w'.cell? ⟨gb260, 0, none⟩ = some (.int .i64 a0_0) ∧ w'.cell? ⟨gb260, 1, none⟩ = some (.int .i64 a0_1) ∧ w'.cell? ⟨gb260, 2, none⟩ = some (.int .i64 a0_2) ∧ w'.cell? ⟨gb260, 3, none⟩ = some (.int .i64 a0_3) ∧ w'.cell? ⟨gb260, 4, none⟩ = some (.int .i64 a0_4)) (ds := []) #[false, false, false, false, false, false, false, false, false, false, false, false] (by kernel_rfl) rfl rfl ⟨(blk_cell BK260.out 0).trans rfl, (blk_cell BK260.out 1).trans rfl, (blk_cell BK260.out 2).trans rfl, (blk_cell BK260.out 3).trans rfl, (blk_cell BK260.out 4).trans rfl⟩ (fun hHeld => ?_); refine with_tabW smaltoref03_Table.tab5 smaltoref03_Table.bits5 (fun HT_ HW_ => ?_)
            generalize wr.drew = w14 at HO_5 BK260 HB hHeld ⊢
            refine pure_ (i := 1) (N := some 20) (v := ?_) (a' := ?_) #[false, true, false, false, false, false, false, false, false, false, false, false] rfl rfl (any_of HT_.out (by kernel_rfl)) (fun _ _ _ h => h) (Or.inl ⟨by rfl, ?_⟩) ?_ ?_
            rotate_left
            · intro w'
              go_simp
              with_reducible rfl
            rotate_left
            · simp only [Act.put, List.setIfInBounds_toArray, List.set_cons_zero, List.set_cons_succ, i64_w, i32_w]
              rfl
            refine pure_ (i := 2) (N := some 21) (v := ?_) (a' := ?_) #[false, true, true, false, false, false, false, false, false, false, false, false] rfl rfl (any_of HT_.out (by kernel_rfl)) (fun _ _ _ h => h) (Or.inl ⟨by rfl, ?_⟩) ?_ ?_
            rotate_left
            · intro w'
              go_simp
              with_reducible rfl
            rotate_left
            · simp only [Act.put, List.setIfInBounds_toArray, List.set_cons_zero, List.set_cons_succ, i64_w, i32_w]
              rfl
            refine pure_ (i := 4) (N := some 23) (v := ?_) (a' := ?_) #[false, true, true, false, true, false, false, false, false, false, false, false] rfl rfl (any_of HT_.out (by kernel_rfl)) (fun _ _ _ h => h) (Or.inl ⟨by rfl, ?_⟩) ?_ ?_
            rotate_left
            · intro w'
              go_simp
              with_reducible rfl
            rotate_left
            · simp only [Act.put, List.setIfInBounds_toArray, List.set_cons_zero, List.set_cons_succ, i64_w, i32_w]
              rfl
            refine take_ (i := 0) (N := some 19) (v := ?_) (a' := ?_) #[true, true, true, false, true, false, false, false, false, false, false, false] rfl rfl (take_ofW HT_.out HW_.out (by kernel_rfl)) (fun _ _ _ h => h) (Or.inl ⟨by rfl, ?_⟩) hHeld ?_ ?_
            rotate_left
            · rintro w' ⟨s0, s1, s2, s3, s4⟩
              go_simp
              with_reducible rfl
            rotate_left
            · simp only [Act.put, List.setIfInBounds_toArray, List.set_cons_zero, List.set_cons_succ, i64_w, i32_w]
              rfl
            refine one_ (i := 3) (N := some 22) #[true, true, true, true, true, false, false, false, false, false, false, false] rfl rfl (one_of HT_.out (by kernel_rfl)) (by decide) (fun K hK => ?_)
            refine goes_ Tryd.func80 (by kernel_rfl) rfl #[.slice A1 l1.length c1] (by rfl) rfl rfl (by (try simp only [List.map_toArray, List.map_cons, List.map_nil]); first | done | rfl | (simp only [List.length_drop, List.length_take]; rfl)) ?_
            with_reducible refine (smaltoref03_All.calls k1 _ _ l1 t264 _ ?side1 ?side2 A10.out).mono ?_
            (case side1 => repeat (first | exact (Kd.C_below HR1.out HB.out) | (with_reducible refine Kd.C_alloc ?_ _) | (with_reducible refine Kd.C_drewN ?_ _) | (with_reducible refine Kd.C_drew ?_)))
            (case side2 => exact HC1.out)
            rintro e w15 ⟨v265, rfl, ho0, hb⟩
            refine ⟨_, rfl, ?_⟩
            have n0_ := Aside0.mk (Kd.R_below (by (with_reducible repeat (first | apply Kd.R_alloc | apply Kd.R_drewN | apply Kd.R_drew)); exact HO_5.out) hb)
            have n1_ := Aside0.mk (Kd.R_lower ho0 (below_size (by repeat (first | (with_reducible first | exact HB.out | apply below_alloc | apply pw_below_drewN | apply below_drew1 | refine below_set ?_ GE260.out) | exact HB.out))))
            have n2_ := Aside0.mk (blk_below (g := gb260) (o := .cells #[.int .i64 a0_0, .int .i64 a0_1, .int .i64 a0_2, .int .i64 a0_3, .int .i64 a0_4] 23 (0, 0)) (by (with_reducible repeat (first | refine blk_drewN ?_ _ | refine blk_drew ?_ | refine blk_alloc ?_ _)); exact BK260.out) hb)
            have n3_ := Aside0.mk (below_step (by repeat (first | (with_reducible first | exact HB.out | apply below_alloc | apply pw_below_drewN | apply below_drew1 | refine below_set ?_ GE260.out) | exact HB.out)) hb)
            clear HO_5
            clear BK260
            clear HB
            have HO_5 := n0_
            have HO266 := n1_
            have BK260 := n2_
            have HB := n3_
            clear n0_ n1_ n2_ n3_
            (try clear hb)
            (try clear hb2)
            (try clear hk)
            (try clear hi)
            (try clear ho0)
            obtain ⟨Ao16, co16, eo16⟩ := Kd.R_slice HO266.out
            (first | subst eo16 | (injection eo16 with f1_ f2_ f3_; have f4_ := f1_.symm; have f5_ := f3_.symm; clear f1_ f2_ f3_; subst f4_; subst f5_))
            refine hK.out _ _ ⟨(blk_cell BK260.out 0).trans rfl, (blk_cell BK260.out 1).trans rfl, (blk_cell BK260.out 2).trans rfl, (blk_cell BK260.out 3).trans rfl, (blk_cell BK260.out 4).trans rfl⟩ (fun hHeld => ?_)
            clear hK K
            refine norm_ (a' := ?_) ?_ ?_
            rotate_left
            · show Act.put _ (some 22) _ = _
              simp only [Act.put, List.setIfInBounds_toArray, List.set_cons_zero, List.set_cons_succ, i64_w, i32_w]
              rfl
            refine one_ (i := 5) (N := some 24) #[true, true, true, true, true, true, false, false, false, false, false, false] rfl rfl (one_of HT_.out (by kernel_rfl)) (by decide) (fun K hK => ?_)
            refine goes_ Tryd.func71 (by kernel_rfl) rfl #[.slice Ao16 t264.length co16, .int .i64 x6_1] (by rfl) rfl rfl (by (try simp only [List.map_toArray, List.map_cons, List.map_nil]); first | done | rfl | (simp only [List.length_drop, List.length_take]; rfl)) ?_
            with_reducible refine (smaltoref03_Numbers.calls k1 _ _ t264 x6_1 t267 _ ?side1 ?side2 A11.out).mono ?_
            (case side1 => repeat (first | exact (Kd.R_reads' HO266.out).2.2 | (with_reducible refine Kd.C_alloc ?_ _) | (with_reducible refine Kd.C_drewN ?_ _) | (with_reducible refine Kd.C_drew ?_)))
            (case side2 => exact (Kd.R_reads' HO266.out).2.1)
            rintro e w17 ⟨v268, rfl, ho0, hb⟩
            refine ⟨_, rfl, ?_⟩
            have n0_ := Aside0.mk (Kd.R_below (by (with_reducible repeat (first | apply Kd.R_alloc | apply Kd.R_drewN | apply Kd.R_drew)); exact HO_5.out) hb)
            have n1_ := Aside0.mk (Kd.R_elder' (by (with_reducible repeat (first | apply Kd.R_alloc | apply Kd.R_drewN | apply Kd.R_drew)); exact HO266.out) (Kd.R_base ho0) hb)
            have n2_ := Aside0.mk (Kd.R_lower (Kd.R_new' ho0 (Kd.R_lt (by (with_reducible repeat (first | apply Kd.R_alloc | apply Kd.R_drewN | apply Kd.R_drew)); exact HO266.out))) (below_size (by repeat (first | (with_reducible first | exact HB.out | apply below_alloc | apply pw_below_drewN | apply below_drew1 | refine below_set ?_ GE260.out) | exact HB.out))))
            have n3_ := Aside0.mk (blk_below (g := gb260) (o := .cells #[.int .i64 a0_0, .int .i64 a0_1, .int .i64 a0_2, .int .i64 a0_3, .int .i64 a0_4] 23 (0, 0)) (by (with_reducible repeat (first | refine blk_drewN ?_ _ | refine blk_drew ?_ | refine blk_alloc ?_ _)); exact BK260.out) hb)
            have n4_ := Aside0.mk (below_step (by repeat (first | (with_reducible first | exact HB.out | apply below_alloc | apply pw_below_drewN | apply below_drew1 | refine below_set ?_ GE260.out) | exact HB.out)) hb)
            clear HO_5
            clear HO266
            clear BK260
            clear HB
            have HO_5 := n0_
            have HO266 := n1_
            have HO269 := n2_
            have BK260 := n3_
            have HB := n4_
            clear n0_ n1_ n2_ n3_ n4_
            (try clear hb)
            (try clear hb2)
            (try clear hk)
            (try clear hi)
            (try clear ho0)
            obtain ⟨Ao18, co18, eo18⟩ := Kd.R_slice HO269.out
            (first | subst eo18 | (injection eo18 with f1_ f2_ f3_; have f4_ := f1_.symm; have f5_ := f3_.symm; clear f1_ f2_ f3_; subst f4_; subst f5_))
            refine hK.out _ _ ⟨(blk_cell BK260.out 0).trans rfl, (blk_cell BK260.out 1).trans rfl, (blk_cell BK260.out 2).trans rfl, (blk_cell BK260.out 3).trans rfl, (blk_cell BK260.out 4).trans rfl⟩ (fun hHeld => ?_)
            clear hK K
            refine norm_ (a' := ?_) ?_ ?_
            rotate_left
            · show Act.put _ (some 24) _ = _
              simp only [Act.put, List.setIfInBounds_toArray, List.set_cons_zero, List.set_cons_succ, i64_w, i32_w]
              rfl
            refine one_ (i := 6) (N := some 25) #[true, true, true, true, true, true, true, false, false, false, false, false] rfl rfl (one_of HT_.out (by kernel_rfl)) (by decide) (fun K hK => ?_)
            refine goes_ Tryd.func24 (by kernel_rfl) rfl #[.agg #[.int .i64 a0_0, .int .i64 a0_1, .int .i64 a0_2, .int .i64 a0_3, .int .i64 a0_4], .slice A1 l1.length c1, .slice Ao18 t267.length co18] (by rfl) rfl rfl (by (try simp only [List.map_toArray, List.map_cons, List.map_nil]); first | done | rfl | (simp only [List.length_drop, List.length_take]; rfl)) ?_
            with_reducible refine (smaltoref03_Goes.calls k1 a0_0 a0_1 a0_2 a0_3 a0_4 _ _ l1 _ _ t267 t270 t271 _ ?side1 ?side2 ?side3 ?side4 A12.out).mono ?_
            (case side1 => repeat (first | exact (Kd.C_below HR1.out HB.out) | (with_reducible refine Kd.C_alloc ?_ _) | (with_reducible refine Kd.C_drewN ?_ _) | (with_reducible refine Kd.C_drew ?_)))
            (case side2 => exact HC1.out)
            (case side3 => repeat (first | exact (Kd.R_reads' HO269.out).2.2 | (with_reducible refine Kd.C_alloc ?_ _) | (with_reducible refine Kd.C_drewN ?_ _) | (with_reducible refine Kd.C_drew ?_)))
            (case side4 => exact (Kd.R_reads' HO269.out).2.1)
            rintro e w19 ⟨rfl, hb⟩
            refine ⟨_, rfl, ?_⟩
            have n0_ := Aside0.mk (Kd.R_below (by (with_reducible repeat (first | apply Kd.R_alloc | apply Kd.R_drewN | apply Kd.R_drew)); exact HO_5.out) hb)
            have n1_ := Aside0.mk (Kd.R_below (by (with_reducible repeat (first | apply Kd.R_alloc | apply Kd.R_drewN | apply Kd.R_drew)); exact HO266.out) hb)
            have n2_ := Aside0.mk (Kd.R_below (by (with_reducible repeat (first | apply Kd.R_alloc | apply Kd.R_drewN | apply Kd.R_drew)); exact HO269.out) hb)
            have n3_ := Aside0.mk (blk_below (g := gb260) (o := .cells #[.int .i64 a0_0, .int .i64 a0_1, .int .i64 a0_2, .int .i64 a0_3, .int .i64 a0_4] 23 (0, 0)) (by (with_reducible repeat (first | refine blk_drewN ?_ _ | refine blk_drew ?_ | refine blk_alloc ?_ _)); exact BK260.out) hb)
            have n4_ := Aside0.mk (below_step (by repeat (first | (with_reducible first | exact HB.out | apply below_alloc | apply pw_below_drewN | apply below_drew1 | refine below_set ?_ GE260.out) | exact HB.out)) hb)
            clear HO_5
            clear HO266
            clear HO269
            clear BK260
            clear HB
            have HO_5 := n0_
            have HO266 := n1_
            have HO269 := n2_
            have BK260 := n3_
            have HB := n4_
            clear n0_ n1_ n2_ n3_ n4_
            (try clear hb)
            (try clear hb2)
            (try clear hk)
            (try clear hi)
            refine hK.out _ _ ⟨(blk_cell BK260.out 0).trans rfl, (blk_cell BK260.out 1).trans rfl, (blk_cell BK260.out 2).trans rfl, (blk_cell BK260.out 3).trans rfl, (blk_cell BK260.out 4).trans rfl⟩ (fun hHeld => ?_)
            clear hK K
            refine norm_ (a' := ?_) ?_ ?_
            rotate_left
            · show Act.put _ (some 25) _ = _
              simp only [Act.put, List.setIfInBounds_toArray, List.set_cons_zero, List.set_cons_succ, i64_w, i32_w]
              rfl
            refine pure_ (i := 7) (N := some 18) (v := ?_) (a' := ?_) #[true, true, true, true, true, true, true, true, false, false, false, false] rfl rfl (any_of HT_.out (by kernel_rfl)) (fun _ _ _ h => h) (Or.inl ⟨by rfl, ?_⟩) ?_ ?_
            rotate_left
            · intro w'
              go_simp
              with_reducible rfl
            rotate_left
            · simp only [Act.put, List.setIfInBounds_toArray, List.set_cons_zero, List.set_cons_succ, i64_w, i32_w]
              rfl
            refine pure_ (i := 8) (N := some 26) (v := ?_) (a' := ?_) #[true, true, true, true, true, true, true, true, true, false, false, false] rfl rfl (any_of HT_.out (by kernel_rfl)) (fun _ _ _ h => h) (Or.inl ⟨by rfl, ?_⟩) ?_ ?_
            rotate_left
            · intro w'
              go_simp
              with_reducible rfl
            rotate_left
            · simp only [Act.put, List.setIfInBounds_toArray, List.set_cons_zero, List.set_cons_succ, i64_w, i32_w]
              rfl
            refine pure_ (i := 9) (N := some 27) (v := ?_) (a' := ?_) #[true, true, true, true, true, true, true, true, true, true, false, false] rfl rfl (any_of HT_.out (by kernel_rfl)) (fun _ _ _ h => h) (Or.inl ⟨by rfl, ?_⟩) ?_ ?_
            rotate_left
            · intro w'
              go_simp
              with_reducible rfl
            rotate_left
            · simp only [Act.put, List.setIfInBounds_toArray, List.set_cons_zero, List.set_cons_succ, i64_w, i32_w]
              rfl
            refine pure_ (i := 10) (N := some 7) (v := ?_) (a' := ?_) #[true, true, true, true, true, true, true, true, true, true, true, false] rfl rfl (any_of HT_.out (by kernel_rfl)) (fun _ _ _ h => h) (Or.inl ⟨by rfl, ?_⟩) ?_ ?_
            rotate_left
            · intro w'
              go_simp
              with_reducible rfl
            rotate_left
            · simp only [Act.put, List.setIfInBounds_toArray, List.set_cons_zero, List.set_cons_succ, i64_w, i32_w]
              rfl
            refine pure_ (i := 11) (N := some 8) (v := ?_) (a' := ?_) #[true, true, true, true, true, true, true, true, true, true, true, true] rfl rfl (any_of HT_.out (by kernel_rfl)) (fun _ _ _ h => h) (Or.inl ⟨by rfl, ?_⟩) ?_ ?_
            rotate_left
            · intro w'
              go_simp
              with_reducible rfl
            rotate_left
            · simp only [Act.put, List.setIfInBounds_toArray, List.set_cons_zero, List.set_cons_succ, i64_w, i32_w]
              rfl
            refine done_ (done_of HT_.out (by kernel_rfl)) ?_
            try go_wp2_with (first | ((with_reducible refine gate_builtin (b := .append) (xs := #[.tmp 28, .tmp 30]) rfl ?_); at_builtin; refine Kd.R_append Kd.bool (w0 := w) w.heap.size rfl (.tmp 28) (.tmp 30) 53 4 (.bool false) 1 rfl Tryd.underlying53 info4 rfl (by decide) (by omega) u5 x5_1 t270 [.bool t270] (fun _ => True) (fun _ => False) rfl rfl ?aP (fun _ hk => hk.elim) ?aF ?aO ?aB ?aS ?aL ?_; (case aP => exact rfl); (case aB => exact (by repeat (first | (with_reducible first | exact HB.out | apply below_alloc | apply pw_below_drewN | apply below_drew1 | refine below_set ?_ GE260.out) | exact HB.out))); (case aF => exact (fun _ _ => trivial)); (case aO => exact (by (with_reducible repeat (first | apply Kd.R_alloc | apply Kd.R_drewN | apply Kd.R_drew)); exact HO_5.out)); (case aS => exact (below_size (by repeat (first | (with_reducible first | exact HB.out | apply below_alloc | apply pw_below_drewN | apply below_drew1 | refine below_set ?_ GE260.out) | exact HB.out)))); (case aL => have := LMc13.out; omega); intro v273 w20 ho hb hg hat; rw [← Ny272.out] at ho; have n0_ := Aside0.mk (blk_grown (g := gb260) (o := .cells #[.int .i64 a0_0, .int .i64 a0_1, .int .i64 a0_2, .int .i64 a0_3, .int .i64 a0_4] 23 (0, 0)) (by (with_reducible repeat (first | refine blk_drewN ?_ _ | refine blk_drew ?_ | refine blk_alloc ?_ _)); exact BK260.out) hg (Kd.R_ne HO_5.out BK260.out (by decide))); have n1_ := Aside0.mk (Kd.R_over' (by (with_reducible repeat (first | apply Kd.R_alloc | apply Kd.R_drewN | apply Kd.R_drew)); exact HO266.out) (Kd.R_typed (by (with_reducible repeat (first | apply Kd.R_alloc | apply Kd.R_drewN | apply Kd.R_drew)); exact HO_5.out)) (by decide) hg); have n2_ := Aside0.mk (Kd.R_over' (by (with_reducible repeat (first | apply Kd.R_alloc | apply Kd.R_drewN | apply Kd.R_drew)); exact HO269.out) (Kd.R_typed (by (with_reducible repeat (first | apply Kd.R_alloc | apply Kd.R_drewN | apply Kd.R_drew)); exact HO_5.out)) (by decide) hg); have n3_ := Aside0.mk (hb); have n4_ := Aside0.mk (ho); clear BK260; clear HO266; clear HO269; clear HB; clear HO_5; have BK260 := n0_; have HO266 := n1_; have HO269 := n2_; have HB := n3_; have HO274 := n4_; clear n0_ n1_ n2_ n3_ n4_; clear ho hb hg hat))
            go_roundg k1
            case measure => have := HK1.out; omega
            case rel => exact ⟨(y272), (wrap64 (x6_1 + 1)), (by first | rfl | (simp; done) | (simp [*]; done)), H', ⟨by have := HK1.out; omega⟩, ⟨by (with_reducible repeat (first | apply Kd.R_alloc | apply Kd.R_drewN | apply Kd.R_drew)); exact HO274.out⟩, ⟨by (with_reducible repeat (first | refine blk_drewN ?_ _ | refine blk_drew ?_ | refine blk_alloc ?_ _)); exact BK260.out⟩, ⟨by repeat (first | (with_reducible first | exact HB.out | apply below_alloc | apply pw_below_drewN | apply below_drew1 | refine below_set ?_ GE260.out) | exact HB.out)⟩⟩
          · rw [if_neg c13] at H
            exact absurd H (by simp)
        · rw [if_neg c9] at H
          have c9b0 : decide (x6_1 < (ji8)) = false := decide_eq_false c9
          clear c9
          obtain rfl := Option.some.inj H
          go_wp2
          go_ret
          exact ⟨_, by first | rfl | (simp [errW_none, errW_some] <;> rfl) | (simp only [← hji6, ← hji8]; first | rfl | (simp [errW_none, errW_some] <;> rfl)) | (simp [*, errW_none, errW_some] <;> rfl), by (with_reducible repeat (first | apply Kd.R_alloc | apply Kd.R_drewN | apply Kd.R_drew)); exact HO_5.out, by repeat (first | (with_reducible first | exact HB.out | apply below_alloc | apply pw_below_drewN | apply below_drew1 | refine below_set ?_ GE260.out) | exact HB.out)⟩
      · rw [if_neg c7] at H
        exact absurd H (by simp)
end Go.Proofs.YtbijamlgcebgeaaDoor.Q

-- part KB
namespace Go.Proofs.YtbijamlgcebgeaaDoor.Hand
open Go.RowKit Go.Shelf Go.Sort Go.Proofs.YtbijamlgcebgeaaDoorW.PrintWords Go.Proofs.YtbijamlgcebgeaaDoorW.PrintMore Go.Proofs.YtbijamlgcebgeaaDoor.Q
theorem All_l0 (l : List S74) (hl : l.length ≤ 1000) : ∀ n i k : Nat, i + n = l.length → n < k → smaltoref03_All.l0 k l (allL i) i = some (allL l.length) := by
  intro n
  induction n with
  | zero =>
    intro i k h hk
    obtain ⟨k, rfl⟩ : ∃ j, k = j + 1 := ⟨k - 1, by omega⟩
    unfold smaltoref03_All.l0
    rw [if_neg (by omega), show i = l.length by omega]
  | succ n ih =>
    intro i k h hk
    obtain ⟨k, rfl⟩ : ∃ j, k = j + 1 := ⟨k - 1, by omega⟩
    unfold smaltoref03_All.l0
    rw [if_pos (by omega), if_pos (by simp [allL]; omega), w64 (by omega)]
    have := ih (i + 1) k (by omega) (by omega)
    rw [show ((i + 1 : Nat) : Int) = (i : Int) + 1 by omega] at this
    rw [← this]
    simp [allL, List.range_succ]
theorem All_eq (l : List S74) (hl : l.length ≤ 1000) (k : Nat) (hk : l.length < k) : smaltoref03_All.f k l = some (allL l.length) := All_l0 l hl l.length 0 k (by omega) hk
theorem two_pow_u : ∀ n : Nat, n ≤ 6 → shl .i64 1 (IntKind.u64.wrap (n : Int)) = ((2 ^ n : Nat) : Int) ∧ 0 ≤ IntKind.u64.wrap (n : Int) ∧ 2 ^ n ≤ 64 := by decide +kernel
/-- Which sets go. -/
def tableL (F : Furn) : List Bool := (List.range (2 ^ F.l.length)).map (goesB F)
theorem Table_l0 {F : Furn} (hF : F.Ok) : ∀ (n s k : Nat), s + n = 2 ^ F.l.length → n + 101 ≤ k → smaltoref03_Table.l0 k F.l ((List.range s).map (goesB F)) s F.bars F.length F.gap F.load F.near = some (tableL F) := by
  obtain ⟨p1, p2, p3⟩ := two_pow_u F.l.length hF.len
  have hlen := hF.len
  intro n
  induction n with
  | zero =>
    intro s k h hk
    obtain ⟨k, rfl⟩ : ∃ j, k = j + 1 := ⟨k - 1, by omega⟩
    unfold smaltoref03_Table.l0
    rw [if_pos p2, p1, if_neg (by omega), show s = 2 ^ F.l.length by omega]
    rfl
  | succ n ih =>
    intro s k h hk
    obtain ⟨k, rfl⟩ : ∃ j, k = j + 1 := ⟨k - 1, by omega⟩
    have hs : s < 2 ^ F.l.length := by omega
    unfold smaltoref03_Table.l0
    rw [if_pos p2, p1, if_pos (by omega), All_eq F.l (by omega) k (by omega)]
    simp only [Option.bind_some]
    rw [Numbers_eq _ (by simp [allL]; omega) s (by omega) k (by omega)]
    simp only [Option.bind_some]
    rw [pick_all _ hF.len s hs]
    obtain ⟨r2, hr⟩ := goes_set hF (t := s) (bitsOf_below hs) k (by omega)
    rw [hr]
    simp only [Option.bind_some]
    rw [if_pos (by simp; omega), w64 (by omega)]
    have := ih (s + 1) k (by omega) (by omega)
    rw [show ((s + 1 : Nat) : Int) = (s : Int) + 1 by omega] at this
    rw [← this]
    simp [List.range_succ]
theorem Table_eq {F : Furn} (hF : F.Ok) (k : Nat) (hk : 165 ≤ k) : smaltoref03_Table.f k F.bars F.length F.gap F.load F.near F.l = some (tableL F) := by
  have p3 := (two_pow_u F.l.length hF.len).2.2
  exact Table_l0 hF (2 ^ F.l.length) 0 k (by omega) (by omega)
theorem tableL_at (F : Furn) {s : Nat} (hs : s < 2 ^ F.l.length) : rdOf false (tableL F) (s : Int) = goesB F s := by
  simp [rdOf, tableL, List.getD_eq_getElem?_getD, hs]
end Go.Proofs.YtbijamlgcebgeaaDoor.Hand

-- part QE
namespace Go.Proofs.YtbijamlgcebgeaaDoor.Q
open Go.RowKit Go.Proofs.YtbijamlgcebgeaaDoorW.PrintWords Go.Proofs.YtbijamlgcebgeaaDoorW.PrintLast Go.Proofs.YtbijamlgcebgeaaDoorW.PrintMore
attribute [local go_sem] max2_int min2_int max_two min_two max_three min_three max_four min_four
mutual
def smaltoref03_Apart.l0 : Nat → List Bool → Int → List Int → List Int → Int → Option (List Int)
  | 0, _, _, _, _, _ => none
  | k + 1, x0, x1, x5, x6, x7 => if x7 < x1 then (if x6.length < 17592186044416 then (smaltoref03_Apart.l0 k x0 x1 x5 (x6 ++ [x7]) (wrap64 (x7 + 1))) else (none)) else (smaltoref03_Apart.l1 k x0 x1 x5 x6 1)
def smaltoref03_Apart.l1 : Nat → List Bool → Int → List Int → List Int → Int → Option (List Int)
  | 0, _, _, _, _, _ => none
  | k + 1, x0, x1, x5, x6, x8 => if 0 ≤ (IntKind.u64.wrap (x1)) then (if x8 < (shl .i64 1 (IntKind.u64.wrap (x1))) then ((smaltoref03_Numbers.f k x6 x8).bind fun t310 => (smaltoref03_Apart.l2 k x0 x1 x5 x6 x8 t310 true 0)) else (some x5)) else (none)
def smaltoref03_Apart.l2 : Nat → List Bool → Int → List Int → List Int → Int → List Int → Bool → Int → Option (List Int)
  | 0, _, _, _, _, _, _, _, _ => none
  | k + 1, x0, x1, x5, x6, x8, x9, x10, x11 => if x11 < (x9.length : Int) then (smaltoref03_Apart.l3 k x0 x1 x5 x6 x8 x9 x10 x11 0) else (if x10 = true then (if (x9.length : Int) > (x5.length : Int) then (smaltoref03_Apart.l1 k x0 x1 x9 x6 (wrap64 (x8 + 1))) else (if (x9.length : Int) = (x5.length : Int) then ((smaltoref03_Order.f k x9 x5).bind fun t313 => (if t313 < 0 then (smaltoref03_Apart.l1 k x0 x1 x9 x6 (wrap64 (x8 + 1))) else (smaltoref03_Apart.l1 k x0 x1 x5 x6 (wrap64 (x8 + 1))))) else (smaltoref03_Apart.l1 k x0 x1 x5 x6 (wrap64 (x8 + 1))))) else (smaltoref03_Apart.l1 k x0 x1 x5 x6 (wrap64 (x8 + 1))))
def smaltoref03_Apart.l3 : Nat → List Bool → Int → List Int → List Int → Int → List Int → Bool → Int → Int → Option (List Int)
  | 0, _, _, _, _, _, _, _, _, _ => none
  | k + 1, x0, x1, x5, x6, x8, x9, x10, x11, x12 => if x12 < x11 then (if x10 = true then (if 0 ≤ x11 then (if x11 < (x9.length : Int) then (if 0 ≤ (IntKind.u64.wrap (rd x9 x11)) then (if 0 ≤ x12 then (if x12 < (x9.length : Int) then (if 0 ≤ (IntKind.u64.wrap (rd x9 x12)) then (if 0 ≤ (wrap64 ((shl .i64 1 (IntKind.u64.wrap (rd x9 x11))) + (shl .i64 1 (IntKind.u64.wrap (rd x9 x12))))) then (if (wrap64 ((shl .i64 1 (IntKind.u64.wrap (rd x9 x11))) + (shl .i64 1 (IntKind.u64.wrap (rd x9 x12))))) < (x0.length : Int) then (smaltoref03_Apart.l3 k x0 x1 x5 x6 x8 x9 (!(rdOf false x0 (wrap64 ((shl .i64 1 (IntKind.u64.wrap (rd x9 x11))) + (shl .i64 1 (IntKind.u64.wrap (rd x9 x12))))))) x11 (wrap64 (x12 + 1))) else (none)) else (none)) else (none)) else (none)) else (none)) else (none)) else (none)) else (none)) else (smaltoref03_Apart.l3 k x0 x1 x5 x6 x8 x9 false x11 (wrap64 (x12 + 1)))) else (smaltoref03_Apart.l2 k x0 x1 x5 x6 x8 x9 x10 (wrap64 (x11 + 1)))
end
def smaltoref03_Apart.f (k : Nat) (l0 : List Bool) (a1 : Int) : Option (List Int) := smaltoref03_Apart.l0 k l0 a1 (([] : List Int)) (([] : List Int)) 0
theorem smaltoref03_Apart.mono_l : ∀ k, (∀ y0 y1 y2 y3 y4, LeO (smaltoref03_Apart.l0 k y0 y1 y2 y3 y4) (smaltoref03_Apart.l0 (k + 1) y0 y1 y2 y3 y4)) ∧ (∀ y0 y1 y2 y3 y4, LeO (smaltoref03_Apart.l1 k y0 y1 y2 y3 y4) (smaltoref03_Apart.l1 (k + 1) y0 y1 y2 y3 y4)) ∧ (∀ y0 y1 y2 y3 y4 y5 y6 y7, LeO (smaltoref03_Apart.l2 k y0 y1 y2 y3 y4 y5 y6 y7) (smaltoref03_Apart.l2 (k + 1) y0 y1 y2 y3 y4 y5 y6 y7)) ∧ (∀ y0 y1 y2 y3 y4 y5 y6 y7 y8, LeO (smaltoref03_Apart.l3 k y0 y1 y2 y3 y4 y5 y6 y7 y8) (smaltoref03_Apart.l3 (k + 1) y0 y1 y2 y3 y4 y5 y6 y7 y8))
  | 0 => ⟨fun _ _ _ _ _ r h => by simp [smaltoref03_Apart.l0] at h, fun _ _ _ _ _ r h => by simp [smaltoref03_Apart.l1] at h, fun _ _ _ _ _ _ _ _ r h => by simp [smaltoref03_Apart.l2] at h, fun _ _ _ _ _ _ _ _ _ r h => by simp [smaltoref03_Apart.l3] at h⟩
  | k + 1 => by
    obtain ⟨ih0, ih1, ih2, ih3⟩ := smaltoref03_Apart.mono_l k
    refine ⟨?_, ?_, ?_, ?_⟩
    · intro y0 y1 y2 y3 y4
      unfold smaltoref03_Apart.l0
      repeat' first
      | (with_reducible exact ih0 _ _ _ _ _)
      | (with_reducible exact ih1 _ _ _ _ _)
      | (with_reducible exact ih2 _ _ _ _ _ _ _ _)
      | (with_reducible exact ih3 _ _ _ _ _ _ _ _ _)
      | (with_reducible exact smaltoref03_Numbers.mono _ _ _)
      | (with_reducible exact smaltoref03_Order.mono _ _ _)
      | (with_reducible exact LeO.refl _)
      | (with_reducible exact LeO.none _)
      | (with_reducible refine LeO.ite ?_ ?_)
      | (with_reducible refine LeO.bind ?_ (fun _ => ?_))
      | exact ih0 _ _ _ _ _
      | exact ih1 _ _ _ _ _
      | exact ih2 _ _ _ _ _ _ _ _
      | exact ih3 _ _ _ _ _ _ _ _ _
      | exact smaltoref03_Numbers.mono _ _ _
      | exact smaltoref03_Order.mono _ _ _
      | exact LeO.none _
      | refine LeO.ite ?_ ?_
      | refine LeO.bind ?_ (fun _ => ?_)
    · intro y0 y1 y2 y3 y4
      unfold smaltoref03_Apart.l1
      repeat' first
      | (with_reducible exact ih0 _ _ _ _ _)
      | (with_reducible exact ih1 _ _ _ _ _)
      | (with_reducible exact ih2 _ _ _ _ _ _ _ _)
      | (with_reducible exact ih3 _ _ _ _ _ _ _ _ _)
      | (with_reducible exact smaltoref03_Numbers.mono _ _ _)
      | (with_reducible exact smaltoref03_Order.mono _ _ _)
      | (with_reducible exact LeO.refl _)
      | (with_reducible exact LeO.none _)
      | (with_reducible refine LeO.ite ?_ ?_)
      | (with_reducible refine LeO.bind ?_ (fun _ => ?_))
      | exact ih0 _ _ _ _ _
      | exact ih1 _ _ _ _ _
      | exact ih2 _ _ _ _ _ _ _ _
      | exact ih3 _ _ _ _ _ _ _ _ _
      | exact smaltoref03_Numbers.mono _ _ _
      | exact smaltoref03_Order.mono _ _ _
      | exact LeO.none _
      | refine LeO.ite ?_ ?_
      | refine LeO.bind ?_ (fun _ => ?_)
    · intro y0 y1 y2 y3 y4 y5 y6 y7
      unfold smaltoref03_Apart.l2
      repeat' first
      | (with_reducible exact ih0 _ _ _ _ _)
      | (with_reducible exact ih1 _ _ _ _ _)
      | (with_reducible exact ih2 _ _ _ _ _ _ _ _)
      | (with_reducible exact ih3 _ _ _ _ _ _ _ _ _)
      | (with_reducible exact smaltoref03_Numbers.mono _ _ _)
      | (with_reducible exact smaltoref03_Order.mono _ _ _)
      | (with_reducible exact LeO.refl _)
      | (with_reducible exact LeO.none _)
      | (with_reducible refine LeO.ite ?_ ?_)
      | (with_reducible refine LeO.bind ?_ (fun _ => ?_))
      | exact ih0 _ _ _ _ _
      | exact ih1 _ _ _ _ _
      | exact ih2 _ _ _ _ _ _ _ _
      | exact ih3 _ _ _ _ _ _ _ _ _
      | exact smaltoref03_Numbers.mono _ _ _
      | exact smaltoref03_Order.mono _ _ _
      | exact LeO.none _
      | refine LeO.ite ?_ ?_
      | refine LeO.bind ?_ (fun _ => ?_)
    · intro y0 y1 y2 y3 y4 y5 y6 y7 y8
      unfold smaltoref03_Apart.l3
      repeat' first
      | (with_reducible exact ih0 _ _ _ _ _)
      | (with_reducible exact ih1 _ _ _ _ _)
      | (with_reducible exact ih2 _ _ _ _ _ _ _ _)
      | (with_reducible exact ih3 _ _ _ _ _ _ _ _ _)
      | (with_reducible exact smaltoref03_Numbers.mono _ _ _)
      | (with_reducible exact smaltoref03_Order.mono _ _ _)
      | (with_reducible exact LeO.refl _)
      | (with_reducible exact LeO.none _)
      | (with_reducible refine LeO.ite ?_ ?_)
      | (with_reducible refine LeO.bind ?_ (fun _ => ?_))
      | exact ih0 _ _ _ _ _
      | exact ih1 _ _ _ _ _
      | exact ih2 _ _ _ _ _ _ _ _
      | exact ih3 _ _ _ _ _ _ _ _ _
      | exact smaltoref03_Numbers.mono _ _ _
      | exact smaltoref03_Order.mono _ _ _
      | exact LeO.none _
      | refine LeO.ite ?_ ?_
      | refine LeO.bind ?_ (fun _ => ?_)
theorem smaltoref03_Apart.mono : ∀ a0 a1 k, LeO (smaltoref03_Apart.f k a0 a1) (smaltoref03_Apart.f (k + 1) a0 a1) := by
  intro a0 a1 k
  obtain ⟨ih0, ih1, ih2, ih3⟩ := smaltoref03_Apart.mono_l k
  unfold smaltoref03_Apart.f
  repeat' first
      | (with_reducible exact ih0 _ _ _ _ _)
      | (with_reducible exact ih1 _ _ _ _ _)
      | (with_reducible exact ih2 _ _ _ _ _ _ _ _)
      | (with_reducible exact ih3 _ _ _ _ _ _ _ _ _)
      | (with_reducible exact smaltoref03_Numbers.mono _ _ _)
      | (with_reducible exact smaltoref03_Order.mono _ _ _)
      | (with_reducible exact LeO.refl _)
      | (with_reducible exact LeO.none _)
      | (with_reducible refine LeO.ite ?_ ?_)
      | (with_reducible refine LeO.bind ?_ (fun _ => ?_))
      | exact ih0 _ _ _ _ _
      | exact ih1 _ _ _ _ _
      | exact ih2 _ _ _ _ _ _ _ _
      | exact ih3 _ _ _ _ _ _ _ _ _
      | exact smaltoref03_Numbers.mono _ _ _
      | exact smaltoref03_Order.mono _ _ _
      | exact LeO.none _
      | refine LeO.ite ?_ ?_
      | refine LeO.bind ?_ (fun _ => ?_)
set_option maxHeartbeats 8000000 in
set_option maxRecDepth 100000 in
theorem smaltoref03_Apart.calls (k : Nat) (A0 : Option Addr) (c0 : Nat) (l0 : List Bool) (a1 : Int) (r : List Int) (w : World) (hr0 : Kd.C Kd.bool w A0 l0.length l0) (hc0 : l0.length ≤ c0) (h : smaltoref03_Apart.f k l0 a1 = some r) :
    Calls Tryd.prog 37 #[.slice A0 l0.length c0, .int .i64 a1] w fun e w' => ∃ v0_ : Value, e = .returned (v0_) ∧ Kd.R (Kd.int .i64) 3 w' w.heap.size (fun _ => True) v0_ r ∧ Below w.heap.size w w' := by
  have HR0 := Aside0.mk hr0
  have HC0 := Aside0.mk hc0
  clear hr0 hc0
  have HB := Aside0.mk (Below.refl w.heap.size w)
  have H : (smaltoref03_Apart.l0 k l0 a1 (([] : List Int)) (([] : List Int)) 0) = some r := h
  clear h
  obtain ⟨y301, hy301⟩ : ∃ y_ : List Int, y_ = (([] : List Int)) := ⟨_, rfl⟩
  replace H : (smaltoref03_Apart.l0 k l0 a1 y301 (([] : List Int)) 0) = some r := by first | (rw [hy301]; with_reducible exact H) | (have H2_ := (Option.bind_some _ _).symm.trans H; rw [hy301]; with_reducible exact H2_) | (have H2_ := (Option.bind_some _ _).symm.trans H; with_reducible exact H2_) | with_reducible exact H | (rw [hy301]; exact H) | exact H
  have Ny301 := Aside0.mk hy301
  clear hy301
  obtain ⟨y304, hy304⟩ : ∃ y_ : List Int, y_ = (([] : List Int)) := ⟨_, rfl⟩
  replace H : (smaltoref03_Apart.l0 k l0 a1 y301 y304 0) = some r := by first | (rw [hy304]; with_reducible exact H) | (have H2_ := (Option.bind_some _ _).symm.trans H; rw [hy304]; with_reducible exact H2_) | (have H2_ := (Option.bind_some _ _).symm.trans H; with_reducible exact H2_) | with_reducible exact H | (rw [hy304]; exact H) | exact H
  have Ny304 := Aside0.mk hy304
  clear hy304
  have H' := Aside0.mk H
  clear H
  go_enter Tryd.func37, Tryd.ntmps37
  go_wp2_with (first | ((with_reducible refine gate_dst (N := 13) rfl ?_); (try (refine gate_guard (by rfl) ?_; dsimp only)); refine Kd.R_lit (Kd.int .i64) _ 3 ?hg (N := 13) ?hd (xs := ([] : List Int)) (inner := []) (ok := fun _ => True) (okp := fun _ => True) ?hr ?hp (fun _ hk => hk) trivial (Below.refl _ _) (Nat.le_refl _) (by simp) ?_; (case hd => rfl); (case hg => rfl); (case hr => first | (go_simp; done) | (go_simp; rfl)); (case hp => exact (Reps.none _ _)); intro v302 w3 ho4 hb hg_ hnew_; clear hg_ hnew_; (first | rw [← Ny301.out] at ho4 | (simp only [Int.reduceToNat] at ho4; rw [← Ny301.out] at ho4)); have n0_ := Aside0.mk (Kd.R_lower ho4 (below_size (by repeat (first | (with_reducible first | exact HB.out | apply below_alloc | apply pw_below_drewN | apply below_drew1) | exact HB.out)))); have n1_ := Aside0.mk (below_step (by repeat (first | (with_reducible first | exact HB.out | apply below_alloc | apply pw_below_drewN | apply below_drew1) | exact HB.out)) hb); clear HB; have HO303 := n0_; have HB := n1_; clear n0_ n1_; clear hb ho4) | ((with_reducible refine gate_dst (N := 14) rfl ?_); (try (refine gate_guard (by rfl) ?_; dsimp only)); refine Kd.R_lit (Kd.int .i64) _ 3 ?hg (N := 14) ?hd (xs := ([] : List Int)) (inner := []) (ok := fun _ => True) (okp := fun _ => True) ?hr ?hp (fun _ hk => hk) trivial (Below.refl _ _) (Nat.le_refl _) (by simp) ?_; (case hd => rfl); (case hg => rfl); (case hr => first | (go_simp; done) | (go_simp; rfl)); (case hp => exact (Reps.none _ _)); intro v305 w5 ho6 hb hg_ hnew_; clear hg_ hnew_; (first | rw [← Ny304.out] at ho6 | (simp only [Int.reduceToNat] at ho6; rw [← Ny304.out] at ho6)); have n0_ := Aside0.mk (Kd.R_elder' (by (with_reducible repeat (first | apply Kd.R_alloc | apply Kd.R_drewN | apply Kd.R_drew)); exact HO303.out) (Kd.R_base ho6) hb); have n1_ := Aside0.mk (Kd.R_lower (Kd.R_new' ho6 (Kd.R_lt (by (with_reducible repeat (first | apply Kd.R_alloc | apply Kd.R_drewN | apply Kd.R_drew)); exact HO303.out))) (below_size (by repeat (first | (with_reducible first | exact HB.out | apply below_alloc | apply pw_below_drewN | apply below_drew1) | exact HB.out)))); have n2_ := Aside0.mk (below_step (by repeat (first | (with_reducible first | exact HB.out | apply below_alloc | apply pw_below_drewN | apply below_drew1) | exact HB.out)) hb); clear HO303; clear HB; have HO303 := n0_; have HO306 := n1_; have HB := n2_; clear n0_ n1_ n2_; clear hb ho6))
  repeat (go_quiet (first | ((with_reducible refine gate_dst (N := 13) rfl ?_); (try (refine gate_guard (by rfl) ?_; dsimp only)); refine Kd.R_lit (Kd.int .i64) _ 3 ?hg (N := 13) ?hd (xs := ([] : List Int)) (inner := []) (ok := fun _ => True) (okp := fun _ => True) ?hr ?hp (fun _ hk => hk) trivial (Below.refl _ _) (Nat.le_refl _) (by simp) ?_; (case hd => rfl); (case hg => rfl); (case hr => first | (go_simp; done) | (go_simp; rfl)); (case hp => exact (Reps.none _ _)); intro v302 w3 ho4 hb hg_ hnew_; clear hg_ hnew_; (first | rw [← Ny301.out] at ho4 | (simp only [Int.reduceToNat] at ho4; rw [← Ny301.out] at ho4)); have n0_ := Aside0.mk (Kd.R_lower ho4 (below_size (by repeat (first | (with_reducible first | exact HB.out | apply below_alloc | apply pw_below_drewN | apply below_drew1) | exact HB.out)))); have n1_ := Aside0.mk (below_step (by repeat (first | (with_reducible first | exact HB.out | apply below_alloc | apply pw_below_drewN | apply below_drew1) | exact HB.out)) hb); clear HB; have HO303 := n0_; have HB := n1_; clear n0_ n1_; clear hb ho4) | ((with_reducible refine gate_dst (N := 14) rfl ?_); (try (refine gate_guard (by rfl) ?_; dsimp only)); refine Kd.R_lit (Kd.int .i64) _ 3 ?hg (N := 14) ?hd (xs := ([] : List Int)) (inner := []) (ok := fun _ => True) (okp := fun _ => True) ?hr ?hp (fun _ hk => hk) trivial (Below.refl _ _) (Nat.le_refl _) (by simp) ?_; (case hd => rfl); (case hg => rfl); (case hr => first | (go_simp; done) | (go_simp; rfl)); (case hp => exact (Reps.none _ _)); intro v305 w5 ho6 hb hg_ hnew_; clear hg_ hnew_; (first | rw [← Ny304.out] at ho6 | (simp only [Int.reduceToNat] at ho6; rw [← Ny304.out] at ho6)); have n0_ := Aside0.mk (Kd.R_elder' (by (with_reducible repeat (first | apply Kd.R_alloc | apply Kd.R_drewN | apply Kd.R_drew)); exact HO303.out) (Kd.R_base ho6) hb); have n1_ := Aside0.mk (Kd.R_lower (Kd.R_new' ho6 (Kd.R_lt (by (with_reducible repeat (first | apply Kd.R_alloc | apply Kd.R_drewN | apply Kd.R_drew)); exact HO303.out))) (below_size (by repeat (first | (with_reducible first | exact HB.out | apply below_alloc | apply pw_below_drewN | apply below_drew1) | exact HB.out)))); have n2_ := Aside0.mk (below_step (by repeat (first | (with_reducible first | exact HB.out | apply below_alloc | apply pw_below_drewN | apply below_drew1) | exact HB.out)) hb); clear HO303; clear HB; have HO303 := n0_; have HO306 := n1_; have HB := n2_; clear n0_ n1_ n2_; clear hb ho6)); try go_wp2_with (first | ((with_reducible refine gate_dst (N := 13) rfl ?_); (try (refine gate_guard (by rfl) ?_; dsimp only)); refine Kd.R_lit (Kd.int .i64) _ 3 ?hg (N := 13) ?hd (xs := ([] : List Int)) (inner := []) (ok := fun _ => True) (okp := fun _ => True) ?hr ?hp (fun _ hk => hk) trivial (Below.refl _ _) (Nat.le_refl _) (by simp) ?_; (case hd => rfl); (case hg => rfl); (case hr => first | (go_simp; done) | (go_simp; rfl)); (case hp => exact (Reps.none _ _)); intro v302 w3 ho4 hb hg_ hnew_; clear hg_ hnew_; (first | rw [← Ny301.out] at ho4 | (simp only [Int.reduceToNat] at ho4; rw [← Ny301.out] at ho4)); have n0_ := Aside0.mk (Kd.R_lower ho4 (below_size (by repeat (first | (with_reducible first | exact HB.out | apply below_alloc | apply pw_below_drewN | apply below_drew1) | exact HB.out)))); have n1_ := Aside0.mk (below_step (by repeat (first | (with_reducible first | exact HB.out | apply below_alloc | apply pw_below_drewN | apply below_drew1) | exact HB.out)) hb); clear HB; have HO303 := n0_; have HB := n1_; clear n0_ n1_; clear hb ho4) | ((with_reducible refine gate_dst (N := 14) rfl ?_); (try (refine gate_guard (by rfl) ?_; dsimp only)); refine Kd.R_lit (Kd.int .i64) _ 3 ?hg (N := 14) ?hd (xs := ([] : List Int)) (inner := []) (ok := fun _ => True) (okp := fun _ => True) ?hr ?hp (fun _ hk => hk) trivial (Below.refl _ _) (Nat.le_refl _) (by simp) ?_; (case hd => rfl); (case hg => rfl); (case hr => first | (go_simp; done) | (go_simp; rfl)); (case hp => exact (Reps.none _ _)); intro v305 w5 ho6 hb hg_ hnew_; clear hg_ hnew_; (first | rw [← Ny304.out] at ho6 | (simp only [Int.reduceToNat] at ho6; rw [← Ny304.out] at ho6)); have n0_ := Aside0.mk (Kd.R_elder' (by (with_reducible repeat (first | apply Kd.R_alloc | apply Kd.R_drewN | apply Kd.R_drew)); exact HO303.out) (Kd.R_base ho6) hb); have n1_ := Aside0.mk (Kd.R_lower (Kd.R_new' ho6 (Kd.R_lt (by (with_reducible repeat (first | apply Kd.R_alloc | apply Kd.R_drewN | apply Kd.R_drew)); exact HO303.out))) (below_size (by repeat (first | (with_reducible first | exact HB.out | apply below_alloc | apply pw_below_drewN | apply below_drew1) | exact HB.out)))); have n2_ := Aside0.mk (below_step (by repeat (first | (with_reducible first | exact HB.out | apply below_alloc | apply pw_below_drewN | apply below_drew1) | exact HB.out)) hb); clear HO303; clear HB; have HO303 := n0_; have HO306 := n1_; have HB := n2_; clear n0_ n1_ n2_; clear hb ho6)))
  go_loopg [6, 7] k (fun kq v6 v7 w' => ∃ (x6_1 : List Int) (x7_1 : Int), v7 = .int .i64 x7_1 ∧ Aside0 (smaltoref03_Apart.l0 kq l0 a1 y301 x6_1 x7_1 = some r) ∧ Aside0 (kq ≤ k) ∧ Aside0 (Kd.R (Kd.int .i64) 3 w' w.heap.size (fun k_ => some k_ ≠ (v6 : Value).ownBlock) v302 y301) ∧ Aside0 (Kd.R (Kd.int .i64) 3 w' w.heap.size (fun k_ => some k_ ≠ (v302 : Value).ownBlock) v6 x6_1) ∧ Aside0 (Below w.heap.size w w'))
  case atStart => exact ⟨(y304), (0), (by first | rfl | (simp; done) | (simp [*]; done)), H', ⟨Nat.le_refl _⟩, ⟨by (with_reducible repeat (first | apply Kd.R_alloc | apply Kd.R_drewN | apply Kd.R_drew)); exact Kd.R_mono HO303.out (fun _ hk => hk.2)⟩, ⟨by (with_reducible repeat (first | apply Kd.R_alloc | apply Kd.R_drewN | apply Kd.R_drew)); exact Kd.R_mono HO306.out (fun _ hk => hk.2)⟩, ⟨by repeat (first | (with_reducible first | exact HB.out | apply below_alloc | apply pw_below_drewN | apply below_drew1) | exact HB.out)⟩⟩
  case round =>
    clear H'
    try clear p2
    try clear c3
    obtain ⟨x6_1, x7_1, rfl, HA, HK1, HO_5, HO_6, HB⟩ := hrel
    cases gk with
    | zero => exact absurd HA.out (by simp [smaltoref03_Apart.l0])
    | succ k1 =>
      have H := HA.out
      clear HA
      simp only [smaltoref03_Apart.l0] at H
      by_cases c7 : x7_1 < a1
      · rw [if_pos c7] at H
        have c7b0 : decide (x7_1 < a1) = true := decide_eq_true c7
        clear c7
        by_cases c8 : x6_1.length < 17592186044416
        · rw [if_pos c8] at H
          have LMc8 := Aside0.mk c8
          clear c8
          obtain ⟨y307, hy307⟩ : ∃ y_ : List Int, y_ = (x6_1 ++ [x7_1]) := ⟨_, rfl⟩
          replace H : (smaltoref03_Apart.l0 k1 l0 a1 y301 y307 (wrap64 (x7_1 + 1))) = some r := by first | (rw [hy307]; with_reducible exact H) | (have H2_ := (Option.bind_some _ _).symm.trans H; rw [hy307]; with_reducible exact H2_) | (have H2_ := (Option.bind_some _ _).symm.trans H; with_reducible exact H2_) | with_reducible exact H | (rw [hy307]; exact H) | exact H
          have Ny307 := Aside0.mk hy307
          clear hy307
          have H' := Aside0.mk H
          clear H
          go_wp2_with (first | ((with_reducible refine gate_builtin (b := .append) (xs := #[.tmp 20, .tmp 22]) rfl ?_); (try (refine gate_guard (by rfl) ?_; dsimp only)); at_builtin; refine Kd.R_append (Kd.int .i64) (w0 := w) w.heap.size rfl (.tmp 20) (.tmp 22) 25 3 (.int .i64 0) 8 rfl Tryd.underlying25 info3 rfl (by decide) (by omega) u6 x6_1 x7_1 [.int .i64 x7_1] (fun k_ => some k_ ≠ (v302 : Value).ownBlock) (fun _ => False) rfl rfl ?aP (fun _ hk => hk.elim) ?aF ?aO ?aB ?aS ?aL ?_; (case aP => exact rfl); (case aB => exact (by repeat (first | (with_reducible first | exact HB.out | apply below_alloc | apply pw_below_drewN | apply below_drew1) | exact HB.out))); (case aF => exact (fun k_ hk => Kd.fresh' (Kd.R_lt (by (with_reducible repeat (first | apply Kd.R_alloc | apply Kd.R_drewN | apply Kd.R_drew)); exact HO_5.out)) k_ hk)); (case aO => exact (by (with_reducible repeat (first | apply Kd.R_alloc | apply Kd.R_drewN | apply Kd.R_drew)); exact HO_6.out)); (case aS => exact (below_size (by repeat (first | (with_reducible first | exact HB.out | apply below_alloc | apply pw_below_drewN | apply below_drew1) | exact HB.out)))); (case aL => have := LMc8.out; omega); intro v308 w9 ho hb hg hat; rw [← Ny307.out] at ho; have n0_ := Aside0.mk (Kd.R_after (ok := (fun _ => True)) (by (with_reducible repeat (first | apply Kd.R_alloc | apply Kd.R_drewN | apply Kd.R_drew)); exact Kd.R_mono HO_5.out (fun _ hk => ⟨trivial, hk⟩)) hg hat); have n1_ := Aside0.mk (hb); have n2_ := Aside0.mk (ho); clear HO_5; clear HB; clear HO_6; have HO_5 := n0_; have HB := n1_; have HO309 := n2_; clear n0_ n1_ n2_; clear ho hb hg hat))
          repeat (go_quiet (first | ((with_reducible refine gate_builtin (b := .append) (xs := #[.tmp 20, .tmp 22]) rfl ?_); (try (refine gate_guard (by rfl) ?_; dsimp only)); at_builtin; refine Kd.R_append (Kd.int .i64) (w0 := w) w.heap.size rfl (.tmp 20) (.tmp 22) 25 3 (.int .i64 0) 8 rfl Tryd.underlying25 info3 rfl (by decide) (by omega) u6 x6_1 x7_1 [.int .i64 x7_1] (fun k_ => some k_ ≠ (v302 : Value).ownBlock) (fun _ => False) rfl rfl ?aP (fun _ hk => hk.elim) ?aF ?aO ?aB ?aS ?aL ?_; (case aP => exact rfl); (case aB => exact (by repeat (first | (with_reducible first | exact HB.out | apply below_alloc | apply pw_below_drewN | apply below_drew1) | exact HB.out))); (case aF => exact (fun k_ hk => Kd.fresh' (Kd.R_lt (by (with_reducible repeat (first | apply Kd.R_alloc | apply Kd.R_drewN | apply Kd.R_drew)); exact HO_5.out)) k_ hk)); (case aO => exact (by (with_reducible repeat (first | apply Kd.R_alloc | apply Kd.R_drewN | apply Kd.R_drew)); exact HO_6.out)); (case aS => exact (below_size (by repeat (first | (with_reducible first | exact HB.out | apply below_alloc | apply pw_below_drewN | apply below_drew1) | exact HB.out)))); (case aL => have := LMc8.out; omega); intro v308 w9 ho hb hg hat; rw [← Ny307.out] at ho; have n0_ := Aside0.mk (Kd.R_after (ok := (fun _ => True)) (by (with_reducible repeat (first | apply Kd.R_alloc | apply Kd.R_drewN | apply Kd.R_drew)); exact Kd.R_mono HO_5.out (fun _ hk => ⟨trivial, hk⟩)) hg hat); have n1_ := Aside0.mk (hb); have n2_ := Aside0.mk (ho); clear HO_5; clear HB; clear HO_6; have HO_5 := n0_; have HB := n1_; have HO309 := n2_; clear n0_ n1_ n2_; clear ho hb hg hat)); try go_wp2_with (first | ((with_reducible refine gate_builtin (b := .append) (xs := #[.tmp 20, .tmp 22]) rfl ?_); (try (refine gate_guard (by rfl) ?_; dsimp only)); at_builtin; refine Kd.R_append (Kd.int .i64) (w0 := w) w.heap.size rfl (.tmp 20) (.tmp 22) 25 3 (.int .i64 0) 8 rfl Tryd.underlying25 info3 rfl (by decide) (by omega) u6 x6_1 x7_1 [.int .i64 x7_1] (fun k_ => some k_ ≠ (v302 : Value).ownBlock) (fun _ => False) rfl rfl ?aP (fun _ hk => hk.elim) ?aF ?aO ?aB ?aS ?aL ?_; (case aP => exact rfl); (case aB => exact (by repeat (first | (with_reducible first | exact HB.out | apply below_alloc | apply pw_below_drewN | apply below_drew1) | exact HB.out))); (case aF => exact (fun k_ hk => Kd.fresh' (Kd.R_lt (by (with_reducible repeat (first | apply Kd.R_alloc | apply Kd.R_drewN | apply Kd.R_drew)); exact HO_5.out)) k_ hk)); (case aO => exact (by (with_reducible repeat (first | apply Kd.R_alloc | apply Kd.R_drewN | apply Kd.R_drew)); exact HO_6.out)); (case aS => exact (below_size (by repeat (first | (with_reducible first | exact HB.out | apply below_alloc | apply pw_below_drewN | apply below_drew1) | exact HB.out)))); (case aL => have := LMc8.out; omega); intro v308 w9 ho hb hg hat; rw [← Ny307.out] at ho; have n0_ := Aside0.mk (Kd.R_after (ok := (fun _ => True)) (by (with_reducible repeat (first | apply Kd.R_alloc | apply Kd.R_drewN | apply Kd.R_drew)); exact Kd.R_mono HO_5.out (fun _ hk => ⟨trivial, hk⟩)) hg hat); have n1_ := Aside0.mk (hb); have n2_ := Aside0.mk (ho); clear HO_5; clear HB; clear HO_6; have HO_5 := n0_; have HB := n1_; have HO309 := n2_; clear n0_ n1_ n2_; clear ho hb hg hat)))
          go_roundg k1
          case measure => have := HK1.out; omega
          case rel => exact ⟨(y307), (wrap64 (x7_1 + 1)), (by first | rfl | (simp; done) | (simp [*]; done)), H', ⟨by have := HK1.out; omega⟩, ⟨by (with_reducible repeat (first | apply Kd.R_alloc | apply Kd.R_drewN | apply Kd.R_drew)); exact Kd.R_mono HO_5.out (fun _ hk => hk.2)⟩, ⟨by (with_reducible repeat (first | apply Kd.R_alloc | apply Kd.R_drewN | apply Kd.R_drew)); exact HO309.out⟩, ⟨by repeat (first | (with_reducible first | exact HB.out | apply below_alloc | apply pw_below_drewN | apply below_drew1) | exact HB.out)⟩⟩
        · rw [if_neg c8] at H
          exact absurd H (by simp)
      · rw [if_neg c7] at H
        have c7b0 : decide (x7_1 < a1) = false := decide_eq_false c7
        clear c7
        have H' := Aside0.mk H
        clear H
        go_wp2
        repeat (go_quiet (fail); try go_wp2)
        go_loopg [5, 8] k1 (fun kq v5 v8 w' => ∃ (x5_2 : List Int) (x8_2 : Int), v8 = .int .i64 x8_2 ∧ Aside0 (smaltoref03_Apart.l1 kq l0 a1 x5_2 x6_1 x8_2 = some r) ∧ Aside0 (kq ≤ k1) ∧ Aside0 (Kd.R (Kd.int .i64) 3 w' w.heap.size (fun k_ => some k_ ≠ (u6 : Value).ownBlock) v5 x5_2) ∧ Aside0 (Kd.R (Kd.int .i64) 3 w' w.heap.size (fun k_ => some k_ ≠ (v5 : Value).ownBlock) u6 x6_1) ∧ Aside0 (Below w.heap.size w w'))
        case atStart => exact ⟨(y301), (1), (by first | rfl | (simp; done) | (simp [*]; done)), H', ⟨Nat.le_refl _⟩, ⟨by (with_reducible repeat (first | apply Kd.R_alloc | apply Kd.R_drewN | apply Kd.R_drew)); exact HO_5.out⟩, ⟨by (with_reducible repeat (first | apply Kd.R_alloc | apply Kd.R_drewN | apply Kd.R_drew)); exact HO_6.out⟩, ⟨by repeat (first | (with_reducible first | exact HB.out | apply below_alloc | apply pw_below_drewN | apply below_drew1) | exact HB.out)⟩⟩
        case round =>
          clear H'
          try clear p2
          try clear c3
          try clear p6
          try clear c7
          try clear c7b0
          try clear c8
          try clear p2
          obtain ⟨x5_2, x8_2, rfl, HA, HK2, HO_5, HO_6, HB⟩ := hrel
          cases gk with
          | zero => exact absurd HA.out (by simp [smaltoref03_Apart.l1])
          | succ k2 =>
            have H := HA.out
            clear HA
            simp only [smaltoref03_Apart.l1] at H
            obtain ⟨ji10, hji10⟩ : ∃ j_ : Int, (IntKind.u64.wrap (a1)) = j_ := ⟨_, rfl⟩
            replace H : (if 0 ≤ (ji10) then (if x8_2 < (shl .i64 1 (ji10)) then ((smaltoref03_Numbers.f k2 x6_1 x8_2).bind fun t310 => (smaltoref03_Apart.l2 k2 l0 a1 x5_2 x6_1 x8_2 t310 true 0)) else (some x5_2)) else (none)) = some r := by first | (rw [hji10] at H; exact H) | (simp only [hji10] at H ⊢; exact H)
            by_cases c11 : 0 ≤ (ji10)
            · rw [if_pos c11] at H
              have c11b0 := eq_true c11
              have c11b1 : decide (0 ≤ (ji10)) = true := decide_eq_true c11
              clear c11
              obtain ⟨ji12, hji12⟩ : ∃ j_ : Int, (shl .i64 1 (ji10)) = j_ := ⟨_, rfl⟩
              replace H : (if x8_2 < (ji12) then ((smaltoref03_Numbers.f k2 x6_1 x8_2).bind fun t310 => (smaltoref03_Apart.l2 k2 l0 a1 x5_2 x6_1 x8_2 t310 true 0)) else (some x5_2)) = some r := by first | (rw [hji12] at H; exact H) | (simp only [hji12] at H ⊢; exact H)
              have hji12_ : (IntKind.i64.wrap (1 * 2 ^ min (ji10).toNat 64)) = ji12 := hji12
              have hji12z : (ji10) ≤ 64 → (IntKind.i64.wrap (1 * 2 ^ (ji10).toNat)) = ji12 := shl_small hji12
              have hji12u : (IntKind.i64.wrap (2 ^ min (ji10).toNat 64)) = ji12 := by have h_ := hji12_; rw [Int.one_mul] at h_; exact h_
              have hji12v : (ji10) ≤ 64 → (IntKind.i64.wrap (2 ^ (ji10).toNat)) = ji12 := fun hle_ => by have h_ := hji12z hle_; rw [Int.one_mul] at h_; exact h_
              have hji12y : (wrap64 (1 * 2 ^ min (ji10).toNat 64)) = ji12 := (i64_w _).symm.trans hji12_
              have hji12x : (ji10) ≤ 64 → (wrap64 (1 * 2 ^ (ji10).toNat)) = ji12 := fun h_ => (i64_w _).symm.trans (hji12z h_)
              by_cases c13 : x8_2 < (ji12)
              · rw [if_pos c13] at H
                have c13b0 : decide (x8_2 < (ji12)) = true := decide_eq_true c13
                clear c13
                replace H := Option.bind_eq_some_iff.mp H
                obtain ⟨t310, A140, H⟩ := H
                replace H : (smaltoref03_Apart.l2 k2 l0 a1 x5_2 x6_1 x8_2 t310 true 0) = some r := H
                have A14 := Aside0.mk A140
                clear A140
                have H' := Aside0.mk H
                clear H
                obtain ⟨Ao15, co15, eo15⟩ := Kd.R_slice HO_6.out
                subst eo15
                go_wp2_with (first | (go_at_call 71; (with_reducible refine (smaltoref03_Numbers.calls k2 _ _ x6_1 x8_2 t310 _ ?side1 ?side2 A14.out).mono ?_); (case side1 => repeat (first | exact (Kd.R_reads' HO_6.out).2.2 | (with_reducible refine Kd.C_alloc ?_ _) | (with_reducible refine Kd.C_drewN ?_ _) | (with_reducible refine Kd.C_drew ?_))); (case side2 => exact (Kd.R_reads' HO_6.out).2.1); rintro e w16 ⟨v311, rfl, ho0, hb⟩; have n0_ := Aside0.mk (Kd.R_elder' (by (with_reducible repeat (first | apply Kd.R_alloc | apply Kd.R_drewN | apply Kd.R_drew)); exact HO_5.out) (Kd.R_base ho0) hb); have n1_ := Aside0.mk (Kd.R_elder' (by (with_reducible repeat (first | apply Kd.R_alloc | apply Kd.R_drewN | apply Kd.R_drew)); exact HO_6.out) (Kd.R_base ho0) hb); have n2_ := Aside0.mk (Kd.R_lower (Kd.R_new' (Kd.R_new' ho0 (Kd.R_lt (by (with_reducible repeat (first | apply Kd.R_alloc | apply Kd.R_drewN | apply Kd.R_drew)); exact HO_5.out))) (Kd.R_lt (by (with_reducible repeat (first | apply Kd.R_alloc | apply Kd.R_drewN | apply Kd.R_drew)); exact HO_6.out))) (below_size (by repeat (first | (with_reducible first | exact HB.out | apply below_alloc | apply pw_below_drewN | apply below_drew1) | exact HB.out)))); have n3_ := Aside0.mk (below_step (by repeat (first | (with_reducible first | exact HB.out | apply below_alloc | apply pw_below_drewN | apply below_drew1) | exact HB.out)) hb); clear HO_5; clear HO_6; clear HB; have HO_5 := n0_; have HO_6 := n1_; have HO312 := n2_; have HB := n3_; clear n0_ n1_ n2_ n3_; (try clear hb); (try clear hb2); (try clear hk); (try clear hi); (try clear ho0)))
                repeat (go_quiet (first | (go_at_call 71; (with_reducible refine (smaltoref03_Numbers.calls k2 _ _ x6_1 x8_2 t310 _ ?side1 ?side2 A14.out).mono ?_); (case side1 => repeat (first | exact (Kd.R_reads' HO_6.out).2.2 | (with_reducible refine Kd.C_alloc ?_ _) | (with_reducible refine Kd.C_drewN ?_ _) | (with_reducible refine Kd.C_drew ?_))); (case side2 => exact (Kd.R_reads' HO_6.out).2.1); rintro e w16 ⟨v311, rfl, ho0, hb⟩; have n0_ := Aside0.mk (Kd.R_elder' (by (with_reducible repeat (first | apply Kd.R_alloc | apply Kd.R_drewN | apply Kd.R_drew)); exact HO_5.out) (Kd.R_base ho0) hb); have n1_ := Aside0.mk (Kd.R_elder' (by (with_reducible repeat (first | apply Kd.R_alloc | apply Kd.R_drewN | apply Kd.R_drew)); exact HO_6.out) (Kd.R_base ho0) hb); have n2_ := Aside0.mk (Kd.R_lower (Kd.R_new' (Kd.R_new' ho0 (Kd.R_lt (by (with_reducible repeat (first | apply Kd.R_alloc | apply Kd.R_drewN | apply Kd.R_drew)); exact HO_5.out))) (Kd.R_lt (by (with_reducible repeat (first | apply Kd.R_alloc | apply Kd.R_drewN | apply Kd.R_drew)); exact HO_6.out))) (below_size (by repeat (first | (with_reducible first | exact HB.out | apply below_alloc | apply pw_below_drewN | apply below_drew1) | exact HB.out)))); have n3_ := Aside0.mk (below_step (by repeat (first | (with_reducible first | exact HB.out | apply below_alloc | apply pw_below_drewN | apply below_drew1) | exact HB.out)) hb); clear HO_5; clear HO_6; clear HB; have HO_5 := n0_; have HO_6 := n1_; have HO312 := n2_; have HB := n3_; clear n0_ n1_ n2_ n3_; (try clear hb); (try clear hb2); (try clear hk); (try clear hi); (try clear ho0))); try go_wp2_with (first | (go_at_call 71; (with_reducible refine (smaltoref03_Numbers.calls k2 _ _ x6_1 x8_2 t310 _ ?side1 ?side2 A14.out).mono ?_); (case side1 => repeat (first | exact (Kd.R_reads' HO_6.out).2.2 | (with_reducible refine Kd.C_alloc ?_ _) | (with_reducible refine Kd.C_drewN ?_ _) | (with_reducible refine Kd.C_drew ?_))); (case side2 => exact (Kd.R_reads' HO_6.out).2.1); rintro e w16 ⟨v311, rfl, ho0, hb⟩; have n0_ := Aside0.mk (Kd.R_elder' (by (with_reducible repeat (first | apply Kd.R_alloc | apply Kd.R_drewN | apply Kd.R_drew)); exact HO_5.out) (Kd.R_base ho0) hb); have n1_ := Aside0.mk (Kd.R_elder' (by (with_reducible repeat (first | apply Kd.R_alloc | apply Kd.R_drewN | apply Kd.R_drew)); exact HO_6.out) (Kd.R_base ho0) hb); have n2_ := Aside0.mk (Kd.R_lower (Kd.R_new' (Kd.R_new' ho0 (Kd.R_lt (by (with_reducible repeat (first | apply Kd.R_alloc | apply Kd.R_drewN | apply Kd.R_drew)); exact HO_5.out))) (Kd.R_lt (by (with_reducible repeat (first | apply Kd.R_alloc | apply Kd.R_drewN | apply Kd.R_drew)); exact HO_6.out))) (below_size (by repeat (first | (with_reducible first | exact HB.out | apply below_alloc | apply pw_below_drewN | apply below_drew1) | exact HB.out)))); have n3_ := Aside0.mk (below_step (by repeat (first | (with_reducible first | exact HB.out | apply below_alloc | apply pw_below_drewN | apply below_drew1) | exact HB.out)) hb); clear HO_5; clear HO_6; clear HB; have HO_5 := n0_; have HO_6 := n1_; have HO312 := n2_; have HB := n3_; clear n0_ n1_ n2_ n3_; (try clear hb); (try clear hb2); (try clear hk); (try clear hi); (try clear ho0))))
                go_loopg [10, 11] k2 (fun kq v10 v11 w' => ∃ (x10_3 : Bool) (x11_3 : Int), v10 = .bool x10_3 ∧ v11 = .int .i64 x11_3 ∧ Aside0 (smaltoref03_Apart.l2 kq l0 a1 x5_2 x6_1 x8_2 t310 x10_3 x11_3 = some r) ∧ Aside0 (kq ≤ k2) ∧ Aside0 (Kd.R (Kd.int .i64) 3 w' w.heap.size (fun k_ => some k_ ≠ ((.slice Ao15 x6_1.length co15) : Value).ownBlock ∧ some k_ ≠ (v311 : Value).ownBlock) u5 x5_2) ∧ Aside0 (Kd.R (Kd.int .i64) 3 w' w.heap.size (fun k_ => some k_ ≠ (u5 : Value).ownBlock ∧ some k_ ≠ (v311 : Value).ownBlock) (.slice Ao15 x6_1.length co15) x6_1) ∧ Aside0 (Kd.R (Kd.int .i64) 3 w' w.heap.size (fun k_ => some k_ ≠ (u5 : Value).ownBlock ∧ some k_ ≠ ((.slice Ao15 x6_1.length co15) : Value).ownBlock) v311 t310) ∧ Aside0 (Below w.heap.size w w'))
                case atStart => exact ⟨(true), (0), (by first | rfl | (simp; done) | (simp [*]; done)), (by first | rfl | (simp; done) | (simp [*]; done)), H', ⟨Nat.le_refl _⟩, ⟨by (with_reducible repeat (first | apply Kd.R_alloc | apply Kd.R_drewN | apply Kd.R_drew)); exact HO_5.out⟩, ⟨by (with_reducible repeat (first | apply Kd.R_alloc | apply Kd.R_drewN | apply Kd.R_drew)); exact HO_6.out⟩, ⟨by (with_reducible repeat (first | apply Kd.R_alloc | apply Kd.R_drewN | apply Kd.R_drew)); exact Kd.R_mono HO312.out (fun _ hk => ⟨hk.1.2, hk.2⟩)⟩, ⟨by repeat (first | (with_reducible first | exact HB.out | apply below_alloc | apply pw_below_drewN | apply below_drew1) | exact HB.out)⟩⟩
                case round =>
                  clear H'
                  try clear c1
                  try clear p2
                  try clear c3
                  try clear p6
                  try clear c7
                  try clear c7b0
                  try clear c8
                  try clear c11
                  try clear c11b0
                  try clear c11b1
                  try clear c13
                  try clear c13b0
                  try clear p2
                  try clear p6
                  obtain ⟨x10_3, x11_3, rfl, rfl, HA, HK3, HO_5, HO_6, HO_9, HB⟩ := hrel
                  cases gk with
                  | zero => exact absurd HA.out (by simp [smaltoref03_Apart.l2])
                  | succ k3 =>
                    have H := HA.out
                    clear HA
                    simp only [smaltoref03_Apart.l2] at H
                    by_cases c17 : x11_3 < (t310.length : Int)
                    · rw [if_pos c17] at H
                      have c17b0 : decide (x11_3 < (t310.length : Int)) = true := decide_eq_true c17
                      clear c17
                      have H' := Aside0.mk H
                      clear H
                      obtain ⟨Ao18, co18, eo18⟩ := Kd.R_slice HO_9.out
                      subst eo18
                      go_wp2
                      repeat (go_quiet (fail); try go_wp2)
                      go_loopg [10, 12] k3 (fun kq v10 v12 w' => ∃ (x10_4 : Bool) (x12_4 : Int), v10 = .bool x10_4 ∧ v12 = .int .i64 x12_4 ∧ Aside0 (smaltoref03_Apart.l3 kq l0 a1 x5_2 x6_1 x8_2 t310 x10_4 x11_3 x12_4 = some r) ∧ Aside0 (kq ≤ k3) ∧ Aside0 (Kd.R (Kd.int .i64) 3 w' w.heap.size (fun k_ => some k_ ≠ ((.slice Ao15 x6_1.length co15) : Value).ownBlock ∧ some k_ ≠ ((.slice Ao18 t310.length co18) : Value).ownBlock) u5 x5_2) ∧ Aside0 (Kd.R (Kd.int .i64) 3 w' w.heap.size (fun k_ => some k_ ≠ (u5 : Value).ownBlock ∧ some k_ ≠ ((.slice Ao18 t310.length co18) : Value).ownBlock) (.slice Ao15 x6_1.length co15) x6_1) ∧ Aside0 (Kd.R (Kd.int .i64) 3 w' w.heap.size (fun k_ => some k_ ≠ (u5 : Value).ownBlock ∧ some k_ ≠ ((.slice Ao15 x6_1.length co15) : Value).ownBlock) (.slice Ao18 t310.length co18) t310) ∧ Aside0 (Below w.heap.size w w'))
                      case atStart => exact ⟨(x10_3), (0), (by first | rfl | (simp; done) | (simp [*]; done)), (by first | rfl | (simp; done) | (simp [*]; done)), H', ⟨Nat.le_refl _⟩, ⟨by (with_reducible repeat (first | apply Kd.R_alloc | apply Kd.R_drewN | apply Kd.R_drew)); exact HO_5.out⟩, ⟨by (with_reducible repeat (first | apply Kd.R_alloc | apply Kd.R_drewN | apply Kd.R_drew)); exact HO_6.out⟩, ⟨by (with_reducible repeat (first | apply Kd.R_alloc | apply Kd.R_drewN | apply Kd.R_drew)); exact HO_9.out⟩, ⟨by repeat (first | (with_reducible first | exact HB.out | apply below_alloc | apply pw_below_drewN | apply below_drew1) | exact HB.out)⟩⟩
                      case round =>
                        clear H'
                        try clear c1
                        try clear p2
                        try clear c3
                        try clear p6
                        try clear c7
                        try clear c7b0
                        try clear c8
                        try clear c11
                        try clear c11b0
                        try clear c11b1
                        try clear c13
                        try clear c13b0
                        try clear c17
                        try clear c17b0
                        try clear p2
                        try clear p6
                        obtain ⟨x10_4, x12_4, rfl, rfl, HA, HK4, HO_5, HO_6, HO_9, HB⟩ := hrel
                        cases gk with
                        | zero => exact absurd HA.out (by simp [smaltoref03_Apart.l3])
                        | succ k4 =>
                          have H := HA.out
                          clear HA
                          simp only [smaltoref03_Apart.l3] at H
                          by_cases c19 : x12_4 < x11_3
                          · rw [if_pos c19] at H
                            have c19b0 : decide (x12_4 < x11_3) = true := decide_eq_true c19
                            clear c19
                            by_cases c20 : x10_4 = true
                            · subst c20
                              have H1 : (if 0 ≤ x11_3 then (if x11_3 < (t310.length : Int) then (if 0 ≤ (IntKind.u64.wrap (rd t310 x11_3)) then (if 0 ≤ x12_4 then (if x12_4 < (t310.length : Int) then (if 0 ≤ (IntKind.u64.wrap (rd t310 x12_4)) then (if 0 ≤ (wrap64 ((shl .i64 1 (IntKind.u64.wrap (rd t310 x11_3))) + (shl .i64 1 (IntKind.u64.wrap (rd t310 x12_4))))) then (if (wrap64 ((shl .i64 1 (IntKind.u64.wrap (rd t310 x11_3))) + (shl .i64 1 (IntKind.u64.wrap (rd t310 x12_4))))) < (l0.length : Int) then (smaltoref03_Apart.l3 k4 l0 a1 x5_2 x6_1 x8_2 t310 (!(rdOf false l0 (wrap64 ((shl .i64 1 (IntKind.u64.wrap (rd t310 x11_3))) + (shl .i64 1 (IntKind.u64.wrap (rd t310 x12_4))))))) x11_3 (wrap64 (x12_4 + 1))) else (none)) else (none)) else (none)) else (none)) else (none)) else (none)) else (none)) else (none)) = some r := by rw [if_pos rfl] at H; exact H
                              clear H
                              have H := H1
                              clear H1
                              by_cases c21 : 0 ≤ x11_3
                              · rw [if_pos c21] at H
                                have c21b0 : decide (0 ≤ x11_3) = true := decide_eq_true c21
                                clear c21
                                by_cases c22 : x11_3 < (t310.length : Int)
                                · rw [if_pos c22] at H
                                  have c22b0 : decide (x11_3 < (t310.length : Int)) = true := decide_eq_true c22
                                  clear c22
                                  obtain ⟨ji23, hji23⟩ : ∃ j_ : Int, (IntKind.u64.wrap (rd t310 x11_3)) = j_ := ⟨_, rfl⟩
                                  replace H : (if 0 ≤ (ji23) then (if 0 ≤ x12_4 then (if x12_4 < (t310.length : Int) then (if 0 ≤ (IntKind.u64.wrap (rd t310 x12_4)) then (if 0 ≤ (wrap64 ((shl .i64 1 (ji23)) + (shl .i64 1 (IntKind.u64.wrap (rd t310 x12_4))))) then (if (wrap64 ((shl .i64 1 (ji23)) + (shl .i64 1 (IntKind.u64.wrap (rd t310 x12_4))))) < (l0.length : Int) then (smaltoref03_Apart.l3 k4 l0 a1 x5_2 x6_1 x8_2 t310 (!(rdOf false l0 (wrap64 ((shl .i64 1 (ji23)) + (shl .i64 1 (IntKind.u64.wrap (rd t310 x12_4))))))) x11_3 (wrap64 (x12_4 + 1))) else (none)) else (none)) else (none)) else (none)) else (none)) else (none)) = some r := by first | (rw [hji23] at H; exact H) | (simp only [hji23] at H ⊢; exact H)
                                  by_cases c24 : 0 ≤ (ji23)
                                  · rw [if_pos c24] at H
                                    have c24b0 := eq_true c24
                                    have c24b1 : decide (0 ≤ (ji23)) = true := decide_eq_true c24
                                    clear c24
                                    obtain ⟨ji25, hji25⟩ : ∃ j_ : Int, (shl .i64 1 (ji23)) = j_ := ⟨_, rfl⟩
                                    replace H : (if 0 ≤ x12_4 then (if x12_4 < (t310.length : Int) then (if 0 ≤ (IntKind.u64.wrap (rd t310 x12_4)) then (if 0 ≤ (wrap64 ((ji25) + (shl .i64 1 (IntKind.u64.wrap (rd t310 x12_4))))) then (if (wrap64 ((ji25) + (shl .i64 1 (IntKind.u64.wrap (rd t310 x12_4))))) < (l0.length : Int) then (smaltoref03_Apart.l3 k4 l0 a1 x5_2 x6_1 x8_2 t310 (!(rdOf false l0 (wrap64 ((ji25) + (shl .i64 1 (IntKind.u64.wrap (rd t310 x12_4))))))) x11_3 (wrap64 (x12_4 + 1))) else (none)) else (none)) else (none)) else (none)) else (none)) = some r := by first | (rw [hji25] at H; exact H) | (simp only [hji25] at H ⊢; exact H)
                                    have hji25_ : (IntKind.i64.wrap (1 * 2 ^ min (ji23).toNat 64)) = ji25 := hji25
                                    have hji25z : (ji23) ≤ 64 → (IntKind.i64.wrap (1 * 2 ^ (ji23).toNat)) = ji25 := shl_small hji25
                                    have hji25u : (IntKind.i64.wrap (2 ^ min (ji23).toNat 64)) = ji25 := by have h_ := hji25_; rw [Int.one_mul] at h_; exact h_
                                    have hji25v : (ji23) ≤ 64 → (IntKind.i64.wrap (2 ^ (ji23).toNat)) = ji25 := fun hle_ => by have h_ := hji25z hle_; rw [Int.one_mul] at h_; exact h_
                                    have hji25y : (wrap64 (1 * 2 ^ min (ji23).toNat 64)) = ji25 := (i64_w _).symm.trans hji25_
                                    have hji25x : (ji23) ≤ 64 → (wrap64 (1 * 2 ^ (ji23).toNat)) = ji25 := fun h_ => (i64_w _).symm.trans (hji25z h_)
                                    by_cases c26 : 0 ≤ x12_4
                                    · rw [if_pos c26] at H
                                      have c26b0 : decide (0 ≤ x12_4) = true := decide_eq_true c26
                                      clear c26
                                      by_cases c27 : x12_4 < (t310.length : Int)
                                      · rw [if_pos c27] at H
                                        have c27b0 : decide (x12_4 < (t310.length : Int)) = true := decide_eq_true c27
                                        clear c27
                                        obtain ⟨ji28, hji28⟩ : ∃ j_ : Int, (IntKind.u64.wrap (rd t310 x12_4)) = j_ := ⟨_, rfl⟩
                                        replace H : (if 0 ≤ (ji28) then (if 0 ≤ (wrap64 ((ji25) + (shl .i64 1 (ji28)))) then (if (wrap64 ((ji25) + (shl .i64 1 (ji28)))) < (l0.length : Int) then (smaltoref03_Apart.l3 k4 l0 a1 x5_2 x6_1 x8_2 t310 (!(rdOf false l0 (wrap64 ((ji25) + (shl .i64 1 (ji28)))))) x11_3 (wrap64 (x12_4 + 1))) else (none)) else (none)) else (none)) = some r := by first | (rw [hji28] at H; exact H) | (simp only [hji28] at H ⊢; exact H)
                                        by_cases c29 : 0 ≤ (ji28)
                                        · rw [if_pos c29] at H
                                          have c29b0 := eq_true c29
                                          have c29b1 : decide (0 ≤ (ji28)) = true := decide_eq_true c29
                                          clear c29
                                          obtain ⟨ji30, hji30⟩ : ∃ j_ : Int, (shl .i64 1 (ji28)) = j_ := ⟨_, rfl⟩
                                          replace H : (if 0 ≤ (wrap64 ((ji25) + (ji30))) then (if (wrap64 ((ji25) + (ji30))) < (l0.length : Int) then (smaltoref03_Apart.l3 k4 l0 a1 x5_2 x6_1 x8_2 t310 (!(rdOf false l0 (wrap64 ((ji25) + (ji30))))) x11_3 (wrap64 (x12_4 + 1))) else (none)) else (none)) = some r := by first | (rw [hji30] at H; exact H) | (simp only [hji30] at H ⊢; exact H)
                                          have hji30_ : (IntKind.i64.wrap (1 * 2 ^ min (ji28).toNat 64)) = ji30 := hji30
                                          have hji30z : (ji28) ≤ 64 → (IntKind.i64.wrap (1 * 2 ^ (ji28).toNat)) = ji30 := shl_small hji30
                                          have hji30u : (IntKind.i64.wrap (2 ^ min (ji28).toNat 64)) = ji30 := by have h_ := hji30_; rw [Int.one_mul] at h_; exact h_
                                          have hji30v : (ji28) ≤ 64 → (IntKind.i64.wrap (2 ^ (ji28).toNat)) = ji30 := fun hle_ => by have h_ := hji30z hle_; rw [Int.one_mul] at h_; exact h_
                                          have hji30y : (wrap64 (1 * 2 ^ min (ji28).toNat 64)) = ji30 := (i64_w _).symm.trans hji30_
                                          have hji30x : (ji28) ≤ 64 → (wrap64 (1 * 2 ^ (ji28).toNat)) = ji30 := fun h_ => (i64_w _).symm.trans (hji30z h_)
                                          obtain ⟨ji31, hji31⟩ : ∃ j_ : Int, (wrap64 ((ji25) + (ji30))) = j_ := ⟨_, rfl⟩
                                          replace H : (if 0 ≤ (ji31) then (if (ji31) < (l0.length : Int) then (smaltoref03_Apart.l3 k4 l0 a1 x5_2 x6_1 x8_2 t310 (!(rdOf false l0 (ji31))) x11_3 (wrap64 (x12_4 + 1))) else (none)) else (none)) = some r := by first | (rw [hji31] at H; exact H) | (simp only [hji31] at H ⊢; exact H)
                                          have hji31w : (IntKind.i64.wrap ((ji25) + (ji30))) = ji31 := (i64_w _).trans hji31
                                          by_cases c32 : 0 ≤ (ji31)
                                          · rw [if_pos c32] at H
                                            have c32b0 : decide (0 ≤ (ji31)) = true := decide_eq_true c32
                                            clear c32
                                            by_cases c33 : (ji31) < (l0.length : Int)
                                            · rw [if_pos c33] at H
                                              have c33b0 : decide ((ji31) < (l0.length : Int)) = true := decide_eq_true c33
                                              clear c33
                                              have H' := Aside0.mk H
                                              clear H
                                              have p314 : 0 ≤ (x11_3 : Int) := of_decide_eq_true (by first | (with_reducible assumption) | assumption)
                                              have q314 : x11_3 < (t310.length : Int) := of_decide_eq_true (by first | (with_reducible assumption) | assumption)
                                              obtain ⟨ad314, e314, hx314_0⟩ := Kd.at_int (Kd.R_reads' HO_9.out).2.2 x11_3 p314 q314
                                              cases e314
                                              replace p314 := eq_true p314
                                              replace q314 := eq_true q314
                                              have p315 : 0 ≤ (x12_4 : Int) := of_decide_eq_true (by first | (with_reducible assumption) | assumption)
                                              have q315 : x12_4 < (t310.length : Int) := of_decide_eq_true (by first | (with_reducible assumption) | assumption)
                                              obtain ⟨ad315, e315, hx315_0⟩ := Kd.at_int (Kd.R_reads' HO_9.out).2.2 x12_4 p315 q315
                                              obtain rfl : ad314 = ad315 := (by injection e315)
                                              replace p315 := eq_true p315
                                              replace q315 := eq_true q315
                                              have p316 : 0 ≤ ((ji31) : Int) := of_decide_eq_true (by first | (with_reducible assumption) | assumption)
                                              have q316 : (ji31) < (l0.length : Int) := of_decide_eq_true (by first | (with_reducible assumption) | assumption)
                                              obtain ⟨ad316, e316, hx316_0⟩ := Kd.at_bool HR0.out (ji31) p316 q316
                                              cases e316
                                              replace hx316_0 := (HB.out.cell (World.block_lt_of_cell? w _ hx316_0)).trans hx316_0
                                              replace p316 := eq_true p316
                                              replace q316 := eq_true q316
                                              go_wp2
                                              repeat (go_quiet (fail); try go_wp2)
                                              go_roundg k4
                                              case measure => have := HK1.out; have := HK2.out; have := HK3.out; have := HK4.out; omega
                                              case rel => exact ⟨(!(rdOf false l0 (ji31))), (wrap64 (x12_4 + 1)), (by first | rfl | (simp; done) | (simp only [← hji31] <;> (first | rfl | simp)) | (simp [*]; done)), (by first | rfl | (simp; done) | (simp [*]; done)), H', ⟨by have := HK1.out; have := HK2.out; have := HK3.out; have := HK4.out; omega⟩, ⟨by (with_reducible repeat (first | apply Kd.R_alloc | apply Kd.R_drewN | apply Kd.R_drew)); exact HO_5.out⟩, ⟨by (with_reducible repeat (first | apply Kd.R_alloc | apply Kd.R_drewN | apply Kd.R_drew)); exact HO_6.out⟩, ⟨by (with_reducible repeat (first | apply Kd.R_alloc | apply Kd.R_drewN | apply Kd.R_drew)); exact HO_9.out⟩, ⟨by repeat (first | (with_reducible first | exact HB.out | apply below_alloc | apply pw_below_drewN | apply below_drew1) | exact HB.out)⟩⟩
                                            · rw [if_neg c33] at H
                                              exact absurd H (by simp)
                                          · rw [if_neg c32] at H
                                            exact absurd H (by simp)
                                        · rw [if_neg c29] at H
                                          exact absurd H (by simp)
                                      · rw [if_neg c27] at H
                                        exact absurd H (by simp)
                                    · rw [if_neg c26] at H
                                      exact absurd H (by simp)
                                  · rw [if_neg c24] at H
                                    exact absurd H (by simp)
                                · rw [if_neg c22] at H
                                  exact absurd H (by simp)
                              · rw [if_neg c21] at H
                                exact absurd H (by simp)
                            · replace c20 := Bool.eq_false_iff.mpr c20
                              subst c20
                              have H1 : (smaltoref03_Apart.l3 k4 l0 a1 x5_2 x6_1 x8_2 t310 false x11_3 (wrap64 (x12_4 + 1))) = some r := by rw [if_neg (show ¬ (false = true) by decide)] at H; exact H
                              clear H
                              have H := H1
                              clear H1
                              have H' := Aside0.mk H
                              clear H
                              go_wp2
                              repeat (go_quiet (fail); try go_wp2)
                              go_roundg k4
                              case measure => have := HK1.out; have := HK2.out; have := HK3.out; have := HK4.out; omega
                              case rel => exact ⟨(false), (wrap64 (x12_4 + 1)), (by first | rfl | (simp; done) | (simp [*]; done)), (by first | rfl | (simp; done) | (simp [*]; done)), H', ⟨by have := HK1.out; have := HK2.out; have := HK3.out; have := HK4.out; omega⟩, ⟨by (with_reducible repeat (first | apply Kd.R_alloc | apply Kd.R_drewN | apply Kd.R_drew)); exact HO_5.out⟩, ⟨by (with_reducible repeat (first | apply Kd.R_alloc | apply Kd.R_drewN | apply Kd.R_drew)); exact HO_6.out⟩, ⟨by (with_reducible repeat (first | apply Kd.R_alloc | apply Kd.R_drewN | apply Kd.R_drew)); exact HO_9.out⟩, ⟨by repeat (first | (with_reducible first | exact HB.out | apply below_alloc | apply pw_below_drewN | apply below_drew1) | exact HB.out)⟩⟩
                          · rw [if_neg c19] at H
                            have c19b0 : decide (x12_4 < x11_3) = false := decide_eq_false c19
                            clear c19
                            have H' := Aside0.mk H
                            clear H
                            go_wp2
                            repeat (go_quiet (fail); try go_wp2)
                            go_roundg k4
                            case measure => have := HK1.out; have := HK2.out; have := HK3.out; have := HK4.out; omega
                            case rel => exact ⟨(x10_4), (wrap64 (x11_3 + 1)), (by first | rfl | (simp; done) | (simp [*]; done)), (by first | rfl | (simp; done) | (simp [*]; done)), H', ⟨by have := HK1.out; have := HK2.out; have := HK3.out; have := HK4.out; omega⟩, ⟨by (with_reducible repeat (first | apply Kd.R_alloc | apply Kd.R_drewN | apply Kd.R_drew)); exact HO_5.out⟩, ⟨by (with_reducible repeat (first | apply Kd.R_alloc | apply Kd.R_drewN | apply Kd.R_drew)); exact HO_6.out⟩, ⟨by (with_reducible repeat (first | apply Kd.R_alloc | apply Kd.R_drewN | apply Kd.R_drew)); exact HO_9.out⟩, ⟨by repeat (first | (with_reducible first | exact HB.out | apply below_alloc | apply pw_below_drewN | apply below_drew1) | exact HB.out)⟩⟩
                    · rw [if_neg c17] at H
                      have c17b0 : decide (x11_3 < (t310.length : Int)) = false := decide_eq_false c17
                      clear c17
                      by_cases c34 : x10_3 = true
                      · subst c34
                        have H1 : (if (t310.length : Int) > (x5_2.length : Int) then (smaltoref03_Apart.l1 k3 l0 a1 t310 x6_1 (wrap64 (x8_2 + 1))) else (if (t310.length : Int) = (x5_2.length : Int) then ((smaltoref03_Order.f k3 t310 x5_2).bind fun t313 => (if t313 < 0 then (smaltoref03_Apart.l1 k3 l0 a1 t310 x6_1 (wrap64 (x8_2 + 1))) else (smaltoref03_Apart.l1 k3 l0 a1 x5_2 x6_1 (wrap64 (x8_2 + 1))))) else (smaltoref03_Apart.l1 k3 l0 a1 x5_2 x6_1 (wrap64 (x8_2 + 1))))) = some r := by rw [if_pos rfl] at H; exact H
                        clear H
                        have H := H1
                        clear H1
                        by_cases c35 : (t310.length : Int) > (x5_2.length : Int)
                        · rw [if_pos c35] at H
                          have c35b0 : decide ((x5_2.length : Int) < (t310.length : Int)) = true := decide_eq_true c35
                          have c35b1 : decide (x5_2.length < t310.length) = true := decide_eq_true (Int.ofNat_lt.mp c35)
                          clear c35
                          have H' := Aside0.mk H
                          clear H
                          obtain ⟨Ao36, co36, eo36⟩ := Kd.R_slice HO_9.out
                          subst eo36
                          obtain ⟨Ao37, co37, eo37⟩ := Kd.R_slice HO_5.out
                          subst eo37
                          go_wp2
                          repeat (go_quiet (fail); try go_wp2)
                          go_roundg k3
                          case measure => have := HK1.out; have := HK2.out; have := HK3.out; omega
                          case rel => exact ⟨(t310), (wrap64 (x8_2 + 1)), (by first | rfl | (simp; done) | (simp [*]; done)), H', ⟨by have := HK1.out; have := HK2.out; have := HK3.out; omega⟩, ⟨by (with_reducible repeat (first | apply Kd.R_alloc | apply Kd.R_drewN | apply Kd.R_drew)); exact Kd.R_mono HO_9.out (fun _ hk => hk.2)⟩, ⟨by (with_reducible repeat (first | apply Kd.R_alloc | apply Kd.R_drewN | apply Kd.R_drew)); exact Kd.R_mono HO_6.out (fun _ hk => hk.2)⟩, ⟨by repeat (first | (with_reducible first | exact HB.out | apply below_alloc | apply pw_below_drewN | apply below_drew1) | exact HB.out)⟩⟩
                        · rw [if_neg c35] at H
                          have c35b0 : decide ((x5_2.length : Int) < (t310.length : Int)) = false := decide_eq_false c35
                          have c35b1 : decide (x5_2.length < t310.length) = false := decide_eq_false (fun h => c35 (Int.ofNat_lt.mpr h))
                          clear c35
                          by_cases c38 : (t310.length : Int) = (x5_2.length : Int)
                          · rw [if_pos c38] at H
                            have c38b0 : ((t310.length : Int) == (x5_2.length : Int)) = true := beq_iff_eq.mpr c38
                            have c38b1 : ((t310.length : Int) != (x5_2.length : Int)) = false := bne_eq_false_iff_eq.mpr c38
                            have c38b2 : (t310.length == x5_2.length) = true := by first | simpa using c38 | (simp at c38 ⊢; omega)
                            clear c38
                            replace H := Option.bind_eq_some_iff.mp H
                            obtain ⟨t313, A390, H⟩ := H
                            replace H : (if t313 < 0 then (smaltoref03_Apart.l1 k3 l0 a1 t310 x6_1 (wrap64 (x8_2 + 1))) else (smaltoref03_Apart.l1 k3 l0 a1 x5_2 x6_1 (wrap64 (x8_2 + 1)))) = some r := H
                            have A39 := Aside0.mk A390
                            clear A390
                            by_cases c40 : t313 < 0
                            · rw [if_pos c40] at H
                              have c40b0 : decide (t313 < 0) = true := decide_eq_true c40
                              clear c40
                              have H' := Aside0.mk H
                              clear H
                              obtain ⟨Ao41, co41, eo41⟩ := Kd.R_slice HO_9.out
                              subst eo41
                              obtain ⟨Ao42, co42, eo42⟩ := Kd.R_slice HO_5.out
                              subst eo42
                              go_wp2_with (first | (go_at_call 64; (with_reducible refine (smaltoref03_Order.calls k3 _ _ t310 _ _ x5_2 t313 _ ?side1 ?side2 ?side3 ?side4 A39.out).mono ?_); (case side1 => repeat (first | exact (Kd.R_reads' HO_9.out).2.2 | (with_reducible refine Kd.C_alloc ?_ _) | (with_reducible refine Kd.C_drewN ?_ _) | (with_reducible refine Kd.C_drew ?_))); (case side2 => exact (Kd.R_reads' HO_9.out).2.1); (case side3 => repeat (first | exact (Kd.R_reads' HO_5.out).2.2 | (with_reducible refine Kd.C_alloc ?_ _) | (with_reducible refine Kd.C_drewN ?_ _) | (with_reducible refine Kd.C_drew ?_))); (case side4 => exact (Kd.R_reads' HO_5.out).2.1); rintro e w' ⟨rfl, ⟨nd, rfl⟩⟩; (try first | exact ⟨rfl, _, World.drewN_drewN _ _ _⟩ | exact ⟨rfl, _, Eq.trans (World.drewN_drewN _ _ _) (congrArg (World.drewN _) (Nat.add_assoc _ _ _))⟩)))
                              repeat (go_quiet (first | (go_at_call 64; (with_reducible refine (smaltoref03_Order.calls k3 _ _ t310 _ _ x5_2 t313 _ ?side1 ?side2 ?side3 ?side4 A39.out).mono ?_); (case side1 => repeat (first | exact (Kd.R_reads' HO_9.out).2.2 | (with_reducible refine Kd.C_alloc ?_ _) | (with_reducible refine Kd.C_drewN ?_ _) | (with_reducible refine Kd.C_drew ?_))); (case side2 => exact (Kd.R_reads' HO_9.out).2.1); (case side3 => repeat (first | exact (Kd.R_reads' HO_5.out).2.2 | (with_reducible refine Kd.C_alloc ?_ _) | (with_reducible refine Kd.C_drewN ?_ _) | (with_reducible refine Kd.C_drew ?_))); (case side4 => exact (Kd.R_reads' HO_5.out).2.1); rintro e w' ⟨rfl, ⟨nd, rfl⟩⟩; (try first | exact ⟨rfl, _, World.drewN_drewN _ _ _⟩ | exact ⟨rfl, _, Eq.trans (World.drewN_drewN _ _ _) (congrArg (World.drewN _) (Nat.add_assoc _ _ _))⟩))); try go_wp2_with (first | (go_at_call 64; (with_reducible refine (smaltoref03_Order.calls k3 _ _ t310 _ _ x5_2 t313 _ ?side1 ?side2 ?side3 ?side4 A39.out).mono ?_); (case side1 => repeat (first | exact (Kd.R_reads' HO_9.out).2.2 | (with_reducible refine Kd.C_alloc ?_ _) | (with_reducible refine Kd.C_drewN ?_ _) | (with_reducible refine Kd.C_drew ?_))); (case side2 => exact (Kd.R_reads' HO_9.out).2.1); (case side3 => repeat (first | exact (Kd.R_reads' HO_5.out).2.2 | (with_reducible refine Kd.C_alloc ?_ _) | (with_reducible refine Kd.C_drewN ?_ _) | (with_reducible refine Kd.C_drew ?_))); (case side4 => exact (Kd.R_reads' HO_5.out).2.1); rintro e w' ⟨rfl, ⟨nd, rfl⟩⟩; (try first | exact ⟨rfl, _, World.drewN_drewN _ _ _⟩ | exact ⟨rfl, _, Eq.trans (World.drewN_drewN _ _ _) (congrArg (World.drewN _) (Nat.add_assoc _ _ _))⟩))))
                              go_roundg k3
                              case measure => have := HK1.out; have := HK2.out; have := HK3.out; omega
                              case rel => exact ⟨(t310), (wrap64 (x8_2 + 1)), (by first | rfl | (simp; done) | (simp [*]; done)), H', ⟨by have := HK1.out; have := HK2.out; have := HK3.out; omega⟩, ⟨by (with_reducible repeat (first | apply Kd.R_alloc | apply Kd.R_drewN | apply Kd.R_drew)); exact Kd.R_mono HO_9.out (fun _ hk => hk.2)⟩, ⟨by (with_reducible repeat (first | apply Kd.R_alloc | apply Kd.R_drewN | apply Kd.R_drew)); exact Kd.R_mono HO_6.out (fun _ hk => hk.2)⟩, ⟨by repeat (first | (with_reducible first | exact HB.out | apply below_alloc | apply pw_below_drewN | apply below_drew1) | exact HB.out)⟩⟩
                            · rw [if_neg c40] at H
                              have c40b0 : decide (t313 < 0) = false := decide_eq_false c40
                              clear c40
                              have H' := Aside0.mk H
                              clear H
                              obtain ⟨Ao43, co43, eo43⟩ := Kd.R_slice HO_9.out
                              subst eo43
                              obtain ⟨Ao44, co44, eo44⟩ := Kd.R_slice HO_5.out
                              subst eo44
                              go_wp2_with (first | (go_at_call 64; (with_reducible refine (smaltoref03_Order.calls k3 _ _ t310 _ _ x5_2 t313 _ ?side1 ?side2 ?side3 ?side4 A39.out).mono ?_); (case side1 => repeat (first | exact (Kd.R_reads' HO_9.out).2.2 | (with_reducible refine Kd.C_alloc ?_ _) | (with_reducible refine Kd.C_drewN ?_ _) | (with_reducible refine Kd.C_drew ?_))); (case side2 => exact (Kd.R_reads' HO_9.out).2.1); (case side3 => repeat (first | exact (Kd.R_reads' HO_5.out).2.2 | (with_reducible refine Kd.C_alloc ?_ _) | (with_reducible refine Kd.C_drewN ?_ _) | (with_reducible refine Kd.C_drew ?_))); (case side4 => exact (Kd.R_reads' HO_5.out).2.1); rintro e w' ⟨rfl, ⟨nd, rfl⟩⟩; (try first | exact ⟨rfl, _, World.drewN_drewN _ _ _⟩ | exact ⟨rfl, _, Eq.trans (World.drewN_drewN _ _ _) (congrArg (World.drewN _) (Nat.add_assoc _ _ _))⟩)))
                              repeat (go_quiet (first | (go_at_call 64; (with_reducible refine (smaltoref03_Order.calls k3 _ _ t310 _ _ x5_2 t313 _ ?side1 ?side2 ?side3 ?side4 A39.out).mono ?_); (case side1 => repeat (first | exact (Kd.R_reads' HO_9.out).2.2 | (with_reducible refine Kd.C_alloc ?_ _) | (with_reducible refine Kd.C_drewN ?_ _) | (with_reducible refine Kd.C_drew ?_))); (case side2 => exact (Kd.R_reads' HO_9.out).2.1); (case side3 => repeat (first | exact (Kd.R_reads' HO_5.out).2.2 | (with_reducible refine Kd.C_alloc ?_ _) | (with_reducible refine Kd.C_drewN ?_ _) | (with_reducible refine Kd.C_drew ?_))); (case side4 => exact (Kd.R_reads' HO_5.out).2.1); rintro e w' ⟨rfl, ⟨nd, rfl⟩⟩; (try first | exact ⟨rfl, _, World.drewN_drewN _ _ _⟩ | exact ⟨rfl, _, Eq.trans (World.drewN_drewN _ _ _) (congrArg (World.drewN _) (Nat.add_assoc _ _ _))⟩))); try go_wp2_with (first | (go_at_call 64; (with_reducible refine (smaltoref03_Order.calls k3 _ _ t310 _ _ x5_2 t313 _ ?side1 ?side2 ?side3 ?side4 A39.out).mono ?_); (case side1 => repeat (first | exact (Kd.R_reads' HO_9.out).2.2 | (with_reducible refine Kd.C_alloc ?_ _) | (with_reducible refine Kd.C_drewN ?_ _) | (with_reducible refine Kd.C_drew ?_))); (case side2 => exact (Kd.R_reads' HO_9.out).2.1); (case side3 => repeat (first | exact (Kd.R_reads' HO_5.out).2.2 | (with_reducible refine Kd.C_alloc ?_ _) | (with_reducible refine Kd.C_drewN ?_ _) | (with_reducible refine Kd.C_drew ?_))); (case side4 => exact (Kd.R_reads' HO_5.out).2.1); rintro e w' ⟨rfl, ⟨nd, rfl⟩⟩; (try first | exact ⟨rfl, _, World.drewN_drewN _ _ _⟩ | exact ⟨rfl, _, Eq.trans (World.drewN_drewN _ _ _) (congrArg (World.drewN _) (Nat.add_assoc _ _ _))⟩))))
                              go_roundg k3
                              case measure => have := HK1.out; have := HK2.out; have := HK3.out; omega
                              case rel => exact ⟨(x5_2), (wrap64 (x8_2 + 1)), (by first | rfl | (simp; done) | (simp [*]; done)), H', ⟨by have := HK1.out; have := HK2.out; have := HK3.out; omega⟩, ⟨by (with_reducible repeat (first | apply Kd.R_alloc | apply Kd.R_drewN | apply Kd.R_drew)); exact Kd.R_mono HO_5.out (fun _ hk => hk.1)⟩, ⟨by (with_reducible repeat (first | apply Kd.R_alloc | apply Kd.R_drewN | apply Kd.R_drew)); exact Kd.R_mono HO_6.out (fun _ hk => hk.1)⟩, ⟨by repeat (first | (with_reducible first | exact HB.out | apply below_alloc | apply pw_below_drewN | apply below_drew1) | exact HB.out)⟩⟩
                          · rw [if_neg c38] at H
                            have c38b0 : ((t310.length : Int) == (x5_2.length : Int)) = false := beq_eq_false_iff_ne.mpr c38
                            have c38b1 : ((t310.length : Int) != (x5_2.length : Int)) = true := bne_iff_ne.mpr c38
                            have c38b2 : (t310.length == x5_2.length) = false := by first | simpa using c38 | (simp at c38 ⊢; omega)
                            have H' := Aside0.mk H
                            clear H
                            obtain ⟨Ao45, co45, eo45⟩ := Kd.R_slice HO_9.out
                            subst eo45
                            obtain ⟨Ao46, co46, eo46⟩ := Kd.R_slice HO_5.out
                            subst eo46
                            go_wp2
                            repeat (go_quiet (fail); try go_wp2)
                            go_roundg k3
                            case measure => have := HK1.out; have := HK2.out; have := HK3.out; omega
                            case rel => exact ⟨(x5_2), (wrap64 (x8_2 + 1)), (by first | rfl | (simp; done) | (simp [*]; done)), H', ⟨by have := HK1.out; have := HK2.out; have := HK3.out; omega⟩, ⟨by (with_reducible repeat (first | apply Kd.R_alloc | apply Kd.R_drewN | apply Kd.R_drew)); exact Kd.R_mono HO_5.out (fun _ hk => hk.1)⟩, ⟨by (with_reducible repeat (first | apply Kd.R_alloc | apply Kd.R_drewN | apply Kd.R_drew)); exact Kd.R_mono HO_6.out (fun _ hk => hk.1)⟩, ⟨by repeat (first | (with_reducible first | exact HB.out | apply below_alloc | apply pw_below_drewN | apply below_drew1) | exact HB.out)⟩⟩
                      · replace c34 := Bool.eq_false_iff.mpr c34
                        subst c34
                        have H1 : (smaltoref03_Apart.l1 k3 l0 a1 x5_2 x6_1 (wrap64 (x8_2 + 1))) = some r := by rw [if_neg (show ¬ (false = true) by decide)] at H; exact H
                        clear H
                        have H := H1
                        clear H1
                        have H' := Aside0.mk H
                        clear H
                        obtain ⟨Ao47, co47, eo47⟩ := Kd.R_slice HO_9.out
                        subst eo47
                        go_wp2
                        repeat (go_quiet (fail); try go_wp2)
                        go_roundg k3
                        case measure => have := HK1.out; have := HK2.out; have := HK3.out; omega
                        case rel => exact ⟨(x5_2), (wrap64 (x8_2 + 1)), (by first | rfl | (simp; done) | (simp [*]; done)), H', ⟨by have := HK1.out; have := HK2.out; have := HK3.out; omega⟩, ⟨by (with_reducible repeat (first | apply Kd.R_alloc | apply Kd.R_drewN | apply Kd.R_drew)); exact Kd.R_mono HO_5.out (fun _ hk => hk.1)⟩, ⟨by (with_reducible repeat (first | apply Kd.R_alloc | apply Kd.R_drewN | apply Kd.R_drew)); exact Kd.R_mono HO_6.out (fun _ hk => hk.1)⟩, ⟨by repeat (first | (with_reducible first | exact HB.out | apply below_alloc | apply pw_below_drewN | apply below_drew1) | exact HB.out)⟩⟩
              · rw [if_neg c13] at H
                have c13b0 : decide (x8_2 < (ji12)) = false := decide_eq_false c13
                clear c13
                obtain rfl := Option.some.inj H
                go_wp2
                repeat (go_quiet (fail); try go_wp2)
                go_ret
                exact ⟨_, by first | rfl | (simp [errW_none, errW_some] <;> rfl) | (simp only [← hji10, ← hji12]; first | rfl | (simp [errW_none, errW_some] <;> rfl)) | (simp [*, errW_none, errW_some] <;> rfl), by (with_reducible repeat (first | apply Kd.R_alloc | apply Kd.R_drewN | apply Kd.R_drew)); exact Kd.R_mono HO_5.out (fun _ hk => trivial), by repeat (first | (with_reducible first | exact HB.out | apply below_alloc | apply pw_below_drewN | apply below_drew1) | exact HB.out)⟩
            · rw [if_neg c11] at H
              exact absurd H (by simp)
end Go.Proofs.YtbijamlgcebgeaaDoor.Q

-- part KC
namespace Go.Proofs.YtbijamlgcebgeaaDoor.Hand
open Go.RowKit Go.Shelf Go.Sort Go.Proofs.YtbijamlgcebgeaaDoorW.PrintWords Go.Proofs.YtbijamlgcebgeaaDoorW.PrintMore Go.Proofs.YtbijamlgcebgeaaDoor.Q
/-- The pairs of a set with sign number i, as sets. -/
def pairI (s i : Nat) (k : Nat) : List Nat := (List.range k).map fun j => 2 ^ (bitsOf s).getD i 0 ||| 2 ^ (bitsOf s).getD j 0
def pairsR (s : Nat) (n : Nat) : List Nat := (List.range n).flatMap fun i => pairI s i i
def pairsP (s : Nat) : List Nat := (bitsOf s).flatMap fun a => (bitsOf (hiB s a)).map fun b => 2 ^ a ||| 2 ^ b
theorem pairs_same : ∀ s : Nat, s < 64 → (pairsR s (lenB s)).all (fun x => (pairsP s).contains x) = true ∧ (pairsP s).all (fun x => (pairsR s (lenB s)).contains x) = true := by decide +kernel
theorem apartB_pairs (F : Furn) {s : Nat} (hs : s < 64) : apartB F s = (pairsR s (lenB s)).all fun p => !goesB F p := by
  have h1 : apartB F s = (pairsP s).all fun p => !goesB F p := by
    unfold apartB apart1 pairsP
    rw [List.all_flatMap]
    congr 1
    funext a
    rw [List.all_map]
    rfl
  obtain ⟨q1, q2⟩ := pairs_same s hs
  rw [h1, Bool.eq_iff_iff]
  simp only [List.all_eq_true, List.contains_iff_mem] at q1 q2 ⊢
  exact ⟨fun h x hx => h x (q1 x hx), fun h x hx => h x (q2 x hx)⟩
theorem pair_run : ∀ a : Nat, a < 6 → ∀ b : Nat, b < 6 → a ≠ b → wrap64 ((shl .i64 1 (IntKind.u64.wrap (a : Int))) + (shl .i64 1 (IntKind.u64.wrap (b : Int)))) = ((2 ^ a ||| 2 ^ b : Nat) : Int) ∧ 0 ≤ IntKind.u64.wrap (a : Int) := by decide +kernel
theorem or_lt {a b n : Nat} (ha : a < n) (hb : b < n) : 2 ^ a ||| 2 ^ b < 2 ^ n := Nat.or_lt_two_pow ((Nat.pow_lt_pow_iff_right (by decide)).2 ha) ((Nat.pow_lt_pow_iff_right (by decide)).2 hb)
theorem bits_nodup : ∀ s : Nat, s < 64 → ∀ i : Nat, i < lenB s → ∀ j : Nat, j < lenB s → i ≠ j → (bitsOf s).getD i 0 ≠ (bitsOf s).getD j 0 := by
  intro s hs i hi j hj hij h
  have hn : (bitsOf s).Nodup := List.Nodup.sublist List.filter_sublist List.nodup_range
  have h1 : i < (bitsOf s).length := hi
  have h2 : j < (bitsOf s).length := hj
  rw [List.getD_eq_getElem?_getD, List.getD_eq_getElem?_getD, List.getElem?_eq_getElem h1, List.getElem?_eq_getElem h2] at h
  rcases Nat.lt_or_gt_of_ne hij with h3 | h3
  · exact List.pairwise_iff_getElem.1 hn i j h1 h2 h3 h
  · exact List.pairwise_iff_getElem.1 hn j i h2 h1 h3 h.symm
theorem bits_at {s n : Nat} (hs : s < 2 ^ n) {i : Nat} (hi : i < lenB s) : (bitsOf s).getD i 0 < n := by
  have h1 : i < (bitsOf s).length := hi
  rw [List.getD_eq_getElem?_getD, List.getElem?_eq_getElem h1]
  exact bitsOf_below hs _ (List.getElem_mem h1)
theorem rd_ilist {s i : Nat} (hi : i < lenB s) : rd (ilist s) (i : Int) = (((bitsOf s).getD i 0 : Nat) : Int) := by
  have h1 : i < (bitsOf s).length := hi
  rw [rd_get (by rw [(ilist_len s).1]; exact hi), List.getD_eq_getElem?_getD, List.getElem?_eq_getElem h1]
  simp [ilist]
section
variable {F : Furn} (hF : F.Ok)
include hF
theorem Apart_l3 {s : Nat} (hs : s < 2 ^ F.l.length) (x5 x6 : List Int) (i : Nat) (hi : i < lenB s) (ok : Bool) : ∀ (n j k : Nat), j + n = i →
    smaltoref03_Apart.l3 (k + n + 1) (tableL F) F.l.length x5 x6 s (ilist s) (ok && (pairI s i j).all fun p => !goesB F p) i j = smaltoref03_Apart.l2 k (tableL F) F.l.length x5 x6 s (ilist s) (ok && (pairI s i i).all fun p => !goesB F p) ((i : Int) + 1) := by
  have hs6 := hF.len
  have hlen := ilist_len s
  intro n
  induction n with
  | zero =>
    intro j k h
    obtain rfl : j = i := by omega
    rw [Nat.add_zero, smaltoref03_Apart.l3, if_neg (by omega), w64 (by omega)]
  | succ n ih =>
    intro j k h
    have hnext := ih (j + 1) k (by omega)
    rw [show ((j + 1 : Nat) : Int) = (j : Int) + 1 by omega] at hnext
    have hp : (pairI s i (j + 1)).all (fun p => !goesB F p) = ((pairI s i j).all (fun p => !goesB F p) && !goesB F (2 ^ (bitsOf s).getD i 0 ||| 2 ^ (bitsOf s).getD j 0)) := by
      simp [pairI, List.range_succ]
    rw [hp] at hnext
    have b1 := bits_at hs hi
    have b2 := bits_at hs (show j < lenB s by omega)
    have s64 : s < 64 := Nat.lt_of_lt_of_le hs (two_pow_u _ hs6).2.2
    have hne := bits_nodup s s64 i hi j (by omega) (by omega)
    obtain ⟨p1, p2⟩ := pair_run _ (show (bitsOf s).getD i 0 < 6 by omega) _ (show (bitsOf s).getD j 0 < 6 by omega) hne
    obtain ⟨_, p3⟩ := pair_run _ (show (bitsOf s).getD j 0 < 6 by omega) _ (show (bitsOf s).getD i 0 < 6 by omega) (Ne.symm hne)
    have hlt := or_lt b1 b2
    rw [show k + (n + 1) + 1 = (k + n + 1) + 1 by omega, smaltoref03_Apart.l3, if_pos (by omega), w64 (x := (j : Int) + 1) (by omega)]
    by_cases hok : (ok && (pairI s i j).all fun p => !goesB F p) = true
    · rw [if_pos hok, if_pos (by omega), if_pos (by rw [hlen.1]; omega), rd_ilist hi, rd_ilist (show j < lenB s by omega), if_pos p2, if_pos (by omega), if_pos (by rw [hlen.1]; omega), if_pos p3, p1, if_pos (by omega), if_pos (by simp only [tableL, List.length_map, List.length_range]; omega), tableL_at F hlt]
      rw [← Bool.and_assoc, hok, Bool.true_and] at hnext
      exact hnext
    · have hok' : (ok && (pairI s i j).all fun p => !goesB F p) = false := by simpa using hok
      rw [if_neg hok]
      rw [← Bool.and_assoc, hok', Bool.false_and] at hnext
      exact hnext
omit hF in
theorem pairsR_succ (s i : Nat) (g : Nat → Bool) : (pairsR s (i + 1)).all g = ((pairsR s i).all g && (pairI s i i).all g) := by
  simp [pairsR, List.range_succ, List.flatMap_append]
/-- The best so far, with one set more. -/
theorem Apart_l2 {s : Nat} (hs : s < 2 ^ F.l.length) (best : Nat) (x6 : List Int) : ∀ (n i k : Nat), i + n = lenB s → 14 ≤ k →
    ∃ k', k ≤ k' ∧ smaltoref03_Apart.l2 (k + n * 8 + 1) (tableL F) F.l.length (ilist best) x6 s (ilist s) ((pairsR s i).all fun p => !goesB F p) i = smaltoref03_Apart.l1 k' (tableL F) F.l.length (ilist (apartStep F best s)) x6 ((s : Int) + 1) := by
  have hs6 := hF.len
  have hlen := ilist_len s
  have hlb := ilist_len best
  have s64 : s < 64 := Nat.lt_of_lt_of_le hs (two_pow_u _ hs6).2.2
  intro n
  induction n with
  | zero =>
    intro i k h hk
    obtain rfl : i = lenB s := by omega
    refine ⟨k, Nat.le_refl _, ?_⟩
    rw [Nat.zero_mul, Nat.add_zero, smaltoref03_Apart.l2, if_neg (by rw [hlen.1]; omega), w64 (by omega), hlen.1, hlb.1, ← apartB_pairs F s64]
    obtain ⟨o, ho, hoo⟩ := Order_set s best k hk
    rw [ho]
    simp only [Option.bind_some]
    unfold apartStep befB
    cases apartB F s with
    | false =>
      rw [if_neg (by simp)]
      split <;> simp
    | true =>
      rw [if_pos rfl]
      by_cases h1 : lenB best < lenB s
      · rw [if_pos (by omega), if_neg (by simp; omega)]
        rfl
      · rw [if_neg (by omega)]
        by_cases h2 : lenB s = lenB best
        · have hoo := hoo h2
          rw [if_pos (by omega)]
          simp only [h2, if_true]
          by_cases h3 : lexLt (bitsOf s) (bitsOf best) = true
          · rw [if_pos (hoo.2 h3), h3]; simp
          · rw [if_neg (fun h => h3 (hoo.1 h))]
            simp [h3]
        · rw [if_neg (by omega), if_pos (by simp; omega)]
  | succ n ih =>
    intro i k h hk
    obtain ⟨k', hk', hnext⟩ := ih (i + 1) (k + 7 - i - 1) (by omega) (by omega)
    refine ⟨k', by omega, ?_⟩
    rw [show ((i + 1 : Nat) : Int) = (i : Int) + 1 by omega] at hnext
    have h3 := Apart_l3 hF hs (ilist best) x6 i (by omega) ((pairsR s i).all fun p => !goesB F p) i 0 (k + 7 - i - 1 + n * 8 + 1) (by omega)
    rw [show k + (n + 1) * 8 + 1 = (k + 7 - i - 1 + n * 8 + 1 + i + 1) + 1 by omega, smaltoref03_Apart.l2, if_pos (by rw [hlen.1]; omega)]
    rw [← pairsR_succ] at h3
    simp only [pairI, List.range_zero, List.map_nil, List.all_nil, Bool.and_true, show ((0 : Nat) : Int) = 0 from rfl] at h3
    rw [h3]
    exact hnext
theorem Apart_l1 (x6 : List Int) (hx6 : x6 = allL F.l.length) : ∀ (n s k : Nat), s + n = 2 ^ F.l.length → 60 * n + 20 ≤ k →
    smaltoref03_Apart.l1 k (tableL F) F.l.length (ilist (apartBest F s)) x6 s = some (ilist (apartBest F (2 ^ F.l.length))) := by
  obtain ⟨p1, p2, p3⟩ := two_pow_u F.l.length hF.len
  have hs6 := hF.len
  intro n
  induction n with
  | zero =>
    intro s k h hk
    obtain ⟨k, rfl⟩ : ∃ j, k = j + 1 := ⟨k - 1, by omega⟩
    rw [smaltoref03_Apart.l1, if_pos p2, p1, if_neg (by omega), show s = 2 ^ F.l.length by omega]
  | succ n ih =>
    intro s k h hk
    have hl := ilist_len s
    obtain ⟨k, rfl⟩ : ∃ j, k = (j + lenB s * 8 + 1) + 1 := ⟨k - lenB s * 8 - 2, by omega⟩
    have hs : s < 2 ^ F.l.length := by omega
    rw [smaltoref03_Apart.l1, if_pos p2, p1, if_pos (by omega), Numbers_eq x6 (by rw [hx6]; simp [allL]; omega) s (by omega) _ (by omega)]
    simp only [Option.bind_some]
    rw [hx6, pick_all _ hs6 s hs, ← hx6]
    obtain ⟨k', hk', h2⟩ := Apart_l2 hF hs (apartBest F s) x6 (lenB s) 0 k (by omega) (by omega)
    simp only [pairsR, List.range_zero, List.flatMap_nil, List.all_nil, show ((0 : Nat) : Int) = 0 from rfl] at h2
    rw [h2, ← apartBest_succ]
    have := ih (s + 1) k' (by omega) (by omega)
    rw [show ((s + 1 : Nat) : Int) = (s : Int) + 1 by omega] at this
    exact this
theorem Apart_l0 (x5 : List Int) : ∀ (n i k : Nat), i + n = F.l.length → n < k → smaltoref03_Apart.l0 k (tableL F) F.l.length x5 (allL i) i = smaltoref03_Apart.l1 (k - n - 1) (tableL F) F.l.length x5 (allL F.l.length) 1 := by
  have hs6 := hF.len
  intro n
  induction n with
  | zero =>
    intro i k h hk
    obtain ⟨k, rfl⟩ : ∃ j, k = j + 1 := ⟨k - 1, by omega⟩
    rw [smaltoref03_Apart.l0, if_neg (by omega), show i = F.l.length by omega]
    rfl
  | succ n ih =>
    intro i k h hk
    obtain ⟨k, rfl⟩ : ∃ j, k = j + 1 := ⟨k - 1, by omega⟩
    rw [smaltoref03_Apart.l0, if_pos (by omega), if_pos (by simp [allL]; omega), w64 (by omega)]
    have := ih (i + 1) k (by omega) (by omega)
    rw [show ((i + 1 : Nat) : Int) = (i : Int) + 1 by omega] at this
    rw [show k + 1 - (n + 1) - 1 = k - n - 1 by omega, ← this]
    simp [allL, List.range_succ]
theorem Apart_eq (k : Nat) (hk : 4000 ≤ k) : smaltoref03_Apart.f k (tableL F) F.l.length = some (ilist (apartBest F (2 ^ F.l.length))) := by
  have hs6 := hF.len
  have p3 := (two_pow_u F.l.length hF.len).2.2
  have hp : 0 < 2 ^ F.l.length := Nat.two_pow_pos _
  unfold smaltoref03_Apart.f
  have h0 := Apart_l0 hF [] F.l.length 0 k (by omega) (by omega)
  have h1 := Apart_l1 hF (allL F.l.length) rfl (2 ^ F.l.length - 1) 1 (k - F.l.length - 1) (by omega) (by omega)
  have hb : apartBest F 1 = 0 := by
    rw [apartBest_succ]
    unfold apartStep apartBest
    simp only [List.range_zero, List.foldl_nil]
    split
    · rfl
    · split <;> rfl
  rw [hb] at h1
  have e0 : allL 0 = [] := rfl
  rw [e0] at h0
  simp only [show ((0 : Nat) : Int) = 0 from rfl] at h0
  rw [h0]
  exact h1
end
end Go.Proofs.YtbijamlgcebgeaaDoor.Hand

-- part KD
namespace Go.Proofs.YtbijamlgcebgeaaDoor.Hand
open Go.RowKit Go.Shelf Go.Sort Go.Proofs.YtbijamlgcebgeaaDoorW.PrintWords Go.Proofs.YtbijamlgcebgeaaDoorW.PrintMore Go.Proofs.YtbijamlgcebgeaaDoor.Q
attribute [local go_sem high] eqA36
set_option maxRecDepth 100000 in
set_option maxHeartbeats 4000000 in
theorem lawaparts_calls (a b c d e : Int) (l : List S74) (A1 : Option Addr) (c1 : Nat) (hc1 : l.length ≤ c1) (w : World) (hT : TabW w) (hr1 : Kd.C k74 w A1 l.length l) :
    Calls Tryd.prog 6 #[.agg #[.int .i64 a, .int .i64 b, .int .i64 c, .int .i64 d, .int .i64 e], .slice A1 l.length c1] w fun e_ w' => e_ = .returned (.bool true) ∧ Below w.heap.size w w' := by
  obtain ⟨wa, hwa⟩ : ∃ v, w.alloc (.cells #[.int .i64 a, .int .i64 b, .int .i64 c, .int .i64 d, .int .i64 e] 23) = v := ⟨_, rfl⟩
  have hB : Below w.heap.size w wa := hwa ▸ (Below.refl _ _).alloc (Nat.le_refl _) _
  replace hT : TabW wa := hwa ▸ hT.alloc _
  replace hr1 : Kd.C k74 wa A1 l.length l := hwa ▸ Kd.C_alloc hr1 _
  have x3 : Box wa w.heap.size #[.int .i64 a, .int .i64 b, .int .i64 c, .int .i64 d, .int .i64 e] 23 := hwa ▸ Box.new _ _ _
  have e0 : wa.cell? ⟨w.heap.size, 0, none⟩ = some (.int .i64 a) := x3.cell 0 rfl
  have e1 : wa.cell? ⟨w.heap.size, 1, none⟩ = some (.int .i64 b) := x3.cell 1 rfl
  have e2 : wa.cell? ⟨w.heap.size, 2, none⟩ = some (.int .i64 c) := x3.cell 2 rfl
  have e3 : wa.cell? ⟨w.heap.size, 3, none⟩ = some (.int .i64 d) := x3.cell 3 rfl
  have e4 : wa.cell? ⟨w.heap.size, 4, none⟩ = some (.int .i64 e) := x3.cell 4 rfl
  by_cases h12 : 12 < l.length
  · have p1 : decide ((12 : Int) < l.length) = true := decide_eq_true (by omega)
    go_enter Tryd.func6, Tryd.ntmps6
    go_wp2_with fail
    refine (known_calls _ hT).mono ?_
    rintro e_ uf ⟨rfl, hb⟩
    replace hB := hB.trans (hb.mono hB.size)
    go_wp2
    go_ret
    exact ⟨rfl, hB⟩
  · have p1 : decide ((12 : Int) < l.length) = false := decide_eq_false (by omega)
    have HOwn := Lib.hid (Own_eq l (by omega))
    have HSame := Lib.hid (Same_eq l (by omega))
    obtain ⟨ck, hck⟩ : ∃ v, checkF a b c d e l = v := ⟨_, rfl⟩
    have HCk := Lib.hid hck
    have HCheck := Lib.hid (hck ▸ Check_eq a b c d e l (by omega) (l.length + 2) (Nat.le_refl _))
    obtain ⟨⟨ap, ae⟩, hap⟩ : ∃ v, apartR a b c d e l = v := ⟨_, rfl⟩
    have Hap := Lib.hid hap
    clear hck hap
    have Hl : Hid (l.length ≤ 12) := Lib.hid (by omega)
    clear h12
    go_enter Tryd.func6, Tryd.ntmps6
    go_wp2_with fail
    clear hwa
    refine (smaltoref03_Own.calls A1 c1 l l _ hr1 hc1 HOwn.out).mono ?_
    rintro e_ u1 ⟨v0, rfl, hR, hb⟩
    obtain ⟨AX, cX, rfl, hcX, hX⟩ := Kd.R_reads hR
    clear hR
    replace hT := hT.below hb
    replace hr1 := Kd.C_below hr1 hb
    replace hB := hB.trans (hb.mono hB.size)
    replace x3 := x3.step hb
    replace e0 := x3.cell 0 rfl
    replace e1 := x3.cell 1 rfl
    replace e2 := x3.cell 2 rfl
    replace e3 := x3.cell 3 rfl
    replace e4 := x3.cell 4 rfl
    clear hb
    go_wp2_with fail
    have hcl := apart_exp a b c d e l AX cX _ hT hX
    rw [Hap.out] at hcl
    refine (res_C hcl).mono ?_
    rintro e_ u1 ⟨AL, cL, rfl, hcL, hL, hb⟩
    clear hcl
    replace hT := hT.below hb
    replace hr1 := Kd.C_below hr1 hb
    replace hB := hB.trans (hb.mono hB.size)
    replace x3 := x3.step hb
    replace hX := Kd.C_below hX hb
    replace e0 := x3.cell 0 rfl
    replace e1 := x3.cell 1 rfl
    replace e2 := x3.cell 2 rfl
    replace e3 := x3.cell 3 rfl
    replace e4 := x3.cell 4 rfl
    clear hb
    go_wp2_with fail
    refine (smaltoref03_Same.calls (l.length + 1) AX cX l A1 c1 l true _ hX hcX hr1 hc1 HSame.out).mono ?_
    rintro e_ uu ⟨rfl, hd⟩
    have hb := hd.below
    clear hd
    replace hT := hT.below hb
    replace hr1 := Kd.C_below hr1 hb
    replace hB := hB.trans (hb.mono hB.size)
    replace x3 := x3.step hb
    replace hX := Kd.C_below hX hb
    replace hL := Kd.C_below hL hb
    replace e0 := x3.cell 0 rfl
    replace e1 := x3.cell 1 rfl
    replace e2 := x3.cell 2 rfl
    replace e3 := x3.cell 3 rfl
    replace e4 := x3.cell 4 rfl
    clear hb
    go_wp2_with fail
    refine (smaltoref03_Check.calls (l.length + 2) a b c d e A1 c1 l ck _ hr1 hc1 HCheck.out).mono ?_
    rintro e_ uu ⟨rfl, hb⟩
    replace hT := hT.below hb
    replace hr1 := Kd.C_below hr1 hb
    replace hB := hB.trans (hb.mono hB.size)
    replace x3 := x3.step hb
    replace hX := Kd.C_below hX hb
    replace hL := Kd.C_below hL hb
    replace e0 := x3.cell 0 rfl
    replace e1 := x3.cell 1 rfl
    replace e2 := x3.cell 2 rfl
    replace e3 := x3.cell 3 rfl
    replace e4 := x3.cell 4 rfl
    clear hb
    by_cases ho0 : ck = 0
    · subst ho0
      have hF := check_ok HCk.out
      have hap' := Hap.out
      unfold apartR at hap'
      rw [newR_nil, if_pos HCk.out] at hap'
      simp only [Prod.mk.injEq] at hap'
      obtain ⟨rfl, rfl⟩ := hap'
      have HT' := Lib.hid (show smaltoref03_Table.f 165 a b c d e l = some (tableL (mkF a b c d e l)) from Table_eq hF 165 (Nat.le_refl _))
      have HA' := Lib.hid (show smaltoref03_Apart.f 4000 (tableL (mkF a b c d e l)) l.length = some (ilist (apartBest (mkF a b c d e l) (2 ^ l.length))) from Apart_eq hF 4000 (Nat.le_refl _))
      have HTl := Lib.hid (show (tableL (mkF a b c d e l)).length = 2 ^ l.length by simp [tableL, mkF])
      generalize tableL (mkF a b c d e l) = tb at HT' HA' HTl
      obtain ⟨best, hbest⟩ : ∃ v, ilist (apartBest (mkF a b c d e l) (2 ^ l.length)) = v := ⟨_, rfl⟩
      have Hbl : Hid (best.length ≤ 1000) := Lib.hid (by rw [← hbest, (ilist_len _).1]; have := (ilist_len (apartBest (mkF a b c d e l) (2 ^ l.length))).2; omega)
      rw [hbest] at HA' hL hcL ⊢
      clear hbest
      clear hF
      go_wp2_with fail
      refine (smaltoref03_Table.calls 165 a b c d e A1 c1 l tb _ hr1 hc1 HT'.out).mono ?_
      rintro e_ u1 ⟨v0, rfl, hR, hb⟩
      obtain ⟨AT, cT, rfl, hcT, hTb⟩ := Kd.R_reads hR
      clear hR
      replace hT := hT.below hb
      replace hr1 := Kd.C_below hr1 hb
      replace hB := hB.trans (hb.mono hB.size)
      replace x3 := x3.step hb
      replace hX := Kd.C_below hX hb
      replace hL := Kd.C_below hL hb
      replace e0 := x3.cell 0 rfl
      replace e1 := x3.cell 1 rfl
      replace e2 := x3.cell 2 rfl
      replace e3 := x3.cell 3 rfl
      replace e4 := x3.cell 4 rfl
      clear hb
      go_wp2_with fail
      refine (smaltoref03_Apart.calls 4000 AT cT tb l.length best _ hTb hcT HA'.out).mono ?_
      rintro e_ u1 ⟨v0, rfl, hR, hb⟩
      obtain ⟨AB, cB, rfl, hcB, hBs⟩ := Kd.R_reads hR
      clear hR
      replace hT := hT.below hb
      replace hr1 := Kd.C_below hr1 hb
      replace hB := hB.trans (hb.mono hB.size)
      replace x3 := x3.step hb
      replace hX := Kd.C_below hX hb
      replace hL := Kd.C_below hL hb
      replace hTb := Kd.C_below hTb hb
      replace e0 := x3.cell 0 rfl
      replace e1 := x3.cell 1 rfl
      replace e2 := x3.cell 2 rfl
      replace e3 := x3.cell 3 rfl
      replace e4 := x3.cell 4 rfl
      clear hb
      go_wp2_with fail
      refine (smaltoref03_Ints.calls (2 * best.length + 2) AL cL best AB cB best true _ hL hcL hBs hcB (Ints_eq best Hbl.out)).mono ?_
      rintro e_ uu ⟨rfl, hd⟩
      have hb := hd.below
      clear hd
      replace hT := hT.below hb
      replace hr1 := Kd.C_below hr1 hb
      replace hB := hB.trans (hb.mono hB.size)
      replace x3 := x3.step hb
      replace hX := Kd.C_below hX hb
      replace hL := Kd.C_below hL hb
      replace hTb := Kd.C_below hTb hb
      replace hBs := Kd.C_below hBs hb
      replace e0 := x3.cell 0 rfl
      replace e1 := x3.cell 1 rfl
      replace e2 := x3.cell 2 rfl
      replace e3 := x3.cell 3 rfl
      replace e4 := x3.cell 4 rfl
      clear hb
      go_wp2_with fail
      refine (known_calls _ hT).mono ?_
      rintro e_ uf ⟨rfl, hb⟩
      replace hB := hB.trans (hb.mono hB.size)
      go_wp2
      go_ret
      exact ⟨rfl, hB⟩
    · have ho1 : (ck != 0) = true := by simp [ho0]
      have hap' := Hap.out
      unfold apartR at hap'
      rw [newR_nil, HCk.out, if_neg ho0] at hap'
      simp only [Prod.mk.injEq] at hap'
      obtain ⟨rfl, rfl⟩ := hap'
      go_wp2_with fail
      refine (known_calls _ hT).mono ?_
      rintro e_ uf ⟨rfl, hb⟩
      replace hB := hB.trans (hb.mono hB.size)
      go_wp2
      go_ret
      exact ⟨rfl, hB⟩
end Go.Proofs.YtbijamlgcebgeaaDoor.Hand

-- part KE
namespace Go.Proofs.YtbijamlgcebgeaaDoor.forkAparts
open Go.ChangeShapes Go.WideShapes Go.ChangeAt Go.RowKit Go.Proofs.YtbijamlgcebgeaaDoor.Hand
set_option maxRecDepth 100000 in
theorem contract (H : Type) (enc : TypeId × Value → H) (W : World) (base : Nat) (args : Array Value) (ds gs : List (DataW H)) (before : List MemPlace)
    (hval : ∀ (j : Nat) t v, Tryd.f6.params[j]? = some t → args[j]? = some v → Value.okWide Tryd.prog W .any base t v)
    (hW : DataW.Whole enc Tryd.prog Tryd.f6.params.toList Rows.forkApartsSpec.vars false W args.toList ds gs before) (hL : laidMetH Tryd.prog Rows.forkApartsRow.laid W) :
    Calls Tryd.prog 6 args W fun e W' => ∃ v, e = .returned v ∧ Rows.forkApartsSpec.post enc Tryd.prog Tryd.f6 false true false false W args v W' := by
  have hT : TabW W := tabW_of hL
  have hW' := hW
  obtain ⟨p, q, hA0, hV, rfl, hfz, hnd⟩ := hW
  have hA : DataW.TrodAll enc Tryd.prog W 0 (fun _ => true) true Tryd.f6.params.toList args.toList ds p := hA0
  rw [Tryd.params6] at hA hval
  obtain ⟨v0, vs0, d0, ds0, p0, q0, hargs, rfl, rfl, k0, r0⟩ := trodAll_cons hA
  obtain ⟨v1, vs1, d1, ds1, p1, q1, rfl, rfl, rfl, k1, r1⟩ := trodAll_cons r0
  obtain ⟨rfl, rfl, rfl⟩ := trodAll_nil r1
  obtain rfl : args = #[v0, v1] := by cases args; simp_all
  obtain ⟨rfl, rfl⟩ := trodVars_none hV
  have lt0 : ∀ x ∈ p0, x.block < W.heap.size := by obtain ⟨m, hm⟩ := k0; exact DataW.trod_lt m _ _ _ hm
  have lt1 : ∀ x ∈ p1, x.block < W.heap.size := by obtain ⟨m, hm⟩ := k1; exact DataW.trod_lt m _ _ _ hm
  obtain ⟨a, b, c, d, e, rfl⟩ := open23 (hval 0 23 v0 rfl rfl) k0
  obtain ⟨A1, l1, c1, rfl, hc1, hr1⟩ := open24 (hval 1 24 v1 rfl rfl) k1
  clear hA0 hval
  refine (lawaparts_calls a b c d e l1 A1 c1 hc1 W hT hr1).mono fun e' W' ⟨he, bel⟩ => ?_
  subst he
  exact ⟨_, rfl, _, _, _, [], _, [], hW', trodAll_mk1 (shut_bool Tryd.underlying4 _), (trodAll_cons_mk (Below.trod laidOut (by kernel_rfl) (of_decide_eq_true (by kernel_rfl)) k0 bel lt0) (trodAll_cons_mk (Below.trod laidOut (by kernel_rfl) (of_decide_eq_true (by kernel_rfl)) k1 bel lt1) trodAll_mk0)), rfl, bel.frame _, fun h => by cases h⟩
/-- A world for the witness: the settled one, the tables (blocks 0 and 1) holding what their initialisers lay. -/
def lay32 : Obj → Obj
  | .cells _ t frozen => .cells (Lib.deBruijn32tab.map fun (n : Nat) => Value.int .u8 n).toArray t frozen
  | o => o
def lay64 : Obj → Obj
  | .cells _ t frozen => .cells (Lib.deBruijn64tab.map fun (n : Nat) => Value.int .u8 n).toArray t frozen
  | o => o
noncomputable def laidWorld (os : Os) : World := { World.holding Tryd.prog os ⟨#[], #[], []⟩ with heap := ((World.holding Tryd.prog os ⟨#[], #[], []⟩).heap.modify 0 lay32).modify 1 lay64 }
theorem laid_met (os : Os) : laidMet Tryd.prog Rows.forkApartsRow.laid ((laidWorld os).forCall (fun _ _ => 0) ⟨#[], #[.agg #[.int .i64 0, .int .i64 0, .int .i64 0, .int .i64 0, .int .i64 0], .slice none 0 0], []⟩).memory :=
  laidMet_of_run' 8 (by kernel_rfl) (by kernel_rfl)
theorem reads (os : Os) {H : Type} (enc : TypeId × Value → H) : ∃ places, DataW.whole enc Tryd.prog ((laidWorld os).forCall (fun _ _ => 0) ⟨#[], #[.agg #[.int .i64 0, .int .i64 0, .int .i64 0, .int .i64 0, .int .i64 0], .slice none 0 0], []⟩).memory Tryd.f6.params.toList Rows.forkApartsSpec.vars false (#[.agg #[.int .i64 0, .int .i64 0, .int .i64 0, .int .i64 0, .int .i64 0], .slice none 0 0] : Array Value).toList 8 = some ([.agg [.lit (.int .i64 0), .lit (.int .i64 0), .lit (.int .i64 0), .lit (.int .i64 0), .lit (.int .i64 0)], .nil], [], places) :=
  ⟨[], by kernel_rfl⟩
set_option maxRecDepth 100000 in
theorem lifted (os : Os) (started : os.Started) (H : Type) (enc : TypeId × Value → H) (F : Stop.Interp) :
    ReturnsInHanded {} Tryd.checked os 6 .any ((OpenSpec.ofChange Rows.forkApartsSpec).preRow enc Tryd.prog Tryd.f6 Rows.forkApartsRow.domain false Rows.forkApartsRow.laid) (((OpenSpec.ofChange Rows.forkApartsSpec).at F).post enc Tryd.prog Tryd.f6 false true false false) := by
  obtain ⟨places, hx⟩ := reads os enc
  refine returnsInHanded_of_row (C := Tryd.checked) (s := OpenSpec.ofChange Rows.forkApartsSpec) own started (by kernel_rfl) Tryd.func6
    (witness_row_at (enc := enc) (C := Tryd.checked) false (laidWorld os) #[.agg #[.int .i64 0, .int .i64 0, .int .i64 0, .int .i64 0, .int .i64 0], .slice none 0 0] rfl (by kernel_rfl) (by kernel_rfl) (by kernel_rfl)
      (OpenSpec.preRow_of_cond 8 hx (by kernel_rfl) (fun k hk => by cases hk) (by kernel_rfl) (laid_met os))) ?_
  intro W base args ds gs before hval hW _ _ _ hL _ _
  exact contract H enc W base args ds gs before hval hW hL
theorem said : Rows.ForkApartsSaid :=
  OpenClaim.holds_of_cond 6 Tryd.f6 rfl rfl rfl rfl rfl rfl rfl ⟨rfl, rfl, rfl, rfl, rfl⟩ rfl rfl rfl rfl rfl (by kernel_rfl) Tryd.func6 (by kernel_rfl)
    (of_decide_eq_true (by kernel_rfl)) (by unfold Func.isWrapper; first | (rw [if_pos (by decide +kernel)]; kernel_rfl) | (rw [if_neg (by decide +kernel)]; exact ⟨rfl, rfl⟩))
    (fun os started H enc _ F => by rw [OpenClaim.pre_eq_preRow]; exact lifted os started H enc F)
theorem plain (f : FuncId) (fn : Func) (hf : Tryd.pinned.checked.prog.funcNamed "smalto/smaltolaw03.ForkAparts" = some f) (hfn : Tryd.pinned.checked.prog.funcs[f]? = some fn) :
    false = Tryd.pinned.checked.prog.looks [] ∧ ∀ (j : Nat) t, fn.params[j]? = some t → Tryd.pinned.checked.prog.wantsStandIn t = false := by
  obtain rfl : f = 6 := Option.some.inj ((show Tryd.prog.funcNamed "smalto/smaltolaw03.ForkAparts" = some 6 by kernel_rfl).symm.trans hf) |>.symm
  obtain rfl : fn = Tryd.f6 := (Option.some.inj (Tryd.func6.symm.trans hfn)).symm
  refine ⟨by kernel_rfl, fun j t ht => ?_⟩
  rw [Tryd.params6] at ht
  have hm := Array.mem_of_getElem? ht
  simp only [List.mem_toArray, List.mem_cons, List.not_mem_nil, or_false] at hm
  rcases hm with rfl | rfl
  · exact (show Tryd.prog.wantsStandIn 23 = false by kernel_rfl)
  · exact (show Tryd.prog.wantsStandIn 24 = false by kernel_rfl)
/-- The card. -/
theorem card : Rows.ForkApartsCardSaid :=
  Claim7.holds_tied_plain_at .later [] _ _ _ _ said (fun _ h => by cases h) (by kernel_rfl) (fun _ h => by cases h) forkAparts_row_tie rfl ⟨rfl, rfl⟩ (by kernel_rfl) rfl plain (by kernel_rfl)
end Go.Proofs.YtbijamlgcebgeaaDoor.forkAparts
namespace Go.Proofs.YtbijamlgcebgeaaDoor
theorem forkAparts_card : Rows.ForkApartsCardSaid := forkAparts.card
end Go.Proofs.YtbijamlgcebgeaaDoor


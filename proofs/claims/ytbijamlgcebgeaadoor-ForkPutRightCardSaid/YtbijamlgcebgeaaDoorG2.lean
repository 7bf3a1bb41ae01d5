/- ForkPutRight: the law returns true for every input; each argument reads behind the call as it read before (for worlds in which the two tables of the library hold what its initialisers lay). Part 2 of 3. -/
import Derived.Test.YtbijamlgcebgeaaDoorG1
set_option linter.unusedVariables false
set_option linter.unusedSimpArgs false
-- part QV
namespace Go.Proofs.YtbijamlgcebgeaaDoor.Q
open Go.RowKit Go.Proofs.YtbijamlgcebgeaaDoorW.PrintWords Go.Proofs.YtbijamlgcebgeaaDoorW.PrintLast Go.Proofs.YtbijamlgcebgeaaDoorW.PrintMore
attribute [local go_sem] max2_int min2_int max_two min_two max_three min_three max_four min_four
attribute [local go_sem high] index83_0 index83_1 index83_2
set_option maxHeartbeats 8000000 in
set_option maxRecDepth 100000 in
theorem lP.calls (k : Nat) (a0_0 : Int) (a0_1 : Int) (a0_2 : Int) (a0_3 : Int) (a0_4 : Int) (A0_5 : Option Addr) (c0_5 : Nat) (l0_5 : List (S63)) (a1_0 : Int) (a1_1 : Int) (a1_2 : Int) (a1_3 : Int) (a1_4 : Int) (a1_5 : Int) (a2_0 : Int) (a2_1 : Int) (a2_2 : Int) (a2_3 : Int) (a2_4 : Int) (a2_5 : Int) (r : Bool) (w : World) (hT : Hand.TabW w) (hr0_5 : Kd.C k63 w A0_5 l0_5.length l0_5) (hc0_5 : l0_5.length ≤ c0_5) (h : lP.f k a0_0 a0_1 a0_2 a0_3 a0_4 l0_5 a1_0 a1_1 a1_2 a1_3 a1_4 a1_5 a2_0 a2_1 a2_2 a2_3 a2_4 a2_5 = some r) :
    Calls Tryd.prog 12 #[.agg #[.int .u8 a0_0, .int .u8 a0_1, .int .u8 a0_2, .int .u8 a0_3, .int .u8 a0_4, .slice A0_5 l0_5.length c0_5], .agg #[.int .u8 a1_0, .int .u8 a1_1, .int .u8 a1_2, .int .u8 a1_3, .int .u8 a1_4, .int .u8 a1_5], .agg #[.int .u8 a2_0, .int .u8 a2_1, .int .u8 a2_2, .int .u8 a2_3, .int .u8 a2_4, .int .u8 a2_5]] w fun e w' => e = .returned (.bool r) ∧ Below w.heap.size w w' := by
 have hu66 := Tryd.underlying66
 have hu67 := Tryd.underlying67
 have hu23 := Tryd.underlying23
 have hu82 := Tryd.underlying82
 have hu83 := Tryd.underlying83
 have HTAB := Aside0.mk hT
 clear hT
 have HR0_5 := Aside0.mk hr0_5
 have HC0_5 := Aside0.mk hc0_5
 clear hr0_5 hc0_5
 have HB := Aside0.mk (Below.refl w.heap.size w)
 have H : ((smaltolaw03_Rack_made.f a0_0 a0_1 a0_2 a0_3 a0_4 l0_5).bind fun bt104 => (lP.l0 k bt104.2.2.2.2.2 (([] : List Int)) (([] : List Int)) 0 a1_0 a1_1 a1_2 a1_3 a1_4 a1_5 a2_0 a2_1 a2_2 a2_3 a2_4 a2_5 bt104.1 bt104.2.1 bt104.2.2.1 bt104.2.2.2.1 bt104.2.2.2.2.1)) = some r := h
 clear h
 replace H := Option.bind_eq_some_iff.mp H
 obtain ⟨⟨t104, t105, t106, t107, t108, t109⟩, A40, H⟩ := H
 replace H : (lP.l0 k t109 (([] : List Int)) (([] : List Int)) 0 a1_0 a1_1 a1_2 a1_3 a1_4 a1_5 a2_0 a2_1 a2_2 a2_3 a2_4 a2_5 t104 t105 t106 t107 t108) = some r := H
 have A4 := Aside0.mk A40
 clear A40
 obtain ⟨y113, hy113⟩ : ∃ y_ : List Int, y_ = (([] : List Int)) := ⟨_, rfl⟩
 replace H : (lP.l0 k t109 y113 (([] : List Int)) 0 a1_0 a1_1 a1_2 a1_3 a1_4 a1_5 a2_0 a2_1 a2_2 a2_3 a2_4 a2_5 t104 t105 t106 t107 t108) = some r := by first | (rw [hy113]; with_reducible exact H) | (have H2_ := (Option.bind_some _ _).symm.trans H; rw [hy113]; with_reducible exact H2_) | (have H2_ := (Option.bind_some _ _).symm.trans H; with_reducible exact H2_) | with_reducible exact H | (rw [hy113]; exact H) | exact H
 have Ny113 := Aside0.mk hy113
 clear hy113
 obtain ⟨y116, hy116⟩ : ∃ y_ : List Int, y_ = (([] : List Int)) := ⟨_, rfl⟩
 replace H : (lP.l0 k t109 y113 y116 0 a1_0 a1_1 a1_2 a1_3 a1_4 a1_5 a2_0 a2_1 a2_2 a2_3 a2_4 a2_5 t104 t105 t106 t107 t108) = some r := by first | (rw [hy116]; with_reducible exact H) | (have H2_ := (Option.bind_some _ _).symm.trans H; rw [hy116]; with_reducible exact H2_) | (have H2_ := (Option.bind_some _ _).symm.trans H; with_reducible exact H2_) | with_reducible exact H | (rw [hy116]; exact H) | exact H
 have Ny116 := Aside0.mk hy116
 clear hy116
 have H' := Aside0.mk H
 clear H
 go_enter Tryd.func12, Tryd.ntmps12
 go_wp2_with (first | ((with_reducible refine gate_dst (N := 3) rfl ?_); (try (refine gate_guard (by rfl) ?_; dsimp only)); refine box_event ?hg (N := 3) ?hd (cs := #[.int .u8 a0_0, .int .u8 a0_1, .int .u8 a0_2, .int .u8 a0_3, .int .u8 a0_4, .slice A0_5 l0_5.length c0_5]) (t := 66) ?hr ?_; (case hd => rfl); (case hg => rfl); (case hr => first | (go_simp; done) | (go_simp; rfl)); intro gb101 hg w5 hbox hb; have n0_ := Aside0.mk (below_step (B_ HB) hb); have n1_ := Aside0.mk (hbox); have n2_ := Aside0.mk ((by rw [hg]; exact (below_size (B_ HB)) : w.heap.size ≤ gb101)); have n3_ := Aside0.mk ((by rw [hg]; exact (below_size (B_ HB)) : w.heap.size ≤ gb101)); clear HB; have HB := n0_; have BK101 := n1_; have GW101 := n2_; have GE101 := n3_; clear n0_ n1_ n2_ n3_; clear hb hbox hg) | ((with_reducible refine gate_dst (N := 4) rfl ?_); (try (refine gate_guard (by rfl) ?_; dsimp only)); refine box_event ?hg (N := 4) ?hd (cs := #[.int .u8 a1_0, .int .u8 a1_1, .int .u8 a1_2, .int .u8 a1_3, .int .u8 a1_4, .int .u8 a1_5]) (t := 67) ?hr ?_; (case hd => rfl); (case hg => rfl); (case hr => first | (go_simp; done) | (go_simp; rfl)); intro gb102 hg w6 hbox hb; have n0_ := Aside0.mk (blk_below (g := gb101) (o := .cells #[.int .u8 a0_0, .int .u8 a0_1, .int .u8 a0_2, .int .u8 a0_3, .int .u8 a0_4, .slice A0_5 l0_5.length c0_5] 66 (0, 0)) (b_ BK101) hb); have n1_ := Aside0.mk (below_step (by repeat (first | (with_reducible first | exact HB.out | apply below_alloc | apply pw_below_drewN | apply below_drew1 | refine below_set ?_ GE101.out) | exact HB.out)) hb); have n2_ := Aside0.mk (hbox); have n3_ := Aside0.mk ((by rw [hg]; exact (below_size (by repeat (first | (with_reducible first | exact HB.out | apply below_alloc | apply pw_below_drewN | apply below_drew1 | refine below_set ?_ GE101.out) | exact HB.out))) : w.heap.size ≤ gb102)); have n4_ := Aside0.mk ((by rw [hg]; exact (below_size (by repeat (first | (with_reducible first | exact HB.out | apply below_alloc | apply pw_below_drewN | apply below_drew1 | refine below_set ?_ GE101.out) | exact HB.out))) : w.heap.size ≤ gb102)); have n5_ := Aside0.mk ((by rw [hg]; exact Nat.ne_of_lt (blk_lt (g := gb101) (o := .cells #[.int .u8 a0_0, .int .u8 a0_1, .int .u8 a0_2, .int .u8 a0_3, .int .u8 a0_4, .slice A0_5 l0_5.length c0_5] 66 (0, 0)) (b_ BK101)) : gb101 ≠ gb102)); have n6_ := Aside0.mk ((by rw [hg]; exact Nat.ne_of_gt (blk_lt (g := gb101) (o := .cells #[.int .u8 a0_0, .int .u8 a0_1, .int .u8 a0_2, .int .u8 a0_3, .int .u8 a0_4, .slice A0_5 l0_5.length c0_5] 66 (0, 0)) (b_ BK101)) : gb102 ≠ gb101)); clear BK101; clear HB; have BK101 := n0_; have HB := n1_; have BK102 := n2_; have GW102 := n3_; have GE102 := n4_; have NB101_102 := n5_; have NB102_101 := n6_; clear n0_ n1_ n2_ n3_ n4_ n5_ n6_; clear hb hbox hg) | ((with_reducible refine gate_dst (N := 5) rfl ?_); (try (refine gate_guard (by rfl) ?_; dsimp only)); refine box_event ?hg (N := 5) ?hd (cs := #[.int .u8 a2_0, .int .u8 a2_1, .int .u8 a2_2, .int .u8 a2_3, .int .u8 a2_4, .int .u8 a2_5]) (t := 67) ?hr ?_; (case hd => rfl); (case hg => rfl); (case hr => first | (go_simp; done) | (go_simp; rfl)); intro gb103 hg w7 hbox hb; have n0_ := Aside0.mk (blk_below (g := gb101) (o := .cells #[.int .u8 a0_0, .int .u8 a0_1, .int .u8 a0_2, .int .u8 a0_3, .int .u8 a0_4, .slice A0_5 l0_5.length c0_5] 66 (0, 0)) (b_ BK101) hb); have n1_ := Aside0.mk (blk_below (g := gb102) (o := .cells #[.int .u8 a1_0, .int .u8 a1_1, .int .u8 a1_2, .int .u8 a1_3, .int .u8 a1_4, .int .u8 a1_5] 67 (0, 0)) (b_ BK102) hb); have n2_ := Aside0.mk (below_step (by repeat (first | (with_reducible first | exact HB.out | apply below_alloc | apply pw_below_drewN | apply below_drew1 | refine below_set ?_ GE101.out | refine below_set ?_ GE102.out) | exact HB.out)) hb); have n3_ := Aside0.mk (hbox); have n4_ := Aside0.mk ((by rw [hg]; exact (below_size (by repeat (first | (with_reducible first | exact HB.out | apply below_alloc | apply pw_below_drewN | apply below_drew1 | refine below_set ?_ GE101.out | refine below_set ?_ GE102.out) | exact HB.out))) : w.heap.size ≤ gb103)); have n5_ := Aside0.mk ((by rw [hg]; exact (below_size (by repeat (first | (with_reducible first | exact HB.out | apply below_alloc | apply pw_below_drewN | apply below_drew1 | refine below_set ?_ GE101.out | refine below_set ?_ GE102.out) | exact HB.out))) : w.heap.size ≤ gb103)); have n6_ := Aside0.mk ((by rw [hg]; exact Nat.ne_of_lt (blk_lt (g := gb101) (o := .cells #[.int .u8 a0_0, .int .u8 a0_1, .int .u8 a0_2, .int .u8 a0_3, .int .u8 a0_4, .slice A0_5 l0_5.length c0_5] 66 (0, 0)) (b_ BK101)) : gb101 ≠ gb103)); have n7_ := Aside0.mk ((by rw [hg]; exact Nat.ne_of_gt (blk_lt (g := gb101) (o := .cells #[.int .u8 a0_0, .int .u8 a0_1, .int .u8 a0_2, .int .u8 a0_3, .int .u8 a0_4, .slice A0_5 l0_5.length c0_5] 66 (0, 0)) (b_ BK101)) : gb103 ≠ gb101)); have n8_ := Aside0.mk ((by rw [hg]; exact Nat.ne_of_lt (blk_lt (g := gb102) (o := .cells #[.int .u8 a1_0, .int .u8 a1_1, .int .u8 a1_2, .int .u8 a1_3, .int .u8 a1_4, .int .u8 a1_5] 67 (0, 0)) (b_ BK102)) : gb102 ≠ gb103)); have n9_ := Aside0.mk ((by rw [hg]; exact Nat.ne_of_gt (blk_lt (g := gb102) (o := .cells #[.int .u8 a1_0, .int .u8 a1_1, .int .u8 a1_2, .int .u8 a1_3, .int .u8 a1_4, .int .u8 a1_5] 67 (0, 0)) (b_ BK102)) : gb103 ≠ gb102)); clear BK101; clear BK102; clear HB; have BK101 := n0_; have BK102 := n1_; have HB := n2_; have BK103 := n3_; have GW103 := n4_; have GE103 := n5_; have NB101_103 := n6_; have NB103_101 := n7_; have NB102_103 := n8_; have NB103_102 := n9_; clear n0_ n1_ n2_ n3_ n4_ n5_ n6_ n7_ n8_ n9_; clear hb hbox hg; have hnb8 := NB101_102.out; have hnc8 := NB102_101.out; have hnb9 := NB101_103.out; have hnc9 := NB103_101.out; have hcz10_0 : w7.cell? ⟨gb101, 0, none⟩ = some (.int .u8 a0_0) := (blk_cell BK101.out 0).trans rfl; have hcz10_1 : w7.cell? ⟨gb101, 1, none⟩ = some (.int .u8 a0_1) := (blk_cell BK101.out 1).trans rfl; have hcz10_2 : w7.cell? ⟨gb101, 2, none⟩ = some (.int .u8 a0_2) := (blk_cell BK101.out 2).trans rfl; have hcz10_3 : w7.cell? ⟨gb101, 3, none⟩ = some (.int .u8 a0_3) := (blk_cell BK101.out 3).trans rfl; have hcz10_4 : w7.cell? ⟨gb101, 4, none⟩ = some (.int .u8 a0_4) := (blk_cell BK101.out 4).trans rfl; have hcz10_5 : w7.cell? ⟨gb101, 5, none⟩ = some (.slice A0_5 l0_5.length c0_5) := (blk_cell BK101.out 5).trans rfl; have hfz10_0 := blk_frozen BK101.out 0; have hfz10_1 := blk_frozen BK101.out 1; have hfz10_2 := blk_frozen BK101.out 2; have hfz10_3 := blk_frozen BK101.out 3; have hfz10_4 := blk_frozen BK101.out 4; have hfz10_5 := blk_frozen BK101.out 5) | ((with_reducible refine gate_callee (f := 41) rfl ?_); refine goesL_ (some 29) rfl rfl Tryd.func41 (by kernel_rfl) rfl #[.agg #[.int .u8 a0_0, .int .u8 a0_1, .int .u8 a0_2, .int .u8 a0_3, .int .u8 a0_4, .slice A0_5 l0_5.length c0_5]] rfl (by (try simp only [List.map_toArray, List.map_cons, List.map_nil]); first | done | rfl | (simp only [List.length_drop, List.length_take]; rfl)) ?_; (with_reducible refine (smaltolaw03_Rack_made.calls a0_0 a0_1 a0_2 a0_3 a0_4 _ _ l0_5 t104 t105 t106 t107 t108 t109 _ ?side1 ?side2 A4.out).mono ?_); (case side1 => repeat (first | exact (Kd.C_below HR0_5.out HB.out) | (with_reducible refine Kd.C_alloc ?_ _) | (with_reducible refine Kd.C_drewN ?_ _) | (with_reducible refine Kd.C_drew ?_))); (case side2 => exact HC0_5.out); rintro e w11 ⟨v110, rfl, ho0, hb⟩; refine ⟨_, rfl, ?_⟩; have n0_ := Aside0.mk (Kd.R_lower ho0 (below_size (by repeat (first | (with_reducible first | exact HB.out | apply below_alloc | apply pw_below_drewN | apply below_drew1 | refine below_set ?_ GE101.out | refine below_set ?_ GE102.out | refine below_set ?_ GE103.out) | exact HB.out)))); have n1_ := Aside0.mk (blk_below (g := gb101) (o := .cells #[.int .u8 a0_0, .int .u8 a0_1, .int .u8 a0_2, .int .u8 a0_3, .int .u8 a0_4, .slice A0_5 l0_5.length c0_5] 66 (0, 0)) (b_ BK101) hb); have n2_ := Aside0.mk (blk_below (g := gb102) (o := .cells #[.int .u8 a1_0, .int .u8 a1_1, .int .u8 a1_2, .int .u8 a1_3, .int .u8 a1_4, .int .u8 a1_5] 67 (0, 0)) (b_ BK102) hb); have n3_ := Aside0.mk (blk_below (g := gb103) (o := .cells #[.int .u8 a2_0, .int .u8 a2_1, .int .u8 a2_2, .int .u8 a2_3, .int .u8 a2_4, .int .u8 a2_5] 67 (0, 0)) (b_ BK103) hb); have n4_ := Aside0.mk (below_step (by repeat (first | (with_reducible first | exact HB.out | apply below_alloc | apply pw_below_drewN | apply below_drew1 | refine below_set ?_ GE101.out | refine below_set ?_ GE102.out | refine below_set ?_ GE103.out) | exact HB.out)) hb); clear BK101; clear BK102; clear BK103; clear HB; have HO111 := n0_; have BK101 := n1_; have BK102 := n2_; have BK103 := n3_; have HB := n4_; clear n0_ n1_ n2_ n3_ n4_; (try clear hb); (try clear hb2); (try clear hk); (try clear hi); (try clear ho0)) | ((with_reducible refine gate_dst (N := 7) rfl ?_); (try (refine gate_guard (by rfl) ?_; dsimp only)); refine box_event ?hg (N := 7) ?hd (cs := #[.int .i64 0, .int .i64 0, .int .i64 0, .int .i64 0, .int .i64 0]) (t := 23) ?hr ?_; (case hd => rfl); (case hg => rfl); (case hr => first | (go_simp; done) | (go_simp; rfl)); intro gb112 hg w12 hbox hb; have n0_ := Aside0.mk (Kd.R_below (R_ HO111) hb); have n1_ := Aside0.mk (blk_below (g := gb101) (o := .cells #[.int .u8 a0_0, .int .u8 a0_1, .int .u8 a0_2, .int .u8 a0_3, .int .u8 a0_4, .slice A0_5 l0_5.length c0_5] 66 (0, 0)) (b_ BK101) hb); have n2_ := Aside0.mk (blk_below (g := gb102) (o := .cells #[.int .u8 a1_0, .int .u8 a1_1, .int .u8 a1_2, .int .u8 a1_3, .int .u8 a1_4, .int .u8 a1_5] 67 (0, 0)) (b_ BK102) hb); have n3_ := Aside0.mk (blk_below (g := gb103) (o := .cells #[.int .u8 a2_0, .int .u8 a2_1, .int .u8 a2_2, .int .u8 a2_3, .int .u8 a2_4, .int .u8 a2_5] 67 (0, 0)) (b_ BK103) hb); have n4_ := Aside0.mk (below_step (by repeat (first | (with_reducible first | exact HB.out | apply below_alloc | apply pw_below_drewN | apply below_drew1 | refine below_set ?_ GE101.out | refine below_set ?_ GE102.out | refine below_set ?_ GE103.out) | exact HB.out)) hb); have n5_ := Aside0.mk (hbox); have n6_ := Aside0.mk ((by rw [hg]; exact (below_size (by repeat (first | (with_reducible first | exact HB.out | apply below_alloc | apply pw_below_drewN | apply below_drew1 | refine below_set ?_ GE101.out | refine below_set ?_ GE102.out | refine below_set ?_ GE103.out) | exact HB.out))) : w.heap.size ≤ gb112)); have n7_ := Aside0.mk ((by rw [hg]; exact (below_size (by repeat (first | (with_reducible first | exact HB.out | apply below_alloc | apply pw_below_drewN | apply below_drew1 | refine below_set ?_ GE101.out | refine below_set ?_ GE102.out | refine below_set ?_ GE103.out) | exact HB.out))) : w.heap.size ≤ gb112)); have n8_ := Aside0.mk ((by rw [hg]; exact Nat.ne_of_lt (blk_lt (g := gb101) (o := .cells #[.int .u8 a0_0, .int .u8 a0_1, .int .u8 a0_2, .int .u8 a0_3, .int .u8 a0_4, .slice A0_5 l0_5.length c0_5] 66 (0, 0)) (b_ BK101)) : gb101 ≠ gb112)); have n9_ := Aside0.mk ((by rw [hg]; exact Nat.ne_of_gt (blk_lt (g := gb101) (o := .cells #[.int .u8 a0_0, .int .u8 a0_1, .int .u8 a0_2, .int .u8 a0_3, .int .u8 a0_4, .slice A0_5 l0_5.length c0_5] 66 (0, 0)) (b_ BK101)) : gb112 ≠ gb101)); have n10_ := Aside0.mk ((by rw [hg]; exact Nat.ne_of_lt (blk_lt (g := gb102) (o := .cells #[.int .u8 a1_0, .int .u8 a1_1, .int .u8 a1_2, .int .u8 a1_3, .int .u8 a1_4, .int .u8 a1_5] 67 (0, 0)) (b_ BK102)) : gb102 ≠ gb112)); have n11_ := Aside0.mk ((by rw [hg]; exact Nat.ne_of_gt (blk_lt (g := gb102) (o := .cells #[.int .u8 a1_0, .int .u8 a1_1, .int .u8 a1_2, .int .u8 a1_3, .int .u8 a1_4, .int .u8 a1_5] 67 (0, 0)) (b_ BK102)) : gb112 ≠ gb102)); have n12_ := Aside0.mk ((by rw [hg]; exact Nat.ne_of_lt (blk_lt (g := gb103) (o := .cells #[.int .u8 a2_0, .int .u8 a2_1, .int .u8 a2_2, .int .u8 a2_3, .int .u8 a2_4, .int .u8 a2_5] 67 (0, 0)) (b_ BK103)) : gb103 ≠ gb112)); have n13_ := Aside0.mk ((by rw [hg]; exact Nat.ne_of_gt (blk_lt (g := gb103) (o := .cells #[.int .u8 a2_0, .int .u8 a2_1, .int .u8 a2_2, .int .u8 a2_3, .int .u8 a2_4, .int .u8 a2_5] 67 (0, 0)) (b_ BK103)) : gb112 ≠ gb103)); clear HO111; clear BK101; clear BK102; clear BK103; clear HB; have HO111 := n0_; have BK101 := n1_; have BK102 := n2_; have BK103 := n3_; have HB := n4_; have BK112 := n5_; have GW112 := n6_; have GE112 := n7_; have NB101_112 := n8_; have NB112_101 := n9_; have NB102_112 := n10_; have NB112_102 := n11_; have NB103_112 := n12_; have NB112_103 := n13_; clear n0_ n1_ n2_ n3_ n4_ n5_ n6_ n7_ n8_ n9_ n10_ n11_ n12_ n13_; clear hb hbox hg; have hnb13 := NB112_101.out; have hnc13 := NB101_112.out; have hnb14 := NB112_102.out; have hnc14 := NB102_112.out; have hnb15 := NB112_103.out; have hnc15 := NB103_112.out; have hcz16_0 : w12.cell? ⟨gb112, 0, none⟩ = some (.int .i64 0) := (blk_cell BK112.out 0).trans rfl; have hcz16_1 : w12.cell? ⟨gb112, 1, none⟩ = some (.int .i64 0) := (blk_cell BK112.out 1).trans rfl; have hcz16_2 : w12.cell? ⟨gb112, 2, none⟩ = some (.int .i64 0) := (blk_cell BK112.out 2).trans rfl; have hcz16_3 : w12.cell? ⟨gb112, 3, none⟩ = some (.int .i64 0) := (blk_cell BK112.out 3).trans rfl; have hcz16_4 : w12.cell? ⟨gb112, 4, none⟩ = some (.int .i64 0) := (blk_cell BK112.out 4).trans rfl; have hfz16_0 := blk_frozen BK112.out 0; have hfz16_1 := blk_frozen BK112.out 1; have hfz16_2 := blk_frozen BK112.out 2; have hfz16_3 := blk_frozen BK112.out 3; have hfz16_4 := blk_frozen BK112.out 4) | ((with_reducible refine gate_dst (N := 32) rfl ?_); (try (refine gate_guard (by rfl) ?_; dsimp only)); refine Kd.R_lit (Kd.int .i64) _ 3 ?hg (N := 32) ?hd (xs := ([] : List Int)) (inner := []) (ok := fun _ => True) (okp := fun _ => True) ?hr ?hp (fun _ hk => hk) trivial (Below.refl _ _) (Nat.le_refl _) (by simp) ?_; (case hd => rfl); (case hg => rfl); (case hr => first | (go_simp; done) | (go_simp; rfl)); (case hp => exact (Reps.none _ _)); intro v114 w17 ho18 hb hg_ hnew_; clear hg_ hnew_; (first | rw [← Ny113.out] at ho18 | (simp only [Int.reduceToNat] at ho18; rw [← Ny113.out] at ho18)); have n0_ := Aside0.mk (Kd.R_below (by (with_reducible repeat (first | apply Kd.R_alloc | apply Kd.R_drewN | apply Kd.R_drew)); exact (Kd.R_mono (Kd.R_far (p := ⟨gb112, 4, none⟩) (Kd.R_far (p := ⟨gb112, 3, none⟩) (Kd.R_far (p := ⟨gb112, 2, none⟩) (Kd.R_far (p := ⟨gb112, 1, none⟩) (Kd.R_far (p := ⟨gb112, 0, none⟩) (Kd.R_types HO111.out BK112.out (by decide)) (fun _ hk => hk.2) (.int .i64 t104)) (fun _ hk => hk.2) (.int .i64 t105)) (fun _ hk => hk.2) (.int .i64 t106)) (fun _ hk => hk.2) (.int .i64 t107)) (fun _ hk => hk.2) (.int .i64 t108)) (fun _ h_ => h_.1))) hb); have n1_ := Aside0.mk (Kd.R_lower ho18 (below_size (by repeat (first | (with_reducible first | exact HB.out | apply below_alloc | apply pw_below_drewN | apply below_drew1 | refine below_set ?_ GE101.out | refine below_set ?_ GE102.out | refine below_set ?_ GE103.out | refine below_set ?_ GE112.out) | exact HB.out)))); have n2_ := Aside0.mk (blk_below (g := gb101) (o := .cells #[.int .u8 a0_0, .int .u8 a0_1, .int .u8 a0_2, .int .u8 a0_3, .int .u8 a0_4, .slice A0_5 l0_5.length c0_5] 66 (0, 0)) (by (with_reducible repeat (first | refine blk_drewN ?_ _ | refine blk_drew ?_ | refine blk_alloc ?_ _)); refine blk_far ?_ NB101_112.out _; (with_reducible repeat (first | refine blk_drewN ?_ _ | refine blk_drew ?_ | refine blk_alloc ?_ _)); refine blk_far ?_ NB101_112.out _; (with_reducible repeat (first | refine blk_drewN ?_ _ | refine blk_drew ?_ | refine blk_alloc ?_ _)); refine blk_far ?_ NB101_112.out _; (with_reducible repeat (first | refine blk_drewN ?_ _ | refine blk_drew ?_ | refine blk_alloc ?_ _)); refine blk_far ?_ NB101_112.out _; (with_reducible repeat (first | refine blk_drewN ?_ _ | refine blk_drew ?_ | refine blk_alloc ?_ _)); refine blk_far ?_ NB101_112.out _; (with_reducible repeat (first | refine blk_drewN ?_ _ | refine blk_drew ?_ | refine blk_alloc ?_ _)); exact BK101.out) hb); have n3_ := Aside0.mk (blk_below (g := gb102) (o := .cells #[.int .u8 a1_0, .int .u8 a1_1, .int .u8 a1_2, .int .u8 a1_3, .int .u8 a1_4, .int .u8 a1_5] 67 (0, 0)) (by (with_reducible repeat (first | refine blk_drewN ?_ _ | refine blk_drew ?_ | refine blk_alloc ?_ _)); refine blk_far ?_ NB102_112.out _; (with_reducible repeat (first | refine blk_drewN ?_ _ | refine blk_drew ?_ | refine blk_alloc ?_ _)); refine blk_far ?_ NB102_112.out _; (with_reducible repeat (first | refine blk_drewN ?_ _ | refine blk_drew ?_ | refine blk_alloc ?_ _)); refine blk_far ?_ NB102_112.out _; (with_reducible repeat (first | refine blk_drewN ?_ _ | refine blk_drew ?_ | refine blk_alloc ?_ _)); refine blk_far ?_ NB102_112.out _; (with_reducible repeat (first | refine blk_drewN ?_ _ | refine blk_drew ?_ | refine blk_alloc ?_ _)); refine blk_far ?_ NB102_112.out _; (with_reducible repeat (first | refine blk_drewN ?_ _ | refine blk_drew ?_ | refine blk_alloc ?_ _)); exact BK102.out) hb); have n4_ := Aside0.mk (blk_below (g := gb103) (o := .cells #[.int .u8 a2_0, .int .u8 a2_1, .int .u8 a2_2, .int .u8 a2_3, .int .u8 a2_4, .int .u8 a2_5] 67 (0, 0)) (by (with_reducible repeat (first | refine blk_drewN ?_ _ | refine blk_drew ?_ | refine blk_alloc ?_ _)); refine blk_far ?_ NB103_112.out _; (with_reducible repeat (first | refine blk_drewN ?_ _ | refine blk_drew ?_ | refine blk_alloc ?_ _)); refine blk_far ?_ NB103_112.out _; (with_reducible repeat (first | refine blk_drewN ?_ _ | refine blk_drew ?_ | refine blk_alloc ?_ _)); refine blk_far ?_ NB103_112.out _; (with_reducible repeat (first | refine blk_drewN ?_ _ | refine blk_drew ?_ | refine blk_alloc ?_ _)); refine blk_far ?_ NB103_112.out _; (with_reducible repeat (first | refine blk_drewN ?_ _ | refine blk_drew ?_ | refine blk_alloc ?_ _)); refine blk_far ?_ NB103_112.out _; (with_reducible repeat (first | refine blk_drewN ?_ _ | refine blk_drew ?_ | refine blk_alloc ?_ _)); exact BK103.out) hb); have n5_ := Aside0.mk (blk_below (g := gb112) (o := .cells #[.int .i64 t104, .int .i64 t105, .int .i64 t106, .int .i64 t107, .int .i64 t108] 23 (0, 0)) (by (with_reducible repeat (first | refine blk_drewN ?_ _ | refine blk_drew ?_ | refine blk_alloc ?_ _)); refine blk_put (cs := #[.int .i64 t104, .int .i64 t105, .int .i64 t106, .int .i64 t107, .int .i64 0]) ?_ 4 _ rfl; (with_reducible repeat (first | refine blk_drewN ?_ _ | refine blk_drew ?_ | refine blk_alloc ?_ _)); refine blk_put (cs := #[.int .i64 t104, .int .i64 t105, .int .i64 t106, .int .i64 0, .int .i64 0]) ?_ 3 _ rfl; (with_reducible repeat (first | refine blk_drewN ?_ _ | refine blk_drew ?_ | refine blk_alloc ?_ _)); refine blk_put (cs := #[.int .i64 t104, .int .i64 t105, .int .i64 0, .int .i64 0, .int .i64 0]) ?_ 2 _ rfl; (with_reducible repeat (first | refine blk_drewN ?_ _ | refine blk_drew ?_ | refine blk_alloc ?_ _)); refine blk_put (cs := #[.int .i64 t104, .int .i64 0, .int .i64 0, .int .i64 0, .int .i64 0]) ?_ 1 _ rfl; (with_reducible repeat (first | refine blk_drewN ?_ _ | refine blk_drew ?_ | refine blk_alloc ?_ _)); refine blk_put (cs := #[.int .i64 0, .int .i64 0, .int .i64 0, .int .i64 0, .int .i64 0]) ?_ 0 _ rfl; (with_reducible repeat (first | refine blk_drewN ?_ _ | refine blk_drew ?_ | refine blk_alloc ?_ _)); exact BK112.out) hb); have n6_ := Aside0.mk (below_step (by repeat (first | (with_reducible first | exact HB.out | apply below_alloc | apply pw_below_drewN | apply below_drew1 | refine below_set ?_ GE101.out | refine below_set ?_ GE102.out | refine below_set ?_ GE103.out | refine below_set ?_ GE112.out) | exact HB.out)) hb); clear HO111; clear BK101; clear BK102; clear BK103; clear BK112; clear HB; have HO111 := n0_; have HO115 := n1_; have BK101 := n2_; have BK102 := n3_; have BK103 := n4_; have BK112 := n5_; have HB := n6_; clear n0_ n1_ n2_ n3_ n4_ n5_ n6_; clear hb ho18) | ((with_reducible refine gate_dst (N := 33) rfl ?_); (try (refine gate_guard (by rfl) ?_; dsimp only)); refine Kd.R_lit (Kd.int .i64) _ 3 ?hg (N := 33) ?hd (xs := ([] : List Int)) (inner := []) (ok := fun _ => True) (okp := fun _ => True) ?hr ?hp (fun _ hk => hk) trivial (Below.refl _ _) (Nat.le_refl _) (by simp) ?_; (case hd => rfl); (case hg => rfl); (case hr => first | (go_simp; done) | (go_simp; rfl)); (case hp => exact (Reps.none _ _)); intro v117 w19 ho20 hb hg_ hnew_; clear hg_ hnew_; (first | rw [← Ny116.out] at ho20 | (simp only [Int.reduceToNat] at ho20; rw [← Ny116.out] at ho20)); have n0_ := Aside0.mk (Kd.R_below (R_ HO111) hb); have n1_ := Aside0.mk (Kd.R_elder' (R_ HO115) (Kd.R_base ho20) hb); have n2_ := Aside0.mk (Kd.R_lower (Kd.R_new' ho20 (Kd.R_lt (R_ HO115))) (below_size (by repeat (first | (with_reducible first | exact HB.out | apply below_alloc | apply pw_below_drewN | apply below_drew1 | refine below_set ?_ GE101.out | refine below_set ?_ GE102.out | refine below_set ?_ GE103.out | refine below_set ?_ GE112.out) | exact HB.out)))); have n3_ := Aside0.mk (blk_below (g := gb101) (o := .cells #[.int .u8 a0_0, .int .u8 a0_1, .int .u8 a0_2, .int .u8 a0_3, .int .u8 a0_4, .slice A0_5 l0_5.length c0_5] 66 (0, 0)) (b_ BK101) hb); have n4_ := Aside0.mk (blk_below (g := gb102) (o := .cells #[.int .u8 a1_0, .int .u8 a1_1, .int .u8 a1_2, .int .u8 a1_3, .int .u8 a1_4, .int .u8 a1_5] 67 (0, 0)) (b_ BK102) hb); have n5_ := Aside0.mk (blk_below (g := gb103) (o := .cells #[.int .u8 a2_0, .int .u8 a2_1, .int .u8 a2_2, .int .u8 a2_3, .int .u8 a2_4, .int .u8 a2_5] 67 (0, 0)) (b_ BK103) hb); have n6_ := Aside0.mk (blk_below (g := gb112) (o := .cells #[.int .i64 t104, .int .i64 t105, .int .i64 t106, .int .i64 t107, .int .i64 t108] 23 (0, 0)) (b_ BK112) hb); have n7_ := Aside0.mk (below_step (by repeat (first | (with_reducible first | exact HB.out | apply below_alloc | apply pw_below_drewN | apply below_drew1 | refine below_set ?_ GE101.out | refine below_set ?_ GE102.out | refine below_set ?_ GE103.out | refine below_set ?_ GE112.out) | exact HB.out)) hb); clear HO111; clear HO115; clear BK101; clear BK102; clear BK103; clear BK112; clear HB; have HO111 := n0_; have HO115 := n1_; have HO118 := n2_; have BK101 := n3_; have BK102 := n4_; have BK103 := n5_; have BK112 := n6_; have HB := n7_; clear n0_ n1_ n2_ n3_ n4_ n5_ n6_ n7_; clear hb ho20))
 go_loopg [9, 11] k (fun kq v9 v11 w' => ∃ (x9_1 : List Int) (x11_1 : Int), v11 = .int .i64 x11_1 ∧ Aside0 (lP.l0 kq t109 x9_1 y116 x11_1 a1_0 a1_1 a1_2 a1_3 a1_4 a1_5 a2_0 a2_1 a2_2 a2_3 a2_4 a2_5 t104 t105 t106 t107 t108 = some r) ∧ Aside0 (kq ≤ k) ∧ Aside0 (Kd.R k74 74 w' w.heap.size (fun _ => True) v110 t109) ∧ Aside0 (Kd.R (Kd.int .i64) 3 w' w.heap.size (fun k_ => some k_ ≠ (v117 : Value).ownBlock) v9 x9_1) ∧ Aside0 (Kd.R (Kd.int .i64) 3 w' w.heap.size (fun k_ => some k_ ≠ (v9 : Value).ownBlock) v117 y116) ∧ Aside0 (w'.heap[gb101]? = some (.cells #[.int .u8 a0_0, .int .u8 a0_1, .int .u8 a0_2, .int .u8 a0_3, .int .u8 a0_4, (.slice A0_5 l0_5.length c0_5)] 66 (0, 0))) ∧ Aside0 (w'.heap[gb102]? = some (.cells #[.int .u8 a1_0, .int .u8 a1_1, .int .u8 a1_2, .int .u8 a1_3, .int .u8 a1_4, .int .u8 a1_5] 67 (0, 0))) ∧ Aside0 (w'.heap[gb103]? = some (.cells #[.int .u8 a2_0, .int .u8 a2_1, .int .u8 a2_2, .int .u8 a2_3, .int .u8 a2_4, .int .u8 a2_5] 67 (0, 0))) ∧ Aside0 (w'.heap[gb112]? = some (.cells #[.int .i64 t104, .int .i64 t105, .int .i64 t106, .int .i64 t107, .int .i64 t108] 23 (0, 0))) ∧ Aside0 (Below w.heap.size w w'))
 case atStart => exact ⟨(y113), (0), (by first | rfl | (simp; done) | (simp [*]; done)), H', ⟨Nat.le_refl _⟩, ⟨R_ HO111⟩, ⟨Kd.R_mono (R_ HO115) (fun _ hk => hk.2)⟩, ⟨Kd.R_mono (R_ HO118) (fun _ hk => hk.2)⟩, ⟨b_ BK101⟩, ⟨b_ BK102⟩, ⟨b_ BK103⟩, ⟨b_ BK112⟩, ⟨by repeat (first | (with_reducible first | exact HB.out | apply below_alloc | apply pw_below_drewN | apply below_drew1 | refine below_set ?_ GE101.out | refine below_set ?_ GE102.out | refine below_set ?_ GE103.out | refine below_set ?_ GE112.out) | exact HB.out)⟩⟩
 case round => as_aux_lemma =>
  clear H'
  try clear hcz10_0
  try clear hcz10_1
  try clear hcz10_2
  try clear hcz10_3
  try clear hcz10_4
  try clear hcz10_5
  try clear hcz16_0
  try clear hcz16_1
  try clear hcz16_2
  try clear hcz16_3
  try clear hcz16_4
  try clear hfz10_0
  try clear hfz10_1
  try clear hfz10_2
  try clear hfz10_3
  try clear hfz10_4
  try clear hfz10_5
  try clear hfz16_0
  try clear hfz16_1
  try clear hfz16_2
  try clear hfz16_3
  try clear hfz16_4
  obtain ⟨x9_1, x11_1, rfl, HA, HK1, HO_8, HO_9, HO_10, BK101, BK102, BK103, BK112, HB⟩ := hrel
  rcases gk with _ | k1
  ·exact absurd HA.out (by simp [lP.l0])
  have H := HA.out
  clear HA
  simp only [lP.l0] at H
  by_cases c21 : x11_1 < (t109.length : Int)
  ·rw [if_pos c21] at H
   have c21b0 : decide (x11_1 < (t109.length : Int)) = true := decide_eq_true c21
   clear c21
   by_cases c22 : 0 ≤ x11_1
   ·rw [if_pos c22] at H
    have c22b0 : decide (0 ≤ x11_1) = true := decide_eq_true c22
    clear c22
    by_cases c23 : x11_1 < 6
    ·rw [if_pos c23] at H
     have c23b0 : decide (x11_1 < 6) = true := decide_eq_true c23
     clear c23
     by_cases c24 : x9_1.length < 17592186044416
     ·rw [if_pos c24] at H
      have LMc24 := Aside0.mk c24
      clear c24
      obtain ⟨y120, hy120⟩ : ∃ y_ : List Int, y_ = (x9_1 ++ [Int.tmod (wrap64 (rd [a1_0, a1_1, a1_2, a1_3, a1_4, a1_5] x11_1)) 6]) := ⟨_, rfl⟩
      replace H : (lP.l0 k1 t109 y120 y116 (wrap64 (x11_1 + 1)) a1_0 a1_1 a1_2 a1_3 a1_4 a1_5 a2_0 a2_1 a2_2 a2_3 a2_4 a2_5 t104 t105 t106 t107 t108) = some r := by first | (rw [hy120]; with_reducible exact H) | (have H2_ := (Option.bind_some _ _).symm.trans H; rw [hy120]; with_reducible exact H2_) | (have H2_ := (Option.bind_some _ _).symm.trans H; with_reducible exact H2_) | with_reducible exact H | (rw [hy120]; exact H) | exact H
      have Ny120 := Aside0.mk hy120
      clear hy120
      have H' := Aside0.mk H
      clear H
      obtain ⟨Ao25, co25, eo25⟩ := Kd.R_slice HO_8.out
      subst eo25
      have hnb26 := NB102_101.out
      have hnc26 := NB101_102.out
      have hnb27 := NB102_103.out
      have hnc27 := NB103_102.out
      have hnb28 := NB102_112.out
      have hnc28 := NB112_102.out
      have hcz29_0 : wr.cell? ⟨gb102, 0, none⟩ = some (.int .u8 a1_0) := (blk_cell BK102.out 0).trans rfl
      have hcz29_1 : wr.cell? ⟨gb102, 1, none⟩ = some (.int .u8 a1_1) := (blk_cell BK102.out 1).trans rfl
      have hcz29_2 : wr.cell? ⟨gb102, 2, none⟩ = some (.int .u8 a1_2) := (blk_cell BK102.out 2).trans rfl
      have hcz29_3 : wr.cell? ⟨gb102, 3, none⟩ = some (.int .u8 a1_3) := (blk_cell BK102.out 3).trans rfl
      have hcz29_4 : wr.cell? ⟨gb102, 4, none⟩ = some (.int .u8 a1_4) := (blk_cell BK102.out 4).trans rfl
      have hcz29_5 : wr.cell? ⟨gb102, 5, none⟩ = some (.int .u8 a1_5) := (blk_cell BK102.out 5).trans rfl
      have hfz29_0 := blk_frozen BK102.out 0
      have hfz29_1 := blk_frozen BK102.out 1
      have hfz29_2 := blk_frozen BK102.out 2
      have hfz29_3 := blk_frozen BK102.out 3
      have hfz29_4 := blk_frozen BK102.out 4
      have hfz29_5 := blk_frozen BK102.out 5
      have p119 : 0 ≤ (x11_1 : Int) := of_decide_eq_true (by first | (with_reducible assumption) | assumption)
      have q119 : (x11_1 : Int) < (6 : Int) := of_decide_eq_true (by first | (with_reducible assumption) | assumption)
      have hy119 := @arr_cell .u8 [a1_0, a1_1, a1_2, a1_3, a1_4, a1_5] x11_1 p119 q119
      have hx119_0 : wr.cell? ⟨gb102, (x11_1).toNat, none⟩ = some (.int .u8 (rd [a1_0, a1_1, a1_2, a1_3, a1_4, a1_5] x11_1)) := hy119 (BK102.out) rfl
      clear hy119
      replace p119 := eq_true p119
      replace q119 := eq_true q119
      go_wp2_with (first | ((with_reducible refine gate_builtin (b := .append) (xs := #[.tmp 40, .tmp 46]) rfl ?_); (try (refine gate_guard (by rfl) ?_; dsimp only)); at_builtin; refine Kd.R_append (Kd.int .i64) (w0 := w) w.heap.size rfl (.tmp 40) (.tmp 46) 25 3 (.int .i64 0) 8 rfl Tryd.underlying25 info3 rfl (by decide) (by omega) u9 x9_1 (Int.tmod (wrap64 (rd [a1_0, a1_1, a1_2, a1_3, a1_4, a1_5] x11_1)) 6) [.int .i64 (Int.tmod (wrap64 (rd [a1_0, a1_1, a1_2, a1_3, a1_4, a1_5] x11_1)) 6)] (fun k_ => some k_ ≠ (v117 : Value).ownBlock) (fun _ => False) rfl rfl ?aP (fun _ hk => hk.elim) ?aF ?aO ?aB ?aS ?aL ?_; (case aP => exact rfl); (case aB => exact (by repeat (first | (with_reducible first | exact HB.out | apply below_alloc | apply pw_below_drewN | apply below_drew1 | refine below_set ?_ GE101.out | refine below_set ?_ GE102.out | refine below_set ?_ GE103.out | refine below_set ?_ GE112.out) | exact HB.out))); (case aF => exact (fun k_ hk => Kd.fresh' (Kd.R_lt (R_ HO_10)) k_ hk)); (case aO => exact (R_ HO_9)); (case aS => exact (below_size (by repeat (first | (with_reducible first | exact HB.out | apply below_alloc | apply pw_below_drewN | apply below_drew1 | refine below_set ?_ GE101.out | refine below_set ?_ GE102.out | refine below_set ?_ GE103.out | refine below_set ?_ GE112.out) | exact HB.out)))); (case aL => have := LMc24.out; omega); intro v121 w30 ho hb hg hat; rw [← Ny120.out] at ho; have n0_ := Aside0.mk (Kd.R_over' (R_ HO_8) (Kd.R_typed (R_ HO_9)) (by decide) hg); have n1_ := Aside0.mk (Kd.R_after (ok := (fun _ => True)) (Kd.R_mono (R_ HO_10) (fun _ hk => ⟨trivial, hk⟩)) hg hat); have n2_ := Aside0.mk (blk_grown (g := gb101) (o := .cells #[.int .u8 a0_0, .int .u8 a0_1, .int .u8 a0_2, .int .u8 a0_3, .int .u8 a0_4, .slice A0_5 l0_5.length c0_5] 66 (0, 0)) (b_ BK101) hg (Kd.R_ne HO_9.out BK101.out (by decide))); have n3_ := Aside0.mk (blk_grown (g := gb102) (o := .cells #[.int .u8 a1_0, .int .u8 a1_1, .int .u8 a1_2, .int .u8 a1_3, .int .u8 a1_4, .int .u8 a1_5] 67 (0, 0)) (b_ BK102) hg (Kd.R_ne HO_9.out BK102.out (by decide))); have n4_ := Aside0.mk (blk_grown (g := gb103) (o := .cells #[.int .u8 a2_0, .int .u8 a2_1, .int .u8 a2_2, .int .u8 a2_3, .int .u8 a2_4, .int .u8 a2_5] 67 (0, 0)) (b_ BK103) hg (Kd.R_ne HO_9.out BK103.out (by decide))); have n5_ := Aside0.mk (blk_grown (g := gb112) (o := .cells #[.int .i64 t104, .int .i64 t105, .int .i64 t106, .int .i64 t107, .int .i64 t108] 23 (0, 0)) (b_ BK112) hg (Kd.R_ne HO_9.out BK112.out (by decide))); have n6_ := Aside0.mk (hb); have n7_ := Aside0.mk (ho); clear HO_8; clear HO_10; clear BK101; clear BK102; clear BK103; clear BK112; clear HB; clear HO_9; have HO_8 := n0_; have HO_10 := n1_; have BK101 := n2_; have BK102 := n3_; have BK103 := n4_; have BK112 := n5_; have HB := n6_; have HO122 := n7_; clear n0_ n1_ n2_ n3_ n4_ n5_ n6_ n7_; clear ho hb hg hat))
      go_roundg k1
      case measure => have := HK1.out; omega
      case rel => exact ⟨(y120), (wrap64 (x11_1 + 1)), (by first | rfl | (simp; done) | (simp [*]; done)), H', ⟨by have := HK1.out; omega⟩, ⟨R_ HO_8⟩, ⟨R_ HO122⟩, ⟨Kd.R_mono (R_ HO_10) (fun _ hk => hk.2)⟩, ⟨b_ BK101⟩, ⟨b_ BK102⟩, ⟨b_ BK103⟩, ⟨b_ BK112⟩, ⟨by repeat (first | (with_reducible first | exact HB.out | apply below_alloc | apply pw_below_drewN | apply below_drew1 | refine below_set ?_ GE101.out | refine below_set ?_ GE102.out | refine below_set ?_ GE103.out | refine below_set ?_ GE112.out) | exact HB.out)⟩⟩
     rw [if_neg c24] at H
     exact absurd H (by simp)
    rw [if_neg c23] at H
    exact absurd H (by simp)
   rw [if_neg c22] at H
   exact absurd H (by simp)
  rw [if_neg c21] at H
  have c21b0 : decide (x11_1 < (t109.length : Int)) = false := decide_eq_false c21
  clear c21
  replace H := Option.bind_eq_some_iff.mp H
  obtain ⟨t123, A310, H⟩ := H
  replace H : (lP.l1 k1 t109 x9_1 y116 t123 0 a2_0 a2_1 a2_2 a2_3 a2_4 a2_5 t104 t105 t106 t107 t108) = some r := H
  have A31 := Aside0.mk A310
  clear A310
  have H' := Aside0.mk H
  clear H
  obtain ⟨Ao32, co32, eo32⟩ := Kd.R_slice HO_8.out
  subst eo32
  obtain ⟨Ao33, co33, eo33⟩ := Kd.R_slice HO_9.out
  subst eo33
  go_wp2_with (first | ((with_reducible refine gate_callee (f := 49) rfl ?_); refine goesL_ (some 49) rfl rfl Tryd.func49 (by kernel_rfl) rfl #[.slice Ao33 x9_1.length co33] rfl (by (try simp only [List.map_toArray, List.map_cons, List.map_nil]); first | done | rfl | (simp only [List.length_drop, List.length_take]; rfl)) ?_; (with_reducible refine (smaltolaw03_count.calls k1 _ _ x9_1 t123 _ ?side1 ?side2 A31.out).mono ?_); (case side1 => repeat (first | exact (Kd.R_reads' HO_9.out).2.2 | (with_reducible refine Kd.C_alloc ?_ _) | (with_reducible refine Kd.C_drewN ?_ _) | (with_reducible refine Kd.C_drew ?_))); (case side2 => exact (Kd.R_reads' HO_9.out).2.1); rintro e w34 ⟨rfl, hb⟩; refine ⟨_, rfl, ?_⟩; have n0_ := Aside0.mk (Kd.R_below (R_ HO_8) hb); have n1_ := Aside0.mk (Kd.R_below (R_ HO_9) hb); have n2_ := Aside0.mk (Kd.R_below (R_ HO_10) hb); have n3_ := Aside0.mk (blk_below (g := gb101) (o := .cells #[.int .u8 a0_0, .int .u8 a0_1, .int .u8 a0_2, .int .u8 a0_3, .int .u8 a0_4, .slice A0_5 l0_5.length c0_5] 66 (0, 0)) (b_ BK101) hb); have n4_ := Aside0.mk (blk_below (g := gb102) (o := .cells #[.int .u8 a1_0, .int .u8 a1_1, .int .u8 a1_2, .int .u8 a1_3, .int .u8 a1_4, .int .u8 a1_5] 67 (0, 0)) (b_ BK102) hb); have n5_ := Aside0.mk (blk_below (g := gb103) (o := .cells #[.int .u8 a2_0, .int .u8 a2_1, .int .u8 a2_2, .int .u8 a2_3, .int .u8 a2_4, .int .u8 a2_5] 67 (0, 0)) (b_ BK103) hb); have n6_ := Aside0.mk (blk_below (g := gb112) (o := .cells #[.int .i64 t104, .int .i64 t105, .int .i64 t106, .int .i64 t107, .int .i64 t108] 23 (0, 0)) (b_ BK112) hb); have n7_ := Aside0.mk (below_step (by repeat (first | (with_reducible first | exact HB.out | apply below_alloc | apply pw_below_drewN | apply below_drew1 | refine below_set ?_ GE101.out | refine below_set ?_ GE102.out | refine below_set ?_ GE103.out | refine below_set ?_ GE112.out) | exact HB.out)) hb); clear HO_8; clear HO_9; clear HO_10; clear BK101; clear BK102; clear BK103; clear BK112; clear HB; have HO_8 := n0_; have HO_9 := n1_; have HO_10 := n2_; have BK101 := n3_; have BK102 := n4_; have BK103 := n5_; have BK112 := n6_; have HB := n7_; clear n0_ n1_ n2_ n3_ n4_ n5_ n6_ n7_; (try clear hb); (try clear hb2); (try clear hk); (try clear hi)))
  go_loopg [10, 13] k1 (fun kq v10 v13 w' => ∃ (x10_2 : List Int) (x13_2 : Int), v13 = .int .i64 x13_2 ∧ Aside0 (lP.l1 kq t109 x9_1 x10_2 t123 x13_2 a2_0 a2_1 a2_2 a2_3 a2_4 a2_5 t104 t105 t106 t107 t108 = some r) ∧ Aside0 (kq ≤ k1) ∧ Aside0 (Kd.R k74 74 w' w.heap.size (fun _ => True) (.slice Ao32 t109.length co32) t109) ∧ Aside0 (Kd.R (Kd.int .i64) 3 w' w.heap.size (fun k_ => some k_ ≠ (v10 : Value).ownBlock) (.slice Ao33 x9_1.length co33) x9_1) ∧ Aside0 (Kd.R (Kd.int .i64) 3 w' w.heap.size (fun k_ => some k_ ≠ ((.slice Ao33 x9_1.length co33) : Value).ownBlock) v10 x10_2) ∧ Aside0 (w'.heap[gb101]? = some (.cells #[.int .u8 a0_0, .int .u8 a0_1, .int .u8 a0_2, .int .u8 a0_3, .int .u8 a0_4, (.slice A0_5 l0_5.length c0_5)] 66 (0, 0))) ∧ Aside0 (w'.heap[gb102]? = some (.cells #[.int .u8 a1_0, .int .u8 a1_1, .int .u8 a1_2, .int .u8 a1_3, .int .u8 a1_4, .int .u8 a1_5] 67 (0, 0))) ∧ Aside0 (w'.heap[gb103]? = some (.cells #[.int .u8 a2_0, .int .u8 a2_1, .int .u8 a2_2, .int .u8 a2_3, .int .u8 a2_4, .int .u8 a2_5] 67 (0, 0))) ∧ Aside0 (w'.heap[gb112]? = some (.cells #[.int .i64 t104, .int .i64 t105, .int .i64 t106, .int .i64 t107, .int .i64 t108] 23 (0, 0))) ∧ Aside0 (Below w.heap.size w w'))
  case atStart => exact ⟨(y116), (0), (by first | rfl | (simp; done) | (simp [*]; done)), H', ⟨Nat.le_refl _⟩, ⟨R_ HO_8⟩, ⟨R_ HO_9⟩, ⟨R_ HO_10⟩, ⟨b_ BK101⟩, ⟨b_ BK102⟩, ⟨b_ BK103⟩, ⟨b_ BK112⟩, ⟨by repeat (first | (with_reducible first | exact HB.out | apply below_alloc | apply pw_below_drewN | apply below_drew1 | refine below_set ?_ GE101.out | refine below_set ?_ GE102.out | refine below_set ?_ GE103.out | refine below_set ?_ GE112.out) | exact HB.out)⟩⟩
  case round => as_aux_lemma =>
   clear H'
   try clear c21
   try clear c21b0
   obtain ⟨x10_2, x13_2, rfl, HA, HK2, HO_8, HO_9, HO_10, BK101, BK102, BK103, BK112, HB⟩ := hrel
   rcases gk with _ | k2
   ·exact absurd HA.out (by simp [lP.l1])
   have H := HA.out
   clear HA
   simp only [lP.l1] at H
   by_cases c35 : x13_2 < (t109.length : Int)
   ·rw [if_pos c35] at H
    have c35b0 : decide (x13_2 < (t109.length : Int)) = true := decide_eq_true c35
    clear c35
    by_cases c36 : 0 ≤ x13_2
    ·rw [if_pos c36] at H
     have c36b0 : decide (0 ≤ x13_2) = true := decide_eq_true c36
     clear c36
     by_cases c37 : x13_2 < 6
     ·rw [if_pos c37] at H
      have c37b0 : decide (x13_2 < 6) = true := decide_eq_true c37
      clear c37
      by_cases c38 : t123 = 0
      ·rw [if_pos c38] at H
       exact absurd H (by simp)
      rw [if_neg c38] at H
      have c38b0 : (t123 == 0) = false := beq_eq_false_iff_ne.mpr c38
      have c38b1 : (t123 != 0) = true := bne_iff_ne.mpr c38
      by_cases c39 : x10_2.length < 17592186044416
      ·rw [if_pos c39] at H
       have LMc39 := Aside0.mk c39
       clear c39
       obtain ⟨y125, hy125⟩ : ∃ y_ : List Int, y_ = (x10_2 ++ [Int.tmod (wrap64 (rd [a2_0, a2_1, a2_2, a2_3, a2_4, a2_5] x13_2)) t123]) := ⟨_, rfl⟩
       replace H : (lP.l1 k2 t109 x9_1 y125 t123 (wrap64 (x13_2 + 1)) a2_0 a2_1 a2_2 a2_3 a2_4 a2_5 t104 t105 t106 t107 t108) = some r := by first | (rw [hy125]; with_reducible exact H) | (have H2_ := (Option.bind_some _ _).symm.trans H; rw [hy125]; with_reducible exact H2_) | (have H2_ := (Option.bind_some _ _).symm.trans H; with_reducible exact H2_) | with_reducible exact H | (rw [hy125]; exact H) | exact H
       have Ny125 := Aside0.mk hy125
       clear hy125
       have H' := Aside0.mk H
       clear H
       have hnb40 := NB103_101.out
       have hnc40 := NB101_103.out
       have hnb41 := NB103_102.out
       have hnc41 := NB102_103.out
       have hnb42 := NB103_112.out
       have hnc42 := NB112_103.out
       have hcz43_0 : wr.cell? ⟨gb103, 0, none⟩ = some (.int .u8 a2_0) := (blk_cell BK103.out 0).trans rfl
       have hcz43_1 : wr.cell? ⟨gb103, 1, none⟩ = some (.int .u8 a2_1) := (blk_cell BK103.out 1).trans rfl
       have hcz43_2 : wr.cell? ⟨gb103, 2, none⟩ = some (.int .u8 a2_2) := (blk_cell BK103.out 2).trans rfl
       have hcz43_3 : wr.cell? ⟨gb103, 3, none⟩ = some (.int .u8 a2_3) := (blk_cell BK103.out 3).trans rfl
       have hcz43_4 : wr.cell? ⟨gb103, 4, none⟩ = some (.int .u8 a2_4) := (blk_cell BK103.out 4).trans rfl
       have hcz43_5 : wr.cell? ⟨gb103, 5, none⟩ = some (.int .u8 a2_5) := (blk_cell BK103.out 5).trans rfl
       have hfz43_0 := blk_frozen BK103.out 0
       have hfz43_1 := blk_frozen BK103.out 1
       have hfz43_2 := blk_frozen BK103.out 2
       have hfz43_3 := blk_frozen BK103.out 3
       have hfz43_4 := blk_frozen BK103.out 4
       have hfz43_5 := blk_frozen BK103.out 5
       have p124 : 0 ≤ (x13_2 : Int) := of_decide_eq_true (by first | (with_reducible assumption) | assumption)
       have q124 : (x13_2 : Int) < (6 : Int) := of_decide_eq_true (by first | (with_reducible assumption) | assumption)
       have hy124 := @arr_cell .u8 [a2_0, a2_1, a2_2, a2_3, a2_4, a2_5] x13_2 p124 q124
       have hx124_0 : wr.cell? ⟨gb103, (x13_2).toNat, none⟩ = some (.int .u8 (rd [a2_0, a2_1, a2_2, a2_3, a2_4, a2_5] x13_2)) := hy124 (BK103.out) rfl
       clear hy124
       replace p124 := eq_true p124
       replace q124 := eq_true q124
       go_wp2_with (first | ((with_reducible refine gate_builtin (b := .append) (xs := #[.tmp 56, .tmp 63]) rfl ?_); (try (refine gate_guard (by rfl) ?_; dsimp only)); at_builtin; refine Kd.R_append (Kd.int .i64) (w0 := w) w.heap.size rfl (.tmp 56) (.tmp 63) 25 3 (.int .i64 0) 8 rfl Tryd.underlying25 info3 rfl (by decide) (by omega) u10 x10_2 (Int.tmod (wrap64 (rd [a2_0, a2_1, a2_2, a2_3, a2_4, a2_5] x13_2)) t123) [.int .i64 (Int.tmod (wrap64 (rd [a2_0, a2_1, a2_2, a2_3, a2_4, a2_5] x13_2)) t123)] (fun k_ => some k_ ≠ (.slice Ao33 x9_1.length co33 : Value).ownBlock) (fun _ => False) rfl rfl ?aP (fun _ hk => hk.elim) ?aF ?aO ?aB ?aS ?aL ?_; (case aP => exact rfl); (case aB => exact (by repeat (first | (with_reducible first | exact HB.out | apply below_alloc | apply pw_below_drewN | apply below_drew1 | refine below_set ?_ GE101.out | refine below_set ?_ GE102.out | refine below_set ?_ GE103.out | refine below_set ?_ GE112.out) | exact HB.out))); (case aF => exact (fun k_ hk => Kd.fresh' (Kd.R_lt (R_ HO_9)) k_ hk)); (case aO => exact (R_ HO_10)); (case aS => exact (below_size (by repeat (first | (with_reducible first | exact HB.out | apply below_alloc | apply pw_below_drewN | apply below_drew1 | refine below_set ?_ GE101.out | refine below_set ?_ GE102.out | refine below_set ?_ GE103.out | refine below_set ?_ GE112.out) | exact HB.out)))); (case aL => have := LMc39.out; omega); intro v126 w44 ho hb hg hat; rw [← Ny125.out] at ho; have n0_ := Aside0.mk (Kd.R_over' (R_ HO_8) (Kd.R_typed (R_ HO_10)) (by decide) hg); have n1_ := Aside0.mk (Kd.R_after (ok := (fun _ => True)) (Kd.R_mono (R_ HO_9) (fun _ hk => ⟨trivial, hk⟩)) hg hat); have n2_ := Aside0.mk (blk_grown (g := gb101) (o := .cells #[.int .u8 a0_0, .int .u8 a0_1, .int .u8 a0_2, .int .u8 a0_3, .int .u8 a0_4, .slice A0_5 l0_5.length c0_5] 66 (0, 0)) (b_ BK101) hg (Kd.R_ne HO_10.out BK101.out (by decide))); have n3_ := Aside0.mk (blk_grown (g := gb102) (o := .cells #[.int .u8 a1_0, .int .u8 a1_1, .int .u8 a1_2, .int .u8 a1_3, .int .u8 a1_4, .int .u8 a1_5] 67 (0, 0)) (b_ BK102) hg (Kd.R_ne HO_10.out BK102.out (by decide))); have n4_ := Aside0.mk (blk_grown (g := gb103) (o := .cells #[.int .u8 a2_0, .int .u8 a2_1, .int .u8 a2_2, .int .u8 a2_3, .int .u8 a2_4, .int .u8 a2_5] 67 (0, 0)) (b_ BK103) hg (Kd.R_ne HO_10.out BK103.out (by decide))); have n5_ := Aside0.mk (blk_grown (g := gb112) (o := .cells #[.int .i64 t104, .int .i64 t105, .int .i64 t106, .int .i64 t107, .int .i64 t108] 23 (0, 0)) (b_ BK112) hg (Kd.R_ne HO_10.out BK112.out (by decide))); have n6_ := Aside0.mk (hb); have n7_ := Aside0.mk (ho); clear HO_8; clear HO_9; clear BK101; clear BK102; clear BK103; clear BK112; clear HB; clear HO_10; have HO_8 := n0_; have HO_9 := n1_; have BK101 := n2_; have BK102 := n3_; have BK103 := n4_; have BK112 := n5_; have HB := n6_; have HO127 := n7_; clear n0_ n1_ n2_ n3_ n4_ n5_ n6_ n7_; clear ho hb hg hat))
       go_roundg k2
       case measure => have := HK1.out; have := HK2.out; omega
       case rel => exact ⟨(y125), (wrap64 (x13_2 + 1)), (by first | rfl | (simp; done) | (simp [*]; done)), H', ⟨by have := HK1.out; have := HK2.out; omega⟩, ⟨R_ HO_8⟩, ⟨Kd.R_mono (R_ HO_9) (fun _ hk => hk.2)⟩, ⟨R_ HO127⟩, ⟨b_ BK101⟩, ⟨b_ BK102⟩, ⟨b_ BK103⟩, ⟨b_ BK112⟩, ⟨by repeat (first | (with_reducible first | exact HB.out | apply below_alloc | apply pw_below_drewN | apply below_drew1 | refine below_set ?_ GE101.out | refine below_set ?_ GE102.out | refine below_set ?_ GE103.out | refine below_set ?_ GE112.out) | exact HB.out)⟩⟩
      rw [if_neg c39] at H
      exact absurd H (by simp)
     rw [if_neg c37] at H
     exact absurd H (by simp)
    rw [if_neg c36] at H
    exact absurd H (by simp)
   rw [if_neg c35] at H
   have c35b0 : decide (x13_2 < (t109.length : Int)) = false := decide_eq_false c35
   clear c35
   replace H := Option.bind_eq_some_iff.mp H
   obtain ⟨t128, A450, H⟩ := H
   replace H : ((smaltolaw03_ints.f x9_1).bind fun t131 => ((fork_Put.f t104 t105 t106 t107 t108 t128 t131).bind fun bt134 => (if bt134.2.2 = 0 then (lP.j2 k2 t109 x9_1 x10_2 t123 bt134.1 bt134.2.1 bt134.2.2 ((bt134.1.length : Int) != (t109.length : Int)) t104 t105 t106 t107 t108) else (if bt134.2.2 = 7 then (if (bt134.1.length : Int) = 0 then (if bt134.2.1 = 0 then (lP.j2 k2 t109 x9_1 x10_2 t123 bt134.1 bt134.2.1 bt134.2.2 false t104 t105 t106 t107 t108) else (lP.j2 k2 t109 x9_1 x10_2 t123 bt134.1 bt134.2.1 bt134.2.2 true t104 t105 t106 t107 t108)) else (lP.j2 k2 t109 x9_1 x10_2 t123 bt134.1 bt134.2.1 bt134.2.2 true t104 t105 t106 t107 t108)) else (lP.j2 k2 t109 x9_1 x10_2 t123 bt134.1 bt134.2.1 bt134.2.2 true t104 t105 t106 t107 t108))))) = some r := H
   have A45 := Aside0.mk A450
   clear A450
   replace H := Option.bind_eq_some_iff.mp H
   obtain ⟨t131, A460, H⟩ := H
   replace H : ((fork_Put.f t104 t105 t106 t107 t108 t128 t131).bind fun bt134 => (if bt134.2.2 = 0 then (lP.j2 k2 t109 x9_1 x10_2 t123 bt134.1 bt134.2.1 bt134.2.2 ((bt134.1.length : Int) != (t109.length : Int)) t104 t105 t106 t107 t108) else (if bt134.2.2 = 7 then (if (bt134.1.length : Int) = 0 then (if bt134.2.1 = 0 then (lP.j2 k2 t109 x9_1 x10_2 t123 bt134.1 bt134.2.1 bt134.2.2 false t104 t105 t106 t107 t108) else (lP.j2 k2 t109 x9_1 x10_2 t123 bt134.1 bt134.2.1 bt134.2.2 true t104 t105 t106 t107 t108)) else (lP.j2 k2 t109 x9_1 x10_2 t123 bt134.1 bt134.2.1 bt134.2.2 true t104 t105 t106 t107 t108)) else (lP.j2 k2 t109 x9_1 x10_2 t123 bt134.1 bt134.2.1 bt134.2.2 true t104 t105 t106 t107 t108)))) = some r := H
   have A46 := Aside0.mk A460
   clear A460
   replace H := Option.bind_eq_some_iff.mp H
   obtain ⟨⟨t134, t137, t138⟩, A470, H⟩ := H
   replace H : (if t138 = 0 then (lP.j2 k2 t109 x9_1 x10_2 t123 t134 t137 t138 ((t134.length : Int) != (t109.length : Int)) t104 t105 t106 t107 t108) else (if t138 = 7 then (if (t134.length : Int) = 0 then (if t137 = 0 then (lP.j2 k2 t109 x9_1 x10_2 t123 t134 t137 t138 false t104 t105 t106 t107 t108) else (lP.j2 k2 t109 x9_1 x10_2 t123 t134 t137 t138 true t104 t105 t106 t107 t108)) else (lP.j2 k2 t109 x9_1 x10_2 t123 t134 t137 t138 true t104 t105 t106 t107 t108)) else (lP.j2 k2 t109 x9_1 x10_2 t123 t134 t137 t138 true t104 t105 t106 t107 t108))) = some r := H
   have A47 := Aside0.mk A470
   clear A470
   have HC48 := Aside0.mk H
   clear H
   try go_wp2
   have n0_ := Aside0.mk (Kd.R_drew HO_8.out)
   have n1_ := Aside0.mk (Kd.R_drew HO_9.out)
   have n2_ := Aside0.mk (Kd.R_drew HO_10.out)
   have n3_ := Aside0.mk (blk_drew BK101.out)
   have n4_ := Aside0.mk (blk_drew BK102.out)
   have n5_ := Aside0.mk (blk_drew BK103.out)
   have n6_ := Aside0.mk (blk_drew BK112.out)
   have n7_ := Aside0.mk (below_drew1 HB.out)
   clear HO_8
   clear HO_9
   clear HO_10
   clear BK101
   clear BK102
   clear BK103
   clear BK112
   clear HB
   have HO_8 := n0_
   have HO_9 := n1_
   have HO_10 := n2_
   have BK101 := n3_
   have BK102 := n4_
   have BK103 := n5_
   have BK112 := n6_
   have HB := n7_
   clear n0_ n1_ n2_ n3_ n4_ n5_ n6_ n7_
   refine start_ (n := 13) (S := fun w' => w'.cell? ⟨gb112, 0, none⟩ = some (.int .i64 t104) ∧ w'.cell? ⟨gb112, 1, none⟩ = some (.int .i64 t105) ∧ w'.cell? ⟨gb112, 2, none⟩ = some (.int .i64 t106) ∧ w'.cell? ⟨gb112, 3, none⟩ = some (.int .i64 t107) ∧ w'.cell? ⟨gb112, 4, none⟩ = some (.int .i64 t108)) (ds := []) (bl 13 0) (by kernel_rfl) rfl rfl ⟨(blk_cell BK112.out 0).trans rfl, (blk_cell BK112.out 1).trans rfl, (blk_cell BK112.out 2).trans rfl, (blk_cell BK112.out 3).trans rfl, (blk_cell BK112.out 4).trans rfl⟩ (fun hHeld => ?_); refine with_tabW lP.tab12 lP.bits12 (fun HT_ HW_ => ?_)
   generalize wr.drew = w49 at HO_8 HO_9 HO_10 BK101 BK102 BK103 BK112 HB hHeld ⊢
   refine pq 1 (some 67) (bl 13 2) HT_ (h := ?_)
   refine pq 3 (some 69) (bl 13 10) HT_ (h := ?_)
   refine tq 0 (some 66) (bl 13 11) HT_ HW_ hHeld (h := ?_)
   refine one_ (i := 2) (N := some 68) (bl 13 15) rfl rfl (one_of HT_.out (by kernel_rfl)) (by decide) (fun K hK => ?_)
   refine goes_ Tryd.func43 (by kernel_rfl) rfl #[.slice Ao32 t109.length co32] (by rfl) rfl rfl (by (try simp only [List.map_toArray, List.map_cons, List.map_nil]); first | done | rfl | (simp only [List.length_drop, List.length_take]; rfl)) ?_
   with_reducible refine (smaltolaw03_own.calls _ _ t109 t128 _ ?side1 ?side2 A45.out).mono ?_
   (case side1 => repeat (first | exact (Kd.R_reads' HO_8.out).2.2 | (with_reducible refine Kd.C_alloc ?_ _) | (with_reducible refine Kd.C_drewN ?_ _) | (with_reducible refine Kd.C_drew ?_)))
   (case side2 => exact (Kd.R_reads' HO_8.out).2.1)
   rintro e w50 ⟨v129, rfl, ho0, hb⟩
   refine ⟨_, rfl, ?_⟩
   have n0_ := Aside0.mk (Kd.R_elder' (R_ HO_8) (Kd.R_base ho0) hb)
   have n1_ := Aside0.mk (Kd.R_below (R_ HO_9) hb)
   have n2_ := Aside0.mk (Kd.R_below (R_ HO_10) hb)
   have n3_ := Aside0.mk (Kd.R_lower (Kd.R_new' ho0 (Kd.R_lt (R_ HO_8))) (below_size (by repeat (first | (with_reducible first | exact HB.out | apply below_alloc | apply pw_below_drewN | apply below_drew1 | refine below_set ?_ GE101.out | refine below_set ?_ GE102.out | refine below_set ?_ GE103.out | refine below_set ?_ GE112.out) | exact HB.out))))
   have n4_ := Aside0.mk (blk_below (g := gb101) (o := .cells #[.int .u8 a0_0, .int .u8 a0_1, .int .u8 a0_2, .int .u8 a0_3, .int .u8 a0_4, .slice A0_5 l0_5.length c0_5] 66 (0, 0)) (b_ BK101) hb)
   have n5_ := Aside0.mk (blk_below (g := gb102) (o := .cells #[.int .u8 a1_0, .int .u8 a1_1, .int .u8 a1_2, .int .u8 a1_3, .int .u8 a1_4, .int .u8 a1_5] 67 (0, 0)) (b_ BK102) hb)
   have n6_ := Aside0.mk (blk_below (g := gb103) (o := .cells #[.int .u8 a2_0, .int .u8 a2_1, .int .u8 a2_2, .int .u8 a2_3, .int .u8 a2_4, .int .u8 a2_5] 67 (0, 0)) (b_ BK103) hb)
   have n7_ := Aside0.mk (blk_below (g := gb112) (o := .cells #[.int .i64 t104, .int .i64 t105, .int .i64 t106, .int .i64 t107, .int .i64 t108] 23 (0, 0)) (b_ BK112) hb)
   have n8_ := Aside0.mk (below_step (by repeat (first | (with_reducible first | exact HB.out | apply below_alloc | apply pw_below_drewN | apply below_drew1 | refine below_set ?_ GE101.out | refine below_set ?_ GE102.out | refine below_set ?_ GE103.out | refine below_set ?_ GE112.out) | exact HB.out)) hb)
   clear HO_8
   clear HO_9
   clear HO_10
   clear BK101
   clear BK102
   clear BK103
   clear BK112
   clear HB
   have HO_8 := n0_
   have HO_9 := n1_
   have HO_10 := n2_
   have HO130 := n3_
   have BK101 := n4_
   have BK102 := n5_
   have BK103 := n6_
   have BK112 := n7_
   have HB := n8_
   clear n0_ n1_ n2_ n3_ n4_ n5_ n6_ n7_ n8_
   (try clear hb)
   (try clear hb2)
   (try clear hk)
   (try clear hi)
   (try clear ho0)
   refine hK.out _ _ ⟨(blk_cell BK112.out 0).trans rfl, (blk_cell BK112.out 1).trans rfl, (blk_cell BK112.out 2).trans rfl, (blk_cell BK112.out 3).trans rfl, (blk_cell BK112.out 4).trans rfl⟩ (fun hHeld => ?_)
   clear hK K
   refine nq 68 ?_
   refine one_ (i := 4) (N := some 70) (bl 13 31) rfl rfl (one_of HT_.out (by kernel_rfl)) (by decide) (fun K hK => ?_)
   refine goes_ Tryd.func15 (by kernel_rfl) rfl #[.slice Ao33 x9_1.length co33] (by rfl) rfl rfl (by (try simp only [List.map_toArray, List.map_cons, List.map_nil]); first | done | rfl | (simp only [List.length_drop, List.length_take]; rfl)) ?_
   with_reducible refine (smaltolaw03_ints.calls _ _ x9_1 t131 _ ?side1 ?side2 A46.out).mono ?_
   (case side1 => repeat (first | exact (Kd.R_reads' HO_9.out).2.2 | (with_reducible refine Kd.C_alloc ?_ _) | (with_reducible refine Kd.C_drewN ?_ _) | (with_reducible refine Kd.C_drew ?_)))
   (case side2 => exact (Kd.R_reads' HO_9.out).2.1)
   rintro e w51 ⟨v132, rfl, ho0, hb⟩
   refine ⟨_, rfl, ?_⟩
   have n0_ := Aside0.mk (Kd.R_below (R_ HO_8) hb)
   have n1_ := Aside0.mk (Kd.R_elder' (R_ HO_9) (Kd.R_base ho0) hb)
   have n2_ := Aside0.mk (Kd.R_elder' (R_ HO_10) (Kd.R_base ho0) hb)
   have n3_ := Aside0.mk (Kd.R_below (R_ HO130) hb)
   have n4_ := Aside0.mk (Kd.R_lower (Kd.R_new' (Kd.R_new' ho0 (Kd.R_lt (R_ HO_9))) (Kd.R_lt (R_ HO_10))) (below_size (by repeat (first | (with_reducible first | exact HB.out | apply below_alloc | apply pw_below_drewN | apply below_drew1 | refine below_set ?_ GE101.out | refine below_set ?_ GE102.out | refine below_set ?_ GE103.out | refine below_set ?_ GE112.out) | exact HB.out))))
   have n5_ := Aside0.mk (blk_below (g := gb101) (o := .cells #[.int .u8 a0_0, .int .u8 a0_1, .int .u8 a0_2, .int .u8 a0_3, .int .u8 a0_4, .slice A0_5 l0_5.length c0_5] 66 (0, 0)) (b_ BK101) hb)
   have n6_ := Aside0.mk (blk_below (g := gb102) (o := .cells #[.int .u8 a1_0, .int .u8 a1_1, .int .u8 a1_2, .int .u8 a1_3, .int .u8 a1_4, .int .u8 a1_5] 67 (0, 0)) (b_ BK102) hb)
   have n7_ := Aside0.mk (blk_below (g := gb103) (o := .cells #[.int .u8 a2_0, .int .u8 a2_1, .int .u8 a2_2, .int .u8 a2_3, .int .u8 a2_4, .int .u8 a2_5] 67 (0, 0)) (b_ BK103) hb)
   have n8_ := Aside0.mk (blk_below (g := gb112) (o := .cells #[.int .i64 t104, .int .i64 t105, .int .i64 t106, .int .i64 t107, .int .i64 t108] 23 (0, 0)) (b_ BK112) hb)
   have n9_ := Aside0.mk (below_step (by repeat (first | (with_reducible first | exact HB.out | apply below_alloc | apply pw_below_drewN | apply below_drew1 | refine below_set ?_ GE101.out | refine below_set ?_ GE102.out | refine below_set ?_ GE103.out | refine below_set ?_ GE112.out) | exact HB.out)) hb)
   clear HO_8
   clear HO_9
   clear HO_10
   clear HO130
   clear BK101
   clear BK102
   clear BK103
   clear BK112
   clear HB
   have HO_8 := n0_
   have HO_9 := n1_
   have HO_10 := n2_
   have HO130 := n3_
   have HO133 := n4_
   have BK101 := n5_
   have BK102 := n6_
   have BK103 := n7_
   have BK112 := n8_
   have HB := n9_
   clear n0_ n1_ n2_ n3_ n4_ n5_ n6_ n7_ n8_ n9_
   (try clear hb)
   (try clear hb2)
   (try clear hk)
   (try clear hi)
   (try clear ho0)
   obtain ⟨Ao52, co52, eo52⟩ := Kd.R_slice HO130.out
   (first | subst eo52 | (injection eo52 with f1_ f2_ f3_; have f4_ := f1_.symm; have f5_ := f3_.symm; clear f1_ f2_ f3_; subst f4_; subst f5_))
   obtain ⟨Ao53, co53, eo53⟩ := Kd.R_slice HO133.out
   (first | subst eo53 | (injection eo53 with f1_ f2_ f3_; have f4_ := f1_.symm; have f5_ := f3_.symm; clear f1_ f2_ f3_; subst f4_; subst f5_))
   refine hK.out _ _ ⟨(blk_cell BK112.out 0).trans rfl, (blk_cell BK112.out 1).trans rfl, (blk_cell BK112.out 2).trans rfl, (blk_cell BK112.out 3).trans rfl, (blk_cell BK112.out 4).trans rfl⟩ (fun hHeld => ?_)
   clear hK K
   refine nq 70 ?_
   refine one_ (i := 5) (N := some 71) (bl 13 63) rfl rfl (one_of HT_.out (by kernel_rfl)) (by decide) (fun K hK => ?_)
   refine goes_ Tryd.func38 (by kernel_rfl) rfl #[.agg #[.int .i64 t104, .int .i64 t105, .int .i64 t106, .int .i64 t107, .int .i64 t108], .slice Ao52 t128.length co52, .slice Ao53 t131.length co53] (by rfl) rfl rfl (by (try simp only [List.map_toArray, List.map_cons, List.map_nil]); first | done | rfl | (simp only [List.length_drop, List.length_take]; rfl)) ?_
   with_reducible refine (fork_Put.calls t104 t105 t106 t107 t108 _ _ t128 _ _ t131 t134 t137 t138 _ ?side5 ?side1 ?side2 ?side3 ?side4 A47.out).mono ?_
   (case side1 => repeat (first | exact (Kd.R_reads' HO130.out).2.2 | (with_reducible refine Kd.C_alloc ?_ _) | (with_reducible refine Kd.C_drewN ?_ _) | (with_reducible refine Kd.C_drew ?_)))
   (case side2 => exact (Kd.R_reads' HO130.out).2.1)
   (case side3 => repeat (first | exact (Kd.R_reads' HO133.out).2.2 | (with_reducible refine Kd.C_alloc ?_ _) | (with_reducible refine Kd.C_drewN ?_ _) | (with_reducible refine Kd.C_drew ?_)))
   (case side4 => exact (Kd.R_reads' HO133.out).2.1)
   (case side5 => exact Hand.TabW.below HTAB.out (by repeat (first | (with_reducible first | exact HB.out | apply below_alloc | apply pw_below_drewN | apply below_drew1 | refine below_set ?_ GE101.out | refine below_set ?_ GE102.out | refine below_set ?_ GE103.out | refine below_set ?_ GE112.out) | exact HB.out)))
   rintro e w54 ⟨v135, rfl, ho0, hb⟩
   refine ⟨_, rfl, ?_⟩
   have n0_ := Aside0.mk (Kd.R_below (R_ HO_8) hb)
   have n1_ := Aside0.mk (Kd.R_elder' (R_ HO_9) (Kd.R_base ho0) hb)
   have n2_ := Aside0.mk (Kd.R_elder' (R_ HO_10) (Kd.R_base ho0) hb)
   have n3_ := Aside0.mk (Kd.R_below (R_ HO130) hb)
   have n4_ := Aside0.mk (Kd.R_elder' (R_ HO133) (Kd.R_base ho0) hb)
   have n5_ := Aside0.mk (Kd.R_lower (Kd.R_new' (Kd.R_new' (Kd.R_new' ho0 (Kd.R_lt (R_ HO_9))) (Kd.R_lt (R_ HO_10))) (Kd.R_lt (R_ HO133))) (below_size (by repeat (first | (with_reducible first | exact HB.out | apply below_alloc | apply pw_below_drewN | apply below_drew1 | refine below_set ?_ GE101.out | refine below_set ?_ GE102.out | refine below_set ?_ GE103.out | refine below_set ?_ GE112.out) | exact HB.out))))
   have n6_ := Aside0.mk (blk_below (g := gb101) (o := .cells #[.int .u8 a0_0, .int .u8 a0_1, .int .u8 a0_2, .int .u8 a0_3, .int .u8 a0_4, .slice A0_5 l0_5.length c0_5] 66 (0, 0)) (b_ BK101) hb)
   have n7_ := Aside0.mk (blk_below (g := gb102) (o := .cells #[.int .u8 a1_0, .int .u8 a1_1, .int .u8 a1_2, .int .u8 a1_3, .int .u8 a1_4, .int .u8 a1_5] 67 (0, 0)) (b_ BK102) hb)
   have n8_ := Aside0.mk (blk_below (g := gb103) (o := .cells #[.int .u8 a2_0, .int .u8 a2_1, .int .u8 a2_2, .int .u8 a2_3, .int .u8 a2_4, .int .u8 a2_5] 67 (0, 0)) (b_ BK103) hb)
   have n9_ := Aside0.mk (blk_below (g := gb112) (o := .cells #[.int .i64 t104, .int .i64 t105, .int .i64 t106, .int .i64 t107, .int .i64 t108] 23 (0, 0)) (b_ BK112) hb)
   have n10_ := Aside0.mk (below_step (by repeat (first | (with_reducible first | exact HB.out | apply below_alloc | apply pw_below_drewN | apply below_drew1 | refine below_set ?_ GE101.out | refine below_set ?_ GE102.out | refine below_set ?_ GE103.out | refine below_set ?_ GE112.out) | exact HB.out)) hb)
   clear HO_8
   clear HO_9
   clear HO_10
   clear HO130
   clear HO133
   clear BK101
   clear BK102
   clear BK103
   clear BK112
   clear HB
   have HO_8 := n0_
   have HO_9 := n1_
   have HO_10 := n2_
   have HO130 := n3_
   have HO133 := n4_
   have HO136 := n5_
   have BK101 := n6_
   have BK102 := n7_
   have BK103 := n8_
   have BK112 := n9_
   have HB := n10_
   clear n0_ n1_ n2_ n3_ n4_ n5_ n6_ n7_ n8_ n9_ n10_
   (try clear hb)
   (try clear hb2)
   (try clear hk)
   (try clear hi)
   (try clear ho0)
   refine hK.out _ _ ⟨(blk_cell BK112.out 0).trans rfl, (blk_cell BK112.out 1).trans rfl, (blk_cell BK112.out 2).trans rfl, (blk_cell BK112.out 3).trans rfl, (blk_cell BK112.out 4).trans rfl⟩ (fun hHeld => ?_)
   clear hK K
   refine nq 71 ?_
   refine pq 6 (some 65) (bl 13 127) HT_ (h := ?_)
   refine pq 7 (some 72) (bl 13 255) HT_ (h := ?_)
   refine pq 8 (some 73) (bl 13 511) HT_ (h := ?_)
   refine pq 9 (some 74) (bl 13 1023) HT_ (h := ?_)
   refine pq 10 (some 14) (bl 13 2047) HT_ (h := ?_)
   refine pq 11 (some 15) (bl 13 4095) HT_ (h := ?_)
   refine pq 12 (some 16) (bl 13 8191) HT_ (h := ?_)
   refine done_ (done_of HT_.out (by kernel_rfl)) ?_
   go_upto_region 13 with (fail)
   go_cut [100] (fun v100 wc => ∃ (kq : Nat) (x100_47 : Bool), v100 = .bool x100_47 ∧ Aside0 (lP.j2 kq t109 x9_1 x10_2 t123 t134 t137 t138 x100_47 t104 t105 t106 t107 t108 = some r) ∧ Aside0 (kq ≤ k2) ∧ Aside0 (Kd.R k74 74 wc w.heap.size (fun _ => True) (.slice Ao32 t109.length co32) t109) ∧ Aside0 (Kd.R (Kd.int .i64) 3 wc w.heap.size (fun k_ => some k_ ≠ (u10 : Value).ownBlock ∧ some k_ ≠ (v135 : Value).ownBlock) (.slice Ao33 x9_1.length co33) x9_1) ∧ Aside0 (Kd.R (Kd.int .i64) 3 wc w.heap.size (fun k_ => some k_ ≠ ((.slice Ao33 x9_1.length co33) : Value).ownBlock ∧ some k_ ≠ (v135 : Value).ownBlock) u10 x10_2) ∧ Aside0 (Kd.R (Kd.int .i64) 3 wc w.heap.size (fun k_ => some k_ ≠ ((.slice Ao33 x9_1.length co33) : Value).ownBlock ∧ some k_ ≠ (u10 : Value).ownBlock) v135 t134) ∧ Aside0 (wc.heap[gb101]? = some (.cells #[.int .u8 a0_0, .int .u8 a0_1, .int .u8 a0_2, .int .u8 a0_3, .int .u8 a0_4, (.slice A0_5 l0_5.length c0_5)] 66 (0, 0))) ∧ Aside0 (wc.heap[gb102]? = some (.cells #[.int .u8 a1_0, .int .u8 a1_1, .int .u8 a1_2, .int .u8 a1_3, .int .u8 a1_4, .int .u8 a1_5] 67 (0, 0))) ∧ Aside0 (wc.heap[gb103]? = some (.cells #[.int .u8 a2_0, .int .u8 a2_1, .int .u8 a2_2, .int .u8 a2_3, .int .u8 a2_4, .int .u8 a2_5] 67 (0, 0))) ∧ Aside0 (wc.heap[gb112]? = some (.cells #[.int .i64 t104, .int .i64 t105, .int .i64 t106, .int .i64 t107, .int .i64 t108] 23 (0, 0))) ∧ Aside0 (Below w.heap.size w wc))
   case first =>
    have H := HC48.out
    clear HC48
    by_cases c55 : t138 = 0
    ·rw [if_pos c55] at H
     have c55b0 : (t138 == 0) = true := beq_iff_eq.mpr c55
     have c55b1 : (t138 != 0) = false := bne_eq_false_iff_eq.mpr c55
     clear c55
     (first | rw [c55b0] | (simp only [i64_w, i32_w]; rw [c55b0]) | skip)
     have H' := Aside0.mk H
     clear H
     obtain ⟨Ao56, co56, eo56⟩ := Kd.R_slice HO136.out
     subst eo56
     go_wp2
     go_meet
     case rel => exact ⟨_, (((t134.length : Int) != (t109.length : Int))), (by first | rfl | (simp; done) | (simp [*]; done)), H', ⟨by have := HK1.out; have := HK2.out; first | omega | exact Nat.le_refl _⟩, ⟨Kd.R_mono (R_ HO_8) (fun _ hk => trivial)⟩, ⟨Kd.R_mono (R_ HO_9) (fun _ hk => ⟨hk.1.1, hk.2⟩)⟩, ⟨Kd.R_mono (R_ HO_10) (fun _ hk => ⟨hk.1.1, hk.2⟩)⟩, ⟨Kd.R_mono (R_ HO136) (fun _ hk => ⟨hk.1.1.2, hk.1.2⟩)⟩, ⟨b_ BK101⟩, ⟨b_ BK102⟩, ⟨b_ BK103⟩, ⟨b_ BK112⟩, ⟨by repeat (first | (with_reducible first | exact HB.out | apply below_alloc | apply pw_below_drewN | apply below_drew1 | refine below_set ?_ GE101.out | refine below_set ?_ GE102.out | refine below_set ?_ GE103.out | refine below_set ?_ GE112.out) | exact HB.out)⟩⟩
    rw [if_neg c55] at H
    have c55b0 : (t138 == 0) = false := beq_eq_false_iff_ne.mpr c55
    have c55b1 : (t138 != 0) = true := bne_iff_ne.mpr c55
    (first | rw [c55b0] | (simp only [i64_w, i32_w]; rw [c55b0]) | skip)
    by_cases c57 : t138 = 7
    ·rw [if_pos c57] at H
     have c57b0 : (t138 == 7) = true := beq_iff_eq.mpr c57
     have c57b1 : (t138 != 7) = false := bne_eq_false_iff_eq.mpr c57
     clear c57
     by_cases c58 : (t134.length : Int) = 0
     ·rw [if_pos c58] at H
      have c58b0 : ((t134.length : Int) == 0) = true := beq_iff_eq.mpr c58
      have c58b1 : ((t134.length : Int) != 0) = false := bne_eq_false_iff_eq.mpr c58
      clear c58
      by_cases c59 : t137 = 0
      ·rw [if_pos c59] at H
       have c59b0 : (t137 == 0) = true := beq_iff_eq.mpr c59
       have c59b1 : (t137 != 0) = false := bne_eq_false_iff_eq.mpr c59
       clear c59
       have H' := Aside0.mk H
       clear H
       obtain ⟨Ao60, co60, eo60⟩ := Kd.R_slice HO136.out
       subst eo60
       go_wp2
       go_meet
       case rel => exact ⟨_, (false), (by first | rfl | (simp; done) | (simp [*]; done)), H', ⟨by have := HK1.out; have := HK2.out; first | omega | exact Nat.le_refl _⟩, ⟨Kd.R_mono (R_ HO_8) (fun _ hk => trivial)⟩, ⟨Kd.R_mono (R_ HO_9) (fun _ hk => ⟨hk.1.1, hk.2⟩)⟩, ⟨Kd.R_mono (R_ HO_10) (fun _ hk => ⟨hk.1.1, hk.2⟩)⟩, ⟨Kd.R_mono (R_ HO136) (fun _ hk => ⟨hk.1.1.2, hk.1.2⟩)⟩, ⟨b_ BK101⟩, ⟨b_ BK102⟩, ⟨b_ BK103⟩, ⟨b_ BK112⟩, ⟨by repeat (first | (with_reducible first | exact HB.out | apply below_alloc | apply pw_below_drewN | apply below_drew1 | refine below_set ?_ GE101.out | refine below_set ?_ GE102.out | refine below_set ?_ GE103.out | refine below_set ?_ GE112.out) | exact HB.out)⟩⟩
      rw [if_neg c59] at H
      have c59b0 : (t137 == 0) = false := beq_eq_false_iff_ne.mpr c59
      have c59b1 : (t137 != 0) = true := bne_iff_ne.mpr c59
      have H' := Aside0.mk H
      clear H
      obtain ⟨Ao61, co61, eo61⟩ := Kd.R_slice HO136.out
      subst eo61
      go_wp2
      go_meet
      case rel => exact ⟨_, (true), (by first | rfl | (simp; done) | (simp [*]; done)), H', ⟨by have := HK1.out; have := HK2.out; first | omega | exact Nat.le_refl _⟩, ⟨Kd.R_mono (R_ HO_8) (fun _ hk => trivial)⟩, ⟨Kd.R_mono (R_ HO_9) (fun _ hk => ⟨hk.1.1, hk.2⟩)⟩, ⟨Kd.R_mono (R_ HO_10) (fun _ hk => ⟨hk.1.1, hk.2⟩)⟩, ⟨Kd.R_mono (R_ HO136) (fun _ hk => ⟨hk.1.1.2, hk.1.2⟩)⟩, ⟨b_ BK101⟩, ⟨b_ BK102⟩, ⟨b_ BK103⟩, ⟨b_ BK112⟩, ⟨by repeat (first | (with_reducible first | exact HB.out | apply below_alloc | apply pw_below_drewN | apply below_drew1 | refine below_set ?_ GE101.out | refine below_set ?_ GE102.out | refine below_set ?_ GE103.out | refine below_set ?_ GE112.out) | exact HB.out)⟩⟩
     rw [if_neg c58] at H
     have c58b0 : ((t134.length : Int) == 0) = false := beq_eq_false_iff_ne.mpr c58
     have c58b1 : ((t134.length : Int) != 0) = true := bne_iff_ne.mpr c58
     have c58b2 : ¬ (t134 = []) := fun h_ => c58 (by rw [h_]; rfl)
     have H' := Aside0.mk H
     clear H
     obtain ⟨Ao62, co62, eo62⟩ := Kd.R_slice HO136.out
     subst eo62
     go_wp2
     go_meet
     case rel => exact ⟨_, (true), (by first | rfl | (simp; done) | (simp [*]; done)), H', ⟨by have := HK1.out; have := HK2.out; first | omega | exact Nat.le_refl _⟩, ⟨Kd.R_mono (R_ HO_8) (fun _ hk => trivial)⟩, ⟨Kd.R_mono (R_ HO_9) (fun _ hk => ⟨hk.1.1, hk.2⟩)⟩, ⟨Kd.R_mono (R_ HO_10) (fun _ hk => ⟨hk.1.1, hk.2⟩)⟩, ⟨Kd.R_mono (R_ HO136) (fun _ hk => ⟨hk.1.1.2, hk.1.2⟩)⟩, ⟨b_ BK101⟩, ⟨b_ BK102⟩, ⟨b_ BK103⟩, ⟨b_ BK112⟩, ⟨by repeat (first | (with_reducible first | exact HB.out | apply below_alloc | apply pw_below_drewN | apply below_drew1 | refine below_set ?_ GE101.out | refine below_set ?_ GE102.out | refine below_set ?_ GE103.out | refine below_set ?_ GE112.out) | exact HB.out)⟩⟩
    rw [if_neg c57] at H
    have c57b0 : (t138 == 7) = false := beq_eq_false_iff_ne.mpr c57
    have c57b1 : (t138 != 7) = true := bne_iff_ne.mpr c57
    have H' := Aside0.mk H
    clear H
    go_wp2
    go_meet
    case rel => exact ⟨_, (true), (by first | rfl | (simp; done) | (simp [*]; done)), H', ⟨by have := HK1.out; have := HK2.out; first | omega | exact Nat.le_refl _⟩, ⟨Kd.R_mono (R_ HO_8) (fun _ hk => trivial)⟩, ⟨Kd.R_mono (R_ HO_9) (fun _ hk => ⟨hk.1.1, hk.2⟩)⟩, ⟨Kd.R_mono (R_ HO_10) (fun _ hk => ⟨hk.1.1, hk.2⟩)⟩, ⟨Kd.R_mono (R_ HO136) (fun _ hk => ⟨hk.1.1.2, hk.1.2⟩)⟩, ⟨b_ BK101⟩, ⟨b_ BK102⟩, ⟨b_ BK103⟩, ⟨b_ BK112⟩, ⟨by repeat (first | (with_reducible first | exact HB.out | apply below_alloc | apply pw_below_drewN | apply below_drew1 | refine below_set ?_ GE101.out | refine below_set ?_ GE102.out | refine below_set ?_ GE103.out | refine below_set ?_ GE112.out) | exact HB.out)⟩⟩
   case rest => as_aux_lemma =>
    clear HC48
    try clear c35
    try clear c35b0
    obtain ⟨kq, x100_47, rfl, HA, HJ47, HO_8, HO_9, HO_10, HO_14, BK101, BK102, BK103, BK112, HB⟩ := hcut
    rcases kq with _ | kj47
    ·exact absurd HA.out (by simp [lP.j2])
    have H := HA.out
    clear HA
    simp only [lP.j2] at H
    by_cases c63 : x100_47 = true
    ·subst c63
     have H1 : (some false) = some r := by rw [if_pos rfl] at H; exact H
     clear H
     have H := H1
     clear H1
     obtain rfl := Option.some.inj H
     go_wp2
     go_ret
     exact ⟨by first | rfl | (simp [errW_none, errW_some] <;> rfl) | (simp [*, errW_none, errW_some] <;> rfl), by repeat (first | (with_reducible first | exact HB.out | apply below_alloc | apply pw_below_drewN | apply below_drew1 | refine below_set ?_ GE101.out | refine below_set ?_ GE102.out | refine below_set ?_ GE103.out | refine below_set ?_ GE112.out) | exact HB.out)⟩
    replace c63 := Bool.eq_false_iff.mpr c63
    subst c63
    have H1 : (lP.l23 kj47 t109 x9_1 x10_2 t123 t134 t137 t138 x9_1 0 t104 t105 t106 t107 t108 true true true) = some r := by rw [if_neg (show ¬ (false = true) by decide)] at H; exact H
    clear H
    have H := H1
    clear H1
    go_wp2_with (first | ((with_reducible refine gate_dst (N := 17) rfl ?_); (try (refine gate_guard (by rfl) ?_; dsimp only)); refine box_event ?hg (N := 17) ?hd (cs := #[.bool false, .bool false, .bool false]) (t := 82) ?hr ?_; (case hd => rfl); (case hg => rfl); (case hr => first | (go_simp; done) | (go_simp; rfl)); intro gb139 hg w64 hbox hb; have n0_ := Aside0.mk (Kd.R_below (R_ HO_8) hb); have n1_ := Aside0.mk (Kd.R_below (R_ HO_9) hb); have n2_ := Aside0.mk (Kd.R_below (R_ HO_10) hb); have n3_ := Aside0.mk (Kd.R_below (R_ HO_14) hb); have n4_ := Aside0.mk (blk_below (g := gb101) (o := .cells #[.int .u8 a0_0, .int .u8 a0_1, .int .u8 a0_2, .int .u8 a0_3, .int .u8 a0_4, .slice A0_5 l0_5.length c0_5] 66 (0, 0)) (b_ BK101) hb); have n5_ := Aside0.mk (blk_below (g := gb102) (o := .cells #[.int .u8 a1_0, .int .u8 a1_1, .int .u8 a1_2, .int .u8 a1_3, .int .u8 a1_4, .int .u8 a1_5] 67 (0, 0)) (b_ BK102) hb); have n6_ := Aside0.mk (blk_below (g := gb103) (o := .cells #[.int .u8 a2_0, .int .u8 a2_1, .int .u8 a2_2, .int .u8 a2_3, .int .u8 a2_4, .int .u8 a2_5] 67 (0, 0)) (b_ BK103) hb); have n7_ := Aside0.mk (blk_below (g := gb112) (o := .cells #[.int .i64 t104, .int .i64 t105, .int .i64 t106, .int .i64 t107, .int .i64 t108] 23 (0, 0)) (b_ BK112) hb); have n8_ := Aside0.mk (below_step (by repeat (first | (with_reducible first | exact HB.out | apply below_alloc | apply pw_below_drewN | apply below_drew1 | refine below_set ?_ GE101.out | refine below_set ?_ GE102.out | refine below_set ?_ GE103.out | refine below_set ?_ GE112.out) | exact HB.out)) hb); have n9_ := Aside0.mk (hbox); have n10_ := Aside0.mk ((by rw [hg]; exact (below_size (by repeat (first | (with_reducible first | exact HB.out | apply below_alloc | apply pw_below_drewN | apply below_drew1 | refine below_set ?_ GE101.out | refine below_set ?_ GE102.out | refine below_set ?_ GE103.out | refine below_set ?_ GE112.out) | exact HB.out))) : w.heap.size ≤ gb139)); have n11_ := Aside0.mk ((by rw [hg]; exact (below_size (by repeat (first | (with_reducible first | exact HB.out | apply below_alloc | apply pw_below_drewN | apply below_drew1 | refine below_set ?_ GE101.out | refine below_set ?_ GE102.out | refine below_set ?_ GE103.out | refine below_set ?_ GE112.out) | exact HB.out))) : w.heap.size ≤ gb139)); have n12_ := Aside0.mk ((by rw [hg]; exact Nat.ne_of_lt (blk_lt (g := gb101) (o := .cells #[.int .u8 a0_0, .int .u8 a0_1, .int .u8 a0_2, .int .u8 a0_3, .int .u8 a0_4, .slice A0_5 l0_5.length c0_5] 66 (0, 0)) (b_ BK101)) : gb101 ≠ gb139)); have n13_ := Aside0.mk ((by rw [hg]; exact Nat.ne_of_gt (blk_lt (g := gb101) (o := .cells #[.int .u8 a0_0, .int .u8 a0_1, .int .u8 a0_2, .int .u8 a0_3, .int .u8 a0_4, .slice A0_5 l0_5.length c0_5] 66 (0, 0)) (b_ BK101)) : gb139 ≠ gb101)); have n14_ := Aside0.mk ((by rw [hg]; exact Nat.ne_of_lt (blk_lt (g := gb102) (o := .cells #[.int .u8 a1_0, .int .u8 a1_1, .int .u8 a1_2, .int .u8 a1_3, .int .u8 a1_4, .int .u8 a1_5] 67 (0, 0)) (b_ BK102)) : gb102 ≠ gb139)); have n15_ := Aside0.mk ((by rw [hg]; exact Nat.ne_of_gt (blk_lt (g := gb102) (o := .cells #[.int .u8 a1_0, .int .u8 a1_1, .int .u8 a1_2, .int .u8 a1_3, .int .u8 a1_4, .int .u8 a1_5] 67 (0, 0)) (b_ BK102)) : gb139 ≠ gb102)); have n16_ := Aside0.mk ((by rw [hg]; exact Nat.ne_of_lt (blk_lt (g := gb103) (o := .cells #[.int .u8 a2_0, .int .u8 a2_1, .int .u8 a2_2, .int .u8 a2_3, .int .u8 a2_4, .int .u8 a2_5] 67 (0, 0)) (b_ BK103)) : gb103 ≠ gb139)); have n17_ := Aside0.mk ((by rw [hg]; exact Nat.ne_of_gt (blk_lt (g := gb103) (o := .cells #[.int .u8 a2_0, .int .u8 a2_1, .int .u8 a2_2, .int .u8 a2_3, .int .u8 a2_4, .int .u8 a2_5] 67 (0, 0)) (b_ BK103)) : gb139 ≠ gb103)); have n18_ := Aside0.mk ((by rw [hg]; exact Nat.ne_of_lt (blk_lt (g := gb112) (o := .cells #[.int .i64 t104, .int .i64 t105, .int .i64 t106, .int .i64 t107, .int .i64 t108] 23 (0, 0)) (b_ BK112)) : gb112 ≠ gb139)); have n19_ := Aside0.mk ((by rw [hg]; exact Nat.ne_of_gt (blk_lt (g := gb112) (o := .cells #[.int .i64 t104, .int .i64 t105, .int .i64 t106, .int .i64 t107, .int .i64 t108] 23 (0, 0)) (b_ BK112)) : gb139 ≠ gb112)); clear HO_8; clear HO_9; clear HO_10; clear HO_14; clear BK101; clear BK102; clear BK103; clear BK112; clear HB; have HO_8 := n0_; have HO_9 := n1_; have HO_10 := n2_; have HO_14 := n3_; have BK101 := n4_; have BK102 := n5_; have BK103 := n6_; have BK112 := n7_; have HB := n8_; have BK139 := n9_; have GW139 := n10_; have GE139 := n11_; have NB101_139 := n12_; have NB139_101 := n13_; have NB102_139 := n14_; have NB139_102 := n15_; have NB103_139 := n16_; have NB139_103 := n17_; have NB112_139 := n18_; have NB139_112 := n19_; clear n0_ n1_ n2_ n3_ n4_ n5_ n6_ n7_ n8_ n9_ n10_ n11_ n12_ n13_ n14_ n15_ n16_ n17_ n18_ n19_; clear hb hbox hg; have hnb65 := NB139_101.out; have hnc65 := NB101_139.out; have hnb66 := NB139_102.out; have hnc66 := NB102_139.out; have hnb67 := NB139_103.out; have hnc67 := NB103_139.out; have hnb68 := NB139_112.out; have hnc68 := NB112_139.out; have hcz69_0 : w64.cell? ⟨gb139, 0, none⟩ = some (.bool false) := (blk_cell BK139.out 0).trans rfl; have hcz69_1 : w64.cell? ⟨gb139, 1, none⟩ = some (.bool false) := (blk_cell BK139.out 1).trans rfl; have hcz69_2 : w64.cell? ⟨gb139, 2, none⟩ = some (.bool false) := (blk_cell BK139.out 2).trans rfl; have hfz69_0 := blk_frozen BK139.out 0; have hfz69_1 := blk_frozen BK139.out 1; have hfz69_2 := blk_frozen BK139.out 2))
    refine loop_rounds3 ?_
    have H' := Aside0.mk H
    clear H
    obtain ⟨Ao70, co70, eo70⟩ := Kd.R_slice HO_14.out
    subst eo70
    obtain ⟨Ao71, co71, eo71⟩ := Kd.R_slice HO_10.out
    subst eo71
    go_wp2
    go_loopg [22] kj47 (fun kq v22 w' => ∃ (x22_4 : Int) (x140000_4 : Bool) (x140001_4 : Bool) (x140002_4 : Bool), v22 = .int .i64 x22_4 ∧ Aside0 (lP.l23 kq t109 x9_1 x10_2 t123 t134 t137 t138 x9_1 x22_4 t104 t105 t106 t107 t108 x140000_4 x140001_4 x140002_4 = some r) ∧ Aside0 (kq ≤ kj47) ∧ Aside0 (Kd.R k74 74 w' w.heap.size (fun _ => True) (.slice Ao32 t109.length co32) t109) ∧ Aside0 (Kd.R (Kd.int .i64) 3 w' w.heap.size (fun k_ => some k_ ≠ ((.slice Ao71 x10_2.length co71) : Value).ownBlock ∧ some k_ ≠ ((.slice Ao70 t134.length co70) : Value).ownBlock) (.slice Ao33 x9_1.length co33) x9_1) ∧ Aside0 (Kd.R (Kd.int .i64) 3 w' w.heap.size (fun k_ => some k_ ≠ ((.slice Ao33 x9_1.length co33) : Value).ownBlock ∧ some k_ ≠ ((.slice Ao70 t134.length co70) : Value).ownBlock ∧ some k_ ≠ ((.slice Ao33 x9_1.length co33) : Value).ownBlock) (.slice Ao71 x10_2.length co71) x10_2) ∧ Aside0 (Kd.R (Kd.int .i64) 3 w' w.heap.size (fun k_ => some k_ ≠ ((.slice Ao33 x9_1.length co33) : Value).ownBlock ∧ some k_ ≠ ((.slice Ao71 x10_2.length co71) : Value).ownBlock ∧ some k_ ≠ ((.slice Ao33 x9_1.length co33) : Value).ownBlock) (.slice Ao70 t134.length co70) t134) ∧ Aside0 (Kd.R (Kd.int .i64) 3 w' w.heap.size (fun k_ => some k_ ≠ ((.slice Ao71 x10_2.length co71) : Value).ownBlock ∧ some k_ ≠ ((.slice Ao70 t134.length co70) : Value).ownBlock) (.slice Ao33 x9_1.length co33) x9_1) ∧ Aside0 (w'.heap[gb101]? = some (.cells #[.int .u8 a0_0, .int .u8 a0_1, .int .u8 a0_2, .int .u8 a0_3, .int .u8 a0_4, (.slice A0_5 l0_5.length c0_5)] 66 (0, 0))) ∧ Aside0 (w'.heap[gb102]? = some (.cells #[.int .u8 a1_0, .int .u8 a1_1, .int .u8 a1_2, .int .u8 a1_3, .int .u8 a1_4, .int .u8 a1_5] 67 (0, 0))) ∧ Aside0 (w'.heap[gb103]? = some (.cells #[.int .u8 a2_0, .int .u8 a2_1, .int .u8 a2_2, .int .u8 a2_3, .int .u8 a2_4, .int .u8 a2_5] 67 (0, 0))) ∧ Aside0 (w'.heap[gb112]? = some (.cells #[.int .i64 t104, .int .i64 t105, .int .i64 t106, .int .i64 t107, .int .i64 t108] 23 (0, 0))) ∧ Aside0 (w'.heap[gb139]? = some (.cells #[.bool x140000_4, .bool x140001_4, .bool x140002_4] 82 (0, 0))) ∧ Aside0 (Below w.heap.size w w'))
    case atStart => exact ⟨(0), (true), (true), (true), (by first | rfl | (simp; done) | (simp [*]; done)), H', ⟨Nat.le_refl _⟩, ⟨by (with_reducible repeat (first | apply Kd.R_alloc | apply Kd.R_drewN | apply Kd.R_drew)); exact Kd.R_mono (Kd.R_far (p := ⟨gb139, 2, none⟩) (Kd.R_far (p := ⟨gb139, 1, none⟩) (Kd.R_far (p := ⟨gb139, 0, none⟩) (Kd.R_types HO_8.out BK139.out (by decide)) (fun _ hk => hk.2) (.bool true)) (fun _ hk => hk.2) (.bool true)) (fun _ hk => hk.2) (.bool true)) (fun _ hk => trivial)⟩, ⟨by (with_reducible repeat (first | apply Kd.R_alloc | apply Kd.R_drewN | apply Kd.R_drew)); exact Kd.R_mono (Kd.R_far (p := ⟨gb139, 2, none⟩) (Kd.R_far (p := ⟨gb139, 1, none⟩) (Kd.R_far (p := ⟨gb139, 0, none⟩) (Kd.R_types HO_9.out BK139.out (by decide)) (fun _ hk => hk.2) (.bool true)) (fun _ hk => hk.2) (.bool true)) (fun _ hk => hk.2) (.bool true)) (fun _ hk => ⟨hk.1.1, hk.1.2⟩)⟩, ⟨by (with_reducible repeat (first | apply Kd.R_alloc | apply Kd.R_drewN | apply Kd.R_drew)); exact Kd.R_mono (Kd.R_far (p := ⟨gb139, 2, none⟩) (Kd.R_far (p := ⟨gb139, 1, none⟩) (Kd.R_far (p := ⟨gb139, 0, none⟩) (Kd.R_types HO_10.out BK139.out (by decide)) (fun _ hk => hk.2) (.bool true)) (fun _ hk => hk.2) (.bool true)) (fun _ hk => hk.2) (.bool true)) (fun _ hk => ⟨hk.1.1, ⟨hk.1.2, hk.1.1⟩⟩)⟩, ⟨by (with_reducible repeat (first | apply Kd.R_alloc | apply Kd.R_drewN | apply Kd.R_drew)); exact Kd.R_mono (Kd.R_far (p := ⟨gb139, 2, none⟩) (Kd.R_far (p := ⟨gb139, 1, none⟩) (Kd.R_far (p := ⟨gb139, 0, none⟩) (Kd.R_types HO_14.out BK139.out (by decide)) (fun _ hk => hk.2) (.bool true)) (fun _ hk => hk.2) (.bool true)) (fun _ hk => hk.2) (.bool true)) (fun _ hk => ⟨hk.1.1, ⟨hk.1.2, hk.1.1⟩⟩)⟩, ⟨by (with_reducible repeat (first | apply Kd.R_alloc | apply Kd.R_drewN | apply Kd.R_drew)); exact Kd.R_mono (Kd.R_far (p := ⟨gb139, 2, none⟩) (Kd.R_far (p := ⟨gb139, 1, none⟩) (Kd.R_far (p := ⟨gb139, 0, none⟩) (Kd.R_types HO_9.out BK139.out (by decide)) (fun _ hk => hk.2) (.bool true)) (fun _ hk => hk.2) (.bool true)) (fun _ hk => hk.2) (.bool true)) (fun _ hk => ⟨hk.1.1, hk.1.2⟩)⟩, ⟨by (with_reducible repeat (first | refine blk_drewN ?_ _ | refine blk_drew ?_ | refine blk_alloc ?_ _)); refine blk_far ?_ NB101_139.out _; (with_reducible repeat (first | refine blk_drewN ?_ _ | refine blk_drew ?_ | refine blk_alloc ?_ _)); refine blk_far ?_ NB101_139.out _; (with_reducible repeat (first | refine blk_drewN ?_ _ | refine blk_drew ?_ | refine blk_alloc ?_ _)); refine blk_far ?_ NB101_139.out _; (with_reducible repeat (first | refine blk_drewN ?_ _ | refine blk_drew ?_ | refine blk_alloc ?_ _)); exact BK101.out⟩, ⟨by (with_reducible repeat (first | refine blk_drewN ?_ _ | refine blk_drew ?_ | refine blk_alloc ?_ _)); refine blk_far ?_ NB102_139.out _; (with_reducible repeat (first | refine blk_drewN ?_ _ | refine blk_drew ?_ | refine blk_alloc ?_ _)); refine blk_far ?_ NB102_139.out _; (with_reducible repeat (first | refine blk_drewN ?_ _ | refine blk_drew ?_ | refine blk_alloc ?_ _)); refine blk_far ?_ NB102_139.out _; (with_reducible repeat (first | refine blk_drewN ?_ _ | refine blk_drew ?_ | refine blk_alloc ?_ _)); exact BK102.out⟩, ⟨by (with_reducible repeat (first | refine blk_drewN ?_ _ | refine blk_drew ?_ | refine blk_alloc ?_ _)); refine blk_far ?_ NB103_139.out _; (with_reducible repeat (first | refine blk_drewN ?_ _ | refine blk_drew ?_ | refine blk_alloc ?_ _)); refine blk_far ?_ NB103_139.out _; (with_reducible repeat (first | refine blk_drewN ?_ _ | refine blk_drew ?_ | refine blk_alloc ?_ _)); refine blk_far ?_ NB103_139.out _; (with_reducible repeat (first | refine blk_drewN ?_ _ | refine blk_drew ?_ | refine blk_alloc ?_ _)); exact BK103.out⟩, ⟨by (with_reducible repeat (first | refine blk_drewN ?_ _ | refine blk_drew ?_ | refine blk_alloc ?_ _)); refine blk_far ?_ NB112_139.out _; (with_reducible repeat (first | refine blk_drewN ?_ _ | refine blk_drew ?_ | refine blk_alloc ?_ _)); refine blk_far ?_ NB112_139.out _; (with_reducible repeat (first | refine blk_drewN ?_ _ | refine blk_drew ?_ | refine blk_alloc ?_ _)); refine blk_far ?_ NB112_139.out _; (with_reducible repeat (first | refine blk_drewN ?_ _ | refine blk_drew ?_ | refine blk_alloc ?_ _)); exact BK112.out⟩, ⟨by (with_reducible repeat (first | refine blk_drewN ?_ _ | refine blk_drew ?_ | refine blk_alloc ?_ _)); refine blk_put (cs := #[.bool true, .bool true, .bool false]) ?_ 2 _ rfl; (with_reducible repeat (first | refine blk_drewN ?_ _ | refine blk_drew ?_ | refine blk_alloc ?_ _)); refine blk_put (cs := #[.bool true, .bool false, .bool false]) ?_ 1 _ rfl; (with_reducible repeat (first | refine blk_drewN ?_ _ | refine blk_drew ?_ | refine blk_alloc ?_ _)); refine blk_put (cs := #[.bool false, .bool false, .bool false]) ?_ 0 _ rfl; (with_reducible repeat (first | refine blk_drewN ?_ _ | refine blk_drew ?_ | refine blk_alloc ?_ _)); exact BK139.out⟩, ⟨by repeat (first | (with_reducible first | exact HB.out | apply below_alloc | apply pw_below_drewN | apply below_drew1 | refine below_set ?_ GE101.out | refine below_set ?_ GE102.out | refine below_set ?_ GE103.out | refine below_set ?_ GE112.out | refine below_set ?_ GE139.out) | exact HB.out)⟩⟩
    case round => as_aux_lemma =>
     clear H'
     try clear c63
     try clear hcz69_0
     try clear hcz69_1
     try clear hcz69_2
     try clear hfz69_0
     try clear hfz69_1
     try clear hfz69_2
     obtain ⟨x22_4, x140000_4, x140001_4, x140002_4, rfl, HA, HK4, HO_8, HO_9, HO_10, HO_14, HO_21, BK101, BK102, BK103, BK112, BK139, HB⟩ := hrel
     rcases gk with _ | k4
     ·exact absurd HA.out (by simp [lP.l23])
     have H := HA.out
     clear HA
     simp only [lP.l23] at H
     by_cases c72 : x22_4 < 6
     ·rw [if_pos c72] at H
      have c72b0 : decide (x22_4 < 6) = true := decide_eq_true c72
      clear c72
      replace H := Option.bind_eq_some_iff.mp H
      obtain ⟨t140, A730, H⟩ := H
      replace H : ((smaltolaw03_of.f k4 x9_1 x22_4).bind fun t143 => ((goesC.f t104 t105 t106 t107 t108 t140 t143).bind fun bt146 => (if x140000_4 = true then (lP.l23 k4 t109 x9_1 x10_2 t123 t134 t137 t138 x9_1 (wrap64 (x22_4 + 1)) t104 t105 t106 t107 t108 bt146.1 x140001_4 x140002_4) else (lP.l23 k4 t109 x9_1 x10_2 t123 t134 t137 t138 x9_1 (wrap64 (x22_4 + 1)) t104 t105 t106 t107 t108 false x140001_4 x140002_4)))) = some r := H
      have A73 := Aside0.mk A730
      clear A730
      replace H := Option.bind_eq_some_iff.mp H
      obtain ⟨t143, A740, H⟩ := H
      replace H : ((goesC.f t104 t105 t106 t107 t108 t140 t143).bind fun bt146 => (if x140000_4 = true then (lP.l23 k4 t109 x9_1 x10_2 t123 t134 t137 t138 x9_1 (wrap64 (x22_4 + 1)) t104 t105 t106 t107 t108 bt146.1 x140001_4 x140002_4) else (lP.l23 k4 t109 x9_1 x10_2 t123 t134 t137 t138 x9_1 (wrap64 (x22_4 + 1)) t104 t105 t106 t107 t108 false x140001_4 x140002_4))) = some r := H
      have A74 := Aside0.mk A740
      clear A740
      replace H := Option.bind_eq_some_iff.mp H
      obtain ⟨⟨t146, t147⟩, A750, H⟩ := H
      replace H : (if x140000_4 = true then (lP.l23 k4 t109 x9_1 x10_2 t123 t134 t137 t138 x9_1 (wrap64 (x22_4 + 1)) t104 t105 t106 t107 t108 t146 x140001_4 x140002_4) else (lP.l23 k4 t109 x9_1 x10_2 t123 t134 t137 t138 x9_1 (wrap64 (x22_4 + 1)) t104 t105 t106 t107 t108 false x140001_4 x140002_4)) = some r := H
      have A75 := Aside0.mk A750
      clear A750
      by_cases c76 : x140000_4 = true
      ·subst c76
       have H1 : (lP.l23 k4 t109 x9_1 x10_2 t123 t134 t137 t138 x9_1 (wrap64 (x22_4 + 1)) t104 t105 t106 t107 t108 t146 x140001_4 x140002_4) = some r := by rw [if_pos rfl] at H; exact H
       clear H
       have H := H1
       clear H1
       have H' := Aside0.mk H
       clear H
       try go_wp2
       have n0_ := Aside0.mk (Kd.R_drew HO_8.out)
       have n1_ := Aside0.mk (Kd.R_drew HO_9.out)
       have n2_ := Aside0.mk (Kd.R_drew HO_10.out)
       have n3_ := Aside0.mk (Kd.R_drew HO_14.out)
       have n4_ := Aside0.mk (Kd.R_drew HO_21.out)
       have n5_ := Aside0.mk (blk_drew BK101.out)
       have n6_ := Aside0.mk (blk_drew BK102.out)
       have n7_ := Aside0.mk (blk_drew BK103.out)
       have n8_ := Aside0.mk (blk_drew BK112.out)
       have n9_ := Aside0.mk (blk_drew BK139.out)
       have n10_ := Aside0.mk (below_drew1 HB.out)
       clear HO_8
       clear HO_9
       clear HO_10
       clear HO_14
       clear HO_21
       clear BK101
       clear BK102
       clear BK103
       clear BK112
       clear BK139
       clear HB
       have HO_8 := n0_
       have HO_9 := n1_
       have HO_10 := n2_
       have HO_14 := n3_
       have HO_21 := n4_
       have BK101 := n5_
       have BK102 := n6_
       have BK103 := n7_
       have BK112 := n8_
       have BK139 := n9_
       have HB := n10_
       clear n0_ n1_ n2_ n3_ n4_ n5_ n6_ n7_ n8_ n9_ n10_
       refine start_ (n := 14) (S := fun w' => w'.cell? ⟨gb112, 0, none⟩ = some (.int .i64 t104) ∧ w'.cell? ⟨gb112, 1, none⟩ = some (.int .i64 t105) ∧ w'.cell? ⟨gb112, 2, none⟩ = some (.int .i64 t106) ∧ w'.cell? ⟨gb112, 3, none⟩ = some (.int .i64 t107) ∧ w'.cell? ⟨gb112, 4, none⟩ = some (.int .i64 t108)) (ds := []) (bl 14 0) (by kernel_rfl) rfl rfl ⟨(blk_cell BK112.out 0).trans rfl, (blk_cell BK112.out 1).trans rfl, (blk_cell BK112.out 2).trans rfl, (blk_cell BK112.out 3).trans rfl, (blk_cell BK112.out 4).trans rfl⟩ (fun hHeld => ?_); refine with_tabW lP.tab23 lP.bits23 (fun HT_ HW_ => ?_)
       generalize wr.drew = w77 at HO_8 HO_9 HO_10 HO_14 HO_21 BK101 BK102 BK103 BK112 BK139 HB hHeld ⊢
       refine pq 1 (some 118) (bl 14 2) HT_ (h := ?_)
       refine pq 3 (some 120) (bl 14 10) HT_ (h := ?_)
       refine pq 4 (some 121) (bl 14 26) HT_ (h := ?_)
       refine tq 0 (some 117) (bl 14 27) HT_ HW_ hHeld (h := ?_)
       refine one_ (i := 2) (N := some 119) (bl 14 31) rfl rfl (one_of HT_.out (by kernel_rfl)) (by decide) (fun K hK => ?_)
       refine goes_ Tryd.func43 (by kernel_rfl) rfl #[.slice Ao32 t109.length co32] (by rfl) rfl rfl (by (try simp only [List.map_toArray, List.map_cons, List.map_nil]); first | done | rfl | (simp only [List.length_drop, List.length_take]; rfl)) ?_
       with_reducible refine (smaltolaw03_own.calls _ _ t109 t140 _ ?side1 ?side2 A73.out).mono ?_
       (case side1 => repeat (first | exact (Kd.R_reads' HO_8.out).2.2 | (with_reducible refine Kd.C_alloc ?_ _) | (with_reducible refine Kd.C_drewN ?_ _) | (with_reducible refine Kd.C_drew ?_)))
       (case side2 => exact (Kd.R_reads' HO_8.out).2.1)
       rintro e w78 ⟨v141, rfl, ho0, hb⟩
       refine ⟨_, rfl, ?_⟩
       have n0_ := Aside0.mk (Kd.R_elder' (R_ HO_8) (Kd.R_base ho0) hb)
       have n1_ := Aside0.mk (Kd.R_below (R_ HO_9) hb)
       have n2_ := Aside0.mk (Kd.R_below (R_ HO_10) hb)
       have n3_ := Aside0.mk (Kd.R_below (R_ HO_14) hb)
       have n4_ := Aside0.mk (Kd.R_below (R_ HO_21) hb)
       have n5_ := Aside0.mk (Kd.R_lower (Kd.R_new' ho0 (Kd.R_lt (R_ HO_8))) (below_size (by repeat (first | (with_reducible first | exact HB.out | apply below_alloc | apply pw_below_drewN | apply below_drew1 | refine below_set ?_ GE101.out | refine below_set ?_ GE102.out | refine below_set ?_ GE103.out | refine below_set ?_ GE112.out | refine below_set ?_ GE139.out) | exact HB.out))))
       have n6_ := Aside0.mk (blk_below (g := gb101) (o := .cells #[.int .u8 a0_0, .int .u8 a0_1, .int .u8 a0_2, .int .u8 a0_3, .int .u8 a0_4, .slice A0_5 l0_5.length c0_5] 66 (0, 0)) (b_ BK101) hb)
       have n7_ := Aside0.mk (blk_below (g := gb102) (o := .cells #[.int .u8 a1_0, .int .u8 a1_1, .int .u8 a1_2, .int .u8 a1_3, .int .u8 a1_4, .int .u8 a1_5] 67 (0, 0)) (b_ BK102) hb)
       have n8_ := Aside0.mk (blk_below (g := gb103) (o := .cells #[.int .u8 a2_0, .int .u8 a2_1, .int .u8 a2_2, .int .u8 a2_3, .int .u8 a2_4, .int .u8 a2_5] 67 (0, 0)) (b_ BK103) hb)
       have n9_ := Aside0.mk (blk_below (g := gb112) (o := .cells #[.int .i64 t104, .int .i64 t105, .int .i64 t106, .int .i64 t107, .int .i64 t108] 23 (0, 0)) (b_ BK112) hb)
       have n10_ := Aside0.mk (blk_below (g := gb139) (o := .cells #[.bool true, .bool x140001_4, .bool x140002_4] 82 (0, 0)) (b_ BK139) hb)
       have n11_ := Aside0.mk (below_step (by repeat (first | (with_reducible first | exact HB.out | apply below_alloc | apply pw_below_drewN | apply below_drew1 | refine below_set ?_ GE101.out | refine below_set ?_ GE102.out | refine below_set ?_ GE103.out | refine below_set ?_ GE112.out | refine below_set ?_ GE139.out) | exact HB.out)) hb)
       clear HO_8
       clear HO_9
       clear HO_10
       clear HO_14
       clear HO_21
       clear BK101
       clear BK102
       clear BK103
       clear BK112
       clear BK139
       clear HB
       have HO_8 := n0_
       have HO_9 := n1_
       have HO_10 := n2_
       have HO_14 := n3_
       have HO_21 := n4_
       have HO142 := n5_
       have BK101 := n6_
       have BK102 := n7_
       have BK103 := n8_
       have BK112 := n9_
       have BK139 := n10_
       have HB := n11_
       clear n0_ n1_ n2_ n3_ n4_ n5_ n6_ n7_ n8_ n9_ n10_ n11_
       (try clear hb)
       (try clear hb2)
       (try clear hk)
       (try clear hi)
       (try clear ho0)
       refine hK.out _ _ ⟨(blk_cell BK112.out 0).trans rfl, (blk_cell BK112.out 1).trans rfl, (blk_cell BK112.out 2).trans rfl, (blk_cell BK112.out 3).trans rfl, (blk_cell BK112.out 4).trans rfl⟩ (fun hHeld => ?_)
       clear hK K
       refine nq 119 ?_
       refine one_ (i := 5) (N := some 122) (bl 14 63) rfl rfl (one_of HT_.out (by kernel_rfl)) (by decide) (fun K hK => ?_)
       refine goes_ Tryd.func47 (by kernel_rfl) rfl #[.slice Ao33 x9_1.length co33, .int .i64 x22_4] (by rfl) rfl rfl (by (try simp only [List.map_toArray, List.map_cons, List.map_nil]); first | done | rfl | (simp only [List.length_drop, List.length_take]; rfl)) ?_
       with_reducible refine (smaltolaw03_of.calls k4 _ _ x9_1 x22_4 t143 _ ?side1 ?side2 A74.out).mono ?_
       (case side1 => repeat (first | exact (Kd.R_reads' HO_21.out).2.2 | (with_reducible refine Kd.C_alloc ?_ _) | (with_reducible refine Kd.C_drewN ?_ _) | (with_reducible refine Kd.C_drew ?_)))
       (case side2 => exact (Kd.R_reads' HO_21.out).2.1)
       rintro e w79 ⟨v144, rfl, ho0, hb⟩
       refine ⟨_, rfl, ?_⟩
       have n0_ := Aside0.mk (Kd.R_below (R_ HO_8) hb)
       have n1_ := Aside0.mk (Kd.R_elder' (R_ HO_9) (Kd.R_base ho0) hb)
       have n2_ := Aside0.mk (Kd.R_elder' (R_ HO_10) (Kd.R_base ho0) hb)
       have n3_ := Aside0.mk (Kd.R_elder' (R_ HO_14) (Kd.R_base ho0) hb)
       have n4_ := Aside0.mk (Kd.R_elder' (R_ HO_21) (Kd.R_base ho0) hb)
       have n5_ := Aside0.mk (Kd.R_below (R_ HO142) hb)
       have n6_ := Aside0.mk (Kd.R_lower (Kd.R_new' (Kd.R_new' (Kd.R_new' (Kd.R_new' ho0 (Kd.R_lt (R_ HO_9))) (Kd.R_lt (R_ HO_10))) (Kd.R_lt (R_ HO_14))) (Kd.R_lt (R_ HO_21))) (below_size (by repeat (first | (with_reducible first | exact HB.out | apply below_alloc | apply pw_below_drewN | apply below_drew1 | refine below_set ?_ GE101.out | refine below_set ?_ GE102.out | refine below_set ?_ GE103.out | refine below_set ?_ GE112.out | refine below_set ?_ GE139.out) | exact HB.out))))
       have n7_ := Aside0.mk (blk_below (g := gb101) (o := .cells #[.int .u8 a0_0, .int .u8 a0_1, .int .u8 a0_2, .int .u8 a0_3, .int .u8 a0_4, .slice A0_5 l0_5.length c0_5] 66 (0, 0)) (b_ BK101) hb)
       have n8_ := Aside0.mk (blk_below (g := gb102) (o := .cells #[.int .u8 a1_0, .int .u8 a1_1, .int .u8 a1_2, .int .u8 a1_3, .int .u8 a1_4, .int .u8 a1_5] 67 (0, 0)) (b_ BK102) hb)
       have n9_ := Aside0.mk (blk_below (g := gb103) (o := .cells #[.int .u8 a2_0, .int .u8 a2_1, .int .u8 a2_2, .int .u8 a2_3, .int .u8 a2_4, .int .u8 a2_5] 67 (0, 0)) (b_ BK103) hb)
       have n10_ := Aside0.mk (blk_below (g := gb112) (o := .cells #[.int .i64 t104, .int .i64 t105, .int .i64 t106, .int .i64 t107, .int .i64 t108] 23 (0, 0)) (b_ BK112) hb)
       have n11_ := Aside0.mk (blk_below (g := gb139) (o := .cells #[.bool true, .bool x140001_4, .bool x140002_4] 82 (0, 0)) (b_ BK139) hb)
       have n12_ := Aside0.mk (below_step (by repeat (first | (with_reducible first | exact HB.out | apply below_alloc | apply pw_below_drewN | apply below_drew1 | refine below_set ?_ GE101.out | refine below_set ?_ GE102.out | refine below_set ?_ GE103.out | refine below_set ?_ GE112.out | refine below_set ?_ GE139.out) | exact HB.out)) hb)
       clear HO_8
       clear HO_9
       clear HO_10
       clear HO_14
       clear HO_21
       clear HO142
       clear BK101
       clear BK102
       clear BK103
       clear BK112
       clear BK139
       clear HB
       have HO_8 := n0_
       have HO_9 := n1_
       have HO_10 := n2_
       have HO_14 := n3_
       have HO_21 := n4_
       have HO142 := n5_
       have HO145 := n6_
       have BK101 := n7_
       have BK102 := n8_
       have BK103 := n9_
       have BK112 := n10_
       have BK139 := n11_
       have HB := n12_
       clear n0_ n1_ n2_ n3_ n4_ n5_ n6_ n7_ n8_ n9_ n10_ n11_ n12_
       (try clear hb)
       (try clear hb2)
       (try clear hk)
       (try clear hi)
       (try clear ho0)
       obtain ⟨Ao80, co80, eo80⟩ := Kd.R_slice HO142.out
       (first | subst eo80 | (injection eo80 with f1_ f2_ f3_; have f4_ := f1_.symm; have f5_ := f3_.symm; clear f1_ f2_ f3_; subst f4_; subst f5_))
       obtain ⟨Ao81, co81, eo81⟩ := Kd.R_slice HO145.out
       (first | subst eo81 | (injection eo81 with f1_ f2_ f3_; have f4_ := f1_.symm; have f5_ := f3_.symm; clear f1_ f2_ f3_; subst f4_; subst f5_))
       refine hK.out _ _ ⟨(blk_cell BK112.out 0).trans rfl, (blk_cell BK112.out 1).trans rfl, (blk_cell BK112.out 2).trans rfl, (blk_cell BK112.out 3).trans rfl, (blk_cell BK112.out 4).trans rfl⟩ (fun hHeld => ?_)
       clear hK K
       refine nq 122 ?_
       refine one_ (i := 6) (N := some 123) (bl 14 127) rfl rfl (one_of HT_.out (by kernel_rfl)) (by decide) (fun K hK => ?_)
       refine goes_ Tryd.func17 (by kernel_rfl) rfl #[.agg #[.int .i64 t104, .int .i64 t105, .int .i64 t106, .int .i64 t107, .int .i64 t108], .slice Ao80 t140.length co80, .slice Ao81 t143.length co81] (by rfl) rfl rfl (by (try simp only [List.map_toArray, List.map_cons, List.map_nil]); first | done | rfl | (simp only [List.length_drop, List.length_take]; rfl)) ?_
       with_reducible refine (goesC.calls t104 t105 t106 t107 t108 _ _ t140 _ _ t143 t146 t147 _ ?side5 ?side1 ?side2 ?side3 ?side4 A75.out).mono ?_
       (case side1 => repeat (first | exact (Kd.R_reads' HO142.out).2.2 | (with_reducible refine Kd.C_alloc ?_ _) | (with_reducible refine Kd.C_drewN ?_ _) | (with_reducible refine Kd.C_drew ?_)))
       (case side2 => exact (Kd.R_reads' HO142.out).2.1)
       (case side3 => repeat (first | exact (Kd.R_reads' HO145.out).2.2 | (with_reducible refine Kd.C_alloc ?_ _) | (with_reducible refine Kd.C_drewN ?_ _) | (with_reducible refine Kd.C_drew ?_)))
       (case side4 => exact (Kd.R_reads' HO145.out).2.1)
       (case side5 => exact Hand.TabW.below HTAB.out (by repeat (first | (with_reducible first | exact HB.out | apply below_alloc | apply pw_below_drewN | apply below_drew1 | refine below_set ?_ GE101.out | refine below_set ?_ GE102.out | refine below_set ?_ GE103.out | refine below_set ?_ GE112.out | refine below_set ?_ GE139.out) | exact HB.out)))
       rintro e w82 ⟨rfl, hb⟩
       refine ⟨_, rfl, ?_⟩
       have n0_ := Aside0.mk (Kd.R_below (R_ HO_8) hb)
       have n1_ := Aside0.mk (Kd.R_below (R_ HO_9) hb)
       have n2_ := Aside0.mk (Kd.R_below (R_ HO_10) hb)
       have n3_ := Aside0.mk (Kd.R_below (R_ HO_14) hb)
       have n4_ := Aside0.mk (Kd.R_below (R_ HO_21) hb)
       have n5_ := Aside0.mk (Kd.R_below (R_ HO142) hb)
       have n6_ := Aside0.mk (Kd.R_below (R_ HO145) hb)
       have n7_ := Aside0.mk (blk_below (g := gb101) (o := .cells #[.int .u8 a0_0, .int .u8 a0_1, .int .u8 a0_2, .int .u8 a0_3, .int .u8 a0_4, .slice A0_5 l0_5.length c0_5] 66 (0, 0)) (b_ BK101) hb)
       have n8_ := Aside0.mk (blk_below (g := gb102) (o := .cells #[.int .u8 a1_0, .int .u8 a1_1, .int .u8 a1_2, .int .u8 a1_3, .int .u8 a1_4, .int .u8 a1_5] 67 (0, 0)) (b_ BK102) hb)
       have n9_ := Aside0.mk (blk_below (g := gb103) (o := .cells #[.int .u8 a2_0, .int .u8 a2_1, .int .u8 a2_2, .int .u8 a2_3, .int .u8 a2_4, .int .u8 a2_5] 67 (0, 0)) (b_ BK103) hb)
       have n10_ := Aside0.mk (blk_below (g := gb112) (o := .cells #[.int .i64 t104, .int .i64 t105, .int .i64 t106, .int .i64 t107, .int .i64 t108] 23 (0, 0)) (b_ BK112) hb)
       have n11_ := Aside0.mk (blk_below (g := gb139) (o := .cells #[.bool true, .bool x140001_4, .bool x140002_4] 82 (0, 0)) (b_ BK139) hb)
       have n12_ := Aside0.mk (below_step (by repeat (first | (with_reducible first | exact HB.out | apply below_alloc | apply pw_below_drewN | apply below_drew1 | refine below_set ?_ GE101.out | refine below_set ?_ GE102.out | refine below_set ?_ GE103.out | refine below_set ?_ GE112.out | refine below_set ?_ GE139.out) | exact HB.out)) hb)
       clear HO_8
       clear HO_9
       clear HO_10
       clear HO_14
       clear HO_21
       clear HO142
       clear HO145
       clear BK101
       clear BK102
       clear BK103
       clear BK112
       clear BK139
       clear HB
       have HO_8 := n0_
       have HO_9 := n1_
       have HO_10 := n2_
       have HO_14 := n3_
       have HO_21 := n4_
       have HO142 := n5_
       have HO145 := n6_
       have BK101 := n7_
       have BK102 := n8_
       have BK103 := n9_
       have BK112 := n10_
       have BK139 := n11_
       have HB := n12_
       clear n0_ n1_ n2_ n3_ n4_ n5_ n6_ n7_ n8_ n9_ n10_ n11_ n12_
       (try clear hb)
       (try clear hb2)
       (try clear hk)
       (try clear hi)
       refine hK.out _ _ ⟨(blk_cell BK112.out 0).trans rfl, (blk_cell BK112.out 1).trans rfl, (blk_cell BK112.out 2).trans rfl, (blk_cell BK112.out 3).trans rfl, (blk_cell BK112.out 4).trans rfl⟩ (fun hHeld => ?_)
       clear hK K
       refine nq 123 ?_
       refine pq 7 (some 116) (bl 14 255) HT_ (h := ?_)
       refine pq 8 (some 124) (bl 14 511) HT_ (h := ?_)
       refine pq 9 (some 125) (bl 14 1023) HT_ (h := ?_)
       refine pq 10 (some 126) (bl 14 2047) HT_ (h := ?_)
       refine pq 11 (some 23) (bl 14 4095) HT_ (h := ?_)
       refine pq 12 (some 24) (bl 14 8191) HT_ (h := ?_)
       refine pq 13 (some 25) (bl 14 16383) HT_ (h := ?_)
       refine done_ (done_of HT_.out (by kernel_rfl)) ?_
       have hnb83 := NB139_101.out
       have hnc83 := NB101_139.out
       have hnb84 := NB139_102.out
       have hnc84 := NB102_139.out
       have hnb85 := NB139_103.out
       have hnc85 := NB103_139.out
       have hnb86 := NB139_112.out
       have hnc86 := NB112_139.out
       have hcz87_0 : w82.cell? ⟨gb139, 0, none⟩ = some (.bool true) := (blk_cell BK139.out 0).trans rfl
       have hcz87_1 : w82.cell? ⟨gb139, 1, none⟩ = some (.bool x140001_4) := (blk_cell BK139.out 1).trans rfl
       have hcz87_2 : w82.cell? ⟨gb139, 2, none⟩ = some (.bool x140002_4) := (blk_cell BK139.out 2).trans rfl
       have hfz87_0 := blk_frozen BK139.out 0
       have hfz87_1 := blk_frozen BK139.out 1
       have hfz87_2 := blk_frozen BK139.out 2
       try go_wp2
       go_roundg k4
       case measure => have := HK1.out; have := HK2.out; have := HJ47.out; have := HK4.out; omega
       case rel => exact ⟨(wrap64 (x22_4 + 1)), (t146), (x140001_4), (x140002_4), (by first | rfl | (simp; done) | (simp [*]; done)), H', ⟨by have := HK1.out; have := HK2.out; have := HJ47.out; have := HK4.out; omega⟩, ⟨by (with_reducible repeat (first | apply Kd.R_alloc | apply Kd.R_drewN | apply Kd.R_drew)); exact Kd.R_mono (Kd.R_far (p := ⟨gb139, 0, none⟩) (Kd.R_types HO_8.out BK139.out (by decide)) (fun _ hk => hk.2) (.bool t146)) (fun _ hk => trivial)⟩, ⟨by (with_reducible repeat (first | apply Kd.R_alloc | apply Kd.R_drewN | apply Kd.R_drew)); exact Kd.R_mono (Kd.R_far (p := ⟨gb139, 0, none⟩) (Kd.R_types HO_9.out BK139.out (by decide)) (fun _ hk => hk.2) (.bool t146)) (fun _ hk => ⟨hk.1.1.1, hk.1.1.2⟩)⟩, ⟨by (with_reducible repeat (first | apply Kd.R_alloc | apply Kd.R_drewN | apply Kd.R_drew)); exact Kd.R_mono (Kd.R_far (p := ⟨gb139, 0, none⟩) (Kd.R_types HO_10.out BK139.out (by decide)) (fun _ hk => hk.2) (.bool t146)) (fun _ hk => ⟨hk.1.1.1, ⟨hk.1.1.2.1, hk.1.1.2.2⟩⟩)⟩, ⟨by (with_reducible repeat (first | apply Kd.R_alloc | apply Kd.R_drewN | apply Kd.R_drew)); exact Kd.R_mono (Kd.R_far (p := ⟨gb139, 0, none⟩) (Kd.R_types HO_14.out BK139.out (by decide)) (fun _ hk => hk.2) (.bool t146)) (fun _ hk => ⟨hk.1.1.1, ⟨hk.1.1.2.1, hk.1.1.2.2⟩⟩)⟩, ⟨by (with_reducible repeat (first | apply Kd.R_alloc | apply Kd.R_drewN | apply Kd.R_drew)); exact Kd.R_mono (Kd.R_far (p := ⟨gb139, 0, none⟩) (Kd.R_types HO_21.out BK139.out (by decide)) (fun _ hk => hk.2) (.bool t146)) (fun _ hk => ⟨hk.1.1.1, hk.1.1.2⟩)⟩, ⟨by (with_reducible repeat (first | refine blk_drewN ?_ _ | refine blk_drew ?_ | refine blk_alloc ?_ _)); refine blk_far ?_ NB101_139.out _; (with_reducible repeat (first | refine blk_drewN ?_ _ | refine blk_drew ?_ | refine blk_alloc ?_ _)); exact BK101.out⟩, ⟨by (with_reducible repeat (first | refine blk_drewN ?_ _ | refine blk_drew ?_ | refine blk_alloc ?_ _)); refine blk_far ?_ NB102_139.out _; (with_reducible repeat (first | refine blk_drewN ?_ _ | refine blk_drew ?_ | refine blk_alloc ?_ _)); exact BK102.out⟩, ⟨by (with_reducible repeat (first | refine blk_drewN ?_ _ | refine blk_drew ?_ | refine blk_alloc ?_ _)); refine blk_far ?_ NB103_139.out _; (with_reducible repeat (first | refine blk_drewN ?_ _ | refine blk_drew ?_ | refine blk_alloc ?_ _)); exact BK103.out⟩, ⟨by (with_reducible repeat (first | refine blk_drewN ?_ _ | refine blk_drew ?_ | refine blk_alloc ?_ _)); refine blk_far ?_ NB112_139.out _; (with_reducible repeat (first | refine blk_drewN ?_ _ | refine blk_drew ?_ | refine blk_alloc ?_ _)); exact BK112.out⟩, ⟨by (with_reducible repeat (first | refine blk_drewN ?_ _ | refine blk_drew ?_ | refine blk_alloc ?_ _)); refine blk_put (cs := #[.bool true, .bool x140001_4, .bool x140002_4]) ?_ 0 _ rfl; (with_reducible repeat (first | refine blk_drewN ?_ _ | refine blk_drew ?_ | refine blk_alloc ?_ _)); exact BK139.out⟩, ⟨by repeat (first | (with_reducible first | exact HB.out | apply below_alloc | apply pw_below_drewN | apply below_drew1 | refine below_set ?_ GE101.out | refine below_set ?_ GE102.out | refine below_set ?_ GE103.out | refine below_set ?_ GE112.out | refine below_set ?_ GE139.out) | exact HB.out)⟩⟩
      replace c76 := Bool.eq_false_iff.mpr c76
      subst c76
      have H1 : (lP.l23 k4 t109 x9_1 x10_2 t123 t134 t137 t138 x9_1 (wrap64 (x22_4 + 1)) t104 t105 t106 t107 t108 false x140001_4 x140002_4) = some r := by rw [if_neg (show ¬ (false = true) by decide)] at H; exact H
      clear H
      have H := H1
      clear H1
      have H' := Aside0.mk H
      clear H
      try go_wp2
      have n0_ := Aside0.mk (Kd.R_drew HO_8.out)
      have n1_ := Aside0.mk (Kd.R_drew HO_9.out)
      have n2_ := Aside0.mk (Kd.R_drew HO_10.out)
      have n3_ := Aside0.mk (Kd.R_drew HO_14.out)
      have n4_ := Aside0.mk (Kd.R_drew HO_21.out)
      have n5_ := Aside0.mk (blk_drew BK101.out)
      have n6_ := Aside0.mk (blk_drew BK102.out)
      have n7_ := Aside0.mk (blk_drew BK103.out)
      have n8_ := Aside0.mk (blk_drew BK112.out)
      have n9_ := Aside0.mk (blk_drew BK139.out)
      have n10_ := Aside0.mk (below_drew1 HB.out)
      clear HO_8
      clear HO_9
      clear HO_10
      clear HO_14
      clear HO_21
      clear BK101
      clear BK102
      clear BK103
      clear BK112
      clear BK139
      clear HB
      have HO_8 := n0_
      have HO_9 := n1_
      have HO_10 := n2_
      have HO_14 := n3_
      have HO_21 := n4_
      have BK101 := n5_
      have BK102 := n6_
      have BK103 := n7_
      have BK112 := n8_
      have BK139 := n9_
      have HB := n10_
      clear n0_ n1_ n2_ n3_ n4_ n5_ n6_ n7_ n8_ n9_ n10_
      refine start_ (n := 14) (S := fun w' => w'.cell? ⟨gb112, 0, none⟩ = some (.int .i64 t104) ∧ w'.cell? ⟨gb112, 1, none⟩ = some (.int .i64 t105) ∧ w'.cell? ⟨gb112, 2, none⟩ = some (.int .i64 t106) ∧ w'.cell? ⟨gb112, 3, none⟩ = some (.int .i64 t107) ∧ w'.cell? ⟨gb112, 4, none⟩ = some (.int .i64 t108)) (ds := []) (bl 14 0) (by kernel_rfl) rfl rfl ⟨(blk_cell BK112.out 0).trans rfl, (blk_cell BK112.out 1).trans rfl, (blk_cell BK112.out 2).trans rfl, (blk_cell BK112.out 3).trans rfl, (blk_cell BK112.out 4).trans rfl⟩ (fun hHeld => ?_); refine with_tabW lP.tab23 lP.bits23 (fun HT_ HW_ => ?_)
      generalize wr.drew = w88 at HO_8 HO_9 HO_10 HO_14 HO_21 BK101 BK102 BK103 BK112 BK139 HB hHeld ⊢
      refine pq 1 (some 118) (bl 14 2) HT_ (h := ?_)
      refine pq 3 (some 120) (bl 14 10) HT_ (h := ?_)
      refine pq 4 (some 121) (bl 14 26) HT_ (h := ?_)
      refine tq 0 (some 117) (bl 14 27) HT_ HW_ hHeld (h := ?_)
      refine one_ (i := 2) (N := some 119) (bl 14 31) rfl rfl (one_of HT_.out (by kernel_rfl)) (by decide) (fun K hK => ?_)
      refine goes_ Tryd.func43 (by kernel_rfl) rfl #[.slice Ao32 t109.length co32] (by rfl) rfl rfl (by (try simp only [List.map_toArray, List.map_cons, List.map_nil]); first | done | rfl | (simp only [List.length_drop, List.length_take]; rfl)) ?_
      with_reducible refine (smaltolaw03_own.calls _ _ t109 t140 _ ?side1 ?side2 A73.out).mono ?_
      (case side1 => repeat (first | exact (Kd.R_reads' HO_8.out).2.2 | (with_reducible refine Kd.C_alloc ?_ _) | (with_reducible refine Kd.C_drewN ?_ _) | (with_reducible refine Kd.C_drew ?_)))
      (case side2 => exact (Kd.R_reads' HO_8.out).2.1)
      rintro e w89 ⟨v141, rfl, ho0, hb⟩
      refine ⟨_, rfl, ?_⟩
      have n0_ := Aside0.mk (Kd.R_elder' (R_ HO_8) (Kd.R_base ho0) hb)
      have n1_ := Aside0.mk (Kd.R_below (R_ HO_9) hb)
      have n2_ := Aside0.mk (Kd.R_below (R_ HO_10) hb)
      have n3_ := Aside0.mk (Kd.R_below (R_ HO_14) hb)
      have n4_ := Aside0.mk (Kd.R_below (R_ HO_21) hb)
      have n5_ := Aside0.mk (Kd.R_lower (Kd.R_new' ho0 (Kd.R_lt (R_ HO_8))) (below_size (by repeat (first | (with_reducible first | exact HB.out | apply below_alloc | apply pw_below_drewN | apply below_drew1 | refine below_set ?_ GE101.out | refine below_set ?_ GE102.out | refine below_set ?_ GE103.out | refine below_set ?_ GE112.out | refine below_set ?_ GE139.out) | exact HB.out))))
      have n6_ := Aside0.mk (blk_below (g := gb101) (o := .cells #[.int .u8 a0_0, .int .u8 a0_1, .int .u8 a0_2, .int .u8 a0_3, .int .u8 a0_4, .slice A0_5 l0_5.length c0_5] 66 (0, 0)) (b_ BK101) hb)
      have n7_ := Aside0.mk (blk_below (g := gb102) (o := .cells #[.int .u8 a1_0, .int .u8 a1_1, .int .u8 a1_2, .int .u8 a1_3, .int .u8 a1_4, .int .u8 a1_5] 67 (0, 0)) (b_ BK102) hb)
      have n8_ := Aside0.mk (blk_below (g := gb103) (o := .cells #[.int .u8 a2_0, .int .u8 a2_1, .int .u8 a2_2, .int .u8 a2_3, .int .u8 a2_4, .int .u8 a2_5] 67 (0, 0)) (b_ BK103) hb)
      have n9_ := Aside0.mk (blk_below (g := gb112) (o := .cells #[.int .i64 t104, .int .i64 t105, .int .i64 t106, .int .i64 t107, .int .i64 t108] 23 (0, 0)) (b_ BK112) hb)
      have n10_ := Aside0.mk (blk_below (g := gb139) (o := .cells #[.bool false, .bool x140001_4, .bool x140002_4] 82 (0, 0)) (b_ BK139) hb)
      have n11_ := Aside0.mk (below_step (by repeat (first | (with_reducible first | exact HB.out | apply below_alloc | apply pw_below_drewN | apply below_drew1 | refine below_set ?_ GE101.out | refine below_set ?_ GE102.out | refine below_set ?_ GE103.out | refine below_set ?_ GE112.out | refine below_set ?_ GE139.out) | exact HB.out)) hb)
      clear HO_8
      clear HO_9
      clear HO_10
      clear HO_14
      clear HO_21
      clear BK101
      clear BK102
      clear BK103
      clear BK112
      clear BK139
      clear HB
      have HO_8 := n0_
      have HO_9 := n1_
      have HO_10 := n2_
      have HO_14 := n3_
      have HO_21 := n4_
      have HO142 := n5_
      have BK101 := n6_
      have BK102 := n7_
      have BK103 := n8_
      have BK112 := n9_
      have BK139 := n10_
      have HB := n11_
      clear n0_ n1_ n2_ n3_ n4_ n5_ n6_ n7_ n8_ n9_ n10_ n11_
      (try clear hb)
      (try clear hb2)
      (try clear hk)
      (try clear hi)
      (try clear ho0)
      refine hK.out _ _ ⟨(blk_cell BK112.out 0).trans rfl, (blk_cell BK112.out 1).trans rfl, (blk_cell BK112.out 2).trans rfl, (blk_cell BK112.out 3).trans rfl, (blk_cell BK112.out 4).trans rfl⟩ (fun hHeld => ?_)
      clear hK K
      refine nq 119 ?_
      refine one_ (i := 5) (N := some 122) (bl 14 63) rfl rfl (one_of HT_.out (by kernel_rfl)) (by decide) (fun K hK => ?_)
      refine goes_ Tryd.func47 (by kernel_rfl) rfl #[.slice Ao33 x9_1.length co33, .int .i64 x22_4] (by rfl) rfl rfl (by (try simp only [List.map_toArray, List.map_cons, List.map_nil]); first | done | rfl | (simp only [List.length_drop, List.length_take]; rfl)) ?_
      with_reducible refine (smaltolaw03_of.calls k4 _ _ x9_1 x22_4 t143 _ ?side1 ?side2 A74.out).mono ?_
      (case side1 => repeat (first | exact (Kd.R_reads' HO_21.out).2.2 | (with_reducible refine Kd.C_alloc ?_ _) | (with_reducible refine Kd.C_drewN ?_ _) | (with_reducible refine Kd.C_drew ?_)))
      (case side2 => exact (Kd.R_reads' HO_21.out).2.1)
      rintro e w90 ⟨v144, rfl, ho0, hb⟩
      refine ⟨_, rfl, ?_⟩
      have n0_ := Aside0.mk (Kd.R_below (R_ HO_8) hb)
      have n1_ := Aside0.mk (Kd.R_elder' (R_ HO_9) (Kd.R_base ho0) hb)
      have n2_ := Aside0.mk (Kd.R_elder' (R_ HO_10) (Kd.R_base ho0) hb)
      have n3_ := Aside0.mk (Kd.R_elder' (R_ HO_14) (Kd.R_base ho0) hb)
      have n4_ := Aside0.mk (Kd.R_elder' (R_ HO_21) (Kd.R_base ho0) hb)
      have n5_ := Aside0.mk (Kd.R_below (R_ HO142) hb)
      have n6_ := Aside0.mk (Kd.R_lower (Kd.R_new' (Kd.R_new' (Kd.R_new' (Kd.R_new' ho0 (Kd.R_lt (R_ HO_9))) (Kd.R_lt (R_ HO_10))) (Kd.R_lt (R_ HO_14))) (Kd.R_lt (R_ HO_21))) (below_size (by repeat (first | (with_reducible first | exact HB.out | apply below_alloc | apply pw_below_drewN | apply below_drew1 | refine below_set ?_ GE101.out | refine below_set ?_ GE102.out | refine below_set ?_ GE103.out | refine below_set ?_ GE112.out | refine below_set ?_ GE139.out) | exact HB.out))))
      have n7_ := Aside0.mk (blk_below (g := gb101) (o := .cells #[.int .u8 a0_0, .int .u8 a0_1, .int .u8 a0_2, .int .u8 a0_3, .int .u8 a0_4, .slice A0_5 l0_5.length c0_5] 66 (0, 0)) (b_ BK101) hb)
      have n8_ := Aside0.mk (blk_below (g := gb102) (o := .cells #[.int .u8 a1_0, .int .u8 a1_1, .int .u8 a1_2, .int .u8 a1_3, .int .u8 a1_4, .int .u8 a1_5] 67 (0, 0)) (b_ BK102) hb)
      have n9_ := Aside0.mk (blk_below (g := gb103) (o := .cells #[.int .u8 a2_0, .int .u8 a2_1, .int .u8 a2_2, .int .u8 a2_3, .int .u8 a2_4, .int .u8 a2_5] 67 (0, 0)) (b_ BK103) hb)
      have n10_ := Aside0.mk (blk_below (g := gb112) (o := .cells #[.int .i64 t104, .int .i64 t105, .int .i64 t106, .int .i64 t107, .int .i64 t108] 23 (0, 0)) (b_ BK112) hb)
      have n11_ := Aside0.mk (blk_below (g := gb139) (o := .cells #[.bool false, .bool x140001_4, .bool x140002_4] 82 (0, 0)) (b_ BK139) hb)
      have n12_ := Aside0.mk (below_step (by repeat (first | (with_reducible first | exact HB.out | apply below_alloc | apply pw_below_drewN | apply below_drew1 | refine below_set ?_ GE101.out | refine below_set ?_ GE102.out | refine below_set ?_ GE103.out | refine below_set ?_ GE112.out | refine below_set ?_ GE139.out) | exact HB.out)) hb)
      clear HO_8
      clear HO_9
      clear HO_10
      clear HO_14
      clear HO_21
      clear HO142
      clear BK101
      clear BK102
      clear BK103
      clear BK112
      clear BK139
      clear HB
      have HO_8 := n0_
      have HO_9 := n1_
      have HO_10 := n2_
      have HO_14 := n3_
      have HO_21 := n4_
      have HO142 := n5_
      have HO145 := n6_
      have BK101 := n7_
      have BK102 := n8_
      have BK103 := n9_
      have BK112 := n10_
      have BK139 := n11_
      have HB := n12_
      clear n0_ n1_ n2_ n3_ n4_ n5_ n6_ n7_ n8_ n9_ n10_ n11_ n12_
      (try clear hb)
      (try clear hb2)
      (try clear hk)
      (try clear hi)
      (try clear ho0)
      obtain ⟨Ao91, co91, eo91⟩ := Kd.R_slice HO142.out
      (first | subst eo91 | (injection eo91 with f1_ f2_ f3_; have f4_ := f1_.symm; have f5_ := f3_.symm; clear f1_ f2_ f3_; subst f4_; subst f5_))
      obtain ⟨Ao92, co92, eo92⟩ := Kd.R_slice HO145.out
      (first | subst eo92 | (injection eo92 with f1_ f2_ f3_; have f4_ := f1_.symm; have f5_ := f3_.symm; clear f1_ f2_ f3_; subst f4_; subst f5_))
      refine hK.out _ _ ⟨(blk_cell BK112.out 0).trans rfl, (blk_cell BK112.out 1).trans rfl, (blk_cell BK112.out 2).trans rfl, (blk_cell BK112.out 3).trans rfl, (blk_cell BK112.out 4).trans rfl⟩ (fun hHeld => ?_)
      clear hK K
      refine nq 122 ?_
      refine one_ (i := 6) (N := some 123) (bl 14 127) rfl rfl (one_of HT_.out (by kernel_rfl)) (by decide) (fun K hK => ?_)
      refine goes_ Tryd.func17 (by kernel_rfl) rfl #[.agg #[.int .i64 t104, .int .i64 t105, .int .i64 t106, .int .i64 t107, .int .i64 t108], .slice Ao91 t140.length co91, .slice Ao92 t143.length co92] (by rfl) rfl rfl (by (try simp only [List.map_toArray, List.map_cons, List.map_nil]); first | done | rfl | (simp only [List.length_drop, List.length_take]; rfl)) ?_
      with_reducible refine (goesC.calls t104 t105 t106 t107 t108 _ _ t140 _ _ t143 t146 t147 _ ?side5 ?side1 ?side2 ?side3 ?side4 A75.out).mono ?_
      (case side1 => repeat (first | exact (Kd.R_reads' HO142.out).2.2 | (with_reducible refine Kd.C_alloc ?_ _) | (with_reducible refine Kd.C_drewN ?_ _) | (with_reducible refine Kd.C_drew ?_)))
      (case side2 => exact (Kd.R_reads' HO142.out).2.1)
      (case side3 => repeat (first | exact (Kd.R_reads' HO145.out).2.2 | (with_reducible refine Kd.C_alloc ?_ _) | (with_reducible refine Kd.C_drewN ?_ _) | (with_reducible refine Kd.C_drew ?_)))
      (case side4 => exact (Kd.R_reads' HO145.out).2.1)
      (case side5 => exact Hand.TabW.below HTAB.out (by repeat (first | (with_reducible first | exact HB.out | apply below_alloc | apply pw_below_drewN | apply below_drew1 | refine below_set ?_ GE101.out | refine below_set ?_ GE102.out | refine below_set ?_ GE103.out | refine below_set ?_ GE112.out | refine below_set ?_ GE139.out) | exact HB.out)))
      rintro e w93 ⟨rfl, hb⟩
      refine ⟨_, rfl, ?_⟩
      have n0_ := Aside0.mk (Kd.R_below (R_ HO_8) hb)
      have n1_ := Aside0.mk (Kd.R_below (R_ HO_9) hb)
      have n2_ := Aside0.mk (Kd.R_below (R_ HO_10) hb)
      have n3_ := Aside0.mk (Kd.R_below (R_ HO_14) hb)
      have n4_ := Aside0.mk (Kd.R_below (R_ HO_21) hb)
      have n5_ := Aside0.mk (Kd.R_below (R_ HO142) hb)
      have n6_ := Aside0.mk (Kd.R_below (R_ HO145) hb)
      have n7_ := Aside0.mk (blk_below (g := gb101) (o := .cells #[.int .u8 a0_0, .int .u8 a0_1, .int .u8 a0_2, .int .u8 a0_3, .int .u8 a0_4, .slice A0_5 l0_5.length c0_5] 66 (0, 0)) (b_ BK101) hb)
      have n8_ := Aside0.mk (blk_below (g := gb102) (o := .cells #[.int .u8 a1_0, .int .u8 a1_1, .int .u8 a1_2, .int .u8 a1_3, .int .u8 a1_4, .int .u8 a1_5] 67 (0, 0)) (b_ BK102) hb)
      have n9_ := Aside0.mk (blk_below (g := gb103) (o := .cells #[.int .u8 a2_0, .int .u8 a2_1, .int .u8 a2_2, .int .u8 a2_3, .int .u8 a2_4, .int .u8 a2_5] 67 (0, 0)) (b_ BK103) hb)
      have n10_ := Aside0.mk (blk_below (g := gb112) (o := .cells #[.int .i64 t104, .int .i64 t105, .int .i64 t106, .int .i64 t107, .int .i64 t108] 23 (0, 0)) (b_ BK112) hb)
      have n11_ := Aside0.mk (blk_below (g := gb139) (o := .cells #[.bool false, .bool x140001_4, .bool x140002_4] 82 (0, 0)) (b_ BK139) hb)
      have n12_ := Aside0.mk (below_step (by repeat (first | (with_reducible first | exact HB.out | apply below_alloc | apply pw_below_drewN | apply below_drew1 | refine below_set ?_ GE101.out | refine below_set ?_ GE102.out | refine below_set ?_ GE103.out | refine below_set ?_ GE112.out | refine below_set ?_ GE139.out) | exact HB.out)) hb)
      clear HO_8
      clear HO_9
      clear HO_10
      clear HO_14
      clear HO_21
      clear HO142
      clear HO145
      clear BK101
      clear BK102
      clear BK103
      clear BK112
      clear BK139
      clear HB
      have HO_8 := n0_
      have HO_9 := n1_
      have HO_10 := n2_
      have HO_14 := n3_
      have HO_21 := n4_
      have HO142 := n5_
      have HO145 := n6_
      have BK101 := n7_
      have BK102 := n8_
      have BK103 := n9_
      have BK112 := n10_
      have BK139 := n11_
      have HB := n12_
      clear n0_ n1_ n2_ n3_ n4_ n5_ n6_ n7_ n8_ n9_ n10_ n11_ n12_
      (try clear hb)
      (try clear hb2)
      (try clear hk)
      (try clear hi)
      refine hK.out _ _ ⟨(blk_cell BK112.out 0).trans rfl, (blk_cell BK112.out 1).trans rfl, (blk_cell BK112.out 2).trans rfl, (blk_cell BK112.out 3).trans rfl, (blk_cell BK112.out 4).trans rfl⟩ (fun hHeld => ?_)
      clear hK K
      refine nq 123 ?_
      refine pq 7 (some 116) (bl 14 255) HT_ (h := ?_)
      refine pq 8 (some 124) (bl 14 511) HT_ (h := ?_)
      refine pq 9 (some 125) (bl 14 1023) HT_ (h := ?_)
      refine pq 10 (some 126) (bl 14 2047) HT_ (h := ?_)
      refine pq 11 (some 23) (bl 14 4095) HT_ (h := ?_)
      refine pq 12 (some 24) (bl 14 8191) HT_ (h := ?_)
      refine pq 13 (some 25) (bl 14 16383) HT_ (h := ?_)
      refine done_ (done_of HT_.out (by kernel_rfl)) ?_
      have hnb94 := NB139_101.out
      have hnc94 := NB101_139.out
      have hnb95 := NB139_102.out
      have hnc95 := NB102_139.out
      have hnb96 := NB139_103.out
      have hnc96 := NB103_139.out
      have hnb97 := NB139_112.out
      have hnc97 := NB112_139.out
      have hcz98_0 : w93.cell? ⟨gb139, 0, none⟩ = some (.bool false) := (blk_cell BK139.out 0).trans rfl
      have hcz98_1 : w93.cell? ⟨gb139, 1, none⟩ = some (.bool x140001_4) := (blk_cell BK139.out 1).trans rfl
      have hcz98_2 : w93.cell? ⟨gb139, 2, none⟩ = some (.bool x140002_4) := (blk_cell BK139.out 2).trans rfl
      have hfz98_0 := blk_frozen BK139.out 0
      have hfz98_1 := blk_frozen BK139.out 1
      have hfz98_2 := blk_frozen BK139.out 2
      try go_wp2
      go_roundg k4
      case measure => have := HK1.out; have := HK2.out; have := HJ47.out; have := HK4.out; omega
      case rel => exact ⟨(wrap64 (x22_4 + 1)), (false), (x140001_4), (x140002_4), (by first | rfl | (simp; done) | (simp [*]; done)), H', ⟨by have := HK1.out; have := HK2.out; have := HJ47.out; have := HK4.out; omega⟩, ⟨by (with_reducible repeat (first | apply Kd.R_alloc | apply Kd.R_drewN | apply Kd.R_drew)); exact Kd.R_mono (Kd.R_far (p := ⟨gb139, 0, none⟩) (Kd.R_types HO_8.out BK139.out (by decide)) (fun _ hk => hk.2) (.bool false)) (fun _ hk => trivial)⟩, ⟨by (with_reducible repeat (first | apply Kd.R_alloc | apply Kd.R_drewN | apply Kd.R_drew)); exact Kd.R_mono (Kd.R_far (p := ⟨gb139, 0, none⟩) (Kd.R_types HO_9.out BK139.out (by decide)) (fun _ hk => hk.2) (.bool false)) (fun _ hk => ⟨hk.1.1.1, hk.1.1.2⟩)⟩, ⟨by (with_reducible repeat (first | apply Kd.R_alloc | apply Kd.R_drewN | apply Kd.R_drew)); exact Kd.R_mono (Kd.R_far (p := ⟨gb139, 0, none⟩) (Kd.R_types HO_10.out BK139.out (by decide)) (fun _ hk => hk.2) (.bool false)) (fun _ hk => ⟨hk.1.1.1, ⟨hk.1.1.2.1, hk.1.1.2.2⟩⟩)⟩, ⟨by (with_reducible repeat (first | apply Kd.R_alloc | apply Kd.R_drewN | apply Kd.R_drew)); exact Kd.R_mono (Kd.R_far (p := ⟨gb139, 0, none⟩) (Kd.R_types HO_14.out BK139.out (by decide)) (fun _ hk => hk.2) (.bool false)) (fun _ hk => ⟨hk.1.1.1, ⟨hk.1.1.2.1, hk.1.1.2.2⟩⟩)⟩, ⟨by (with_reducible repeat (first | apply Kd.R_alloc | apply Kd.R_drewN | apply Kd.R_drew)); exact Kd.R_mono (Kd.R_far (p := ⟨gb139, 0, none⟩) (Kd.R_types HO_21.out BK139.out (by decide)) (fun _ hk => hk.2) (.bool false)) (fun _ hk => ⟨hk.1.1.1, hk.1.1.2⟩)⟩, ⟨by (with_reducible repeat (first | refine blk_drewN ?_ _ | refine blk_drew ?_ | refine blk_alloc ?_ _)); refine blk_far ?_ NB101_139.out _; (with_reducible repeat (first | refine blk_drewN ?_ _ | refine blk_drew ?_ | refine blk_alloc ?_ _)); exact BK101.out⟩, ⟨by (with_reducible repeat (first | refine blk_drewN ?_ _ | refine blk_drew ?_ | refine blk_alloc ?_ _)); refine blk_far ?_ NB102_139.out _; (with_reducible repeat (first | refine blk_drewN ?_ _ | refine blk_drew ?_ | refine blk_alloc ?_ _)); exact BK102.out⟩, ⟨by (with_reducible repeat (first | refine blk_drewN ?_ _ | refine blk_drew ?_ | refine blk_alloc ?_ _)); refine blk_far ?_ NB103_139.out _; (with_reducible repeat (first | refine blk_drewN ?_ _ | refine blk_drew ?_ | refine blk_alloc ?_ _)); exact BK103.out⟩, ⟨by (with_reducible repeat (first | refine blk_drewN ?_ _ | refine blk_drew ?_ | refine blk_alloc ?_ _)); refine blk_far ?_ NB112_139.out _; (with_reducible repeat (first | refine blk_drewN ?_ _ | refine blk_drew ?_ | refine blk_alloc ?_ _)); exact BK112.out⟩, ⟨by (with_reducible repeat (first | refine blk_drewN ?_ _ | refine blk_drew ?_ | refine blk_alloc ?_ _)); refine blk_put (cs := #[.bool false, .bool x140001_4, .bool x140002_4]) ?_ 0 _ rfl; (with_reducible repeat (first | refine blk_drewN ?_ _ | refine blk_drew ?_ | refine blk_alloc ?_ _)); exact BK139.out⟩, ⟨by repeat (first | (with_reducible first | exact HB.out | apply below_alloc | apply pw_below_drewN | apply below_drew1 | refine below_set ?_ GE101.out | refine below_set ?_ GE102.out | refine below_set ?_ GE103.out | refine below_set ?_ GE112.out | refine below_set ?_ GE139.out) | exact HB.out)⟩⟩
     rw [if_neg c72] at H
     have c72b0 : decide (x22_4 < 6) = false := decide_eq_false c72
     clear c72
     have H' := Aside0.mk H
     clear H
     go_wp2
     go_loopg [22] k4 (fun kq v22 w' => ∃ (x22_5 : Int) (x140000_5 : Bool) (x140001_5 : Bool) (x140002_5 : Bool), v22 = .int .i64 x22_5 ∧ Aside0 (lP.l43 kq t109 x9_1 x10_2 t123 t134 t137 t138 x10_2 x22_5 t104 t105 t106 t107 t108 x140000_5 x140001_5 x140002_5 = some r) ∧ Aside0 (kq ≤ k4) ∧ Aside0 (Kd.R k74 74 w' w.heap.size (fun _ => True) (.slice Ao32 t109.length co32) t109) ∧ Aside0 (Kd.R (Kd.int .i64) 3 w' w.heap.size (fun k_ => some k_ ≠ ((.slice Ao71 x10_2.length co71) : Value).ownBlock ∧ some k_ ≠ ((.slice Ao70 t134.length co70) : Value).ownBlock ∧ some k_ ≠ ((.slice Ao71 x10_2.length co71) : Value).ownBlock) (.slice Ao33 x9_1.length co33) x9_1) ∧ Aside0 (Kd.R (Kd.int .i64) 3 w' w.heap.size (fun k_ => some k_ ≠ ((.slice Ao33 x9_1.length co33) : Value).ownBlock ∧ some k_ ≠ ((.slice Ao70 t134.length co70) : Value).ownBlock) (.slice Ao71 x10_2.length co71) x10_2) ∧ Aside0 (Kd.R (Kd.int .i64) 3 w' w.heap.size (fun k_ => some k_ ≠ ((.slice Ao33 x9_1.length co33) : Value).ownBlock ∧ some k_ ≠ ((.slice Ao71 x10_2.length co71) : Value).ownBlock ∧ some k_ ≠ ((.slice Ao71 x10_2.length co71) : Value).ownBlock) (.slice Ao70 t134.length co70) t134) ∧ Aside0 (Kd.R (Kd.int .i64) 3 w' w.heap.size (fun k_ => some k_ ≠ ((.slice Ao33 x9_1.length co33) : Value).ownBlock ∧ some k_ ≠ ((.slice Ao70 t134.length co70) : Value).ownBlock) (.slice Ao71 x10_2.length co71) x10_2) ∧ Aside0 (w'.heap[gb101]? = some (.cells #[.int .u8 a0_0, .int .u8 a0_1, .int .u8 a0_2, .int .u8 a0_3, .int .u8 a0_4, (.slice A0_5 l0_5.length c0_5)] 66 (0, 0))) ∧ Aside0 (w'.heap[gb102]? = some (.cells #[.int .u8 a1_0, .int .u8 a1_1, .int .u8 a1_2, .int .u8 a1_3, .int .u8 a1_4, .int .u8 a1_5] 67 (0, 0))) ∧ Aside0 (w'.heap[gb103]? = some (.cells #[.int .u8 a2_0, .int .u8 a2_1, .int .u8 a2_2, .int .u8 a2_3, .int .u8 a2_4, .int .u8 a2_5] 67 (0, 0))) ∧ Aside0 (w'.heap[gb112]? = some (.cells #[.int .i64 t104, .int .i64 t105, .int .i64 t106, .int .i64 t107, .int .i64 t108] 23 (0, 0))) ∧ Aside0 (w'.heap[gb139]? = some (.cells #[.bool x140000_5, .bool x140001_5, .bool x140002_5] 82 (0, 0))) ∧ Aside0 (Below w.heap.size w w'))
     case atStart => exact ⟨(0), (x140000_4), (x140001_4), (x140002_4), (by first | rfl | (simp; done) | (simp [*]; done)), H', ⟨Nat.le_refl _⟩, ⟨R_ HO_8⟩, ⟨Kd.R_mono (R_ HO_9) (fun _ hk => ⟨hk.1, ⟨hk.2, hk.1⟩⟩)⟩, ⟨Kd.R_mono (R_ HO_10) (fun _ hk => ⟨hk.1, hk.2.1⟩)⟩, ⟨Kd.R_mono (R_ HO_14) (fun _ hk => ⟨hk.1, ⟨hk.2.1, hk.2.1⟩⟩)⟩, ⟨Kd.R_mono (R_ HO_10) (fun _ hk => ⟨hk.1, hk.2.1⟩)⟩, ⟨b_ BK101⟩, ⟨b_ BK102⟩, ⟨b_ BK103⟩, ⟨b_ BK112⟩, ⟨b_ BK139⟩, ⟨by repeat (first | (with_reducible first | exact HB.out | apply below_alloc | apply pw_below_drewN | apply below_drew1 | refine below_set ?_ GE101.out | refine below_set ?_ GE102.out | refine below_set ?_ GE103.out | refine below_set ?_ GE112.out | refine below_set ?_ GE139.out) | exact HB.out)⟩⟩
     case round => as_aux_lemma =>
      clear H'
      try clear c72
      try clear c72b0
      obtain ⟨x22_5, x140000_5, x140001_5, x140002_5, rfl, HA, HK5, HO_8, HO_9, HO_10, HO_14, HO_21, BK101, BK102, BK103, BK112, BK139, HB⟩ := hrel
      rcases gk with _ | k5
      ·exact absurd HA.out (by simp [lP.l43])
      have H := HA.out
      clear HA
      simp only [lP.l43] at H
      by_cases c99 : x22_5 < 6
      ·rw [if_pos c99] at H
       have c99b0 : decide (x22_5 < 6) = true := decide_eq_true c99
       clear c99
       replace H := Option.bind_eq_some_iff.mp H
       obtain ⟨t149, A1000, H⟩ := H
       replace H : ((smaltolaw03_of.f k5 x10_2 x22_5).bind fun t152 => ((goesC.f t104 t105 t106 t107 t108 t149 t152).bind fun bt155 => (if x140001_5 = true then (lP.l43 k5 t109 x9_1 x10_2 t123 t134 t137 t138 x10_2 (wrap64 (x22_5 + 1)) t104 t105 t106 t107 t108 x140000_5 bt155.1 x140002_5) else (lP.l43 k5 t109 x9_1 x10_2 t123 t134 t137 t138 x10_2 (wrap64 (x22_5 + 1)) t104 t105 t106 t107 t108 x140000_5 false x140002_5)))) = some r := H
       have A100 := Aside0.mk A1000
       clear A1000
       replace H := Option.bind_eq_some_iff.mp H
       obtain ⟨t152, A1010, H⟩ := H
       replace H : ((goesC.f t104 t105 t106 t107 t108 t149 t152).bind fun bt155 => (if x140001_5 = true then (lP.l43 k5 t109 x9_1 x10_2 t123 t134 t137 t138 x10_2 (wrap64 (x22_5 + 1)) t104 t105 t106 t107 t108 x140000_5 bt155.1 x140002_5) else (lP.l43 k5 t109 x9_1 x10_2 t123 t134 t137 t138 x10_2 (wrap64 (x22_5 + 1)) t104 t105 t106 t107 t108 x140000_5 false x140002_5))) = some r := H
       have A101 := Aside0.mk A1010
       clear A1010
       replace H := Option.bind_eq_some_iff.mp H
       obtain ⟨⟨t155, t156⟩, A1020, H⟩ := H
       replace H : (if x140001_5 = true then (lP.l43 k5 t109 x9_1 x10_2 t123 t134 t137 t138 x10_2 (wrap64 (x22_5 + 1)) t104 t105 t106 t107 t108 x140000_5 t155 x140002_5) else (lP.l43 k5 t109 x9_1 x10_2 t123 t134 t137 t138 x10_2 (wrap64 (x22_5 + 1)) t104 t105 t106 t107 t108 x140000_5 false x140002_5)) = some r := H
       have A102 := Aside0.mk A1020
       clear A1020
       by_cases c103 : x140001_5 = true
       ·subst c103
        have H1 : (lP.l43 k5 t109 x9_1 x10_2 t123 t134 t137 t138 x10_2 (wrap64 (x22_5 + 1)) t104 t105 t106 t107 t108 x140000_5 t155 x140002_5) = some r := by rw [if_pos rfl] at H; exact H
        clear H
        have H := H1
        clear H1
        have H' := Aside0.mk H
        clear H
        try go_wp2
        have n0_ := Aside0.mk (Kd.R_drew HO_8.out)
        have n1_ := Aside0.mk (Kd.R_drew HO_9.out)
        have n2_ := Aside0.mk (Kd.R_drew HO_10.out)
        have n3_ := Aside0.mk (Kd.R_drew HO_14.out)
        have n4_ := Aside0.mk (Kd.R_drew HO_21.out)
        have n5_ := Aside0.mk (blk_drew BK101.out)
        have n6_ := Aside0.mk (blk_drew BK102.out)
        have n7_ := Aside0.mk (blk_drew BK103.out)
        have n8_ := Aside0.mk (blk_drew BK112.out)
        have n9_ := Aside0.mk (blk_drew BK139.out)
        have n10_ := Aside0.mk (below_drew1 HB.out)
        clear HO_8
        clear HO_9
        clear HO_10
        clear HO_14
        clear HO_21
        clear BK101
        clear BK102
        clear BK103
        clear BK112
        clear BK139
        clear HB
        have HO_8 := n0_
        have HO_9 := n1_
        have HO_10 := n2_
        have HO_14 := n3_
        have HO_21 := n4_
        have BK101 := n5_
        have BK102 := n6_
        have BK103 := n7_
        have BK112 := n8_
        have BK139 := n9_
        have HB := n10_
        clear n0_ n1_ n2_ n3_ n4_ n5_ n6_ n7_ n8_ n9_ n10_
        refine start_ (n := 14) (S := fun w' => w'.cell? ⟨gb112, 0, none⟩ = some (.int .i64 t104) ∧ w'.cell? ⟨gb112, 1, none⟩ = some (.int .i64 t105) ∧ w'.cell? ⟨gb112, 2, none⟩ = some (.int .i64 t106) ∧ w'.cell? ⟨gb112, 3, none⟩ = some (.int .i64 t107) ∧ w'.cell? ⟨gb112, 4, none⟩ = some (.int .i64 t108)) (ds := []) (bl 14 0) (by kernel_rfl) rfl rfl ⟨(blk_cell BK112.out 0).trans rfl, (blk_cell BK112.out 1).trans rfl, (blk_cell BK112.out 2).trans rfl, (blk_cell BK112.out 3).trans rfl, (blk_cell BK112.out 4).trans rfl⟩ (fun hHeld => ?_); refine with_tabW lP.tab23 lP.bits23 (fun HT_ HW_ => ?_)
        generalize wr.drew = w104 at HO_8 HO_9 HO_10 HO_14 HO_21 BK101 BK102 BK103 BK112 BK139 HB hHeld ⊢
        refine pq 1 (some 118) (bl 14 2) HT_ (h := ?_)
        refine pq 3 (some 120) (bl 14 10) HT_ (h := ?_)
        refine pq 4 (some 121) (bl 14 26) HT_ (h := ?_)
        refine tq 0 (some 117) (bl 14 27) HT_ HW_ hHeld (h := ?_)
        refine one_ (i := 2) (N := some 119) (bl 14 31) rfl rfl (one_of HT_.out (by kernel_rfl)) (by decide) (fun K hK => ?_)
        refine goes_ Tryd.func43 (by kernel_rfl) rfl #[.slice Ao32 t109.length co32] (by rfl) rfl rfl (by (try simp only [List.map_toArray, List.map_cons, List.map_nil]); first | done | rfl | (simp only [List.length_drop, List.length_take]; rfl)) ?_
        with_reducible refine (smaltolaw03_own.calls _ _ t109 t149 _ ?side1 ?side2 A100.out).mono ?_
        (case side1 => repeat (first | exact (Kd.R_reads' HO_8.out).2.2 | (with_reducible refine Kd.C_alloc ?_ _) | (with_reducible refine Kd.C_drewN ?_ _) | (with_reducible refine Kd.C_drew ?_)))
        (case side2 => exact (Kd.R_reads' HO_8.out).2.1)
        rintro e w105 ⟨v150, rfl, ho0, hb⟩
        refine ⟨_, rfl, ?_⟩
        have n0_ := Aside0.mk (Kd.R_elder' (R_ HO_8) (Kd.R_base ho0) hb)
        have n1_ := Aside0.mk (Kd.R_below (R_ HO_9) hb)
        have n2_ := Aside0.mk (Kd.R_below (R_ HO_10) hb)
        have n3_ := Aside0.mk (Kd.R_below (R_ HO_14) hb)
        have n4_ := Aside0.mk (Kd.R_below (R_ HO_21) hb)
        have n5_ := Aside0.mk (Kd.R_lower (Kd.R_new' ho0 (Kd.R_lt (R_ HO_8))) (below_size (by repeat (first | (with_reducible first | exact HB.out | apply below_alloc | apply pw_below_drewN | apply below_drew1 | refine below_set ?_ GE101.out | refine below_set ?_ GE102.out | refine below_set ?_ GE103.out | refine below_set ?_ GE112.out | refine below_set ?_ GE139.out) | exact HB.out))))
        have n6_ := Aside0.mk (blk_below (g := gb101) (o := .cells #[.int .u8 a0_0, .int .u8 a0_1, .int .u8 a0_2, .int .u8 a0_3, .int .u8 a0_4, .slice A0_5 l0_5.length c0_5] 66 (0, 0)) (b_ BK101) hb)
        have n7_ := Aside0.mk (blk_below (g := gb102) (o := .cells #[.int .u8 a1_0, .int .u8 a1_1, .int .u8 a1_2, .int .u8 a1_3, .int .u8 a1_4, .int .u8 a1_5] 67 (0, 0)) (b_ BK102) hb)
        have n8_ := Aside0.mk (blk_below (g := gb103) (o := .cells #[.int .u8 a2_0, .int .u8 a2_1, .int .u8 a2_2, .int .u8 a2_3, .int .u8 a2_4, .int .u8 a2_5] 67 (0, 0)) (b_ BK103) hb)
        have n9_ := Aside0.mk (blk_below (g := gb112) (o := .cells #[.int .i64 t104, .int .i64 t105, .int .i64 t106, .int .i64 t107, .int .i64 t108] 23 (0, 0)) (b_ BK112) hb)
        have n10_ := Aside0.mk (blk_below (g := gb139) (o := .cells #[.bool x140000_5, .bool true, .bool x140002_5] 82 (0, 0)) (b_ BK139) hb)
        have n11_ := Aside0.mk (below_step (by repeat (first | (with_reducible first | exact HB.out | apply below_alloc | apply pw_below_drewN | apply below_drew1 | refine below_set ?_ GE101.out | refine below_set ?_ GE102.out | refine below_set ?_ GE103.out | refine below_set ?_ GE112.out | refine below_set ?_ GE139.out) | exact HB.out)) hb)
        clear HO_8
        clear HO_9
        clear HO_10
        clear HO_14
        clear HO_21
        clear BK101
        clear BK102
        clear BK103
        clear BK112
        clear BK139
        clear HB
        have HO_8 := n0_
        have HO_9 := n1_
        have HO_10 := n2_
        have HO_14 := n3_
        have HO_21 := n4_
        have HO151 := n5_
        have BK101 := n6_
        have BK102 := n7_
        have BK103 := n8_
        have BK112 := n9_
        have BK139 := n10_
        have HB := n11_
        clear n0_ n1_ n2_ n3_ n4_ n5_ n6_ n7_ n8_ n9_ n10_ n11_
        (try clear hb)
        (try clear hb2)
        (try clear hk)
        (try clear hi)
        (try clear ho0)
        refine hK.out _ _ ⟨(blk_cell BK112.out 0).trans rfl, (blk_cell BK112.out 1).trans rfl, (blk_cell BK112.out 2).trans rfl, (blk_cell BK112.out 3).trans rfl, (blk_cell BK112.out 4).trans rfl⟩ (fun hHeld => ?_)
        clear hK K
        refine nq 119 ?_
        refine one_ (i := 5) (N := some 122) (bl 14 63) rfl rfl (one_of HT_.out (by kernel_rfl)) (by decide) (fun K hK => ?_)
        refine goes_ Tryd.func47 (by kernel_rfl) rfl #[.slice Ao71 x10_2.length co71, .int .i64 x22_5] (by rfl) rfl rfl (by (try simp only [List.map_toArray, List.map_cons, List.map_nil]); first | done | rfl | (simp only [List.length_drop, List.length_take]; rfl)) ?_
        with_reducible refine (smaltolaw03_of.calls k5 _ _ x10_2 x22_5 t152 _ ?side1 ?side2 A101.out).mono ?_
        (case side1 => repeat (first | exact (Kd.R_reads' HO_21.out).2.2 | (with_reducible refine Kd.C_alloc ?_ _) | (with_reducible refine Kd.C_drewN ?_ _) | (with_reducible refine Kd.C_drew ?_)))
        (case side2 => exact (Kd.R_reads' HO_21.out).2.1)
        rintro e w106 ⟨v153, rfl, ho0, hb⟩
        refine ⟨_, rfl, ?_⟩
        have n0_ := Aside0.mk (Kd.R_below (R_ HO_8) hb)
        have n1_ := Aside0.mk (Kd.R_elder' (R_ HO_9) (Kd.R_base ho0) hb)
        have n2_ := Aside0.mk (Kd.R_elder' (R_ HO_10) (Kd.R_base ho0) hb)
        have n3_ := Aside0.mk (Kd.R_elder' (R_ HO_14) (Kd.R_base ho0) hb)
        have n4_ := Aside0.mk (Kd.R_elder' (R_ HO_21) (Kd.R_base ho0) hb)
        have n5_ := Aside0.mk (Kd.R_below (R_ HO151) hb)
        have n6_ := Aside0.mk (Kd.R_lower (Kd.R_new' (Kd.R_new' (Kd.R_new' (Kd.R_new' ho0 (Kd.R_lt (R_ HO_9))) (Kd.R_lt (R_ HO_10))) (Kd.R_lt (R_ HO_14))) (Kd.R_lt (R_ HO_21))) (below_size (by repeat (first | (with_reducible first | exact HB.out | apply below_alloc | apply pw_below_drewN | apply below_drew1 | refine below_set ?_ GE101.out | refine below_set ?_ GE102.out | refine below_set ?_ GE103.out | refine below_set ?_ GE112.out | refine below_set ?_ GE139.out) | exact HB.out))))
        have n7_ := Aside0.mk (blk_below (g := gb101) (o := .cells #[.int .u8 a0_0, .int .u8 a0_1, .int .u8 a0_2, .int .u8 a0_3, .int .u8 a0_4, .slice A0_5 l0_5.length c0_5] 66 (0, 0)) (b_ BK101) hb)
        have n8_ := Aside0.mk (blk_below (g := gb102) (o := .cells #[.int .u8 a1_0, .int .u8 a1_1, .int .u8 a1_2, .int .u8 a1_3, .int .u8 a1_4, .int .u8 a1_5] 67 (0, 0)) (b_ BK102) hb)
        have n9_ := Aside0.mk (blk_below (g := gb103) (o := .cells #[.int .u8 a2_0, .int .u8 a2_1, .int .u8 a2_2, .int .u8 a2_3, .int .u8 a2_4, .int .u8 a2_5] 67 (0, 0)) (b_ BK103) hb)
        have n10_ := Aside0.mk (blk_below (g := gb112) (o := .cells #[.int .i64 t104, .int .i64 t105, .int .i64 t106, .int .i64 t107, .int .i64 t108] 23 (0, 0)) (b_ BK112) hb)
        have n11_ := Aside0.mk (blk_below (g := gb139) (o := .cells #[.bool x140000_5, .bool true, .bool x140002_5] 82 (0, 0)) (b_ BK139) hb)
        have n12_ := Aside0.mk (below_step (by repeat (first | (with_reducible first | exact HB.out | apply below_alloc | apply pw_below_drewN | apply below_drew1 | refine below_set ?_ GE101.out | refine below_set ?_ GE102.out | refine below_set ?_ GE103.out | refine below_set ?_ GE112.out | refine below_set ?_ GE139.out) | exact HB.out)) hb)
        clear HO_8
        clear HO_9
        clear HO_10
        clear HO_14
        clear HO_21
        clear HO151
        clear BK101
        clear BK102
        clear BK103
        clear BK112
        clear BK139
        clear HB
        have HO_8 := n0_
        have HO_9 := n1_
        have HO_10 := n2_
        have HO_14 := n3_
        have HO_21 := n4_
        have HO151 := n5_
        have HO154 := n6_
        have BK101 := n7_
        have BK102 := n8_
        have BK103 := n9_
        have BK112 := n10_
        have BK139 := n11_
        have HB := n12_
        clear n0_ n1_ n2_ n3_ n4_ n5_ n6_ n7_ n8_ n9_ n10_ n11_ n12_
        (try clear hb)
        (try clear hb2)
        (try clear hk)
        (try clear hi)
        (try clear ho0)
        obtain ⟨Ao107, co107, eo107⟩ := Kd.R_slice HO151.out
        (first | subst eo107 | (injection eo107 with f1_ f2_ f3_; have f4_ := f1_.symm; have f5_ := f3_.symm; clear f1_ f2_ f3_; subst f4_; subst f5_))
        obtain ⟨Ao108, co108, eo108⟩ := Kd.R_slice HO154.out
        (first | subst eo108 | (injection eo108 with f1_ f2_ f3_; have f4_ := f1_.symm; have f5_ := f3_.symm; clear f1_ f2_ f3_; subst f4_; subst f5_))
        refine hK.out _ _ ⟨(blk_cell BK112.out 0).trans rfl, (blk_cell BK112.out 1).trans rfl, (blk_cell BK112.out 2).trans rfl, (blk_cell BK112.out 3).trans rfl, (blk_cell BK112.out 4).trans rfl⟩ (fun hHeld => ?_)
        clear hK K
        refine nq 122 ?_
        refine one_ (i := 6) (N := some 123) (bl 14 127) rfl rfl (one_of HT_.out (by kernel_rfl)) (by decide) (fun K hK => ?_)
        refine goes_ Tryd.func17 (by kernel_rfl) rfl #[.agg #[.int .i64 t104, .int .i64 t105, .int .i64 t106, .int .i64 t107, .int .i64 t108], .slice Ao107 t149.length co107, .slice Ao108 t152.length co108] (by rfl) rfl rfl (by (try simp only [List.map_toArray, List.map_cons, List.map_nil]); first | done | rfl | (simp only [List.length_drop, List.length_take]; rfl)) ?_
        with_reducible refine (goesC.calls t104 t105 t106 t107 t108 _ _ t149 _ _ t152 t155 t156 _ ?side5 ?side1 ?side2 ?side3 ?side4 A102.out).mono ?_
        (case side1 => repeat (first | exact (Kd.R_reads' HO151.out).2.2 | (with_reducible refine Kd.C_alloc ?_ _) | (with_reducible refine Kd.C_drewN ?_ _) | (with_reducible refine Kd.C_drew ?_)))
        (case side2 => exact (Kd.R_reads' HO151.out).2.1)
        (case side3 => repeat (first | exact (Kd.R_reads' HO154.out).2.2 | (with_reducible refine Kd.C_alloc ?_ _) | (with_reducible refine Kd.C_drewN ?_ _) | (with_reducible refine Kd.C_drew ?_)))
        (case side4 => exact (Kd.R_reads' HO154.out).2.1)
        (case side5 => exact Hand.TabW.below HTAB.out (by repeat (first | (with_reducible first | exact HB.out | apply below_alloc | apply pw_below_drewN | apply below_drew1 | refine below_set ?_ GE101.out | refine below_set ?_ GE102.out | refine below_set ?_ GE103.out | refine below_set ?_ GE112.out | refine below_set ?_ GE139.out) | exact HB.out)))
        rintro e w109 ⟨rfl, hb⟩
        refine ⟨_, rfl, ?_⟩
        have n0_ := Aside0.mk (Kd.R_below (R_ HO_8) hb)
        have n1_ := Aside0.mk (Kd.R_below (R_ HO_9) hb)
        have n2_ := Aside0.mk (Kd.R_below (R_ HO_10) hb)
        have n3_ := Aside0.mk (Kd.R_below (R_ HO_14) hb)
        have n4_ := Aside0.mk (Kd.R_below (R_ HO_21) hb)
        have n5_ := Aside0.mk (Kd.R_below (R_ HO151) hb)
        have n6_ := Aside0.mk (Kd.R_below (R_ HO154) hb)
        have n7_ := Aside0.mk (blk_below (g := gb101) (o := .cells #[.int .u8 a0_0, .int .u8 a0_1, .int .u8 a0_2, .int .u8 a0_3, .int .u8 a0_4, .slice A0_5 l0_5.length c0_5] 66 (0, 0)) (b_ BK101) hb)
        have n8_ := Aside0.mk (blk_below (g := gb102) (o := .cells #[.int .u8 a1_0, .int .u8 a1_1, .int .u8 a1_2, .int .u8 a1_3, .int .u8 a1_4, .int .u8 a1_5] 67 (0, 0)) (b_ BK102) hb)
        have n9_ := Aside0.mk (blk_below (g := gb103) (o := .cells #[.int .u8 a2_0, .int .u8 a2_1, .int .u8 a2_2, .int .u8 a2_3, .int .u8 a2_4, .int .u8 a2_5] 67 (0, 0)) (b_ BK103) hb)
        have n10_ := Aside0.mk (blk_below (g := gb112) (o := .cells #[.int .i64 t104, .int .i64 t105, .int .i64 t106, .int .i64 t107, .int .i64 t108] 23 (0, 0)) (b_ BK112) hb)
        have n11_ := Aside0.mk (blk_below (g := gb139) (o := .cells #[.bool x140000_5, .bool true, .bool x140002_5] 82 (0, 0)) (b_ BK139) hb)
        have n12_ := Aside0.mk (below_step (by repeat (first | (with_reducible first | exact HB.out | apply below_alloc | apply pw_below_drewN | apply below_drew1 | refine below_set ?_ GE101.out | refine below_set ?_ GE102.out | refine below_set ?_ GE103.out | refine below_set ?_ GE112.out | refine below_set ?_ GE139.out) | exact HB.out)) hb)
        clear HO_8
        clear HO_9
        clear HO_10
        clear HO_14
        clear HO_21
        clear HO151
        clear HO154
        clear BK101
        clear BK102
        clear BK103
        clear BK112
        clear BK139
        clear HB
        have HO_8 := n0_
        have HO_9 := n1_
        have HO_10 := n2_
        have HO_14 := n3_
        have HO_21 := n4_
        have HO151 := n5_
        have HO154 := n6_
        have BK101 := n7_
        have BK102 := n8_
        have BK103 := n9_
        have BK112 := n10_
        have BK139 := n11_
        have HB := n12_
        clear n0_ n1_ n2_ n3_ n4_ n5_ n6_ n7_ n8_ n9_ n10_ n11_ n12_
        (try clear hb)
        (try clear hb2)
        (try clear hk)
        (try clear hi)
        refine hK.out _ _ ⟨(blk_cell BK112.out 0).trans rfl, (blk_cell BK112.out 1).trans rfl, (blk_cell BK112.out 2).trans rfl, (blk_cell BK112.out 3).trans rfl, (blk_cell BK112.out 4).trans rfl⟩ (fun hHeld => ?_)
        clear hK K
        refine nq 123 ?_
        refine pq 7 (some 116) (bl 14 255) HT_ (h := ?_)
        refine pq 8 (some 124) (bl 14 511) HT_ (h := ?_)
        refine pq 9 (some 125) (bl 14 1023) HT_ (h := ?_)
        refine pq 10 (some 126) (bl 14 2047) HT_ (h := ?_)
        refine pq 11 (some 23) (bl 14 4095) HT_ (h := ?_)
        refine pq 12 (some 24) (bl 14 8191) HT_ (h := ?_)
        refine pq 13 (some 25) (bl 14 16383) HT_ (h := ?_)
        refine done_ (done_of HT_.out (by kernel_rfl)) ?_
        have hnb110 := NB139_101.out
        have hnc110 := NB101_139.out
        have hnb111 := NB139_102.out
        have hnc111 := NB102_139.out
        have hnb112 := NB139_103.out
        have hnc112 := NB103_139.out
        have hnb113 := NB139_112.out
        have hnc113 := NB112_139.out
        have hcz114_0 : w109.cell? ⟨gb139, 0, none⟩ = some (.bool x140000_5) := (blk_cell BK139.out 0).trans rfl
        have hcz114_1 : w109.cell? ⟨gb139, 1, none⟩ = some (.bool true) := (blk_cell BK139.out 1).trans rfl
        have hcz114_2 : w109.cell? ⟨gb139, 2, none⟩ = some (.bool x140002_5) := (blk_cell BK139.out 2).trans rfl
        have hfz114_0 := blk_frozen BK139.out 0
        have hfz114_1 := blk_frozen BK139.out 1
        have hfz114_2 := blk_frozen BK139.out 2
        try go_wp2
        go_roundg k5
        case measure => have := HK1.out; have := HK2.out; have := HJ47.out; have := HK4.out; have := HK5.out; omega
        case rel => exact ⟨(wrap64 (x22_5 + 1)), (x140000_5), (t155), (x140002_5), (by first | rfl | (simp; done) | (simp [*]; done)), H', ⟨by have := HK1.out; have := HK2.out; have := HJ47.out; have := HK4.out; have := HK5.out; omega⟩, ⟨by (with_reducible repeat (first | apply Kd.R_alloc | apply Kd.R_drewN | apply Kd.R_drew)); exact Kd.R_mono (Kd.R_far (p := ⟨gb139, 1, none⟩) (Kd.R_types HO_8.out BK139.out (by decide)) (fun _ hk => hk.2) (.bool t155)) (fun _ hk => trivial)⟩, ⟨by (with_reducible repeat (first | apply Kd.R_alloc | apply Kd.R_drewN | apply Kd.R_drew)); exact Kd.R_mono (Kd.R_far (p := ⟨gb139, 1, none⟩) (Kd.R_types HO_9.out BK139.out (by decide)) (fun _ hk => hk.2) (.bool t155)) (fun _ hk => ⟨hk.1.1.1, ⟨hk.1.1.2.1, hk.1.1.2.2⟩⟩)⟩, ⟨by (with_reducible repeat (first | apply Kd.R_alloc | apply Kd.R_drewN | apply Kd.R_drew)); exact Kd.R_mono (Kd.R_far (p := ⟨gb139, 1, none⟩) (Kd.R_types HO_10.out BK139.out (by decide)) (fun _ hk => hk.2) (.bool t155)) (fun _ hk => ⟨hk.1.1.1, hk.1.1.2⟩)⟩, ⟨by (with_reducible repeat (first | apply Kd.R_alloc | apply Kd.R_drewN | apply Kd.R_drew)); exact Kd.R_mono (Kd.R_far (p := ⟨gb139, 1, none⟩) (Kd.R_types HO_14.out BK139.out (by decide)) (fun _ hk => hk.2) (.bool t155)) (fun _ hk => ⟨hk.1.1.1, ⟨hk.1.1.2.1, hk.1.1.2.2⟩⟩)⟩, ⟨by (with_reducible repeat (first | apply Kd.R_alloc | apply Kd.R_drewN | apply Kd.R_drew)); exact Kd.R_mono (Kd.R_far (p := ⟨gb139, 1, none⟩) (Kd.R_types HO_21.out BK139.out (by decide)) (fun _ hk => hk.2) (.bool t155)) (fun _ hk => ⟨hk.1.1.1, hk.1.1.2⟩)⟩, ⟨by (with_reducible repeat (first | refine blk_drewN ?_ _ | refine blk_drew ?_ | refine blk_alloc ?_ _)); refine blk_far ?_ NB101_139.out _; (with_reducible repeat (first | refine blk_drewN ?_ _ | refine blk_drew ?_ | refine blk_alloc ?_ _)); exact BK101.out⟩, ⟨by (with_reducible repeat (first | refine blk_drewN ?_ _ | refine blk_drew ?_ | refine blk_alloc ?_ _)); refine blk_far ?_ NB102_139.out _; (with_reducible repeat (first | refine blk_drewN ?_ _ | refine blk_drew ?_ | refine blk_alloc ?_ _)); exact BK102.out⟩, ⟨by (with_reducible repeat (first | refine blk_drewN ?_ _ | refine blk_drew ?_ | refine blk_alloc ?_ _)); refine blk_far ?_ NB103_139.out _; (with_reducible repeat (first | refine blk_drewN ?_ _ | refine blk_drew ?_ | refine blk_alloc ?_ _)); exact BK103.out⟩, ⟨by (with_reducible repeat (first | refine blk_drewN ?_ _ | refine blk_drew ?_ | refine blk_alloc ?_ _)); refine blk_far ?_ NB112_139.out _; (with_reducible repeat (first | refine blk_drewN ?_ _ | refine blk_drew ?_ | refine blk_alloc ?_ _)); exact BK112.out⟩, ⟨by (with_reducible repeat (first | refine blk_drewN ?_ _ | refine blk_drew ?_ | refine blk_alloc ?_ _)); refine blk_put (cs := #[.bool x140000_5, .bool true, .bool x140002_5]) ?_ 1 _ rfl; (with_reducible repeat (first | refine blk_drewN ?_ _ | refine blk_drew ?_ | refine blk_alloc ?_ _)); exact BK139.out⟩, ⟨by repeat (first | (with_reducible first | exact HB.out | apply below_alloc | apply pw_below_drewN | apply below_drew1 | refine below_set ?_ GE101.out | refine below_set ?_ GE102.out | refine below_set ?_ GE103.out | refine below_set ?_ GE112.out | refine below_set ?_ GE139.out) | exact HB.out)⟩⟩
       replace c103 := Bool.eq_false_iff.mpr c103
       subst c103
       have H1 : (lP.l43 k5 t109 x9_1 x10_2 t123 t134 t137 t138 x10_2 (wrap64 (x22_5 + 1)) t104 t105 t106 t107 t108 x140000_5 false x140002_5) = some r := by rw [if_neg (show ¬ (false = true) by decide)] at H; exact H
       clear H
       have H := H1
       clear H1
       have H' := Aside0.mk H
       clear H
       try go_wp2
       have n0_ := Aside0.mk (Kd.R_drew HO_8.out)
       have n1_ := Aside0.mk (Kd.R_drew HO_9.out)
       have n2_ := Aside0.mk (Kd.R_drew HO_10.out)
       have n3_ := Aside0.mk (Kd.R_drew HO_14.out)
       have n4_ := Aside0.mk (Kd.R_drew HO_21.out)
       have n5_ := Aside0.mk (blk_drew BK101.out)
       have n6_ := Aside0.mk (blk_drew BK102.out)
       have n7_ := Aside0.mk (blk_drew BK103.out)
       have n8_ := Aside0.mk (blk_drew BK112.out)
       have n9_ := Aside0.mk (blk_drew BK139.out)
       have n10_ := Aside0.mk (below_drew1 HB.out)
       clear HO_8
       clear HO_9
       clear HO_10
       clear HO_14
       clear HO_21
       clear BK101
       clear BK102
       clear BK103
       clear BK112
       clear BK139
       clear HB
       have HO_8 := n0_
       have HO_9 := n1_
       have HO_10 := n2_
       have HO_14 := n3_
       have HO_21 := n4_
       have BK101 := n5_
       have BK102 := n6_
       have BK103 := n7_
       have BK112 := n8_
       have BK139 := n9_
       have HB := n10_
       clear n0_ n1_ n2_ n3_ n4_ n5_ n6_ n7_ n8_ n9_ n10_
       refine start_ (n := 14) (S := fun w' => w'.cell? ⟨gb112, 0, none⟩ = some (.int .i64 t104) ∧ w'.cell? ⟨gb112, 1, none⟩ = some (.int .i64 t105) ∧ w'.cell? ⟨gb112, 2, none⟩ = some (.int .i64 t106) ∧ w'.cell? ⟨gb112, 3, none⟩ = some (.int .i64 t107) ∧ w'.cell? ⟨gb112, 4, none⟩ = some (.int .i64 t108)) (ds := []) (bl 14 0) (by kernel_rfl) rfl rfl ⟨(blk_cell BK112.out 0).trans rfl, (blk_cell BK112.out 1).trans rfl, (blk_cell BK112.out 2).trans rfl, (blk_cell BK112.out 3).trans rfl, (blk_cell BK112.out 4).trans rfl⟩ (fun hHeld => ?_); refine with_tabW lP.tab23 lP.bits23 (fun HT_ HW_ => ?_)
       generalize wr.drew = w115 at HO_8 HO_9 HO_10 HO_14 HO_21 BK101 BK102 BK103 BK112 BK139 HB hHeld ⊢
       refine pq 1 (some 118) (bl 14 2) HT_ (h := ?_)
       refine pq 3 (some 120) (bl 14 10) HT_ (h := ?_)
       refine pq 4 (some 121) (bl 14 26) HT_ (h := ?_)
       refine tq 0 (some 117) (bl 14 27) HT_ HW_ hHeld (h := ?_)
       refine one_ (i := 2) (N := some 119) (bl 14 31) rfl rfl (one_of HT_.out (by kernel_rfl)) (by decide) (fun K hK => ?_)
       refine goes_ Tryd.func43 (by kernel_rfl) rfl #[.slice Ao32 t109.length co32] (by rfl) rfl rfl (by (try simp only [List.map_toArray, List.map_cons, List.map_nil]); first | done | rfl | (simp only [List.length_drop, List.length_take]; rfl)) ?_
       with_reducible refine (smaltolaw03_own.calls _ _ t109 t149 _ ?side1 ?side2 A100.out).mono ?_
       (case side1 => repeat (first | exact (Kd.R_reads' HO_8.out).2.2 | (with_reducible refine Kd.C_alloc ?_ _) | (with_reducible refine Kd.C_drewN ?_ _) | (with_reducible refine Kd.C_drew ?_)))
       (case side2 => exact (Kd.R_reads' HO_8.out).2.1)
       rintro e w116 ⟨v150, rfl, ho0, hb⟩
       refine ⟨_, rfl, ?_⟩
       have n0_ := Aside0.mk (Kd.R_elder' (R_ HO_8) (Kd.R_base ho0) hb)
       have n1_ := Aside0.mk (Kd.R_below (R_ HO_9) hb)
       have n2_ := Aside0.mk (Kd.R_below (R_ HO_10) hb)
       have n3_ := Aside0.mk (Kd.R_below (R_ HO_14) hb)
       have n4_ := Aside0.mk (Kd.R_below (R_ HO_21) hb)
       have n5_ := Aside0.mk (Kd.R_lower (Kd.R_new' ho0 (Kd.R_lt (R_ HO_8))) (below_size (by repeat (first | (with_reducible first | exact HB.out | apply below_alloc | apply pw_below_drewN | apply below_drew1 | refine below_set ?_ GE101.out | refine below_set ?_ GE102.out | refine below_set ?_ GE103.out | refine below_set ?_ GE112.out | refine below_set ?_ GE139.out) | exact HB.out))))
       have n6_ := Aside0.mk (blk_below (g := gb101) (o := .cells #[.int .u8 a0_0, .int .u8 a0_1, .int .u8 a0_2, .int .u8 a0_3, .int .u8 a0_4, .slice A0_5 l0_5.length c0_5] 66 (0, 0)) (b_ BK101) hb)
       have n7_ := Aside0.mk (blk_below (g := gb102) (o := .cells #[.int .u8 a1_0, .int .u8 a1_1, .int .u8 a1_2, .int .u8 a1_3, .int .u8 a1_4, .int .u8 a1_5] 67 (0, 0)) (b_ BK102) hb)
       have n8_ := Aside0.mk (blk_below (g := gb103) (o := .cells #[.int .u8 a2_0, .int .u8 a2_1, .int .u8 a2_2, .int .u8 a2_3, .int .u8 a2_4, .int .u8 a2_5] 67 (0, 0)) (b_ BK103) hb)
       have n9_ := Aside0.mk (blk_below (g := gb112) (o := .cells #[.int .i64 t104, .int .i64 t105, .int .i64 t106, .int .i64 t107, .int .i64 t108] 23 (0, 0)) (b_ BK112) hb)
       have n10_ := Aside0.mk (blk_below (g := gb139) (o := .cells #[.bool x140000_5, .bool false, .bool x140002_5] 82 (0, 0)) (b_ BK139) hb)
       have n11_ := Aside0.mk (below_step (by repeat (first | (with_reducible first | exact HB.out | apply below_alloc | apply pw_below_drewN | apply below_drew1 | refine below_set ?_ GE101.out | refine below_set ?_ GE102.out | refine below_set ?_ GE103.out | refine below_set ?_ GE112.out | refine below_set ?_ GE139.out) | exact HB.out)) hb)
       clear HO_8
       clear HO_9
       clear HO_10
       clear HO_14
       clear HO_21
       clear BK101
       clear BK102
       clear BK103
       clear BK112
       clear BK139
       clear HB
       have HO_8 := n0_
       have HO_9 := n1_
       have HO_10 := n2_
       have HO_14 := n3_
       have HO_21 := n4_
       have HO151 := n5_
       have BK101 := n6_
       have BK102 := n7_
       have BK103 := n8_
       have BK112 := n9_
       have BK139 := n10_
       have HB := n11_
       clear n0_ n1_ n2_ n3_ n4_ n5_ n6_ n7_ n8_ n9_ n10_ n11_
       (try clear hb)
       (try clear hb2)
       (try clear hk)
       (try clear hi)
       (try clear ho0)
       refine hK.out _ _ ⟨(blk_cell BK112.out 0).trans rfl, (blk_cell BK112.out 1).trans rfl, (blk_cell BK112.out 2).trans rfl, (blk_cell BK112.out 3).trans rfl, (blk_cell BK112.out 4).trans rfl⟩ (fun hHeld => ?_)
       clear hK K
       refine nq 119 ?_
       refine one_ (i := 5) (N := some 122) (bl 14 63) rfl rfl (one_of HT_.out (by kernel_rfl)) (by decide) (fun K hK => ?_)
       refine goes_ Tryd.func47 (by kernel_rfl) rfl #[.slice Ao71 x10_2.length co71, .int .i64 x22_5] (by rfl) rfl rfl (by (try simp only [List.map_toArray, List.map_cons, List.map_nil]); first | done | rfl | (simp only [List.length_drop, List.length_take]; rfl)) ?_
       with_reducible refine (smaltolaw03_of.calls k5 _ _ x10_2 x22_5 t152 _ ?side1 ?side2 A101.out).mono ?_
       (case side1 => repeat (first | exact (Kd.R_reads' HO_21.out).2.2 | (with_reducible refine Kd.C_alloc ?_ _) | (with_reducible refine Kd.C_drewN ?_ _) | (with_reducible refine Kd.C_drew ?_)))
       (case side2 => exact (Kd.R_reads' HO_21.out).2.1)
       rintro e w117 ⟨v153, rfl, ho0, hb⟩
       refine ⟨_, rfl, ?_⟩
       have n0_ := Aside0.mk (Kd.R_below (R_ HO_8) hb)
       have n1_ := Aside0.mk (Kd.R_elder' (R_ HO_9) (Kd.R_base ho0) hb)
       have n2_ := Aside0.mk (Kd.R_elder' (R_ HO_10) (Kd.R_base ho0) hb)
       have n3_ := Aside0.mk (Kd.R_elder' (R_ HO_14) (Kd.R_base ho0) hb)
       have n4_ := Aside0.mk (Kd.R_elder' (R_ HO_21) (Kd.R_base ho0) hb)
       have n5_ := Aside0.mk (Kd.R_below (R_ HO151) hb)
       have n6_ := Aside0.mk (Kd.R_lower (Kd.R_new' (Kd.R_new' (Kd.R_new' (Kd.R_new' ho0 (Kd.R_lt (R_ HO_9))) (Kd.R_lt (R_ HO_10))) (Kd.R_lt (R_ HO_14))) (Kd.R_lt (R_ HO_21))) (below_size (by repeat (first | (with_reducible first | exact HB.out | apply below_alloc | apply pw_below_drewN | apply below_drew1 | refine below_set ?_ GE101.out | refine below_set ?_ GE102.out | refine below_set ?_ GE103.out | refine below_set ?_ GE112.out | refine below_set ?_ GE139.out) | exact HB.out))))
       have n7_ := Aside0.mk (blk_below (g := gb101) (o := .cells #[.int .u8 a0_0, .int .u8 a0_1, .int .u8 a0_2, .int .u8 a0_3, .int .u8 a0_4, .slice A0_5 l0_5.length c0_5] 66 (0, 0)) (b_ BK101) hb)
       have n8_ := Aside0.mk (blk_below (g := gb102) (o := .cells #[.int .u8 a1_0, .int .u8 a1_1, .int .u8 a1_2, .int .u8 a1_3, .int .u8 a1_4, .int .u8 a1_5] 67 (0, 0)) (b_ BK102) hb)
       have n9_ := Aside0.mk (blk_below (g := gb103) (o := .cells #[.int .u8 a2_0, .int .u8 a2_1, .int .u8 a2_2, .int .u8 a2_3, .int .u8 a2_4, .int .u8 a2_5] 67 (0, 0)) (b_ BK103) hb)
       have n10_ := Aside0.mk (blk_below (g := gb112) (o := .cells #[.int .i64 t104, .int .i64 t105, .int .i64 t106, .int .i64 t107, .int .i64 t108] 23 (0, 0)) (b_ BK112) hb)
       have n11_ := Aside0.mk (blk_below (g := gb139) (o := .cells #[.bool x140000_5, .bool false, .bool x140002_5] 82 (0, 0)) (b_ BK139) hb)
       have n12_ := Aside0.mk (below_step (by repeat (first | (with_reducible first | exact HB.out | apply below_alloc | apply pw_below_drewN | apply below_drew1 | refine below_set ?_ GE101.out | refine below_set ?_ GE102.out | refine below_set ?_ GE103.out | refine below_set ?_ GE112.out | refine below_set ?_ GE139.out) | exact HB.out)) hb)
       clear HO_8
       clear HO_9
       clear HO_10
       clear HO_14
       clear HO_21
       clear HO151
       clear BK101
       clear BK102
       clear BK103
       clear BK112
       clear BK139
       clear HB
       have HO_8 := n0_
       have HO_9 := n1_
       have HO_10 := n2_
       have HO_14 := n3_
       have HO_21 := n4_
       have HO151 := n5_
       have HO154 := n6_
       have BK101 := n7_
       have BK102 := n8_
       have BK103 := n9_
       have BK112 := n10_
       have BK139 := n11_
       have HB := n12_
       clear n0_ n1_ n2_ n3_ n4_ n5_ n6_ n7_ n8_ n9_ n10_ n11_ n12_
       (try clear hb)
       (try clear hb2)
       (try clear hk)
       (try clear hi)
       (try clear ho0)
       obtain ⟨Ao118, co118, eo118⟩ := Kd.R_slice HO151.out
       (first | subst eo118 | (injection eo118 with f1_ f2_ f3_; have f4_ := f1_.symm; have f5_ := f3_.symm; clear f1_ f2_ f3_; subst f4_; subst f5_))
       obtain ⟨Ao119, co119, eo119⟩ := Kd.R_slice HO154.out
       (first | subst eo119 | (injection eo119 with f1_ f2_ f3_; have f4_ := f1_.symm; have f5_ := f3_.symm; clear f1_ f2_ f3_; subst f4_; subst f5_))
       refine hK.out _ _ ⟨(blk_cell BK112.out 0).trans rfl, (blk_cell BK112.out 1).trans rfl, (blk_cell BK112.out 2).trans rfl, (blk_cell BK112.out 3).trans rfl, (blk_cell BK112.out 4).trans rfl⟩ (fun hHeld => ?_)
       clear hK K
       refine nq 122 ?_
       refine one_ (i := 6) (N := some 123) (bl 14 127) rfl rfl (one_of HT_.out (by kernel_rfl)) (by decide) (fun K hK => ?_)
       refine goes_ Tryd.func17 (by kernel_rfl) rfl #[.agg #[.int .i64 t104, .int .i64 t105, .int .i64 t106, .int .i64 t107, .int .i64 t108], .slice Ao118 t149.length co118, .slice Ao119 t152.length co119] (by rfl) rfl rfl (by (try simp only [List.map_toArray, List.map_cons, List.map_nil]); first | done | rfl | (simp only [List.length_drop, List.length_take]; rfl)) ?_
       with_reducible refine (goesC.calls t104 t105 t106 t107 t108 _ _ t149 _ _ t152 t155 t156 _ ?side5 ?side1 ?side2 ?side3 ?side4 A102.out).mono ?_
       (case side1 => repeat (first | exact (Kd.R_reads' HO151.out).2.2 | (with_reducible refine Kd.C_alloc ?_ _) | (with_reducible refine Kd.C_drewN ?_ _) | (with_reducible refine Kd.C_drew ?_)))
       (case side2 => exact (Kd.R_reads' HO151.out).2.1)
       (case side3 => repeat (first | exact (Kd.R_reads' HO154.out).2.2 | (with_reducible refine Kd.C_alloc ?_ _) | (with_reducible refine Kd.C_drewN ?_ _) | (with_reducible refine Kd.C_drew ?_)))
       (case side4 => exact (Kd.R_reads' HO154.out).2.1)
       (case side5 => exact Hand.TabW.below HTAB.out (by repeat (first | (with_reducible first | exact HB.out | apply below_alloc | apply pw_below_drewN | apply below_drew1 | refine below_set ?_ GE101.out | refine below_set ?_ GE102.out | refine below_set ?_ GE103.out | refine below_set ?_ GE112.out | refine below_set ?_ GE139.out) | exact HB.out)))
       rintro e w120 ⟨rfl, hb⟩
       refine ⟨_, rfl, ?_⟩
       have n0_ := Aside0.mk (Kd.R_below (R_ HO_8) hb)
       have n1_ := Aside0.mk (Kd.R_below (R_ HO_9) hb)
       have n2_ := Aside0.mk (Kd.R_below (R_ HO_10) hb)
       have n3_ := Aside0.mk (Kd.R_below (R_ HO_14) hb)
       have n4_ := Aside0.mk (Kd.R_below (R_ HO_21) hb)
       have n5_ := Aside0.mk (Kd.R_below (R_ HO151) hb)
       have n6_ := Aside0.mk (Kd.R_below (R_ HO154) hb)
       have n7_ := Aside0.mk (blk_below (g := gb101) (o := .cells #[.int .u8 a0_0, .int .u8 a0_1, .int .u8 a0_2, .int .u8 a0_3, .int .u8 a0_4, .slice A0_5 l0_5.length c0_5] 66 (0, 0)) (b_ BK101) hb)
       have n8_ := Aside0.mk (blk_below (g := gb102) (o := .cells #[.int .u8 a1_0, .int .u8 a1_1, .int .u8 a1_2, .int .u8 a1_3, .int .u8 a1_4, .int .u8 a1_5] 67 (0, 0)) (b_ BK102) hb)
       have n9_ := Aside0.mk (blk_below (g := gb103) (o := .cells #[.int .u8 a2_0, .int .u8 a2_1, .int .u8 a2_2, .int .u8 a2_3, .int .u8 a2_4, .int .u8 a2_5] 67 (0, 0)) (b_ BK103) hb)
       have n10_ := Aside0.mk (blk_below (g := gb112) (o := .cells #[.int .i64 t104, .int .i64 t105, .int .i64 t106, .int .i64 t107, .int .i64 t108] 23 (0, 0)) (b_ BK112) hb)
       have n11_ := Aside0.mk (blk_below (g := gb139) (o := .cells #[.bool x140000_5, .bool false, .bool x140002_5] 82 (0, 0)) (b_ BK139) hb)
       have n12_ := Aside0.mk (below_step (by repeat (first | (with_reducible first | exact HB.out | apply below_alloc | apply pw_below_drewN | apply below_drew1 | refine below_set ?_ GE101.out | refine below_set ?_ GE102.out | refine below_set ?_ GE103.out | refine below_set ?_ GE112.out | refine below_set ?_ GE139.out) | exact HB.out)) hb)
       clear HO_8
       clear HO_9
       clear HO_10
       clear HO_14
       clear HO_21
       clear HO151
       clear HO154
       clear BK101
       clear BK102
       clear BK103
       clear BK112
       clear BK139
       clear HB
       have HO_8 := n0_
       have HO_9 := n1_
       have HO_10 := n2_
       have HO_14 := n3_
       have HO_21 := n4_
       have HO151 := n5_
       have HO154 := n6_
       have BK101 := n7_
       have BK102 := n8_
       have BK103 := n9_
       have BK112 := n10_
       have BK139 := n11_
       have HB := n12_
       clear n0_ n1_ n2_ n3_ n4_ n5_ n6_ n7_ n8_ n9_ n10_ n11_ n12_
       (try clear hb)
       (try clear hb2)
       (try clear hk)
       (try clear hi)
       refine hK.out _ _ ⟨(blk_cell BK112.out 0).trans rfl, (blk_cell BK112.out 1).trans rfl, (blk_cell BK112.out 2).trans rfl, (blk_cell BK112.out 3).trans rfl, (blk_cell BK112.out 4).trans rfl⟩ (fun hHeld => ?_)
       clear hK K
       refine nq 123 ?_
       refine pq 7 (some 116) (bl 14 255) HT_ (h := ?_)
       refine pq 8 (some 124) (bl 14 511) HT_ (h := ?_)
       refine pq 9 (some 125) (bl 14 1023) HT_ (h := ?_)
       refine pq 10 (some 126) (bl 14 2047) HT_ (h := ?_)
       refine pq 11 (some 23) (bl 14 4095) HT_ (h := ?_)
       refine pq 12 (some 24) (bl 14 8191) HT_ (h := ?_)
       refine pq 13 (some 25) (bl 14 16383) HT_ (h := ?_)
       refine done_ (done_of HT_.out (by kernel_rfl)) ?_
       have hnb121 := NB139_101.out
       have hnc121 := NB101_139.out
       have hnb122 := NB139_102.out
       have hnc122 := NB102_139.out
       have hnb123 := NB139_103.out
       have hnc123 := NB103_139.out
       have hnb124 := NB139_112.out
       have hnc124 := NB112_139.out
       have hcz125_0 : w120.cell? ⟨gb139, 0, none⟩ = some (.bool x140000_5) := (blk_cell BK139.out 0).trans rfl
       have hcz125_1 : w120.cell? ⟨gb139, 1, none⟩ = some (.bool false) := (blk_cell BK139.out 1).trans rfl
       have hcz125_2 : w120.cell? ⟨gb139, 2, none⟩ = some (.bool x140002_5) := (blk_cell BK139.out 2).trans rfl
       have hfz125_0 := blk_frozen BK139.out 0
       have hfz125_1 := blk_frozen BK139.out 1
       have hfz125_2 := blk_frozen BK139.out 2
       try go_wp2
       go_roundg k5
       case measure => have := HK1.out; have := HK2.out; have := HJ47.out; have := HK4.out; have := HK5.out; omega
       case rel => exact ⟨(wrap64 (x22_5 + 1)), (x140000_5), (false), (x140002_5), (by first | rfl | (simp; done) | (simp [*]; done)), H', ⟨by have := HK1.out; have := HK2.out; have := HJ47.out; have := HK4.out; have := HK5.out; omega⟩, ⟨by (with_reducible repeat (first | apply Kd.R_alloc | apply Kd.R_drewN | apply Kd.R_drew)); exact Kd.R_mono (Kd.R_far (p := ⟨gb139, 1, none⟩) (Kd.R_types HO_8.out BK139.out (by decide)) (fun _ hk => hk.2) (.bool false)) (fun _ hk => trivial)⟩, ⟨by (with_reducible repeat (first | apply Kd.R_alloc | apply Kd.R_drewN | apply Kd.R_drew)); exact Kd.R_mono (Kd.R_far (p := ⟨gb139, 1, none⟩) (Kd.R_types HO_9.out BK139.out (by decide)) (fun _ hk => hk.2) (.bool false)) (fun _ hk => ⟨hk.1.1.1, ⟨hk.1.1.2.1, hk.1.1.2.2⟩⟩)⟩, ⟨by (with_reducible repeat (first | apply Kd.R_alloc | apply Kd.R_drewN | apply Kd.R_drew)); exact Kd.R_mono (Kd.R_far (p := ⟨gb139, 1, none⟩) (Kd.R_types HO_10.out BK139.out (by decide)) (fun _ hk => hk.2) (.bool false)) (fun _ hk => ⟨hk.1.1.1, hk.1.1.2⟩)⟩, ⟨by (with_reducible repeat (first | apply Kd.R_alloc | apply Kd.R_drewN | apply Kd.R_drew)); exact Kd.R_mono (Kd.R_far (p := ⟨gb139, 1, none⟩) (Kd.R_types HO_14.out BK139.out (by decide)) (fun _ hk => hk.2) (.bool false)) (fun _ hk => ⟨hk.1.1.1, ⟨hk.1.1.2.1, hk.1.1.2.2⟩⟩)⟩, ⟨by (with_reducible repeat (first | apply Kd.R_alloc | apply Kd.R_drewN | apply Kd.R_drew)); exact Kd.R_mono (Kd.R_far (p := ⟨gb139, 1, none⟩) (Kd.R_types HO_21.out BK139.out (by decide)) (fun _ hk => hk.2) (.bool false)) (fun _ hk => ⟨hk.1.1.1, hk.1.1.2⟩)⟩, ⟨by (with_reducible repeat (first | refine blk_drewN ?_ _ | refine blk_drew ?_ | refine blk_alloc ?_ _)); refine blk_far ?_ NB101_139.out _; (with_reducible repeat (first | refine blk_drewN ?_ _ | refine blk_drew ?_ | refine blk_alloc ?_ _)); exact BK101.out⟩, ⟨by (with_reducible repeat (first | refine blk_drewN ?_ _ | refine blk_drew ?_ | refine blk_alloc ?_ _)); refine blk_far ?_ NB102_139.out _; (with_reducible repeat (first | refine blk_drewN ?_ _ | refine blk_drew ?_ | refine blk_alloc ?_ _)); exact BK102.out⟩, ⟨by (with_reducible repeat (first | refine blk_drewN ?_ _ | refine blk_drew ?_ | refine blk_alloc ?_ _)); refine blk_far ?_ NB103_139.out _; (with_reducible repeat (first | refine blk_drewN ?_ _ | refine blk_drew ?_ | refine blk_alloc ?_ _)); exact BK103.out⟩, ⟨by (with_reducible repeat (first | refine blk_drewN ?_ _ | refine blk_drew ?_ | refine blk_alloc ?_ _)); refine blk_far ?_ NB112_139.out _; (with_reducible repeat (first | refine blk_drewN ?_ _ | refine blk_drew ?_ | refine blk_alloc ?_ _)); exact BK112.out⟩, ⟨by (with_reducible repeat (first | refine blk_drewN ?_ _ | refine blk_drew ?_ | refine blk_alloc ?_ _)); refine blk_put (cs := #[.bool x140000_5, .bool false, .bool x140002_5]) ?_ 1 _ rfl; (with_reducible repeat (first | refine blk_drewN ?_ _ | refine blk_drew ?_ | refine blk_alloc ?_ _)); exact BK139.out⟩, ⟨by repeat (first | (with_reducible first | exact HB.out | apply below_alloc | apply pw_below_drewN | apply below_drew1 | refine below_set ?_ GE101.out | refine below_set ?_ GE102.out | refine below_set ?_ GE103.out | refine below_set ?_ GE112.out | refine below_set ?_ GE139.out) | exact HB.out)⟩⟩
      rw [if_neg c99] at H
      have c99b0 : decide (x22_5 < 6) = false := decide_eq_false c99
      clear c99
      have H' := Aside0.mk H
      clear H
      go_wp2
      go_loopg [22] k5 (fun kq v22 w' => ∃ (x22_6 : Int) (x140000_6 : Bool) (x140001_6 : Bool) (x140002_6 : Bool), v22 = .int .i64 x22_6 ∧ Aside0 (lP.l63 kq t109 x9_1 x10_2 t123 t134 t137 t138 t134 x22_6 t104 t105 t106 t107 t108 x140000_6 x140001_6 x140002_6 = some r) ∧ Aside0 (kq ≤ k5) ∧ Aside0 (Kd.R k74 74 w' w.heap.size (fun _ => True) (.slice Ao32 t109.length co32) t109) ∧ Aside0 (Kd.R (Kd.int .i64) 3 w' w.heap.size (fun k_ => some k_ ≠ ((.slice Ao71 x10_2.length co71) : Value).ownBlock ∧ some k_ ≠ ((.slice Ao70 t134.length co70) : Value).ownBlock ∧ some k_ ≠ ((.slice Ao70 t134.length co70) : Value).ownBlock) (.slice Ao33 x9_1.length co33) x9_1) ∧ Aside0 (Kd.R (Kd.int .i64) 3 w' w.heap.size (fun k_ => some k_ ≠ ((.slice Ao33 x9_1.length co33) : Value).ownBlock ∧ some k_ ≠ ((.slice Ao70 t134.length co70) : Value).ownBlock ∧ some k_ ≠ ((.slice Ao70 t134.length co70) : Value).ownBlock) (.slice Ao71 x10_2.length co71) x10_2) ∧ Aside0 (Kd.R (Kd.int .i64) 3 w' w.heap.size (fun k_ => some k_ ≠ ((.slice Ao33 x9_1.length co33) : Value).ownBlock ∧ some k_ ≠ ((.slice Ao71 x10_2.length co71) : Value).ownBlock) (.slice Ao70 t134.length co70) t134) ∧ Aside0 (Kd.R (Kd.int .i64) 3 w' w.heap.size (fun k_ => some k_ ≠ ((.slice Ao33 x9_1.length co33) : Value).ownBlock ∧ some k_ ≠ ((.slice Ao71 x10_2.length co71) : Value).ownBlock) (.slice Ao70 t134.length co70) t134) ∧ Aside0 (w'.heap[gb101]? = some (.cells #[.int .u8 a0_0, .int .u8 a0_1, .int .u8 a0_2, .int .u8 a0_3, .int .u8 a0_4, (.slice A0_5 l0_5.length c0_5)] 66 (0, 0))) ∧ Aside0 (w'.heap[gb102]? = some (.cells #[.int .u8 a1_0, .int .u8 a1_1, .int .u8 a1_2, .int .u8 a1_3, .int .u8 a1_4, .int .u8 a1_5] 67 (0, 0))) ∧ Aside0 (w'.heap[gb103]? = some (.cells #[.int .u8 a2_0, .int .u8 a2_1, .int .u8 a2_2, .int .u8 a2_3, .int .u8 a2_4, .int .u8 a2_5] 67 (0, 0))) ∧ Aside0 (w'.heap[gb112]? = some (.cells #[.int .i64 t104, .int .i64 t105, .int .i64 t106, .int .i64 t107, .int .i64 t108] 23 (0, 0))) ∧ Aside0 (w'.heap[gb139]? = some (.cells #[.bool x140000_6, .bool x140001_6, .bool x140002_6] 82 (0, 0))) ∧ Aside0 (Below w.heap.size w w'))
      case atStart => exact ⟨(0), (x140000_5), (x140001_5), (x140002_5), (by first | rfl | (simp; done) | (simp [*]; done)), H', ⟨Nat.le_refl _⟩, ⟨R_ HO_8⟩, ⟨Kd.R_mono (R_ HO_9) (fun _ hk => ⟨hk.1, ⟨hk.2.1, hk.2.1⟩⟩)⟩, ⟨Kd.R_mono (R_ HO_10) (fun _ hk => ⟨hk.1, ⟨hk.2, hk.2⟩⟩)⟩, ⟨Kd.R_mono (R_ HO_14) (fun _ hk => ⟨hk.1, hk.2.1⟩)⟩, ⟨Kd.R_mono (R_ HO_14) (fun _ hk => ⟨hk.1, hk.2.1⟩)⟩, ⟨b_ BK101⟩, ⟨b_ BK102⟩, ⟨b_ BK103⟩, ⟨b_ BK112⟩, ⟨b_ BK139⟩, ⟨by repeat (first | (with_reducible first | exact HB.out | apply below_alloc | apply pw_below_drewN | apply below_drew1 | refine below_set ?_ GE101.out | refine below_set ?_ GE102.out | refine below_set ?_ GE103.out | refine below_set ?_ GE112.out | refine below_set ?_ GE139.out) | exact HB.out)⟩⟩
      case round => as_aux_lemma =>
       clear H'
       try clear c99
       try clear c99b0
       obtain ⟨x22_6, x140000_6, x140001_6, x140002_6, rfl, HA, HK6, HO_8, HO_9, HO_10, HO_14, HO_21, BK101, BK102, BK103, BK112, BK139, HB⟩ := hrel
       rcases gk with _ | k6
       ·exact absurd HA.out (by simp [lP.l63])
       have H := HA.out
       clear HA
       simp only [lP.l63] at H
       by_cases c126 : x22_6 < 6
       ·rw [if_pos c126] at H
        have c126b0 : decide (x22_6 < 6) = true := decide_eq_true c126
        clear c126
        replace H := Option.bind_eq_some_iff.mp H
        obtain ⟨t158, A1270, H⟩ := H
        replace H : ((smaltolaw03_of.f k6 t134 x22_6).bind fun t161 => ((goesC.f t104 t105 t106 t107 t108 t158 t161).bind fun bt164 => (if x140002_6 = true then (lP.l63 k6 t109 x9_1 x10_2 t123 t134 t137 t138 t134 (wrap64 (x22_6 + 1)) t104 t105 t106 t107 t108 x140000_6 x140001_6 bt164.1) else (lP.l63 k6 t109 x9_1 x10_2 t123 t134 t137 t138 t134 (wrap64 (x22_6 + 1)) t104 t105 t106 t107 t108 x140000_6 x140001_6 false)))) = some r := H
        have A127 := Aside0.mk A1270
        clear A1270
        replace H := Option.bind_eq_some_iff.mp H
        obtain ⟨t161, A1280, H⟩ := H
        replace H : ((goesC.f t104 t105 t106 t107 t108 t158 t161).bind fun bt164 => (if x140002_6 = true then (lP.l63 k6 t109 x9_1 x10_2 t123 t134 t137 t138 t134 (wrap64 (x22_6 + 1)) t104 t105 t106 t107 t108 x140000_6 x140001_6 bt164.1) else (lP.l63 k6 t109 x9_1 x10_2 t123 t134 t137 t138 t134 (wrap64 (x22_6 + 1)) t104 t105 t106 t107 t108 x140000_6 x140001_6 false))) = some r := H
        have A128 := Aside0.mk A1280
        clear A1280
        replace H := Option.bind_eq_some_iff.mp H
        obtain ⟨⟨t164, t165⟩, A1290, H⟩ := H
        replace H : (if x140002_6 = true then (lP.l63 k6 t109 x9_1 x10_2 t123 t134 t137 t138 t134 (wrap64 (x22_6 + 1)) t104 t105 t106 t107 t108 x140000_6 x140001_6 t164) else (lP.l63 k6 t109 x9_1 x10_2 t123 t134 t137 t138 t134 (wrap64 (x22_6 + 1)) t104 t105 t106 t107 t108 x140000_6 x140001_6 false)) = some r := H
        have A129 := Aside0.mk A1290
        clear A1290
        by_cases c130 : x140002_6 = true
        ·subst c130
         have H1 : (lP.l63 k6 t109 x9_1 x10_2 t123 t134 t137 t138 t134 (wrap64 (x22_6 + 1)) t104 t105 t106 t107 t108 x140000_6 x140001_6 t164) = some r := by rw [if_pos rfl] at H; exact H
         clear H
         have H := H1
         clear H1
         have H' := Aside0.mk H
         clear H
         try go_wp2
         have n0_ := Aside0.mk (Kd.R_drew HO_8.out)
         have n1_ := Aside0.mk (Kd.R_drew HO_9.out)
         have n2_ := Aside0.mk (Kd.R_drew HO_10.out)
         have n3_ := Aside0.mk (Kd.R_drew HO_14.out)
         have n4_ := Aside0.mk (Kd.R_drew HO_21.out)
         have n5_ := Aside0.mk (blk_drew BK101.out)
         have n6_ := Aside0.mk (blk_drew BK102.out)
         have n7_ := Aside0.mk (blk_drew BK103.out)
         have n8_ := Aside0.mk (blk_drew BK112.out)
         have n9_ := Aside0.mk (blk_drew BK139.out)
         have n10_ := Aside0.mk (below_drew1 HB.out)
         clear HO_8
         clear HO_9
         clear HO_10
         clear HO_14
         clear HO_21
         clear BK101
         clear BK102
         clear BK103
         clear BK112
         clear BK139
         clear HB
         have HO_8 := n0_
         have HO_9 := n1_
         have HO_10 := n2_
         have HO_14 := n3_
         have HO_21 := n4_
         have BK101 := n5_
         have BK102 := n6_
         have BK103 := n7_
         have BK112 := n8_
         have BK139 := n9_
         have HB := n10_
         clear n0_ n1_ n2_ n3_ n4_ n5_ n6_ n7_ n8_ n9_ n10_
         refine start_ (n := 14) (S := fun w' => w'.cell? ⟨gb112, 0, none⟩ = some (.int .i64 t104) ∧ w'.cell? ⟨gb112, 1, none⟩ = some (.int .i64 t105) ∧ w'.cell? ⟨gb112, 2, none⟩ = some (.int .i64 t106) ∧ w'.cell? ⟨gb112, 3, none⟩ = some (.int .i64 t107) ∧ w'.cell? ⟨gb112, 4, none⟩ = some (.int .i64 t108)) (ds := []) (bl 14 0) (by kernel_rfl) rfl rfl ⟨(blk_cell BK112.out 0).trans rfl, (blk_cell BK112.out 1).trans rfl, (blk_cell BK112.out 2).trans rfl, (blk_cell BK112.out 3).trans rfl, (blk_cell BK112.out 4).trans rfl⟩ (fun hHeld => ?_); refine with_tabW lP.tab23 lP.bits23 (fun HT_ HW_ => ?_)
         generalize wr.drew = w131 at HO_8 HO_9 HO_10 HO_14 HO_21 BK101 BK102 BK103 BK112 BK139 HB hHeld ⊢
         refine pq 1 (some 118) (bl 14 2) HT_ (h := ?_)
         refine pq 3 (some 120) (bl 14 10) HT_ (h := ?_)
         refine pq 4 (some 121) (bl 14 26) HT_ (h := ?_)
         refine tq 0 (some 117) (bl 14 27) HT_ HW_ hHeld (h := ?_)
         refine one_ (i := 2) (N := some 119) (bl 14 31) rfl rfl (one_of HT_.out (by kernel_rfl)) (by decide) (fun K hK => ?_)
         refine goes_ Tryd.func43 (by kernel_rfl) rfl #[.slice Ao32 t109.length co32] (by rfl) rfl rfl (by (try simp only [List.map_toArray, List.map_cons, List.map_nil]); first | done | rfl | (simp only [List.length_drop, List.length_take]; rfl)) ?_
         with_reducible refine (smaltolaw03_own.calls _ _ t109 t158 _ ?side1 ?side2 A127.out).mono ?_
         (case side1 => repeat (first | exact (Kd.R_reads' HO_8.out).2.2 | (with_reducible refine Kd.C_alloc ?_ _) | (with_reducible refine Kd.C_drewN ?_ _) | (with_reducible refine Kd.C_drew ?_)))
         (case side2 => exact (Kd.R_reads' HO_8.out).2.1)
         rintro e w132 ⟨v159, rfl, ho0, hb⟩
         refine ⟨_, rfl, ?_⟩
         have n0_ := Aside0.mk (Kd.R_elder' (R_ HO_8) (Kd.R_base ho0) hb)
         have n1_ := Aside0.mk (Kd.R_below (R_ HO_9) hb)
         have n2_ := Aside0.mk (Kd.R_below (R_ HO_10) hb)
         have n3_ := Aside0.mk (Kd.R_below (R_ HO_14) hb)
         have n4_ := Aside0.mk (Kd.R_below (R_ HO_21) hb)
         have n5_ := Aside0.mk (Kd.R_lower (Kd.R_new' ho0 (Kd.R_lt (R_ HO_8))) (below_size (by repeat (first | (with_reducible first | exact HB.out | apply below_alloc | apply pw_below_drewN | apply below_drew1 | refine below_set ?_ GE101.out | refine below_set ?_ GE102.out | refine below_set ?_ GE103.out | refine below_set ?_ GE112.out | refine below_set ?_ GE139.out) | exact HB.out))))
         have n6_ := Aside0.mk (blk_below (g := gb101) (o := .cells #[.int .u8 a0_0, .int .u8 a0_1, .int .u8 a0_2, .int .u8 a0_3, .int .u8 a0_4, .slice A0_5 l0_5.length c0_5] 66 (0, 0)) (b_ BK101) hb)
         have n7_ := Aside0.mk (blk_below (g := gb102) (o := .cells #[.int .u8 a1_0, .int .u8 a1_1, .int .u8 a1_2, .int .u8 a1_3, .int .u8 a1_4, .int .u8 a1_5] 67 (0, 0)) (b_ BK102) hb)
         have n8_ := Aside0.mk (blk_below (g := gb103) (o := .cells #[.int .u8 a2_0, .int .u8 a2_1, .int .u8 a2_2, .int .u8 a2_3, .int .u8 a2_4, .int .u8 a2_5] 67 (0, 0)) (b_ BK103) hb)
         have n9_ := Aside0.mk (blk_below (g := gb112) (o := .cells #[.int .i64 t104, .int .i64 t105, .int .i64 t106, .int .i64 t107, .int .i64 t108] 23 (0, 0)) (b_ BK112) hb)
         have n10_ := Aside0.mk (blk_below (g := gb139) (o := .cells #[.bool x140000_6, .bool x140001_6, .bool true] 82 (0, 0)) (b_ BK139) hb)
         have n11_ := Aside0.mk (below_step (by repeat (first | (with_reducible first | exact HB.out | apply below_alloc | apply pw_below_drewN | apply below_drew1 | refine below_set ?_ GE101.out | refine below_set ?_ GE102.out | refine below_set ?_ GE103.out | refine below_set ?_ GE112.out | refine below_set ?_ GE139.out) | exact HB.out)) hb)
         clear HO_8
         clear HO_9
         clear HO_10
         clear HO_14
         clear HO_21
         clear BK101
         clear BK102
         clear BK103
         clear BK112
         clear BK139
         clear HB
         have HO_8 := n0_
         have HO_9 := n1_
         have HO_10 := n2_
         have HO_14 := n3_
         have HO_21 := n4_
         have HO160 := n5_
         have BK101 := n6_
         have BK102 := n7_
         have BK103 := n8_
         have BK112 := n9_
         have BK139 := n10_
         have HB := n11_
         clear n0_ n1_ n2_ n3_ n4_ n5_ n6_ n7_ n8_ n9_ n10_ n11_
         (try clear hb)
         (try clear hb2)
         (try clear hk)
         (try clear hi)
         (try clear ho0)
         refine hK.out _ _ ⟨(blk_cell BK112.out 0).trans rfl, (blk_cell BK112.out 1).trans rfl, (blk_cell BK112.out 2).trans rfl, (blk_cell BK112.out 3).trans rfl, (blk_cell BK112.out 4).trans rfl⟩ (fun hHeld => ?_)
         clear hK K
         refine nq 119 ?_
         refine one_ (i := 5) (N := some 122) (bl 14 63) rfl rfl (one_of HT_.out (by kernel_rfl)) (by decide) (fun K hK => ?_)
         refine goes_ Tryd.func47 (by kernel_rfl) rfl #[.slice Ao70 t134.length co70, .int .i64 x22_6] (by rfl) rfl rfl (by (try simp only [List.map_toArray, List.map_cons, List.map_nil]); first | done | rfl | (simp only [List.length_drop, List.length_take]; rfl)) ?_
         with_reducible refine (smaltolaw03_of.calls k6 _ _ t134 x22_6 t161 _ ?side1 ?side2 A128.out).mono ?_
         (case side1 => repeat (first | exact (Kd.R_reads' HO_21.out).2.2 | (with_reducible refine Kd.C_alloc ?_ _) | (with_reducible refine Kd.C_drewN ?_ _) | (with_reducible refine Kd.C_drew ?_)))
         (case side2 => exact (Kd.R_reads' HO_21.out).2.1)
         rintro e w133 ⟨v162, rfl, ho0, hb⟩
         refine ⟨_, rfl, ?_⟩
         have n0_ := Aside0.mk (Kd.R_below (R_ HO_8) hb)
         have n1_ := Aside0.mk (Kd.R_elder' (R_ HO_9) (Kd.R_base ho0) hb)
         have n2_ := Aside0.mk (Kd.R_elder' (R_ HO_10) (Kd.R_base ho0) hb)
         have n3_ := Aside0.mk (Kd.R_elder' (R_ HO_14) (Kd.R_base ho0) hb)
         have n4_ := Aside0.mk (Kd.R_elder' (R_ HO_21) (Kd.R_base ho0) hb)
         have n5_ := Aside0.mk (Kd.R_below (R_ HO160) hb)
         have n6_ := Aside0.mk (Kd.R_lower (Kd.R_new' (Kd.R_new' (Kd.R_new' (Kd.R_new' ho0 (Kd.R_lt (R_ HO_9))) (Kd.R_lt (R_ HO_10))) (Kd.R_lt (R_ HO_14))) (Kd.R_lt (R_ HO_21))) (below_size (by repeat (first | (with_reducible first | exact HB.out | apply below_alloc | apply pw_below_drewN | apply below_drew1 | refine below_set ?_ GE101.out | refine below_set ?_ GE102.out | refine below_set ?_ GE103.out | refine below_set ?_ GE112.out | refine below_set ?_ GE139.out) | exact HB.out))))
         have n7_ := Aside0.mk (blk_below (g := gb101) (o := .cells #[.int .u8 a0_0, .int .u8 a0_1, .int .u8 a0_2, .int .u8 a0_3, .int .u8 a0_4, .slice A0_5 l0_5.length c0_5] 66 (0, 0)) (b_ BK101) hb)
         have n8_ := Aside0.mk (blk_below (g := gb102) (o := .cells #[.int .u8 a1_0, .int .u8 a1_1, .int .u8 a1_2, .int .u8 a1_3, .int .u8 a1_4, .int .u8 a1_5] 67 (0, 0)) (b_ BK102) hb)
         have n9_ := Aside0.mk (blk_below (g := gb103) (o := .cells #[.int .u8 a2_0, .int .u8 a2_1, .int .u8 a2_2, .int .u8 a2_3, .int .u8 a2_4, .int .u8 a2_5] 67 (0, 0)) (b_ BK103) hb)
         have n10_ := Aside0.mk (blk_below (g := gb112) (o := .cells #[.int .i64 t104, .int .i64 t105, .int .i64 t106, .int .i64 t107, .int .i64 t108] 23 (0, 0)) (b_ BK112) hb)
         have n11_ := Aside0.mk (blk_below (g := gb139) (o := .cells #[.bool x140000_6, .bool x140001_6, .bool true] 82 (0, 0)) (b_ BK139) hb)
         have n12_ := Aside0.mk (below_step (by repeat (first | (with_reducible first | exact HB.out | apply below_alloc | apply pw_below_drewN | apply below_drew1 | refine below_set ?_ GE101.out | refine below_set ?_ GE102.out | refine below_set ?_ GE103.out | refine below_set ?_ GE112.out | refine below_set ?_ GE139.out) | exact HB.out)) hb)
         clear HO_8
         clear HO_9
         clear HO_10
         clear HO_14
         clear HO_21
         clear HO160
         clear BK101
         clear BK102
         clear BK103
         clear BK112
         clear BK139
         clear HB
         have HO_8 := n0_
         have HO_9 := n1_
         have HO_10 := n2_
         have HO_14 := n3_
         have HO_21 := n4_
         have HO160 := n5_
         have HO163 := n6_
         have BK101 := n7_
         have BK102 := n8_
         have BK103 := n9_
         have BK112 := n10_
         have BK139 := n11_
         have HB := n12_
         clear n0_ n1_ n2_ n3_ n4_ n5_ n6_ n7_ n8_ n9_ n10_ n11_ n12_
         (try clear hb)
         (try clear hb2)
         (try clear hk)
         (try clear hi)
         (try clear ho0)
         obtain ⟨Ao134, co134, eo134⟩ := Kd.R_slice HO160.out
         (first | subst eo134 | (injection eo134 with f1_ f2_ f3_; have f4_ := f1_.symm; have f5_ := f3_.symm; clear f1_ f2_ f3_; subst f4_; subst f5_))
         obtain ⟨Ao135, co135, eo135⟩ := Kd.R_slice HO163.out
         (first | subst eo135 | (injection eo135 with f1_ f2_ f3_; have f4_ := f1_.symm; have f5_ := f3_.symm; clear f1_ f2_ f3_; subst f4_; subst f5_))
         refine hK.out _ _ ⟨(blk_cell BK112.out 0).trans rfl, (blk_cell BK112.out 1).trans rfl, (blk_cell BK112.out 2).trans rfl, (blk_cell BK112.out 3).trans rfl, (blk_cell BK112.out 4).trans rfl⟩ (fun hHeld => ?_)
         clear hK K
         refine nq 122 ?_
         refine one_ (i := 6) (N := some 123) (bl 14 127) rfl rfl (one_of HT_.out (by kernel_rfl)) (by decide) (fun K hK => ?_)
         refine goes_ Tryd.func17 (by kernel_rfl) rfl #[.agg #[.int .i64 t104, .int .i64 t105, .int .i64 t106, .int .i64 t107, .int .i64 t108], .slice Ao134 t158.length co134, .slice Ao135 t161.length co135] (by rfl) rfl rfl (by (try simp only [List.map_toArray, List.map_cons, List.map_nil]); first | done | rfl | (simp only [List.length_drop, List.length_take]; rfl)) ?_
         with_reducible refine (goesC.calls t104 t105 t106 t107 t108 _ _ t158 _ _ t161 t164 t165 _ ?side5 ?side1 ?side2 ?side3 ?side4 A129.out).mono ?_
         (case side1 => repeat (first | exact (Kd.R_reads' HO160.out).2.2 | (with_reducible refine Kd.C_alloc ?_ _) | (with_reducible refine Kd.C_drewN ?_ _) | (with_reducible refine Kd.C_drew ?_)))
         (case side2 => exact (Kd.R_reads' HO160.out).2.1)
         (case side3 => repeat (first | exact (Kd.R_reads' HO163.out).2.2 | (with_reducible refine Kd.C_alloc ?_ _) | (with_reducible refine Kd.C_drewN ?_ _) | (with_reducible refine Kd.C_drew ?_)))
         (case side4 => exact (Kd.R_reads' HO163.out).2.1)
         (case side5 => exact Hand.TabW.below HTAB.out (by repeat (first | (with_reducible first | exact HB.out | apply below_alloc | apply pw_below_drewN | apply below_drew1 | refine below_set ?_ GE101.out | refine below_set ?_ GE102.out | refine below_set ?_ GE103.out | refine below_set ?_ GE112.out | refine below_set ?_ GE139.out) | exact HB.out)))
         rintro e w136 ⟨rfl, hb⟩
         refine ⟨_, rfl, ?_⟩
         have n0_ := Aside0.mk (Kd.R_below (R_ HO_8) hb)
         have n1_ := Aside0.mk (Kd.R_below (R_ HO_9) hb)
         have n2_ := Aside0.mk (Kd.R_below (R_ HO_10) hb)
         have n3_ := Aside0.mk (Kd.R_below (R_ HO_14) hb)
         have n4_ := Aside0.mk (Kd.R_below (R_ HO_21) hb)
         have n5_ := Aside0.mk (Kd.R_below (R_ HO160) hb)
         have n6_ := Aside0.mk (Kd.R_below (R_ HO163) hb)
         have n7_ := Aside0.mk (blk_below (g := gb101) (o := .cells #[.int .u8 a0_0, .int .u8 a0_1, .int .u8 a0_2, .int .u8 a0_3, .int .u8 a0_4, .slice A0_5 l0_5.length c0_5] 66 (0, 0)) (b_ BK101) hb)
         have n8_ := Aside0.mk (blk_below (g := gb102) (o := .cells #[.int .u8 a1_0, .int .u8 a1_1, .int .u8 a1_2, .int .u8 a1_3, .int .u8 a1_4, .int .u8 a1_5] 67 (0, 0)) (b_ BK102) hb)
         have n9_ := Aside0.mk (blk_below (g := gb103) (o := .cells #[.int .u8 a2_0, .int .u8 a2_1, .int .u8 a2_2, .int .u8 a2_3, .int .u8 a2_4, .int .u8 a2_5] 67 (0, 0)) (b_ BK103) hb)
         have n10_ := Aside0.mk (blk_below (g := gb112) (o := .cells #[.int .i64 t104, .int .i64 t105, .int .i64 t106, .int .i64 t107, .int .i64 t108] 23 (0, 0)) (b_ BK112) hb)
         have n11_ := Aside0.mk (blk_below (g := gb139) (o := .cells #[.bool x140000_6, .bool x140001_6, .bool true] 82 (0, 0)) (b_ BK139) hb)
         have n12_ := Aside0.mk (below_step (by repeat (first | (with_reducible first | exact HB.out | apply below_alloc | apply pw_below_drewN | apply below_drew1 | refine below_set ?_ GE101.out | refine below_set ?_ GE102.out | refine below_set ?_ GE103.out | refine below_set ?_ GE112.out | refine below_set ?_ GE139.out) | exact HB.out)) hb)
         clear HO_8
         clear HO_9
         clear HO_10
         clear HO_14
         clear HO_21
         clear HO160
         clear HO163
         clear BK101
         clear BK102
         clear BK103
         clear BK112
         clear BK139
         clear HB
         have HO_8 := n0_
         have HO_9 := n1_
         have HO_10 := n2_
         have HO_14 := n3_
         have HO_21 := n4_
         have HO160 := n5_
         have HO163 := n6_
         have BK101 := n7_
         have BK102 := n8_
         have BK103 := n9_
         have BK112 := n10_
         have BK139 := n11_
         have HB := n12_
         clear n0_ n1_ n2_ n3_ n4_ n5_ n6_ n7_ n8_ n9_ n10_ n11_ n12_
         (try clear hb)
         (try clear hb2)
         (try clear hk)
         (try clear hi)
         refine hK.out _ _ ⟨(blk_cell BK112.out 0).trans rfl, (blk_cell BK112.out 1).trans rfl, (blk_cell BK112.out 2).trans rfl, (blk_cell BK112.out 3).trans rfl, (blk_cell BK112.out 4).trans rfl⟩ (fun hHeld => ?_)
         clear hK K
         refine nq 123 ?_
         refine pq 7 (some 116) (bl 14 255) HT_ (h := ?_)
         refine pq 8 (some 124) (bl 14 511) HT_ (h := ?_)
         refine pq 9 (some 125) (bl 14 1023) HT_ (h := ?_)
         refine pq 10 (some 126) (bl 14 2047) HT_ (h := ?_)
         refine pq 11 (some 23) (bl 14 4095) HT_ (h := ?_)
         refine pq 12 (some 24) (bl 14 8191) HT_ (h := ?_)
         refine pq 13 (some 25) (bl 14 16383) HT_ (h := ?_)
         refine done_ (done_of HT_.out (by kernel_rfl)) ?_
         have hnb137 := NB139_101.out
         have hnc137 := NB101_139.out
         have hnb138 := NB139_102.out
         have hnc138 := NB102_139.out
         have hnb139 := NB139_103.out
         have hnc139 := NB103_139.out
         have hnb140 := NB139_112.out
         have hnc140 := NB112_139.out
         have hcz141_0 : w136.cell? ⟨gb139, 0, none⟩ = some (.bool x140000_6) := (blk_cell BK139.out 0).trans rfl
         have hcz141_1 : w136.cell? ⟨gb139, 1, none⟩ = some (.bool x140001_6) := (blk_cell BK139.out 1).trans rfl
         have hcz141_2 : w136.cell? ⟨gb139, 2, none⟩ = some (.bool true) := (blk_cell BK139.out 2).trans rfl
         have hfz141_0 := blk_frozen BK139.out 0
         have hfz141_1 := blk_frozen BK139.out 1
         have hfz141_2 := blk_frozen BK139.out 2
         try go_wp2
         go_roundg k6
         case measure => have := HK1.out; have := HK2.out; have := HJ47.out; have := HK4.out; have := HK5.out; have := HK6.out; omega
         case rel => exact ⟨(wrap64 (x22_6 + 1)), (x140000_6), (x140001_6), (t164), (by first | rfl | (simp; done) | (simp [*]; done)), H', ⟨by have := HK1.out; have := HK2.out; have := HJ47.out; have := HK4.out; have := HK5.out; have := HK6.out; omega⟩, ⟨by (with_reducible repeat (first | apply Kd.R_alloc | apply Kd.R_drewN | apply Kd.R_drew)); exact Kd.R_mono (Kd.R_far (p := ⟨gb139, 2, none⟩) (Kd.R_types HO_8.out BK139.out (by decide)) (fun _ hk => hk.2) (.bool t164)) (fun _ hk => trivial)⟩, ⟨by (with_reducible repeat (first | apply Kd.R_alloc | apply Kd.R_drewN | apply Kd.R_drew)); exact Kd.R_mono (Kd.R_far (p := ⟨gb139, 2, none⟩) (Kd.R_types HO_9.out BK139.out (by decide)) (fun _ hk => hk.2) (.bool t164)) (fun _ hk => ⟨hk.1.1.1, ⟨hk.1.1.2.1, hk.1.1.2.2⟩⟩)⟩, ⟨by (with_reducible repeat (first | apply Kd.R_alloc | apply Kd.R_drewN | apply Kd.R_drew)); exact Kd.R_mono (Kd.R_far (p := ⟨gb139, 2, none⟩) (Kd.R_types HO_10.out BK139.out (by decide)) (fun _ hk => hk.2) (.bool t164)) (fun _ hk => ⟨hk.1.1.1, ⟨hk.1.1.2.1, hk.1.1.2.2⟩⟩)⟩, ⟨by (with_reducible repeat (first | apply Kd.R_alloc | apply Kd.R_drewN | apply Kd.R_drew)); exact Kd.R_mono (Kd.R_far (p := ⟨gb139, 2, none⟩) (Kd.R_types HO_14.out BK139.out (by decide)) (fun _ hk => hk.2) (.bool t164)) (fun _ hk => ⟨hk.1.1.1, hk.1.1.2⟩)⟩, ⟨by (with_reducible repeat (first | apply Kd.R_alloc | apply Kd.R_drewN | apply Kd.R_drew)); exact Kd.R_mono (Kd.R_far (p := ⟨gb139, 2, none⟩) (Kd.R_types HO_21.out BK139.out (by decide)) (fun _ hk => hk.2) (.bool t164)) (fun _ hk => ⟨hk.1.1.1, hk.1.1.2⟩)⟩, ⟨by (with_reducible repeat (first | refine blk_drewN ?_ _ | refine blk_drew ?_ | refine blk_alloc ?_ _)); refine blk_far ?_ NB101_139.out _; (with_reducible repeat (first | refine blk_drewN ?_ _ | refine blk_drew ?_ | refine blk_alloc ?_ _)); exact BK101.out⟩, ⟨by (with_reducible repeat (first | refine blk_drewN ?_ _ | refine blk_drew ?_ | refine blk_alloc ?_ _)); refine blk_far ?_ NB102_139.out _; (with_reducible repeat (first | refine blk_drewN ?_ _ | refine blk_drew ?_ | refine blk_alloc ?_ _)); exact BK102.out⟩, ⟨by (with_reducible repeat (first | refine blk_drewN ?_ _ | refine blk_drew ?_ | refine blk_alloc ?_ _)); refine blk_far ?_ NB103_139.out _; (with_reducible repeat (first | refine blk_drewN ?_ _ | refine blk_drew ?_ | refine blk_alloc ?_ _)); exact BK103.out⟩, ⟨by (with_reducible repeat (first | refine blk_drewN ?_ _ | refine blk_drew ?_ | refine blk_alloc ?_ _)); refine blk_far ?_ NB112_139.out _; (with_reducible repeat (first | refine blk_drewN ?_ _ | refine blk_drew ?_ | refine blk_alloc ?_ _)); exact BK112.out⟩, ⟨by (with_reducible repeat (first | refine blk_drewN ?_ _ | refine blk_drew ?_ | refine blk_alloc ?_ _)); refine blk_put (cs := #[.bool x140000_6, .bool x140001_6, .bool true]) ?_ 2 _ rfl; (with_reducible repeat (first | refine blk_drewN ?_ _ | refine blk_drew ?_ | refine blk_alloc ?_ _)); exact BK139.out⟩, ⟨by repeat (first | (with_reducible first | exact HB.out | apply below_alloc | apply pw_below_drewN | apply below_drew1 | refine below_set ?_ GE101.out | refine below_set ?_ GE102.out | refine below_set ?_ GE103.out | refine below_set ?_ GE112.out | refine below_set ?_ GE139.out) | exact HB.out)⟩⟩
        replace c130 := Bool.eq_false_iff.mpr c130
        subst c130
        have H1 : (lP.l63 k6 t109 x9_1 x10_2 t123 t134 t137 t138 t134 (wrap64 (x22_6 + 1)) t104 t105 t106 t107 t108 x140000_6 x140001_6 false) = some r := by rw [if_neg (show ¬ (false = true) by decide)] at H; exact H
        clear H
        have H := H1
        clear H1
        have H' := Aside0.mk H
        clear H
        try go_wp2
        have n0_ := Aside0.mk (Kd.R_drew HO_8.out)
        have n1_ := Aside0.mk (Kd.R_drew HO_9.out)
        have n2_ := Aside0.mk (Kd.R_drew HO_10.out)
        have n3_ := Aside0.mk (Kd.R_drew HO_14.out)
        have n4_ := Aside0.mk (Kd.R_drew HO_21.out)
        have n5_ := Aside0.mk (blk_drew BK101.out)
        have n6_ := Aside0.mk (blk_drew BK102.out)
        have n7_ := Aside0.mk (blk_drew BK103.out)
        have n8_ := Aside0.mk (blk_drew BK112.out)
        have n9_ := Aside0.mk (blk_drew BK139.out)
        have n10_ := Aside0.mk (below_drew1 HB.out)
        clear HO_8
        clear HO_9
        clear HO_10
        clear HO_14
        clear HO_21
        clear BK101
        clear BK102
        clear BK103
        clear BK112
        clear BK139
        clear HB
        have HO_8 := n0_
        have HO_9 := n1_
        have HO_10 := n2_
        have HO_14 := n3_
        have HO_21 := n4_
        have BK101 := n5_
        have BK102 := n6_
        have BK103 := n7_
        have BK112 := n8_
        have BK139 := n9_
        have HB := n10_
        clear n0_ n1_ n2_ n3_ n4_ n5_ n6_ n7_ n8_ n9_ n10_
        refine start_ (n := 14) (S := fun w' => w'.cell? ⟨gb112, 0, none⟩ = some (.int .i64 t104) ∧ w'.cell? ⟨gb112, 1, none⟩ = some (.int .i64 t105) ∧ w'.cell? ⟨gb112, 2, none⟩ = some (.int .i64 t106) ∧ w'.cell? ⟨gb112, 3, none⟩ = some (.int .i64 t107) ∧ w'.cell? ⟨gb112, 4, none⟩ = some (.int .i64 t108)) (ds := []) (bl 14 0) (by kernel_rfl) rfl rfl ⟨(blk_cell BK112.out 0).trans rfl, (blk_cell BK112.out 1).trans rfl, (blk_cell BK112.out 2).trans rfl, (blk_cell BK112.out 3).trans rfl, (blk_cell BK112.out 4).trans rfl⟩ (fun hHeld => ?_); refine with_tabW lP.tab23 lP.bits23 (fun HT_ HW_ => ?_)
        generalize wr.drew = w142 at HO_8 HO_9 HO_10 HO_14 HO_21 BK101 BK102 BK103 BK112 BK139 HB hHeld ⊢
        refine pq 1 (some 118) (bl 14 2) HT_ (h := ?_)
        refine pq 3 (some 120) (bl 14 10) HT_ (h := ?_)
        refine pq 4 (some 121) (bl 14 26) HT_ (h := ?_)
        refine tq 0 (some 117) (bl 14 27) HT_ HW_ hHeld (h := ?_)
        refine one_ (i := 2) (N := some 119) (bl 14 31) rfl rfl (one_of HT_.out (by kernel_rfl)) (by decide) (fun K hK => ?_)
        refine goes_ Tryd.func43 (by kernel_rfl) rfl #[.slice Ao32 t109.length co32] (by rfl) rfl rfl (by (try simp only [List.map_toArray, List.map_cons, List.map_nil]); first | done | rfl | (simp only [List.length_drop, List.length_take]; rfl)) ?_
        with_reducible refine (smaltolaw03_own.calls _ _ t109 t158 _ ?side1 ?side2 A127.out).mono ?_
        (case side1 => repeat (first | exact (Kd.R_reads' HO_8.out).2.2 | (with_reducible refine Kd.C_alloc ?_ _) | (with_reducible refine Kd.C_drewN ?_ _) | (with_reducible refine Kd.C_drew ?_)))
        (case side2 => exact (Kd.R_reads' HO_8.out).2.1)
        rintro e w143 ⟨v159, rfl, ho0, hb⟩
        refine ⟨_, rfl, ?_⟩
        have n0_ := Aside0.mk (Kd.R_elder' (R_ HO_8) (Kd.R_base ho0) hb)
        have n1_ := Aside0.mk (Kd.R_below (R_ HO_9) hb)
        have n2_ := Aside0.mk (Kd.R_below (R_ HO_10) hb)
        have n3_ := Aside0.mk (Kd.R_below (R_ HO_14) hb)
        have n4_ := Aside0.mk (Kd.R_below (R_ HO_21) hb)
        have n5_ := Aside0.mk (Kd.R_lower (Kd.R_new' ho0 (Kd.R_lt (R_ HO_8))) (below_size (by repeat (first | (with_reducible first | exact HB.out | apply below_alloc | apply pw_below_drewN | apply below_drew1 | refine below_set ?_ GE101.out | refine below_set ?_ GE102.out | refine below_set ?_ GE103.out | refine below_set ?_ GE112.out | refine below_set ?_ GE139.out) | exact HB.out))))
        have n6_ := Aside0.mk (blk_below (g := gb101) (o := .cells #[.int .u8 a0_0, .int .u8 a0_1, .int .u8 a0_2, .int .u8 a0_3, .int .u8 a0_4, .slice A0_5 l0_5.length c0_5] 66 (0, 0)) (b_ BK101) hb)
        have n7_ := Aside0.mk (blk_below (g := gb102) (o := .cells #[.int .u8 a1_0, .int .u8 a1_1, .int .u8 a1_2, .int .u8 a1_3, .int .u8 a1_4, .int .u8 a1_5] 67 (0, 0)) (b_ BK102) hb)
        have n8_ := Aside0.mk (blk_below (g := gb103) (o := .cells #[.int .u8 a2_0, .int .u8 a2_1, .int .u8 a2_2, .int .u8 a2_3, .int .u8 a2_4, .int .u8 a2_5] 67 (0, 0)) (b_ BK103) hb)
        have n9_ := Aside0.mk (blk_below (g := gb112) (o := .cells #[.int .i64 t104, .int .i64 t105, .int .i64 t106, .int .i64 t107, .int .i64 t108] 23 (0, 0)) (b_ BK112) hb)
        have n10_ := Aside0.mk (blk_below (g := gb139) (o := .cells #[.bool x140000_6, .bool x140001_6, .bool false] 82 (0, 0)) (b_ BK139) hb)
        have n11_ := Aside0.mk (below_step (by repeat (first | (with_reducible first | exact HB.out | apply below_alloc | apply pw_below_drewN | apply below_drew1 | refine below_set ?_ GE101.out | refine below_set ?_ GE102.out | refine below_set ?_ GE103.out | refine below_set ?_ GE112.out | refine below_set ?_ GE139.out) | exact HB.out)) hb)
        clear HO_8
        clear HO_9
        clear HO_10
        clear HO_14
        clear HO_21
        clear BK101
        clear BK102
        clear BK103
        clear BK112
        clear BK139
        clear HB
        have HO_8 := n0_
        have HO_9 := n1_
        have HO_10 := n2_
        have HO_14 := n3_
        have HO_21 := n4_
        have HO160 := n5_
        have BK101 := n6_
        have BK102 := n7_
        have BK103 := n8_
        have BK112 := n9_
        have BK139 := n10_
        have HB := n11_
        clear n0_ n1_ n2_ n3_ n4_ n5_ n6_ n7_ n8_ n9_ n10_ n11_
        (try clear hb)
        (try clear hb2)
        (try clear hk)
        (try clear hi)
        (try clear ho0)
        refine hK.out _ _ ⟨(blk_cell BK112.out 0).trans rfl, (blk_cell BK112.out 1).trans rfl, (blk_cell BK112.out 2).trans rfl, (blk_cell BK112.out 3).trans rfl, (blk_cell BK112.out 4).trans rfl⟩ (fun hHeld => ?_)
        clear hK K
        refine nq 119 ?_
        refine one_ (i := 5) (N := some 122) (bl 14 63) rfl rfl (one_of HT_.out (by kernel_rfl)) (by decide) (fun K hK => ?_)
        refine goes_ Tryd.func47 (by kernel_rfl) rfl #[.slice Ao70 t134.length co70, .int .i64 x22_6] (by rfl) rfl rfl (by (try simp only [List.map_toArray, List.map_cons, List.map_nil]); first | done | rfl | (simp only [List.length_drop, List.length_take]; rfl)) ?_
        with_reducible refine (smaltolaw03_of.calls k6 _ _ t134 x22_6 t161 _ ?side1 ?side2 A128.out).mono ?_
        (case side1 => repeat (first | exact (Kd.R_reads' HO_21.out).2.2 | (with_reducible refine Kd.C_alloc ?_ _) | (with_reducible refine Kd.C_drewN ?_ _) | (with_reducible refine Kd.C_drew ?_)))
        (case side2 => exact (Kd.R_reads' HO_21.out).2.1)
        rintro e w144 ⟨v162, rfl, ho0, hb⟩
        refine ⟨_, rfl, ?_⟩
        have n0_ := Aside0.mk (Kd.R_below (R_ HO_8) hb)
        have n1_ := Aside0.mk (Kd.R_elder' (R_ HO_9) (Kd.R_base ho0) hb)
        have n2_ := Aside0.mk (Kd.R_elder' (R_ HO_10) (Kd.R_base ho0) hb)
        have n3_ := Aside0.mk (Kd.R_elder' (R_ HO_14) (Kd.R_base ho0) hb)
        have n4_ := Aside0.mk (Kd.R_elder' (R_ HO_21) (Kd.R_base ho0) hb)
        have n5_ := Aside0.mk (Kd.R_below (R_ HO160) hb)
        have n6_ := Aside0.mk (Kd.R_lower (Kd.R_new' (Kd.R_new' (Kd.R_new' (Kd.R_new' ho0 (Kd.R_lt (R_ HO_9))) (Kd.R_lt (R_ HO_10))) (Kd.R_lt (R_ HO_14))) (Kd.R_lt (R_ HO_21))) (below_size (by repeat (first | (with_reducible first | exact HB.out | apply below_alloc | apply pw_below_drewN | apply below_drew1 | refine below_set ?_ GE101.out | refine below_set ?_ GE102.out | refine below_set ?_ GE103.out | refine below_set ?_ GE112.out | refine below_set ?_ GE139.out) | exact HB.out))))
        have n7_ := Aside0.mk (blk_below (g := gb101) (o := .cells #[.int .u8 a0_0, .int .u8 a0_1, .int .u8 a0_2, .int .u8 a0_3, .int .u8 a0_4, .slice A0_5 l0_5.length c0_5] 66 (0, 0)) (b_ BK101) hb)
        have n8_ := Aside0.mk (blk_below (g := gb102) (o := .cells #[.int .u8 a1_0, .int .u8 a1_1, .int .u8 a1_2, .int .u8 a1_3, .int .u8 a1_4, .int .u8 a1_5] 67 (0, 0)) (b_ BK102) hb)
        have n9_ := Aside0.mk (blk_below (g := gb103) (o := .cells #[.int .u8 a2_0, .int .u8 a2_1, .int .u8 a2_2, .int .u8 a2_3, .int .u8 a2_4, .int .u8 a2_5] 67 (0, 0)) (b_ BK103) hb)
        have n10_ := Aside0.mk (blk_below (g := gb112) (o := .cells #[.int .i64 t104, .int .i64 t105, .int .i64 t106, .int .i64 t107, .int .i64 t108] 23 (0, 0)) (b_ BK112) hb)
        have n11_ := Aside0.mk (blk_below (g := gb139) (o := .cells #[.bool x140000_6, .bool x140001_6, .bool false] 82 (0, 0)) (b_ BK139) hb)
        have n12_ := Aside0.mk (below_step (by repeat (first | (with_reducible first | exact HB.out | apply below_alloc | apply pw_below_drewN | apply below_drew1 | refine below_set ?_ GE101.out | refine below_set ?_ GE102.out | refine below_set ?_ GE103.out | refine below_set ?_ GE112.out | refine below_set ?_ GE139.out) | exact HB.out)) hb)
        clear HO_8
        clear HO_9
        clear HO_10
        clear HO_14
        clear HO_21
        clear HO160
        clear BK101
        clear BK102
        clear BK103
        clear BK112
        clear BK139
        clear HB
        have HO_8 := n0_
        have HO_9 := n1_
        have HO_10 := n2_
        have HO_14 := n3_
        have HO_21 := n4_
        have HO160 := n5_
        have HO163 := n6_
        have BK101 := n7_
        have BK102 := n8_
        have BK103 := n9_
        have BK112 := n10_
        have BK139 := n11_
        have HB := n12_
        clear n0_ n1_ n2_ n3_ n4_ n5_ n6_ n7_ n8_ n9_ n10_ n11_ n12_
        (try clear hb)
        (try clear hb2)
        (try clear hk)
        (try clear hi)
        (try clear ho0)
        obtain ⟨Ao145, co145, eo145⟩ := Kd.R_slice HO160.out
        (first | subst eo145 | (injection eo145 with f1_ f2_ f3_; have f4_ := f1_.symm; have f5_ := f3_.symm; clear f1_ f2_ f3_; subst f4_; subst f5_))
        obtain ⟨Ao146, co146, eo146⟩ := Kd.R_slice HO163.out
        (first | subst eo146 | (injection eo146 with f1_ f2_ f3_; have f4_ := f1_.symm; have f5_ := f3_.symm; clear f1_ f2_ f3_; subst f4_; subst f5_))
        refine hK.out _ _ ⟨(blk_cell BK112.out 0).trans rfl, (blk_cell BK112.out 1).trans rfl, (blk_cell BK112.out 2).trans rfl, (blk_cell BK112.out 3).trans rfl, (blk_cell BK112.out 4).trans rfl⟩ (fun hHeld => ?_)
        clear hK K
        refine nq 122 ?_
        refine one_ (i := 6) (N := some 123) (bl 14 127) rfl rfl (one_of HT_.out (by kernel_rfl)) (by decide) (fun K hK => ?_)
        refine goes_ Tryd.func17 (by kernel_rfl) rfl #[.agg #[.int .i64 t104, .int .i64 t105, .int .i64 t106, .int .i64 t107, .int .i64 t108], .slice Ao145 t158.length co145, .slice Ao146 t161.length co146] (by rfl) rfl rfl (by (try simp only [List.map_toArray, List.map_cons, List.map_nil]); first | done | rfl | (simp only [List.length_drop, List.length_take]; rfl)) ?_
        with_reducible refine (goesC.calls t104 t105 t106 t107 t108 _ _ t158 _ _ t161 t164 t165 _ ?side5 ?side1 ?side2 ?side3 ?side4 A129.out).mono ?_
        (case side1 => repeat (first | exact (Kd.R_reads' HO160.out).2.2 | (with_reducible refine Kd.C_alloc ?_ _) | (with_reducible refine Kd.C_drewN ?_ _) | (with_reducible refine Kd.C_drew ?_)))
        (case side2 => exact (Kd.R_reads' HO160.out).2.1)
        (case side3 => repeat (first | exact (Kd.R_reads' HO163.out).2.2 | (with_reducible refine Kd.C_alloc ?_ _) | (with_reducible refine Kd.C_drewN ?_ _) | (with_reducible refine Kd.C_drew ?_)))
        (case side4 => exact (Kd.R_reads' HO163.out).2.1)
        (case side5 => exact Hand.TabW.below HTAB.out (by repeat (first | (with_reducible first | exact HB.out | apply below_alloc | apply pw_below_drewN | apply below_drew1 | refine below_set ?_ GE101.out | refine below_set ?_ GE102.out | refine below_set ?_ GE103.out | refine below_set ?_ GE112.out | refine below_set ?_ GE139.out) | exact HB.out)))
        rintro e w147 ⟨rfl, hb⟩
        refine ⟨_, rfl, ?_⟩
        have n0_ := Aside0.mk (Kd.R_below (R_ HO_8) hb)
        have n1_ := Aside0.mk (Kd.R_below (R_ HO_9) hb)
        have n2_ := Aside0.mk (Kd.R_below (R_ HO_10) hb)
        have n3_ := Aside0.mk (Kd.R_below (R_ HO_14) hb)
        have n4_ := Aside0.mk (Kd.R_below (R_ HO_21) hb)
        have n5_ := Aside0.mk (Kd.R_below (R_ HO160) hb)
        have n6_ := Aside0.mk (Kd.R_below (R_ HO163) hb)
        have n7_ := Aside0.mk (blk_below (g := gb101) (o := .cells #[.int .u8 a0_0, .int .u8 a0_1, .int .u8 a0_2, .int .u8 a0_3, .int .u8 a0_4, .slice A0_5 l0_5.length c0_5] 66 (0, 0)) (b_ BK101) hb)
        have n8_ := Aside0.mk (blk_below (g := gb102) (o := .cells #[.int .u8 a1_0, .int .u8 a1_1, .int .u8 a1_2, .int .u8 a1_3, .int .u8 a1_4, .int .u8 a1_5] 67 (0, 0)) (b_ BK102) hb)
        have n9_ := Aside0.mk (blk_below (g := gb103) (o := .cells #[.int .u8 a2_0, .int .u8 a2_1, .int .u8 a2_2, .int .u8 a2_3, .int .u8 a2_4, .int .u8 a2_5] 67 (0, 0)) (b_ BK103) hb)
        have n10_ := Aside0.mk (blk_below (g := gb112) (o := .cells #[.int .i64 t104, .int .i64 t105, .int .i64 t106, .int .i64 t107, .int .i64 t108] 23 (0, 0)) (b_ BK112) hb)
        have n11_ := Aside0.mk (blk_below (g := gb139) (o := .cells #[.bool x140000_6, .bool x140001_6, .bool false] 82 (0, 0)) (b_ BK139) hb)
        have n12_ := Aside0.mk (below_step (by repeat (first | (with_reducible first | exact HB.out | apply below_alloc | apply pw_below_drewN | apply below_drew1 | refine below_set ?_ GE101.out | refine below_set ?_ GE102.out | refine below_set ?_ GE103.out | refine below_set ?_ GE112.out | refine below_set ?_ GE139.out) | exact HB.out)) hb)
        clear HO_8
        clear HO_9
        clear HO_10
        clear HO_14
        clear HO_21
        clear HO160
        clear HO163
        clear BK101
        clear BK102
        clear BK103
        clear BK112
        clear BK139
        clear HB
        have HO_8 := n0_
        have HO_9 := n1_
        have HO_10 := n2_
        have HO_14 := n3_
        have HO_21 := n4_
        have HO160 := n5_
        have HO163 := n6_
        have BK101 := n7_
        have BK102 := n8_
        have BK103 := n9_
        have BK112 := n10_
        have BK139 := n11_
        have HB := n12_
        clear n0_ n1_ n2_ n3_ n4_ n5_ n6_ n7_ n8_ n9_ n10_ n11_ n12_
        (try clear hb)
        (try clear hb2)
        (try clear hk)
        (try clear hi)
        refine hK.out _ _ ⟨(blk_cell BK112.out 0).trans rfl, (blk_cell BK112.out 1).trans rfl, (blk_cell BK112.out 2).trans rfl, (blk_cell BK112.out 3).trans rfl, (blk_cell BK112.out 4).trans rfl⟩ (fun hHeld => ?_)
        clear hK K
        refine nq 123 ?_
        refine pq 7 (some 116) (bl 14 255) HT_ (h := ?_)
        refine pq 8 (some 124) (bl 14 511) HT_ (h := ?_)
        refine pq 9 (some 125) (bl 14 1023) HT_ (h := ?_)
        refine pq 10 (some 126) (bl 14 2047) HT_ (h := ?_)
        refine pq 11 (some 23) (bl 14 4095) HT_ (h := ?_)
        refine pq 12 (some 24) (bl 14 8191) HT_ (h := ?_)
        refine pq 13 (some 25) (bl 14 16383) HT_ (h := ?_)
        refine done_ (done_of HT_.out (by kernel_rfl)) ?_
        have hnb148 := NB139_101.out
        have hnc148 := NB101_139.out
        have hnb149 := NB139_102.out
        have hnc149 := NB102_139.out
        have hnb150 := NB139_103.out
        have hnc150 := NB103_139.out
        have hnb151 := NB139_112.out
        have hnc151 := NB112_139.out
        have hcz152_0 : w147.cell? ⟨gb139, 0, none⟩ = some (.bool x140000_6) := (blk_cell BK139.out 0).trans rfl
        have hcz152_1 : w147.cell? ⟨gb139, 1, none⟩ = some (.bool x140001_6) := (blk_cell BK139.out 1).trans rfl
        have hcz152_2 : w147.cell? ⟨gb139, 2, none⟩ = some (.bool false) := (blk_cell BK139.out 2).trans rfl
        have hfz152_0 := blk_frozen BK139.out 0
        have hfz152_1 := blk_frozen BK139.out 1
        have hfz152_2 := blk_frozen BK139.out 2
        try go_wp2
        go_roundg k6
        case measure => have := HK1.out; have := HK2.out; have := HJ47.out; have := HK4.out; have := HK5.out; have := HK6.out; omega
        case rel => exact ⟨(wrap64 (x22_6 + 1)), (x140000_6), (x140001_6), (false), (by first | rfl | (simp; done) | (simp [*]; done)), H', ⟨by have := HK1.out; have := HK2.out; have := HJ47.out; have := HK4.out; have := HK5.out; have := HK6.out; omega⟩, ⟨by (with_reducible repeat (first | apply Kd.R_alloc | apply Kd.R_drewN | apply Kd.R_drew)); exact Kd.R_mono (Kd.R_far (p := ⟨gb139, 2, none⟩) (Kd.R_types HO_8.out BK139.out (by decide)) (fun _ hk => hk.2) (.bool false)) (fun _ hk => trivial)⟩, ⟨by (with_reducible repeat (first | apply Kd.R_alloc | apply Kd.R_drewN | apply Kd.R_drew)); exact Kd.R_mono (Kd.R_far (p := ⟨gb139, 2, none⟩) (Kd.R_types HO_9.out BK139.out (by decide)) (fun _ hk => hk.2) (.bool false)) (fun _ hk => ⟨hk.1.1.1, ⟨hk.1.1.2.1, hk.1.1.2.2⟩⟩)⟩, ⟨by (with_reducible repeat (first | apply Kd.R_alloc | apply Kd.R_drewN | apply Kd.R_drew)); exact Kd.R_mono (Kd.R_far (p := ⟨gb139, 2, none⟩) (Kd.R_types HO_10.out BK139.out (by decide)) (fun _ hk => hk.2) (.bool false)) (fun _ hk => ⟨hk.1.1.1, ⟨hk.1.1.2.1, hk.1.1.2.2⟩⟩)⟩, ⟨by (with_reducible repeat (first | apply Kd.R_alloc | apply Kd.R_drewN | apply Kd.R_drew)); exact Kd.R_mono (Kd.R_far (p := ⟨gb139, 2, none⟩) (Kd.R_types HO_14.out BK139.out (by decide)) (fun _ hk => hk.2) (.bool false)) (fun _ hk => ⟨hk.1.1.1, hk.1.1.2⟩)⟩, ⟨by (with_reducible repeat (first | apply Kd.R_alloc | apply Kd.R_drewN | apply Kd.R_drew)); exact Kd.R_mono (Kd.R_far (p := ⟨gb139, 2, none⟩) (Kd.R_types HO_21.out BK139.out (by decide)) (fun _ hk => hk.2) (.bool false)) (fun _ hk => ⟨hk.1.1.1, hk.1.1.2⟩)⟩, ⟨by (with_reducible repeat (first | refine blk_drewN ?_ _ | refine blk_drew ?_ | refine blk_alloc ?_ _)); refine blk_far ?_ NB101_139.out _; (with_reducible repeat (first | refine blk_drewN ?_ _ | refine blk_drew ?_ | refine blk_alloc ?_ _)); exact BK101.out⟩, ⟨by (with_reducible repeat (first | refine blk_drewN ?_ _ | refine blk_drew ?_ | refine blk_alloc ?_ _)); refine blk_far ?_ NB102_139.out _; (with_reducible repeat (first | refine blk_drewN ?_ _ | refine blk_drew ?_ | refine blk_alloc ?_ _)); exact BK102.out⟩, ⟨by (with_reducible repeat (first | refine blk_drewN ?_ _ | refine blk_drew ?_ | refine blk_alloc ?_ _)); refine blk_far ?_ NB103_139.out _; (with_reducible repeat (first | refine blk_drewN ?_ _ | refine blk_drew ?_ | refine blk_alloc ?_ _)); exact BK103.out⟩, ⟨by (with_reducible repeat (first | refine blk_drewN ?_ _ | refine blk_drew ?_ | refine blk_alloc ?_ _)); refine blk_far ?_ NB112_139.out _; (with_reducible repeat (first | refine blk_drewN ?_ _ | refine blk_drew ?_ | refine blk_alloc ?_ _)); exact BK112.out⟩, ⟨by (with_reducible repeat (first | refine blk_drewN ?_ _ | refine blk_drew ?_ | refine blk_alloc ?_ _)); refine blk_put (cs := #[.bool x140000_6, .bool x140001_6, .bool false]) ?_ 2 _ rfl; (with_reducible repeat (first | refine blk_drewN ?_ _ | refine blk_drew ?_ | refine blk_alloc ?_ _)); exact BK139.out⟩, ⟨by repeat (first | (with_reducible first | exact HB.out | apply below_alloc | apply pw_below_drewN | apply below_drew1 | refine below_set ?_ GE101.out | refine below_set ?_ GE102.out | refine below_set ?_ GE103.out | refine below_set ?_ GE112.out | refine below_set ?_ GE139.out) | exact HB.out)⟩⟩
       rw [if_neg c126] at H
       have c126b0 : decide (x22_6 < 6) = false := decide_eq_false c126
       clear c126
       have H' := Aside0.mk H
       clear H
       go_wp2
       go_loopg [18, 19, 26] k6 (fun kq v18 v19 v26 w' => ∃ (x18_7 : Int) (x19_7 : Int) (x26_7 : Int), v18 = .int .i64 x18_7 ∧ v19 = .int .i64 x19_7 ∧ v26 = .int .i64 x26_7 ∧ Aside0 (lP.l4 kq t109 x9_1 x10_2 t123 t134 t137 t138 x18_7 x19_7 x26_7 x140000_6 x140001_6 x140002_6 = some r) ∧ Aside0 (kq ≤ k6) ∧ Aside0 (Kd.R k74 74 w' w.heap.size (fun _ => True) (.slice Ao32 t109.length co32) t109) ∧ Aside0 (Kd.R (Kd.int .i64) 3 w' w.heap.size (fun k_ => some k_ ≠ ((.slice Ao71 x10_2.length co71) : Value).ownBlock ∧ some k_ ≠ ((.slice Ao70 t134.length co70) : Value).ownBlock) (.slice Ao33 x9_1.length co33) x9_1) ∧ Aside0 (Kd.R (Kd.int .i64) 3 w' w.heap.size (fun k_ => some k_ ≠ ((.slice Ao33 x9_1.length co33) : Value).ownBlock ∧ some k_ ≠ ((.slice Ao70 t134.length co70) : Value).ownBlock) (.slice Ao71 x10_2.length co71) x10_2) ∧ Aside0 (Kd.R (Kd.int .i64) 3 w' w.heap.size (fun k_ => some k_ ≠ ((.slice Ao33 x9_1.length co33) : Value).ownBlock ∧ some k_ ≠ ((.slice Ao71 x10_2.length co71) : Value).ownBlock) (.slice Ao70 t134.length co70) t134) ∧ Aside0 (w'.heap[gb101]? = some (.cells #[.int .u8 a0_0, .int .u8 a0_1, .int .u8 a0_2, .int .u8 a0_3, .int .u8 a0_4, (.slice A0_5 l0_5.length c0_5)] 66 (0, 0))) ∧ Aside0 (w'.heap[gb102]? = some (.cells #[.int .u8 a1_0, .int .u8 a1_1, .int .u8 a1_2, .int .u8 a1_3, .int .u8 a1_4, .int .u8 a1_5] 67 (0, 0))) ∧ Aside0 (w'.heap[gb103]? = some (.cells #[.int .u8 a2_0, .int .u8 a2_1, .int .u8 a2_2, .int .u8 a2_3, .int .u8 a2_4, .int .u8 a2_5] 67 (0, 0))) ∧ Aside0 (w'.heap[gb112]? = some (.cells #[.int .i64 t104, .int .i64 t105, .int .i64 t106, .int .i64 t107, .int .i64 t108] 23 (0, 0))) ∧ Aside0 (w'.heap[gb139]? = some (.cells #[.bool x140000_6, .bool x140001_6, .bool x140002_6] 82 (0, 0))) ∧ Aside0 (Below w.heap.size w w'))
       case atStart => exact ⟨(0), (0), (0), (by first | rfl | (simp; done) | (simp [*]; done)), (by first | rfl | (simp; done) | (simp [*]; done)), (by first | rfl | (simp; done) | (simp [*]; done)), H', ⟨Nat.le_refl _⟩, ⟨R_ HO_8⟩, ⟨Kd.R_mono (R_ HO_9) (fun _ hk => ⟨hk.1, hk.2.1⟩)⟩, ⟨Kd.R_mono (R_ HO_10) (fun _ hk => ⟨hk.1, hk.2.1⟩)⟩, ⟨R_ HO_14⟩, ⟨b_ BK101⟩, ⟨b_ BK102⟩, ⟨b_ BK103⟩, ⟨b_ BK112⟩, ⟨b_ BK139⟩, ⟨by repeat (first | (with_reducible first | exact HB.out | apply below_alloc | apply pw_below_drewN | apply below_drew1 | refine below_set ?_ GE101.out | refine below_set ?_ GE102.out | refine below_set ?_ GE103.out | refine below_set ?_ GE112.out | refine below_set ?_ GE139.out) | exact HB.out)⟩⟩
       case round => as_aux_lemma =>
        clear H'
        try clear c126
        try clear c126b0
        obtain ⟨x18_7, x19_7, x26_7, rfl, rfl, rfl, HA, HK7, HO_8, HO_9, HO_10, HO_14, BK101, BK102, BK103, BK112, BK139, HB⟩ := hrel
        rcases gk with _ | k7
        ·exact absurd HA.out (by simp [lP.l4])
        have H := HA.out
        clear HA
        simp only [lP.l4] at H
        by_cases c153 : x26_7 < (t109.length : Int)
        ·rw [if_pos c153] at H
         have c153b0 : decide (x26_7 < (t109.length : Int)) = true := decide_eq_true c153
         clear c153
         by_cases c154 : 0 ≤ x26_7
         ·rw [if_pos c154] at H
          have c154b0 : decide (0 ≤ x26_7) = true := decide_eq_true c154
          clear c154
          by_cases c155 : x26_7 < (x10_2.length : Int)
          ·rw [if_pos c155] at H
           have c155b0 : decide (x26_7 < (x10_2.length : Int)) = true := decide_eq_true c155
           clear c155
           by_cases c156 : x26_7 < (x9_1.length : Int)
           ·rw [if_pos c156] at H
            have c156b0 : decide (x26_7 < (x9_1.length : Int)) = true := decide_eq_true c156
            clear c156
            have HC157 := Aside0.mk H
            clear H
            try go_wp2
            have n0_ := Aside0.mk (Kd.R_drew HO_8.out)
            have n1_ := Aside0.mk (Kd.R_drew HO_9.out)
            have n2_ := Aside0.mk (Kd.R_drew HO_10.out)
            have n3_ := Aside0.mk (Kd.R_drew HO_14.out)
            have n4_ := Aside0.mk (blk_drew BK101.out)
            have n5_ := Aside0.mk (blk_drew BK102.out)
            have n6_ := Aside0.mk (blk_drew BK103.out)
            have n7_ := Aside0.mk (blk_drew BK112.out)
            have n8_ := Aside0.mk (blk_drew BK139.out)
            have n9_ := Aside0.mk (below_drew1 HB.out)
            clear HO_8
            clear HO_9
            clear HO_10
            clear HO_14
            clear BK101
            clear BK102
            clear BK103
            clear BK112
            clear BK139
            clear HB
            have HO_8 := n0_
            have HO_9 := n1_
            have HO_10 := n2_
            have HO_14 := n3_
            have BK101 := n4_
            have BK102 := n5_
            have BK103 := n6_
            have BK112 := n7_
            have BK139 := n8_
            have HB := n9_
            clear n0_ n1_ n2_ n3_ n4_ n5_ n6_ n7_ n8_ n9_
            have p167 : 0 ≤ (x26_7 : Int) := of_decide_eq_true (by first | (with_reducible assumption) | assumption)
            have q167 : x26_7 < (x10_2.length : Int) := of_decide_eq_true (by first | (with_reducible assumption) | assumption)
            obtain ⟨ad167, e167, hx167_0⟩ := Kd.at_int (Kd.R_reads' HO_10.out).2.2 x26_7 p167 q167
            cases e167
            replace p167 := eq_true p167
            replace q167 := eq_true q167
            have p168 : 0 ≤ (x26_7 : Int) := of_decide_eq_true (by first | (with_reducible assumption) | assumption)
            have q168 : x26_7 < (x9_1.length : Int) := of_decide_eq_true (by first | (with_reducible assumption) | assumption)
            obtain ⟨ad168, e168, hx168_0⟩ := Kd.at_int (Kd.R_reads' HO_9.out).2.2 x26_7 p168 q168
            cases e168
            replace p168 := eq_true p168
            replace q168 := eq_true q168
            refine start_ (n := 9) (S := fun w' => w'.cell? (ad167.add (x26_7).toNat) = some (.int .i64 (rd x10_2 x26_7)) ∧ w'.cell? (ad168.add (x26_7).toNat) = some (.int .i64 (rd x9_1 x26_7))) (ds := []) (bl 9 0) (by kernel_rfl) rfl rfl ⟨hx167_0, hx168_0⟩ (fun hHeld => ?_); refine with_tabW lP.tab30 lP.bits30 (fun HT_ HW_ => ?_)
            generalize wr.drew = w158 at HO_8 HO_9 HO_10 HO_14 BK101 BK102 BK103 BK112 BK139 HB hx167_0 hx168_0 hHeld ⊢
            refine pq 0 (some 143) (bl 9 1) HT_ (h := ?_)
            refine pq 1 (some 144) (bl 9 3) HT_ (h := ?_)
            refine pq 2 (some 145) (bl 9 7) HT_ (h := ?_)
            refine pq 4 (some 147) (bl 9 23) HT_ (h := ?_)
            refine pq 5 (some 148) (bl 9 55) HT_ (h := ?_)
            refine pq 6 (some 149) (bl 9 119) HT_ (h := ?_)
            refine tq 3 (some 146) (bl 9 127) HT_ HW_ hHeld (h := ?_)
            refine tq 7 (some 150) (bl 9 255) HT_ HW_ hHeld (h := ?_)
            refine pq 8 (some 151) (bl 9 511) HT_ (h := ?_)
            refine done_ (done_of HT_.out (by kernel_rfl)) ?_
            go_upto_if 151 with (fail)
            go_cut [18] (fun v18 wc => ∃ (kq : Nat) (x18_156 : Int), v18 = .int .i64 x18_156 ∧ Aside0 (lP.j7 kq t109 x9_1 x10_2 t123 t134 t137 t138 x18_156 x19_7 x26_7 x140000_6 x140001_6 x140002_6 = some r) ∧ Aside0 (kq ≤ k7) ∧ Aside0 (Kd.R k74 74 wc w.heap.size (fun _ => True) (.slice Ao32 t109.length co32) t109) ∧ Aside0 (Kd.R (Kd.int .i64) 3 wc w.heap.size (fun k_ => some k_ ≠ ((.slice (some ad167) x10_2.length co71) : Value).ownBlock ∧ some k_ ≠ ((.slice Ao70 t134.length co70) : Value).ownBlock) (.slice (some ad168) x9_1.length co33) x9_1) ∧ Aside0 (Kd.R (Kd.int .i64) 3 wc w.heap.size (fun k_ => some k_ ≠ ((.slice (some ad168) x9_1.length co33) : Value).ownBlock ∧ some k_ ≠ ((.slice Ao70 t134.length co70) : Value).ownBlock) (.slice (some ad167) x10_2.length co71) x10_2) ∧ Aside0 (Kd.R (Kd.int .i64) 3 wc w.heap.size (fun k_ => some k_ ≠ ((.slice (some ad168) x9_1.length co33) : Value).ownBlock ∧ some k_ ≠ ((.slice (some ad167) x10_2.length co71) : Value).ownBlock) (.slice Ao70 t134.length co70) t134) ∧ Aside0 (wc.heap[gb101]? = some (.cells #[.int .u8 a0_0, .int .u8 a0_1, .int .u8 a0_2, .int .u8 a0_3, .int .u8 a0_4, (.slice A0_5 l0_5.length c0_5)] 66 (0, 0))) ∧ Aside0 (wc.heap[gb102]? = some (.cells #[.int .u8 a1_0, .int .u8 a1_1, .int .u8 a1_2, .int .u8 a1_3, .int .u8 a1_4, .int .u8 a1_5] 67 (0, 0))) ∧ Aside0 (wc.heap[gb103]? = some (.cells #[.int .u8 a2_0, .int .u8 a2_1, .int .u8 a2_2, .int .u8 a2_3, .int .u8 a2_4, .int .u8 a2_5] 67 (0, 0))) ∧ Aside0 (wc.heap[gb112]? = some (.cells #[.int .i64 t104, .int .i64 t105, .int .i64 t106, .int .i64 t107, .int .i64 t108] 23 (0, 0))) ∧ Aside0 (wc.heap[gb139]? = some (.cells #[.bool x140000_6, .bool x140001_6, .bool x140002_6] 82 (0, 0))) ∧ Aside0 (Below w.heap.size w wc))
            case first =>
             have H := HC157.out
             clear HC157
             by_cases c159 : (rd x10_2 x26_7) = (rd x9_1 x26_7)
             ·rw [if_pos c159] at H
              have c159b0 : ((rd x10_2 x26_7) == (rd x9_1 x26_7)) = true := beq_iff_eq.mpr c159
              have c159b1 : ((rd x10_2 x26_7) != (rd x9_1 x26_7)) = false := bne_eq_false_iff_eq.mpr c159
              clear c159
              (first | rw [c159b0] | (simp only [i64_w, i32_w]; rw [c159b0]) | skip)
              have H' := Aside0.mk H
              clear H
              go_wp2
              go_meet
              case rel => exact ⟨_, (x18_7), (by first | rfl | (simp; done) | (simp [*]; done)), H', ⟨by have := HK1.out; have := HK2.out; have := HJ47.out; have := HK4.out; have := HK5.out; have := HK6.out; have := HK7.out; first | omega | exact Nat.le_refl _⟩, ⟨R_ HO_8⟩, ⟨R_ HO_9⟩, ⟨R_ HO_10⟩, ⟨R_ HO_14⟩, ⟨b_ BK101⟩, ⟨b_ BK102⟩, ⟨b_ BK103⟩, ⟨b_ BK112⟩, ⟨b_ BK139⟩, ⟨by repeat (first | (with_reducible first | exact HB.out | apply below_alloc | apply pw_below_drewN | apply below_drew1 | refine below_set ?_ GE101.out | refine below_set ?_ GE102.out | refine below_set ?_ GE103.out | refine below_set ?_ GE112.out | refine below_set ?_ GE139.out) | exact HB.out)⟩⟩
             rw [if_neg c159] at H
             have c159b0 : ((rd x10_2 x26_7) == (rd x9_1 x26_7)) = false := beq_eq_false_iff_ne.mpr c159
             have c159b1 : ((rd x10_2 x26_7) != (rd x9_1 x26_7)) = true := bne_iff_ne.mpr c159
             (first | rw [c159b0] | (simp only [i64_w, i32_w]; rw [c159b0]) | skip)
             have H' := Aside0.mk H
             clear H
             go_wp2
             go_meet
             case rel => exact ⟨_, (wrap64 (x18_7 + 1)), (by first | rfl | (simp; done) | (simp [*]; done)), H', ⟨by have := HK1.out; have := HK2.out; have := HJ47.out; have := HK4.out; have := HK5.out; have := HK6.out; have := HK7.out; first | omega | exact Nat.le_refl _⟩, ⟨R_ HO_8⟩, ⟨R_ HO_9⟩, ⟨R_ HO_10⟩, ⟨R_ HO_14⟩, ⟨b_ BK101⟩, ⟨b_ BK102⟩, ⟨b_ BK103⟩, ⟨b_ BK112⟩, ⟨b_ BK139⟩, ⟨by repeat (first | (with_reducible first | exact HB.out | apply below_alloc | apply pw_below_drewN | apply below_drew1 | refine below_set ?_ GE101.out | refine below_set ?_ GE102.out | refine below_set ?_ GE103.out | refine below_set ?_ GE112.out | refine below_set ?_ GE139.out) | exact HB.out)⟩⟩
            case rest => as_aux_lemma =>
             clear HC157
             try clear c153
             try clear c153b0
             try clear c154
             try clear c154b0
             try clear c155
             try clear c155b0
             try clear c156
             try clear c156b0
             try clear hx167_0
             try clear hx168_0
             try clear p167
             try clear p168
             try clear q167
             try clear q168
             obtain ⟨kq, x18_156, rfl, HA, HJ156, HO_8, HO_9, HO_10, HO_14, BK101, BK102, BK103, BK112, BK139, HB⟩ := hcut
             rcases kq with _ | kj156
             ·exact absurd HA.out (by simp [lP.j7])
             have H := HA.out
             clear HA
             simp only [lP.j7] at H
             have HC160 := Aside0.mk H
             clear H
             go_upto_region 32 with (fail)
             go_cut [166] (fun v166 wc => ∃ (kq : Nat) (x166_159 : Bool), v166 = .bool x166_159 ∧ Aside0 (lP.j8 kq t109 x9_1 x10_2 t123 t134 t137 t138 x18_156 x19_7 x26_7 x166_159 x140000_6 x140001_6 x140002_6 = some r) ∧ Aside0 (kq ≤ kj156) ∧ Aside0 (Kd.R k74 74 wc w.heap.size (fun _ => True) (.slice Ao32 t109.length co32) t109) ∧ Aside0 (Kd.R (Kd.int .i64) 3 wc w.heap.size (fun k_ => some k_ ≠ ((.slice (some ad167) x10_2.length co71) : Value).ownBlock ∧ some k_ ≠ ((.slice Ao70 t134.length co70) : Value).ownBlock) (.slice (some ad168) x9_1.length co33) x9_1) ∧ Aside0 (Kd.R (Kd.int .i64) 3 wc w.heap.size (fun k_ => some k_ ≠ ((.slice (some ad168) x9_1.length co33) : Value).ownBlock ∧ some k_ ≠ ((.slice Ao70 t134.length co70) : Value).ownBlock) (.slice (some ad167) x10_2.length co71) x10_2) ∧ Aside0 (Kd.R (Kd.int .i64) 3 wc w.heap.size (fun k_ => some k_ ≠ ((.slice (some ad168) x9_1.length co33) : Value).ownBlock ∧ some k_ ≠ ((.slice (some ad167) x10_2.length co71) : Value).ownBlock) (.slice Ao70 t134.length co70) t134) ∧ Aside0 (wc.heap[gb101]? = some (.cells #[.int .u8 a0_0, .int .u8 a0_1, .int .u8 a0_2, .int .u8 a0_3, .int .u8 a0_4, (.slice A0_5 l0_5.length c0_5)] 66 (0, 0))) ∧ Aside0 (wc.heap[gb102]? = some (.cells #[.int .u8 a1_0, .int .u8 a1_1, .int .u8 a1_2, .int .u8 a1_3, .int .u8 a1_4, .int .u8 a1_5] 67 (0, 0))) ∧ Aside0 (wc.heap[gb103]? = some (.cells #[.int .u8 a2_0, .int .u8 a2_1, .int .u8 a2_2, .int .u8 a2_3, .int .u8 a2_4, .int .u8 a2_5] 67 (0, 0))) ∧ Aside0 (wc.heap[gb112]? = some (.cells #[.int .i64 t104, .int .i64 t105, .int .i64 t106, .int .i64 t107, .int .i64 t108] 23 (0, 0))) ∧ Aside0 (wc.heap[gb139]? = some (.cells #[.bool x140000_6, .bool x140001_6, .bool x140002_6] 82 (0, 0))) ∧ Aside0 (Below w.heap.size w wc))
             case first =>
              have H := HC160.out
              clear HC160
              by_cases c161 : t138 = 0
              ·rw [if_pos c161] at H
               have c161b0 : (t138 == 0) = true := beq_iff_eq.mpr c161
               have c161b1 : (t138 != 0) = false := bne_eq_false_iff_eq.mpr c161
               clear c161
               (first | rw [c161b0] | (simp only [i64_w, i32_w]; rw [c161b0]) | skip)
               by_cases c162 : 0 ≤ x26_7
               ·rw [if_pos c162] at H
                have c162b0 : decide (0 ≤ x26_7) = true := decide_eq_true c162
                clear c162
                by_cases c163 : x26_7 < (t134.length : Int)
                ·rw [if_pos c163] at H
                 have c163b0 : decide (x26_7 < (t134.length : Int)) = true := decide_eq_true c163
                 clear c163
                 by_cases c164 : x26_7 < (x9_1.length : Int)
                 ·rw [if_pos c164] at H
                  have c164b0 : decide (x26_7 < (x9_1.length : Int)) = true := decide_eq_true c164
                  clear c164
                  have H' := Aside0.mk H
                  clear H
                  try go_wp2
                  have n0_ := Aside0.mk (Kd.R_drew HO_8.out)
                  have n1_ := Aside0.mk (Kd.R_drew HO_9.out)
                  have n2_ := Aside0.mk (Kd.R_drew HO_10.out)
                  have n3_ := Aside0.mk (Kd.R_drew HO_14.out)
                  have n4_ := Aside0.mk (blk_drew BK101.out)
                  have n5_ := Aside0.mk (blk_drew BK102.out)
                  have n6_ := Aside0.mk (blk_drew BK103.out)
                  have n7_ := Aside0.mk (blk_drew BK112.out)
                  have n8_ := Aside0.mk (blk_drew BK139.out)
                  have n9_ := Aside0.mk (below_drew1 HB.out)
                  clear HO_8
                  clear HO_9
                  clear HO_10
                  clear HO_14
                  clear BK101
                  clear BK102
                  clear BK103
                  clear BK112
                  clear BK139
                  clear HB
                  have HO_8 := n0_
                  have HO_9 := n1_
                  have HO_10 := n2_
                  have HO_14 := n3_
                  have BK101 := n4_
                  have BK102 := n5_
                  have BK103 := n6_
                  have BK112 := n7_
                  have BK139 := n8_
                  have HB := n9_
                  clear n0_ n1_ n2_ n3_ n4_ n5_ n6_ n7_ n8_ n9_
                  have p169 : 0 ≤ (x26_7 : Int) := of_decide_eq_true (by first | (with_reducible assumption) | assumption)
                  have q169 : x26_7 < (t134.length : Int) := of_decide_eq_true (by first | (with_reducible assumption) | assumption)
                  obtain ⟨ad169, e169, hx169_0⟩ := Kd.at_int (Kd.R_reads' HO_14.out).2.2 x26_7 p169 q169
                  cases e169
                  replace p169 := eq_true p169
                  replace q169 := eq_true q169
                  have p170 : 0 ≤ (x26_7 : Int) := of_decide_eq_true (by first | (with_reducible assumption) | assumption)
                  have q170 : x26_7 < (x9_1.length : Int) := of_decide_eq_true (by first | (with_reducible assumption) | assumption)
                  obtain ⟨ad170, e170, hx170_0⟩ := Kd.at_int (Kd.R_reads' HO_9.out).2.2 x26_7 p170 q170
                  obtain rfl : ad168 = ad170 := (by injection e170)
                  replace p170 := eq_true p170
                  replace q170 := eq_true q170
                  refine start_ (n := 13) (S := fun w' => w'.cell? (ad169.add (x26_7).toNat) = some (.int .i64 (rd t134 x26_7)) ∧ w'.cell? (ad168.add (x26_7).toNat) = some (.int .i64 (rd x9_1 x26_7))) (ds := []) (bl 13 0) (by kernel_rfl) rfl rfl ⟨hx169_0, hx170_0⟩ (fun hHeld => ?_); refine with_tabW lP.tab32 lP.bits32 (fun HT_ HW_ => ?_)
                  generalize wc.drew = w165 at HO_8 HO_9 HO_10 HO_14 BK101 BK102 BK103 BK112 BK139 HB hx169_0 hx170_0 hHeld ⊢
                  refine pq 0 (some 154) (bl 13 1) HT_ (h := ?_)
                  refine pq 1 (some 155) (bl 13 3) HT_ (h := ?_)
                  refine pq 2 (some 156) (bl 13 7) HT_ (h := ?_)
                  refine pq 3 (some 157) (bl 13 15) HT_ (h := ?_)
                  refine pq 4 (some 158) (bl 13 31) HT_ (h := ?_)
                  refine pq 5 (some 159) (bl 13 63) HT_ (h := ?_)
                  refine pq 7 (some 161) (bl 13 191) HT_ (h := ?_)
                  refine pq 8 (some 162) (bl 13 447) HT_ (h := ?_)
                  refine pq 9 (some 163) (bl 13 959) HT_ (h := ?_)
                  refine tq 6 (some 160) (bl 13 1023) HT_ HW_ hHeld (h := ?_)
                  refine tq 10 (some 164) (bl 13 2047) HT_ HW_ hHeld (h := ?_)
                  refine pq 11 (some 165) (bl 13 4095) HT_ (h := ?_)
                  refine pq 12 (some 166) (bl 13 8191) HT_ (h := ?_)
                  refine done_ (done_of HT_.out (by kernel_rfl)) ?_
                  try go_wp2
                  go_meet
                  case rel => exact ⟨_, (((rd t134 x26_7) != (rd x9_1 x26_7))), (by first | rfl | (simp; done) | (simp [*]; done)), H', ⟨by have := HK1.out; have := HK2.out; have := HJ47.out; have := HK4.out; have := HK5.out; have := HK6.out; have := HK7.out; have := HJ156.out; first | omega | exact Nat.le_refl _⟩, ⟨R_ HO_8⟩, ⟨R_ HO_9⟩, ⟨R_ HO_10⟩, ⟨R_ HO_14⟩, ⟨b_ BK101⟩, ⟨b_ BK102⟩, ⟨b_ BK103⟩, ⟨b_ BK112⟩, ⟨b_ BK139⟩, ⟨by repeat (first | (with_reducible first | exact HB.out | apply below_alloc | apply pw_below_drewN | apply below_drew1 | refine below_set ?_ GE101.out | refine below_set ?_ GE102.out | refine below_set ?_ GE103.out | refine below_set ?_ GE112.out | refine below_set ?_ GE139.out) | exact HB.out)⟩⟩
                 rw [if_neg c164] at H
                 exact absurd H (by simp)
                rw [if_neg c163] at H
                exact absurd H (by simp)
               rw [if_neg c162] at H
               exact absurd H (by simp)
              rw [if_neg c161] at H
              have c161b0 : (t138 == 0) = false := beq_eq_false_iff_ne.mpr c161
              have c161b1 : (t138 != 0) = true := bne_iff_ne.mpr c161
              (first | rw [c161b0] | (simp only [i64_w, i32_w]; rw [c161b0]) | skip)
              have H' := Aside0.mk H
              clear H
              try go_wp2
              have n0_ := Aside0.mk (Kd.R_drew HO_8.out)
              have n1_ := Aside0.mk (Kd.R_drew HO_9.out)
              have n2_ := Aside0.mk (Kd.R_drew HO_10.out)
              have n3_ := Aside0.mk (Kd.R_drew HO_14.out)
              have n4_ := Aside0.mk (blk_drew BK101.out)
              have n5_ := Aside0.mk (blk_drew BK102.out)
              have n6_ := Aside0.mk (blk_drew BK103.out)
              have n7_ := Aside0.mk (blk_drew BK112.out)
              have n8_ := Aside0.mk (blk_drew BK139.out)
              have n9_ := Aside0.mk (below_drew1 HB.out)
              clear HO_8
              clear HO_9
              clear HO_10
              clear HO_14
              clear BK101
              clear BK102
              clear BK103
              clear BK112
              clear BK139
              clear HB
              have HO_8 := n0_
              have HO_9 := n1_
              have HO_10 := n2_
              have HO_14 := n3_
              have BK101 := n4_
              have BK102 := n5_
              have BK103 := n6_
              have BK112 := n7_
              have BK139 := n8_
              have HB := n9_
              clear n0_ n1_ n2_ n3_ n4_ n5_ n6_ n7_ n8_ n9_
              refine start_ (n := 13) (S := fun w' => True) (ds := []) (bl 13 0) (by kernel_rfl) rfl rfl trivial (fun hHeld => ?_); refine with_tabW lP.tab32 lP.bits32 (fun HT_ HW_ => ?_)
              generalize wc.drew = w166 at HO_8 HO_9 HO_10 HO_14 BK101 BK102 BK103 BK112 BK139 HB hHeld ⊢
              refine pq 0 (some 154) (bl 13 1) HT_ (h := ?_)
              refine pq 1 (some 155) (bl 13 3) HT_ (h := ?_)
              refine pq 2 (some 156) (bl 13 7) HT_ (h := ?_)
              refine po 3 (some 157) (bl 13 15) HT_ (h := ?_)
              refine po 4 (some 158) (bl 13 31) HT_ (h := ?_)
              refine po 5 (some 159) (bl 13 63) HT_ (h := ?_)
              refine po 6 (some 160) (bl 13 127) HT_ (h := ?_)
              refine po 7 (some 161) (bl 13 255) HT_ (h := ?_)
              refine po 8 (some 162) (bl 13 511) HT_ (h := ?_)
              refine po 9 (some 163) (bl 13 1023) HT_ (h := ?_)
              refine po 10 (some 164) (bl 13 2047) HT_ (h := ?_)
              refine po 11 (some 165) (bl 13 4095) HT_ (h := ?_)
              refine pq 12 (some 166) (bl 13 8191) HT_ (h := ?_)
              refine done_ (done_of HT_.out (by kernel_rfl)) ?_
              try go_wp2
              go_meet
              case rel => exact ⟨_, (false), (by first | rfl | (simp; done) | (simp [*]; done)), H', ⟨by have := HK1.out; have := HK2.out; have := HJ47.out; have := HK4.out; have := HK5.out; have := HK6.out; have := HK7.out; have := HJ156.out; first | omega | exact Nat.le_refl _⟩, ⟨R_ HO_8⟩, ⟨R_ HO_9⟩, ⟨R_ HO_10⟩, ⟨R_ HO_14⟩, ⟨b_ BK101⟩, ⟨b_ BK102⟩, ⟨b_ BK103⟩, ⟨b_ BK112⟩, ⟨b_ BK139⟩, ⟨by repeat (first | (with_reducible first | exact HB.out | apply below_alloc | apply pw_below_drewN | apply below_drew1 | refine below_set ?_ GE101.out | refine below_set ?_ GE102.out | refine below_set ?_ GE103.out | refine below_set ?_ GE112.out | refine below_set ?_ GE139.out) | exact HB.out)⟩⟩
             case rest => as_aux_lemma =>
              clear HC160
              obtain ⟨kq, x166_159, rfl, HA, HJ159, HO_8, HO_9, HO_10, HO_14, BK101, BK102, BK103, BK112, BK139, HB⟩ := hcut
              rcases kq with _ | kj159
              ·exact absurd HA.out (by simp [lP.j8])
              have H := HA.out
              clear HA
              simp only [lP.j8] at H
              by_cases c167 : x166_159 = true
              ·subst c167
               have H1 : (if t138 = 0 then (if 0 ≤ x26_7 then (if x26_7 < (t134.length : Int) then (if (rd t134 x26_7) < 0 then (some false) else (if (rd t134 x26_7) ≥ t123 then (some false) else (lP.l4 kj159 t109 x9_1 x10_2 t123 t134 t137 t138 x18_156 (wrap64 (x19_7 + 1)) (wrap64 (x26_7 + 1)) x140000_6 x140001_6 x140002_6))) else (none)) else (none)) else (lP.l4 kj159 t109 x9_1 x10_2 t123 t134 t137 t138 x18_156 (wrap64 (x19_7 + 1)) (wrap64 (x26_7 + 1)) x140000_6 x140001_6 x140002_6)) = some r := by rw [if_pos rfl] at H; exact H
               clear H
               have H := H1
               clear H1
               by_cases c168 : t138 = 0
               ·rw [if_pos c168] at H
                have c168b0 : (t138 == 0) = true := beq_iff_eq.mpr c168
                have c168b1 : (t138 != 0) = false := bne_eq_false_iff_eq.mpr c168
                clear c168
                by_cases c169 : 0 ≤ x26_7
                ·rw [if_pos c169] at H
                 have c169b0 : decide (0 ≤ x26_7) = true := decide_eq_true c169
                 clear c169
                 by_cases c170 : x26_7 < (t134.length : Int)
                 ·rw [if_pos c170] at H
                  have c170b0 : decide (x26_7 < (t134.length : Int)) = true := decide_eq_true c170
                  clear c170
                  by_cases c171 : (rd t134 x26_7) < 0
                  ·rw [if_pos c171] at H
                   have c171b0 : decide ((rd t134 x26_7) < 0) = true := decide_eq_true c171
                   clear c171
                   obtain rfl := Option.some.inj H
                   have p171 : 0 ≤ (x26_7 : Int) := of_decide_eq_true (by first | (with_reducible assumption) | assumption)
                   have q171 : x26_7 < (t134.length : Int) := of_decide_eq_true (by first | (with_reducible assumption) | assumption)
                   obtain ⟨ad171, e171, hx171_0⟩ := Kd.at_int (Kd.R_reads' HO_14.out).2.2 x26_7 p171 q171
                   cases e171
                   replace p171 := eq_true p171
                   replace q171 := eq_true q171
                   go_wp2
                   go_ret
                   exact ⟨by first | rfl | (simp [errW_none, errW_some] <;> rfl) | (simp [*, errW_none, errW_some] <;> rfl), by repeat (first | (with_reducible first | exact HB.out | apply below_alloc | apply pw_below_drewN | apply below_drew1 | refine below_set ?_ GE101.out | refine below_set ?_ GE102.out | refine below_set ?_ GE103.out | refine below_set ?_ GE112.out | refine below_set ?_ GE139.out) | exact HB.out)⟩
                  rw [if_neg c171] at H
                  have c171b0 : decide ((rd t134 x26_7) < 0) = false := decide_eq_false c171
                  clear c171
                  by_cases c172 : (rd t134 x26_7) ≥ t123
                  ·rw [if_pos c172] at H
                   have c172b0 : decide (t123 ≤ (rd t134 x26_7)) = true := decide_eq_true c172
                   clear c172
                   obtain rfl := Option.some.inj H
                   have p171 : 0 ≤ (x26_7 : Int) := of_decide_eq_true (by first | (with_reducible assumption) | assumption)
                   have q171 : x26_7 < (t134.length : Int) := of_decide_eq_true (by first | (with_reducible assumption) | assumption)
                   obtain ⟨ad171, e171, hx171_0⟩ := Kd.at_int (Kd.R_reads' HO_14.out).2.2 x26_7 p171 q171
                   cases e171
                   replace p171 := eq_true p171
                   replace q171 := eq_true q171
                   have p172 : 0 ≤ (x26_7 : Int) := of_decide_eq_true (by first | (with_reducible assumption) | assumption)
                   have q172 : x26_7 < (t134.length : Int) := of_decide_eq_true (by first | (with_reducible assumption) | assumption)
                   obtain ⟨ad172, e172, hx172_0⟩ := Kd.at_int (Kd.R_reads' HO_14.out).2.2 x26_7 p172 q172
                   obtain rfl : ad171 = ad172 := (by injection e172)
                   replace p172 := eq_true p172
                   replace q172 := eq_true q172
                   go_wp2
                   go_ret
                   exact ⟨by first | rfl | (simp [errW_none, errW_some] <;> rfl) | (simp [*, errW_none, errW_some] <;> rfl), by repeat (first | (with_reducible first | exact HB.out | apply below_alloc | apply pw_below_drewN | apply below_drew1 | refine below_set ?_ GE101.out | refine below_set ?_ GE102.out | refine below_set ?_ GE103.out | refine below_set ?_ GE112.out | refine below_set ?_ GE139.out) | exact HB.out)⟩
                  rw [if_neg c172] at H
                  have c172b0 : decide (t123 ≤ (rd t134 x26_7)) = false := decide_eq_false c172
                  clear c172
                  have H' := Aside0.mk H
                  clear H
                  have p171 : 0 ≤ (x26_7 : Int) := of_decide_eq_true (by first | (with_reducible assumption) | assumption)
                  have q171 : x26_7 < (t134.length : Int) := of_decide_eq_true (by first | (with_reducible assumption) | assumption)
                  obtain ⟨ad171, e171, hx171_0⟩ := Kd.at_int (Kd.R_reads' HO_14.out).2.2 x26_7 p171 q171
                  cases e171
                  replace p171 := eq_true p171
                  replace q171 := eq_true q171
                  have p172 : 0 ≤ (x26_7 : Int) := of_decide_eq_true (by first | (with_reducible assumption) | assumption)
                  have q172 : x26_7 < (t134.length : Int) := of_decide_eq_true (by first | (with_reducible assumption) | assumption)
                  obtain ⟨ad172, e172, hx172_0⟩ := Kd.at_int (Kd.R_reads' HO_14.out).2.2 x26_7 p172 q172
                  obtain rfl : ad171 = ad172 := (by injection e172)
                  replace p172 := eq_true p172
                  replace q172 := eq_true q172
                  go_wp2
                  go_roundg kj159
                  case measure => have := HK1.out; have := HK2.out; have := HJ47.out; have := HK4.out; have := HK5.out; have := HK6.out; have := HK7.out; have := HJ156.out; have := HJ159.out; omega
                  case rel => exact ⟨(x18_156), (wrap64 (x19_7 + 1)), (wrap64 (x26_7 + 1)), (by first | rfl | (simp; done) | (simp [*]; done)), (by first | rfl | (simp; done) | (simp [*]; done)), (by first | rfl | (simp; done) | (simp [*]; done)), H', ⟨by have := HK1.out; have := HK2.out; have := HJ47.out; have := HK4.out; have := HK5.out; have := HK6.out; have := HK7.out; have := HJ156.out; have := HJ159.out; omega⟩, ⟨R_ HO_8⟩, ⟨R_ HO_9⟩, ⟨R_ HO_10⟩, ⟨R_ HO_14⟩, ⟨b_ BK101⟩, ⟨b_ BK102⟩, ⟨b_ BK103⟩, ⟨b_ BK112⟩, ⟨b_ BK139⟩, ⟨by repeat (first | (with_reducible first | exact HB.out | apply below_alloc | apply pw_below_drewN | apply below_drew1 | refine below_set ?_ GE101.out | refine below_set ?_ GE102.out | refine below_set ?_ GE103.out | refine below_set ?_ GE112.out | refine below_set ?_ GE139.out) | exact HB.out)⟩⟩
                 rw [if_neg c170] at H
                 exact absurd H (by simp)
                rw [if_neg c169] at H
                exact absurd H (by simp)
               rw [if_neg c168] at H
               have c168b0 : (t138 == 0) = false := beq_eq_false_iff_ne.mpr c168
               have c168b1 : (t138 != 0) = true := bne_iff_ne.mpr c168
               have H' := Aside0.mk H
               clear H
               go_wp2
               go_roundg kj159
               case measure => have := HK1.out; have := HK2.out; have := HJ47.out; have := HK4.out; have := HK5.out; have := HK6.out; have := HK7.out; have := HJ156.out; have := HJ159.out; omega
               case rel => exact ⟨(x18_156), (wrap64 (x19_7 + 1)), (wrap64 (x26_7 + 1)), (by first | rfl | (simp; done) | (simp [*]; done)), (by first | rfl | (simp; done) | (simp [*]; done)), (by first | rfl | (simp; done) | (simp [*]; done)), H', ⟨by have := HK1.out; have := HK2.out; have := HJ47.out; have := HK4.out; have := HK5.out; have := HK6.out; have := HK7.out; have := HJ156.out; have := HJ159.out; omega⟩, ⟨R_ HO_8⟩, ⟨R_ HO_9⟩, ⟨R_ HO_10⟩, ⟨R_ HO_14⟩, ⟨b_ BK101⟩, ⟨b_ BK102⟩, ⟨b_ BK103⟩, ⟨b_ BK112⟩, ⟨b_ BK139⟩, ⟨by repeat (first | (with_reducible first | exact HB.out | apply below_alloc | apply pw_below_drewN | apply below_drew1 | refine below_set ?_ GE101.out | refine below_set ?_ GE102.out | refine below_set ?_ GE103.out | refine below_set ?_ GE112.out | refine below_set ?_ GE139.out) | exact HB.out)⟩⟩
              replace c167 := Bool.eq_false_iff.mpr c167
              subst c167
              have H1 : (if t138 = 0 then (if 0 ≤ x26_7 then (if x26_7 < (t134.length : Int) then (if (rd t134 x26_7) < 0 then (some false) else (if (rd t134 x26_7) ≥ t123 then (some false) else (lP.l4 kj159 t109 x9_1 x10_2 t123 t134 t137 t138 x18_156 x19_7 (wrap64 (x26_7 + 1)) x140000_6 x140001_6 x140002_6))) else (none)) else (none)) else (lP.l4 kj159 t109 x9_1 x10_2 t123 t134 t137 t138 x18_156 x19_7 (wrap64 (x26_7 + 1)) x140000_6 x140001_6 x140002_6)) = some r := by rw [if_neg (show ¬ (false = true) by decide)] at H; exact H
              clear H
              have H := H1
              clear H1
              by_cases c173 : t138 = 0
              ·rw [if_pos c173] at H
               have c173b0 : (t138 == 0) = true := beq_iff_eq.mpr c173
               have c173b1 : (t138 != 0) = false := bne_eq_false_iff_eq.mpr c173
               clear c173
               by_cases c174 : 0 ≤ x26_7
               ·rw [if_pos c174] at H
                have c174b0 : decide (0 ≤ x26_7) = true := decide_eq_true c174
                clear c174
                by_cases c175 : x26_7 < (t134.length : Int)
                ·rw [if_pos c175] at H
                 have c175b0 : decide (x26_7 < (t134.length : Int)) = true := decide_eq_true c175
                 clear c175
                 by_cases c176 : (rd t134 x26_7) < 0
                 ·rw [if_pos c176] at H
                  have c176b0 : decide ((rd t134 x26_7) < 0) = true := decide_eq_true c176
                  clear c176
                  obtain rfl := Option.some.inj H
                  have p173 : 0 ≤ (x26_7 : Int) := of_decide_eq_true (by first | (with_reducible assumption) | assumption)
                  have q173 : x26_7 < (t134.length : Int) := of_decide_eq_true (by first | (with_reducible assumption) | assumption)
                  obtain ⟨ad173, e173, hx173_0⟩ := Kd.at_int (Kd.R_reads' HO_14.out).2.2 x26_7 p173 q173
                  cases e173
                  replace p173 := eq_true p173
                  replace q173 := eq_true q173
                  go_wp2
                  go_ret
                  exact ⟨by first | rfl | (simp [errW_none, errW_some] <;> rfl) | (simp [*, errW_none, errW_some] <;> rfl), by repeat (first | (with_reducible first | exact HB.out | apply below_alloc | apply pw_below_drewN | apply below_drew1 | refine below_set ?_ GE101.out | refine below_set ?_ GE102.out | refine below_set ?_ GE103.out | refine below_set ?_ GE112.out | refine below_set ?_ GE139.out) | exact HB.out)⟩
                 rw [if_neg c176] at H
                 have c176b0 : decide ((rd t134 x26_7) < 0) = false := decide_eq_false c176
                 clear c176
                 by_cases c177 : (rd t134 x26_7) ≥ t123
                 ·rw [if_pos c177] at H
                  have c177b0 : decide (t123 ≤ (rd t134 x26_7)) = true := decide_eq_true c177
                  clear c177
                  obtain rfl := Option.some.inj H
                  have p173 : 0 ≤ (x26_7 : Int) := of_decide_eq_true (by first | (with_reducible assumption) | assumption)
                  have q173 : x26_7 < (t134.length : Int) := of_decide_eq_true (by first | (with_reducible assumption) | assumption)
                  obtain ⟨ad173, e173, hx173_0⟩ := Kd.at_int (Kd.R_reads' HO_14.out).2.2 x26_7 p173 q173
                  cases e173
                  replace p173 := eq_true p173
                  replace q173 := eq_true q173
                  have p174 : 0 ≤ (x26_7 : Int) := of_decide_eq_true (by first | (with_reducible assumption) | assumption)
                  have q174 : x26_7 < (t134.length : Int) := of_decide_eq_true (by first | (with_reducible assumption) | assumption)
                  obtain ⟨ad174, e174, hx174_0⟩ := Kd.at_int (Kd.R_reads' HO_14.out).2.2 x26_7 p174 q174
                  obtain rfl : ad173 = ad174 := (by injection e174)
                  replace p174 := eq_true p174
                  replace q174 := eq_true q174
                  go_wp2
                  go_ret
                  exact ⟨by first | rfl | (simp [errW_none, errW_some] <;> rfl) | (simp [*, errW_none, errW_some] <;> rfl), by repeat (first | (with_reducible first | exact HB.out | apply below_alloc | apply pw_below_drewN | apply below_drew1 | refine below_set ?_ GE101.out | refine below_set ?_ GE102.out | refine below_set ?_ GE103.out | refine below_set ?_ GE112.out | refine below_set ?_ GE139.out) | exact HB.out)⟩
                 rw [if_neg c177] at H
                 have c177b0 : decide (t123 ≤ (rd t134 x26_7)) = false := decide_eq_false c177
                 clear c177
                 have H' := Aside0.mk H
                 clear H
                 have p173 : 0 ≤ (x26_7 : Int) := of_decide_eq_true (by first | (with_reducible assumption) | assumption)
                 have q173 : x26_7 < (t134.length : Int) := of_decide_eq_true (by first | (with_reducible assumption) | assumption)
                 obtain ⟨ad173, e173, hx173_0⟩ := Kd.at_int (Kd.R_reads' HO_14.out).2.2 x26_7 p173 q173
                 cases e173
                 replace p173 := eq_true p173
                 replace q173 := eq_true q173
                 have p174 : 0 ≤ (x26_7 : Int) := of_decide_eq_true (by first | (with_reducible assumption) | assumption)
                 have q174 : x26_7 < (t134.length : Int) := of_decide_eq_true (by first | (with_reducible assumption) | assumption)
                 obtain ⟨ad174, e174, hx174_0⟩ := Kd.at_int (Kd.R_reads' HO_14.out).2.2 x26_7 p174 q174
                 obtain rfl : ad173 = ad174 := (by injection e174)
                 replace p174 := eq_true p174
                 replace q174 := eq_true q174
                 go_wp2
                 go_roundg kj159
                 case measure => have := HK1.out; have := HK2.out; have := HJ47.out; have := HK4.out; have := HK5.out; have := HK6.out; have := HK7.out; have := HJ156.out; have := HJ159.out; omega
                 case rel => exact ⟨(x18_156), (x19_7), (wrap64 (x26_7 + 1)), (by first | rfl | (simp; done) | (simp [*]; done)), (by first | rfl | (simp; done) | (simp [*]; done)), (by first | rfl | (simp; done) | (simp [*]; done)), H', ⟨by have := HK1.out; have := HK2.out; have := HJ47.out; have := HK4.out; have := HK5.out; have := HK6.out; have := HK7.out; have := HJ156.out; have := HJ159.out; omega⟩, ⟨R_ HO_8⟩, ⟨R_ HO_9⟩, ⟨R_ HO_10⟩, ⟨R_ HO_14⟩, ⟨b_ BK101⟩, ⟨b_ BK102⟩, ⟨b_ BK103⟩, ⟨b_ BK112⟩, ⟨b_ BK139⟩, ⟨by repeat (first | (with_reducible first | exact HB.out | apply below_alloc | apply pw_below_drewN | apply below_drew1 | refine below_set ?_ GE101.out | refine below_set ?_ GE102.out | refine below_set ?_ GE103.out | refine below_set ?_ GE112.out | refine below_set ?_ GE139.out) | exact HB.out)⟩⟩
                rw [if_neg c175] at H
                exact absurd H (by simp)
               rw [if_neg c174] at H
               exact absurd H (by simp)
              rw [if_neg c173] at H
              have c173b0 : (t138 == 0) = false := beq_eq_false_iff_ne.mpr c173
              have c173b1 : (t138 != 0) = true := bne_iff_ne.mpr c173
              have H' := Aside0.mk H
              clear H
              go_wp2
              go_roundg kj159
              case measure => have := HK1.out; have := HK2.out; have := HJ47.out; have := HK4.out; have := HK5.out; have := HK6.out; have := HK7.out; have := HJ156.out; have := HJ159.out; omega
              case rel => exact ⟨(x18_156), (x19_7), (wrap64 (x26_7 + 1)), (by first | rfl | (simp; done) | (simp [*]; done)), (by first | rfl | (simp; done) | (simp [*]; done)), (by first | rfl | (simp; done) | (simp [*]; done)), H', ⟨by have := HK1.out; have := HK2.out; have := HJ47.out; have := HK4.out; have := HK5.out; have := HK6.out; have := HK7.out; have := HJ156.out; have := HJ159.out; omega⟩, ⟨R_ HO_8⟩, ⟨R_ HO_9⟩, ⟨R_ HO_10⟩, ⟨R_ HO_14⟩, ⟨b_ BK101⟩, ⟨b_ BK102⟩, ⟨b_ BK103⟩, ⟨b_ BK112⟩, ⟨b_ BK139⟩, ⟨by repeat (first | (with_reducible first | exact HB.out | apply below_alloc | apply pw_below_drewN | apply below_drew1 | refine below_set ?_ GE101.out | refine below_set ?_ GE102.out | refine below_set ?_ GE103.out | refine below_set ?_ GE112.out | refine below_set ?_ GE139.out) | exact HB.out)⟩⟩
           rw [if_neg c156] at H
           exact absurd H (by simp)
          rw [if_neg c155] at H
          exact absurd H (by simp)
         rw [if_neg c154] at H
         exact absurd H (by simp)
        rw [if_neg c153] at H
        have c153b0 : decide (x26_7 < (t109.length : Int)) = false := decide_eq_false c153
        clear c153
        by_cases c178 : t138 = 0
        ·rw [if_pos c178] at H
         have c178b0 : (t138 == 0) = true := beq_iff_eq.mpr c178
         have c178b1 : (t138 != 0) = false := bne_eq_false_iff_eq.mpr c178
         clear c178
         by_cases c179 : x140002_6 = true
         ·subst c179
          have H1 : (if x19_7 = t137 then (if t137 = 0 then (if x140000_6 = true then (if x140001_6 = true then (if x18_7 ≥ t137 then ((knownC.f).bind fun _ => (some true)) else (some false)) else ((knownC.f).bind fun _ => (some true))) else (some false)) else (if x140000_6 = true then (some false) else (if x140001_6 = true then (if x18_7 ≥ t137 then ((knownC.f).bind fun _ => (some true)) else (some false)) else ((knownC.f).bind fun _ => (some true))))) else (some false)) = some r := by rw [if_pos rfl] at H; exact H
          clear H
          have H := H1
          clear H1
          by_cases c180 : x19_7 = t137
          ·rw [if_pos c180] at H
           have c180b0 : (x19_7 == t137) = true := beq_iff_eq.mpr c180
           have c180b1 : (x19_7 != t137) = false := bne_eq_false_iff_eq.mpr c180
           clear c180
           by_cases c181 : t137 = 0
           ·rw [if_pos c181] at H
            have c181b0 : (t137 == 0) = true := beq_iff_eq.mpr c181
            have c181b1 : (t137 != 0) = false := bne_eq_false_iff_eq.mpr c181
            clear c181
            by_cases c182 : x140000_6 = true
            ·subst c182
             have H1 : (if x140001_6 = true then (if x18_7 ≥ t137 then ((knownC.f).bind fun _ => (some true)) else (some false)) else ((knownC.f).bind fun _ => (some true))) = some r := by rw [if_pos rfl] at H; exact H
             clear H
             have H := H1
             clear H1
             by_cases c183 : x140001_6 = true
             ·subst c183
              have H1 : (if x18_7 ≥ t137 then ((knownC.f).bind fun _ => (some true)) else (some false)) = some r := by rw [if_pos rfl] at H; exact H
              clear H
              have H := H1
              clear H1
              by_cases c184 : x18_7 ≥ t137
              ·rw [if_pos c184] at H
               have c184b0 : decide (t137 ≤ x18_7) = true := decide_eq_true c184
               clear c184
               replace H := Option.bind_eq_some_iff.mp H
               obtain ⟨_, A1850, H⟩ := H
               replace H : (some true) = some r := H
               have A185 := Aside0.mk A1850
               clear A1850
               obtain rfl := Option.some.inj H
               have hnb186 := NB139_101.out
               have hnc186 := NB101_139.out
               have hnb187 := NB139_102.out
               have hnc187 := NB102_139.out
               have hnb188 := NB139_103.out
               have hnc188 := NB103_139.out
               have hnb189 := NB139_112.out
               have hnc189 := NB112_139.out
               have hcz190_0 : wr.cell? ⟨gb139, 0, none⟩ = some (.bool true) := (blk_cell BK139.out 0).trans rfl
               have hcz190_1 : wr.cell? ⟨gb139, 1, none⟩ = some (.bool true) := (blk_cell BK139.out 1).trans rfl
               have hcz190_2 : wr.cell? ⟨gb139, 2, none⟩ = some (.bool true) := (blk_cell BK139.out 2).trans rfl
               have hfz190_0 := blk_frozen BK139.out 0
               have hfz190_1 := blk_frozen BK139.out 1
               have hfz190_2 := blk_frozen BK139.out 2
               go_wp2_with (first | (go_at_call 13; (with_reducible refine (knownC.calls   _ ?side1 A185.out).mono ?_); (case side1 => exact Hand.TabW.below HTAB.out (by repeat (first | (with_reducible first | exact HB.out | apply below_alloc | apply pw_below_drewN | apply below_drew1 | refine below_set ?_ GE101.out | refine below_set ?_ GE102.out | refine below_set ?_ GE103.out | refine below_set ?_ GE112.out | refine below_set ?_ GE139.out) | exact HB.out))); rintro e w191 ⟨rfl, hb⟩; have n0_ := Aside0.mk (Kd.R_below (R_ HO_8) hb); have n1_ := Aside0.mk (Kd.R_below (R_ HO_9) hb); have n2_ := Aside0.mk (Kd.R_below (R_ HO_10) hb); have n3_ := Aside0.mk (Kd.R_below (R_ HO_14) hb); have n4_ := Aside0.mk (blk_below (g := gb101) (o := .cells #[.int .u8 a0_0, .int .u8 a0_1, .int .u8 a0_2, .int .u8 a0_3, .int .u8 a0_4, .slice A0_5 l0_5.length c0_5] 66 (0, 0)) (b_ BK101) hb); have n5_ := Aside0.mk (blk_below (g := gb102) (o := .cells #[.int .u8 a1_0, .int .u8 a1_1, .int .u8 a1_2, .int .u8 a1_3, .int .u8 a1_4, .int .u8 a1_5] 67 (0, 0)) (b_ BK102) hb); have n6_ := Aside0.mk (blk_below (g := gb103) (o := .cells #[.int .u8 a2_0, .int .u8 a2_1, .int .u8 a2_2, .int .u8 a2_3, .int .u8 a2_4, .int .u8 a2_5] 67 (0, 0)) (b_ BK103) hb); have n7_ := Aside0.mk (blk_below (g := gb112) (o := .cells #[.int .i64 t104, .int .i64 t105, .int .i64 t106, .int .i64 t107, .int .i64 t108] 23 (0, 0)) (b_ BK112) hb); have n8_ := Aside0.mk (blk_below (g := gb139) (o := .cells #[.bool true, .bool true, .bool true] 82 (0, 0)) (b_ BK139) hb); have n9_ := Aside0.mk (below_step (by repeat (first | (with_reducible first | exact HB.out | apply below_alloc | apply pw_below_drewN | apply below_drew1 | refine below_set ?_ GE101.out | refine below_set ?_ GE102.out | refine below_set ?_ GE103.out | refine below_set ?_ GE112.out | refine below_set ?_ GE139.out) | exact HB.out)) hb); clear HO_8; clear HO_9; clear HO_10; clear HO_14; clear BK101; clear BK102; clear BK103; clear BK112; clear BK139; clear HB; have HO_8 := n0_; have HO_9 := n1_; have HO_10 := n2_; have HO_14 := n3_; have BK101 := n4_; have BK102 := n5_; have BK103 := n6_; have BK112 := n7_; have BK139 := n8_; have HB := n9_; clear n0_ n1_ n2_ n3_ n4_ n5_ n6_ n7_ n8_ n9_; (try clear hb); (try clear hb2); (try clear hk); (try clear hi)))
               go_ret
               exact ⟨by first | rfl | (simp [errW_none, errW_some] <;> rfl) | (simp [*, errW_none, errW_some] <;> rfl), by repeat (first | (with_reducible first | exact HB.out | apply below_alloc | apply pw_below_drewN | apply below_drew1 | refine below_set ?_ GE101.out | refine below_set ?_ GE102.out | refine below_set ?_ GE103.out | refine below_set ?_ GE112.out | refine below_set ?_ GE139.out) | exact HB.out)⟩
              rw [if_neg c184] at H
              have c184b0 : decide (t137 ≤ x18_7) = false := decide_eq_false c184
              clear c184
              obtain rfl := Option.some.inj H
              have hnb192 := NB139_101.out
              have hnc192 := NB101_139.out
              have hnb193 := NB139_102.out
              have hnc193 := NB102_139.out
              have hnb194 := NB139_103.out
              have hnc194 := NB103_139.out
              have hnb195 := NB139_112.out
              have hnc195 := NB112_139.out
              have hcz196_0 : wr.cell? ⟨gb139, 0, none⟩ = some (.bool true) := (blk_cell BK139.out 0).trans rfl
              have hcz196_1 : wr.cell? ⟨gb139, 1, none⟩ = some (.bool true) := (blk_cell BK139.out 1).trans rfl
              have hcz196_2 : wr.cell? ⟨gb139, 2, none⟩ = some (.bool true) := (blk_cell BK139.out 2).trans rfl
              have hfz196_0 := blk_frozen BK139.out 0
              have hfz196_1 := blk_frozen BK139.out 1
              have hfz196_2 := blk_frozen BK139.out 2
              go_wp2
              go_ret
              exact ⟨by first | rfl | (simp [errW_none, errW_some] <;> rfl) | (simp [*, errW_none, errW_some] <;> rfl), by repeat (first | (with_reducible first | exact HB.out | apply below_alloc | apply pw_below_drewN | apply below_drew1 | refine below_set ?_ GE101.out | refine below_set ?_ GE102.out | refine below_set ?_ GE103.out | refine below_set ?_ GE112.out | refine below_set ?_ GE139.out) | exact HB.out)⟩
             replace c183 := Bool.eq_false_iff.mpr c183
             subst c183
             have H1 : ((knownC.f).bind fun _ => (some true)) = some r := by rw [if_neg (show ¬ (false = true) by decide)] at H; exact H
             clear H
             have H := H1
             clear H1
             replace H := Option.bind_eq_some_iff.mp H
             obtain ⟨_, A1970, H⟩ := H
             replace H : (some true) = some r := H
             have A197 := Aside0.mk A1970
             clear A1970
             obtain rfl := Option.some.inj H
             have hnb198 := NB139_101.out
             have hnc198 := NB101_139.out
             have hnb199 := NB139_102.out
             have hnc199 := NB102_139.out
             have hnb200 := NB139_103.out
             have hnc200 := NB103_139.out
             have hnb201 := NB139_112.out
             have hnc201 := NB112_139.out
             have hcz202_0 : wr.cell? ⟨gb139, 0, none⟩ = some (.bool true) := (blk_cell BK139.out 0).trans rfl
             have hcz202_1 : wr.cell? ⟨gb139, 1, none⟩ = some (.bool false) := (blk_cell BK139.out 1).trans rfl
             have hcz202_2 : wr.cell? ⟨gb139, 2, none⟩ = some (.bool true) := (blk_cell BK139.out 2).trans rfl
             have hfz202_0 := blk_frozen BK139.out 0
             have hfz202_1 := blk_frozen BK139.out 1
             have hfz202_2 := blk_frozen BK139.out 2
             go_wp2_with (first | (go_at_call 13; (with_reducible refine (knownC.calls   _ ?side1 A197.out).mono ?_); (case side1 => exact Hand.TabW.below HTAB.out (by repeat (first | (with_reducible first | exact HB.out | apply below_alloc | apply pw_below_drewN | apply below_drew1 | refine below_set ?_ GE101.out | refine below_set ?_ GE102.out | refine below_set ?_ GE103.out | refine below_set ?_ GE112.out | refine below_set ?_ GE139.out) | exact HB.out))); rintro e w203 ⟨rfl, hb⟩; have n0_ := Aside0.mk (Kd.R_below (R_ HO_8) hb); have n1_ := Aside0.mk (Kd.R_below (R_ HO_9) hb); have n2_ := Aside0.mk (Kd.R_below (R_ HO_10) hb); have n3_ := Aside0.mk (Kd.R_below (R_ HO_14) hb); have n4_ := Aside0.mk (blk_below (g := gb101) (o := .cells #[.int .u8 a0_0, .int .u8 a0_1, .int .u8 a0_2, .int .u8 a0_3, .int .u8 a0_4, .slice A0_5 l0_5.length c0_5] 66 (0, 0)) (b_ BK101) hb); have n5_ := Aside0.mk (blk_below (g := gb102) (o := .cells #[.int .u8 a1_0, .int .u8 a1_1, .int .u8 a1_2, .int .u8 a1_3, .int .u8 a1_4, .int .u8 a1_5] 67 (0, 0)) (b_ BK102) hb); have n6_ := Aside0.mk (blk_below (g := gb103) (o := .cells #[.int .u8 a2_0, .int .u8 a2_1, .int .u8 a2_2, .int .u8 a2_3, .int .u8 a2_4, .int .u8 a2_5] 67 (0, 0)) (b_ BK103) hb); have n7_ := Aside0.mk (blk_below (g := gb112) (o := .cells #[.int .i64 t104, .int .i64 t105, .int .i64 t106, .int .i64 t107, .int .i64 t108] 23 (0, 0)) (b_ BK112) hb); have n8_ := Aside0.mk (blk_below (g := gb139) (o := .cells #[.bool true, .bool false, .bool true] 82 (0, 0)) (b_ BK139) hb); have n9_ := Aside0.mk (below_step (by repeat (first | (with_reducible first | exact HB.out | apply below_alloc | apply pw_below_drewN | apply below_drew1 | refine below_set ?_ GE101.out | refine below_set ?_ GE102.out | refine below_set ?_ GE103.out | refine below_set ?_ GE112.out | refine below_set ?_ GE139.out) | exact HB.out)) hb); clear HO_8; clear HO_9; clear HO_10; clear HO_14; clear BK101; clear BK102; clear BK103; clear BK112; clear BK139; clear HB; have HO_8 := n0_; have HO_9 := n1_; have HO_10 := n2_; have HO_14 := n3_; have BK101 := n4_; have BK102 := n5_; have BK103 := n6_; have BK112 := n7_; have BK139 := n8_; have HB := n9_; clear n0_ n1_ n2_ n3_ n4_ n5_ n6_ n7_ n8_ n9_; (try clear hb); (try clear hb2); (try clear hk); (try clear hi)))
             go_ret
             exact ⟨by first | rfl | (simp [errW_none, errW_some] <;> rfl) | (simp [*, errW_none, errW_some] <;> rfl), by repeat (first | (with_reducible first | exact HB.out | apply below_alloc | apply pw_below_drewN | apply below_drew1 | refine below_set ?_ GE101.out | refine below_set ?_ GE102.out | refine below_set ?_ GE103.out | refine below_set ?_ GE112.out | refine below_set ?_ GE139.out) | exact HB.out)⟩
            replace c182 := Bool.eq_false_iff.mpr c182
            subst c182
            have H1 : (some false) = some r := by rw [if_neg (show ¬ (false = true) by decide)] at H; exact H
            clear H
            have H := H1
            clear H1
            obtain rfl := Option.some.inj H
            have hnb204 := NB139_101.out
            have hnc204 := NB101_139.out
            have hnb205 := NB139_102.out
            have hnc205 := NB102_139.out
            have hnb206 := NB139_103.out
            have hnc206 := NB103_139.out
            have hnb207 := NB139_112.out
            have hnc207 := NB112_139.out
            have hcz208_0 : wr.cell? ⟨gb139, 0, none⟩ = some (.bool false) := (blk_cell BK139.out 0).trans rfl
            have hcz208_1 : wr.cell? ⟨gb139, 1, none⟩ = some (.bool x140001_6) := (blk_cell BK139.out 1).trans rfl
            have hcz208_2 : wr.cell? ⟨gb139, 2, none⟩ = some (.bool true) := (blk_cell BK139.out 2).trans rfl
            have hfz208_0 := blk_frozen BK139.out 0
            have hfz208_1 := blk_frozen BK139.out 1
            have hfz208_2 := blk_frozen BK139.out 2
            go_wp2
            go_ret
            exact ⟨by first | rfl | (simp [errW_none, errW_some] <;> rfl) | (simp [*, errW_none, errW_some] <;> rfl), by repeat (first | (with_reducible first | exact HB.out | apply below_alloc | apply pw_below_drewN | apply below_drew1 | refine below_set ?_ GE101.out | refine below_set ?_ GE102.out | refine below_set ?_ GE103.out | refine below_set ?_ GE112.out | refine below_set ?_ GE139.out) | exact HB.out)⟩
           rw [if_neg c181] at H
           have c181b0 : (t137 == 0) = false := beq_eq_false_iff_ne.mpr c181
           have c181b1 : (t137 != 0) = true := bne_iff_ne.mpr c181
           by_cases c209 : x140000_6 = true
           ·subst c209
            have H1 : (some false) = some r := by rw [if_pos rfl] at H; exact H
            clear H
            have H := H1
            clear H1
            obtain rfl := Option.some.inj H
            have hnb210 := NB139_101.out
            have hnc210 := NB101_139.out
            have hnb211 := NB139_102.out
            have hnc211 := NB102_139.out
            have hnb212 := NB139_103.out
            have hnc212 := NB103_139.out
            have hnb213 := NB139_112.out
            have hnc213 := NB112_139.out
            have hcz214_0 : wr.cell? ⟨gb139, 0, none⟩ = some (.bool true) := (blk_cell BK139.out 0).trans rfl
            have hcz214_1 : wr.cell? ⟨gb139, 1, none⟩ = some (.bool x140001_6) := (blk_cell BK139.out 1).trans rfl
            have hcz214_2 : wr.cell? ⟨gb139, 2, none⟩ = some (.bool true) := (blk_cell BK139.out 2).trans rfl
            have hfz214_0 := blk_frozen BK139.out 0
            have hfz214_1 := blk_frozen BK139.out 1
            have hfz214_2 := blk_frozen BK139.out 2
            go_wp2
            go_ret
            exact ⟨by first | rfl | (simp [errW_none, errW_some] <;> rfl) | (simp [*, errW_none, errW_some] <;> rfl), by repeat (first | (with_reducible first | exact HB.out | apply below_alloc | apply pw_below_drewN | apply below_drew1 | refine below_set ?_ GE101.out | refine below_set ?_ GE102.out | refine below_set ?_ GE103.out | refine below_set ?_ GE112.out | refine below_set ?_ GE139.out) | exact HB.out)⟩
           replace c209 := Bool.eq_false_iff.mpr c209
           subst c209
           have H1 : (if x140001_6 = true then (if x18_7 ≥ t137 then ((knownC.f).bind fun _ => (some true)) else (some false)) else ((knownC.f).bind fun _ => (some true))) = some r := by rw [if_neg (show ¬ (false = true) by decide)] at H; exact H
           clear H
           have H := H1
           clear H1
           by_cases c215 : x140001_6 = true
           ·subst c215
            have H1 : (if x18_7 ≥ t137 then ((knownC.f).bind fun _ => (some true)) else (some false)) = some r := by rw [if_pos rfl] at H; exact H
            clear H
            have H := H1
            clear H1
            by_cases c216 : x18_7 ≥ t137
            ·rw [if_pos c216] at H
             have c216b0 : decide (t137 ≤ x18_7) = true := decide_eq_true c216
             clear c216
             replace H := Option.bind_eq_some_iff.mp H
             obtain ⟨_, A2170, H⟩ := H
             replace H : (some true) = some r := H
             have A217 := Aside0.mk A2170
             clear A2170
             obtain rfl := Option.some.inj H
             have hnb218 := NB139_101.out
             have hnc218 := NB101_139.out
             have hnb219 := NB139_102.out
             have hnc219 := NB102_139.out
             have hnb220 := NB139_103.out
             have hnc220 := NB103_139.out
             have hnb221 := NB139_112.out
             have hnc221 := NB112_139.out
             have hcz222_0 : wr.cell? ⟨gb139, 0, none⟩ = some (.bool false) := (blk_cell BK139.out 0).trans rfl
             have hcz222_1 : wr.cell? ⟨gb139, 1, none⟩ = some (.bool true) := (blk_cell BK139.out 1).trans rfl
             have hcz222_2 : wr.cell? ⟨gb139, 2, none⟩ = some (.bool true) := (blk_cell BK139.out 2).trans rfl
             have hfz222_0 := blk_frozen BK139.out 0
             have hfz222_1 := blk_frozen BK139.out 1
             have hfz222_2 := blk_frozen BK139.out 2
             go_wp2_with (first | (go_at_call 13; (with_reducible refine (knownC.calls   _ ?side1 A217.out).mono ?_); (case side1 => exact Hand.TabW.below HTAB.out (by repeat (first | (with_reducible first | exact HB.out | apply below_alloc | apply pw_below_drewN | apply below_drew1 | refine below_set ?_ GE101.out | refine below_set ?_ GE102.out | refine below_set ?_ GE103.out | refine below_set ?_ GE112.out | refine below_set ?_ GE139.out) | exact HB.out))); rintro e w223 ⟨rfl, hb⟩; have n0_ := Aside0.mk (Kd.R_below (R_ HO_8) hb); have n1_ := Aside0.mk (Kd.R_below (R_ HO_9) hb); have n2_ := Aside0.mk (Kd.R_below (R_ HO_10) hb); have n3_ := Aside0.mk (Kd.R_below (R_ HO_14) hb); have n4_ := Aside0.mk (blk_below (g := gb101) (o := .cells #[.int .u8 a0_0, .int .u8 a0_1, .int .u8 a0_2, .int .u8 a0_3, .int .u8 a0_4, .slice A0_5 l0_5.length c0_5] 66 (0, 0)) (b_ BK101) hb); have n5_ := Aside0.mk (blk_below (g := gb102) (o := .cells #[.int .u8 a1_0, .int .u8 a1_1, .int .u8 a1_2, .int .u8 a1_3, .int .u8 a1_4, .int .u8 a1_5] 67 (0, 0)) (b_ BK102) hb); have n6_ := Aside0.mk (blk_below (g := gb103) (o := .cells #[.int .u8 a2_0, .int .u8 a2_1, .int .u8 a2_2, .int .u8 a2_3, .int .u8 a2_4, .int .u8 a2_5] 67 (0, 0)) (b_ BK103) hb); have n7_ := Aside0.mk (blk_below (g := gb112) (o := .cells #[.int .i64 t104, .int .i64 t105, .int .i64 t106, .int .i64 t107, .int .i64 t108] 23 (0, 0)) (b_ BK112) hb); have n8_ := Aside0.mk (blk_below (g := gb139) (o := .cells #[.bool false, .bool true, .bool true] 82 (0, 0)) (b_ BK139) hb); have n9_ := Aside0.mk (below_step (by repeat (first | (with_reducible first | exact HB.out | apply below_alloc | apply pw_below_drewN | apply below_drew1 | refine below_set ?_ GE101.out | refine below_set ?_ GE102.out | refine below_set ?_ GE103.out | refine below_set ?_ GE112.out | refine below_set ?_ GE139.out) | exact HB.out)) hb); clear HO_8; clear HO_9; clear HO_10; clear HO_14; clear BK101; clear BK102; clear BK103; clear BK112; clear BK139; clear HB; have HO_8 := n0_; have HO_9 := n1_; have HO_10 := n2_; have HO_14 := n3_; have BK101 := n4_; have BK102 := n5_; have BK103 := n6_; have BK112 := n7_; have BK139 := n8_; have HB := n9_; clear n0_ n1_ n2_ n3_ n4_ n5_ n6_ n7_ n8_ n9_; (try clear hb); (try clear hb2); (try clear hk); (try clear hi)))
             go_ret
             exact ⟨by first | rfl | (simp [errW_none, errW_some] <;> rfl) | (simp [*, errW_none, errW_some] <;> rfl), by repeat (first | (with_reducible first | exact HB.out | apply below_alloc | apply pw_below_drewN | apply below_drew1 | refine below_set ?_ GE101.out | refine below_set ?_ GE102.out | refine below_set ?_ GE103.out | refine below_set ?_ GE112.out | refine below_set ?_ GE139.out) | exact HB.out)⟩
            rw [if_neg c216] at H
            have c216b0 : decide (t137 ≤ x18_7) = false := decide_eq_false c216
            clear c216
            obtain rfl := Option.some.inj H
            have hnb224 := NB139_101.out
            have hnc224 := NB101_139.out
            have hnb225 := NB139_102.out
            have hnc225 := NB102_139.out
            have hnb226 := NB139_103.out
            have hnc226 := NB103_139.out
            have hnb227 := NB139_112.out
            have hnc227 := NB112_139.out
            have hcz228_0 : wr.cell? ⟨gb139, 0, none⟩ = some (.bool false) := (blk_cell BK139.out 0).trans rfl
            have hcz228_1 : wr.cell? ⟨gb139, 1, none⟩ = some (.bool true) := (blk_cell BK139.out 1).trans rfl
            have hcz228_2 : wr.cell? ⟨gb139, 2, none⟩ = some (.bool true) := (blk_cell BK139.out 2).trans rfl
            have hfz228_0 := blk_frozen BK139.out 0
            have hfz228_1 := blk_frozen BK139.out 1
            have hfz228_2 := blk_frozen BK139.out 2
            go_wp2
            go_ret
            exact ⟨by first | rfl | (simp [errW_none, errW_some] <;> rfl) | (simp [*, errW_none, errW_some] <;> rfl), by repeat (first | (with_reducible first | exact HB.out | apply below_alloc | apply pw_below_drewN | apply below_drew1 | refine below_set ?_ GE101.out | refine below_set ?_ GE102.out | refine below_set ?_ GE103.out | refine below_set ?_ GE112.out | refine below_set ?_ GE139.out) | exact HB.out)⟩
           replace c215 := Bool.eq_false_iff.mpr c215
           subst c215
           have H1 : ((knownC.f).bind fun _ => (some true)) = some r := by rw [if_neg (show ¬ (false = true) by decide)] at H; exact H
           clear H
           have H := H1
           clear H1
           replace H := Option.bind_eq_some_iff.mp H
           obtain ⟨_, A2290, H⟩ := H
           replace H : (some true) = some r := H
           have A229 := Aside0.mk A2290
           clear A2290
           obtain rfl := Option.some.inj H
           have hnb230 := NB139_101.out
           have hnc230 := NB101_139.out
           have hnb231 := NB139_102.out
           have hnc231 := NB102_139.out
           have hnb232 := NB139_103.out
           have hnc232 := NB103_139.out
           have hnb233 := NB139_112.out
           have hnc233 := NB112_139.out
           have hcz234_0 : wr.cell? ⟨gb139, 0, none⟩ = some (.bool false) := (blk_cell BK139.out 0).trans rfl
           have hcz234_1 : wr.cell? ⟨gb139, 1, none⟩ = some (.bool false) := (blk_cell BK139.out 1).trans rfl
           have hcz234_2 : wr.cell? ⟨gb139, 2, none⟩ = some (.bool true) := (blk_cell BK139.out 2).trans rfl
           have hfz234_0 := blk_frozen BK139.out 0
           have hfz234_1 := blk_frozen BK139.out 1
           have hfz234_2 := blk_frozen BK139.out 2
           go_wp2_with (first | (go_at_call 13; (with_reducible refine (knownC.calls   _ ?side1 A229.out).mono ?_); (case side1 => exact Hand.TabW.below HTAB.out (by repeat (first | (with_reducible first | exact HB.out | apply below_alloc | apply pw_below_drewN | apply below_drew1 | refine below_set ?_ GE101.out | refine below_set ?_ GE102.out | refine below_set ?_ GE103.out | refine below_set ?_ GE112.out | refine below_set ?_ GE139.out) | exact HB.out))); rintro e w235 ⟨rfl, hb⟩; have n0_ := Aside0.mk (Kd.R_below (R_ HO_8) hb); have n1_ := Aside0.mk (Kd.R_below (R_ HO_9) hb); have n2_ := Aside0.mk (Kd.R_below (R_ HO_10) hb); have n3_ := Aside0.mk (Kd.R_below (R_ HO_14) hb); have n4_ := Aside0.mk (blk_below (g := gb101) (o := .cells #[.int .u8 a0_0, .int .u8 a0_1, .int .u8 a0_2, .int .u8 a0_3, .int .u8 a0_4, .slice A0_5 l0_5.length c0_5] 66 (0, 0)) (b_ BK101) hb); have n5_ := Aside0.mk (blk_below (g := gb102) (o := .cells #[.int .u8 a1_0, .int .u8 a1_1, .int .u8 a1_2, .int .u8 a1_3, .int .u8 a1_4, .int .u8 a1_5] 67 (0, 0)) (b_ BK102) hb); have n6_ := Aside0.mk (blk_below (g := gb103) (o := .cells #[.int .u8 a2_0, .int .u8 a2_1, .int .u8 a2_2, .int .u8 a2_3, .int .u8 a2_4, .int .u8 a2_5] 67 (0, 0)) (b_ BK103) hb); have n7_ := Aside0.mk (blk_below (g := gb112) (o := .cells #[.int .i64 t104, .int .i64 t105, .int .i64 t106, .int .i64 t107, .int .i64 t108] 23 (0, 0)) (b_ BK112) hb); have n8_ := Aside0.mk (blk_below (g := gb139) (o := .cells #[.bool false, .bool false, .bool true] 82 (0, 0)) (b_ BK139) hb); have n9_ := Aside0.mk (below_step (by repeat (first | (with_reducible first | exact HB.out | apply below_alloc | apply pw_below_drewN | apply below_drew1 | refine below_set ?_ GE101.out | refine below_set ?_ GE102.out | refine below_set ?_ GE103.out | refine below_set ?_ GE112.out | refine below_set ?_ GE139.out) | exact HB.out)) hb); clear HO_8; clear HO_9; clear HO_10; clear HO_14; clear BK101; clear BK102; clear BK103; clear BK112; clear BK139; clear HB; have HO_8 := n0_; have HO_9 := n1_; have HO_10 := n2_; have HO_14 := n3_; have BK101 := n4_; have BK102 := n5_; have BK103 := n6_; have BK112 := n7_; have BK139 := n8_; have HB := n9_; clear n0_ n1_ n2_ n3_ n4_ n5_ n6_ n7_ n8_ n9_; (try clear hb); (try clear hb2); (try clear hk); (try clear hi)))
           go_ret
           exact ⟨by first | rfl | (simp [errW_none, errW_some] <;> rfl) | (simp [*, errW_none, errW_some] <;> rfl), by repeat (first | (with_reducible first | exact HB.out | apply below_alloc | apply pw_below_drewN | apply below_drew1 | refine below_set ?_ GE101.out | refine below_set ?_ GE102.out | refine below_set ?_ GE103.out | refine below_set ?_ GE112.out | refine below_set ?_ GE139.out) | exact HB.out)⟩
          rw [if_neg c180] at H
          have c180b0 : (x19_7 == t137) = false := beq_eq_false_iff_ne.mpr c180
          have c180b1 : (x19_7 != t137) = true := bne_iff_ne.mpr c180
          obtain rfl := Option.some.inj H
          have hnb236 := NB139_101.out
          have hnc236 := NB101_139.out
          have hnb237 := NB139_102.out
          have hnc237 := NB102_139.out
          have hnb238 := NB139_103.out
          have hnc238 := NB103_139.out
          have hnb239 := NB139_112.out
          have hnc239 := NB112_139.out
          have hcz240_0 : wr.cell? ⟨gb139, 0, none⟩ = some (.bool x140000_6) := (blk_cell BK139.out 0).trans rfl
          have hcz240_1 : wr.cell? ⟨gb139, 1, none⟩ = some (.bool x140001_6) := (blk_cell BK139.out 1).trans rfl
          have hcz240_2 : wr.cell? ⟨gb139, 2, none⟩ = some (.bool true) := (blk_cell BK139.out 2).trans rfl
          have hfz240_0 := blk_frozen BK139.out 0
          have hfz240_1 := blk_frozen BK139.out 1
          have hfz240_2 := blk_frozen BK139.out 2
          go_wp2
          go_ret
          exact ⟨by first | rfl | (simp [errW_none, errW_some] <;> rfl) | (simp [*, errW_none, errW_some] <;> rfl), by repeat (first | (with_reducible first | exact HB.out | apply below_alloc | apply pw_below_drewN | apply below_drew1 | refine below_set ?_ GE101.out | refine below_set ?_ GE102.out | refine below_set ?_ GE103.out | refine below_set ?_ GE112.out | refine below_set ?_ GE139.out) | exact HB.out)⟩
         replace c179 := Bool.eq_false_iff.mpr c179
         subst c179
         have H1 : (some false) = some r := by rw [if_neg (show ¬ (false = true) by decide)] at H; exact H
         clear H
         have H := H1
         clear H1
         obtain rfl := Option.some.inj H
         have hnb241 := NB139_101.out
         have hnc241 := NB101_139.out
         have hnb242 := NB139_102.out
         have hnc242 := NB102_139.out
         have hnb243 := NB139_103.out
         have hnc243 := NB103_139.out
         have hnb244 := NB139_112.out
         have hnc244 := NB112_139.out
         have hcz245_0 : wr.cell? ⟨gb139, 0, none⟩ = some (.bool x140000_6) := (blk_cell BK139.out 0).trans rfl
         have hcz245_1 : wr.cell? ⟨gb139, 1, none⟩ = some (.bool x140001_6) := (blk_cell BK139.out 1).trans rfl
         have hcz245_2 : wr.cell? ⟨gb139, 2, none⟩ = some (.bool false) := (blk_cell BK139.out 2).trans rfl
         have hfz245_0 := blk_frozen BK139.out 0
         have hfz245_1 := blk_frozen BK139.out 1
         have hfz245_2 := blk_frozen BK139.out 2
         go_wp2
         go_ret
         exact ⟨by first | rfl | (simp [errW_none, errW_some] <;> rfl) | (simp [*, errW_none, errW_some] <;> rfl), by repeat (first | (with_reducible first | exact HB.out | apply below_alloc | apply pw_below_drewN | apply below_drew1 | refine below_set ?_ GE101.out | refine below_set ?_ GE102.out | refine below_set ?_ GE103.out | refine below_set ?_ GE112.out | refine below_set ?_ GE139.out) | exact HB.out)⟩
        rw [if_neg c178] at H
        have c178b0 : (t138 == 0) = false := beq_eq_false_iff_ne.mpr c178
        have c178b1 : (t138 != 0) = true := bne_iff_ne.mpr c178
        by_cases c246 : x140000_6 = true
        ·subst c246
         have H1 : (some false) = some r := by rw [if_pos rfl] at H; exact H
         clear H
         have H := H1
         clear H1
         obtain rfl := Option.some.inj H
         have hnb247 := NB139_101.out
         have hnc247 := NB101_139.out
         have hnb248 := NB139_102.out
         have hnc248 := NB102_139.out
         have hnb249 := NB139_103.out
         have hnc249 := NB103_139.out
         have hnb250 := NB139_112.out
         have hnc250 := NB112_139.out
         have hcz251_0 : wr.cell? ⟨gb139, 0, none⟩ = some (.bool true) := (blk_cell BK139.out 0).trans rfl
         have hcz251_1 : wr.cell? ⟨gb139, 1, none⟩ = some (.bool x140001_6) := (blk_cell BK139.out 1).trans rfl
         have hcz251_2 : wr.cell? ⟨gb139, 2, none⟩ = some (.bool x140002_6) := (blk_cell BK139.out 2).trans rfl
         have hfz251_0 := blk_frozen BK139.out 0
         have hfz251_1 := blk_frozen BK139.out 1
         have hfz251_2 := blk_frozen BK139.out 2
         go_wp2
         go_ret
         exact ⟨by first | rfl | (simp [errW_none, errW_some] <;> rfl) | (simp [*, errW_none, errW_some] <;> rfl), by repeat (first | (with_reducible first | exact HB.out | apply below_alloc | apply pw_below_drewN | apply below_drew1 | refine below_set ?_ GE101.out | refine below_set ?_ GE102.out | refine below_set ?_ GE103.out | refine below_set ?_ GE112.out | refine below_set ?_ GE139.out) | exact HB.out)⟩
        replace c246 := Bool.eq_false_iff.mpr c246
        subst c246
        have H1 : (if x140001_6 = true then (some false) else ((knownC.f).bind fun _ => (some true))) = some r := by rw [if_neg (show ¬ (false = true) by decide)] at H; exact H
        clear H
        have H := H1
        clear H1
        by_cases c252 : x140001_6 = true
        ·subst c252
         have H1 : (some false) = some r := by rw [if_pos rfl] at H; exact H
         clear H
         have H := H1
         clear H1
         obtain rfl := Option.some.inj H
         have hnb253 := NB139_101.out
         have hnc253 := NB101_139.out
         have hnb254 := NB139_102.out
         have hnc254 := NB102_139.out
         have hnb255 := NB139_103.out
         have hnc255 := NB103_139.out
         have hnb256 := NB139_112.out
         have hnc256 := NB112_139.out
         have hcz257_0 : wr.cell? ⟨gb139, 0, none⟩ = some (.bool false) := (blk_cell BK139.out 0).trans rfl
         have hcz257_1 : wr.cell? ⟨gb139, 1, none⟩ = some (.bool true) := (blk_cell BK139.out 1).trans rfl
         have hcz257_2 : wr.cell? ⟨gb139, 2, none⟩ = some (.bool x140002_6) := (blk_cell BK139.out 2).trans rfl
         have hfz257_0 := blk_frozen BK139.out 0
         have hfz257_1 := blk_frozen BK139.out 1
         have hfz257_2 := blk_frozen BK139.out 2
         go_wp2
         go_ret
         exact ⟨by first | rfl | (simp [errW_none, errW_some] <;> rfl) | (simp [*, errW_none, errW_some] <;> rfl), by repeat (first | (with_reducible first | exact HB.out | apply below_alloc | apply pw_below_drewN | apply below_drew1 | refine below_set ?_ GE101.out | refine below_set ?_ GE102.out | refine below_set ?_ GE103.out | refine below_set ?_ GE112.out | refine below_set ?_ GE139.out) | exact HB.out)⟩
        replace c252 := Bool.eq_false_iff.mpr c252
        subst c252
        have H1 : ((knownC.f).bind fun _ => (some true)) = some r := by rw [if_neg (show ¬ (false = true) by decide)] at H; exact H
        clear H
        have H := H1
        clear H1
        replace H := Option.bind_eq_some_iff.mp H
        obtain ⟨_, A2580, H⟩ := H
        replace H : (some true) = some r := H
        have A258 := Aside0.mk A2580
        clear A2580
        obtain rfl := Option.some.inj H
        have hnb259 := NB139_101.out
        have hnc259 := NB101_139.out
        have hnb260 := NB139_102.out
        have hnc260 := NB102_139.out
        have hnb261 := NB139_103.out
        have hnc261 := NB103_139.out
        have hnb262 := NB139_112.out
        have hnc262 := NB112_139.out
        have hcz263_0 : wr.cell? ⟨gb139, 0, none⟩ = some (.bool false) := (blk_cell BK139.out 0).trans rfl
        have hcz263_1 : wr.cell? ⟨gb139, 1, none⟩ = some (.bool false) := (blk_cell BK139.out 1).trans rfl
        have hcz263_2 : wr.cell? ⟨gb139, 2, none⟩ = some (.bool x140002_6) := (blk_cell BK139.out 2).trans rfl
        have hfz263_0 := blk_frozen BK139.out 0
        have hfz263_1 := blk_frozen BK139.out 1
        have hfz263_2 := blk_frozen BK139.out 2
        go_wp2_with (first | (go_at_call 13; (with_reducible refine (knownC.calls   _ ?side1 A258.out).mono ?_); (case side1 => exact Hand.TabW.below HTAB.out (by repeat (first | (with_reducible first | exact HB.out | apply below_alloc | apply pw_below_drewN | apply below_drew1 | refine below_set ?_ GE101.out | refine below_set ?_ GE102.out | refine below_set ?_ GE103.out | refine below_set ?_ GE112.out | refine below_set ?_ GE139.out) | exact HB.out))); rintro e w264 ⟨rfl, hb⟩; have n0_ := Aside0.mk (Kd.R_below (R_ HO_8) hb); have n1_ := Aside0.mk (Kd.R_below (R_ HO_9) hb); have n2_ := Aside0.mk (Kd.R_below (R_ HO_10) hb); have n3_ := Aside0.mk (Kd.R_below (R_ HO_14) hb); have n4_ := Aside0.mk (blk_below (g := gb101) (o := .cells #[.int .u8 a0_0, .int .u8 a0_1, .int .u8 a0_2, .int .u8 a0_3, .int .u8 a0_4, .slice A0_5 l0_5.length c0_5] 66 (0, 0)) (b_ BK101) hb); have n5_ := Aside0.mk (blk_below (g := gb102) (o := .cells #[.int .u8 a1_0, .int .u8 a1_1, .int .u8 a1_2, .int .u8 a1_3, .int .u8 a1_4, .int .u8 a1_5] 67 (0, 0)) (b_ BK102) hb); have n6_ := Aside0.mk (blk_below (g := gb103) (o := .cells #[.int .u8 a2_0, .int .u8 a2_1, .int .u8 a2_2, .int .u8 a2_3, .int .u8 a2_4, .int .u8 a2_5] 67 (0, 0)) (b_ BK103) hb); have n7_ := Aside0.mk (blk_below (g := gb112) (o := .cells #[.int .i64 t104, .int .i64 t105, .int .i64 t106, .int .i64 t107, .int .i64 t108] 23 (0, 0)) (b_ BK112) hb); have n8_ := Aside0.mk (blk_below (g := gb139) (o := .cells #[.bool false, .bool false, .bool x140002_6] 82 (0, 0)) (b_ BK139) hb); have n9_ := Aside0.mk (below_step (by repeat (first | (with_reducible first | exact HB.out | apply below_alloc | apply pw_below_drewN | apply below_drew1 | refine below_set ?_ GE101.out | refine below_set ?_ GE102.out | refine below_set ?_ GE103.out | refine below_set ?_ GE112.out | refine below_set ?_ GE139.out) | exact HB.out)) hb); clear HO_8; clear HO_9; clear HO_10; clear HO_14; clear BK101; clear BK102; clear BK103; clear BK112; clear BK139; clear HB; have HO_8 := n0_; have HO_9 := n1_; have HO_10 := n2_; have HO_14 := n3_; have BK101 := n4_; have BK102 := n5_; have BK103 := n6_; have BK112 := n7_; have BK139 := n8_; have HB := n9_; clear n0_ n1_ n2_ n3_ n4_ n5_ n6_ n7_ n8_ n9_; (try clear hb); (try clear hb2); (try clear hk); (try clear hi)))
        go_ret
        exact ⟨by first | rfl | (simp [errW_none, errW_some] <;> rfl) | (simp [*, errW_none, errW_some] <;> rfl), by repeat (first | (with_reducible first | exact HB.out | apply below_alloc | apply pw_below_drewN | apply below_drew1 | refine below_set ?_ GE101.out | refine below_set ?_ GE102.out | refine below_set ?_ GE103.out | refine below_set ?_ GE112.out | refine below_set ?_ GE139.out) | exact HB.out)⟩
end Go.Proofs.YtbijamlgcebgeaaDoor.Q
-- part PK
namespace Go.Proofs.YtbijamlgcebgeaaDoor.Hand
open Go.RowKit Go.Shelf Go.Sort Go.Proofs.YtbijamlgcebgeaaDoorW.PrintWords Go.Proofs.YtbijamlgcebgeaaDoorW.PrintMore Go.Proofs.YtbijamlgcebgeaaDoor.Q
theorem bytes_six {a0 a1 a2 a3 a4 a5 : Int} (b0 : byteB a0 = true) (b1 : byteB a1 = true) (b2 : byteB a2 = true) (b3 : byteB a3 = true) (b4 : byteB a4 = true) (b5 : byteB a5 = true) : ∀ y ∈ [a0, a1, a2, a3, a4, a5], 0 ≤ y ∧ y < 256 := by
  intro z hz
  simp only [List.mem_cons, List.not_mem_nil, or_false] at hz
  rcases hz with rfl | rfl | rfl | rfl | rfl | rfl
  · exact (byteB_iff _).1 b0
  · exact (byteB_iff _).1 b1
  · exact (byteB_iff _).1 b2
  · exact (byteB_iff _).1 b3
  · exact (byteB_iff _).1 b4
  · exact (byteB_iff _).1 b5
theorem putright_calls {W : World} (y : S63) (A : Option Addr) (l : List S63) (c : Nat) (h0 : okB5 y = true) (h1 : ∀ x ∈ l, okB5 x = true) (hc : l.length ≤ c) (hr : Kd.C k63 W A l.length l) (a0 a1 a2 a3 a4 a5 : Int) (b0 : byteB a0 = true) (b1 : byteB a1 = true) (b2 : byteB a2 = true) (b3 : byteB a3 = true) (b4 : byteB a4 = true) (b5 : byteB a5 = true) (d0 d1 d2 d3 d4 d5 : Int) (e0 : byteB d0 = true) (e1 : byteB d1 = true) (e2 : byteB d2 = true) (e3 : byteB d3 = true) (e4 : byteB d4 = true) (e5 : byteB d5 = true) (hT : TabW W) :
    Calls Tryd.prog 12 #[.agg #[.int .u8 y.f0, .int .u8 y.f1, .int .u8 y.f2, .int .u8 y.f3, .int .u8 y.f4, .slice A l.length c], .agg #[.int .u8 a0, .int .u8 a1, .int .u8 a2, .int .u8 a3, .int .u8 a4, .int .u8 a5], .agg #[.int .u8 d0, .int .u8 d1, .int .u8 d2, .int .u8 d3, .int .u8 d4, .int .u8 d5]] W fun e W' => e = .returned (.bool true) ∧ Below W.heap.size W W' :=
  lP.calls 400 y.f0 y.f1 y.f2 y.f3 y.f4 A c l a0 a1 a2 a3 a4 a5 d0 d1 d2 d3 d4 d5 true W hT hr hc (put_pure h0 h1 (bytes_six b0 b1 b2 b3 b4 b5) (bytes_six e0 e1 e2 e3 e4 e5))
end Go.Proofs.YtbijamlgcebgeaaDoor.Hand

/- ForkRight: the law returns true for every input; each argument reads behind the call as it read before (for worlds in which the two tables of the library hold what its initialisers lay). Part 2 of 7. -/
import Derived.Test.YtbijamlgcebgeaaDoorR1
set_option linter.unusedVariables false
set_option linter.unusedSimpArgs false
-- part SO0
namespace Go.Proofs.YtbijamlgcebgeaaDoor.Q
open Go.RowKit Go.Proofs.YtbijamlgcebgeaaDoorW.PrintWords Go.Proofs.YtbijamlgcebgeaaDoorW.PrintLast Go.Proofs.YtbijamlgcebgeaaDoorW.PrintMore
attribute [local go_sem] max2_int min2_int max_two min_two max_three min_three max_four min_four
attribute [local go_sem high] eqA36
set_option maxHeartbeats 8000000 in
set_option maxRecDepth 100000 in
noncomputable def lR.c0 : {G : Prop × Prop × Prop × Prop × Prop × Prop // G.1 → G.2.1 → G.2.2.1 → G.2.2.2.1 → G.2.2.2.2.1 → G.2.2.2.2.2 → ∀ (k : Nat) (a0_0 : Int) (a0_1 : Int) (a0_2 : Int) (a0_3 : Int) (a0_4 : Int) (A0_5 : Option Addr) (c0_5 : Nat) (l0_5 : List (S63)) (a1 : Int) (a2_0 : Int) (a2_1 : Int) (a2_2 : Int) (a2_3 : Int) (a2_4 : Int) (a2_5 : Int) (r : Bool) (w : World) (hT : Hand.TabW w) (hr0_5 : Kd.C k63 w A0_5 l0_5.length l0_5) (hc0_5 : l0_5.length ≤ c0_5) (h : lR.f k a0_0 a0_1 a0_2 a0_3 a0_4 l0_5 a1 a2_0 a2_1 a2_2 a2_3 a2_4 a2_5 = some r), Calls Tryd.prog 8 #[.agg #[.int .u8 a0_0, .int .u8 a0_1, .int .u8 a0_2, .int .u8 a0_3, .int .u8 a0_4, .slice A0_5 l0_5.length c0_5], .int .u8 a1, .agg #[.int .u8 a2_0, .int .u8 a2_1, .int .u8 a2_2, .int .u8 a2_3, .int .u8 a2_4, .int .u8 a2_5]] w fun e w' => e = .returned (.bool r) ∧ Below w.heap.size w w'} := by
 refine ⟨(?_, ?_, ?_, ?_, ?_, ?_), ?_⟩
 rotate_left 6
 case refine_7 =>
  intro hG0_ hG1_ hG2_ hG3_ hG4_ hG5_
  replace hG0_ : Aside0 (True → _) := ⟨fun _ => hG0_⟩
  replace hG1_ : Aside0 (True → _) := ⟨fun _ => hG1_⟩
  replace hG2_ : Aside0 (True → _) := ⟨fun _ => hG2_⟩
  replace hG3_ : Aside0 (True → _) := ⟨fun _ => hG3_⟩
  replace hG4_ : Aside0 (True → _) := ⟨fun _ => hG4_⟩
  replace hG5_ : Aside0 (True → _) := ⟨fun _ => hG5_⟩
  intro k a0_0 a0_1 a0_2 a0_3 a0_4 A0_5 c0_5 l0_5 a1 a2_0 a2_1 a2_2 a2_3 a2_4 a2_5 r w hT hr0_5 hc0_5 h
  have hu66 := Tryd.underlying66
  have hu67 := Tryd.underlying67
  have hu23 := Tryd.underlying23
  have hu36 := Tryd.underlying36
  have HTAB := Aside0.mk hT
  clear hT
  have HR0_5 := Aside0.mk hr0_5
  have HC0_5 := Aside0.mk hc0_5
  clear hr0_5 hc0_5
  have HB := Aside0.mk (Below.refl w.heap.size w)
  have H : ((smaltolaw03_Rack_made.f a0_0 a0_1 a0_2 a0_3 a0_4 l0_5).bind fun bt103 => ((smaltolaw03_chosen.f k bt103.2.2.2.2.2 a1).bind fun t112 => (lR.l0 k bt103.2.2.2.2.2 t112 (([] : List Int)) 0 a2_0 a2_1 a2_2 a2_3 a2_4 a2_5 bt103.1 bt103.2.1 bt103.2.2.1 bt103.2.2.2.1 bt103.2.2.2.2.1))) = some r := h
  clear h
  replace H := Option.bind_eq_some_iff.mp H
  obtain ⟨⟨t103, t104, t105, t106, t107, t108⟩, A40, H⟩ := H
  replace H : ((smaltolaw03_chosen.f k t108 a1).bind fun t112 => (lR.l0 k t108 t112 (([] : List Int)) 0 a2_0 a2_1 a2_2 a2_3 a2_4 a2_5 t103 t104 t105 t106 t107)) = some r := H
  have A4 := Aside0.mk A40
  clear A40
  replace H := Option.bind_eq_some_iff.mp H
  obtain ⟨t112, A50, H⟩ := H
  replace H : (lR.l0 k t108 t112 (([] : List Int)) 0 a2_0 a2_1 a2_2 a2_3 a2_4 a2_5 t103 t104 t105 t106 t107) = some r := H
  have A5 := Aside0.mk A50
  clear A50
  obtain ⟨y115, hy115⟩ : ∃ y_ : List Int, y_ = (([] : List Int)) := ⟨_, rfl⟩
  replace H : (lR.l0 k t108 t112 y115 0 a2_0 a2_1 a2_2 a2_3 a2_4 a2_5 t103 t104 t105 t106 t107) = some r := by first | (rw [hy115]; with_reducible exact H) | (have H2_ := (Option.bind_some _ _).symm.trans H; rw [hy115]; with_reducible exact H2_) | (have H2_ := (Option.bind_some _ _).symm.trans H; with_reducible exact H2_) | with_reducible exact H | (rw [hy115]; exact H) | exact H
  have Ny115 := Aside0.mk hy115
  clear hy115
  have H' := Aside0.mk H
  clear H
  go_enter Tryd.func8, Tryd.ntmps8
  go_wp2_with (first | ((with_reducible refine gate_dst (N := 3) rfl ?_); (try (refine gate_guard (by rfl) ?_; dsimp only)); refine box_event ?hg (N := 3) ?hd (cs := #[.int .u8 a0_0, .int .u8 a0_1, .int .u8 a0_2, .int .u8 a0_3, .int .u8 a0_4, .slice A0_5 l0_5.length c0_5]) (t := 66) ?hr ?_; (case hd => rfl); (case hg => rfl); (case hr => first | (go_simp; done) | (go_simp; rfl)); intro gb101 hg w6 hbox hb; have n0_ := Aside0.mk (below_step (Bq HB) hb); have n1_ := Aside0.mk (hbox); have n2_ := Aside0.mk ((by rw [hg]; exact (below_size (Bq HB)) : w.heap.size ≤ gb101)); have n3_ := Aside0.mk ((by rw [hg]; exact (below_size (Bq HB)) : w.heap.size ≤ gb101)); clear HB; have HB := n0_; have BK101 := n1_; have GW101 := n2_; have GE101 := n3_; clear n0_ n1_ n2_ n3_; clear hb hbox hg) | ((with_reducible refine gate_dst (N := 5) rfl ?_); (try (refine gate_guard (by rfl) ?_; dsimp only)); refine box_event ?hg (N := 5) ?hd (cs := #[.int .u8 a2_0, .int .u8 a2_1, .int .u8 a2_2, .int .u8 a2_3, .int .u8 a2_4, .int .u8 a2_5]) (t := 67) ?hr ?_; (case hd => rfl); (case hg => rfl); (case hr => first | (go_simp; done) | (go_simp; rfl)); intro gb102 hg w7 hbox hb; have n0_ := bb BK101 hb; have n1_ := Aside0.mk (below_step (Bq HB) hb); have n2_ := Aside0.mk (hbox); have n3_ := Aside0.mk ((by rw [hg]; exact (below_size (Bq HB)) : w.heap.size ≤ gb102)); have n4_ := Aside0.mk ((by rw [hg]; exact (below_size (Bq HB)) : w.heap.size ≤ gb102)); have n5_ := Aside0.mk ((by rw [hg]; exact Nat.ne_of_lt (blk_lt (g := gb101) (o := .cells #[.int .u8 a0_0, .int .u8 a0_1, .int .u8 a0_2, .int .u8 a0_3, .int .u8 a0_4, .slice A0_5 l0_5.length c0_5] 66 (0, 0)) (b_ BK101)) : gb101 ≠ gb102)); have n6_ := Aside0.mk ((by rw [hg]; exact Nat.ne_of_gt (blk_lt (g := gb101) (o := .cells #[.int .u8 a0_0, .int .u8 a0_1, .int .u8 a0_2, .int .u8 a0_3, .int .u8 a0_4, .slice A0_5 l0_5.length c0_5] 66 (0, 0)) (b_ BK101)) : gb102 ≠ gb101)); clear BK101; clear HB; have BK101 := n0_; have HB := n1_; have BK102 := n2_; have GW102 := n3_; have GE102 := n4_; have NB101_102 := n5_; have NB102_101 := n6_; clear n0_ n1_ n2_ n3_ n4_ n5_ n6_; clear hb hbox hg; have hnb8 := NB101_102.out; have hnc8 := NB102_101.out; have hcz9_0 : w7.cell? ⟨gb101, 0, none⟩ = some (.int .u8 a0_0) := kc BK101 0; have hcz9_1 : w7.cell? ⟨gb101, 1, none⟩ = some (.int .u8 a0_1) := kc BK101 1; have hcz9_2 : w7.cell? ⟨gb101, 2, none⟩ = some (.int .u8 a0_2) := kc BK101 2; have hcz9_3 : w7.cell? ⟨gb101, 3, none⟩ = some (.int .u8 a0_3) := kc BK101 3; have hcz9_4 : w7.cell? ⟨gb101, 4, none⟩ = some (.int .u8 a0_4) := kc BK101 4; have hcz9_5 : w7.cell? ⟨gb101, 5, none⟩ = some (.slice A0_5 l0_5.length c0_5) := kc BK101 5; have hfz9_0 := blk_frozen BK101.out 0; have hfz9_1 := blk_frozen BK101.out 1; have hfz9_2 := blk_frozen BK101.out 2; have hfz9_3 := blk_frozen BK101.out 3; have hfz9_4 := blk_frozen BK101.out 4; have hfz9_5 := blk_frozen BK101.out 5) | ((with_reducible refine gate_callee (f := 41) rfl ?_); refine goesL_ (some 31) rfl rfl Tryd.func41 (by kernel_rfl) rfl #[.agg #[.int .u8 a0_0, .int .u8 a0_1, .int .u8 a0_2, .int .u8 a0_3, .int .u8 a0_4, .slice A0_5 l0_5.length c0_5]] rfl (by (try simp only [List.map_toArray, List.map_cons, List.map_nil]); first | done | rfl | (simp only [List.length_drop, List.length_take]; rfl)) ?_; (with_reducible refine (smaltolaw03_Rack_made.calls a0_0 a0_1 a0_2 a0_3 a0_4 _ _ l0_5 t103 t104 t105 t106 t107 t108 _ ?side1 ?side2 A4.out).mono ?_); (case side1 => repeat (first | exact (Kd.C_below HR0_5.out HB.out) | (with_reducible refine Kd.C_alloc ?_ _) | (with_reducible refine Kd.C_drewN ?_ _) | (with_reducible refine Kd.C_drew ?_))); (case side2 => exact HC0_5.out); rintro e w10 ⟨v109, rfl, ho0, hb⟩; refine ⟨_, rfl, ?_⟩; have n0_ := Aside0.mk (Kd.R_lower ho0 (below_size (Bq HB))); have n1_ := bb BK101 hb; have n2_ := bb BK102 hb; have n3_ := Aside0.mk (below_step (Bq HB) hb); clear BK101; clear BK102; clear HB; have HO110 := n0_; have BK101 := n1_; have BK102 := n2_; have HB := n3_; clear n0_ n1_ n2_ n3_; (try clear hb); (try clear hb2); (try clear hk); (try clear hi); (try clear ho0)) | ((with_reducible refine gate_dst (N := 7) rfl ?_); (try (refine gate_guard (by rfl) ?_; dsimp only)); refine box_event ?hg (N := 7) ?hd (cs := #[.int .i64 0, .int .i64 0, .int .i64 0, .int .i64 0, .int .i64 0]) (t := 23) ?hr ?_; (case hd => rfl); (case hg => rfl); (case hr => first | (go_simp; done) | (go_simp; rfl)); intro gb111 hg w11 hbox hb; have n0_ := RB HO110 hb; have n1_ := bb BK101 hb; have n2_ := bb BK102 hb; have n3_ := Aside0.mk (below_step (Bq HB) hb); have n4_ := Aside0.mk (hbox); have n5_ := Aside0.mk ((by rw [hg]; exact (below_size (Bq HB)) : w.heap.size ≤ gb111)); have n6_ := Aside0.mk ((by rw [hg]; exact (below_size (Bq HB)) : w.heap.size ≤ gb111)); have n7_ := Aside0.mk ((by rw [hg]; exact Nat.ne_of_lt (blk_lt (g := gb101) (o := .cells #[.int .u8 a0_0, .int .u8 a0_1, .int .u8 a0_2, .int .u8 a0_3, .int .u8 a0_4, .slice A0_5 l0_5.length c0_5] 66 (0, 0)) (b_ BK101)) : gb101 ≠ gb111)); have n8_ := Aside0.mk ((by rw [hg]; exact Nat.ne_of_gt (blk_lt (g := gb101) (o := .cells #[.int .u8 a0_0, .int .u8 a0_1, .int .u8 a0_2, .int .u8 a0_3, .int .u8 a0_4, .slice A0_5 l0_5.length c0_5] 66 (0, 0)) (b_ BK101)) : gb111 ≠ gb101)); have n9_ := Aside0.mk ((by rw [hg]; exact Nat.ne_of_lt (blk_lt (g := gb102) (o := .cells #[.int .u8 a2_0, .int .u8 a2_1, .int .u8 a2_2, .int .u8 a2_3, .int .u8 a2_4, .int .u8 a2_5] 67 (0, 0)) (b_ BK102)) : gb102 ≠ gb111)); have n10_ := Aside0.mk ((by rw [hg]; exact Nat.ne_of_gt (blk_lt (g := gb102) (o := .cells #[.int .u8 a2_0, .int .u8 a2_1, .int .u8 a2_2, .int .u8 a2_3, .int .u8 a2_4, .int .u8 a2_5] 67 (0, 0)) (b_ BK102)) : gb111 ≠ gb102)); clear HO110; clear BK101; clear BK102; clear HB; have HO110 := n0_; have BK101 := n1_; have BK102 := n2_; have HB := n3_; have BK111 := n4_; have GW111 := n5_; have GE111 := n6_; have NB101_111 := n7_; have NB111_101 := n8_; have NB102_111 := n9_; have NB111_102 := n10_; clear n0_ n1_ n2_ n3_ n4_ n5_ n6_ n7_ n8_ n9_ n10_; clear hb hbox hg; have hnb12 := NB111_101.out; have hnc12 := NB101_111.out; have hnb13 := NB111_102.out; have hnc13 := NB102_111.out; have hcz14_0 : w11.cell? ⟨gb111, 0, none⟩ = some (.int .i64 0) := kc BK111 0; have hcz14_1 : w11.cell? ⟨gb111, 1, none⟩ = some (.int .i64 0) := kc BK111 1; have hcz14_2 : w11.cell? ⟨gb111, 2, none⟩ = some (.int .i64 0) := kc BK111 2; have hcz14_3 : w11.cell? ⟨gb111, 3, none⟩ = some (.int .i64 0) := kc BK111 3; have hcz14_4 : w11.cell? ⟨gb111, 4, none⟩ = some (.int .i64 0) := kc BK111 4; have hfz14_0 := blk_frozen BK111.out 0; have hfz14_1 := blk_frozen BK111.out 1; have hfz14_2 := blk_frozen BK111.out 2; have hfz14_3 := blk_frozen BK111.out 3; have hfz14_4 := blk_frozen BK111.out 4; obtain ⟨Ao15, co15, eo15⟩ := Kd.R_slice HO110.out; subst eo15) | ((with_reducible refine gate_callee (f := 42) rfl ?_); refine goesL_ (some 36) rfl rfl Tryd.func42 (by kernel_rfl) rfl #[.slice Ao15 t108.length co15, .int .u8 a1] rfl (by (try simp only [List.map_toArray, List.map_cons, List.map_nil]); first | done | rfl | (simp only [List.length_drop, List.length_take]; rfl)) ?_; (with_reducible refine (smaltolaw03_chosen.calls k _ _ t108 a1 t112 _ ?side1 ?side2 A5.out).mono ?_); (case side1 => refine (Kd.R_reads' (e := 74) (base := w.heap.size) (ok := fun k_ => True) (n := t108.length) (c := co15) ?_).2.2; exact (by (with_reducible repeat (first | apply Kd.R_alloc | apply Kd.R_drewN | apply Kd.R_drew)); exact (Kd.R_mono (Kd.R_far (p := ⟨gb111, 4, none⟩) (Kd.R_far (p := ⟨gb111, 3, none⟩) (Kd.R_far (p := ⟨gb111, 2, none⟩) (Kd.R_far (p := ⟨gb111, 1, none⟩) (Kd.R_far (p := ⟨gb111, 0, none⟩) (Kd.R_types HO110.out BK111.out (by decide)) (fun _ hk => hk.2) (.int .i64 t103)) (fun _ hk => hk.2) (.int .i64 t104)) (fun _ hk => hk.2) (.int .i64 t105)) (fun _ hk => hk.2) (.int .i64 t106)) (fun _ hk => hk.2) (.int .i64 t107)) (fun _ h_ => h_.1)))); (case side2 => exact (Kd.R_reads' HO110.out).2.1); rintro e w16 ⟨v113, rfl, ho0, hb⟩; refine ⟨_, rfl, ?_⟩; have n0_ := Aside0.mk (Kd.R_below (by (with_reducible repeat (first | apply Kd.R_alloc | apply Kd.R_drewN | apply Kd.R_drew)); exact (Kd.R_mono (Kd.R_far (p := ⟨gb111, 4, none⟩) (Kd.R_far (p := ⟨gb111, 3, none⟩) (Kd.R_far (p := ⟨gb111, 2, none⟩) (Kd.R_far (p := ⟨gb111, 1, none⟩) (Kd.R_far (p := ⟨gb111, 0, none⟩) (Kd.R_types HO110.out BK111.out (by decide)) (fun _ hk => hk.2) (.int .i64 t103)) (fun _ hk => hk.2) (.int .i64 t104)) (fun _ hk => hk.2) (.int .i64 t105)) (fun _ hk => hk.2) (.int .i64 t106)) (fun _ hk => hk.2) (.int .i64 t107)) (fun _ h_ => h_.1))) hb); have n1_ := Aside0.mk (Kd.R_lower ho0 (below_size (Bq HB))); have n2_ := Aside0.mk (blk_below (g := gb101) (o := .cells #[.int .u8 a0_0, .int .u8 a0_1, .int .u8 a0_2, .int .u8 a0_3, .int .u8 a0_4, .slice A0_5 l0_5.length c0_5] 66 (0, 0)) (by (with_reducible repeat (first | refine blk_drewN ?_ _ | refine blk_drew ?_ | refine blk_alloc ?_ _)); refine blk_far ?_ NB101_111.out _; (with_reducible repeat (first | refine blk_drewN ?_ _ | refine blk_drew ?_ | refine blk_alloc ?_ _)); refine blk_far ?_ NB101_111.out _; (with_reducible repeat (first | refine blk_drewN ?_ _ | refine blk_drew ?_ | refine blk_alloc ?_ _)); refine blk_far ?_ NB101_111.out _; (with_reducible repeat (first | refine blk_drewN ?_ _ | refine blk_drew ?_ | refine blk_alloc ?_ _)); refine blk_far ?_ NB101_111.out _; (with_reducible repeat (first | refine blk_drewN ?_ _ | refine blk_drew ?_ | refine blk_alloc ?_ _)); refine blk_far ?_ NB101_111.out _; (with_reducible repeat (first | refine blk_drewN ?_ _ | refine blk_drew ?_ | refine blk_alloc ?_ _)); exact BK101.out) hb); have n3_ := Aside0.mk (blk_below (g := gb102) (o := .cells #[.int .u8 a2_0, .int .u8 a2_1, .int .u8 a2_2, .int .u8 a2_3, .int .u8 a2_4, .int .u8 a2_5] 67 (0, 0)) (by (with_reducible repeat (first | refine blk_drewN ?_ _ | refine blk_drew ?_ | refine blk_alloc ?_ _)); refine blk_far ?_ NB102_111.out _; (with_reducible repeat (first | refine blk_drewN ?_ _ | refine blk_drew ?_ | refine blk_alloc ?_ _)); refine blk_far ?_ NB102_111.out _; (with_reducible repeat (first | refine blk_drewN ?_ _ | refine blk_drew ?_ | refine blk_alloc ?_ _)); refine blk_far ?_ NB102_111.out _; (with_reducible repeat (first | refine blk_drewN ?_ _ | refine blk_drew ?_ | refine blk_alloc ?_ _)); refine blk_far ?_ NB102_111.out _; (with_reducible repeat (first | refine blk_drewN ?_ _ | refine blk_drew ?_ | refine blk_alloc ?_ _)); refine blk_far ?_ NB102_111.out _; (with_reducible repeat (first | refine blk_drewN ?_ _ | refine blk_drew ?_ | refine blk_alloc ?_ _)); exact BK102.out) hb); have n4_ := Aside0.mk (blk_below (g := gb111) (o := .cells #[.int .i64 t103, .int .i64 t104, .int .i64 t105, .int .i64 t106, .int .i64 t107] 23 (0, 0)) (by (with_reducible repeat (first | refine blk_drewN ?_ _ | refine blk_drew ?_ | refine blk_alloc ?_ _)); refine blk_put (cs := #[.int .i64 t103, .int .i64 t104, .int .i64 t105, .int .i64 t106, .int .i64 0]) ?_ 4 _ rfl; (with_reducible repeat (first | refine blk_drewN ?_ _ | refine blk_drew ?_ | refine blk_alloc ?_ _)); refine blk_put (cs := #[.int .i64 t103, .int .i64 t104, .int .i64 t105, .int .i64 0, .int .i64 0]) ?_ 3 _ rfl; (with_reducible repeat (first | refine blk_drewN ?_ _ | refine blk_drew ?_ | refine blk_alloc ?_ _)); refine blk_put (cs := #[.int .i64 t103, .int .i64 t104, .int .i64 0, .int .i64 0, .int .i64 0]) ?_ 2 _ rfl; (with_reducible repeat (first | refine blk_drewN ?_ _ | refine blk_drew ?_ | refine blk_alloc ?_ _)); refine blk_put (cs := #[.int .i64 t103, .int .i64 0, .int .i64 0, .int .i64 0, .int .i64 0]) ?_ 1 _ rfl; (with_reducible repeat (first | refine blk_drewN ?_ _ | refine blk_drew ?_ | refine blk_alloc ?_ _)); refine blk_put (cs := #[.int .i64 0, .int .i64 0, .int .i64 0, .int .i64 0, .int .i64 0]) ?_ 0 _ rfl; (with_reducible repeat (first | refine blk_drewN ?_ _ | refine blk_drew ?_ | refine blk_alloc ?_ _)); exact BK111.out) hb); have n5_ := Aside0.mk (below_step (Bq HB) hb); clear HO110; clear BK101; clear BK102; clear BK111; clear HB; have HO110 := n0_; have HO114 := n1_; have BK101 := n2_; have BK102 := n3_; have BK111 := n4_; have HB := n5_; clear n0_ n1_ n2_ n3_ n4_ n5_; (try clear hb); (try clear hb2); (try clear hk); (try clear hi); (try clear ho0)) | ((with_reducible refine gate_dst (N := 37) rfl ?_); (try (refine gate_guard (by rfl) ?_; dsimp only)); refine Kd.R_lit (Kd.int .i64) _ 3 ?hg (N := 37) ?hd (xs := ([] : List Int)) (inner := []) (ok := fun _ => True) (okp := fun _ => True) ?hr ?hp (fun _ hk => hk) trivial (Below.refl _ _) (Nat.le_refl _) (by simp) ?_; (case hd => rfl); (case hg => rfl); (case hr => first | (go_simp; done) | (go_simp; rfl)); (case hp => exact (Reps.none _ _)); intro v116 w17 ho18 hb hg_ hnew_; clear hg_ hnew_; (first | rw [← Ny115.out] at ho18 | (simp only [Int.reduceToNat] at ho18; rw [← Ny115.out] at ho18)); have n0_ := RB HO110 hb; have n1_ := Aside0.mk (Kd.R_elder' (R_ HO114) (Kd.R_base ho18) hb); have n2_ := Aside0.mk (Kd.R_lower (Kd.R_new' ho18 (Kd.R_lt (R_ HO114))) (below_size (Bq HB))); have n3_ := bb BK101 hb; have n4_ := bb BK102 hb; have n5_ := bb BK111 hb; have n6_ := Aside0.mk (below_step (Bq HB) hb); clear HO110; clear HO114; clear BK101; clear BK102; clear BK111; clear HB; have HO110 := n0_; have HO114 := n1_; have HO117 := n2_; have BK101 := n3_; have BK102 := n4_; have BK111 := n5_; have HB := n6_; clear n0_ n1_ n2_ n3_ n4_ n5_ n6_; clear hb ho18))
  go_loopg [10, 11] k (fun kq v10 v11 w' => ∃ (x10_1 : List Int) (x11_1 : Int), v11 = .int .i64 x11_1 ∧ Aside0 (lR.l0 kq t108 t112 x10_1 x11_1 a2_0 a2_1 a2_2 a2_3 a2_4 a2_5 t103 t104 t105 t106 t107 = some r) ∧ Aside0 (kq ≤ k) ∧ Aside0 (Kd.R k74 74 w' w.heap.size (fun _ => True) (.slice Ao15 t108.length co15) t108) ∧ Aside0 (Kd.R (Kd.int .i64) 3 w' w.heap.size (fun k_ => some k_ ≠ (v10 : Value).ownBlock) v113 t112) ∧ Aside0 (Kd.R (Kd.int .i64) 3 w' w.heap.size (fun k_ => some k_ ≠ (v113 : Value).ownBlock) v10 x10_1) ∧ Aside0 (w'.heap[gb101]? = some (.cells #[.int .u8 a0_0, .int .u8 a0_1, .int .u8 a0_2, .int .u8 a0_3, .int .u8 a0_4, (.slice A0_5 l0_5.length c0_5)] 66 (0, 0))) ∧ Aside0 (w'.heap[gb102]? = some (.cells #[.int .u8 a2_0, .int .u8 a2_1, .int .u8 a2_2, .int .u8 a2_3, .int .u8 a2_4, .int .u8 a2_5] 67 (0, 0))) ∧ Aside0 (w'.heap[gb111]? = some (.cells #[.int .i64 t103, .int .i64 t104, .int .i64 t105, .int .i64 t106, .int .i64 t107] 23 (0, 0))) ∧ Aside0 (Below w.heap.size w w'))
  case atStart => exact ⟨(y115), (0), (by first | rfl | (simp; done) | (simp [*]; done)), H', ⟨Nat.le_refl _⟩, ⟨R_ HO110⟩, ⟨Kd.R_mono (R_ HO114) (fun _ hk => hk.2)⟩, ⟨Kd.R_mono (R_ HO117) (fun _ hk => hk.2)⟩, ⟨b_ BK101⟩, ⟨b_ BK102⟩, ⟨b_ BK111⟩, ⟨Bq HB⟩⟩
  case round =>
   clear H'
   try clear hcz14_0
   try clear hcz14_1
   try clear hcz14_2
   try clear hcz14_3
   try clear hcz14_4
   try clear hcz9_0
   try clear hcz9_1
   try clear hcz9_2
   try clear hcz9_3
   try clear hcz9_4
   try clear hcz9_5
   try clear hfz14_0
   try clear hfz14_1
   try clear hfz14_2
   try clear hfz14_3
   try clear hfz14_4
   try clear hfz9_0
   try clear hfz9_1
   try clear hfz9_2
   try clear hfz9_3
   try clear hfz9_4
   try clear hfz9_5
   obtain ⟨x10_1, x11_1, rfl, HA, HK1, HO_8, HO_9, HO_10, BK101, BK102, BK111, HB⟩ := hrel
   rcases gk with _ | k1
   ·exact absurd HA.out (by simp [lR.l0])
   have H := HA.out
   clear HA
   simp only [lR.l0] at H
   by_cases c19 : x11_1 < (t112.length : Int)
   ·rw [if_pos c19] at H
    have c19b0 : decide (x11_1 < (t112.length : Int)) = true := decide_eq_true c19
    clear c19
    by_cases c20 : 0 ≤ x11_1
    ·rw [if_pos c20] at H
     have c20b0 : decide (0 ≤ x11_1) = true := decide_eq_true c20
     clear c20
     by_cases c21 : x11_1 < 6
     ·rw [if_pos c21] at H
      have c21b0 : decide (x11_1 < 6) = true := decide_eq_true c21
      clear c21
      by_cases c22 : t103 = 0
      ·rw [if_pos c22] at H
       exact absurd H (by simp)
      rw [if_neg c22] at H
      have c22b0 : (t103 == 0) = false := beq_eq_false_iff_ne.mpr c22
      have c22b1 : (t103 != 0) = true := bne_iff_ne.mpr c22
      by_cases c23 : x10_1.length < 17592186044416
      ·rw [if_pos c23] at H
       have LMc23 := Aside0.mk c23
       clear c23
       obtain ⟨y119, hy119⟩ : ∃ y_ : List Int, y_ = (x10_1 ++ [Int.tmod (wrap64 (rd [a2_0, a2_1, a2_2, a2_3, a2_4, a2_5] x11_1)) t103]) := ⟨_, rfl⟩
       replace H : (lR.l0 k1 t108 t112 y119 (wrap64 (x11_1 + 1)) a2_0 a2_1 a2_2 a2_3 a2_4 a2_5 t103 t104 t105 t106 t107) = some r := by first | (rw [hy119]; with_reducible exact H) | (have H2_ := (Option.bind_some _ _).symm.trans H; rw [hy119]; with_reducible exact H2_) | (have H2_ := (Option.bind_some _ _).symm.trans H; with_reducible exact H2_) | with_reducible exact H | (rw [hy119]; exact H) | exact H
       have Ny119 := Aside0.mk hy119
       clear hy119
       have H' := Aside0.mk H
       clear H
       obtain ⟨Ao24, co24, eo24⟩ := Kd.R_slice HO_9.out
       subst eo24
       try go_wp2
       have n0_ := Aside0.mk (Kd.R_drew HO_8.out)
       have n1_ := Aside0.mk (Kd.R_drew HO_9.out)
       have n2_ := Aside0.mk (Kd.R_drew HO_10.out)
       have n3_ := Aside0.mk (blk_drew BK101.out)
       have n4_ := Aside0.mk (blk_drew BK102.out)
       have n5_ := Aside0.mk (blk_drew BK111.out)
       have n6_ := Aside0.mk (below_drew1 HB.out)
       clear HO_8
       clear HO_9
       clear HO_10
       clear BK101
       clear BK102
       clear BK111
       clear HB
       have HO_8 := n0_
       have HO_9 := n1_
       have HO_10 := n2_
       have BK101 := n3_
       have BK102 := n4_
       have BK111 := n5_
       have HB := n6_
       clear n0_ n1_ n2_ n3_ n4_ n5_ n6_
       have p118 : 0 ≤ (x11_1 : Int) := of_decide_eq_true (by first | (with_reducible assumption) | assumption)
       have q118 : (x11_1 : Int) < (6 : Int) := of_decide_eq_true (by first | (with_reducible assumption) | assumption)
       have hy118 := @arr_cell .u8 [a2_0, a2_1, a2_2, a2_3, a2_4, a2_5] x11_1 p118 q118
       replace p118 := eq_true p118
       replace q118 := eq_true q118
       refine start_ (n := 11) (S := fun w' => w'.cell? ⟨gb102, 0, none⟩ = some (.int .u8 a2_0) ∧ w'.cell? ⟨gb102, 1, none⟩ = some (.int .u8 a2_1) ∧ w'.cell? ⟨gb102, 2, none⟩ = some (.int .u8 a2_2) ∧ w'.cell? ⟨gb102, 3, none⟩ = some (.int .u8 a2_3) ∧ w'.cell? ⟨gb102, 4, none⟩ = some (.int .u8 a2_4) ∧ w'.cell? ⟨gb102, 5, none⟩ = some (.int .u8 a2_5) ∧ w'.cell? ⟨gb111, 0, none⟩ = some (.int .i64 t103) ∧ w'.cell? ⟨gb111, 1, none⟩ = some (.int .i64 t104) ∧ w'.cell? ⟨gb111, 2, none⟩ = some (.int .i64 t105) ∧ w'.cell? ⟨gb111, 3, none⟩ = some (.int .i64 t106) ∧ w'.cell? ⟨gb111, 4, none⟩ = some (.int .i64 t107) ∧ w'.cell? ⟨gb102, (x11_1).toNat, none⟩ = some (.int .u8 (rd [a2_0, a2_1, a2_2, a2_3, a2_4, a2_5] x11_1))) (ds := []) (bl 11 0) (by kernel_rfl) rfl rfl ⟨kc BK102 0, kc BK102 1, kc BK102 2, kc BK102 3, kc BK102 4, kc BK102 5, kc BK111 0, kc BK111 1, kc BK111 2, kc BK111 3, kc BK111 4, (hy118 BK102.out rfl)⟩ (fun hHeld => ?_); refine with_tabW lR.tab6 lR.bits6 (fun HT_ HW_ => ?_)
       generalize wr.drew = w25 at HO_8 HO_9 HO_10 BK101 BK102 BK111 HB hHeld ⊢
       refine pS 0 44 11 1 HT_ ?_
       refine pS 1 45 11 3 HT_ ?_
       refine pS 2 46 11 7 HT_ ?_
       refine pS 5 49 11 39 HT_ ?_
       refine tq 3 (some 47) (bl 11 47) HT_ HW_ hHeld (h := ?_)
       refine pS 4 48 11 63 HT_ ?_
       refine tq 6 (some 50) (bl 11 127) HT_ HW_ hHeld (h := ?_)
       refine pS 7 51 11 255 HT_ ?_
       refine one_ (i := 8) (N := some 52) (bl 11 511) rfl rfl (one_of HT_.out (by kernel_rfl)) (by decide) (fun K hK => ?_)
       refine value_ (w1 := ?_) (v := ?_) (by rfl) rfl ?_ ?_
       rotate_left 2
       ·go_simp
        constructor
        ·rfl
        rfl
       refine hK.out _ _ ⟨(blk_cell (blk_alloc BK102.out _) 0).trans rfl, (blk_cell (blk_alloc BK102.out _) 1).trans rfl, (blk_cell (blk_alloc BK102.out _) 2).trans rfl, (blk_cell (blk_alloc BK102.out _) 3).trans rfl, (blk_cell (blk_alloc BK102.out _) 4).trans rfl, (blk_cell (blk_alloc BK102.out _) 5).trans rfl, (blk_cell (blk_alloc BK111.out _) 0).trans rfl, (blk_cell (blk_alloc BK111.out _) 1).trans rfl, (blk_cell (blk_alloc BK111.out _) 2).trans rfl, (blk_cell (blk_alloc BK111.out _) 3).trans rfl, (blk_cell (blk_alloc BK111.out _) 4).trans rfl, (hy118 (blk_alloc BK102.out _) rfl)⟩ (fun hHeld => ?_)
       clear hK K
       refine nq 52 ?_
       refine one_ (i := 9) (N := some 53) (bl 11 1023) rfl rfl (one_of HT_.out (by kernel_rfl)) (by decide) (fun K hK => ?_)
       refine Kd.R_append_step (Kd.int .i64) (w0 := w) w.heap.size (by rfl) (.tmp 44) (.tmp 52) 25 3 (.int .i64 0) 8 rfl Tryd.underlying25 info3 rfl (by decide) (by omega) u10 x10_1 (Int.tmod (wrap64 (rd [a2_0, a2_1, a2_2, a2_3, a2_4, a2_5] x11_1)) t103) [.int .i64 (Int.tmod (wrap64 (rd [a2_0, a2_1, a2_2, a2_3, a2_4, a2_5] x11_1)) t103)] (fun k_ => some k_ ≠ (.slice Ao24 t112.length co24 : Value).ownBlock) (fun _ => False) rfl rfl ?aP (fun _ hk => hk.elim) ?aF ?aO ?aB ?aS ?aL ?_
       (case aP => exact rfl)
       (case aB => exact (Bq HB))
       (case aF => exact (fun k_ hk => Kd.fresh' (Kd.R_lt (R_ HO_9)) k_ hk))
       (case aO => exact (R_ HO_10))
       (case aS => exact (below_size (Bq HB)))
       (case aL => have := LMc23.out; omega)
       intro v120 w26 ho hb hg hat
       rw [← Ny119.out] at ho
       have n0_ := Aside0.mk (Kd.R_over' (R_ HO_8) (Kd.R_typed (R_ HO_10)) (by decide) hg)
       have n1_ := Aside0.mk (Kd.R_after (ok := (fun _ => True)) (Kd.R_mono (R_ HO_9) (fun _ hk => ⟨trivial, hk⟩)) hg hat)
       have n2_ := Aside0.mk (blk_grown (g := gb101) (o := .cells #[.int .u8 a0_0, .int .u8 a0_1, .int .u8 a0_2, .int .u8 a0_3, .int .u8 a0_4, .slice A0_5 l0_5.length c0_5] 66 (0, 0)) (b_ BK101) hg (Kd.R_ne HO_10.out BK101.out (by decide)))
       have n3_ := Aside0.mk (blk_grown (g := gb102) (o := .cells #[.int .u8 a2_0, .int .u8 a2_1, .int .u8 a2_2, .int .u8 a2_3, .int .u8 a2_4, .int .u8 a2_5] 67 (0, 0)) (b_ BK102) hg (Kd.R_ne HO_10.out BK102.out (by decide)))
       have n4_ := Aside0.mk (blk_grown (g := gb111) (o := .cells #[.int .i64 t103, .int .i64 t104, .int .i64 t105, .int .i64 t106, .int .i64 t107] 23 (0, 0)) (b_ BK111) hg (Kd.R_ne HO_10.out BK111.out (by decide)))
       have n5_ := Aside0.mk (hb)
       have n6_ := Aside0.mk (ho)
       clear HO_8
       clear HO_9
       clear BK101
       clear BK102
       clear BK111
       clear HB
       clear HO_10
       have HO_8 := n0_
       have HO_9 := n1_
       have BK101 := n2_
       have BK102 := n3_
       have BK111 := n4_
       have HB := n5_
       have HO121 := n6_
       clear n0_ n1_ n2_ n3_ n4_ n5_ n6_
       clear ho hb hg hat
       refine hK.out _ _ ⟨kc BK102 0, kc BK102 1, kc BK102 2, kc BK102 3, kc BK102 4, kc BK102 5, kc BK111 0, kc BK111 1, kc BK111 2, kc BK111 3, kc BK111 4, (hy118 BK102.out rfl)⟩ (fun hHeld => ?_)
       clear hK K
       refine nq 53 ?_
       refine pS 10 10 11 2047 HT_ ?_
       refine done_ (done_of HT_.out (by kernel_rfl)) ?_
       try go_wp2
       go_roundg k1
       case measure => have := HK1.out; omega
       case rel => exact ⟨(y119), (wrap64 (x11_1 + 1)), (by first | rfl | (simp; done) | (simp [*]; done)), H', ⟨by have := HK1.out; omega⟩, ⟨R_ HO_8⟩, ⟨Kd.R_mono (R_ HO_9) (fun _ hk => hk.2)⟩, ⟨R_ HO121⟩, ⟨b_ BK101⟩, ⟨b_ BK102⟩, ⟨b_ BK111⟩, ⟨Bq HB⟩⟩
      rw [if_neg c23] at H
      exact absurd H (by simp)
     rw [if_neg c21] at H
     exact absurd H (by simp)
    rw [if_neg c20] at H
    exact absurd H (by simp)
   rw [if_neg c19] at H
   have c19b0 : decide (x11_1 < (t112.length : Int)) = false := decide_eq_false c19
   clear c19
   replace H := Option.bind_eq_some_iff.mp H
   obtain ⟨t122, A270, H⟩ := H
   replace H : ((smaltolaw03_ints.f t112).bind fun t125 => ((goesC.f t103 t104 t105 t106 t107 t122 t125).bind fun bt128 => ((smaltolaw03_own.f t108).bind fun t131 => ((smaltolaw03_ints.f t112).bind fun t134 => ((fork_Bars.f t103 t104 t105 t106 t107 t131 t134).bind fun bt137 => ((smaltolaw03_own.f t108).bind fun t141 => ((smaltolaw03_ints.f t112).bind fun t144 => ((fork_Heat.f t103 t104 t105 t106 t107 t141 t144).bind fun bt147 => (if bt137.2 = 0 then (if bt147.2.2 = 0 then (if bt128.1 = true then (if bt128.2 = true then (lR.j1 k1 t108 t112 x10_1 bt128.1 bt128.2 bt137.1 bt137.2 bt147.2.2 (bt147.2.2 != 0) t103 t104 t105 t106 t107 bt147.1 bt147.2.1) else (lR.j1 k1 t108 t112 x10_1 bt128.1 bt128.2 bt137.1 bt137.2 bt147.2.2 true t103 t104 t105 t106 t107 bt147.1 bt147.2.1)) else (lR.j1 k1 t108 t112 x10_1 bt128.1 bt128.2 bt137.1 bt137.2 bt147.2.2 false t103 t104 t105 t106 t107 bt147.1 bt147.2.1)) else (if bt147.2.2 = 7 then ((smaltolaw03_span.f 0 0).bind fun bt151 => (if (!(bt147.1 == bt151.1) || (!(bt147.2.1 == bt151.2))) = true then (lR.j1 k1 t108 t112 x10_1 bt128.1 bt128.2 bt137.1 bt137.2 bt147.2.2 true t103 t104 t105 t106 t107 bt147.1 bt147.2.1) else (if bt128.1 = true then (if bt128.2 = true then (lR.j1 k1 t108 t112 x10_1 bt128.1 bt128.2 bt137.1 bt137.2 bt147.2.2 (bt147.2.2 != 0) t103 t104 t105 t106 t107 bt147.1 bt147.2.1) else (lR.j1 k1 t108 t112 x10_1 bt128.1 bt128.2 bt137.1 bt137.2 bt147.2.2 true t103 t104 t105 t106 t107 bt147.1 bt147.2.1)) else (lR.j1 k1 t108 t112 x10_1 bt128.1 bt128.2 bt137.1 bt137.2 bt147.2.2 false t103 t104 t105 t106 t107 bt147.1 bt147.2.1)))) else (lR.j1 k1 t108 t112 x10_1 bt128.1 bt128.2 bt137.1 bt137.2 bt147.2.2 true t103 t104 t105 t106 t107 bt147.1 bt147.2.1))) else (if bt137.2 = 7 then (if (bt137.1.length : Int) = 0 then (if bt147.2.2 = 0 then (if bt128.1 = true then (if bt128.2 = true then (lR.j1 k1 t108 t112 x10_1 bt128.1 bt128.2 bt137.1 bt137.2 bt147.2.2 true t103 t104 t105 t106 t107 bt147.1 bt147.2.1) else (lR.j1 k1 t108 t112 x10_1 bt128.1 bt128.2 bt137.1 bt137.2 bt147.2.2 true t103 t104 t105 t106 t107 bt147.1 bt147.2.1)) else (lR.j1 k1 t108 t112 x10_1 bt128.1 bt128.2 bt137.1 bt137.2 bt147.2.2 false t103 t104 t105 t106 t107 bt147.1 bt147.2.1)) else (if bt147.2.2 = 7 then ((smaltolaw03_span.f 0 0).bind fun bt153 => (if (!(bt147.1 == bt153.1) || (!(bt147.2.1 == bt153.2))) = true then (lR.j1 k1 t108 t112 x10_1 bt128.1 bt128.2 bt137.1 bt137.2 bt147.2.2 true t103 t104 t105 t106 t107 bt147.1 bt147.2.1) else (if bt128.1 = true then (if bt128.2 = true then (lR.j1 k1 t108 t112 x10_1 bt128.1 bt128.2 bt137.1 bt137.2 bt147.2.2 true t103 t104 t105 t106 t107 bt147.1 bt147.2.1) else (lR.j1 k1 t108 t112 x10_1 bt128.1 bt128.2 bt137.1 bt137.2 bt147.2.2 true t103 t104 t105 t106 t107 bt147.1 bt147.2.1)) else (lR.j1 k1 t108 t112 x10_1 bt128.1 bt128.2 bt137.1 bt137.2 bt147.2.2 false t103 t104 t105 t106 t107 bt147.1 bt147.2.1)))) else (lR.j1 k1 t108 t112 x10_1 bt128.1 bt128.2 bt137.1 bt137.2 bt147.2.2 true t103 t104 t105 t106 t107 bt147.1 bt147.2.1))) else (lR.j1 k1 t108 t112 x10_1 bt128.1 bt128.2 bt137.1 bt137.2 bt147.2.2 true t103 t104 t105 t106 t107 bt147.1 bt147.2.1)) else (lR.j1 k1 t108 t112 x10_1 bt128.1 bt128.2 bt137.1 bt137.2 bt147.2.2 true t103 t104 t105 t106 t107 bt147.1 bt147.2.1))))))))))) = some r := H
   have A27 := Aside0.mk A270
   clear A270
   replace H := Option.bind_eq_some_iff.mp H
   obtain ⟨t125, A280, H⟩ := H
   replace H : ((goesC.f t103 t104 t105 t106 t107 t122 t125).bind fun bt128 => ((smaltolaw03_own.f t108).bind fun t131 => ((smaltolaw03_ints.f t112).bind fun t134 => ((fork_Bars.f t103 t104 t105 t106 t107 t131 t134).bind fun bt137 => ((smaltolaw03_own.f t108).bind fun t141 => ((smaltolaw03_ints.f t112).bind fun t144 => ((fork_Heat.f t103 t104 t105 t106 t107 t141 t144).bind fun bt147 => (if bt137.2 = 0 then (if bt147.2.2 = 0 then (if bt128.1 = true then (if bt128.2 = true then (lR.j1 k1 t108 t112 x10_1 bt128.1 bt128.2 bt137.1 bt137.2 bt147.2.2 (bt147.2.2 != 0) t103 t104 t105 t106 t107 bt147.1 bt147.2.1) else (lR.j1 k1 t108 t112 x10_1 bt128.1 bt128.2 bt137.1 bt137.2 bt147.2.2 true t103 t104 t105 t106 t107 bt147.1 bt147.2.1)) else (lR.j1 k1 t108 t112 x10_1 bt128.1 bt128.2 bt137.1 bt137.2 bt147.2.2 false t103 t104 t105 t106 t107 bt147.1 bt147.2.1)) else (if bt147.2.2 = 7 then ((smaltolaw03_span.f 0 0).bind fun bt151 => (if (!(bt147.1 == bt151.1) || (!(bt147.2.1 == bt151.2))) = true then (lR.j1 k1 t108 t112 x10_1 bt128.1 bt128.2 bt137.1 bt137.2 bt147.2.2 true t103 t104 t105 t106 t107 bt147.1 bt147.2.1) else (if bt128.1 = true then (if bt128.2 = true then (lR.j1 k1 t108 t112 x10_1 bt128.1 bt128.2 bt137.1 bt137.2 bt147.2.2 (bt147.2.2 != 0) t103 t104 t105 t106 t107 bt147.1 bt147.2.1) else (lR.j1 k1 t108 t112 x10_1 bt128.1 bt128.2 bt137.1 bt137.2 bt147.2.2 true t103 t104 t105 t106 t107 bt147.1 bt147.2.1)) else (lR.j1 k1 t108 t112 x10_1 bt128.1 bt128.2 bt137.1 bt137.2 bt147.2.2 false t103 t104 t105 t106 t107 bt147.1 bt147.2.1)))) else (lR.j1 k1 t108 t112 x10_1 bt128.1 bt128.2 bt137.1 bt137.2 bt147.2.2 true t103 t104 t105 t106 t107 bt147.1 bt147.2.1))) else (if bt137.2 = 7 then (if (bt137.1.length : Int) = 0 then (if bt147.2.2 = 0 then (if bt128.1 = true then (if bt128.2 = true then (lR.j1 k1 t108 t112 x10_1 bt128.1 bt128.2 bt137.1 bt137.2 bt147.2.2 true t103 t104 t105 t106 t107 bt147.1 bt147.2.1) else (lR.j1 k1 t108 t112 x10_1 bt128.1 bt128.2 bt137.1 bt137.2 bt147.2.2 true t103 t104 t105 t106 t107 bt147.1 bt147.2.1)) else (lR.j1 k1 t108 t112 x10_1 bt128.1 bt128.2 bt137.1 bt137.2 bt147.2.2 false t103 t104 t105 t106 t107 bt147.1 bt147.2.1)) else (if bt147.2.2 = 7 then ((smaltolaw03_span.f 0 0).bind fun bt153 => (if (!(bt147.1 == bt153.1) || (!(bt147.2.1 == bt153.2))) = true then (lR.j1 k1 t108 t112 x10_1 bt128.1 bt128.2 bt137.1 bt137.2 bt147.2.2 true t103 t104 t105 t106 t107 bt147.1 bt147.2.1) else (if bt128.1 = true then (if bt128.2 = true then (lR.j1 k1 t108 t112 x10_1 bt128.1 bt128.2 bt137.1 bt137.2 bt147.2.2 true t103 t104 t105 t106 t107 bt147.1 bt147.2.1) else (lR.j1 k1 t108 t112 x10_1 bt128.1 bt128.2 bt137.1 bt137.2 bt147.2.2 true t103 t104 t105 t106 t107 bt147.1 bt147.2.1)) else (lR.j1 k1 t108 t112 x10_1 bt128.1 bt128.2 bt137.1 bt137.2 bt147.2.2 false t103 t104 t105 t106 t107 bt147.1 bt147.2.1)))) else (lR.j1 k1 t108 t112 x10_1 bt128.1 bt128.2 bt137.1 bt137.2 bt147.2.2 true t103 t104 t105 t106 t107 bt147.1 bt147.2.1))) else (lR.j1 k1 t108 t112 x10_1 bt128.1 bt128.2 bt137.1 bt137.2 bt147.2.2 true t103 t104 t105 t106 t107 bt147.1 bt147.2.1)) else (lR.j1 k1 t108 t112 x10_1 bt128.1 bt128.2 bt137.1 bt137.2 bt147.2.2 true t103 t104 t105 t106 t107 bt147.1 bt147.2.1)))))))))) = some r := H
   have A28 := Aside0.mk A280
   clear A280
   replace H := Option.bind_eq_some_iff.mp H
   obtain ⟨⟨t128, t129⟩, A290, H⟩ := H
   replace H : ((smaltolaw03_own.f t108).bind fun t131 => ((smaltolaw03_ints.f t112).bind fun t134 => ((fork_Bars.f t103 t104 t105 t106 t107 t131 t134).bind fun bt137 => ((smaltolaw03_own.f t108).bind fun t141 => ((smaltolaw03_ints.f t112).bind fun t144 => ((fork_Heat.f t103 t104 t105 t106 t107 t141 t144).bind fun bt147 => (if bt137.2 = 0 then (if bt147.2.2 = 0 then (if t128 = true then (if t129 = true then (lR.j1 k1 t108 t112 x10_1 t128 t129 bt137.1 bt137.2 bt147.2.2 (bt147.2.2 != 0) t103 t104 t105 t106 t107 bt147.1 bt147.2.1) else (lR.j1 k1 t108 t112 x10_1 t128 t129 bt137.1 bt137.2 bt147.2.2 true t103 t104 t105 t106 t107 bt147.1 bt147.2.1)) else (lR.j1 k1 t108 t112 x10_1 t128 t129 bt137.1 bt137.2 bt147.2.2 false t103 t104 t105 t106 t107 bt147.1 bt147.2.1)) else (if bt147.2.2 = 7 then ((smaltolaw03_span.f 0 0).bind fun bt151 => (if (!(bt147.1 == bt151.1) || (!(bt147.2.1 == bt151.2))) = true then (lR.j1 k1 t108 t112 x10_1 t128 t129 bt137.1 bt137.2 bt147.2.2 true t103 t104 t105 t106 t107 bt147.1 bt147.2.1) else (if t128 = true then (if t129 = true then (lR.j1 k1 t108 t112 x10_1 t128 t129 bt137.1 bt137.2 bt147.2.2 (bt147.2.2 != 0) t103 t104 t105 t106 t107 bt147.1 bt147.2.1) else (lR.j1 k1 t108 t112 x10_1 t128 t129 bt137.1 bt137.2 bt147.2.2 true t103 t104 t105 t106 t107 bt147.1 bt147.2.1)) else (lR.j1 k1 t108 t112 x10_1 t128 t129 bt137.1 bt137.2 bt147.2.2 false t103 t104 t105 t106 t107 bt147.1 bt147.2.1)))) else (lR.j1 k1 t108 t112 x10_1 t128 t129 bt137.1 bt137.2 bt147.2.2 true t103 t104 t105 t106 t107 bt147.1 bt147.2.1))) else (if bt137.2 = 7 then (if (bt137.1.length : Int) = 0 then (if bt147.2.2 = 0 then (if t128 = true then (if t129 = true then (lR.j1 k1 t108 t112 x10_1 t128 t129 bt137.1 bt137.2 bt147.2.2 true t103 t104 t105 t106 t107 bt147.1 bt147.2.1) else (lR.j1 k1 t108 t112 x10_1 t128 t129 bt137.1 bt137.2 bt147.2.2 true t103 t104 t105 t106 t107 bt147.1 bt147.2.1)) else (lR.j1 k1 t108 t112 x10_1 t128 t129 bt137.1 bt137.2 bt147.2.2 false t103 t104 t105 t106 t107 bt147.1 bt147.2.1)) else (if bt147.2.2 = 7 then ((smaltolaw03_span.f 0 0).bind fun bt153 => (if (!(bt147.1 == bt153.1) || (!(bt147.2.1 == bt153.2))) = true then (lR.j1 k1 t108 t112 x10_1 t128 t129 bt137.1 bt137.2 bt147.2.2 true t103 t104 t105 t106 t107 bt147.1 bt147.2.1) else (if t128 = true then (if t129 = true then (lR.j1 k1 t108 t112 x10_1 t128 t129 bt137.1 bt137.2 bt147.2.2 true t103 t104 t105 t106 t107 bt147.1 bt147.2.1) else (lR.j1 k1 t108 t112 x10_1 t128 t129 bt137.1 bt137.2 bt147.2.2 true t103 t104 t105 t106 t107 bt147.1 bt147.2.1)) else (lR.j1 k1 t108 t112 x10_1 t128 t129 bt137.1 bt137.2 bt147.2.2 false t103 t104 t105 t106 t107 bt147.1 bt147.2.1)))) else (lR.j1 k1 t108 t112 x10_1 t128 t129 bt137.1 bt137.2 bt147.2.2 true t103 t104 t105 t106 t107 bt147.1 bt147.2.1))) else (lR.j1 k1 t108 t112 x10_1 t128 t129 bt137.1 bt137.2 bt147.2.2 true t103 t104 t105 t106 t107 bt147.1 bt147.2.1)) else (lR.j1 k1 t108 t112 x10_1 t128 t129 bt137.1 bt137.2 bt147.2.2 true t103 t104 t105 t106 t107 bt147.1 bt147.2.1))))))))) = some r := H
   have A29 := Aside0.mk A290
   clear A290
   replace H := Option.bind_eq_some_iff.mp H
   obtain ⟨t131, A300, H⟩ := H
   replace H : ((smaltolaw03_ints.f t112).bind fun t134 => ((fork_Bars.f t103 t104 t105 t106 t107 t131 t134).bind fun bt137 => ((smaltolaw03_own.f t108).bind fun t141 => ((smaltolaw03_ints.f t112).bind fun t144 => ((fork_Heat.f t103 t104 t105 t106 t107 t141 t144).bind fun bt147 => (if bt137.2 = 0 then (if bt147.2.2 = 0 then (if t128 = true then (if t129 = true then (lR.j1 k1 t108 t112 x10_1 t128 t129 bt137.1 bt137.2 bt147.2.2 (bt147.2.2 != 0) t103 t104 t105 t106 t107 bt147.1 bt147.2.1) else (lR.j1 k1 t108 t112 x10_1 t128 t129 bt137.1 bt137.2 bt147.2.2 true t103 t104 t105 t106 t107 bt147.1 bt147.2.1)) else (lR.j1 k1 t108 t112 x10_1 t128 t129 bt137.1 bt137.2 bt147.2.2 false t103 t104 t105 t106 t107 bt147.1 bt147.2.1)) else (if bt147.2.2 = 7 then ((smaltolaw03_span.f 0 0).bind fun bt151 => (if (!(bt147.1 == bt151.1) || (!(bt147.2.1 == bt151.2))) = true then (lR.j1 k1 t108 t112 x10_1 t128 t129 bt137.1 bt137.2 bt147.2.2 true t103 t104 t105 t106 t107 bt147.1 bt147.2.1) else (if t128 = true then (if t129 = true then (lR.j1 k1 t108 t112 x10_1 t128 t129 bt137.1 bt137.2 bt147.2.2 (bt147.2.2 != 0) t103 t104 t105 t106 t107 bt147.1 bt147.2.1) else (lR.j1 k1 t108 t112 x10_1 t128 t129 bt137.1 bt137.2 bt147.2.2 true t103 t104 t105 t106 t107 bt147.1 bt147.2.1)) else (lR.j1 k1 t108 t112 x10_1 t128 t129 bt137.1 bt137.2 bt147.2.2 false t103 t104 t105 t106 t107 bt147.1 bt147.2.1)))) else (lR.j1 k1 t108 t112 x10_1 t128 t129 bt137.1 bt137.2 bt147.2.2 true t103 t104 t105 t106 t107 bt147.1 bt147.2.1))) else (if bt137.2 = 7 then (if (bt137.1.length : Int) = 0 then (if bt147.2.2 = 0 then (if t128 = true then (if t129 = true then (lR.j1 k1 t108 t112 x10_1 t128 t129 bt137.1 bt137.2 bt147.2.2 true t103 t104 t105 t106 t107 bt147.1 bt147.2.1) else (lR.j1 k1 t108 t112 x10_1 t128 t129 bt137.1 bt137.2 bt147.2.2 true t103 t104 t105 t106 t107 bt147.1 bt147.2.1)) else (lR.j1 k1 t108 t112 x10_1 t128 t129 bt137.1 bt137.2 bt147.2.2 false t103 t104 t105 t106 t107 bt147.1 bt147.2.1)) else (if bt147.2.2 = 7 then ((smaltolaw03_span.f 0 0).bind fun bt153 => (if (!(bt147.1 == bt153.1) || (!(bt147.2.1 == bt153.2))) = true then (lR.j1 k1 t108 t112 x10_1 t128 t129 bt137.1 bt137.2 bt147.2.2 true t103 t104 t105 t106 t107 bt147.1 bt147.2.1) else (if t128 = true then (if t129 = true then (lR.j1 k1 t108 t112 x10_1 t128 t129 bt137.1 bt137.2 bt147.2.2 true t103 t104 t105 t106 t107 bt147.1 bt147.2.1) else (lR.j1 k1 t108 t112 x10_1 t128 t129 bt137.1 bt137.2 bt147.2.2 true t103 t104 t105 t106 t107 bt147.1 bt147.2.1)) else (lR.j1 k1 t108 t112 x10_1 t128 t129 bt137.1 bt137.2 bt147.2.2 false t103 t104 t105 t106 t107 bt147.1 bt147.2.1)))) else (lR.j1 k1 t108 t112 x10_1 t128 t129 bt137.1 bt137.2 bt147.2.2 true t103 t104 t105 t106 t107 bt147.1 bt147.2.1))) else (lR.j1 k1 t108 t112 x10_1 t128 t129 bt137.1 bt137.2 bt147.2.2 true t103 t104 t105 t106 t107 bt147.1 bt147.2.1)) else (lR.j1 k1 t108 t112 x10_1 t128 t129 bt137.1 bt137.2 bt147.2.2 true t103 t104 t105 t106 t107 bt147.1 bt147.2.1)))))))) = some r := H
   have A30 := Aside0.mk A300
   clear A300
   replace H := Option.bind_eq_some_iff.mp H
   obtain ⟨t134, A310, H⟩ := H
   replace H : ((fork_Bars.f t103 t104 t105 t106 t107 t131 t134).bind fun bt137 => ((smaltolaw03_own.f t108).bind fun t141 => ((smaltolaw03_ints.f t112).bind fun t144 => ((fork_Heat.f t103 t104 t105 t106 t107 t141 t144).bind fun bt147 => (if bt137.2 = 0 then (if bt147.2.2 = 0 then (if t128 = true then (if t129 = true then (lR.j1 k1 t108 t112 x10_1 t128 t129 bt137.1 bt137.2 bt147.2.2 (bt147.2.2 != 0) t103 t104 t105 t106 t107 bt147.1 bt147.2.1) else (lR.j1 k1 t108 t112 x10_1 t128 t129 bt137.1 bt137.2 bt147.2.2 true t103 t104 t105 t106 t107 bt147.1 bt147.2.1)) else (lR.j1 k1 t108 t112 x10_1 t128 t129 bt137.1 bt137.2 bt147.2.2 false t103 t104 t105 t106 t107 bt147.1 bt147.2.1)) else (if bt147.2.2 = 7 then ((smaltolaw03_span.f 0 0).bind fun bt151 => (if (!(bt147.1 == bt151.1) || (!(bt147.2.1 == bt151.2))) = true then (lR.j1 k1 t108 t112 x10_1 t128 t129 bt137.1 bt137.2 bt147.2.2 true t103 t104 t105 t106 t107 bt147.1 bt147.2.1) else (if t128 = true then (if t129 = true then (lR.j1 k1 t108 t112 x10_1 t128 t129 bt137.1 bt137.2 bt147.2.2 (bt147.2.2 != 0) t103 t104 t105 t106 t107 bt147.1 bt147.2.1) else (lR.j1 k1 t108 t112 x10_1 t128 t129 bt137.1 bt137.2 bt147.2.2 true t103 t104 t105 t106 t107 bt147.1 bt147.2.1)) else (lR.j1 k1 t108 t112 x10_1 t128 t129 bt137.1 bt137.2 bt147.2.2 false t103 t104 t105 t106 t107 bt147.1 bt147.2.1)))) else (lR.j1 k1 t108 t112 x10_1 t128 t129 bt137.1 bt137.2 bt147.2.2 true t103 t104 t105 t106 t107 bt147.1 bt147.2.1))) else (if bt137.2 = 7 then (if (bt137.1.length : Int) = 0 then (if bt147.2.2 = 0 then (if t128 = true then (if t129 = true then (lR.j1 k1 t108 t112 x10_1 t128 t129 bt137.1 bt137.2 bt147.2.2 true t103 t104 t105 t106 t107 bt147.1 bt147.2.1) else (lR.j1 k1 t108 t112 x10_1 t128 t129 bt137.1 bt137.2 bt147.2.2 true t103 t104 t105 t106 t107 bt147.1 bt147.2.1)) else (lR.j1 k1 t108 t112 x10_1 t128 t129 bt137.1 bt137.2 bt147.2.2 false t103 t104 t105 t106 t107 bt147.1 bt147.2.1)) else (if bt147.2.2 = 7 then ((smaltolaw03_span.f 0 0).bind fun bt153 => (if (!(bt147.1 == bt153.1) || (!(bt147.2.1 == bt153.2))) = true then (lR.j1 k1 t108 t112 x10_1 t128 t129 bt137.1 bt137.2 bt147.2.2 true t103 t104 t105 t106 t107 bt147.1 bt147.2.1) else (if t128 = true then (if t129 = true then (lR.j1 k1 t108 t112 x10_1 t128 t129 bt137.1 bt137.2 bt147.2.2 true t103 t104 t105 t106 t107 bt147.1 bt147.2.1) else (lR.j1 k1 t108 t112 x10_1 t128 t129 bt137.1 bt137.2 bt147.2.2 true t103 t104 t105 t106 t107 bt147.1 bt147.2.1)) else (lR.j1 k1 t108 t112 x10_1 t128 t129 bt137.1 bt137.2 bt147.2.2 false t103 t104 t105 t106 t107 bt147.1 bt147.2.1)))) else (lR.j1 k1 t108 t112 x10_1 t128 t129 bt137.1 bt137.2 bt147.2.2 true t103 t104 t105 t106 t107 bt147.1 bt147.2.1))) else (lR.j1 k1 t108 t112 x10_1 t128 t129 bt137.1 bt137.2 bt147.2.2 true t103 t104 t105 t106 t107 bt147.1 bt147.2.1)) else (lR.j1 k1 t108 t112 x10_1 t128 t129 bt137.1 bt137.2 bt147.2.2 true t103 t104 t105 t106 t107 bt147.1 bt147.2.1))))))) = some r := H
   have A31 := Aside0.mk A310
   clear A310
   replace H := Option.bind_eq_some_iff.mp H
   obtain ⟨⟨t137, t140⟩, A320, H⟩ := H
   replace H : ((smaltolaw03_own.f t108).bind fun t141 => ((smaltolaw03_ints.f t112).bind fun t144 => ((fork_Heat.f t103 t104 t105 t106 t107 t141 t144).bind fun bt147 => (if t140 = 0 then (if bt147.2.2 = 0 then (if t128 = true then (if t129 = true then (lR.j1 k1 t108 t112 x10_1 t128 t129 t137 t140 bt147.2.2 (bt147.2.2 != 0) t103 t104 t105 t106 t107 bt147.1 bt147.2.1) else (lR.j1 k1 t108 t112 x10_1 t128 t129 t137 t140 bt147.2.2 true t103 t104 t105 t106 t107 bt147.1 bt147.2.1)) else (lR.j1 k1 t108 t112 x10_1 t128 t129 t137 t140 bt147.2.2 false t103 t104 t105 t106 t107 bt147.1 bt147.2.1)) else (if bt147.2.2 = 7 then ((smaltolaw03_span.f 0 0).bind fun bt151 => (if (!(bt147.1 == bt151.1) || (!(bt147.2.1 == bt151.2))) = true then (lR.j1 k1 t108 t112 x10_1 t128 t129 t137 t140 bt147.2.2 true t103 t104 t105 t106 t107 bt147.1 bt147.2.1) else (if t128 = true then (if t129 = true then (lR.j1 k1 t108 t112 x10_1 t128 t129 t137 t140 bt147.2.2 (bt147.2.2 != 0) t103 t104 t105 t106 t107 bt147.1 bt147.2.1) else (lR.j1 k1 t108 t112 x10_1 t128 t129 t137 t140 bt147.2.2 true t103 t104 t105 t106 t107 bt147.1 bt147.2.1)) else (lR.j1 k1 t108 t112 x10_1 t128 t129 t137 t140 bt147.2.2 false t103 t104 t105 t106 t107 bt147.1 bt147.2.1)))) else (lR.j1 k1 t108 t112 x10_1 t128 t129 t137 t140 bt147.2.2 true t103 t104 t105 t106 t107 bt147.1 bt147.2.1))) else (if t140 = 7 then (if (t137.length : Int) = 0 then (if bt147.2.2 = 0 then (if t128 = true then (if t129 = true then (lR.j1 k1 t108 t112 x10_1 t128 t129 t137 t140 bt147.2.2 true t103 t104 t105 t106 t107 bt147.1 bt147.2.1) else (lR.j1 k1 t108 t112 x10_1 t128 t129 t137 t140 bt147.2.2 true t103 t104 t105 t106 t107 bt147.1 bt147.2.1)) else (lR.j1 k1 t108 t112 x10_1 t128 t129 t137 t140 bt147.2.2 false t103 t104 t105 t106 t107 bt147.1 bt147.2.1)) else (if bt147.2.2 = 7 then ((smaltolaw03_span.f 0 0).bind fun bt153 => (if (!(bt147.1 == bt153.1) || (!(bt147.2.1 == bt153.2))) = true then (lR.j1 k1 t108 t112 x10_1 t128 t129 t137 t140 bt147.2.2 true t103 t104 t105 t106 t107 bt147.1 bt147.2.1) else (if t128 = true then (if t129 = true then (lR.j1 k1 t108 t112 x10_1 t128 t129 t137 t140 bt147.2.2 true t103 t104 t105 t106 t107 bt147.1 bt147.2.1) else (lR.j1 k1 t108 t112 x10_1 t128 t129 t137 t140 bt147.2.2 true t103 t104 t105 t106 t107 bt147.1 bt147.2.1)) else (lR.j1 k1 t108 t112 x10_1 t128 t129 t137 t140 bt147.2.2 false t103 t104 t105 t106 t107 bt147.1 bt147.2.1)))) else (lR.j1 k1 t108 t112 x10_1 t128 t129 t137 t140 bt147.2.2 true t103 t104 t105 t106 t107 bt147.1 bt147.2.1))) else (lR.j1 k1 t108 t112 x10_1 t128 t129 t137 t140 bt147.2.2 true t103 t104 t105 t106 t107 bt147.1 bt147.2.1)) else (lR.j1 k1 t108 t112 x10_1 t128 t129 t137 t140 bt147.2.2 true t103 t104 t105 t106 t107 bt147.1 bt147.2.1)))))) = some r := H
   have A32 := Aside0.mk A320
   clear A320
   replace H := Option.bind_eq_some_iff.mp H
   obtain ⟨t141, A330, H⟩ := H
   replace H : ((smaltolaw03_ints.f t112).bind fun t144 => ((fork_Heat.f t103 t104 t105 t106 t107 t141 t144).bind fun bt147 => (if t140 = 0 then (if bt147.2.2 = 0 then (if t128 = true then (if t129 = true then (lR.j1 k1 t108 t112 x10_1 t128 t129 t137 t140 bt147.2.2 (bt147.2.2 != 0) t103 t104 t105 t106 t107 bt147.1 bt147.2.1) else (lR.j1 k1 t108 t112 x10_1 t128 t129 t137 t140 bt147.2.2 true t103 t104 t105 t106 t107 bt147.1 bt147.2.1)) else (lR.j1 k1 t108 t112 x10_1 t128 t129 t137 t140 bt147.2.2 false t103 t104 t105 t106 t107 bt147.1 bt147.2.1)) else (if bt147.2.2 = 7 then ((smaltolaw03_span.f 0 0).bind fun bt151 => (if (!(bt147.1 == bt151.1) || (!(bt147.2.1 == bt151.2))) = true then (lR.j1 k1 t108 t112 x10_1 t128 t129 t137 t140 bt147.2.2 true t103 t104 t105 t106 t107 bt147.1 bt147.2.1) else (if t128 = true then (if t129 = true then (lR.j1 k1 t108 t112 x10_1 t128 t129 t137 t140 bt147.2.2 (bt147.2.2 != 0) t103 t104 t105 t106 t107 bt147.1 bt147.2.1) else (lR.j1 k1 t108 t112 x10_1 t128 t129 t137 t140 bt147.2.2 true t103 t104 t105 t106 t107 bt147.1 bt147.2.1)) else (lR.j1 k1 t108 t112 x10_1 t128 t129 t137 t140 bt147.2.2 false t103 t104 t105 t106 t107 bt147.1 bt147.2.1)))) else (lR.j1 k1 t108 t112 x10_1 t128 t129 t137 t140 bt147.2.2 true t103 t104 t105 t106 t107 bt147.1 bt147.2.1))) else (if t140 = 7 then (if (t137.length : Int) = 0 then (if bt147.2.2 = 0 then (if t128 = true then (if t129 = true then (lR.j1 k1 t108 t112 x10_1 t128 t129 t137 t140 bt147.2.2 true t103 t104 t105 t106 t107 bt147.1 bt147.2.1) else (lR.j1 k1 t108 t112 x10_1 t128 t129 t137 t140 bt147.2.2 true t103 t104 t105 t106 t107 bt147.1 bt147.2.1)) else (lR.j1 k1 t108 t112 x10_1 t128 t129 t137 t140 bt147.2.2 false t103 t104 t105 t106 t107 bt147.1 bt147.2.1)) else (if bt147.2.2 = 7 then ((smaltolaw03_span.f 0 0).bind fun bt153 => (if (!(bt147.1 == bt153.1) || (!(bt147.2.1 == bt153.2))) = true then (lR.j1 k1 t108 t112 x10_1 t128 t129 t137 t140 bt147.2.2 true t103 t104 t105 t106 t107 bt147.1 bt147.2.1) else (if t128 = true then (if t129 = true then (lR.j1 k1 t108 t112 x10_1 t128 t129 t137 t140 bt147.2.2 true t103 t104 t105 t106 t107 bt147.1 bt147.2.1) else (lR.j1 k1 t108 t112 x10_1 t128 t129 t137 t140 bt147.2.2 true t103 t104 t105 t106 t107 bt147.1 bt147.2.1)) else (lR.j1 k1 t108 t112 x10_1 t128 t129 t137 t140 bt147.2.2 false t103 t104 t105 t106 t107 bt147.1 bt147.2.1)))) else (lR.j1 k1 t108 t112 x10_1 t128 t129 t137 t140 bt147.2.2 true t103 t104 t105 t106 t107 bt147.1 bt147.2.1))) else (lR.j1 k1 t108 t112 x10_1 t128 t129 t137 t140 bt147.2.2 true t103 t104 t105 t106 t107 bt147.1 bt147.2.1)) else (lR.j1 k1 t108 t112 x10_1 t128 t129 t137 t140 bt147.2.2 true t103 t104 t105 t106 t107 bt147.1 bt147.2.1))))) = some r := H
   have A33 := Aside0.mk A330
   clear A330
   replace H := Option.bind_eq_some_iff.mp H
   obtain ⟨t144, A340, H⟩ := H
   replace H : ((fork_Heat.f t103 t104 t105 t106 t107 t141 t144).bind fun bt147 => (if t140 = 0 then (if bt147.2.2 = 0 then (if t128 = true then (if t129 = true then (lR.j1 k1 t108 t112 x10_1 t128 t129 t137 t140 bt147.2.2 (bt147.2.2 != 0) t103 t104 t105 t106 t107 bt147.1 bt147.2.1) else (lR.j1 k1 t108 t112 x10_1 t128 t129 t137 t140 bt147.2.2 true t103 t104 t105 t106 t107 bt147.1 bt147.2.1)) else (lR.j1 k1 t108 t112 x10_1 t128 t129 t137 t140 bt147.2.2 false t103 t104 t105 t106 t107 bt147.1 bt147.2.1)) else (if bt147.2.2 = 7 then ((smaltolaw03_span.f 0 0).bind fun bt151 => (if (!(bt147.1 == bt151.1) || (!(bt147.2.1 == bt151.2))) = true then (lR.j1 k1 t108 t112 x10_1 t128 t129 t137 t140 bt147.2.2 true t103 t104 t105 t106 t107 bt147.1 bt147.2.1) else (if t128 = true then (if t129 = true then (lR.j1 k1 t108 t112 x10_1 t128 t129 t137 t140 bt147.2.2 (bt147.2.2 != 0) t103 t104 t105 t106 t107 bt147.1 bt147.2.1) else (lR.j1 k1 t108 t112 x10_1 t128 t129 t137 t140 bt147.2.2 true t103 t104 t105 t106 t107 bt147.1 bt147.2.1)) else (lR.j1 k1 t108 t112 x10_1 t128 t129 t137 t140 bt147.2.2 false t103 t104 t105 t106 t107 bt147.1 bt147.2.1)))) else (lR.j1 k1 t108 t112 x10_1 t128 t129 t137 t140 bt147.2.2 true t103 t104 t105 t106 t107 bt147.1 bt147.2.1))) else (if t140 = 7 then (if (t137.length : Int) = 0 then (if bt147.2.2 = 0 then (if t128 = true then (if t129 = true then (lR.j1 k1 t108 t112 x10_1 t128 t129 t137 t140 bt147.2.2 true t103 t104 t105 t106 t107 bt147.1 bt147.2.1) else (lR.j1 k1 t108 t112 x10_1 t128 t129 t137 t140 bt147.2.2 true t103 t104 t105 t106 t107 bt147.1 bt147.2.1)) else (lR.j1 k1 t108 t112 x10_1 t128 t129 t137 t140 bt147.2.2 false t103 t104 t105 t106 t107 bt147.1 bt147.2.1)) else (if bt147.2.2 = 7 then ((smaltolaw03_span.f 0 0).bind fun bt153 => (if (!(bt147.1 == bt153.1) || (!(bt147.2.1 == bt153.2))) = true then (lR.j1 k1 t108 t112 x10_1 t128 t129 t137 t140 bt147.2.2 true t103 t104 t105 t106 t107 bt147.1 bt147.2.1) else (if t128 = true then (if t129 = true then (lR.j1 k1 t108 t112 x10_1 t128 t129 t137 t140 bt147.2.2 true t103 t104 t105 t106 t107 bt147.1 bt147.2.1) else (lR.j1 k1 t108 t112 x10_1 t128 t129 t137 t140 bt147.2.2 true t103 t104 t105 t106 t107 bt147.1 bt147.2.1)) else (lR.j1 k1 t108 t112 x10_1 t128 t129 t137 t140 bt147.2.2 false t103 t104 t105 t106 t107 bt147.1 bt147.2.1)))) else (lR.j1 k1 t108 t112 x10_1 t128 t129 t137 t140 bt147.2.2 true t103 t104 t105 t106 t107 bt147.1 bt147.2.1))) else (lR.j1 k1 t108 t112 x10_1 t128 t129 t137 t140 bt147.2.2 true t103 t104 t105 t106 t107 bt147.1 bt147.2.1)) else (lR.j1 k1 t108 t112 x10_1 t128 t129 t137 t140 bt147.2.2 true t103 t104 t105 t106 t107 bt147.1 bt147.2.1)))) = some r := H
   have A34 := Aside0.mk A340
   clear A340
   replace H := Option.bind_eq_some_iff.mp H
   obtain ⟨⟨t147, t148, t149⟩, A350, H⟩ := H
   replace H : (if t140 = 0 then (if t149 = 0 then (if t128 = true then (if t129 = true then (lR.j1 k1 t108 t112 x10_1 t128 t129 t137 t140 t149 (t149 != 0) t103 t104 t105 t106 t107 t147 t148) else (lR.j1 k1 t108 t112 x10_1 t128 t129 t137 t140 t149 true t103 t104 t105 t106 t107 t147 t148)) else (lR.j1 k1 t108 t112 x10_1 t128 t129 t137 t140 t149 false t103 t104 t105 t106 t107 t147 t148)) else (if t149 = 7 then ((smaltolaw03_span.f 0 0).bind fun bt151 => (if (!(t147 == bt151.1) || (!(t148 == bt151.2))) = true then (lR.j1 k1 t108 t112 x10_1 t128 t129 t137 t140 t149 true t103 t104 t105 t106 t107 t147 t148) else (if t128 = true then (if t129 = true then (lR.j1 k1 t108 t112 x10_1 t128 t129 t137 t140 t149 (t149 != 0) t103 t104 t105 t106 t107 t147 t148) else (lR.j1 k1 t108 t112 x10_1 t128 t129 t137 t140 t149 true t103 t104 t105 t106 t107 t147 t148)) else (lR.j1 k1 t108 t112 x10_1 t128 t129 t137 t140 t149 false t103 t104 t105 t106 t107 t147 t148)))) else (lR.j1 k1 t108 t112 x10_1 t128 t129 t137 t140 t149 true t103 t104 t105 t106 t107 t147 t148))) else (if t140 = 7 then (if (t137.length : Int) = 0 then (if t149 = 0 then (if t128 = true then (if t129 = true then (lR.j1 k1 t108 t112 x10_1 t128 t129 t137 t140 t149 true t103 t104 t105 t106 t107 t147 t148) else (lR.j1 k1 t108 t112 x10_1 t128 t129 t137 t140 t149 true t103 t104 t105 t106 t107 t147 t148)) else (lR.j1 k1 t108 t112 x10_1 t128 t129 t137 t140 t149 false t103 t104 t105 t106 t107 t147 t148)) else (if t149 = 7 then ((smaltolaw03_span.f 0 0).bind fun bt153 => (if (!(t147 == bt153.1) || (!(t148 == bt153.2))) = true then (lR.j1 k1 t108 t112 x10_1 t128 t129 t137 t140 t149 true t103 t104 t105 t106 t107 t147 t148) else (if t128 = true then (if t129 = true then (lR.j1 k1 t108 t112 x10_1 t128 t129 t137 t140 t149 true t103 t104 t105 t106 t107 t147 t148) else (lR.j1 k1 t108 t112 x10_1 t128 t129 t137 t140 t149 true t103 t104 t105 t106 t107 t147 t148)) else (lR.j1 k1 t108 t112 x10_1 t128 t129 t137 t140 t149 false t103 t104 t105 t106 t107 t147 t148)))) else (lR.j1 k1 t108 t112 x10_1 t128 t129 t137 t140 t149 true t103 t104 t105 t106 t107 t147 t148))) else (lR.j1 k1 t108 t112 x10_1 t128 t129 t137 t140 t149 true t103 t104 t105 t106 t107 t147 t148)) else (lR.j1 k1 t108 t112 x10_1 t128 t129 t137 t140 t149 true t103 t104 t105 t106 t107 t147 t148))) = some r := H
   have A35 := Aside0.mk A350
   clear A350
   have HC36 := Aside0.mk H
   clear H
   obtain ⟨Ao37, co37, eo37⟩ := Kd.R_slice HO_9.out
   subst eo37
   try go_wp2
   have n0_ := Aside0.mk (Kd.R_drew HO_8.out)
   have n1_ := Aside0.mk (Kd.R_drew HO_9.out)
   have n2_ := Aside0.mk (Kd.R_drew HO_10.out)
   have n3_ := Aside0.mk (blk_drew BK101.out)
   have n4_ := Aside0.mk (blk_drew BK102.out)
   have n5_ := Aside0.mk (blk_drew BK111.out)
   have n6_ := Aside0.mk (below_drew1 HB.out)
   clear HO_8
   clear HO_9
   clear HO_10
   clear BK101
   clear BK102
   clear BK111
   clear HB
   have HO_8 := n0_
   have HO_9 := n1_
   have HO_10 := n2_
   have BK101 := n3_
   have BK102 := n4_
   have BK111 := n5_
   have HB := n6_
   clear n0_ n1_ n2_ n3_ n4_ n5_ n6_
   refine start_ (n := 13) (S := fun w' => w'.cell? ⟨gb111, 0, none⟩ = some (.int .i64 t103) ∧ w'.cell? ⟨gb111, 1, none⟩ = some (.int .i64 t104) ∧ w'.cell? ⟨gb111, 2, none⟩ = some (.int .i64 t105) ∧ w'.cell? ⟨gb111, 3, none⟩ = some (.int .i64 t106) ∧ w'.cell? ⟨gb111, 4, none⟩ = some (.int .i64 t107)) (ds := []) (bl 13 0) (by kernel_rfl) rfl rfl ⟨kc BK111 0, kc BK111 1, kc BK111 2, kc BK111 3, kc BK111 4⟩ (fun hHeld => ?_); refine with_tabW lR.tab7 lR.bits7 (fun HT_ HW_ => ?_)
   generalize wr.drew = w38 at HO_8 HO_9 HO_10 BK101 BK102 BK111 HB hHeld ⊢
   refine pS 1 56 13 2 HT_ ?_
   refine pS 3 58 13 10 HT_ ?_
   refine tq 0 (some 55) (bl 13 11) HT_ HW_ hHeld (h := ?_)
   refine one_ (i := 2) (N := some 57) (bl 13 15) rfl rfl (one_of HT_.out (by kernel_rfl)) (by decide) (fun K hK => ?_)
   refine goes_ Tryd.func43 (by kernel_rfl) rfl #[.slice Ao15 t108.length co15] (by rfl) rfl rfl (by (try simp only [List.map_toArray, List.map_cons, List.map_nil]); first | done | rfl | (simp only [List.length_drop, List.length_take]; rfl)) ?_
   with_reducible refine (smaltolaw03_own.calls _ _ t108 t122 _ ?side1 ?side2 A27.out).mono ?_
   (case side1 => exact rC HO_8)
   (case side2 => exact (Kd.R_reads' HO_8.out).2.1)
   rintro e w39 ⟨v123, rfl, ho0, hb⟩
   refine ⟨_, rfl, ?_⟩
   have n0_ := Aside0.mk (Kd.R_elder' (R_ HO_8) (Kd.R_base ho0) hb)
   have n1_ := RB HO_9 hb
   have n2_ := RB HO_10 hb
   have n3_ := Aside0.mk (Kd.R_lower (Kd.R_new' ho0 (Kd.R_lt (R_ HO_8))) (below_size (Bq HB)))
   have n4_ := bb BK101 hb
   have n5_ := bb BK102 hb
   have n6_ := bb BK111 hb
   have n7_ := Aside0.mk (below_step (Bq HB) hb)
   clear HO_8
   clear HO_9
   clear HO_10
   clear BK101
   clear BK102
   clear BK111
   clear HB
   have HO_8 := n0_
   have HO_9 := n1_
   have HO_10 := n2_
   have HO124 := n3_
   have BK101 := n4_
   have BK102 := n5_
   have BK111 := n6_
   have HB := n7_
   clear n0_ n1_ n2_ n3_ n4_ n5_ n6_ n7_
   (try clear hb)
   (try clear hb2)
   (try clear hk)
   (try clear hi)
   (try clear ho0)
   refine hK.out _ _ ⟨kc BK111 0, kc BK111 1, kc BK111 2, kc BK111 3, kc BK111 4⟩ (fun hHeld => ?_)
   clear hK K
   refine nq 57 ?_
   refine one_ (i := 4) (N := some 59) (bl 13 31) rfl rfl (one_of HT_.out (by kernel_rfl)) (by decide) (fun K hK => ?_)
   refine goes_ Tryd.func15 (by kernel_rfl) rfl #[.slice Ao37 t112.length co37] (by rfl) rfl rfl (by (try simp only [List.map_toArray, List.map_cons, List.map_nil]); first | done | rfl | (simp only [List.length_drop, List.length_take]; rfl)) ?_
   with_reducible refine (smaltolaw03_ints.calls _ _ t112 t125 _ ?side1 ?side2 A28.out).mono ?_
   (case side1 => exact rC HO_9)
   (case side2 => exact (Kd.R_reads' HO_9.out).2.1)
   rintro e w40 ⟨v126, rfl, ho0, hb⟩
   refine ⟨_, rfl, ?_⟩
   have n0_ := RB HO_8 hb
   have n1_ := Aside0.mk (Kd.R_elder' (R_ HO_9) (Kd.R_base ho0) hb)
   have n2_ := Aside0.mk (Kd.R_elder' (R_ HO_10) (Kd.R_base ho0) hb)
   have n3_ := RB HO124 hb
   have n4_ := Aside0.mk (Kd.R_lower (Kd.R_new' (Kd.R_new' ho0 (Kd.R_lt (R_ HO_9))) (Kd.R_lt (R_ HO_10))) (below_size (Bq HB)))
   have n5_ := bb BK101 hb
   have n6_ := bb BK102 hb
   have n7_ := bb BK111 hb
   have n8_ := Aside0.mk (below_step (Bq HB) hb)
   clear HO_8
   clear HO_9
   clear HO_10
   clear HO124
   clear BK101
   clear BK102
   clear BK111
   clear HB
   have HO_8 := n0_
   have HO_9 := n1_
   have HO_10 := n2_
   have HO124 := n3_
   have HO127 := n4_
   have BK101 := n5_
   have BK102 := n6_
   have BK111 := n7_
   have HB := n8_
   clear n0_ n1_ n2_ n3_ n4_ n5_ n6_ n7_ n8_
   (try clear hb)
   (try clear hb2)
   (try clear hk)
   (try clear hi)
   (try clear ho0)
   obtain ⟨Ao41, co41, eo41⟩ := Kd.R_slice HO124.out
   (first | subst eo41 | (injection eo41 with f1_ f2_ f3_; have f4_ := f1_.symm; have f5_ := f3_.symm; clear f1_ f2_ f3_; subst f4_; subst f5_))
   obtain ⟨Ao42, co42, eo42⟩ := Kd.R_slice HO127.out
   (first | subst eo42 | (injection eo42 with f1_ f2_ f3_; have f4_ := f1_.symm; have f5_ := f3_.symm; clear f1_ f2_ f3_; subst f4_; subst f5_))
   refine hK.out _ _ ⟨kc BK111 0, kc BK111 1, kc BK111 2, kc BK111 3, kc BK111 4⟩ (fun hHeld => ?_)
   clear hK K
   refine nq 59 ?_
   refine one_ (i := 5) (N := some 60) (bl 13 63) rfl rfl (one_of HT_.out (by kernel_rfl)) (by decide) (fun K hK => ?_)
   refine goes_ Tryd.func17 (by kernel_rfl) rfl #[.agg #[.int .i64 t103, .int .i64 t104, .int .i64 t105, .int .i64 t106, .int .i64 t107], .slice Ao41 t122.length co41, .slice Ao42 t125.length co42] (by rfl) rfl rfl (by (try simp only [List.map_toArray, List.map_cons, List.map_nil]); first | done | rfl | (simp only [List.length_drop, List.length_take]; rfl)) ?_
   with_reducible refine (goesC.calls t103 t104 t105 t106 t107 _ _ t122 _ _ t125 t128 t129 _ ?side5 ?side1 ?side2 ?side3 ?side4 A29.out).mono ?_
   (case side1 => exact rC HO124)
   (case side2 => exact (Kd.R_reads' HO124.out).2.1)
   (case side3 => exact rC HO127)
   (case side4 => exact (Kd.R_reads' HO127.out).2.1)
   (case side5 => exact Hand.TabW.below HTAB.out (Bq HB))
   rintro e w43 ⟨rfl, hb⟩
   refine ⟨_, rfl, ?_⟩
   have n0_ := RB HO_8 hb
   have n1_ := RB HO_9 hb
   have n2_ := RB HO_10 hb
   have n3_ := RB HO124 hb
   have n4_ := RB HO127 hb
   have n5_ := bb BK101 hb
   have n6_ := bb BK102 hb
   have n7_ := bb BK111 hb
   have n8_ := Aside0.mk (below_step (Bq HB) hb)
   clear HO_8
   clear HO_9
   clear HO_10
   clear HO124
   clear HO127
   clear BK101
   clear BK102
   clear BK111
   clear HB
   have HO_8 := n0_
   have HO_9 := n1_
   have HO_10 := n2_
   have HO124 := n3_
   have HO127 := n4_
   have BK101 := n5_
   have BK102 := n6_
   have BK111 := n7_
   have HB := n8_
   clear n0_ n1_ n2_ n3_ n4_ n5_ n6_ n7_ n8_
   (try clear hb)
   (try clear hb2)
   (try clear hk)
   (try clear hi)
   refine hK.out _ _ ⟨kc BK111 0, kc BK111 1, kc BK111 2, kc BK111 3, kc BK111 4⟩ (fun hHeld => ?_)
   clear hK K
   refine nq 60 ?_
   refine pS 6 54 13 127 HT_ ?_
   refine pS 7 61 13 255 HT_ ?_
   refine pS 8 62 13 511 HT_ ?_
   refine pS 9 63 13 1023 HT_ ?_
   refine pS 10 12 13 2047 HT_ ?_
   refine pS 11 13 13 4095 HT_ ?_
   refine pS 12 14 13 8191 HT_ ?_
   refine done_ (done_of HT_.out (by kernel_rfl)) ?_
   try go_wp2
   have n0_ := Aside0.mk (Kd.R_drew HO_8.out)
   have n1_ := Aside0.mk (Kd.R_drew HO_9.out)
   have n2_ := Aside0.mk (Kd.R_drew HO_10.out)
   have n3_ := Aside0.mk (Kd.R_drew HO124.out)
   have n4_ := Aside0.mk (Kd.R_drew HO127.out)
   have n5_ := Aside0.mk (blk_drew BK101.out)
   have n6_ := Aside0.mk (blk_drew BK102.out)
   have n7_ := Aside0.mk (blk_drew BK111.out)
   have n8_ := Aside0.mk (below_drew1 HB.out)
   clear HO_8
   clear HO_9
   clear HO_10
   clear HO124
   clear HO127
   clear BK101
   clear BK102
   clear BK111
   clear HB
   have HO_8 := n0_
   have HO_9 := n1_
   have HO_10 := n2_
   have HO124 := n3_
   have HO127 := n4_
   have BK101 := n5_
   have BK102 := n6_
   have BK111 := n7_
   have HB := n8_
   clear n0_ n1_ n2_ n3_ n4_ n5_ n6_ n7_ n8_
   refine start_ (n := 11) (S := fun w' => w'.cell? ⟨gb111, 0, none⟩ = some (.int .i64 t103) ∧ w'.cell? ⟨gb111, 1, none⟩ = some (.int .i64 t104) ∧ w'.cell? ⟨gb111, 2, none⟩ = some (.int .i64 t105) ∧ w'.cell? ⟨gb111, 3, none⟩ = some (.int .i64 t106) ∧ w'.cell? ⟨gb111, 4, none⟩ = some (.int .i64 t107)) (ds := []) (bl 11 0) (by kernel_rfl) rfl rfl ⟨kc BK111 0, kc BK111 1, kc BK111 2, kc BK111 3, kc BK111 4⟩ (fun hHeld => ?_); refine with_tabW lR.tab8 lR.bits8 (fun HT_ HW_ => ?_)
   generalize w43.drew = w44 at HO_8 HO_9 HO_10 HO124 HO127 BK101 BK102 BK111 HB hHeld ⊢
   refine pS 1 66 11 2 HT_ ?_
   refine pS 3 68 11 10 HT_ ?_
   refine tq 0 (some 65) (bl 11 11) HT_ HW_ hHeld (h := ?_)
   refine one_ (i := 2) (N := some 67) (bl 11 15) rfl rfl (one_of HT_.out (by kernel_rfl)) (by decide) (fun K hK => ?_)
   refine goes_ Tryd.func43 (by kernel_rfl) rfl #[.slice Ao15 t108.length co15] (by rfl) rfl rfl (by (try simp only [List.map_toArray, List.map_cons, List.map_nil]); first | done | rfl | (simp only [List.length_drop, List.length_take]; rfl)) ?_
   with_reducible refine (smaltolaw03_own.calls _ _ t108 t131 _ ?side1 ?side2 A30.out).mono ?_
   (case side1 => exact rC HO_8)
   (case side2 => exact (Kd.R_reads' HO_8.out).2.1)
   rintro e w45 ⟨v132, rfl, ho0, hb⟩
   refine ⟨_, rfl, ?_⟩
   have n0_ := Aside0.mk (Kd.R_elder' (R_ HO_8) (Kd.R_base ho0) hb)
   have n1_ := RB HO_9 hb
   have n2_ := RB HO_10 hb
   have n3_ := Aside0.mk (Kd.R_elder' (R_ HO124) (Kd.R_base ho0) hb)
   have n4_ := RB HO127 hb
   have n5_ := Aside0.mk (Kd.R_lower (Kd.R_new' (Kd.R_new' ho0 (Kd.R_lt (R_ HO_8))) (Kd.R_lt (R_ HO124))) (below_size (Bq HB)))
   have n6_ := bb BK101 hb
   have n7_ := bb BK102 hb
   have n8_ := bb BK111 hb
   have n9_ := Aside0.mk (below_step (Bq HB) hb)
   clear HO_8
   clear HO_9
   clear HO_10
   clear HO124
   clear HO127
   clear BK101
   clear BK102
   clear BK111
   clear HB
   have HO_8 := n0_
   have HO_9 := n1_
   have HO_10 := n2_
   have HO124 := n3_
   have HO127 := n4_
   have HO133 := n5_
   have BK101 := n6_
   have BK102 := n7_
   have BK111 := n8_
   have HB := n9_
   clear n0_ n1_ n2_ n3_ n4_ n5_ n6_ n7_ n8_ n9_
   (try clear hb)
   (try clear hb2)
   (try clear hk)
   (try clear hi)
   (try clear ho0)
   refine hK.out _ _ ⟨kc BK111 0, kc BK111 1, kc BK111 2, kc BK111 3, kc BK111 4⟩ (fun hHeld => ?_)
   clear hK K
   refine nq 67 ?_
   refine one_ (i := 4) (N := some 69) (bl 11 31) rfl rfl (one_of HT_.out (by kernel_rfl)) (by decide) (fun K hK => ?_)
   refine goes_ Tryd.func15 (by kernel_rfl) rfl #[.slice Ao37 t112.length co37] (by rfl) rfl rfl (by (try simp only [List.map_toArray, List.map_cons, List.map_nil]); first | done | rfl | (simp only [List.length_drop, List.length_take]; rfl)) ?_
   with_reducible refine (smaltolaw03_ints.calls _ _ t112 t134 _ ?side1 ?side2 A31.out).mono ?_
   (case side1 => exact rC HO_9)
   (case side2 => exact (Kd.R_reads' HO_9.out).2.1)
   rintro e w46 ⟨v135, rfl, ho0, hb⟩
   refine ⟨_, rfl, ?_⟩
   have n0_ := RB HO_8 hb
   have n1_ := Aside0.mk (Kd.R_elder' (R_ HO_9) (Kd.R_base ho0) hb)
   have n2_ := Aside0.mk (Kd.R_elder' (R_ HO_10) (Kd.R_base ho0) hb)
   have n3_ := RB HO124 hb
   have n4_ := Aside0.mk (Kd.R_elder' (R_ HO127) (Kd.R_base ho0) hb)
   have n5_ := RB HO133 hb
   have n6_ := Aside0.mk (Kd.R_lower (Kd.R_new' (Kd.R_new' (Kd.R_new' ho0 (Kd.R_lt (R_ HO_9))) (Kd.R_lt (R_ HO_10))) (Kd.R_lt (R_ HO127))) (below_size (Bq HB)))
   have n7_ := bb BK101 hb
   have n8_ := bb BK102 hb
   have n9_ := bb BK111 hb
   have n10_ := Aside0.mk (below_step (Bq HB) hb)
   clear HO_8
   clear HO_9
   clear HO_10
   clear HO124
   clear HO127
   clear HO133
   clear BK101
   clear BK102
   clear BK111
   clear HB
   have HO_8 := n0_
   have HO_9 := n1_
   have HO_10 := n2_
   have HO124 := n3_
   have HO127 := n4_
   have HO133 := n5_
   have HO136 := n6_
   have BK101 := n7_
   have BK102 := n8_
   have BK111 := n9_
   have HB := n10_
   clear n0_ n1_ n2_ n3_ n4_ n5_ n6_ n7_ n8_ n9_ n10_
   (try clear hb)
   (try clear hb2)
   (try clear hk)
   (try clear hi)
   (try clear ho0)
   obtain ⟨Ao47, co47, eo47⟩ := Kd.R_slice HO133.out
   (first | subst eo47 | (injection eo47 with f1_ f2_ f3_; have f4_ := f1_.symm; have f5_ := f3_.symm; clear f1_ f2_ f3_; subst f4_; subst f5_))
   obtain ⟨Ao48, co48, eo48⟩ := Kd.R_slice HO136.out
   (first | subst eo48 | (injection eo48 with f1_ f2_ f3_; have f4_ := f1_.symm; have f5_ := f3_.symm; clear f1_ f2_ f3_; subst f4_; subst f5_))
   refine hK.out _ _ ⟨kc BK111 0, kc BK111 1, kc BK111 2, kc BK111 3, kc BK111 4⟩ (fun hHeld => ?_)
   clear hK K
   refine nq 69 ?_
   refine one_ (i := 5) (N := some 70) (bl 11 63) rfl rfl (one_of HT_.out (by kernel_rfl)) (by decide) (fun K hK => ?_)
   refine goes_ Tryd.func18 (by kernel_rfl) rfl #[.agg #[.int .i64 t103, .int .i64 t104, .int .i64 t105, .int .i64 t106, .int .i64 t107], .slice Ao47 t131.length co47, .slice Ao48 t134.length co48] (by rfl) rfl rfl (by (try simp only [List.map_toArray, List.map_cons, List.map_nil]); first | done | rfl | (simp only [List.length_drop, List.length_take]; rfl)) ?_
   with_reducible refine (fork_Bars.calls t103 t104 t105 t106 t107 _ _ t131 _ _ t134 t137 t140 _ ?side5 ?side1 ?side2 ?side3 ?side4 A32.out).mono ?_
   (case side1 => exact rC HO133)
   (case side2 => exact (Kd.R_reads' HO133.out).2.1)
   (case side3 => exact rC HO136)
   (case side4 => exact (Kd.R_reads' HO136.out).2.1)
   (case side5 => exact Hand.TabW.below HTAB.out (Bq HB))
   rintro e w49 ⟨v138, rfl, ho0, hb⟩
   refine ⟨_, rfl, ?_⟩
   have n0_ := RB HO_8 hb
   have n1_ := Aside0.mk (Kd.R_elder' (R_ HO_9) (Kd.R_base ho0) hb)
   have n2_ := Aside0.mk (Kd.R_elder' (R_ HO_10) (Kd.R_base ho0) hb)
   have n3_ := RB HO124 hb
   have n4_ := Aside0.mk (Kd.R_elder' (R_ HO127) (Kd.R_base ho0) hb)
   have n5_ := RB HO133 hb
   have n6_ := Aside0.mk (Kd.R_elder' (R_ HO136) (Kd.R_base ho0) hb)
   have n7_ := Aside0.mk (Kd.R_lower (Kd.R_new' (Kd.R_new' (Kd.R_new' (Kd.R_new' ho0 (Kd.R_lt (R_ HO_9))) (Kd.R_lt (R_ HO_10))) (Kd.R_lt (R_ HO127))) (Kd.R_lt (R_ HO136))) (below_size (Bq HB)))
   have n8_ := bb BK101 hb
   have n9_ := bb BK102 hb
   have n10_ := bb BK111 hb
   have n11_ := Aside0.mk (below_step (Bq HB) hb)
   clear HO_8
   clear HO_9
   clear HO_10
   clear HO124
   clear HO127
   clear HO133
   clear HO136
   clear BK101
   clear BK102
   clear BK111
   clear HB
   have HO_8 := n0_
   have HO_9 := n1_
   have HO_10 := n2_
   have HO124 := n3_
   have HO127 := n4_
   have HO133 := n5_
   have HO136 := n6_
   have HO139 := n7_
   have BK101 := n8_
   have BK102 := n9_
   have BK111 := n10_
   have HB := n11_
   clear n0_ n1_ n2_ n3_ n4_ n5_ n6_ n7_ n8_ n9_ n10_ n11_
   (try clear hb)
   (try clear hb2)
   (try clear hk)
   (try clear hi)
   (try clear ho0)
   refine hK.out _ _ ⟨kc BK111 0, kc BK111 1, kc BK111 2, kc BK111 3, kc BK111 4⟩ (fun hHeld => ?_)
   clear hK K
   refine nq 70 ?_
   refine pS 6 64 11 127 HT_ ?_
   refine pS 7 71 11 255 HT_ ?_
   refine pS 8 72 11 511 HT_ ?_
   refine pS 9 15 11 1023 HT_ ?_
   refine pS 10 16 11 2047 HT_ ?_
   refine done_ (done_of HT_.out (by kernel_rfl)) ?_
   try go_wp2
   have n0_ := Aside0.mk (Kd.R_drew HO_8.out)
   have n1_ := Aside0.mk (Kd.R_drew HO_9.out)
   have n2_ := Aside0.mk (Kd.R_drew HO_10.out)
   have n3_ := Aside0.mk (Kd.R_drew HO124.out)
   have n4_ := Aside0.mk (Kd.R_drew HO127.out)
   have n5_ := Aside0.mk (Kd.R_drew HO133.out)
   have n6_ := Aside0.mk (Kd.R_drew HO136.out)
   have n7_ := Aside0.mk (Kd.R_drew HO139.out)
   have n8_ := Aside0.mk (blk_drew BK101.out)
   have n9_ := Aside0.mk (blk_drew BK102.out)
   have n10_ := Aside0.mk (blk_drew BK111.out)
   have n11_ := Aside0.mk (below_drew1 HB.out)
   clear HO_8
   clear HO_9
   clear HO_10
   clear HO124
   clear HO127
   clear HO133
   clear HO136
   clear HO139
   clear BK101
   clear BK102
   clear BK111
   clear HB
   have HO_8 := n0_
   have HO_9 := n1_
   have HO_10 := n2_
   have HO124 := n3_
   have HO127 := n4_
   have HO133 := n5_
   have HO136 := n6_
   have HO139 := n7_
   have BK101 := n8_
   have BK102 := n9_
   have BK111 := n10_
   have HB := n11_
   clear n0_ n1_ n2_ n3_ n4_ n5_ n6_ n7_ n8_ n9_ n10_ n11_
   refine start_ (n := 12) (S := fun w' => w'.cell? ⟨gb111, 0, none⟩ = some (.int .i64 t103) ∧ w'.cell? ⟨gb111, 1, none⟩ = some (.int .i64 t104) ∧ w'.cell? ⟨gb111, 2, none⟩ = some (.int .i64 t105) ∧ w'.cell? ⟨gb111, 3, none⟩ = some (.int .i64 t106) ∧ w'.cell? ⟨gb111, 4, none⟩ = some (.int .i64 t107)) (ds := []) (bl 12 0) (by kernel_rfl) rfl rfl ⟨kc BK111 0, kc BK111 1, kc BK111 2, kc BK111 3, kc BK111 4⟩ (fun hHeld => ?_); refine with_tabW lR.tab9 lR.bits9 (fun HT_ HW_ => ?_)
   generalize w49.drew = w50 at HO_8 HO_9 HO_10 HO124 HO127 HO133 HO136 HO139 BK101 BK102 BK111 HB hHeld ⊢
   refine pS 1 75 12 2 HT_ ?_
   refine pS 3 77 12 10 HT_ ?_
   refine tq 0 (some 74) (bl 12 11) HT_ HW_ hHeld (h := ?_)
   refine join_ (σ := Value × Value × Nat) 2 (bl 12 1023) (fun s_ => [(76, s_.1), (78, s_.2.1), (79, .tuple #[.agg #[.int .i64 t147, .int .i64 t148], .int .i64 t149]), (17, .pointer (some ⟨s_.2.2, 0, none⟩)), (73, .tuple #[.agg #[.int .i64 t147, .int .i64 t148], .int .i64 t149]), (80, .agg #[.int .i64 t147, .int .i64 t148]), (81, .int .i64 t149)]) (fun s_ w' => (w'.cell? ⟨gb111, 0, none⟩ = some (.int .i64 t103) ∧ w'.cell? ⟨gb111, 1, none⟩ = some (.int .i64 t104) ∧ w'.cell? ⟨gb111, 2, none⟩ = some (.int .i64 t105) ∧ w'.cell? ⟨gb111, 3, none⟩ = some (.int .i64 t106) ∧ w'.cell? ⟨gb111, 4, none⟩ = some (.int .i64 t107)) ∧ (Kd.R k74 74 w' w.heap.size (fun k_ => some k_ ≠ (.slice Ao47 t131.length co47 : Value).ownBlock ∧ some k_ ≠ (s_.1 : Value).ownBlock ∧ some k_ ≠ (.slice Ao15 t108.length co15 : Value).ownBlock) (.slice Ao41 t122.length co41) t122) ∧ (Kd.R (Kd.int .i64) 3 w' w.heap.size (fun k_ => some k_ ≠ (.slice Ao48 t134.length co48 : Value).ownBlock ∧ some k_ ≠ (v138 : Value).ownBlock ∧ some k_ ≠ (s_.2.1 : Value).ownBlock ∧ some k_ ≠ (u10 : Value).ownBlock ∧ some k_ ≠ (.slice Ao37 t112.length co37 : Value).ownBlock) (.slice Ao42 t125.length co42) t125) ∧ (Kd.R k74 74 w' w.heap.size (fun k_ => some k_ ≠ (.slice Ao41 t122.length co41 : Value).ownBlock ∧ some k_ ≠ (s_.1 : Value).ownBlock ∧ some k_ ≠ (.slice Ao15 t108.length co15 : Value).ownBlock) (.slice Ao47 t131.length co47) t131) ∧ (Kd.R (Kd.int .i64) 3 w' w.heap.size (fun k_ => some k_ ≠ (.slice Ao42 t125.length co42 : Value).ownBlock ∧ some k_ ≠ (v138 : Value).ownBlock ∧ some k_ ≠ (s_.2.1 : Value).ownBlock ∧ some k_ ≠ (u10 : Value).ownBlock ∧ some k_ ≠ (.slice Ao37 t112.length co37 : Value).ownBlock) (.slice Ao48 t134.length co48) t134) ∧ (Kd.R (Kd.int .i64) 3 w' w.heap.size (fun k_ => some k_ ≠ (.slice Ao42 t125.length co42 : Value).ownBlock ∧ some k_ ≠ (.slice Ao48 t134.length co48 : Value).ownBlock ∧ some k_ ≠ (s_.2.1 : Value).ownBlock ∧ some k_ ≠ (u10 : Value).ownBlock ∧ some k_ ≠ (.slice Ao37 t112.length co37 : Value).ownBlock) v138 t137) ∧ (Kd.R k74 74 w' w.heap.size (fun k_ => some k_ ≠ (.slice Ao41 t122.length co41 : Value).ownBlock ∧ some k_ ≠ (.slice Ao47 t131.length co47 : Value).ownBlock ∧ some k_ ≠ (.slice Ao15 t108.length co15 : Value).ownBlock) s_.1 t141) ∧ (Kd.R (Kd.int .i64) 3 w' w.heap.size (fun k_ => some k_ ≠ (.slice Ao42 t125.length co42 : Value).ownBlock ∧ some k_ ≠ (.slice Ao48 t134.length co48 : Value).ownBlock ∧ some k_ ≠ (v138 : Value).ownBlock ∧ some k_ ≠ (u10 : Value).ownBlock ∧ some k_ ≠ (.slice Ao37 t112.length co37 : Value).ownBlock) s_.2.1 t144) ∧ (Kd.R (Kd.int .i64) 3 w' w.heap.size (fun k_ => some k_ ≠ (.slice Ao42 t125.length co42 : Value).ownBlock ∧ some k_ ≠ (.slice Ao48 t134.length co48 : Value).ownBlock ∧ some k_ ≠ (v138 : Value).ownBlock ∧ some k_ ≠ (s_.2.1 : Value).ownBlock ∧ some k_ ≠ (.slice Ao37 t112.length co37 : Value).ownBlock) u10 x10_1) ∧ (Kd.R k74 74 w' w.heap.size (fun k_ => some k_ ≠ (.slice Ao41 t122.length co41 : Value).ownBlock ∧ some k_ ≠ (.slice Ao47 t131.length co47 : Value).ownBlock ∧ some k_ ≠ (s_.1 : Value).ownBlock) (.slice Ao15 t108.length co15) t108) ∧ (Kd.R (Kd.int .i64) 3 w' w.heap.size (fun k_ => some k_ ≠ (.slice Ao42 t125.length co42 : Value).ownBlock ∧ some k_ ≠ (.slice Ao48 t134.length co48 : Value).ownBlock ∧ some k_ ≠ (v138 : Value).ownBlock ∧ some k_ ≠ (s_.2.1 : Value).ownBlock ∧ some k_ ≠ (u10 : Value).ownBlock) (.slice Ao37 t112.length co37) t112) ∧ (w'.heap[gb101]? = some (.cells #[.int .u8 a0_0, .int .u8 a0_1, .int .u8 a0_2, .int .u8 a0_3, .int .u8 a0_4, .slice A0_5 l0_5.length c0_5] 66 (0, 0))) ∧ (w'.heap[gb102]? = some (.cells #[.int .u8 a2_0, .int .u8 a2_1, .int .u8 a2_2, .int .u8 a2_3, .int .u8 a2_4, .int .u8 a2_5] 67 (0, 0))) ∧ (w'.heap[gb111]? = some (.cells #[.int .i64 t103, .int .i64 t104, .int .i64 t105, .int .i64 t106, .int .i64 t107] 23 (0, 0))) ∧ (w'.heap[s_.2.2]? = some (.cells #[.int .i64 0, .int .i64 0] 36 (0, 0))) ∧ (w.heap.size ≤ s_.2.2) ∧ (w.heap.size ≤ s_.2.2) ∧ (gb101 ≠ s_.2.2) ∧ (s_.2.2 ≠ gb101) ∧ (gb102 ≠ s_.2.2) ∧ (s_.2.2 ≠ gb102) ∧ (gb111 ≠ s_.2.2) ∧ (s_.2.2 ≠ gb111) ∧ (Below w.heap.size w w')) ?_ ?_
   rotate_left
   ·rename_i z0_1 z0_2 z0_3 z0_4 z0_5 z0_6 z0_7 z0_8 z0_9 z0_10 z0_11 z0_12 z0_13 z0_14 z0_15 z0_16 z0_17 z0_18 z0_19 z0_20 z0_21 z0_22 z0_23 z0_24 z0_25 z0_26
    revert k a0_0 a0_1 a0_2 a0_3 a0_4 A0_5 c0_5 l0_5 a1 a2_0 a2_1 a2_2 a2_3 a2_4 a2_5 r w hu66 hu67 hu23 hu36 HTAB HR0_5 HC0_5 t103 t104 t105 t106 t107 t108 A4 t112 A5 y115 Ny115 z0_1 gb101 w6 GW101 GE101 gb102 w7 GW102 GE102 NB101_102 NB102_101 hnb8 hnc8 w10 gb111 w11 GW111 GE111 NB101_111 NB111_101 NB102_111 NB111_102 hnb12 hnc12 hnb13 hnc13 Ao15 co15 w16 v116 w17 HO110 z0_2 z0_3 z0_4 z0_5 z0_6 wr u10 u38 u39 u40 u41 u42 u43 u44 u45 u46 u47 u48 u49 u50 u51 u52 u53 z0_7 z0_8 x10_1 x11_1 k1 z0_9 HK1 c19b0 t122 A27 t125 A28 t128 t129 A29 t131 A30 t134 A31 t137 t140 A32 t141 A33 t144 A34 t147 t148 t149 A35 HC36 Ao37 co37 HO114 HO117 z0_10 z0_11 z0_12 z0_13 z0_14 w38 z0_15 w39 z0_16 w40 Ao41 co41 Ao42 co42 z0_17 w43 z0_18 z0_19 z0_20 w44 z0_21 w45 z0_22 w46 Ao47 co47 Ao48 co48 z0_23 w49 v138 z0_24 z0_25 z0_26 HT_ HW_ w50 HO_8 HO_9 HO_10 HO124 HO127 HO133 HO136 HO139 BK101 BK102 BK111 HB hHeld
    exact hG0_.out trivial
   rintro ⟨v142, v145, gb150⟩ w57 ⟨hS_, h0_, h1_, h2_, h3_, h4_, h5_, h6_, h7_, h8_, h9_, h10_, h11_, h12_, h13_, h14_, h15_, h16_, h17_, h18_, h19_, h20_, h21_, h22_⟩
   have n0_ : Aside0 (Kd.R k74 74 w57 w.heap.size (fun k_ => some k_ ≠ (.slice Ao47 t131.length co47 : Value).ownBlock ∧ some k_ ≠ (v142 : Value).ownBlock ∧ some k_ ≠ (.slice Ao15 t108.length co15 : Value).ownBlock) (.slice Ao41 t122.length co41) t122) := ⟨h0_⟩
   have n1_ : Aside0 (Kd.R (Kd.int .i64) 3 w57 w.heap.size (fun k_ => some k_ ≠ (.slice Ao48 t134.length co48 : Value).ownBlock ∧ some k_ ≠ (v138 : Value).ownBlock ∧ some k_ ≠ (v145 : Value).ownBlock ∧ some k_ ≠ (u10 : Value).ownBlock ∧ some k_ ≠ (.slice Ao37 t112.length co37 : Value).ownBlock) (.slice Ao42 t125.length co42) t125) := ⟨h1_⟩
   have n2_ : Aside0 (Kd.R k74 74 w57 w.heap.size (fun k_ => some k_ ≠ (.slice Ao41 t122.length co41 : Value).ownBlock ∧ some k_ ≠ (v142 : Value).ownBlock ∧ some k_ ≠ (.slice Ao15 t108.length co15 : Value).ownBlock) (.slice Ao47 t131.length co47) t131) := ⟨h2_⟩
   have n3_ : Aside0 (Kd.R (Kd.int .i64) 3 w57 w.heap.size (fun k_ => some k_ ≠ (.slice Ao42 t125.length co42 : Value).ownBlock ∧ some k_ ≠ (v138 : Value).ownBlock ∧ some k_ ≠ (v145 : Value).ownBlock ∧ some k_ ≠ (u10 : Value).ownBlock ∧ some k_ ≠ (.slice Ao37 t112.length co37 : Value).ownBlock) (.slice Ao48 t134.length co48) t134) := ⟨h3_⟩
   have n4_ : Aside0 (Kd.R (Kd.int .i64) 3 w57 w.heap.size (fun k_ => some k_ ≠ (.slice Ao42 t125.length co42 : Value).ownBlock ∧ some k_ ≠ (.slice Ao48 t134.length co48 : Value).ownBlock ∧ some k_ ≠ (v145 : Value).ownBlock ∧ some k_ ≠ (u10 : Value).ownBlock ∧ some k_ ≠ (.slice Ao37 t112.length co37 : Value).ownBlock) v138 t137) := ⟨h4_⟩
   have n5_ : Aside0 (Kd.R k74 74 w57 w.heap.size (fun k_ => some k_ ≠ (.slice Ao41 t122.length co41 : Value).ownBlock ∧ some k_ ≠ (.slice Ao47 t131.length co47 : Value).ownBlock ∧ some k_ ≠ (.slice Ao15 t108.length co15 : Value).ownBlock) v142 t141) := ⟨h5_⟩
   have n6_ : Aside0 (Kd.R (Kd.int .i64) 3 w57 w.heap.size (fun k_ => some k_ ≠ (.slice Ao42 t125.length co42 : Value).ownBlock ∧ some k_ ≠ (.slice Ao48 t134.length co48 : Value).ownBlock ∧ some k_ ≠ (v138 : Value).ownBlock ∧ some k_ ≠ (u10 : Value).ownBlock ∧ some k_ ≠ (.slice Ao37 t112.length co37 : Value).ownBlock) v145 t144) := ⟨h6_⟩
   have n7_ : Aside0 (Kd.R (Kd.int .i64) 3 w57 w.heap.size (fun k_ => some k_ ≠ (.slice Ao42 t125.length co42 : Value).ownBlock ∧ some k_ ≠ (.slice Ao48 t134.length co48 : Value).ownBlock ∧ some k_ ≠ (v138 : Value).ownBlock ∧ some k_ ≠ (v145 : Value).ownBlock ∧ some k_ ≠ (.slice Ao37 t112.length co37 : Value).ownBlock) u10 x10_1) := ⟨h7_⟩
   have n8_ : Aside0 (Kd.R k74 74 w57 w.heap.size (fun k_ => some k_ ≠ (.slice Ao41 t122.length co41 : Value).ownBlock ∧ some k_ ≠ (.slice Ao47 t131.length co47 : Value).ownBlock ∧ some k_ ≠ (v142 : Value).ownBlock) (.slice Ao15 t108.length co15) t108) := ⟨h8_⟩
   have n9_ : Aside0 (Kd.R (Kd.int .i64) 3 w57 w.heap.size (fun k_ => some k_ ≠ (.slice Ao42 t125.length co42 : Value).ownBlock ∧ some k_ ≠ (.slice Ao48 t134.length co48 : Value).ownBlock ∧ some k_ ≠ (v138 : Value).ownBlock ∧ some k_ ≠ (v145 : Value).ownBlock ∧ some k_ ≠ (u10 : Value).ownBlock) (.slice Ao37 t112.length co37) t112) := ⟨h9_⟩
   have n10_ : Aside0 (w57.heap[gb101]? = some (.cells #[.int .u8 a0_0, .int .u8 a0_1, .int .u8 a0_2, .int .u8 a0_3, .int .u8 a0_4, .slice A0_5 l0_5.length c0_5] 66 (0, 0))) := ⟨h10_⟩
   have n11_ : Aside0 (w57.heap[gb102]? = some (.cells #[.int .u8 a2_0, .int .u8 a2_1, .int .u8 a2_2, .int .u8 a2_3, .int .u8 a2_4, .int .u8 a2_5] 67 (0, 0))) := ⟨h11_⟩
   have n12_ : Aside0 (w57.heap[gb111]? = some (.cells #[.int .i64 t103, .int .i64 t104, .int .i64 t105, .int .i64 t106, .int .i64 t107] 23 (0, 0))) := ⟨h12_⟩
   have n13_ : Aside0 (w57.heap[gb150]? = some (.cells #[.int .i64 0, .int .i64 0] 36 (0, 0))) := ⟨h13_⟩
   have n14_ : Aside0 (w.heap.size ≤ gb150) := ⟨h14_⟩
   have n15_ : Aside0 (w.heap.size ≤ gb150) := ⟨h15_⟩
   have n16_ : Aside0 (gb101 ≠ gb150) := ⟨h16_⟩
   have n17_ : Aside0 (gb150 ≠ gb101) := ⟨h17_⟩
   have n18_ : Aside0 (gb102 ≠ gb150) := ⟨h18_⟩
   have n19_ : Aside0 (gb150 ≠ gb102) := ⟨h19_⟩
   have n20_ : Aside0 (gb111 ≠ gb150) := ⟨h20_⟩
   have n21_ : Aside0 (gb150 ≠ gb111) := ⟨h21_⟩
   have n22_ : Aside0 (Below w.heap.size w w57) := ⟨h22_⟩
   clear HO_8
   clear HO_9
   clear HO_10
   clear HO124
   clear HO127
   clear HO133
   clear HO136
   clear HO139
   clear BK101
   clear BK102
   clear BK111
   clear HB
   clear h0_ h1_ h2_ h3_ h4_ h5_ h6_ h7_ h8_ h9_ h10_ h11_ h12_ h13_ h14_ h15_ h16_ h17_ h18_ h19_ h20_ h21_ h22_
   have HO124 := n0_
   have HO127 := n1_
   have HO133 := n2_
   have HO136 := n3_
   have HO139 := n4_
   have HO143 := n5_
   have HO146 := n6_
   have HO_10 := n7_
   have HO_8 := n8_
   have HO_9 := n9_
   have BK101 := n10_
   have BK102 := n11_
   have BK111 := n12_
   have BK150 := n13_
   have GW150 := n14_
   have GE150 := n15_
   have NB101_150 := n16_
   have NB150_101 := n17_
   have NB102_150 := n18_
   have NB150_102 := n19_
   have NB111_150 := n20_
   have NB150_111 := n21_
   have HB := n22_
   clear n0_ n1_ n2_ n3_ n4_ n5_ n6_ n7_ n8_ n9_ n10_ n11_ n12_ n13_ n14_ n15_ n16_ n17_ n18_ n19_ n20_ n21_ n22_
   have hHeld : w57.cell? ⟨gb111, 0, none⟩ = some (.int .i64 t103) ∧ w57.cell? ⟨gb111, 1, none⟩ = some (.int .i64 t104) ∧ w57.cell? ⟨gb111, 2, none⟩ = some (.int .i64 t105) ∧ w57.cell? ⟨gb111, 3, none⟩ = some (.int .i64 t106) ∧ w57.cell? ⟨gb111, 4, none⟩ = some (.int .i64 t107) := hS_
   refine norm_ (a' := ?_) ?_ ?_
   rotate_left
   ·simp only [putAll, Act.put, List.setIfInBounds_toArray, List.set_cons_zero, List.set_cons_succ]
    rfl
   refine one_ (i := 10) (N := none) (bl 12 2047) rfl rfl (one_of HT_.out (by kernel_rfl)) (by decide) (fun K hK => ?_)
   have hs58 : w57.cell? ⟨gb150, 0, none⟩ = some (.int .i64 0) := kc BK150 0
   have hfs58 := blk_frozen BK150.out 0
   have hns58_0 := NB101_150.out
   have hns58_1 := NB102_150.out
   have hns58_2 := NB111_150.out
   have hms58_0 := NB150_101.out
   have hms58_1 := NB150_102.out
   have hms58_2 := NB150_111.out
   have hs59 : w57.cell? ⟨gb150, 1, none⟩ = some (.int .i64 0) := kc BK150 1
   have hfs59 := blk_frozen BK150.out 1
   have hns59_0 := NB101_150.out
   have hns59_1 := NB102_150.out
   have hns59_2 := NB111_150.out
   have hms59_0 := NB150_101.out
   have hms59_1 := NB150_102.out
   have hms59_2 := NB150_111.out
   refine skip_ (w1 := ?_) (by rfl) rfl ?_ ?_
   rotate_left
   ·go_simp
    rfl
   refine hK.out _ _ ⟨((cell_far (p := ⟨gb150, _, none⟩) NB111_150.out _).trans (((cell_far (p := ⟨gb150, _, none⟩) NB111_150.out _).trans (hHeld.1)))), ((cell_far (p := ⟨gb150, _, none⟩) NB111_150.out _).trans (((cell_far (p := ⟨gb150, _, none⟩) NB111_150.out _).trans (hHeld.2.1)))), ((cell_far (p := ⟨gb150, _, none⟩) NB111_150.out _).trans (((cell_far (p := ⟨gb150, _, none⟩) NB111_150.out _).trans (hHeld.2.2.1)))), ((cell_far (p := ⟨gb150, _, none⟩) NB111_150.out _).trans (((cell_far (p := ⟨gb150, _, none⟩) NB111_150.out _).trans (hHeld.2.2.2.1)))), ((cell_far (p := ⟨gb150, _, none⟩) NB111_150.out _).trans (((cell_far (p := ⟨gb150, _, none⟩) NB111_150.out _).trans (hHeld.2.2.2.2))))⟩ (fun hHeld => ?_)
   clear hK K
   refine pS 11 18 12 4095 HT_ ?_
   refine done_ (done_of HT_.out (by kernel_rfl)) ?_
   go_upto_region 10 with (fail)
   go_cut [124] (fun v124 wc => ∃ (kq : Nat) (x124_35 : Bool), v124 = .bool x124_35 ∧ Aside0 (lR.j1 kq t108 t112 x10_1 t128 t129 t137 t140 t149 x124_35 t103 t104 t105 t106 t107 t147 t148 = some r) ∧ Aside0 (kq ≤ k1) ∧ Aside0 (Kd.R k74 74 wc w.heap.size (fun _ => True) (.slice Ao15 t108.length co15) t108) ∧ Aside0 (Kd.R (Kd.int .i64) 3 wc w.heap.size (fun k_ => some k_ ≠ (u10 : Value).ownBlock ∧ some k_ ≠ (v138 : Value).ownBlock) (.slice Ao37 t112.length co37) t112) ∧ Aside0 (Kd.R (Kd.int .i64) 3 wc w.heap.size (fun k_ => some k_ ≠ ((.slice Ao37 t112.length co37) : Value).ownBlock ∧ some k_ ≠ (v138 : Value).ownBlock) u10 x10_1) ∧ Aside0 (Kd.R (Kd.int .i64) 3 wc w.heap.size (fun k_ => some k_ ≠ ((.slice Ao37 t112.length co37) : Value).ownBlock ∧ some k_ ≠ (u10 : Value).ownBlock) v138 t137) ∧ Aside0 (wc.heap[gb101]? = some (.cells #[.int .u8 a0_0, .int .u8 a0_1, .int .u8 a0_2, .int .u8 a0_3, .int .u8 a0_4, (.slice A0_5 l0_5.length c0_5)] 66 (0, 0))) ∧ Aside0 (wc.heap[gb102]? = some (.cells #[.int .u8 a2_0, .int .u8 a2_1, .int .u8 a2_2, .int .u8 a2_3, .int .u8 a2_4, .int .u8 a2_5] 67 (0, 0))) ∧ Aside0 (wc.heap[gb111]? = some (.cells #[.int .i64 t103, .int .i64 t104, .int .i64 t105, .int .i64 t106, .int .i64 t107] 23 (0, 0))) ∧ Aside0 (wc.heap[gb150]? = some (.cells #[.int .i64 t147, .int .i64 t148] 36 (0, 0))) ∧ Aside0 (Below w.heap.size w wc))
   case first =>
    have H := HC36.out
    clear HC36
    by_cases c60 : t140 = 0
    ·rename_i z0_1 z0_2 z0_3 z0_4 z0_5 z0_6 z0_7 z0_8 z0_9 z0_10 z0_11 z0_12 z0_13 z0_14 z0_15 z0_16 z0_17 z0_18 z0_19 z0_20 z0_21 z0_22 z0_23 z0_24 z0_25 z0_26 z0_27 z0_28 z0_29 z0_30 z0_31 z0_32 z0_33 z0_34
     revert k a0_0 a0_1 a0_2 a0_3 a0_4 A0_5 c0_5 l0_5 a1 a2_0 a2_1 a2_2 a2_3 a2_4 a2_5 r w hu66 hu67 hu23 hu36 HTAB HR0_5 HC0_5 t103 t104 t105 t106 t107 t108 A4 t112 A5 y115 Ny115 z0_1 gb101 w6 GW101 GE101 gb102 w7 GW102 GE102 NB101_102 NB102_101 hnb8 hnc8 w10 gb111 w11 GW111 GE111 NB101_111 NB111_101 NB102_111 NB111_102 hnb12 hnc12 hnb13 hnc13 Ao15 co15 w16 v116 w17 HO110 z0_2 z0_3 z0_4 z0_5 z0_6 wr u10 u38 u39 u40 u41 u42 u43 u44 u45 u46 u47 u48 u49 u50 u51 u52 u53 z0_7 z0_8 x10_1 x11_1 k1 z0_9 HK1 c19b0 t122 A27 t125 A28 t128 t129 A29 t131 A30 t134 A31 t137 t140 A32 t141 A33 t144 A34 t147 t148 t149 A35 Ao37 co37 HO114 HO117 z0_10 z0_11 z0_12 z0_13 z0_14 w38 z0_15 w39 z0_16 w40 Ao41 co41 Ao42 co42 z0_17 w43 z0_18 z0_19 z0_20 w44 z0_21 w45 z0_22 w46 Ao47 co47 Ao48 co48 z0_23 w49 v138 z0_24 HT_ HW_ w50 z0_25 v142 v145 gb150 w57 hS_ HO124 HO127 HO133 HO136 HO139 HO143 HO146 HO_10 HO_8 HO_9 BK101 BK102 BK111 BK150 GW150 GE150 NB101_150 NB150_101 NB102_150 NB150_102 NB111_150 NB150_111 HB z0_26 hs58 hfs58 hns58_0 hns58_1 hns58_2 hms58_0 hms58_1 hms58_2 hs59 hfs59 hns59_0 hns59_1 hns59_2 hms59_0 hms59_1 hms59_2 hHeld z0_27 z0_28 z0_29 z0_30 z0_31 z0_32 z0_33 z0_34 H c60
     exact hG1_.out trivial
    rw [if_neg c60] at H
    have c60b0 : (t140 == 0) = false := beq_eq_false_iff_ne.mpr c60
    have c60b1 : (t140 != 0) = true := bne_iff_ne.mpr c60
    (first | rw [c60b0] | (simp only [i64_w, i32_w]; rw [c60b0]) | skip)
    by_cases c89 : t140 = 7
    ·rename_i z0_1 z0_2 z0_3 z0_4 z0_5 z0_6 z0_7 z0_8 z0_9 z0_10 z0_11 z0_12 z0_13 z0_14 z0_15 z0_16 z0_17 z0_18 z0_19 z0_20 z0_21 z0_22 z0_23 z0_24 z0_25 z0_26 z0_27 z0_28 z0_29 z0_30 z0_31 z0_32 z0_33 z0_34
     revert k a0_0 a0_1 a0_2 a0_3 a0_4 A0_5 c0_5 l0_5 a1 a2_0 a2_1 a2_2 a2_3 a2_4 a2_5 r w hu66 hu67 hu23 hu36 HTAB HR0_5 HC0_5 t103 t104 t105 t106 t107 t108 A4 t112 A5 y115 Ny115 z0_1 gb101 w6 GW101 GE101 gb102 w7 GW102 GE102 NB101_102 NB102_101 hnb8 hnc8 w10 gb111 w11 GW111 GE111 NB101_111 NB111_101 NB102_111 NB111_102 hnb12 hnc12 hnb13 hnc13 Ao15 co15 w16 v116 w17 HO110 z0_2 z0_3 z0_4 z0_5 z0_6 wr u10 u38 u39 u40 u41 u42 u43 u44 u45 u46 u47 u48 u49 u50 u51 u52 u53 z0_7 z0_8 x10_1 x11_1 k1 z0_9 HK1 c19b0 t122 A27 t125 A28 t128 t129 A29 t131 A30 t134 A31 t137 t140 A32 t141 A33 t144 A34 t147 t148 t149 A35 Ao37 co37 HO114 HO117 z0_10 z0_11 z0_12 z0_13 z0_14 w38 z0_15 w39 z0_16 w40 Ao41 co41 Ao42 co42 z0_17 w43 z0_18 z0_19 z0_20 w44 z0_21 w45 z0_22 w46 Ao47 co47 Ao48 co48 z0_23 w49 v138 z0_24 HT_ HW_ w50 z0_25 v142 v145 gb150 w57 hS_ HO124 HO127 HO133 HO136 HO139 HO143 HO146 HO_10 HO_8 HO_9 BK101 BK102 BK111 BK150 GW150 GE150 NB101_150 NB150_101 NB102_150 NB150_102 NB111_150 NB150_111 HB z0_26 hs58 hfs58 hns58_0 hns58_1 hns58_2 hms58_0 hms58_1 hms58_2 hs59 hfs59 hns59_0 hns59_1 hns59_2 hms59_0 hms59_1 hms59_2 hHeld z0_27 z0_28 z0_29 z0_30 z0_31 z0_32 z0_33 z0_34 H c60 c60b0 c60b1 c89
     exact hG2_.out trivial
    rw [if_neg c89] at H
    have c89b0 : (t140 == 7) = false := beq_eq_false_iff_ne.mpr c89
    have c89b1 : (t140 != 7) = true := bne_iff_ne.mpr c89
    have H' := Aside0.mk H
    clear H
    try go_wp2
    have n0_ := fR2 HO_8 BK150 0 1 (.int .i64 t147) (.int .i64 t148) (fun k_ => some k_ ≠ (.slice Ao41 t122.length co41 : Value).ownBlock ∧ some k_ ≠ (.slice Ao47 t131.length co47 : Value).ownBlock ∧ some k_ ≠ (v142 : Value).ownBlock) (fun _ hk => ⟨hk.1.1, ⟨hk.1.2.1, hk.1.2.2⟩⟩)
    have n1_ := fR2 HO_9 BK150 0 1 (.int .i64 t147) (.int .i64 t148) (fun k_ => some k_ ≠ (u10 : Value).ownBlock ∧ some k_ ≠ (.slice Ao42 t125.length co42 : Value).ownBlock ∧ some k_ ≠ (.slice Ao48 t134.length co48 : Value).ownBlock ∧ some k_ ≠ (v138 : Value).ownBlock ∧ some k_ ≠ (v145 : Value).ownBlock) (fun _ hk => ⟨hk.1.2.2.2.2, ⟨hk.1.1, ⟨hk.1.2.1, ⟨hk.1.2.2.1, hk.1.2.2.2.1⟩⟩⟩⟩)
    have n2_ := fR2 HO_10 BK150 0 1 (.int .i64 t147) (.int .i64 t148) (fun k_ => some k_ ≠ (.slice Ao37 t112.length co37 : Value).ownBlock ∧ some k_ ≠ (.slice Ao42 t125.length co42 : Value).ownBlock ∧ some k_ ≠ (.slice Ao48 t134.length co48 : Value).ownBlock ∧ some k_ ≠ (v138 : Value).ownBlock ∧ some k_ ≠ (v145 : Value).ownBlock) (fun _ hk => ⟨hk.1.2.2.2.2, ⟨hk.1.1, ⟨hk.1.2.1, ⟨hk.1.2.2.1, hk.1.2.2.2.1⟩⟩⟩⟩)
    have n3_ := fR2 HO124 BK150 0 1 (.int .i64 t147) (.int .i64 t148) (fun k_ => some k_ ≠ (.slice Ao15 t108.length co15 : Value).ownBlock ∧ some k_ ≠ (.slice Ao47 t131.length co47 : Value).ownBlock ∧ some k_ ≠ (v142 : Value).ownBlock) (fun _ hk => ⟨hk.1.2.2, ⟨hk.1.1, hk.1.2.1⟩⟩)
    have n4_ := fR2 HO127 BK150 0 1 (.int .i64 t147) (.int .i64 t148) (fun k_ => some k_ ≠ (.slice Ao37 t112.length co37 : Value).ownBlock ∧ some k_ ≠ (u10 : Value).ownBlock ∧ some k_ ≠ (.slice Ao48 t134.length co48 : Value).ownBlock ∧ some k_ ≠ (v138 : Value).ownBlock ∧ some k_ ≠ (v145 : Value).ownBlock) (fun _ hk => ⟨hk.1.2.2.2.2, ⟨hk.1.2.2.2.1, ⟨hk.1.1, ⟨hk.1.2.1, hk.1.2.2.1⟩⟩⟩⟩)
    have n5_ := fR2 HO133 BK150 0 1 (.int .i64 t147) (.int .i64 t148) (fun k_ => some k_ ≠ (.slice Ao15 t108.length co15 : Value).ownBlock ∧ some k_ ≠ (.slice Ao41 t122.length co41 : Value).ownBlock ∧ some k_ ≠ (v142 : Value).ownBlock) (fun _ hk => ⟨hk.1.2.2, ⟨hk.1.1, hk.1.2.1⟩⟩)
    have n6_ := fR2 HO136 BK150 0 1 (.int .i64 t147) (.int .i64 t148) (fun k_ => some k_ ≠ (.slice Ao37 t112.length co37 : Value).ownBlock ∧ some k_ ≠ (u10 : Value).ownBlock ∧ some k_ ≠ (.slice Ao42 t125.length co42 : Value).ownBlock ∧ some k_ ≠ (v138 : Value).ownBlock ∧ some k_ ≠ (v145 : Value).ownBlock) (fun _ hk => ⟨hk.1.2.2.2.2, ⟨hk.1.2.2.2.1, ⟨hk.1.1, ⟨hk.1.2.1, hk.1.2.2.1⟩⟩⟩⟩)
    have n7_ := fR2 HO139 BK150 0 1 (.int .i64 t147) (.int .i64 t148) (fun k_ => some k_ ≠ (.slice Ao37 t112.length co37 : Value).ownBlock ∧ some k_ ≠ (u10 : Value).ownBlock ∧ some k_ ≠ (.slice Ao42 t125.length co42 : Value).ownBlock ∧ some k_ ≠ (.slice Ao48 t134.length co48 : Value).ownBlock ∧ some k_ ≠ (v145 : Value).ownBlock) (fun _ hk => ⟨hk.1.2.2.2.2, ⟨hk.1.2.2.2.1, ⟨hk.1.1, ⟨hk.1.2.1, hk.1.2.2.1⟩⟩⟩⟩)
    have n8_ := fR2 HO143 BK150 0 1 (.int .i64 t147) (.int .i64 t148) (fun k_ => some k_ ≠ (.slice Ao15 t108.length co15 : Value).ownBlock ∧ some k_ ≠ (.slice Ao41 t122.length co41 : Value).ownBlock ∧ some k_ ≠ (.slice Ao47 t131.length co47 : Value).ownBlock) (fun _ hk => ⟨hk.1.2.2, ⟨hk.1.1, hk.1.2.1⟩⟩)
    have n9_ := fR2 HO146 BK150 0 1 (.int .i64 t147) (.int .i64 t148) (fun k_ => some k_ ≠ (.slice Ao37 t112.length co37 : Value).ownBlock ∧ some k_ ≠ (u10 : Value).ownBlock ∧ some k_ ≠ (.slice Ao42 t125.length co42 : Value).ownBlock ∧ some k_ ≠ (.slice Ao48 t134.length co48 : Value).ownBlock ∧ some k_ ≠ (v138 : Value).ownBlock) (fun _ hk => ⟨hk.1.2.2.2.2, ⟨hk.1.2.2.2.1, ⟨hk.1.1, ⟨hk.1.2.1, hk.1.2.2.1⟩⟩⟩⟩)
    have n10_ := fB2 BK101 NB101_150 0 1 (.int .i64 t147) (.int .i64 t148)
    have n11_ := fB2 BK102 NB102_150 0 1 (.int .i64 t147) (.int .i64 t148)
    have n12_ := fB2 BK111 NB111_150 0 1 (.int .i64 t147) (.int .i64 t148)
    have n13_ : Aside0 (((w57.setCell ⟨gb150, 0, none⟩ (.int .i64 t147)).setCell ⟨gb150, 1, none⟩ (.int .i64 t148)).heap[gb150]? = some (.cells #[.int .i64 t147, .int .i64 t148] 36 (0, 0))) := ⟨by (with_reducible repeat (first | refine blk_drewN ?_ _ | refine blk_drew ?_ | refine blk_alloc ?_ _)); refine blk_put (cs := #[.int .i64 t147, .int .i64 0]) ?_ 1 _ rfl; (with_reducible repeat (first | refine blk_drewN ?_ _ | refine blk_drew ?_ | refine blk_alloc ?_ _)); refine blk_put (cs := #[.int .i64 0, .int .i64 0]) ?_ 0 _ rfl; (with_reducible repeat (first | refine blk_drewN ?_ _ | refine blk_drew ?_ | refine blk_alloc ?_ _)); exact BK150.out⟩
    have n14_ : Aside0 (Below w.heap.size w ((w57.setCell ⟨gb150, 0, none⟩ (.int .i64 t147)).setCell ⟨gb150, 1, none⟩ (.int .i64 t148))) := ⟨Bq HB⟩
    (try clear HO_8)
    (try clear HO_9)
    (try clear HO_10)
    (try clear HO124)
    (try clear HO127)
    (try clear HO133)
    (try clear HO136)
    (try clear HO139)
    (try clear HO143)
    (try clear HO146)
    (try clear BK101)
    (try clear BK102)
    (try clear BK111)
    (try clear BK150)
    (try clear HB)
    generalize ((w57.setCell ⟨gb150, 0, none⟩ (.int .i64 t147)).setCell ⟨gb150, 1, none⟩ (.int .i64 t148)) = w130 at n0_ n1_ n2_ n3_ n4_ n5_ n6_ n7_ n8_ n9_ n10_ n11_ n12_ n13_ n14_ ⊢
    have HO_8 := n0_
    have HO_9 := n1_
    have HO_10 := n2_
    have HO124 := n3_
    have HO127 := n4_
    have HO133 := n5_
    have HO136 := n6_
    have HO139 := n7_
    have HO143 := n8_
    have HO146 := n9_
    have BK101 := n10_
    have BK102 := n11_
    have BK111 := n12_
    have BK150 := n13_
    have HB := n14_
    clear n0_ n1_ n2_ n3_ n4_ n5_ n6_ n7_ n8_ n9_ n10_ n11_ n12_ n13_ n14_
    have n0_ := Aside0.mk (Kd.R_drew HO_8.out)
    have n1_ := Aside0.mk (Kd.R_drew HO_9.out)
    have n2_ := Aside0.mk (Kd.R_drew HO_10.out)
    have n3_ := Aside0.mk (Kd.R_drew HO124.out)
    have n4_ := Aside0.mk (Kd.R_drew HO127.out)
    have n5_ := Aside0.mk (Kd.R_drew HO133.out)
    have n6_ := Aside0.mk (Kd.R_drew HO136.out)
    have n7_ := Aside0.mk (Kd.R_drew HO139.out)
    have n8_ := Aside0.mk (Kd.R_drew HO143.out)
    have n9_ := Aside0.mk (Kd.R_drew HO146.out)
    have n10_ := Aside0.mk (blk_drew BK101.out)
    have n11_ := Aside0.mk (blk_drew BK102.out)
    have n12_ := Aside0.mk (blk_drew BK111.out)
    have n13_ := Aside0.mk (blk_drew BK150.out)
    have n14_ := Aside0.mk (below_drew1 HB.out)
    clear HO_8
    clear HO_9
    clear HO_10
    clear HO124
    clear HO127
    clear HO133
    clear HO136
    clear HO139
    clear HO143
    clear HO146
    clear BK101
    clear BK102
    clear BK111
    clear BK150
    clear HB
    have HO_8 := n0_
    have HO_9 := n1_
    have HO_10 := n2_
    have HO124 := n3_
    have HO127 := n4_
    have HO133 := n5_
    have HO136 := n6_
    have HO139 := n7_
    have HO143 := n8_
    have HO146 := n9_
    have BK101 := n10_
    have BK102 := n11_
    have BK111 := n12_
    have BK150 := n13_
    have HB := n14_
    clear n0_ n1_ n2_ n3_ n4_ n5_ n6_ n7_ n8_ n9_ n10_ n11_ n12_ n13_ n14_
    refine start_ (n := 43) (S := fun w' => True) (ds := []) (bl 43 0) (by kernel_rfl) rfl rfl trivial (fun hHeld => ?_); refine with_tabW lR.tab10 lR.bits10 (fun HT_ HW_ => ?_)
    generalize w130.drew = w131 at HO_8 HO_9 HO_10 HO124 HO127 HO133 HO136 HO139 HO143 HO146 BK101 BK102 BK111 BK150 HB hHeld ⊢
    refine pS 0 82 43 1 HT_ ?_
    refine pS 1 83 43 3 HT_ ?_
    refine pS 2 84 43 7 HT_ ?_
    refine pS 3 85 43 15 HT_ ?_
    refine pS 4 86 43 31 HT_ ?_
    refine pS 5 87 43 63 HT_ ?_
    refine pS 6 88 43 127 HT_ ?_
    refine pS 7 89 43 255 HT_ ?_
    refine pS 8 90 43 511 HT_ ?_
    refine oS 9 91 43 1023 HT_ ?_
    refine oS 10 92 43 2047 HT_ ?_
    refine oS 11 93 43 4095 HT_ ?_
    refine pS 12 94 43 8191 HT_ ?_
    refine pS 13 95 43 16383 HT_ ?_
    refine pS 14 96 43 32767 HT_ ?_
    refine pS 15 97 43 65535 HT_ ?_
    refine oS 16 98 43 131071 HT_ ?_
    refine oS 17 99 43 262143 HT_ ?_
    refine oS 18 100 43 524287 HT_ ?_
    refine oS 19 101 43 1048575 HT_ ?_
    refine oS 20 102 43 2097151 HT_ ?_
    refine oS 21 103 43 4194303 HT_ ?_
    refine oS 22 104 43 8388607 HT_ ?_
    refine oS 23 105 43 16777215 HT_ ?_
    refine oS 24 106 43 33554431 HT_ ?_
    refine oS 25 107 43 67108863 HT_ ?_
    refine oS 26 108 43 134217727 HT_ ?_
    refine pS 27 109 43 268435455 HT_ ?_
    refine pS 28 110 43 536870911 HT_ ?_
    refine oS 29 111 43 1073741823 HT_ ?_
    refine oS 30 112 43 2147483647 HT_ ?_
    refine oS 31 113 43 4294967295 HT_ ?_
    refine oS 32 114 43 8589934591 HT_ ?_
    refine oS 33 115 43 17179869183 HT_ ?_
    refine oS 34 116 43 34359738367 HT_ ?_
    refine oS 35 117 43 68719476735 HT_ ?_
    refine oS 36 118 43 137438953471 HT_ ?_
    refine oS 37 119 43 274877906943 HT_ ?_
    refine oS 38 120 43 549755813887 HT_ ?_
    refine oS 39 121 43 1099511627775 HT_ ?_
    refine oS 40 122 43 2199023255551 HT_ ?_
    refine oS 41 123 43 4398046511103 HT_ ?_
    refine pS 42 124 43 8796093022207 HT_ ?_
    refine done_ (done_of HT_.out (by kernel_rfl)) ?_
    try go_wp2
    go_meet
    case rel => exact ⟨_, (true), (by first | rfl | (simp; done) | (simp [*]; done)), H', ⟨by have := HK1.out; first | omega | exact Nat.le_refl _⟩, ⟨Kd.R_mono (R_ HO_8) (fun _ hk => trivial)⟩, ⟨Kd.R_mono (R_ HO_9) (fun _ hk => ⟨hk.1, hk.2.2.2.1⟩)⟩, ⟨Kd.R_mono (R_ HO_10) (fun _ hk => ⟨hk.1, hk.2.2.2.1⟩)⟩, ⟨Kd.R_mono (R_ HO139) (fun _ hk => ⟨hk.1, hk.2.1⟩)⟩, ⟨b_ BK101⟩, ⟨b_ BK102⟩, ⟨b_ BK111⟩, ⟨b_ BK150⟩, ⟨Bq HB⟩⟩
   case rest =>
    clear HC36
    obtain ⟨kq, x124_35, rfl, HA, HJ35, HO_8, HO_9, HO_10, HO_15, BK101, BK102, BK111, BK150, HB⟩ := hcut
    rcases kq with _ | kj35
    ·exact absurd HA.out (by simp [lR.j1])
    have H := HA.out
    clear HA
    simp only [lR.j1] at H
    by_cases c132 : x124_35 = true
    ·subst c132
     have H1 : (some false) = some r := by rw [if_pos rfl] at H; exact H
     clear H
     have H := H1
     clear H1
     obtain rfl := Option.some.inj H
     go_wp2
     go_ret
     exact ⟨by first | rfl | (simp [errW_none, errW_some] <;> rfl) | (simp [*, errW_none, errW_some] <;> rfl), Bq HB⟩
    replace c132 := Bool.eq_false_iff.mpr c132
    subst c132
    have H1 : (if t140 = 0 then (if (t137.length : Int) = (t112.length : Int) then (if t128 = true then ((smaltolaw03_fine.f t103 t104 t105 t106 t107 t108 t112 t137).bind fun t155 => (if t155 = true then ((smaltolaw03_fine.f t103 t104 t105 t106 t107 t108 t112 x10_1).bind fun t156 => (if t156 = true then (lR.j2 kj35 t108 t112 t128 t129 t149 (!t128) t103 t104 t105 t106 t107 t147 t148) else (lR.j2 kj35 t108 t112 t128 t129 t149 false t103 t104 t105 t106 t107 t147 t148))) else (lR.j2 kj35 t108 t112 t128 t129 t149 true t103 t104 t105 t106 t107 t147 t148))) else ((smaltolaw03_fine.f t103 t104 t105 t106 t107 t108 t112 x10_1).bind fun t157 => (if t157 = true then (lR.j2 kj35 t108 t112 t128 t129 t149 (!t128) t103 t104 t105 t106 t107 t147 t148) else (lR.j2 kj35 t108 t112 t128 t129 t149 false t103 t104 t105 t106 t107 t147 t148)))) else (lR.j2 kj35 t108 t112 t128 t129 t149 true t103 t104 t105 t106 t107 t147 t148)) else (if t128 = true then ((smaltolaw03_fine.f t103 t104 t105 t106 t107 t108 t112 t137).bind fun t158 => (if t158 = true then ((smaltolaw03_fine.f t103 t104 t105 t106 t107 t108 t112 x10_1).bind fun t159 => (if t159 = true then (lR.j2 kj35 t108 t112 t128 t129 t149 (!t128) t103 t104 t105 t106 t107 t147 t148) else (lR.j2 kj35 t108 t112 t128 t129 t149 false t103 t104 t105 t106 t107 t147 t148))) else (lR.j2 kj35 t108 t112 t128 t129 t149 true t103 t104 t105 t106 t107 t147 t148))) else ((smaltolaw03_fine.f t103 t104 t105 t106 t107 t108 t112 x10_1).bind fun t160 => (if t160 = true then (lR.j2 kj35 t108 t112 t128 t129 t149 (!t128) t103 t104 t105 t106 t107 t147 t148) else (lR.j2 kj35 t108 t112 t128 t129 t149 false t103 t104 t105 t106 t107 t147 t148))))) = some r := by rw [if_neg (show ¬ (false = true) by decide)] at H; exact H
    clear H
    have H := H1
    clear H1
    have HC133 := Aside0.mk H
    clear H
    go_upto_region 12 with (fail)
    go_cut [155] (fun v155 wc => ∃ (kq : Nat) (x155_132 : Bool), v155 = .bool x155_132 ∧ Aside0 (lR.j2 kq t108 t112 t128 t129 t149 x155_132 t103 t104 t105 t106 t107 t147 t148 = some r) ∧ Aside0 (kq ≤ kj35) ∧ Aside0 (Kd.R k74 74 wc w.heap.size (fun _ => True) (.slice Ao15 t108.length co15) t108) ∧ Aside0 (Kd.R (Kd.int .i64) 3 wc w.heap.size (fun _ => True) (.slice Ao37 t112.length co37) t112) ∧ Aside0 (wc.heap[gb101]? = some (.cells #[.int .u8 a0_0, .int .u8 a0_1, .int .u8 a0_2, .int .u8 a0_3, .int .u8 a0_4, (.slice A0_5 l0_5.length c0_5)] 66 (0, 0))) ∧ Aside0 (wc.heap[gb102]? = some (.cells #[.int .u8 a2_0, .int .u8 a2_1, .int .u8 a2_2, .int .u8 a2_3, .int .u8 a2_4, .int .u8 a2_5] 67 (0, 0))) ∧ Aside0 (wc.heap[gb111]? = some (.cells #[.int .i64 t103, .int .i64 t104, .int .i64 t105, .int .i64 t106, .int .i64 t107] 23 (0, 0))) ∧ Aside0 (wc.heap[gb150]? = some (.cells #[.int .i64 t147, .int .i64 t148] 36 (0, 0))) ∧ Aside0 (Below w.heap.size w wc))
    case first =>
     rename_i z0_1 z0_2 z0_3 z0_4 z0_5 z0_6 z0_7 z0_8 z0_9 z0_10 z0_11 z0_12 z0_13 z0_14 z0_15 z0_16 z0_17 z0_18 z0_19 z0_20 z0_21 z0_22 z0_23 z0_24 z0_25 z0_26 z0_27 z0_28 z0_29 z0_30 z0_31 z0_32 z0_33 z0_34 z0_35 z0_36 z0_37 z0_38 z0_39 z0_40 z0_41 z0_42 z0_43 z0_44 z0_45 z0_46 z0_47 z0_48 z0_49 z0_50 z0_51 z0_52 z0_53 z0_54 z0_55 z0_56 z0_57 z0_58
     revert k a0_0 a0_1 a0_2 a0_3 a0_4 A0_5 c0_5 l0_5 a1 a2_0 a2_1 a2_2 a2_3 a2_4 a2_5 r w hu66 hu67 hu23 hu36 HTAB HR0_5 HC0_5 t103 t104 t105 t106 t107 t108 A4 t112 A5 y115 Ny115 z0_1 gb101 w6 GW101 GE101 gb102 w7 GW102 GE102 NB101_102 NB102_101 hnb8 hnc8 w10 gb111 w11 GW111 GE111 NB101_111 NB111_101 NB102_111 NB111_102 hnb12 hnc12 hnb13 hnc13 Ao15 co15 w16 v116 w17 HO110 z0_2 z0_3 z0_4 z0_5 z0_6 wr u10 z0_7 z0_8 z0_9 z0_10 z0_11 z0_12 z0_13 z0_14 z0_15 z0_16 z0_17 z0_18 z0_19 z0_20 z0_21 z0_22 z0_23 z0_24 x10_1 x11_1 k1 z0_25 HK1 c19b0 t122 A27 t125 A28 t128 t129 A29 t131 A30 t134 A31 t137 t140 A32 t141 A33 t144 A34 t147 t148 t149 A35 Ao37 co37 HO114 HO117 z0_26 z0_27 z0_28 z0_29 z0_30 w38 z0_31 w39 z0_32 w40 Ao41 co41 Ao42 co42 z0_33 w43 z0_34 z0_35 z0_36 w44 z0_37 w45 z0_38 w46 Ao47 co47 Ao48 co48 z0_39 w49 v138 z0_40 HT_ HW_ w50 z0_41 v142 v145 gb150 w57 hS_ HO124 HO127 HO133 HO136 HO139 HO143 HO146 z0_42 z0_43 z0_44 z0_45 z0_46 z0_47 z0_48 GW150 GE150 NB101_150 NB150_101 NB102_150 NB150_102 NB111_150 NB150_111 z0_49 z0_50 hs58 hfs58 hns58_0 hns58_1 hns58_2 hms58_0 hms58_1 hms58_2 hs59 hfs59 hns59_0 hns59_1 hns59_2 hms59_0 hms59_1 hms59_2 hHeld wc u29 u30 u31 u32 u33 u34 u35 u36 u37 u38 u39 u40 u41 u42 u43 u44 u45 u46 u47 u48 u49 u50 u51 u52 u53 u54 u55 u56 u57 u58 u59 u60 u61 u62 u63 u64 u65 u66 u67 u68 u69 u70 u71 u72 u73 u74 u75 u76 u77 u78 u79 u80 u81 u82 u83 u84 u85 u86 u87 u88 u89 u90 u91 u92 u93 u94 u95 u96 u97 u98 u99 u100 u101 u102 u103 u104 u105 u106 u107 u108 u109 u110 u111 u112 u113 u114 u115 u116 u117 u118 u119 u120 u121 u122 u123 u125 u126 u127 u128 u129 u130 u131 u132 u133 u134 u135 u136 u137 u138 u139 u140 u141 u142 u143 u144 u145 u146 u147 u148 u149 u150 u151 u152 u153 u154 u155 u156 u157 u158 u159 u160 u161 u162 u163 u164 u165 u166 u167 u168 u169 u170 u171 u172 u173 u174 u175 u176 u177 u178 u179 u180 u181 u182 u183 u184 u185 u186 u187 u188 u189 u190 u191 u192 u193 u194 u195 u196 u197 u198 u199 u200 u201 u202 u203 u204 u205 u206 u207 u208 u209 u210 u211 u212 u213 u214 u215 u216 u217 u218 u219 u220 u221 u222 u223 u224 u225 u226 u227 u228 u229 u230 u231 u232 u233 u234 u235 u236 u237 u238 u239 u240 u241 u242 u243 u244 u245 u246 u247 u248 u249 u250 u251 u252 u253 u254 u255 u256 u257 u258 u259 u260 HO_8 HO_9 HO_10 HO_15 BK101 BK102 BK111 BK150 HB kj35 HJ35 HC133 z0_51 z0_52 z0_53 z0_54 z0_55 z0_56 z0_57 z0_58
     exact hG3_.out trivial
    case rest =>
     clear HC133
     try clear c19
     try clear c132
     obtain ⟨kq, x155_132, rfl, HA, HJ132, HO_8, HO_9, BK101, BK102, BK111, BK150, HB⟩ := hcut
     rcases kq with _ | kj132
     ·exact absurd HA.out (by simp [lR.j2])
     have H := HA.out
     clear HA
     simp only [lR.j2] at H
     by_cases c225 : x155_132 = true
     ·subst c225
      have H1 : (some false) = some r := by rw [if_pos rfl] at H; exact H
      clear H
      have H := H1
      clear H1
      obtain rfl := Option.some.inj H
      go_wp2
      go_ret
      exact ⟨by first | rfl | (simp [errW_none, errW_some] <;> rfl) | (simp [*, errW_none, errW_some] <;> rfl), Bq HB⟩
     replace c225 := Bool.eq_false_iff.mpr c225
     subst c225
     have H1 : (lR.l1 kj132 t108 t112 t128 t129 t149 0 t103 t104 t105 t106 t107 t147 t148) = some r := by rw [if_neg (show ¬ (false = true) by decide)] at H; exact H
     clear H
     have H := H1
     clear H1
     have H' := Aside0.mk H
     clear H
     go_wp2
     go_loopg [19] kj132 (fun kq v19 w' => ∃ (x19_4 : Int), v19 = .int .i64 x19_4 ∧ Aside0 (lR.l1 kq t108 t112 t128 t129 t149 x19_4 t103 t104 t105 t106 t107 t147 t148 = some r) ∧ Aside0 (kq ≤ kj132) ∧ Aside0 (Kd.R k74 74 w' w.heap.size (fun _ => True) (.slice Ao15 t108.length co15) t108) ∧ Aside0 (Kd.R (Kd.int .i64) 3 w' w.heap.size (fun _ => True) (.slice Ao37 t112.length co37) t112) ∧ Aside0 (w'.heap[gb101]? = some (.cells #[.int .u8 a0_0, .int .u8 a0_1, .int .u8 a0_2, .int .u8 a0_3, .int .u8 a0_4, (.slice A0_5 l0_5.length c0_5)] 66 (0, 0))) ∧ Aside0 (w'.heap[gb102]? = some (.cells #[.int .u8 a2_0, .int .u8 a2_1, .int .u8 a2_2, .int .u8 a2_3, .int .u8 a2_4, .int .u8 a2_5] 67 (0, 0))) ∧ Aside0 (w'.heap[gb111]? = some (.cells #[.int .i64 t103, .int .i64 t104, .int .i64 t105, .int .i64 t106, .int .i64 t107] 23 (0, 0))) ∧ Aside0 (w'.heap[gb150]? = some (.cells #[.int .i64 t147, .int .i64 t148] 36 (0, 0))) ∧ Aside0 (Below w.heap.size w w'))
     case atStart => exact ⟨(0), (by first | rfl | (simp; done) | (simp [*]; done)), H', ⟨Nat.le_refl _⟩, ⟨R_ HO_8⟩, ⟨R_ HO_9⟩, ⟨b_ BK101⟩, ⟨b_ BK102⟩, ⟨b_ BK111⟩, ⟨b_ BK150⟩, ⟨Bq HB⟩⟩
     case round =>
      clear H'
      try clear c225
      obtain ⟨x19_4, rfl, HA, HK4, HO_8, HO_9, BK101, BK102, BK111, BK150, HB⟩ := hrel
      rcases gk with _ | k4
      ·exact absurd HA.out (by simp [lR.l1])
      have H := HA.out
      clear HA
      simp only [lR.l1] at H
      by_cases c226 : x19_4 < (t112.length : Int)
      ·rename_i z0_1 z0_2 z0_3 z0_4 z0_5 z0_6 z0_7 z0_8 z0_9 z0_10 z0_11 z0_12 z0_13 z0_14 z0_15 z0_16 z0_17 z0_18 z0_19 z0_20 z0_21 z0_22 z0_23 z0_24 z0_25 z0_26 z0_27 z0_28 z0_29 z0_30 z0_31 z0_32 z0_33 z0_34 z0_35 z0_36 z0_37 z0_38 z0_39 z0_40 z0_41 z0_42 z0_43 z0_44 z0_45 z0_46 z0_47 z0_48 z0_49 z0_50 z0_51 z0_52 z0_53 z0_54 z0_55 z0_56 z0_57 z0_58 z0_59 z0_60 z0_61 z0_62 z0_63 z0_64 z0_65 z0_66 z0_67 z0_68 z0_69 z0_70 z0_71 z0_72 z0_73 z0_74 z0_75 z0_76 z0_77 z0_78 z0_79 z0_80 z0_81 z0_82 z0_83 z0_84 z0_85 z0_86 z0_87 z0_88 z0_89 z0_90 z0_91 z0_92 z0_93 z0_94 z0_95 z0_96 z0_97 z0_98 z0_99 z0_100 z0_101 z0_102 z0_103 z0_104 z0_105 z0_106 z0_107 z0_108 z0_109 z0_110 z0_111 z0_112 z0_113 z0_114 z0_115 z0_116 z0_117 z0_118 z0_119 z0_120 z0_121 z0_122 z0_123 z0_124 z0_125 z0_126 z0_127 z0_128 z0_129 z0_130 z0_131 z0_132 z0_133 z0_134 z0_135 z0_136 z0_137 z0_138 z0_139 z0_140 z0_141 z0_142 z0_143 z0_144 z0_145 z0_146 z0_147 z0_148 z0_149 z0_150 z0_151 z0_152 z0_153 z0_154 z0_155 z0_156 z0_157 z0_158 z0_159 z0_160 z0_161 z0_162 z0_163 z0_164 z0_165 z0_166 z0_167 z0_168 z0_169 z0_170 z0_171 z0_172 z0_173 z0_174 z0_175 z0_176 z0_177 z0_178 z0_179 z0_180 z0_181 z0_182 z0_183 z0_184 z0_185 z0_186 z0_187 z0_188 z0_189 z0_190 z0_191 z0_192 z0_193 z0_194 z0_195 z0_196 z0_197 z0_198 z0_199 z0_200 z0_201 z0_202 z0_203 z0_204 z0_205 z0_206 z0_207 z0_208 z0_209 z0_210 z0_211 z0_212 z0_213 z0_214 z0_215 z0_216 z0_217 z0_218 z0_219 z0_220 z0_221 z0_222 z0_223 z0_224 z0_225 z0_226 z0_227 z0_228 z0_229 z0_230 z0_231 z0_232 z0_233 z0_234 z0_235 z0_236 z0_237 z0_238 z0_239 z0_240 z0_241 z0_242 z0_243 z0_244 z0_245 z0_246 z0_247 z0_248 z0_249 z0_250 z0_251 z0_252 z0_253 z0_254 z0_255 z0_256 z0_257 z0_258 z0_259 z0_260 z0_261 z0_262 z0_263 z0_264 z0_265 z0_266 z0_267 z0_268 z0_269 z0_270 z0_271 z0_272 z0_273 z0_274 z0_275 z0_276 z0_277 z0_278 z0_279 z0_280 z0_281 z0_282 z0_283 z0_284 z0_285 z0_286 z0_287 z0_288 z0_289 z0_290 z0_291 z0_292 z0_293 z0_294 z0_295 z0_296 z0_297 z0_298 z0_299 z0_300 z0_301 z0_302 z0_303 z0_304 z0_305 z0_306 z0_307 z0_308 z0_309 z0_310 z0_311 z0_312 z0_313 z0_314 z0_315 z0_316 z0_317 z0_318 z0_319 z0_320 z0_321 z0_322 z0_323 z0_324 z0_325 z0_326 z0_327 z0_328 z0_329 z0_330 z0_331 z0_332 z0_333 z0_334 z0_335 z0_336 z0_337 z0_338 z0_339 z0_340 z0_341 z0_342 z0_343 z0_344 z0_345 z0_346 z0_347 z0_348 z0_349 z0_350 z0_351 z0_352 z0_353 z0_354 z0_355 z0_356 z0_357 z0_358
       revert k a0_0 a0_1 a0_2 a0_3 a0_4 A0_5 c0_5 l0_5 a1 a2_0 a2_1 a2_2 a2_3 a2_4 a2_5 r w hu66 hu67 hu23 hu36 HTAB HR0_5 HC0_5 t103 t104 t105 t106 t107 t108 A4 t112 A5 y115 Ny115 z0_1 gb101 w6 GW101 GE101 gb102 w7 GW102 GE102 NB101_102 NB102_101 hnb8 hnc8 w10 gb111 w11 GW111 GE111 NB101_111 NB111_101 NB102_111 NB111_102 hnb12 hnc12 hnb13 hnc13 Ao15 co15 w16 v116 w17 HO110 z0_2 z0_3 z0_4 z0_5 z0_6 z0_7 u10 z0_8 z0_9 z0_10 z0_11 z0_12 z0_13 z0_14 z0_15 z0_16 z0_17 z0_18 z0_19 z0_20 z0_21 z0_22 z0_23 z0_24 z0_25 x10_1 x11_1 k1 z0_26 HK1 c19b0 t122 A27 t125 A28 t128 t129 A29 t131 A30 t134 A31 t137 t140 A32 t141 A33 t144 A34 t147 t148 t149 A35 Ao37 co37 HO114 HO117 z0_27 z0_28 z0_29 z0_30 z0_31 w38 z0_32 w39 z0_33 w40 Ao41 co41 Ao42 co42 z0_34 w43 z0_35 z0_36 z0_37 w44 z0_38 w45 z0_39 w46 Ao47 co47 Ao48 co48 z0_40 w49 v138 z0_41 HT_ HW_ w50 z0_42 v142 v145 gb150 w57 hS_ HO124 HO127 HO133 HO136 HO139 HO143 HO146 z0_43 z0_44 z0_45 z0_46 z0_47 z0_48 z0_49 GW150 GE150 NB101_150 NB150_101 NB102_150 NB150_102 NB111_150 NB150_111 z0_50 z0_51 hs58 hfs58 hns58_0 hns58_1 hns58_2 hms58_0 hms58_1 hms58_2 hs59 hfs59 hns59_0 hns59_1 hns59_2 hms59_0 hms59_1 hms59_2 hHeld z0_52 z0_53 z0_54 z0_55 z0_56 z0_57 z0_58 z0_59 z0_60 z0_61 z0_62 z0_63 z0_64 z0_65 z0_66 z0_67 z0_68 z0_69 z0_70 z0_71 z0_72 z0_73 z0_74 z0_75 z0_76 z0_77 z0_78 z0_79 z0_80 z0_81 z0_82 z0_83 z0_84 z0_85 z0_86 z0_87 z0_88 z0_89 z0_90 z0_91 z0_92 z0_93 z0_94 z0_95 z0_96 z0_97 z0_98 z0_99 z0_100 z0_101 z0_102 z0_103 z0_104 z0_105 z0_106 z0_107 z0_108 z0_109 z0_110 z0_111 z0_112 z0_113 z0_114 z0_115 z0_116 z0_117 z0_118 z0_119 z0_120 z0_121 z0_122 z0_123 z0_124 z0_125 z0_126 z0_127 z0_128 z0_129 z0_130 z0_131 z0_132 z0_133 z0_134 z0_135 z0_136 z0_137 z0_138 z0_139 z0_140 z0_141 z0_142 z0_143 z0_144 z0_145 z0_146 z0_147 z0_148 z0_149 z0_150 z0_151 z0_152 z0_153 z0_154 z0_155 z0_156 z0_157 z0_158 z0_159 z0_160 z0_161 z0_162 z0_163 z0_164 z0_165 z0_166 z0_167 z0_168 z0_169 z0_170 z0_171 z0_172 z0_173 z0_174 z0_175 z0_176 z0_177 u155 z0_178 z0_179 z0_180 z0_181 z0_182 z0_183 z0_184 z0_185 z0_186 z0_187 z0_188 z0_189 z0_190 z0_191 z0_192 z0_193 z0_194 z0_195 z0_196 z0_197 z0_198 z0_199 z0_200 z0_201 z0_202 z0_203 z0_204 z0_205 z0_206 z0_207 z0_208 z0_209 z0_210 z0_211 z0_212 z0_213 z0_214 z0_215 z0_216 z0_217 z0_218 z0_219 z0_220 z0_221 z0_222 z0_223 z0_224 z0_225 z0_226 z0_227 z0_228 z0_229 z0_230 z0_231 z0_232 z0_233 z0_234 z0_235 z0_236 z0_237 z0_238 z0_239 z0_240 z0_241 z0_242 z0_243 z0_244 z0_245 z0_246 z0_247 z0_248 z0_249 z0_250 z0_251 z0_252 z0_253 z0_254 z0_255 z0_256 z0_257 z0_258 z0_259 z0_260 z0_261 z0_262 z0_263 z0_264 z0_265 z0_266 z0_267 z0_268 z0_269 z0_270 z0_271 z0_272 z0_273 z0_274 z0_275 z0_276 z0_277 z0_278 z0_279 z0_280 z0_281 z0_282 z0_283 z0_284 HO_10 HO_15 z0_285 z0_286 z0_287 z0_288 z0_289 kj35 HJ35 wc u29 u30 u31 u32 u33 u34 u35 u36 u37 u38 u39 u40 u41 u42 u43 u44 u45 u46 u47 u48 u49 u50 u51 u52 u53 u54 u55 u56 u57 u58 u59 u60 u61 u62 u63 u64 u65 u66 u67 u68 u69 u70 u71 u72 u73 u74 u75 u76 u77 u78 u79 u80 u81 u82 u83 u84 u85 u86 u87 u88 u89 u90 u91 u92 u93 u94 u95 u96 u97 u98 u99 u100 u101 u102 u103 u104 u105 u106 u107 u108 u109 u110 u111 u112 u113 u114 u115 u116 u117 u118 u119 u120 u121 u122 u123 u124 u125 u126 u127 u128 u129 u130 u131 u132 u133 u134 u135 u136 u137 u138 u139 u140 u141 u142 u143 u144 u145 u146 u147 u148 u149 u150 u151 u152 u153 u154 z0_290 z0_291 z0_292 z0_293 z0_294 z0_295 z0_296 z0_297 z0_298 z0_299 z0_300 z0_301 z0_302 z0_303 z0_304 z0_305 z0_306 z0_307 z0_308 z0_309 z0_310 z0_311 z0_312 z0_313 z0_314 z0_315 z0_316 z0_317 z0_318 z0_319 z0_320 z0_321 z0_322 z0_323 z0_324 z0_325 z0_326 z0_327 z0_328 z0_329 z0_330 z0_331 z0_332 z0_333 z0_334 z0_335 z0_336 z0_337 z0_338 z0_339 z0_340 z0_341 z0_342 z0_343 z0_344 z0_345 u212 u213 u214 u215 u216 u217 u218 u219 u220 u221 u222 u223 u224 u225 u226 u227 u228 u229 u230 u231 u232 u233 u234 u235 u236 u237 u238 u239 u240 u241 u242 u243 u244 u245 u246 u247 u248 u249 u250 u251 u252 u253 u254 u255 u256 u257 u258 u259 u260 z0_346 z0_347 z0_348 z0_349 z0_350 z0_351 z0_352 kj132 HJ132 z0_353 z0_354 wr u6 u20 u21 u22 u23 u156 u157 u158 u159 u160 u161 u162 u163 u164 u165 u166 u167 u168 u169 u170 u171 u172 u173 u174 u175 u176 u177 u178 u179 u180 u181 u182 u183 u184 u185 u186 u187 u188 u189 u190 u191 u192 u193 u194 u195 u196 u197 u198 u199 u200 u201 u202 u203 u204 u205 u206 u207 u208 u209 u210 u211 z0_355 z0_356 z0_357 x19_4 HO_8 HO_9 BK101 BK102 BK111 BK150 HB k4 z0_358 HK4 H c226
       exact hG4_.out trivial
      rw [if_neg c226] at H
      have c226b0 : decide (x19_4 < (t112.length : Int)) = false := decide_eq_false c226
      clear c226
      replace H := Option.bind_eq_some_iff.mp H
      obtain ⟨t184, A2960, H⟩ := H
      replace H : (lR.l2 k4 t112 t129 t149 t184 0 t103 t104 t105 t106 t107 t147 t148) = some r := H
      have A296 := Aside0.mk A2960
      clear A2960
      have H' := Aside0.mk H
      clear H
      go_wp2_with (first | ((with_reducible refine gate_callee (f := 43) rfl ?_); refine goesL_ (some 213) rfl rfl Tryd.func43 (by kernel_rfl) rfl #[.slice Ao15 t108.length co15] rfl (by (try simp only [List.map_toArray, List.map_cons, List.map_nil]); first | done | rfl | (simp only [List.length_drop, List.length_take]; rfl)) ?_; (with_reducible refine (smaltolaw03_own.calls _ _ t108 t184 _ ?side1 ?side2 A296.out).mono ?_); (case side1 => exact rC HO_8); (case side2 => exact (Kd.R_reads' HO_8.out).2.1); rintro e w297 ⟨v185, rfl, ho0, hb⟩; refine ⟨_, rfl, ?_⟩; have n0_ := Aside0.mk (Kd.R_elder' (R_ HO_8) (Kd.R_base ho0) hb); have n1_ := RB HO_9 hb; have n2_ := Aside0.mk (Kd.R_lower (Kd.R_new' ho0 (Kd.R_lt (R_ HO_8))) (below_size (Bq HB))); have n3_ := bb BK101 hb; have n4_ := bb BK102 hb; have n5_ := bb BK111 hb; have n6_ := bb BK150 hb; have n7_ := Aside0.mk (below_step (Bq HB) hb); clear HO_8; clear HO_9; clear BK101; clear BK102; clear BK111; clear BK150; clear HB; have HO_8 := n0_; have HO_9 := n1_; have HO186 := n2_; have BK101 := n3_; have BK102 := n4_; have BK111 := n5_; have BK150 := n6_; have HB := n7_; clear n0_ n1_ n2_ n3_ n4_ n5_ n6_ n7_; (try clear hb); (try clear hb2); (try clear hk); (try clear hi); (try clear ho0)))
      go_loopg [25] k4 (fun kq v25 w' => ∃ (x24_5 : List (S74)) (x25_5 : Int), v25 = .int .i64 x25_5 ∧ Aside0 (lR.l2 kq t112 t129 t149 x24_5 x25_5 t103 t104 t105 t106 t107 t147 t148 = some r) ∧ Aside0 (kq ≤ k4) ∧ Aside0 (Kd.R (Kd.int .i64) 3 w' w.heap.size (fun _ => True) (.slice Ao37 t112.length co37) t112) ∧ Aside0 (Kd.R k74 74 w' w.heap.size (fun _ => True) v185 x24_5) ∧ Aside0 (w'.heap[gb101]? = some (.cells #[.int .u8 a0_0, .int .u8 a0_1, .int .u8 a0_2, .int .u8 a0_3, .int .u8 a0_4, (.slice A0_5 l0_5.length c0_5)] 66 (0, 0))) ∧ Aside0 (w'.heap[gb102]? = some (.cells #[.int .u8 a2_0, .int .u8 a2_1, .int .u8 a2_2, .int .u8 a2_3, .int .u8 a2_4, .int .u8 a2_5] 67 (0, 0))) ∧ Aside0 (w'.heap[gb111]? = some (.cells #[.int .i64 t103, .int .i64 t104, .int .i64 t105, .int .i64 t106, .int .i64 t107] 23 (0, 0))) ∧ Aside0 (w'.heap[gb150]? = some (.cells #[.int .i64 t147, .int .i64 t148] 36 (0, 0))) ∧ Aside0 (Below w.heap.size w w'))
      case atStart => exact ⟨(t184), (0), (by first | rfl | (simp; done) | (simp [*]; done)), H', ⟨Nat.le_refl _⟩, ⟨R_ HO_9⟩, ⟨Kd.R_mono (R_ HO186) (fun _ hk => trivial)⟩, ⟨b_ BK101⟩, ⟨b_ BK102⟩, ⟨b_ BK111⟩, ⟨b_ BK150⟩, ⟨Bq HB⟩⟩
      case round =>
       rename_i z0_1 z0_2 z0_3 z0_4 z0_5 z0_6 z0_7 z0_8 z0_9 z0_10 z0_11 z0_12 z0_13 z0_14 z0_15 z0_16 z0_17 z0_18 z0_19 z0_20 z0_21 z0_22 z0_23 z0_24 z0_25 z0_26 z0_27 z0_28 z0_29 z0_30 z0_31 z0_32 z0_33 z0_34 z0_35 z0_36 z0_37 z0_38 z0_39 z0_40 z0_41 z0_42 z0_43 z0_44 z0_45 z0_46 z0_47 z0_48 z0_49 z0_50 z0_51 z0_52 z0_53 z0_54 z0_55 z0_56 z0_57 z0_58 z0_59 z0_60 z0_61 z0_62 z0_63 z0_64 z0_65 z0_66 z0_67 z0_68 z0_69 z0_70 z0_71 z0_72 z0_73 z0_74 z0_75 z0_76 z0_77 z0_78 z0_79 z0_80 z0_81 z0_82 z0_83 z0_84 z0_85 z0_86 z0_87 z0_88 z0_89 z0_90 z0_91 z0_92 z0_93 z0_94 z0_95 z0_96 z0_97 z0_98 z0_99 z0_100 z0_101 z0_102 z0_103 z0_104 z0_105 z0_106 z0_107 z0_108 z0_109 z0_110 z0_111 z0_112 z0_113 z0_114 z0_115 z0_116 z0_117 z0_118 z0_119 z0_120 z0_121 z0_122 z0_123 z0_124 z0_125 z0_126 z0_127 z0_128 z0_129 z0_130 z0_131 z0_132 z0_133 z0_134 z0_135 z0_136 z0_137 z0_138 z0_139 z0_140 z0_141 z0_142 z0_143 z0_144 z0_145 z0_146 z0_147 z0_148 z0_149 z0_150 z0_151 z0_152 z0_153 z0_154 z0_155 z0_156 z0_157 z0_158 z0_159 z0_160 z0_161 z0_162 z0_163 z0_164 z0_165 z0_166 z0_167 z0_168 z0_169 z0_170 z0_171 z0_172 z0_173 z0_174 z0_175 z0_176 z0_177 z0_178 z0_179 z0_180 z0_181 z0_182 z0_183 z0_184 z0_185 z0_186 z0_187 z0_188 z0_189 z0_190 z0_191 z0_192 z0_193 z0_194 z0_195 z0_196 z0_197 z0_198 z0_199 z0_200 z0_201 z0_202 z0_203 z0_204 z0_205 z0_206 z0_207 z0_208 z0_209 z0_210 z0_211 z0_212 z0_213 z0_214 z0_215 z0_216 z0_217 z0_218 z0_219 z0_220 z0_221 z0_222 z0_223 z0_224 z0_225 z0_226 z0_227 z0_228 z0_229 z0_230 z0_231 z0_232 z0_233 z0_234 z0_235 z0_236 z0_237 z0_238 z0_239 z0_240 z0_241 z0_242 z0_243 z0_244 z0_245 z0_246 z0_247 z0_248 z0_249 z0_250 z0_251 z0_252 z0_253 z0_254 z0_255 z0_256 z0_257 z0_258 z0_259 z0_260 z0_261 z0_262 z0_263 z0_264 z0_265 z0_266 z0_267 z0_268 z0_269 z0_270 z0_271 z0_272 z0_273 z0_274 z0_275 z0_276 z0_277 z0_278 z0_279 z0_280 z0_281 z0_282 z0_283 z0_284 z0_285 z0_286 z0_287 z0_288 z0_289 z0_290 z0_291 z0_292 z0_293 z0_294 z0_295 z0_296 z0_297 z0_298 z0_299 z0_300 z0_301 z0_302 z0_303 z0_304 z0_305 z0_306 z0_307 z0_308 z0_309 z0_310 z0_311 z0_312 z0_313 z0_314 z0_315 z0_316 z0_317 z0_318 z0_319 z0_320 z0_321 z0_322 z0_323 z0_324 z0_325 z0_326 z0_327 z0_328 z0_329 z0_330 z0_331 z0_332 z0_333 z0_334 z0_335 z0_336 z0_337 z0_338 z0_339 z0_340 z0_341 z0_342 z0_343 z0_344 z0_345 z0_346 z0_347 z0_348 z0_349 z0_350 z0_351 z0_352 z0_353 z0_354 z0_355 z0_356 z0_357 z0_358 z0_359 z0_360 z0_361 z0_362 z0_363 z0_364 z0_365 z0_366 z0_367 z0_368 z0_369 z0_370 z0_371 z0_372 z0_373 z0_374 z0_375 z0_376 z0_377 z0_378 z0_379 z0_380 z0_381 z0_382 z0_383
       revert k a0_0 a0_1 a0_2 a0_3 a0_4 A0_5 c0_5 l0_5 a1 a2_0 a2_1 a2_2 a2_3 a2_4 a2_5 r w hu66 hu67 hu23 hu36 HTAB HR0_5 HC0_5 t103 t104 t105 t106 t107 t108 A4 t112 A5 y115 Ny115 z0_1 gb101 w6 GW101 GE101 gb102 w7 GW102 GE102 NB101_102 NB102_101 hnb8 hnc8 w10 gb111 w11 GW111 GE111 NB101_111 NB111_101 NB102_111 NB111_102 hnb12 hnc12 hnb13 hnc13 Ao15 co15 w16 v116 w17 HO110 z0_2 z0_3 z0_4 z0_5 z0_6 z0_7 u10 z0_8 z0_9 z0_10 z0_11 z0_12 z0_13 z0_14 z0_15 z0_16 z0_17 z0_18 z0_19 z0_20 z0_21 z0_22 z0_23 z0_24 z0_25 x10_1 x11_1 k1 z0_26 HK1 c19b0 t122 A27 t125 A28 t128 t129 A29 t131 A30 t134 A31 t137 t140 A32 t141 A33 t144 A34 t147 t148 t149 A35 Ao37 co37 HO114 HO117 z0_27 z0_28 z0_29 z0_30 z0_31 w38 z0_32 w39 z0_33 w40 Ao41 co41 Ao42 co42 z0_34 w43 z0_35 z0_36 z0_37 w44 z0_38 w45 z0_39 w46 Ao47 co47 Ao48 co48 z0_40 w49 v138 z0_41 HT_ HW_ w50 z0_42 v142 v145 gb150 w57 hS_ HO124 HO127 HO133 HO136 HO139 HO143 HO146 z0_43 z0_44 z0_45 z0_46 z0_47 z0_48 z0_49 GW150 GE150 NB101_150 NB150_101 NB102_150 NB150_102 NB111_150 NB150_111 z0_50 z0_51 hs58 hfs58 hns58_0 hns58_1 hns58_2 hms58_0 hms58_1 hms58_2 hs59 hfs59 hns59_0 hns59_1 hns59_2 hms59_0 hms59_1 hms59_2 hHeld z0_52 z0_53 z0_54 z0_55 z0_56 z0_57 z0_58 z0_59 z0_60 z0_61 z0_62 z0_63 z0_64 z0_65 z0_66 z0_67 z0_68 z0_69 z0_70 z0_71 z0_72 z0_73 z0_74 z0_75 z0_76 z0_77 z0_78 z0_79 z0_80 z0_81 z0_82 z0_83 z0_84 z0_85 z0_86 z0_87 z0_88 z0_89 z0_90 z0_91 z0_92 z0_93 z0_94 z0_95 z0_96 z0_97 z0_98 z0_99 z0_100 z0_101 z0_102 z0_103 z0_104 z0_105 z0_106 z0_107 z0_108 z0_109 z0_110 z0_111 z0_112 z0_113 z0_114 z0_115 z0_116 z0_117 z0_118 z0_119 z0_120 z0_121 z0_122 z0_123 z0_124 z0_125 z0_126 z0_127 z0_128 z0_129 z0_130 z0_131 z0_132 z0_133 z0_134 z0_135 z0_136 z0_137 z0_138 z0_139 z0_140 z0_141 z0_142 z0_143 z0_144 z0_145 z0_146 z0_147 z0_148 z0_149 z0_150 z0_151 z0_152 z0_153 z0_154 z0_155 z0_156 z0_157 z0_158 z0_159 z0_160 z0_161 z0_162 z0_163 z0_164 z0_165 z0_166 z0_167 z0_168 z0_169 z0_170 z0_171 z0_172 z0_173 z0_174 z0_175 z0_176 z0_177 u155 z0_178 z0_179 z0_180 z0_181 z0_182 z0_183 z0_184 z0_185 z0_186 z0_187 z0_188 z0_189 z0_190 z0_191 z0_192 z0_193 z0_194 z0_195 z0_196 z0_197 z0_198 z0_199 z0_200 z0_201 z0_202 z0_203 z0_204 z0_205 z0_206 z0_207 z0_208 z0_209 z0_210 z0_211 z0_212 z0_213 z0_214 z0_215 z0_216 z0_217 z0_218 z0_219 z0_220 z0_221 z0_222 z0_223 z0_224 z0_225 z0_226 z0_227 z0_228 z0_229 z0_230 z0_231 z0_232 z0_233 z0_234 z0_235 z0_236 z0_237 z0_238 z0_239 z0_240 z0_241 z0_242 z0_243 z0_244 z0_245 z0_246 z0_247 z0_248 z0_249 z0_250 z0_251 z0_252 z0_253 z0_254 z0_255 z0_256 z0_257 z0_258 z0_259 z0_260 z0_261 z0_262 z0_263 z0_264 z0_265 z0_266 z0_267 z0_268 z0_269 z0_270 z0_271 z0_272 z0_273 z0_274 z0_275 z0_276 z0_277 z0_278 z0_279 z0_280 z0_281 z0_282 z0_283 z0_284 HO_10 HO_15 z0_285 z0_286 z0_287 z0_288 z0_289 kj35 HJ35 wc u29 u30 u31 u32 u33 u34 u35 u36 u37 u38 u39 u40 u41 u42 u43 u44 u45 u46 u47 u48 u49 u50 u51 u52 u53 u54 u55 u56 u57 u58 u59 u60 u61 u62 u63 u64 u65 u66 u67 u68 u69 u70 u71 u72 u73 u74 u75 u76 u77 u78 u79 u80 u81 u82 u83 u84 u85 u86 u87 u88 u89 u90 u91 u92 u93 u94 u95 u96 u97 u98 u99 u100 u101 u102 u103 u104 u105 u106 u107 u108 u109 u110 u111 u112 u113 u114 u115 u116 u117 u118 u119 u120 u121 u122 u123 u124 u125 u126 u127 u128 u129 u130 u131 u132 u133 u134 u135 u136 u137 u138 u139 u140 u141 u142 u143 u144 u145 u146 u147 u148 u149 u150 u151 u152 u153 u154 z0_290 z0_291 z0_292 z0_293 z0_294 z0_295 z0_296 z0_297 z0_298 z0_299 z0_300 z0_301 z0_302 z0_303 z0_304 z0_305 z0_306 z0_307 z0_308 z0_309 z0_310 z0_311 z0_312 z0_313 z0_314 z0_315 z0_316 z0_317 z0_318 z0_319 z0_320 z0_321 z0_322 z0_323 z0_324 z0_325 z0_326 z0_327 z0_328 z0_329 z0_330 z0_331 z0_332 z0_333 z0_334 z0_335 z0_336 z0_337 z0_338 z0_339 z0_340 z0_341 z0_342 z0_343 z0_344 z0_345 u212 u213 z0_346 z0_347 z0_348 z0_349 z0_350 z0_351 z0_352 z0_353 z0_354 z0_355 z0_356 z0_357 z0_358 z0_359 z0_360 z0_361 z0_362 u231 u232 u233 u234 u235 u236 u237 u238 u239 u240 u241 u242 u243 u244 u245 u246 u247 u248 u249 u250 u251 u252 u253 u254 u255 u256 u257 u258 u259 u260 z0_363 z0_364 z0_365 z0_366 z0_367 z0_368 z0_369 kj132 HJ132 z0_370 z0_371 u6 u20 u21 u22 u23 u156 u157 u158 u159 u160 u161 u162 u163 u164 u165 u166 u167 u168 u169 u170 u171 u172 u173 u174 u175 u176 u177 u178 u179 u180 u181 u182 u183 u184 u185 u186 u187 u188 u189 u190 u191 u192 u193 u194 u195 u196 u197 u198 u199 u200 u201 u202 u203 u204 u205 u206 u207 u208 u209 u210 u211 z0_372 z0_373 z0_374 x19_4 k4 z0_375 HK4 c226b0 t184 A296 H' z0_376 z0_377 w297 v185 HO_8 HO_9 HO186 BK101 BK102 BK111 BK150 HB z0_378 z0_379 gk wr u25 u214 u215 u216 u217 u218 u219 u220 u221 u222 u223 u224 u225 u226 u227 u228 u229 u230 hrel z0_380 z0_381 z0_382 z0_383
       exact hG5_.out trivial
end Go.Proofs.YtbijamlgcebgeaaDoor.Q

/- ForkFew: the law returns true for every input; each argument reads behind the call as it read before (for worlds in which the two tables of the library hold what its initialisers lay). Part 1 of 2. -/
import Derived.Test.YtbijamlgcebgeaaDoorE4
set_option linter.unusedVariables false
set_option linter.unusedSimpArgs false
-- part QP
namespace Go.Proofs.YtbijamlgcebgeaaDoor.Q
open Go.RowKit Go.Proofs.YtbijamlgcebgeaaDoorW.PrintWords Go.Proofs.YtbijamlgcebgeaaDoorW.PrintLast Go.Proofs.YtbijamlgcebgeaaDoorW.PrintMore
/-- Which operations have come up: the bits of a number. -/
def bl (n m : Nat) : Array Bool := ((List.range n).map fun i => m.testBit i).toArray
section
variable {P : Program} {md : Region.Mode} {ops : Array Oper} {Q : Exit → Act → World → Prop} {S : World → Prop} {ds : List Nat} {T : Bool × List (List Nat × List Nat)} {B : List Nat} {fuel : Nat} {l : Array Bool} {a a' : Act} {w : World} {oi : Oper} {v : Value}
theorem pq (i : Nat) (N : Option Tmp) (l' : Array Bool) (hT : Aside0 (rtab md ops = T)) (hi : ops[i]? = some oi := by rfl) (hN : oi.dst = N := by rfl) (hc : anyT T l.toList l'.toList i = true := by kernel_rfl)
    (hQ : ∀ c a w, Q (.panic c) (a.put oi.dst v) w → Q (.panic c) a w := by exact fun _ _ _ h => h) (h1 : Region.wanted oi (yielded ops a.tmps) = true := by rfl) (h2 : ∀ w, (execOp a.eval oi).run P w = .ok (.value v) w := by intro w'; go_simp; with_reducible rfl)
    (ha : a.put N v = a' := by simp only [Act.put, List.setIfInBounds_toArray, List.set_cons_zero, List.set_cons_succ, i64_w, i32_w]; rfl)
    (h : wpAnyLast P md ops Q S ds fuel l' a' w) : wpAnyLast P md ops Q S ds (fuel + 1) l a w := pure_ l' hi hN (any_of hT.out hc) hQ (Or.inl ⟨h1, h2⟩) ha h
theorem po (i : Nat) (N : Option Tmp) (l' : Array Bool) (hT : Aside0 (rtab md ops = T)) (hi : ops[i]? = some oi := by rfl) (hN : oi.dst = N := by rfl) (hc : anyT T l.toList l'.toList i = true := by kernel_rfl)
    (hQ : ∀ c a w, Q (.panic c) (a.put oi.dst undef) w → Q (.panic c) a w := by exact fun _ _ _ h => h) (h1 : Region.wanted oi (yielded ops a.tmps) = false := by rfl)
    (ha : a.put N undef = a' := by simp only [Act.put, List.setIfInBounds_toArray, List.set_cons_zero, List.set_cons_succ, i64_w, i32_w]; rfl)
    (h : wpAnyLast P md ops Q S ds fuel l' a' w) : wpAnyLast P md ops Q S ds (fuel + 1) l a w := pure_ l' hi hN (any_of hT.out hc) hQ (Or.inr ⟨h1, rfl⟩) ha h
theorem tq (i : Nat) (N : Option Tmp) (l' : Array Bool) (hT : Aside0 (rtab md ops = T)) (hW : Aside0 (waitsOk T.2 B = true)) (hS : S w) (hi : ops[i]? = some oi := by rfl) (hN : oi.dst = N := by rfl) (hc : takeW T B ds l.toList l'.toList i = true := by kernel_rfl)
    (hQ : ∀ c a w, Q (.panic c) (a.put oi.dst v) w → Q (.panic c) a w := by exact fun _ _ _ h => h) (h1 : Region.wanted oi (yielded ops a.tmps) = true := by rfl) (h2 : ∀ w, S w → (execOp a.eval oi).run P w = .ok (.value v) w := by intro w' h_; go_simp; with_reducible rfl)
    (ha : a.put N v = a' := by simp only [Act.put, List.setIfInBounds_toArray, List.set_cons_zero, List.set_cons_succ, i64_w, i32_w]; rfl)
    (h : wpAnyLast P md ops Q S ds fuel l' a' w) : wpAnyLast P md ops Q S ds (fuel + 1) l a w := take_ l' hi hN (take_ofW hT.out hW.out hc) hQ (Or.inl ⟨h1, h2⟩) hS ha h
theorem nq (k : Nat) {v : Value} {l : Array Bool} (h : wpAnyLast P md ops Q S ds fuel l a' w) (ha : a.put (some k) v = a' := by simp only [Act.put, List.setIfInBounds_toArray, List.set_cons_zero, List.set_cons_succ, i64_w, i32_w]; rfl) : wpAnyLast P md ops Q S ds fuel l (a.put (some k) v) w := norm_ ha h
end
end Go.Proofs.YtbijamlgcebgeaaDoor.Q
-- part QR
namespace Go.Proofs.YtbijamlgcebgeaaDoor.Q
open Go.RowKit Go.Proofs.YtbijamlgcebgeaaDoorW.PrintWords Go.Proofs.YtbijamlgcebgeaaDoorW.PrintLast Go.Proofs.YtbijamlgcebgeaaDoorW.PrintMore
section
variable {α : Type} {d : Kd α} {e base : Nat} {ok : Nat → Prop} {v : Value} {xs : List α} {w w' w0 : World} {g : Nat} {o : Obj}
theorem R_ (H : Aside0 (d.R e w base ok v xs)) (p : Below w.heap.size w w' := by repeat (first | (with_reducible exact Below.refl _ _) | apply below_alloc | apply pw_below_drewN | apply below_drew1)) : d.R e w' base ok v xs := Kd.R_below H.out p
theorem b_ (H : Aside0 (w.heap[g]? = some o)) (p : Below w.heap.size w w' := by repeat (first | (with_reducible exact Below.refl _ _) | apply below_alloc | apply pw_below_drewN | apply below_drew1)) : w'.heap[g]? = some o := blk_below H.out p
theorem B_ (H : Aside0 (Below w0.heap.size w0 w)) (p : Below w.heap.size w w' := by repeat (first | (with_reducible exact Below.refl _ _) | apply below_alloc | apply pw_below_drewN | apply below_drew1)) : Below w0.heap.size w0 w' := below_step H.out p
end
end Go.Proofs.YtbijamlgcebgeaaDoor.Q
-- part SN1
namespace Go.Proofs.YtbijamlgcebgeaaDoor.Q
open Go.RowKit Go.Proofs.YtbijamlgcebgeaaDoorW.PrintWords Go.Proofs.YtbijamlgcebgeaaDoorW.PrintLast Go.Proofs.YtbijamlgcebgeaaDoorW.PrintMore
attribute [local go_sem] max2_int min2_int max_two min_two max_three min_three max_four min_four
set_option maxHeartbeats 8000000 in
set_option maxRecDepth 100000 in
noncomputable def lF.cut1 : {G : Prop // G → ∀ (k : Nat) (a0_0 : Int) (a0_1 : Int) (a0_2 : Int) (a0_3 : Int) (a0_4 : Int) (A0_5 : Option Addr) (c0_5 : Nat) (l0_5 : List (S63)) (a1_0 : Int) (a1_1 : Int) (a1_2 : Int) (a1_3 : Int) (a1_4 : Int) (a1_5 : Int) (a2 : Int) (r : Bool) (w : World) (hT : Hand.TabW w) (hr0_5 : Kd.C k63 w A0_5 l0_5.length l0_5) (hc0_5 : l0_5.length ≤ c0_5) (h : lF.f k a0_0 a0_1 a0_2 a0_3 a0_4 l0_5 a1_0 a1_1 a1_2 a1_3 a1_4 a1_5 a2 = some r), Calls Tryd.prog 9 #[.agg #[.int .u8 a0_0, .int .u8 a0_1, .int .u8 a0_2, .int .u8 a0_3, .int .u8 a0_4, .slice A0_5 l0_5.length c0_5], .agg #[.int .u8 a1_0, .int .u8 a1_1, .int .u8 a1_2, .int .u8 a1_3, .int .u8 a1_4, .int .u8 a1_5], .int .u8 a2] w fun e w' => e = .returned (.bool r) ∧ Below w.heap.size w w'} := by
 refine ⟨?_, ?_⟩
 rotate_left
 case refine_2 =>
  intro hG_
  intro k a0_0 a0_1 a0_2 a0_3 a0_4 A0_5 c0_5 l0_5 a1_0 a1_1 a1_2 a1_3 a1_4 a1_5 a2 r w hT hr0_5 hc0_5 h
  have hu66 := Tryd.underlying66
  have hu67 := Tryd.underlying67
  have hu23 := Tryd.underlying23
  have HTAB := Aside0.mk hT
  clear hT
  have HR0_5 := Aside0.mk hr0_5
  have HC0_5 := Aside0.mk hc0_5
  clear hr0_5 hc0_5
  have HB := Aside0.mk (Below.refl w.heap.size w)
  have H : ((smaltolaw03_Rack_made.f a0_0 a0_1 a0_2 a0_3 a0_4 l0_5).bind fun bt201 => ((smaltolaw03_own.f bt201.2.2.2.2.2).bind fun t210 => ((fork_Loads.f bt201.1 bt201.2.1 bt201.2.2.1 bt201.2.2.2.1 bt201.2.2.2.2.1 t210).bind fun bt213 => ((smaltolaw03_own.f bt201.2.2.2.2.2).bind fun t217 => ((apartC.f bt201.1 bt201.2.1 bt201.2.2.1 bt201.2.2.2.1 bt201.2.2.2.2.1 t217).bind fun t220 => ((upC.f k t220 (bt201.2.2.2.2.2.length : Int)).bind fun _ => (if bt213.2 = 0 then (lF.j0 k a2 bt201.2.2.2.2.2 bt213.1 bt213.2 t220 false a1_0 a1_1 a1_2 a1_3 a1_4 a1_5 bt201.1 bt201.2.1 bt201.2.2.1 bt201.2.2.2.1 bt201.2.2.2.2.1) else (if bt213.2 = 7 then (lF.j0 k a2 bt201.2.2.2.2.2 bt213.1 bt213.2 t220 ((bt213.1.length : Int) != 0) a1_0 a1_1 a1_2 a1_3 a1_4 a1_5 bt201.1 bt201.2.1 bt201.2.2.1 bt201.2.2.2.1 bt201.2.2.2.2.1) else (lF.j0 k a2 bt201.2.2.2.2.2 bt213.1 bt213.2 t220 true a1_0 a1_1 a1_2 a1_3 a1_4 a1_5 bt201.1 bt201.2.1 bt201.2.2.1 bt201.2.2.2.1 bt201.2.2.2.2.1))))))))) = some r := h
  clear h
  replace H := Option.bind_eq_some_iff.mp H
  obtain ⟨⟨t201, t202, t203, t204, t205, t206⟩, A40, H⟩ := H
  replace H : ((smaltolaw03_own.f t206).bind fun t210 => ((fork_Loads.f t201 t202 t203 t204 t205 t210).bind fun bt213 => ((smaltolaw03_own.f t206).bind fun t217 => ((apartC.f t201 t202 t203 t204 t205 t217).bind fun t220 => ((upC.f k t220 (t206.length : Int)).bind fun _ => (if bt213.2 = 0 then (lF.j0 k a2 t206 bt213.1 bt213.2 t220 false a1_0 a1_1 a1_2 a1_3 a1_4 a1_5 t201 t202 t203 t204 t205) else (if bt213.2 = 7 then (lF.j0 k a2 t206 bt213.1 bt213.2 t220 ((bt213.1.length : Int) != 0) a1_0 a1_1 a1_2 a1_3 a1_4 a1_5 t201 t202 t203 t204 t205) else (lF.j0 k a2 t206 bt213.1 bt213.2 t220 true a1_0 a1_1 a1_2 a1_3 a1_4 a1_5 t201 t202 t203 t204 t205)))))))) = some r := H
  have A4 := Aside0.mk A40
  clear A40
  replace H := Option.bind_eq_some_iff.mp H
  obtain ⟨t210, A50, H⟩ := H
  replace H : ((fork_Loads.f t201 t202 t203 t204 t205 t210).bind fun bt213 => ((smaltolaw03_own.f t206).bind fun t217 => ((apartC.f t201 t202 t203 t204 t205 t217).bind fun t220 => ((upC.f k t220 (t206.length : Int)).bind fun _ => (if bt213.2 = 0 then (lF.j0 k a2 t206 bt213.1 bt213.2 t220 false a1_0 a1_1 a1_2 a1_3 a1_4 a1_5 t201 t202 t203 t204 t205) else (if bt213.2 = 7 then (lF.j0 k a2 t206 bt213.1 bt213.2 t220 ((bt213.1.length : Int) != 0) a1_0 a1_1 a1_2 a1_3 a1_4 a1_5 t201 t202 t203 t204 t205) else (lF.j0 k a2 t206 bt213.1 bt213.2 t220 true a1_0 a1_1 a1_2 a1_3 a1_4 a1_5 t201 t202 t203 t204 t205))))))) = some r := H
  have A5 := Aside0.mk A50
  clear A50
  replace H := Option.bind_eq_some_iff.mp H
  obtain ⟨⟨t213, t216⟩, A60, H⟩ := H
  replace H : ((smaltolaw03_own.f t206).bind fun t217 => ((apartC.f t201 t202 t203 t204 t205 t217).bind fun t220 => ((upC.f k t220 (t206.length : Int)).bind fun _ => (if t216 = 0 then (lF.j0 k a2 t206 t213 t216 t220 false a1_0 a1_1 a1_2 a1_3 a1_4 a1_5 t201 t202 t203 t204 t205) else (if t216 = 7 then (lF.j0 k a2 t206 t213 t216 t220 ((t213.length : Int) != 0) a1_0 a1_1 a1_2 a1_3 a1_4 a1_5 t201 t202 t203 t204 t205) else (lF.j0 k a2 t206 t213 t216 t220 true a1_0 a1_1 a1_2 a1_3 a1_4 a1_5 t201 t202 t203 t204 t205)))))) = some r := H
  have A6 := Aside0.mk A60
  clear A60
  replace H := Option.bind_eq_some_iff.mp H
  obtain ⟨t217, A70, H⟩ := H
  replace H : ((apartC.f t201 t202 t203 t204 t205 t217).bind fun t220 => ((upC.f k t220 (t206.length : Int)).bind fun _ => (if t216 = 0 then (lF.j0 k a2 t206 t213 t216 t220 false a1_0 a1_1 a1_2 a1_3 a1_4 a1_5 t201 t202 t203 t204 t205) else (if t216 = 7 then (lF.j0 k a2 t206 t213 t216 t220 ((t213.length : Int) != 0) a1_0 a1_1 a1_2 a1_3 a1_4 a1_5 t201 t202 t203 t204 t205) else (lF.j0 k a2 t206 t213 t216 t220 true a1_0 a1_1 a1_2 a1_3 a1_4 a1_5 t201 t202 t203 t204 t205))))) = some r := H
  have A7 := Aside0.mk A70
  clear A70
  replace H := Option.bind_eq_some_iff.mp H
  obtain ⟨t220, A80, H⟩ := H
  replace H : ((upC.f k t220 (t206.length : Int)).bind fun _ => (if t216 = 0 then (lF.j0 k a2 t206 t213 t216 t220 false a1_0 a1_1 a1_2 a1_3 a1_4 a1_5 t201 t202 t203 t204 t205) else (if t216 = 7 then (lF.j0 k a2 t206 t213 t216 t220 ((t213.length : Int) != 0) a1_0 a1_1 a1_2 a1_3 a1_4 a1_5 t201 t202 t203 t204 t205) else (lF.j0 k a2 t206 t213 t216 t220 true a1_0 a1_1 a1_2 a1_3 a1_4 a1_5 t201 t202 t203 t204 t205)))) = some r := H
  have A8 := Aside0.mk A80
  clear A80
  have HC9 := Aside0.mk H
  clear H
  go_enter Tryd.func9, Tryd.ntmps9
  try go_wp2_with (first | ((with_reducible refine gate_dst (N := 3) rfl ?_); (try (refine gate_guard (by rfl) ?_; dsimp only)); refine box_event ?hg (N := 3) ?hd (cs := #[.int .u8 a0_0, .int .u8 a0_1, .int .u8 a0_2, .int .u8 a0_3, .int .u8 a0_4, .slice A0_5 l0_5.length c0_5]) (t := 66) ?hr ?_; (case hd => rfl); (case hg => rfl); (case hr => first | (go_simp; done) | (go_simp; rfl)); intro gb199 hg w10 hbox hb; have n0_ := Aside0.mk (below_step (B_ HB) hb); have n1_ := Aside0.mk (hbox); have n2_ := Aside0.mk ((by rw [hg]; exact (below_size (B_ HB)) : w.heap.size ≤ gb199)); have n3_ := Aside0.mk ((by rw [hg]; exact (below_size (B_ HB)) : w.heap.size ≤ gb199)); clear HB; have HB := n0_; have BK199 := n1_; have GW199 := n2_; have GE199 := n3_; clear n0_ n1_ n2_ n3_; clear hb hbox hg) | ((with_reducible refine gate_dst (N := 4) rfl ?_); (try (refine gate_guard (by rfl) ?_; dsimp only)); refine box_event ?hg (N := 4) ?hd (cs := #[.int .u8 a1_0, .int .u8 a1_1, .int .u8 a1_2, .int .u8 a1_3, .int .u8 a1_4, .int .u8 a1_5]) (t := 67) ?hr ?_; (case hd => rfl); (case hg => rfl); (case hr => first | (go_simp; done) | (go_simp; rfl)); intro gb200 hg w11 hbox hb; have n0_ := Aside0.mk (blk_below (g := gb199) (o := .cells #[.int .u8 a0_0, .int .u8 a0_1, .int .u8 a0_2, .int .u8 a0_3, .int .u8 a0_4, .slice A0_5 l0_5.length c0_5] 66 (0, 0)) (b_ BK199) hb); have n1_ := Aside0.mk (below_step (by repeat (first | (with_reducible first | exact HB.out | apply below_alloc | apply pw_below_drewN | apply below_drew1 | refine below_set ?_ GE199.out) | exact HB.out)) hb); have n2_ := Aside0.mk (hbox); have n3_ := Aside0.mk ((by rw [hg]; exact (below_size (by repeat (first | (with_reducible first | exact HB.out | apply below_alloc | apply pw_below_drewN | apply below_drew1 | refine below_set ?_ GE199.out) | exact HB.out))) : w.heap.size ≤ gb200)); have n4_ := Aside0.mk ((by rw [hg]; exact (below_size (by repeat (first | (with_reducible first | exact HB.out | apply below_alloc | apply pw_below_drewN | apply below_drew1 | refine below_set ?_ GE199.out) | exact HB.out))) : w.heap.size ≤ gb200)); have n5_ := Aside0.mk ((by rw [hg]; exact Nat.ne_of_lt (blk_lt (g := gb199) (o := .cells #[.int .u8 a0_0, .int .u8 a0_1, .int .u8 a0_2, .int .u8 a0_3, .int .u8 a0_4, .slice A0_5 l0_5.length c0_5] 66 (0, 0)) (b_ BK199)) : gb199 ≠ gb200)); have n6_ := Aside0.mk ((by rw [hg]; exact Nat.ne_of_gt (blk_lt (g := gb199) (o := .cells #[.int .u8 a0_0, .int .u8 a0_1, .int .u8 a0_2, .int .u8 a0_3, .int .u8 a0_4, .slice A0_5 l0_5.length c0_5] 66 (0, 0)) (b_ BK199)) : gb200 ≠ gb199)); clear BK199; clear HB; have BK199 := n0_; have HB := n1_; have BK200 := n2_; have GW200 := n3_; have GE200 := n4_; have NB199_200 := n5_; have NB200_199 := n6_; clear n0_ n1_ n2_ n3_ n4_ n5_ n6_; clear hb hbox hg; have hnb12 := NB199_200.out; have hnc12 := NB200_199.out; have hcz13_0 : w11.cell? ⟨gb199, 0, none⟩ = some (.int .u8 a0_0) := (blk_cell BK199.out 0).trans rfl; have hcz13_1 : w11.cell? ⟨gb199, 1, none⟩ = some (.int .u8 a0_1) := (blk_cell BK199.out 1).trans rfl; have hcz13_2 : w11.cell? ⟨gb199, 2, none⟩ = some (.int .u8 a0_2) := (blk_cell BK199.out 2).trans rfl; have hcz13_3 : w11.cell? ⟨gb199, 3, none⟩ = some (.int .u8 a0_3) := (blk_cell BK199.out 3).trans rfl; have hcz13_4 : w11.cell? ⟨gb199, 4, none⟩ = some (.int .u8 a0_4) := (blk_cell BK199.out 4).trans rfl; have hcz13_5 : w11.cell? ⟨gb199, 5, none⟩ = some (.slice A0_5 l0_5.length c0_5) := (blk_cell BK199.out 5).trans rfl; have hfz13_0 := blk_frozen BK199.out 0; have hfz13_1 := blk_frozen BK199.out 1; have hfz13_2 := blk_frozen BK199.out 2; have hfz13_3 := blk_frozen BK199.out 3; have hfz13_4 := blk_frozen BK199.out 4; have hfz13_5 := blk_frozen BK199.out 5) | ((with_reducible refine gate_callee (f := 41) rfl ?_); refine goesL_ (some 42) rfl rfl Tryd.func41 (by kernel_rfl) rfl #[.agg #[.int .u8 a0_0, .int .u8 a0_1, .int .u8 a0_2, .int .u8 a0_3, .int .u8 a0_4, .slice A0_5 l0_5.length c0_5]] rfl (by (try simp only [List.map_toArray, List.map_cons, List.map_nil]); first | done | rfl | (simp only [List.length_drop, List.length_take]; rfl)) ?_; (with_reducible refine (smaltolaw03_Rack_made.calls a0_0 a0_1 a0_2 a0_3 a0_4 _ _ l0_5 t201 t202 t203 t204 t205 t206 _ ?side1 ?side2 A4.out).mono ?_); (case side1 => repeat (first | exact (Kd.C_below HR0_5.out HB.out) | (with_reducible refine Kd.C_alloc ?_ _) | (with_reducible refine Kd.C_drewN ?_ _) | (with_reducible refine Kd.C_drew ?_))); (case side2 => exact HC0_5.out); rintro e w14 ⟨v207, rfl, ho0, hb⟩; refine ⟨_, rfl, ?_⟩; have n0_ := Aside0.mk (Kd.R_lower ho0 (below_size (by repeat (first | (with_reducible first | exact HB.out | apply below_alloc | apply pw_below_drewN | apply below_drew1 | refine below_set ?_ GE199.out | refine below_set ?_ GE200.out) | exact HB.out)))); have n1_ := Aside0.mk (blk_below (g := gb199) (o := .cells #[.int .u8 a0_0, .int .u8 a0_1, .int .u8 a0_2, .int .u8 a0_3, .int .u8 a0_4, .slice A0_5 l0_5.length c0_5] 66 (0, 0)) (b_ BK199) hb); have n2_ := Aside0.mk (blk_below (g := gb200) (o := .cells #[.int .u8 a1_0, .int .u8 a1_1, .int .u8 a1_2, .int .u8 a1_3, .int .u8 a1_4, .int .u8 a1_5] 67 (0, 0)) (b_ BK200) hb); have n3_ := Aside0.mk (below_step (by repeat (first | (with_reducible first | exact HB.out | apply below_alloc | apply pw_below_drewN | apply below_drew1 | refine below_set ?_ GE199.out | refine below_set ?_ GE200.out) | exact HB.out)) hb); clear BK199; clear BK200; clear HB; have HO208 := n0_; have BK199 := n1_; have BK200 := n2_; have HB := n3_; clear n0_ n1_ n2_ n3_; (try clear hb); (try clear hb2); (try clear hk); (try clear hi); (try clear ho0)) | ((with_reducible refine gate_dst (N := 7) rfl ?_); (try (refine gate_guard (by rfl) ?_; dsimp only)); refine box_event ?hg (N := 7) ?hd (cs := #[.int .i64 0, .int .i64 0, .int .i64 0, .int .i64 0, .int .i64 0]) (t := 23) ?hr ?_; (case hd => rfl); (case hg => rfl); (case hr => first | (go_simp; done) | (go_simp; rfl)); intro gb209 hg w15 hbox hb; have n0_ := Aside0.mk (Kd.R_below (R_ HO208) hb); have n1_ := Aside0.mk (blk_below (g := gb199) (o := .cells #[.int .u8 a0_0, .int .u8 a0_1, .int .u8 a0_2, .int .u8 a0_3, .int .u8 a0_4, .slice A0_5 l0_5.length c0_5] 66 (0, 0)) (b_ BK199) hb); have n2_ := Aside0.mk (blk_below (g := gb200) (o := .cells #[.int .u8 a1_0, .int .u8 a1_1, .int .u8 a1_2, .int .u8 a1_3, .int .u8 a1_4, .int .u8 a1_5] 67 (0, 0)) (b_ BK200) hb); have n3_ := Aside0.mk (below_step (by repeat (first | (with_reducible first | exact HB.out | apply below_alloc | apply pw_below_drewN | apply below_drew1 | refine below_set ?_ GE199.out | refine below_set ?_ GE200.out) | exact HB.out)) hb); have n4_ := Aside0.mk (hbox); have n5_ := Aside0.mk ((by rw [hg]; exact (below_size (by repeat (first | (with_reducible first | exact HB.out | apply below_alloc | apply pw_below_drewN | apply below_drew1 | refine below_set ?_ GE199.out | refine below_set ?_ GE200.out) | exact HB.out))) : w.heap.size ≤ gb209)); have n6_ := Aside0.mk ((by rw [hg]; exact (below_size (by repeat (first | (with_reducible first | exact HB.out | apply below_alloc | apply pw_below_drewN | apply below_drew1 | refine below_set ?_ GE199.out | refine below_set ?_ GE200.out) | exact HB.out))) : w.heap.size ≤ gb209)); have n7_ := Aside0.mk ((by rw [hg]; exact Nat.ne_of_lt (blk_lt (g := gb199) (o := .cells #[.int .u8 a0_0, .int .u8 a0_1, .int .u8 a0_2, .int .u8 a0_3, .int .u8 a0_4, .slice A0_5 l0_5.length c0_5] 66 (0, 0)) (b_ BK199)) : gb199 ≠ gb209)); have n8_ := Aside0.mk ((by rw [hg]; exact Nat.ne_of_gt (blk_lt (g := gb199) (o := .cells #[.int .u8 a0_0, .int .u8 a0_1, .int .u8 a0_2, .int .u8 a0_3, .int .u8 a0_4, .slice A0_5 l0_5.length c0_5] 66 (0, 0)) (b_ BK199)) : gb209 ≠ gb199)); have n9_ := Aside0.mk ((by rw [hg]; exact Nat.ne_of_lt (blk_lt (g := gb200) (o := .cells #[.int .u8 a1_0, .int .u8 a1_1, .int .u8 a1_2, .int .u8 a1_3, .int .u8 a1_4, .int .u8 a1_5] 67 (0, 0)) (b_ BK200)) : gb200 ≠ gb209)); have n10_ := Aside0.mk ((by rw [hg]; exact Nat.ne_of_gt (blk_lt (g := gb200) (o := .cells #[.int .u8 a1_0, .int .u8 a1_1, .int .u8 a1_2, .int .u8 a1_3, .int .u8 a1_4, .int .u8 a1_5] 67 (0, 0)) (b_ BK200)) : gb209 ≠ gb200)); clear HO208; clear BK199; clear BK200; clear HB; have HO208 := n0_; have BK199 := n1_; have BK200 := n2_; have HB := n3_; have BK209 := n4_; have GW209 := n5_; have GE209 := n6_; have NB199_209 := n7_; have NB209_199 := n8_; have NB200_209 := n9_; have NB209_200 := n10_; clear n0_ n1_ n2_ n3_ n4_ n5_ n6_ n7_ n8_ n9_ n10_; clear hb hbox hg; have hnb16 := NB209_199.out; have hnc16 := NB199_209.out; have hnb17 := NB209_200.out; have hnc17 := NB200_209.out; have hcz18_0 : w15.cell? ⟨gb209, 0, none⟩ = some (.int .i64 0) := (blk_cell BK209.out 0).trans rfl; have hcz18_1 : w15.cell? ⟨gb209, 1, none⟩ = some (.int .i64 0) := (blk_cell BK209.out 1).trans rfl; have hcz18_2 : w15.cell? ⟨gb209, 2, none⟩ = some (.int .i64 0) := (blk_cell BK209.out 2).trans rfl; have hcz18_3 : w15.cell? ⟨gb209, 3, none⟩ = some (.int .i64 0) := (blk_cell BK209.out 3).trans rfl; have hcz18_4 : w15.cell? ⟨gb209, 4, none⟩ = some (.int .i64 0) := (blk_cell BK209.out 4).trans rfl; have hfz18_0 := blk_frozen BK209.out 0; have hfz18_1 := blk_frozen BK209.out 1; have hfz18_2 := blk_frozen BK209.out 2; have hfz18_3 := blk_frozen BK209.out 3; have hfz18_4 := blk_frozen BK209.out 4))
  have n0_ : Aside0 (Kd.R k74 74 (((((w15.setCell ⟨gb209, 0, none⟩ (.int .i64 t201)).setCell ⟨gb209, 1, none⟩ (.int .i64 t202)).setCell ⟨gb209, 2, none⟩ (.int .i64 t203)).setCell ⟨gb209, 3, none⟩ (.int .i64 t204)).setCell ⟨gb209, 4, none⟩ (.int .i64 t205)) w.heap.size (fun _ => True) v207 t206) := ⟨by (with_reducible repeat (first | apply Kd.R_alloc | apply Kd.R_drewN | apply Kd.R_drew)); exact Kd.R_mono (Kd.R_far (p := ⟨gb209, 4, none⟩) (Kd.R_far (p := ⟨gb209, 3, none⟩) (Kd.R_far (p := ⟨gb209, 2, none⟩) (Kd.R_far (p := ⟨gb209, 1, none⟩) (Kd.R_far (p := ⟨gb209, 0, none⟩) (Kd.R_types HO208.out BK209.out (by decide)) (fun _ hk => hk.2) (.int .i64 t201)) (fun _ hk => hk.2) (.int .i64 t202)) (fun _ hk => hk.2) (.int .i64 t203)) (fun _ hk => hk.2) (.int .i64 t204)) (fun _ hk => hk.2) (.int .i64 t205)) (fun _ hk => trivial)⟩
  have n1_ : Aside0 ((((((w15.setCell ⟨gb209, 0, none⟩ (.int .i64 t201)).setCell ⟨gb209, 1, none⟩ (.int .i64 t202)).setCell ⟨gb209, 2, none⟩ (.int .i64 t203)).setCell ⟨gb209, 3, none⟩ (.int .i64 t204)).setCell ⟨gb209, 4, none⟩ (.int .i64 t205)).heap[gb199]? = some (.cells #[.int .u8 a0_0, .int .u8 a0_1, .int .u8 a0_2, .int .u8 a0_3, .int .u8 a0_4, .slice A0_5 l0_5.length c0_5] 66 (0, 0))) := ⟨by (with_reducible repeat (first | refine blk_drewN ?_ _ | refine blk_drew ?_ | refine blk_alloc ?_ _)); refine blk_far ?_ NB199_209.out _; (with_reducible repeat (first | refine blk_drewN ?_ _ | refine blk_drew ?_ | refine blk_alloc ?_ _)); refine blk_far ?_ NB199_209.out _; (with_reducible repeat (first | refine blk_drewN ?_ _ | refine blk_drew ?_ | refine blk_alloc ?_ _)); refine blk_far ?_ NB199_209.out _; (with_reducible repeat (first | refine blk_drewN ?_ _ | refine blk_drew ?_ | refine blk_alloc ?_ _)); refine blk_far ?_ NB199_209.out _; (with_reducible repeat (first | refine blk_drewN ?_ _ | refine blk_drew ?_ | refine blk_alloc ?_ _)); refine blk_far ?_ NB199_209.out _; (with_reducible repeat (first | refine blk_drewN ?_ _ | refine blk_drew ?_ | refine blk_alloc ?_ _)); exact BK199.out⟩
  have n2_ : Aside0 ((((((w15.setCell ⟨gb209, 0, none⟩ (.int .i64 t201)).setCell ⟨gb209, 1, none⟩ (.int .i64 t202)).setCell ⟨gb209, 2, none⟩ (.int .i64 t203)).setCell ⟨gb209, 3, none⟩ (.int .i64 t204)).setCell ⟨gb209, 4, none⟩ (.int .i64 t205)).heap[gb200]? = some (.cells #[.int .u8 a1_0, .int .u8 a1_1, .int .u8 a1_2, .int .u8 a1_3, .int .u8 a1_4, .int .u8 a1_5] 67 (0, 0))) := ⟨by (with_reducible repeat (first | refine blk_drewN ?_ _ | refine blk_drew ?_ | refine blk_alloc ?_ _)); refine blk_far ?_ NB200_209.out _; (with_reducible repeat (first | refine blk_drewN ?_ _ | refine blk_drew ?_ | refine blk_alloc ?_ _)); refine blk_far ?_ NB200_209.out _; (with_reducible repeat (first | refine blk_drewN ?_ _ | refine blk_drew ?_ | refine blk_alloc ?_ _)); refine blk_far ?_ NB200_209.out _; (with_reducible repeat (first | refine blk_drewN ?_ _ | refine blk_drew ?_ | refine blk_alloc ?_ _)); refine blk_far ?_ NB200_209.out _; (with_reducible repeat (first | refine blk_drewN ?_ _ | refine blk_drew ?_ | refine blk_alloc ?_ _)); refine blk_far ?_ NB200_209.out _; (with_reducible repeat (first | refine blk_drewN ?_ _ | refine blk_drew ?_ | refine blk_alloc ?_ _)); exact BK200.out⟩
  have n3_ : Aside0 ((((((w15.setCell ⟨gb209, 0, none⟩ (.int .i64 t201)).setCell ⟨gb209, 1, none⟩ (.int .i64 t202)).setCell ⟨gb209, 2, none⟩ (.int .i64 t203)).setCell ⟨gb209, 3, none⟩ (.int .i64 t204)).setCell ⟨gb209, 4, none⟩ (.int .i64 t205)).heap[gb209]? = some (.cells #[.int .i64 t201, .int .i64 t202, .int .i64 t203, .int .i64 t204, .int .i64 t205] 23 (0, 0))) := ⟨by (with_reducible repeat (first | refine blk_drewN ?_ _ | refine blk_drew ?_ | refine blk_alloc ?_ _)); refine blk_put (cs := #[.int .i64 t201, .int .i64 t202, .int .i64 t203, .int .i64 t204, .int .i64 0]) ?_ 4 _ rfl; (with_reducible repeat (first | refine blk_drewN ?_ _ | refine blk_drew ?_ | refine blk_alloc ?_ _)); refine blk_put (cs := #[.int .i64 t201, .int .i64 t202, .int .i64 t203, .int .i64 0, .int .i64 0]) ?_ 3 _ rfl; (with_reducible repeat (first | refine blk_drewN ?_ _ | refine blk_drew ?_ | refine blk_alloc ?_ _)); refine blk_put (cs := #[.int .i64 t201, .int .i64 t202, .int .i64 0, .int .i64 0, .int .i64 0]) ?_ 2 _ rfl; (with_reducible repeat (first | refine blk_drewN ?_ _ | refine blk_drew ?_ | refine blk_alloc ?_ _)); refine blk_put (cs := #[.int .i64 t201, .int .i64 0, .int .i64 0, .int .i64 0, .int .i64 0]) ?_ 1 _ rfl; (with_reducible repeat (first | refine blk_drewN ?_ _ | refine blk_drew ?_ | refine blk_alloc ?_ _)); refine blk_put (cs := #[.int .i64 0, .int .i64 0, .int .i64 0, .int .i64 0, .int .i64 0]) ?_ 0 _ rfl; (with_reducible repeat (first | refine blk_drewN ?_ _ | refine blk_drew ?_ | refine blk_alloc ?_ _)); exact BK209.out⟩
  have n4_ : Aside0 (Below w.heap.size w (((((w15.setCell ⟨gb209, 0, none⟩ (.int .i64 t201)).setCell ⟨gb209, 1, none⟩ (.int .i64 t202)).setCell ⟨gb209, 2, none⟩ (.int .i64 t203)).setCell ⟨gb209, 3, none⟩ (.int .i64 t204)).setCell ⟨gb209, 4, none⟩ (.int .i64 t205))) := ⟨by repeat (first | (with_reducible first | exact HB.out | apply below_alloc | apply pw_below_drewN | apply below_drew1 | refine below_set ?_ GE199.out | refine below_set ?_ GE200.out | refine below_set ?_ GE209.out) | exact HB.out)⟩
  (try clear HO208)
  (try clear BK199)
  (try clear BK200)
  (try clear BK209)
  (try clear HB)
  generalize (((((w15.setCell ⟨gb209, 0, none⟩ (.int .i64 t201)).setCell ⟨gb209, 1, none⟩ (.int .i64 t202)).setCell ⟨gb209, 2, none⟩ (.int .i64 t203)).setCell ⟨gb209, 3, none⟩ (.int .i64 t204)).setCell ⟨gb209, 4, none⟩ (.int .i64 t205)) = w19 at n0_ n1_ n2_ n3_ n4_ ⊢
  have HO208 := n0_
  have BK199 := n1_
  have BK200 := n2_
  have BK209 := n3_
  have HB := n4_
  clear n0_ n1_ n2_ n3_ n4_
  have n0_ := Aside0.mk (Kd.R_drew HO208.out)
  have n1_ := Aside0.mk (blk_drew BK199.out)
  have n2_ := Aside0.mk (blk_drew BK200.out)
  have n3_ := Aside0.mk (blk_drew BK209.out)
  have n4_ := Aside0.mk (below_drew1 HB.out)
  clear HO208
  clear BK199
  clear BK200
  clear BK209
  clear HB
  have HO208 := n0_
  have BK199 := n1_
  have BK200 := n2_
  have BK209 := n3_
  have HB := n4_
  clear n0_ n1_ n2_ n3_ n4_
  obtain ⟨Ao21, co21, eo21⟩ := Kd.R_slice HO208.out
  (first | subst eo21 | (injection eo21 with f1_ f2_ f3_; have f4_ := f1_.symm; have f5_ := f3_.symm; clear f1_ f2_ f3_; subst f4_; subst f5_))
  refine start_ (n := 9) (S := fun w' => w'.cell? ⟨gb209, 0, none⟩ = some (.int .i64 t201) ∧ w'.cell? ⟨gb209, 1, none⟩ = some (.int .i64 t202) ∧ w'.cell? ⟨gb209, 2, none⟩ = some (.int .i64 t203) ∧ w'.cell? ⟨gb209, 3, none⟩ = some (.int .i64 t204) ∧ w'.cell? ⟨gb209, 4, none⟩ = some (.int .i64 t205)) (ds := []) (bl 9 0) (by kernel_rfl) rfl rfl ⟨(blk_cell BK209.out 0).trans rfl, (blk_cell BK209.out 1).trans rfl, (blk_cell BK209.out 2).trans rfl, (blk_cell BK209.out 3).trans rfl, (blk_cell BK209.out 4).trans rfl⟩ (fun hHeld => ?_); refine with_tabW lF.tab2 lF.bits2 (fun HT_ HW_ => ?_)
  generalize w19.drew = w20 at HO208 BK199 BK200 BK209 HB hHeld ⊢
  refine pq 1 (some 47) (bl 9 2) HT_ (h := ?_)
  refine tq 0 (some 46) (bl 9 3) HT_ HW_ hHeld (h := ?_)
  refine one_ (i := 2) (N := some 48) (bl 9 7) rfl rfl (one_of HT_.out (by kernel_rfl)) (by decide) (fun K hK => ?_)
  refine goes_ Tryd.func43 (by kernel_rfl) rfl #[.slice Ao21 t206.length co21] (by rfl) rfl rfl (by (try simp only [List.map_toArray, List.map_cons, List.map_nil]); first | done | rfl | (simp only [List.length_drop, List.length_take]; rfl)) ?_
  with_reducible refine (smaltolaw03_own.calls _ _ t206 t210 _ ?side1 ?side2 A5.out).mono ?_
  (case side1 => repeat (first | exact (Kd.R_reads' HO208.out).2.2 | (with_reducible refine Kd.C_alloc ?_ _) | (with_reducible refine Kd.C_drewN ?_ _) | (with_reducible refine Kd.C_drew ?_)))
  (case side2 => exact (Kd.R_reads' HO208.out).2.1)
  rintro e w22 ⟨v211, rfl, ho0, hb⟩
  refine ⟨_, rfl, ?_⟩
  have n0_ := Aside0.mk (Kd.R_elder' (R_ HO208) (Kd.R_base ho0) hb)
  have n1_ := Aside0.mk (Kd.R_lower (Kd.R_new' ho0 (Kd.R_lt (R_ HO208))) (below_size (by repeat (first | (with_reducible first | exact HB.out | apply below_alloc | apply pw_below_drewN | apply below_drew1 | refine below_set ?_ GE199.out | refine below_set ?_ GE200.out | refine below_set ?_ GE209.out) | exact HB.out))))
  have n2_ := Aside0.mk (blk_below (g := gb199) (o := .cells #[.int .u8 a0_0, .int .u8 a0_1, .int .u8 a0_2, .int .u8 a0_3, .int .u8 a0_4, .slice A0_5 l0_5.length c0_5] 66 (0, 0)) (b_ BK199) hb)
  have n3_ := Aside0.mk (blk_below (g := gb200) (o := .cells #[.int .u8 a1_0, .int .u8 a1_1, .int .u8 a1_2, .int .u8 a1_3, .int .u8 a1_4, .int .u8 a1_5] 67 (0, 0)) (b_ BK200) hb)
  have n4_ := Aside0.mk (blk_below (g := gb209) (o := .cells #[.int .i64 t201, .int .i64 t202, .int .i64 t203, .int .i64 t204, .int .i64 t205] 23 (0, 0)) (b_ BK209) hb)
  have n5_ := Aside0.mk (below_step (by repeat (first | (with_reducible first | exact HB.out | apply below_alloc | apply pw_below_drewN | apply below_drew1 | refine below_set ?_ GE199.out | refine below_set ?_ GE200.out | refine below_set ?_ GE209.out) | exact HB.out)) hb)
  clear HO208
  clear BK199
  clear BK200
  clear BK209
  clear HB
  have HO208 := n0_
  have HO212 := n1_
  have BK199 := n2_
  have BK200 := n3_
  have BK209 := n4_
  have HB := n5_
  clear n0_ n1_ n2_ n3_ n4_ n5_
  (try clear hb)
  (try clear hb2)
  (try clear hk)
  (try clear hi)
  (try clear ho0)
  obtain ⟨Ao23, co23, eo23⟩ := Kd.R_slice HO212.out
  (first | subst eo23 | (injection eo23 with f1_ f2_ f3_; have f4_ := f1_.symm; have f5_ := f3_.symm; clear f1_ f2_ f3_; subst f4_; subst f5_))
  refine hK.out _ _ ⟨(blk_cell BK209.out 0).trans rfl, (blk_cell BK209.out 1).trans rfl, (blk_cell BK209.out 2).trans rfl, (blk_cell BK209.out 3).trans rfl, (blk_cell BK209.out 4).trans rfl⟩ (fun hHeld => ?_)
  clear hK K
  refine nq 48 ?_
  refine one_ (i := 3) (N := some 49) (bl 9 15) rfl rfl (one_of HT_.out (by kernel_rfl)) (by decide) (fun K hK => ?_)
  refine goes_ Tryd.func31 (by kernel_rfl) rfl #[.agg #[.int .i64 t201, .int .i64 t202, .int .i64 t203, .int .i64 t204, .int .i64 t205], .slice Ao23 t210.length co23] (by rfl) rfl rfl (by (try simp only [List.map_toArray, List.map_cons, List.map_nil]); first | done | rfl | (simp only [List.length_drop, List.length_take]; rfl)) ?_
  with_reducible refine (fork_Loads.calls t201 t202 t203 t204 t205 _ _ t210 t213 t216 _ ?side3 ?side1 ?side2 A6.out).mono ?_
  (case side1 => repeat (first | exact (Kd.R_reads' HO212.out).2.2 | (with_reducible refine Kd.C_alloc ?_ _) | (with_reducible refine Kd.C_drewN ?_ _) | (with_reducible refine Kd.C_drew ?_)))
  (case side2 => exact (Kd.R_reads' HO212.out).2.1)
  (case side3 => exact Hand.TabW.below HTAB.out (by repeat (first | (with_reducible first | exact HB.out | apply below_alloc | apply pw_below_drewN | apply below_drew1 | refine below_set ?_ GE199.out | refine below_set ?_ GE200.out | refine below_set ?_ GE209.out) | exact HB.out)))
  rintro e w24 ⟨v214, rfl, ho0, hb⟩
  refine ⟨_, rfl, ?_⟩
  have n0_ := Aside0.mk (Kd.R_below (R_ HO208) hb)
  have n1_ := Aside0.mk (Kd.R_below (R_ HO212) hb)
  have n2_ := Aside0.mk (Kd.R_lower ho0 (below_size (by repeat (first | (with_reducible first | exact HB.out | apply below_alloc | apply pw_below_drewN | apply below_drew1 | refine below_set ?_ GE199.out | refine below_set ?_ GE200.out | refine below_set ?_ GE209.out) | exact HB.out))))
  have n3_ := Aside0.mk (blk_below (g := gb199) (o := .cells #[.int .u8 a0_0, .int .u8 a0_1, .int .u8 a0_2, .int .u8 a0_3, .int .u8 a0_4, .slice A0_5 l0_5.length c0_5] 66 (0, 0)) (b_ BK199) hb)
  have n4_ := Aside0.mk (blk_below (g := gb200) (o := .cells #[.int .u8 a1_0, .int .u8 a1_1, .int .u8 a1_2, .int .u8 a1_3, .int .u8 a1_4, .int .u8 a1_5] 67 (0, 0)) (b_ BK200) hb)
  have n5_ := Aside0.mk (blk_below (g := gb209) (o := .cells #[.int .i64 t201, .int .i64 t202, .int .i64 t203, .int .i64 t204, .int .i64 t205] 23 (0, 0)) (b_ BK209) hb)
  have n6_ := Aside0.mk (below_step (by repeat (first | (with_reducible first | exact HB.out | apply below_alloc | apply pw_below_drewN | apply below_drew1 | refine below_set ?_ GE199.out | refine below_set ?_ GE200.out | refine below_set ?_ GE209.out) | exact HB.out)) hb)
  clear HO208
  clear HO212
  clear BK199
  clear BK200
  clear BK209
  clear HB
  have HO208 := n0_
  have HO212 := n1_
  have HO215 := n2_
  have BK199 := n3_
  have BK200 := n4_
  have BK209 := n5_
  have HB := n6_
  clear n0_ n1_ n2_ n3_ n4_ n5_ n6_
  (try clear hb)
  (try clear hb2)
  (try clear hk)
  (try clear hi)
  (try clear ho0)
  refine hK.out _ _ ⟨(blk_cell BK209.out 0).trans rfl, (blk_cell BK209.out 1).trans rfl, (blk_cell BK209.out 2).trans rfl, (blk_cell BK209.out 3).trans rfl, (blk_cell BK209.out 4).trans rfl⟩ (fun hHeld => ?_)
  clear hK K
  refine nq 49 ?_
  refine pq 4 (some 45) (bl 9 31) HT_ (h := ?_)
  refine pq 5 (some 50) (bl 9 63) HT_ (h := ?_)
  refine pq 6 (some 51) (bl 9 127) HT_ (h := ?_)
  refine pq 7 (some 9) (bl 9 255) HT_ (h := ?_)
  refine pq 8 (some 10) (bl 9 511) HT_ (h := ?_)
  refine done_ (done_of HT_.out (by kernel_rfl)) ?_
  try go_wp2
  have n0_ := Aside0.mk (Kd.R_drew HO208.out)
  have n1_ := Aside0.mk (Kd.R_drew HO212.out)
  have n2_ := Aside0.mk (Kd.R_drew HO215.out)
  have n3_ := Aside0.mk (blk_drew BK199.out)
  have n4_ := Aside0.mk (blk_drew BK200.out)
  have n5_ := Aside0.mk (blk_drew BK209.out)
  have n6_ := Aside0.mk (below_drew1 HB.out)
  clear HO208
  clear HO212
  clear HO215
  clear BK199
  clear BK200
  clear BK209
  clear HB
  have HO208 := n0_
  have HO212 := n1_
  have HO215 := n2_
  have BK199 := n3_
  have BK200 := n4_
  have BK209 := n5_
  have HB := n6_
  clear n0_ n1_ n2_ n3_ n4_ n5_ n6_
  refine start_ (n := 9) (S := fun w' => w'.cell? ⟨gb209, 0, none⟩ = some (.int .i64 t201) ∧ w'.cell? ⟨gb209, 1, none⟩ = some (.int .i64 t202) ∧ w'.cell? ⟨gb209, 2, none⟩ = some (.int .i64 t203) ∧ w'.cell? ⟨gb209, 3, none⟩ = some (.int .i64 t204) ∧ w'.cell? ⟨gb209, 4, none⟩ = some (.int .i64 t205)) (ds := []) (bl 9 0) (by kernel_rfl) rfl rfl ⟨(blk_cell BK209.out 0).trans rfl, (blk_cell BK209.out 1).trans rfl, (blk_cell BK209.out 2).trans rfl, (blk_cell BK209.out 3).trans rfl, (blk_cell BK209.out 4).trans rfl⟩ (fun hHeld => ?_); refine with_tabW lF.tab3 lF.bits3 (fun HT_ HW_ => ?_)
  generalize w24.drew = w25 at HO208 HO212 HO215 BK199 BK200 BK209 HB hHeld ⊢
  refine pq 1 (some 54) (bl 9 2) HT_ (h := ?_)
  refine tq 0 (some 53) (bl 9 3) HT_ HW_ hHeld (h := ?_)
  refine one_ (i := 2) (N := some 55) (bl 9 7) rfl rfl (one_of HT_.out (by kernel_rfl)) (by decide) (fun K hK => ?_)
  refine goes_ Tryd.func43 (by kernel_rfl) rfl #[.slice Ao21 t206.length co21] (by rfl) rfl rfl (by (try simp only [List.map_toArray, List.map_cons, List.map_nil]); first | done | rfl | (simp only [List.length_drop, List.length_take]; rfl)) ?_
  with_reducible refine (smaltolaw03_own.calls _ _ t206 t217 _ ?side1 ?side2 A7.out).mono ?_
  (case side1 => repeat (first | exact (Kd.R_reads' HO208.out).2.2 | (with_reducible refine Kd.C_alloc ?_ _) | (with_reducible refine Kd.C_drewN ?_ _) | (with_reducible refine Kd.C_drew ?_)))
  (case side2 => exact (Kd.R_reads' HO208.out).2.1)
  rintro e w26 ⟨v218, rfl, ho0, hb⟩
  refine ⟨_, rfl, ?_⟩
  have n0_ := Aside0.mk (Kd.R_elder' (R_ HO208) (Kd.R_base ho0) hb)
  have n1_ := Aside0.mk (Kd.R_elder' (R_ HO212) (Kd.R_base ho0) hb)
  have n2_ := Aside0.mk (Kd.R_below (R_ HO215) hb)
  have n3_ := Aside0.mk (Kd.R_lower (Kd.R_new' (Kd.R_new' ho0 (Kd.R_lt (R_ HO208))) (Kd.R_lt (R_ HO212))) (below_size (by repeat (first | (with_reducible first | exact HB.out | apply below_alloc | apply pw_below_drewN | apply below_drew1 | refine below_set ?_ GE199.out | refine below_set ?_ GE200.out | refine below_set ?_ GE209.out) | exact HB.out))))
  have n4_ := Aside0.mk (blk_below (g := gb199) (o := .cells #[.int .u8 a0_0, .int .u8 a0_1, .int .u8 a0_2, .int .u8 a0_3, .int .u8 a0_4, .slice A0_5 l0_5.length c0_5] 66 (0, 0)) (b_ BK199) hb)
  have n5_ := Aside0.mk (blk_below (g := gb200) (o := .cells #[.int .u8 a1_0, .int .u8 a1_1, .int .u8 a1_2, .int .u8 a1_3, .int .u8 a1_4, .int .u8 a1_5] 67 (0, 0)) (b_ BK200) hb)
  have n6_ := Aside0.mk (blk_below (g := gb209) (o := .cells #[.int .i64 t201, .int .i64 t202, .int .i64 t203, .int .i64 t204, .int .i64 t205] 23 (0, 0)) (b_ BK209) hb)
  have n7_ := Aside0.mk (below_step (by repeat (first | (with_reducible first | exact HB.out | apply below_alloc | apply pw_below_drewN | apply below_drew1 | refine below_set ?_ GE199.out | refine below_set ?_ GE200.out | refine below_set ?_ GE209.out) | exact HB.out)) hb)
  clear HO208
  clear HO212
  clear HO215
  clear BK199
  clear BK200
  clear BK209
  clear HB
  have HO208 := n0_
  have HO212 := n1_
  have HO215 := n2_
  have HO219 := n3_
  have BK199 := n4_
  have BK200 := n5_
  have BK209 := n6_
  have HB := n7_
  clear n0_ n1_ n2_ n3_ n4_ n5_ n6_ n7_
  (try clear hb)
  (try clear hb2)
  (try clear hk)
  (try clear hi)
  (try clear ho0)
  obtain ⟨Ao27, co27, eo27⟩ := Kd.R_slice HO219.out
  (first | subst eo27 | (injection eo27 with f1_ f2_ f3_; have f4_ := f1_.symm; have f5_ := f3_.symm; clear f1_ f2_ f3_; subst f4_; subst f5_))
  refine hK.out _ _ ⟨(blk_cell BK209.out 0).trans rfl, (blk_cell BK209.out 1).trans rfl, (blk_cell BK209.out 2).trans rfl, (blk_cell BK209.out 3).trans rfl, (blk_cell BK209.out 4).trans rfl⟩ (fun hHeld => ?_)
  clear hK K
  refine nq 55 ?_
  refine one_ (i := 3) (N := some 56) (bl 9 15) rfl rfl (one_of HT_.out (by kernel_rfl)) (by decide) (fun K hK => ?_)
  refine goes_ Tryd.func36 (by kernel_rfl) rfl #[.agg #[.int .i64 t201, .int .i64 t202, .int .i64 t203, .int .i64 t204, .int .i64 t205], .slice Ao27 t217.length co27] (by rfl) rfl rfl (by (try simp only [List.map_toArray, List.map_cons, List.map_nil]); first | done | rfl | (simp only [List.length_drop, List.length_take]; rfl)) ?_
  with_reducible refine (apartC.calls t201 t202 t203 t204 t205 _ _ t217 t220 _ ?side3 ?side1 ?side2 A8.out).mono ?_
  (case side1 => repeat (first | exact (Kd.R_reads' HO219.out).2.2 | (with_reducible refine Kd.C_alloc ?_ _) | (with_reducible refine Kd.C_drewN ?_ _) | (with_reducible refine Kd.C_drew ?_)))
  (case side2 => exact (Kd.R_reads' HO219.out).2.1)
  (case side3 => exact Hand.TabW.below HTAB.out (by repeat (first | (with_reducible first | exact HB.out | apply below_alloc | apply pw_below_drewN | apply below_drew1 | refine below_set ?_ GE199.out | refine below_set ?_ GE200.out | refine below_set ?_ GE209.out) | exact HB.out)))
  rintro e w28 ⟨v221, rfl, ho0, hb⟩
  refine ⟨_, rfl, ?_⟩
  have n0_ := Aside0.mk (Kd.R_below (R_ HO208) hb)
  have n1_ := Aside0.mk (Kd.R_below (R_ HO212) hb)
  have n2_ := Aside0.mk (Kd.R_elder' (R_ HO215) (Kd.R_base ho0) hb)
  have n3_ := Aside0.mk (Kd.R_below (R_ HO219) hb)
  have n4_ := Aside0.mk (Kd.R_lower (Kd.R_new' ho0 (Kd.R_lt (R_ HO215))) (below_size (by repeat (first | (with_reducible first | exact HB.out | apply below_alloc | apply pw_below_drewN | apply below_drew1 | refine below_set ?_ GE199.out | refine below_set ?_ GE200.out | refine below_set ?_ GE209.out) | exact HB.out))))
  have n5_ := Aside0.mk (blk_below (g := gb199) (o := .cells #[.int .u8 a0_0, .int .u8 a0_1, .int .u8 a0_2, .int .u8 a0_3, .int .u8 a0_4, .slice A0_5 l0_5.length c0_5] 66 (0, 0)) (b_ BK199) hb)
  have n6_ := Aside0.mk (blk_below (g := gb200) (o := .cells #[.int .u8 a1_0, .int .u8 a1_1, .int .u8 a1_2, .int .u8 a1_3, .int .u8 a1_4, .int .u8 a1_5] 67 (0, 0)) (b_ BK200) hb)
  have n7_ := Aside0.mk (blk_below (g := gb209) (o := .cells #[.int .i64 t201, .int .i64 t202, .int .i64 t203, .int .i64 t204, .int .i64 t205] 23 (0, 0)) (b_ BK209) hb)
  have n8_ := Aside0.mk (below_step (by repeat (first | (with_reducible first | exact HB.out | apply below_alloc | apply pw_below_drewN | apply below_drew1 | refine below_set ?_ GE199.out | refine below_set ?_ GE200.out | refine below_set ?_ GE209.out) | exact HB.out)) hb)
  clear HO208
  clear HO212
  clear HO215
  clear HO219
  clear BK199
  clear BK200
  clear BK209
  clear HB
  have HO208 := n0_
  have HO212 := n1_
  have HO215 := n2_
  have HO219 := n3_
  have HO222 := n4_
  have BK199 := n5_
  have BK200 := n6_
  have BK209 := n7_
  have HB := n8_
  clear n0_ n1_ n2_ n3_ n4_ n5_ n6_ n7_ n8_
  (try clear hb)
  (try clear hb2)
  (try clear hk)
  (try clear hi)
  (try clear ho0)
  refine hK.out _ _ ⟨(blk_cell BK209.out 0).trans rfl, (blk_cell BK209.out 1).trans rfl, (blk_cell BK209.out 2).trans rfl, (blk_cell BK209.out 3).trans rfl, (blk_cell BK209.out 4).trans rfl⟩ (fun hHeld => ?_)
  clear hK K
  refine nq 56 ?_
  refine pq 4 (some 52) (bl 9 31) HT_ (h := ?_)
  refine pq 5 (some 57) (bl 9 63) HT_ (h := ?_)
  refine pq 6 (some 58) (bl 9 127) HT_ (h := ?_)
  refine pq 7 (some 11) (bl 9 255) HT_ (h := ?_)
  refine pq 8 (some 12) (bl 9 511) HT_ (h := ?_)
  refine done_ (done_of HT_.out (by kernel_rfl)) ?_
  go_upto_region 4 with (fail)
  go_cut [80] (fun v80 wc => ∃ (kq : Nat) (x80_8 : Bool), v80 = .bool x80_8 ∧ Aside0 (lF.j0 kq a2 t206 t213 t216 t220 x80_8 a1_0 a1_1 a1_2 a1_3 a1_4 a1_5 t201 t202 t203 t204 t205 = some r) ∧ Aside0 (kq ≤ k) ∧ Aside0 (Kd.R k74 74 wc w.heap.size (fun _ => True) (.slice Ao21 t206.length co21) t206) ∧ Aside0 (Kd.R (Kd.int .i64) 3 wc w.heap.size (fun k_ => some k_ ≠ (v221 : Value).ownBlock) v214 t213) ∧ Aside0 (Kd.R (Kd.int .i64) 3 wc w.heap.size (fun k_ => some k_ ≠ (v214 : Value).ownBlock) v221 t220) ∧ Aside0 (wc.heap[gb199]? = some (.cells #[.int .u8 a0_0, .int .u8 a0_1, .int .u8 a0_2, .int .u8 a0_3, .int .u8 a0_4, (.slice A0_5 l0_5.length c0_5)] 66 (0, 0))) ∧ Aside0 (wc.heap[gb200]? = some (.cells #[.int .u8 a1_0, .int .u8 a1_1, .int .u8 a1_2, .int .u8 a1_3, .int .u8 a1_4, .int .u8 a1_5] 67 (0, 0))) ∧ Aside0 (wc.heap[gb209]? = some (.cells #[.int .i64 t201, .int .i64 t202, .int .i64 t203, .int .i64 t204, .int .i64 t205] 23 (0, 0))) ∧ Aside0 (Below w.heap.size w wc))
  case first =>
   have H := HC9.out
   clear HC9
   replace H := Option.bind_eq_some_iff.mp H
   obtain ⟨_, A290, H⟩ := H
   replace H : (if t216 = 0 then (lF.j0 k a2 t206 t213 t216 t220 false a1_0 a1_1 a1_2 a1_3 a1_4 a1_5 t201 t202 t203 t204 t205) else (if t216 = 7 then (lF.j0 k a2 t206 t213 t216 t220 ((t213.length : Int) != 0) a1_0 a1_1 a1_2 a1_3 a1_4 a1_5 t201 t202 t203 t204 t205) else (lF.j0 k a2 t206 t213 t216 t220 true a1_0 a1_1 a1_2 a1_3 a1_4 a1_5 t201 t202 t203 t204 t205))) = some r := H
   have A29 := Aside0.mk A290
   clear A290
   by_cases c30 : t216 = 0
   ·rw [if_pos c30] at H
    have c30b0 : (t216 == 0) = true := beq_iff_eq.mpr c30
    have c30b1 : (t216 != 0) = false := bne_eq_false_iff_eq.mpr c30
    clear c30
    (first | rw [c30b0] | (simp only [i64_w, i32_w]; rw [c30b0]) | skip)
    have H' := Aside0.mk H
    clear H
    obtain ⟨Ao31, co31, eo31⟩ := Kd.R_slice HO222.out
    subst eo31
    go_wp2_with (first | (go_at_call 46; (with_reducible refine (upC.calls k _ _ t220 (t206.length : Int)  _ ?side1 ?side2 A29.out).mono ?_); (case side1 => repeat (first | exact (Kd.R_reads' HO222.out).2.2 | (with_reducible refine Kd.C_alloc ?_ _) | (with_reducible refine Kd.C_drewN ?_ _) | (with_reducible refine Kd.C_drew ?_))); (case side2 => exact (Kd.R_reads' HO222.out).2.1); rintro e w' ⟨rfl, ⟨nd, rfl⟩⟩))
    go_meet
    case rel => exact ⟨_, (false), (by first | rfl | (simp; done) | (simp [*]; done)), H', ⟨by first | omega | exact Nat.le_refl _⟩, ⟨Kd.R_mono (R_ HO208) (fun _ hk => trivial)⟩, ⟨Kd.R_mono (R_ HO215) (fun _ hk => hk.2)⟩, ⟨Kd.R_mono (R_ HO222) (fun _ hk => hk.2)⟩, ⟨b_ BK199⟩, ⟨b_ BK200⟩, ⟨b_ BK209⟩, ⟨by repeat (first | (with_reducible first | exact HB.out | apply below_alloc | apply pw_below_drewN | apply below_drew1 | refine below_set ?_ GE199.out | refine below_set ?_ GE200.out | refine below_set ?_ GE209.out) | exact HB.out)⟩⟩
   rw [if_neg c30] at H
   have c30b0 : (t216 == 0) = false := beq_eq_false_iff_ne.mpr c30
   have c30b1 : (t216 != 0) = true := bne_iff_ne.mpr c30
   (first | rw [c30b0] | (simp only [i64_w, i32_w]; rw [c30b0]) | skip)
   by_cases c32 : t216 = 7
   ·rw [if_pos c32] at H
    have c32b0 : (t216 == 7) = true := beq_iff_eq.mpr c32
    have c32b1 : (t216 != 7) = false := bne_eq_false_iff_eq.mpr c32
    clear c32
    have H' := Aside0.mk H
    clear H
    obtain ⟨Ao33, co33, eo33⟩ := Kd.R_slice HO222.out
    subst eo33
    go_wp2_with (first | (go_at_call 46; (with_reducible refine (upC.calls k _ _ t220 (t206.length : Int)  _ ?side1 ?side2 A29.out).mono ?_); (case side1 => repeat (first | exact (Kd.R_reads' HO222.out).2.2 | (with_reducible refine Kd.C_alloc ?_ _) | (with_reducible refine Kd.C_drewN ?_ _) | (with_reducible refine Kd.C_drew ?_))); (case side2 => exact (Kd.R_reads' HO222.out).2.1); rintro e w' ⟨rfl, ⟨nd, rfl⟩⟩; obtain ⟨Ao34, co34, eo34⟩ := Kd.R_slice HO215.out; subst eo34))
    go_meet
    case rel => exact ⟨_, (((t213.length : Int) != 0)), (by first | rfl | (simp; done) | (simp [*]; done)), H', ⟨by first | omega | exact Nat.le_refl _⟩, ⟨Kd.R_mono (R_ HO208) (fun _ hk => trivial)⟩, ⟨Kd.R_mono (R_ HO215) (fun _ hk => hk.2)⟩, ⟨Kd.R_mono (R_ HO222) (fun _ hk => hk.2)⟩, ⟨b_ BK199⟩, ⟨b_ BK200⟩, ⟨b_ BK209⟩, ⟨by repeat (first | (with_reducible first | exact HB.out | apply below_alloc | apply pw_below_drewN | apply below_drew1 | refine below_set ?_ GE199.out | refine below_set ?_ GE200.out | refine below_set ?_ GE209.out) | exact HB.out)⟩⟩
   rw [if_neg c32] at H
   have c32b0 : (t216 == 7) = false := beq_eq_false_iff_ne.mpr c32
   have c32b1 : (t216 != 7) = true := bne_iff_ne.mpr c32
   have H' := Aside0.mk H
   clear H
   obtain ⟨Ao35, co35, eo35⟩ := Kd.R_slice HO222.out
   subst eo35
   go_wp2_with (first | (go_at_call 46; (with_reducible refine (upC.calls k _ _ t220 (t206.length : Int)  _ ?side1 ?side2 A29.out).mono ?_); (case side1 => repeat (first | exact (Kd.R_reads' HO222.out).2.2 | (with_reducible refine Kd.C_alloc ?_ _) | (with_reducible refine Kd.C_drewN ?_ _) | (with_reducible refine Kd.C_drew ?_))); (case side2 => exact (Kd.R_reads' HO222.out).2.1); rintro e w' ⟨rfl, ⟨nd, rfl⟩⟩))
   go_meet
   case rel => exact ⟨_, (true), (by first | rfl | (simp; done) | (simp [*]; done)), H', ⟨by first | omega | exact Nat.le_refl _⟩, ⟨Kd.R_mono (R_ HO208) (fun _ hk => trivial)⟩, ⟨Kd.R_mono (R_ HO215) (fun _ hk => hk.2)⟩, ⟨Kd.R_mono (R_ HO222) (fun _ hk => hk.2)⟩, ⟨b_ BK199⟩, ⟨b_ BK200⟩, ⟨b_ BK209⟩, ⟨by repeat (first | (with_reducible first | exact HB.out | apply below_alloc | apply pw_below_drewN | apply below_drew1 | refine below_set ?_ GE199.out | refine below_set ?_ GE200.out | refine below_set ?_ GE209.out) | exact HB.out)⟩⟩
  case rest =>
   clear HC9
   try clear c1
   try clear p2
   try clear c3
   try clear c4
   try clear c9
   try clear c12
   try clear c16
   try clear c17
   try clear c30
   try clear c30b0
   try clear c30b1
   try clear c31
   try clear c32
   try clear c32b0
   try clear c32b1
   try clear hcz13_0
   try clear hcz13_1
   try clear hcz13_2
   try clear hcz13_3
   try clear hcz13_4
   try clear hcz13_5
   try clear hcz18_0
   try clear hcz18_1
   try clear hcz18_2
   try clear hcz18_3
   try clear hcz18_4
   try clear hfz13_0
   try clear hfz13_1
   try clear hfz13_2
   try clear hfz13_3
   try clear hfz13_4
   try clear hfz13_5
   try clear hfz18_0
   try clear hfz18_1
   try clear hfz18_2
   try clear hfz18_3
   try clear hfz18_4
   obtain ⟨kq, x80_8, rfl, HA, HJ8, HO_8, HO_9, HO_11, BK199, BK200, BK209, HB⟩ := hcut
   rcases kq with _ | kj8
   ·exact absurd HA.out (by simp [lF.j0])
   have H := HA.out
   clear HA
   simp only [lF.j0] at H
   by_cases c36 : x80_8 = true
   ·subst c36
    have H1 : (some false) = some r := by rw [if_pos rfl] at H; exact H
    clear H
    have H := H1
    clear H1
    obtain rfl := Option.some.inj H
    go_wp2
    go_ret
    exact ⟨by first | rfl | (simp [errW_none, errW_some] <;> rfl) | (simp [*, errW_none, errW_some] <;> rfl), by repeat (first | (with_reducible first | exact HB.out | apply below_alloc | apply pw_below_drewN | apply below_drew1 | refine below_set ?_ GE199.out | refine below_set ?_ GE200.out | refine below_set ?_ GE209.out) | exact HB.out)⟩
   replace c36 := Bool.eq_false_iff.mpr c36
   subst c36
   have H1 : (lF.l0 kj8 a2 t206 t213 t216 t220 0 a1_0 a1_1 a1_2 a1_3 a1_4 a1_5 t201 t202 t203 t204 t205) = some r := by rw [if_neg (show ¬ (false = true) by decide)] at H; exact H
   clear H
   have H := H1
   clear H1
   have H' := Aside0.mk H
   clear H
   go_wp2
   go_loopg [13] kj8 (fun kq v13 w' => ∃ (x13_2 : Int), v13 = .int .i64 x13_2 ∧ Aside0 (lF.l0 kq a2 t206 t213 t216 t220 x13_2 a1_0 a1_1 a1_2 a1_3 a1_4 a1_5 t201 t202 t203 t204 t205 = some r) ∧ Aside0 (kq ≤ kj8) ∧ Aside0 (Kd.R k74 74 w' w.heap.size (fun _ => True) (.slice Ao21 t206.length co21) t206) ∧ Aside0 (Kd.R (Kd.int .i64) 3 w' w.heap.size (fun k_ => some k_ ≠ (v221 : Value).ownBlock) v214 t213) ∧ Aside0 (Kd.R (Kd.int .i64) 3 w' w.heap.size (fun k_ => some k_ ≠ (v214 : Value).ownBlock) v221 t220) ∧ Aside0 (w'.heap[gb199]? = some (.cells #[.int .u8 a0_0, .int .u8 a0_1, .int .u8 a0_2, .int .u8 a0_3, .int .u8 a0_4, (.slice A0_5 l0_5.length c0_5)] 66 (0, 0))) ∧ Aside0 (w'.heap[gb200]? = some (.cells #[.int .u8 a1_0, .int .u8 a1_1, .int .u8 a1_2, .int .u8 a1_3, .int .u8 a1_4, .int .u8 a1_5] 67 (0, 0))) ∧ Aside0 (w'.heap[gb209]? = some (.cells #[.int .i64 t201, .int .i64 t202, .int .i64 t203, .int .i64 t204, .int .i64 t205] 23 (0, 0))) ∧ Aside0 (Below w.heap.size w w'))
   case atStart => exact ⟨(0), (by first | rfl | (simp; done) | (simp [*]; done)), H', ⟨Nat.le_refl _⟩, ⟨R_ HO_8⟩, ⟨R_ HO_9⟩, ⟨R_ HO_11⟩, ⟨b_ BK199⟩, ⟨b_ BK200⟩, ⟨b_ BK209⟩, ⟨by repeat (first | (with_reducible first | exact HB.out | apply below_alloc | apply pw_below_drewN | apply below_drew1 | refine below_set ?_ GE199.out | refine below_set ?_ GE200.out | refine below_set ?_ GE209.out) | exact HB.out)⟩⟩
   case round =>
    clear H'
    try clear c1
    try clear p2
    try clear c3
    try clear c4
    try clear c9
    try clear c12
    try clear c16
    try clear c17
    try clear c30
    try clear c30b0
    try clear c30b1
    try clear c31
    try clear c32
    try clear c32b0
    try clear c32b1
    try clear c36
    try clear hcz13_0
    try clear hcz13_1
    try clear hcz13_2
    try clear hcz13_3
    try clear hcz13_4
    try clear hcz13_5
    try clear hcz18_0
    try clear hcz18_1
    try clear hcz18_2
    try clear hcz18_3
    try clear hcz18_4
    try clear hfz13_0
    try clear hfz13_1
    try clear hfz13_2
    try clear hfz13_3
    try clear hfz13_4
    try clear hfz13_5
    try clear hfz18_0
    try clear hfz18_1
    try clear hfz18_2
    try clear hfz18_3
    try clear hfz18_4
    try clear p2
    obtain ⟨x13_2, rfl, HA, HK2, HO_8, HO_9, HO_11, BK199, BK200, BK209, HB⟩ := hrel
    rcases gk with _ | k2
    ·exact absurd HA.out (by simp [lF.l0])
    have H := HA.out
    clear HA
    simp only [lF.l0] at H
    by_cases c37 : x13_2 < (t220.length : Int)
    ·rw [if_pos c37] at H
     have c37b0 : decide (x13_2 < (t220.length : Int)) = true := decide_eq_true c37
     clear c37
     have H' := Aside0.mk H
     clear H
     obtain ⟨Ao38, co38, eo38⟩ := Kd.R_slice HO_11.out
     subst eo38
     go_wp2
     go_loopg [14] k2 (fun kq v14 w' => ∃ (x14_3 : Int), v14 = .int .i64 x14_3 ∧ Aside0 (lF.l1 kq a2 t206 t213 t216 t220 x13_2 x14_3 a1_0 a1_1 a1_2 a1_3 a1_4 a1_5 t201 t202 t203 t204 t205 = some r) ∧ Aside0 (kq ≤ k2) ∧ Aside0 (Kd.R k74 74 w' w.heap.size (fun _ => True) (.slice Ao21 t206.length co21) t206) ∧ Aside0 (Kd.R (Kd.int .i64) 3 w' w.heap.size (fun k_ => some k_ ≠ ((.slice Ao38 t220.length co38) : Value).ownBlock) v214 t213) ∧ Aside0 (Kd.R (Kd.int .i64) 3 w' w.heap.size (fun k_ => some k_ ≠ (v214 : Value).ownBlock) (.slice Ao38 t220.length co38) t220) ∧ Aside0 (w'.heap[gb199]? = some (.cells #[.int .u8 a0_0, .int .u8 a0_1, .int .u8 a0_2, .int .u8 a0_3, .int .u8 a0_4, (.slice A0_5 l0_5.length c0_5)] 66 (0, 0))) ∧ Aside0 (w'.heap[gb200]? = some (.cells #[.int .u8 a1_0, .int .u8 a1_1, .int .u8 a1_2, .int .u8 a1_3, .int .u8 a1_4, .int .u8 a1_5] 67 (0, 0))) ∧ Aside0 (w'.heap[gb209]? = some (.cells #[.int .i64 t201, .int .i64 t202, .int .i64 t203, .int .i64 t204, .int .i64 t205] 23 (0, 0))) ∧ Aside0 (Below w.heap.size w w'))
     case atStart => exact ⟨(0), (by first | rfl | (simp; done) | (simp [*]; done)), H', ⟨Nat.le_refl _⟩, ⟨R_ HO_8⟩, ⟨R_ HO_9⟩, ⟨R_ HO_11⟩, ⟨b_ BK199⟩, ⟨b_ BK200⟩, ⟨b_ BK209⟩, ⟨by repeat (first | (with_reducible first | exact HB.out | apply below_alloc | apply pw_below_drewN | apply below_drew1 | refine below_set ?_ GE199.out | refine below_set ?_ GE200.out | refine below_set ?_ GE209.out) | exact HB.out)⟩⟩
     case round => as_aux_lemma =>
      clear H'
      try clear c1
      try clear p2
      try clear c3
      try clear c4
      try clear c9
      try clear c12
      try clear c16
      try clear c17
      try clear c30
      try clear c30b0
      try clear c30b1
      try clear c31
      try clear c32
      try clear c32b0
      try clear c32b1
      try clear c36
      try clear c37
      try clear c37b0
      try clear hcz13_0
      try clear hcz13_1
      try clear hcz13_2
      try clear hcz13_3
      try clear hcz13_4
      try clear hcz13_5
      try clear hcz18_0
      try clear hcz18_1
      try clear hcz18_2
      try clear hcz18_3
      try clear hcz18_4
      try clear hfz13_0
      try clear hfz13_1
      try clear hfz13_2
      try clear hfz13_3
      try clear hfz13_4
      try clear hfz13_5
      try clear hfz18_0
      try clear hfz18_1
      try clear hfz18_2
      try clear hfz18_3
      try clear hfz18_4
      try clear p2
      obtain ⟨x14_3, rfl, HA, HK3, HO_8, HO_9, HO_11, BK199, BK200, BK209, HB⟩ := hrel
      rcases gk with _ | k3
      ·exact absurd HA.out (by simp [lF.l1])
      have H := HA.out
      clear HA
      simp only [lF.l1] at H
      by_cases c39 : x14_3 < x13_2
      ·rw [if_pos c39] at H
       have c39b0 : decide (x14_3 < x13_2) = true := decide_eq_true c39
       clear c39
       replace H := Option.bind_eq_some_iff.mp H
       obtain ⟨t225, A400, H⟩ := H
       replace H : (if 0 ≤ x14_3 then (if x14_3 < (t220.length : Int) then (if 0 ≤ x13_2 then (if x13_2 < (t220.length : Int) then ((goesC.f t201 t202 t203 t204 t205 t225 (([rd t220 x14_3, rd t220 x13_2] : List Int))).bind fun bt233 => (if bt233.1 = true then (some false) else (lF.l1 k3 a2 t206 t213 t216 t220 x13_2 (wrap64 (x14_3 + 1)) a1_0 a1_1 a1_2 a1_3 a1_4 a1_5 t201 t202 t203 t204 t205))) else (none)) else (none)) else (none)) else (none)) = some r := H
       have A40 := Aside0.mk A400
       clear A400
       by_cases c41 : 0 ≤ x14_3
       ·rw [if_pos c41] at H
        have c41b0 : decide (0 ≤ x14_3) = true := decide_eq_true c41
        clear c41
        by_cases c42 : x14_3 < (t220.length : Int)
        ·rw [if_pos c42] at H
         have c42b0 : decide (x14_3 < (t220.length : Int)) = true := decide_eq_true c42
         clear c42
         by_cases c43 : 0 ≤ x13_2
         ·rw [if_pos c43] at H
          have c43b0 : decide (0 ≤ x13_2) = true := decide_eq_true c43
          clear c43
          by_cases c44 : x13_2 < (t220.length : Int)
          ·rw [if_pos c44] at H
           have c44b0 : decide (x13_2 < (t220.length : Int)) = true := decide_eq_true c44
           clear c44
           obtain ⟨y230, hy230⟩ : ∃ y_ : List Int, y_ = (([rd t220 x14_3, rd t220 x13_2] : List Int)) := ⟨_, rfl⟩
           replace H : ((goesC.f t201 t202 t203 t204 t205 t225 y230).bind fun bt233 => (if bt233.1 = true then (some false) else (lF.l1 k3 a2 t206 t213 t216 t220 x13_2 (wrap64 (x14_3 + 1)) a1_0 a1_1 a1_2 a1_3 a1_4 a1_5 t201 t202 t203 t204 t205))) = some r := by first | (rw [hy230]; with_reducible exact H) | (have H2_ := (Option.bind_some _ _).symm.trans H; rw [hy230]; with_reducible exact H2_) | (have H2_ := (Option.bind_some _ _).symm.trans H; with_reducible exact H2_) | with_reducible exact H | (rw [hy230]; exact H) | exact H
           have Ny230 := Aside0.mk hy230
           clear hy230
           replace H := Option.bind_eq_some_iff.mp H
           obtain ⟨⟨t233, t234⟩, A450, H⟩ := H
           replace H : (if t233 = true then (some false) else (lF.l1 k3 a2 t206 t213 t216 t220 x13_2 (wrap64 (x14_3 + 1)) a1_0 a1_1 a1_2 a1_3 a1_4 a1_5 t201 t202 t203 t204 t205)) = some r := H
           have A45 := Aside0.mk A450
           clear A450
           by_cases c46 : t233 = true
           ·subst c46
            have H1 : (some false) = some r := by rw [if_pos rfl] at H; exact H
            clear H
            have H := H1
            clear H1
            obtain rfl := Option.some.inj H
            try go_wp2
            have n0_ := Aside0.mk (Kd.R_drew HO_8.out)
            have n1_ := Aside0.mk (Kd.R_drew HO_9.out)
            have n2_ := Aside0.mk (Kd.R_drew HO_11.out)
            have n3_ := Aside0.mk (blk_drew BK199.out)
            have n4_ := Aside0.mk (blk_drew BK200.out)
            have n5_ := Aside0.mk (blk_drew BK209.out)
            have n6_ := Aside0.mk (below_drew1 HB.out)
            clear HO_8
            clear HO_9
            clear HO_11
            clear BK199
            clear BK200
            clear BK209
            clear HB
            have HO_8 := n0_
            have HO_9 := n1_
            have HO_11 := n2_
            have BK199 := n3_
            have BK200 := n4_
            have BK209 := n5_
            have HB := n6_
            clear n0_ n1_ n2_ n3_ n4_ n5_ n6_
            have p228 : 0 ≤ (x14_3 : Int) := of_decide_eq_true (by first | (with_reducible assumption) | assumption)
            have q228 : x14_3 < (t220.length : Int) := of_decide_eq_true (by first | (with_reducible assumption) | assumption)
            obtain ⟨ad228, e228, hx228_0⟩ := Kd.at_int (Kd.R_reads' HO_11.out).2.2 x14_3 p228 q228
            cases e228
            replace p228 := eq_true p228
            replace q228 := eq_true q228
            have p229 : 0 ≤ (x13_2 : Int) := of_decide_eq_true (by first | (with_reducible assumption) | assumption)
            have q229 : x13_2 < (t220.length : Int) := of_decide_eq_true (by first | (with_reducible assumption) | assumption)
            obtain ⟨ad229, e229, hx229_0⟩ := Kd.at_int (Kd.R_reads' HO_11.out).2.2 x13_2 p229 q229
            obtain rfl : ad228 = ad229 := (by injection e229)
            replace p229 := eq_true p229
            replace q229 := eq_true q229
            refine start_ (n := 20) (S := fun w' => w'.cell? ⟨gb209, 0, none⟩ = some (.int .i64 t201) ∧ w'.cell? ⟨gb209, 1, none⟩ = some (.int .i64 t202) ∧ w'.cell? ⟨gb209, 2, none⟩ = some (.int .i64 t203) ∧ w'.cell? ⟨gb209, 3, none⟩ = some (.int .i64 t204) ∧ w'.cell? ⟨gb209, 4, none⟩ = some (.int .i64 t205) ∧ w'.cell? (ad228.add (x14_3).toNat) = some (.int .i64 (rd t220 x14_3)) ∧ w'.cell? (ad228.add (x13_2).toNat) = some (.int .i64 (rd t220 x13_2))) (ds := []) (bl 20 0) (by kernel_rfl) rfl rfl ⟨(blk_cell BK209.out 0).trans rfl, (blk_cell BK209.out 1).trans rfl, (blk_cell BK209.out 2).trans rfl, (blk_cell BK209.out 3).trans rfl, (blk_cell BK209.out 4).trans rfl, hx228_0, hx229_0⟩ (fun hHeld => ?_); refine with_tabW lF.tab12 lF.bits12 (fun HT_ HW_ => ?_)
            generalize wr.drew = w47 at HO_8 HO_9 HO_11 BK199 BK200 BK209 HB hx228_0 hx229_0 hHeld ⊢
            refine pq 1 (some 94) (bl 20 2) HT_ (h := ?_)
            refine pq 3 (some 96) (bl 20 10) HT_ (h := ?_)
            refine pq 4 (some 97) (bl 20 26) HT_ (h := ?_)
            refine pq 5 (some 98) (bl 20 58) HT_ (h := ?_)
            refine pq 7 (some 100) (bl 20 186) HT_ (h := ?_)
            refine pq 8 (some 101) (bl 20 442) HT_ (h := ?_)
            refine pq 9 (some 102) (bl 20 954) HT_ (h := ?_)
            refine tq 0 (some 93) (bl 20 955) HT_ HW_ hHeld (h := ?_)
            refine tq 6 (some 99) (bl 20 1019) HT_ HW_ hHeld (h := ?_)
            refine tq 10 (some 103) (bl 20 2043) HT_ HW_ hHeld (h := ?_)
            refine join_ (σ := Value × Value) 8 (bl 20 4095) (fun s_ => [(95, s_.1), (104, s_.2)]) (fun s_ w' => (w'.cell? ⟨gb209, 0, none⟩ = some (.int .i64 t201) ∧ w'.cell? ⟨gb209, 1, none⟩ = some (.int .i64 t202) ∧ w'.cell? ⟨gb209, 2, none⟩ = some (.int .i64 t203) ∧ w'.cell? ⟨gb209, 3, none⟩ = some (.int .i64 t204) ∧ w'.cell? ⟨gb209, 4, none⟩ = some (.int .i64 t205) ∧ w'.cell? (ad228.add (x14_3).toNat) = some (.int .i64 (rd t220 x14_3)) ∧ w'.cell? (ad228.add (x13_2).toNat) = some (.int .i64 (rd t220 x13_2))) ∧ (Kd.R k74 74 w' w.heap.size (fun k_ => some k_ ≠ (.slice Ao21 t206.length co21 : Value).ownBlock) s_.1 t225) ∧ (Kd.R (Kd.int .i64) 3 w' w.heap.size (fun k_ => some k_ ≠ (.slice (some ad228) t220.length co38 : Value).ownBlock ∧ some k_ ≠ (v214 : Value).ownBlock) s_.2 y230) ∧ (Kd.R (Kd.int .i64) 3 w' w.heap.size (fun k_ => some k_ ≠ (s_.2 : Value).ownBlock ∧ some k_ ≠ (v214 : Value).ownBlock) (.slice (some ad228) t220.length co38) t220) ∧ (Kd.R k74 74 w' w.heap.size (fun k_ => some k_ ≠ (s_.1 : Value).ownBlock) (.slice Ao21 t206.length co21) t206) ∧ (Kd.R (Kd.int .i64) 3 w' w.heap.size (fun k_ => some k_ ≠ (s_.2 : Value).ownBlock ∧ some k_ ≠ (.slice (some ad228) t220.length co38 : Value).ownBlock) v214 t213) ∧ (w'.heap[gb199]? = some (.cells #[.int .u8 a0_0, .int .u8 a0_1, .int .u8 a0_2, .int .u8 a0_3, .int .u8 a0_4, .slice A0_5 l0_5.length c0_5] 66 (0, 0))) ∧ (w'.heap[gb200]? = some (.cells #[.int .u8 a1_0, .int .u8 a1_1, .int .u8 a1_2, .int .u8 a1_3, .int .u8 a1_4, .int .u8 a1_5] 67 (0, 0))) ∧ (w'.heap[gb209]? = some (.cells #[.int .i64 t201, .int .i64 t202, .int .i64 t203, .int .i64 t204, .int .i64 t205] 23 (0, 0))) ∧ (Below w.heap.size w w')) ?_ ?_
            rotate_left
            ·intro hCont
             refine two_ (i := 2) (j := 11) (Ni := some 95) (Nj := some 104) (bl 20 2047) (bl 20 4091) rfl rfl rfl rfl (two_of HT_.out (by kernel_rfl)) (by decide) (by decide) (fun K hK => ?_) (fun K hK => ?_)
             ·skip
              refine goes_ Tryd.func43 (by kernel_rfl) rfl #[.slice Ao21 t206.length co21] (by rfl) rfl rfl (by (try simp only [List.map_toArray, List.map_cons, List.map_nil]); first | done | rfl | (simp only [List.length_drop, List.length_take]; rfl)) ?_
              with_reducible refine (smaltolaw03_own.calls _ _ t206 t225 _ ?side1 ?side2 A40.out).mono ?_
              (case side1 => repeat (first | exact (Kd.R_reads' HO_8.out).2.2 | (with_reducible refine Kd.C_alloc ?_ _) | (with_reducible refine Kd.C_drewN ?_ _) | (with_reducible refine Kd.C_drew ?_)))
              (case side2 => exact (Kd.R_reads' HO_8.out).2.1)
              rintro e w48 ⟨v226, rfl, ho0, hb⟩
              have HS5_ := (hb.cell (World.block_lt_of_cell? _ _ (hHeld.2.2.2.2.2.1))).trans (hHeld.2.2.2.2.2.1)
              have HS6_ := (hb.cell (World.block_lt_of_cell? _ _ (hHeld.2.2.2.2.2.2))).trans (hHeld.2.2.2.2.2.2)
              refine ⟨_, rfl, ?_⟩
              have n0_ := Aside0.mk (Kd.R_elder' (R_ HO_8) (Kd.R_base ho0) hb)
              have n1_ := Aside0.mk (Kd.R_below (R_ HO_9) hb)
              have n2_ := Aside0.mk (Kd.R_below (R_ HO_11) hb)
              have n3_ := Aside0.mk (Kd.R_lower (Kd.R_new' ho0 (Kd.R_lt (R_ HO_8))) (below_size (by repeat (first | (with_reducible first | exact HB.out | apply below_alloc | apply pw_below_drewN | apply below_drew1 | refine below_set ?_ GE199.out | refine below_set ?_ GE200.out | refine below_set ?_ GE209.out) | exact HB.out))))
              have n4_ := Aside0.mk (blk_below (g := gb199) (o := .cells #[.int .u8 a0_0, .int .u8 a0_1, .int .u8 a0_2, .int .u8 a0_3, .int .u8 a0_4, .slice A0_5 l0_5.length c0_5] 66 (0, 0)) (b_ BK199) hb)
              have n5_ := Aside0.mk (blk_below (g := gb200) (o := .cells #[.int .u8 a1_0, .int .u8 a1_1, .int .u8 a1_2, .int .u8 a1_3, .int .u8 a1_4, .int .u8 a1_5] 67 (0, 0)) (b_ BK200) hb)
              have n6_ := Aside0.mk (blk_below (g := gb209) (o := .cells #[.int .i64 t201, .int .i64 t202, .int .i64 t203, .int .i64 t204, .int .i64 t205] 23 (0, 0)) (b_ BK209) hb)
              have n7_ := Aside0.mk (below_step (by repeat (first | (with_reducible first | exact HB.out | apply below_alloc | apply pw_below_drewN | apply below_drew1 | refine below_set ?_ GE199.out | refine below_set ?_ GE200.out | refine below_set ?_ GE209.out) | exact HB.out)) hb)
              clear HO_8
              clear HO_9
              clear HO_11
              clear BK199
              clear BK200
              clear BK209
              clear HB
              have HO_8 := n0_
              have HO_9 := n1_
              have HO_11 := n2_
              have HO227 := n3_
              have BK199 := n4_
              have BK200 := n5_
              have BK209 := n6_
              have HB := n7_
              clear n0_ n1_ n2_ n3_ n4_ n5_ n6_ n7_
              (try clear hb)
              (try clear hb2)
              (try clear hk)
              (try clear hi)
              (try clear ho0)
              refine hK.out _ _ ⟨(blk_cell BK209.out 0).trans rfl, (blk_cell BK209.out 1).trans rfl, (blk_cell BK209.out 2).trans rfl, (blk_cell BK209.out 3).trans rfl, (blk_cell BK209.out 4).trans rfl, HS5_, HS6_⟩ (fun hHeld => ?_)
              clear hK K
              refine nq 95 ?_
              refine one_ (i := 11) (N := some 104) (bl 20 4095) rfl rfl (one_of HT_.out (by kernel_rfl)) (by decide) (fun K hK => ?_)
              refine Kd.R_lit_step (Kd.int .i64) _ 3 ?hg (N := 104) ?hd (xs := ([rd t220 x14_3, rd t220 x13_2] : List Int)) (inner := [.int .i64 (rd t220 x14_3), .int .i64 (rd t220 x13_2)]) (ok := fun _ => True) (okp := fun _ => True) ?hr ?hp (fun _ hk => hk) trivial (Below.refl _ _) (Nat.le_refl _) (by simp) ?_; (case hd => rfl); (case hg => rfl); (case hr => first | (go_simp; done) | (go_simp; rfl)); (case hp => exact (Reps.one (show Kd.M (Kd.int .i64) _ _ _ (rd t220 x14_3) [.int .i64 (rd t220 x14_3)] from rfl) (Reps.one (show Kd.M (Kd.int .i64) _ _ _ (rd t220 x13_2) [.int .i64 (rd t220 x13_2)] from rfl) (Reps.none _ _))))
              intro v231 w49 ho50 hb hg_ hnew_
              have HS5_ := (hb.cell (World.block_lt_of_cell? _ _ (hHeld.2.2.2.2.2.1))).trans (hHeld.2.2.2.2.2.1)
              have HS6_ := (hb.cell (World.block_lt_of_cell? _ _ (hHeld.2.2.2.2.2.2))).trans (hHeld.2.2.2.2.2.2)
              clear hg_ hnew_
              (first | rw [← Ny230.out] at ho50 | (simp only [Int.reduceToNat] at ho50; rw [← Ny230.out] at ho50))
              have n0_ := Aside0.mk (Kd.R_below (R_ HO_8) hb)
              have n1_ := Aside0.mk (Kd.R_elder' (R_ HO_9) (Kd.R_base ho50) hb)
              have n2_ := Aside0.mk (Kd.R_elder' (R_ HO_11) (Kd.R_base ho50) hb)
              have n3_ := Aside0.mk (Kd.R_below (R_ HO227) hb)
              have n4_ := Aside0.mk (Kd.R_lower (Kd.R_new' (Kd.R_new' ho50 (Kd.R_lt (R_ HO_9))) (Kd.R_lt (R_ HO_11))) (below_size (by repeat (first | (with_reducible first | exact HB.out | apply below_alloc | apply pw_below_drewN | apply below_drew1 | refine below_set ?_ GE199.out | refine below_set ?_ GE200.out | refine below_set ?_ GE209.out) | exact HB.out))))
              have n5_ := Aside0.mk (blk_below (g := gb199) (o := .cells #[.int .u8 a0_0, .int .u8 a0_1, .int .u8 a0_2, .int .u8 a0_3, .int .u8 a0_4, .slice A0_5 l0_5.length c0_5] 66 (0, 0)) (b_ BK199) hb)
              have n6_ := Aside0.mk (blk_below (g := gb200) (o := .cells #[.int .u8 a1_0, .int .u8 a1_1, .int .u8 a1_2, .int .u8 a1_3, .int .u8 a1_4, .int .u8 a1_5] 67 (0, 0)) (b_ BK200) hb)
              have n7_ := Aside0.mk (blk_below (g := gb209) (o := .cells #[.int .i64 t201, .int .i64 t202, .int .i64 t203, .int .i64 t204, .int .i64 t205] 23 (0, 0)) (b_ BK209) hb)
              have n8_ := Aside0.mk (below_step (by repeat (first | (with_reducible first | exact HB.out | apply below_alloc | apply pw_below_drewN | apply below_drew1 | refine below_set ?_ GE199.out | refine below_set ?_ GE200.out | refine below_set ?_ GE209.out) | exact HB.out)) hb)
              clear HO_8
              clear HO_9
              clear HO_11
              clear HO227
              clear BK199
              clear BK200
              clear BK209
              clear HB
              have HO_8 := n0_
              have HO_9 := n1_
              have HO_11 := n2_
              have HO227 := n3_
              have HO232 := n4_
              have BK199 := n5_
              have BK200 := n6_
              have BK209 := n7_
              have HB := n8_
              clear n0_ n1_ n2_ n3_ n4_ n5_ n6_ n7_ n8_
              clear hb ho50
              refine hK.out _ _ ⟨(blk_cell BK209.out 0).trans rfl, (blk_cell BK209.out 1).trans rfl, (blk_cell BK209.out 2).trans rfl, (blk_cell BK209.out 3).trans rfl, (blk_cell BK209.out 4).trans rfl, HS5_, HS6_⟩ (fun hHeld => ?_)
              clear hK K
              refine nq 104 ?_
              exact norm_ (by simp only [putAll, Act.put, List.setIfInBounds_toArray, List.set_cons_zero, List.set_cons_succ]) (hCont (v226, v231) _ ⟨hHeld, (Kd.R_mono (R_ HO227) (fun _ hk => hk.2)), (Kd.R_mono (R_ HO232) (fun _ hk => ⟨hk.2, hk.1.2⟩)), (Kd.R_mono (R_ HO_11) (fun _ hk => ⟨hk.2, hk.1⟩)), (Kd.R_mono (R_ HO_8) (fun _ hk => hk.2)), (Kd.R_mono (R_ HO_9) (fun _ hk => ⟨hk.2, hk.1⟩)), (b_ BK199), (b_ BK200), (b_ BK209), (by repeat (first | (with_reducible first | exact HB.out | apply below_alloc | apply pw_below_drewN | apply below_drew1 | refine below_set ?_ GE199.out | refine below_set ?_ GE200.out | refine below_set ?_ GE209.out) | exact HB.out))⟩)
             skip
             refine Kd.R_lit_step (Kd.int .i64) _ 3 ?hg (N := 104) ?hd (xs := ([rd t220 x14_3, rd t220 x13_2] : List Int)) (inner := [.int .i64 (rd t220 x14_3), .int .i64 (rd t220 x13_2)]) (ok := fun _ => True) (okp := fun _ => True) ?hr ?hp (fun _ hk => hk) trivial (Below.refl _ _) (Nat.le_refl _) (by simp) ?_; (case hd => rfl); (case hg => rfl); (case hr => first | (go_simp; done) | (go_simp; rfl)); (case hp => exact (Reps.one (show Kd.M (Kd.int .i64) _ _ _ (rd t220 x14_3) [.int .i64 (rd t220 x14_3)] from rfl) (Reps.one (show Kd.M (Kd.int .i64) _ _ _ (rd t220 x13_2) [.int .i64 (rd t220 x13_2)] from rfl) (Reps.none _ _))))
             intro v231 w48 ho49 hb hg_ hnew_
             have HS5_ := (hb.cell (World.block_lt_of_cell? _ _ (hHeld.2.2.2.2.2.1))).trans (hHeld.2.2.2.2.2.1)
             have HS6_ := (hb.cell (World.block_lt_of_cell? _ _ (hHeld.2.2.2.2.2.2))).trans (hHeld.2.2.2.2.2.2)
             clear hg_ hnew_
             (first | rw [← Ny230.out] at ho49 | (simp only [Int.reduceToNat] at ho49; rw [← Ny230.out] at ho49))
             have n0_ := Aside0.mk (Kd.R_below (R_ HO_8) hb)
             have n1_ := Aside0.mk (Kd.R_elder' (R_ HO_9) (Kd.R_base ho49) hb)
             have n2_ := Aside0.mk (Kd.R_elder' (R_ HO_11) (Kd.R_base ho49) hb)
             have n3_ := Aside0.mk (Kd.R_lower (Kd.R_new' (Kd.R_new' ho49 (Kd.R_lt (R_ HO_9))) (Kd.R_lt (R_ HO_11))) (below_size (by repeat (first | (with_reducible first | exact HB.out | apply below_alloc | apply pw_below_drewN | apply below_drew1 | refine below_set ?_ GE199.out | refine below_set ?_ GE200.out | refine below_set ?_ GE209.out) | exact HB.out))))
             have n4_ := Aside0.mk (blk_below (g := gb199) (o := .cells #[.int .u8 a0_0, .int .u8 a0_1, .int .u8 a0_2, .int .u8 a0_3, .int .u8 a0_4, .slice A0_5 l0_5.length c0_5] 66 (0, 0)) (b_ BK199) hb)
             have n5_ := Aside0.mk (blk_below (g := gb200) (o := .cells #[.int .u8 a1_0, .int .u8 a1_1, .int .u8 a1_2, .int .u8 a1_3, .int .u8 a1_4, .int .u8 a1_5] 67 (0, 0)) (b_ BK200) hb)
             have n6_ := Aside0.mk (blk_below (g := gb209) (o := .cells #[.int .i64 t201, .int .i64 t202, .int .i64 t203, .int .i64 t204, .int .i64 t205] 23 (0, 0)) (b_ BK209) hb)
             have n7_ := Aside0.mk (below_step (by repeat (first | (with_reducible first | exact HB.out | apply below_alloc | apply pw_below_drewN | apply below_drew1 | refine below_set ?_ GE199.out | refine below_set ?_ GE200.out | refine below_set ?_ GE209.out) | exact HB.out)) hb)
             clear HO_8
             clear HO_9
             clear HO_11
             clear BK199
             clear BK200
             clear BK209
             clear HB
             have HO_8 := n0_
             have HO_9 := n1_
             have HO_11 := n2_
             have HO232 := n3_
             have BK199 := n4_
             have BK200 := n5_
             have BK209 := n6_
             have HB := n7_
             clear n0_ n1_ n2_ n3_ n4_ n5_ n6_ n7_
             clear hb ho49
             refine hK.out _ _ ⟨(blk_cell BK209.out 0).trans rfl, (blk_cell BK209.out 1).trans rfl, (blk_cell BK209.out 2).trans rfl, (blk_cell BK209.out 3).trans rfl, (blk_cell BK209.out 4).trans rfl, HS5_, HS6_⟩ (fun hHeld => ?_)
             clear hK K
             refine nq 104 ?_
             refine one_ (i := 2) (N := some 95) (bl 20 4095) rfl rfl (one_of HT_.out (by kernel_rfl)) (by decide) (fun K hK => ?_)
             refine goes_ Tryd.func43 (by kernel_rfl) rfl #[.slice Ao21 t206.length co21] (by rfl) rfl rfl (by (try simp only [List.map_toArray, List.map_cons, List.map_nil]); first | done | rfl | (simp only [List.length_drop, List.length_take]; rfl)) ?_
             with_reducible refine (smaltolaw03_own.calls _ _ t206 t225 _ ?side1 ?side2 A40.out).mono ?_
             (case side1 => repeat (first | exact (Kd.R_reads' HO_8.out).2.2 | (with_reducible refine Kd.C_alloc ?_ _) | (with_reducible refine Kd.C_drewN ?_ _) | (with_reducible refine Kd.C_drew ?_)))
             (case side2 => exact (Kd.R_reads' HO_8.out).2.1)
             rintro e w50 ⟨v226, rfl, ho0, hb⟩
             have HS5_ := (hb.cell (World.block_lt_of_cell? _ _ (hHeld.2.2.2.2.2.1))).trans (hHeld.2.2.2.2.2.1)
             have HS6_ := (hb.cell (World.block_lt_of_cell? _ _ (hHeld.2.2.2.2.2.2))).trans (hHeld.2.2.2.2.2.2)
             refine ⟨_, rfl, ?_⟩
             have n0_ := Aside0.mk (Kd.R_elder' (R_ HO_8) (Kd.R_base ho0) hb)
             have n1_ := Aside0.mk (Kd.R_below (R_ HO_9) hb)
             have n2_ := Aside0.mk (Kd.R_below (R_ HO_11) hb)
             have n3_ := Aside0.mk (Kd.R_below (R_ HO232) hb)
             have n4_ := Aside0.mk (Kd.R_lower (Kd.R_new' ho0 (Kd.R_lt (R_ HO_8))) (below_size (by repeat (first | (with_reducible first | exact HB.out | apply below_alloc | apply pw_below_drewN | apply below_drew1 | refine below_set ?_ GE199.out | refine below_set ?_ GE200.out | refine below_set ?_ GE209.out) | exact HB.out))))
             have n5_ := Aside0.mk (blk_below (g := gb199) (o := .cells #[.int .u8 a0_0, .int .u8 a0_1, .int .u8 a0_2, .int .u8 a0_3, .int .u8 a0_4, .slice A0_5 l0_5.length c0_5] 66 (0, 0)) (b_ BK199) hb)
             have n6_ := Aside0.mk (blk_below (g := gb200) (o := .cells #[.int .u8 a1_0, .int .u8 a1_1, .int .u8 a1_2, .int .u8 a1_3, .int .u8 a1_4, .int .u8 a1_5] 67 (0, 0)) (b_ BK200) hb)
             have n7_ := Aside0.mk (blk_below (g := gb209) (o := .cells #[.int .i64 t201, .int .i64 t202, .int .i64 t203, .int .i64 t204, .int .i64 t205] 23 (0, 0)) (b_ BK209) hb)
             have n8_ := Aside0.mk (below_step (by repeat (first | (with_reducible first | exact HB.out | apply below_alloc | apply pw_below_drewN | apply below_drew1 | refine below_set ?_ GE199.out | refine below_set ?_ GE200.out | refine below_set ?_ GE209.out) | exact HB.out)) hb)
             clear HO_8
             clear HO_9
             clear HO_11
             clear HO232
             clear BK199
             clear BK200
             clear BK209
             clear HB
             have HO_8 := n0_
             have HO_9 := n1_
             have HO_11 := n2_
             have HO232 := n3_
             have HO227 := n4_
             have BK199 := n5_
             have BK200 := n6_
             have BK209 := n7_
             have HB := n8_
             clear n0_ n1_ n2_ n3_ n4_ n5_ n6_ n7_ n8_
             (try clear hb)
             (try clear hb2)
             (try clear hk)
             (try clear hi)
             (try clear ho0)
             refine hK.out _ _ ⟨(blk_cell BK209.out 0).trans rfl, (blk_cell BK209.out 1).trans rfl, (blk_cell BK209.out 2).trans rfl, (blk_cell BK209.out 3).trans rfl, (blk_cell BK209.out 4).trans rfl, HS5_, HS6_⟩ (fun hHeld => ?_)
             clear hK K
             refine nq 95 ?_
             exact norm_ (by simp only [putAll, Act.put, List.setIfInBounds_toArray, List.set_cons_zero, List.set_cons_succ]) (hCont (v226, v231) _ ⟨hHeld, (Kd.R_mono (R_ HO227) (fun _ hk => hk.2)), (Kd.R_mono (R_ HO232) (fun _ hk => ⟨hk.2, hk.1.2⟩)), (Kd.R_mono (R_ HO_11) (fun _ hk => ⟨hk.2, hk.1⟩)), (Kd.R_mono (R_ HO_8) (fun _ hk => hk.2)), (Kd.R_mono (R_ HO_9) (fun _ hk => ⟨hk.2, hk.1⟩)), (b_ BK199), (b_ BK200), (b_ BK209), (by repeat (first | (with_reducible first | exact HB.out | apply below_alloc | apply pw_below_drewN | apply below_drew1 | refine below_set ?_ GE199.out | refine below_set ?_ GE200.out | refine below_set ?_ GE209.out) | exact HB.out))⟩)
            rintro ⟨v226, v231⟩ w51 ⟨hS_, h0_, h1_, h2_, h3_, h4_, h5_, h6_, h7_, h8_⟩
            have n0_ : Aside0 (Kd.R k74 74 w51 w.heap.size (fun k_ => some k_ ≠ (.slice Ao21 t206.length co21 : Value).ownBlock) v226 t225) := ⟨h0_⟩
            have n1_ : Aside0 (Kd.R (Kd.int .i64) 3 w51 w.heap.size (fun k_ => some k_ ≠ (.slice (some ad228) t220.length co38 : Value).ownBlock ∧ some k_ ≠ (v214 : Value).ownBlock) v231 y230) := ⟨h1_⟩
            have n2_ : Aside0 (Kd.R (Kd.int .i64) 3 w51 w.heap.size (fun k_ => some k_ ≠ (v231 : Value).ownBlock ∧ some k_ ≠ (v214 : Value).ownBlock) (.slice (some ad228) t220.length co38) t220) := ⟨h2_⟩
            have n3_ : Aside0 (Kd.R k74 74 w51 w.heap.size (fun k_ => some k_ ≠ (v226 : Value).ownBlock) (.slice Ao21 t206.length co21) t206) := ⟨h3_⟩
            have n4_ : Aside0 (Kd.R (Kd.int .i64) 3 w51 w.heap.size (fun k_ => some k_ ≠ (v231 : Value).ownBlock ∧ some k_ ≠ (.slice (some ad228) t220.length co38 : Value).ownBlock) v214 t213) := ⟨h4_⟩
            have n5_ : Aside0 (w51.heap[gb199]? = some (.cells #[.int .u8 a0_0, .int .u8 a0_1, .int .u8 a0_2, .int .u8 a0_3, .int .u8 a0_4, .slice A0_5 l0_5.length c0_5] 66 (0, 0))) := ⟨h5_⟩
            have n6_ : Aside0 (w51.heap[gb200]? = some (.cells #[.int .u8 a1_0, .int .u8 a1_1, .int .u8 a1_2, .int .u8 a1_3, .int .u8 a1_4, .int .u8 a1_5] 67 (0, 0))) := ⟨h6_⟩
            have n7_ : Aside0 (w51.heap[gb209]? = some (.cells #[.int .i64 t201, .int .i64 t202, .int .i64 t203, .int .i64 t204, .int .i64 t205] 23 (0, 0))) := ⟨h7_⟩
            have n8_ : Aside0 (Below w.heap.size w w51) := ⟨h8_⟩
            clear HO_8
            clear HO_9
            clear HO_11
            clear BK199
            clear BK200
            clear BK209
            clear HB
            clear h0_ h1_ h2_ h3_ h4_ h5_ h6_ h7_ h8_
            have HO227 := n0_
            have HO232 := n1_
            have HO_11 := n2_
            have HO_8 := n3_
            have HO_9 := n4_
            have BK199 := n5_
            have BK200 := n6_
            have BK209 := n7_
            have HB := n8_
            clear n0_ n1_ n2_ n3_ n4_ n5_ n6_ n7_ n8_
            have hHeld : w51.cell? ⟨gb209, 0, none⟩ = some (.int .i64 t201) ∧ w51.cell? ⟨gb209, 1, none⟩ = some (.int .i64 t202) ∧ w51.cell? ⟨gb209, 2, none⟩ = some (.int .i64 t203) ∧ w51.cell? ⟨gb209, 3, none⟩ = some (.int .i64 t204) ∧ w51.cell? ⟨gb209, 4, none⟩ = some (.int .i64 t205) ∧ w51.cell? (ad228.add (x14_3).toNat) = some (.int .i64 (rd t220 x14_3)) ∧ w51.cell? (ad228.add (x13_2).toNat) = some (.int .i64 (rd t220 x13_2)) := hS_
            obtain ⟨Ao52, co52, eo52⟩ := Kd.R_slice HO227.out
            (first | subst eo52 | (injection eo52 with f1_ f2_ f3_; have f4_ := f1_.symm; have f5_ := f3_.symm; clear f1_ f2_ f3_; subst f4_; subst f5_))
            obtain ⟨Ao53, co53, eo53⟩ := Kd.R_slice HO232.out
            (first | subst eo53 | (injection eo53 with f1_ f2_ f3_; have f4_ := f1_.symm; have f5_ := f3_.symm; clear f1_ f2_ f3_; subst f4_; subst f5_))
            refine norm_ (a' := ?_) ?_ ?_
            rotate_left
            ·simp only [putAll, Act.put, List.setIfInBounds_toArray, List.set_cons_zero, List.set_cons_succ]
             rfl
            refine one_ (i := 12) (N := some 105) (bl 20 8191) rfl rfl (one_of HT_.out (by kernel_rfl)) (by decide) (fun K hK => ?_)
            refine goes_ Tryd.func17 (by kernel_rfl) rfl #[.agg #[.int .i64 t201, .int .i64 t202, .int .i64 t203, .int .i64 t204, .int .i64 t205], .slice Ao52 t225.length co52, .slice Ao53 y230.length co53] (by rfl) rfl rfl (by (try simp only [List.map_toArray, List.map_cons, List.map_nil]); first | done | rfl | (simp only [List.length_drop, List.length_take]; rfl)) ?_
            with_reducible refine (goesC.calls t201 t202 t203 t204 t205 _ _ t225 _ _ y230 true t234 _ ?side5 ?side1 ?side2 ?side3 ?side4 A45.out).mono ?_
            (case side1 => repeat (first | exact (Kd.R_reads' HO227.out).2.2 | (with_reducible refine Kd.C_alloc ?_ _) | (with_reducible refine Kd.C_drewN ?_ _) | (with_reducible refine Kd.C_drew ?_)))
            (case side2 => exact (Kd.R_reads' HO227.out).2.1)
            (case side3 => repeat (first | exact (Kd.R_reads' HO232.out).2.2 | (with_reducible refine Kd.C_alloc ?_ _) | (with_reducible refine Kd.C_drewN ?_ _) | (with_reducible refine Kd.C_drew ?_)))
            (case side4 => exact (Kd.R_reads' HO232.out).2.1)
            (case side5 => exact Hand.TabW.below HTAB.out (by repeat (first | (with_reducible first | exact HB.out | apply below_alloc | apply pw_below_drewN | apply below_drew1 | refine below_set ?_ GE199.out | refine below_set ?_ GE200.out | refine below_set ?_ GE209.out) | exact HB.out)))
            rintro e w54 ⟨rfl, hb⟩
            have HS5_ := (hb.cell (World.block_lt_of_cell? _ _ (hHeld.2.2.2.2.2.1))).trans (hHeld.2.2.2.2.2.1)
            have HS6_ := (hb.cell (World.block_lt_of_cell? _ _ (hHeld.2.2.2.2.2.2))).trans (hHeld.2.2.2.2.2.2)
            refine ⟨_, rfl, ?_⟩
            have n0_ := Aside0.mk (Kd.R_below (R_ HO_8) hb)
            have n1_ := Aside0.mk (Kd.R_below (R_ HO_9) hb)
            have n2_ := Aside0.mk (Kd.R_below (R_ HO_11) hb)
            have n3_ := Aside0.mk (Kd.R_below (R_ HO227) hb)
            have n4_ := Aside0.mk (Kd.R_below (R_ HO232) hb)
            have n5_ := Aside0.mk (blk_below (g := gb199) (o := .cells #[.int .u8 a0_0, .int .u8 a0_1, .int .u8 a0_2, .int .u8 a0_3, .int .u8 a0_4, .slice A0_5 l0_5.length c0_5] 66 (0, 0)) (b_ BK199) hb)
            have n6_ := Aside0.mk (blk_below (g := gb200) (o := .cells #[.int .u8 a1_0, .int .u8 a1_1, .int .u8 a1_2, .int .u8 a1_3, .int .u8 a1_4, .int .u8 a1_5] 67 (0, 0)) (b_ BK200) hb)
            have n7_ := Aside0.mk (blk_below (g := gb209) (o := .cells #[.int .i64 t201, .int .i64 t202, .int .i64 t203, .int .i64 t204, .int .i64 t205] 23 (0, 0)) (b_ BK209) hb)
            have n8_ := Aside0.mk (below_step (by repeat (first | (with_reducible first | exact HB.out | apply below_alloc | apply pw_below_drewN | apply below_drew1 | refine below_set ?_ GE199.out | refine below_set ?_ GE200.out | refine below_set ?_ GE209.out) | exact HB.out)) hb)
            clear HO_8
            clear HO_9
            clear HO_11
            clear HO227
            clear HO232
            clear BK199
            clear BK200
            clear BK209
            clear HB
            have HO_8 := n0_
            have HO_9 := n1_
            have HO_11 := n2_
            have HO227 := n3_
            have HO232 := n4_
            have BK199 := n5_
            have BK200 := n6_
            have BK209 := n7_
            have HB := n8_
            clear n0_ n1_ n2_ n3_ n4_ n5_ n6_ n7_ n8_
            (try clear hb)
            (try clear hb2)
            (try clear hk)
            (try clear hi)
            refine hK.out _ _ ⟨(blk_cell BK209.out 0).trans rfl, (blk_cell BK209.out 1).trans rfl, (blk_cell BK209.out 2).trans rfl, (blk_cell BK209.out 3).trans rfl, (blk_cell BK209.out 4).trans rfl, HS5_, HS6_⟩ (fun hHeld => ?_)
            clear hK K
            refine nq 105 ?_
            refine pq 13 (some 92) (bl 20 16383) HT_ (h := ?_)
            refine pq 14 (some 106) (bl 20 32767) HT_ (h := ?_)
            refine pq 15 (some 107) (bl 20 65535) HT_ (h := ?_)
            refine pq 16 (some 108) (bl 20 131071) HT_ (h := ?_)
            refine pq 17 (some 15) (bl 20 262143) HT_ (h := ?_)
            refine pq 18 (some 16) (bl 20 524287) HT_ (h := ?_)
            refine pq 19 (some 17) (bl 20 1048575) HT_ (h := ?_)
            refine done_ (done_of HT_.out (by kernel_rfl)) ?_
            try go_wp2
            go_ret
            exact ⟨by first | rfl | (simp [errW_none, errW_some] <;> rfl) | (simp [*, errW_none, errW_some] <;> rfl), by repeat (first | (with_reducible first | exact HB.out | apply below_alloc | apply pw_below_drewN | apply below_drew1 | refine below_set ?_ GE199.out | refine below_set ?_ GE200.out | refine below_set ?_ GE209.out) | exact HB.out)⟩
           replace c46 := Bool.eq_false_iff.mpr c46
           subst c46
           have H1 : (lF.l1 k3 a2 t206 t213 t216 t220 x13_2 (wrap64 (x14_3 + 1)) a1_0 a1_1 a1_2 a1_3 a1_4 a1_5 t201 t202 t203 t204 t205) = some r := by rw [if_neg (show ¬ (false = true) by decide)] at H; exact H
           clear H
           have H := H1
           clear H1
           have H' := Aside0.mk H
           clear H
           try go_wp2
           have n0_ := Aside0.mk (Kd.R_drew HO_8.out)
           have n1_ := Aside0.mk (Kd.R_drew HO_9.out)
           have n2_ := Aside0.mk (Kd.R_drew HO_11.out)
           have n3_ := Aside0.mk (blk_drew BK199.out)
           have n4_ := Aside0.mk (blk_drew BK200.out)
           have n5_ := Aside0.mk (blk_drew BK209.out)
           have n6_ := Aside0.mk (below_drew1 HB.out)
           clear HO_8
           clear HO_9
           clear HO_11
           clear BK199
           clear BK200
           clear BK209
           clear HB
           have HO_8 := n0_
           have HO_9 := n1_
           have HO_11 := n2_
           have BK199 := n3_
           have BK200 := n4_
           have BK209 := n5_
           have HB := n6_
           clear n0_ n1_ n2_ n3_ n4_ n5_ n6_
           have p228 : 0 ≤ (x14_3 : Int) := of_decide_eq_true (by first | (with_reducible assumption) | assumption)
           have q228 : x14_3 < (t220.length : Int) := of_decide_eq_true (by first | (with_reducible assumption) | assumption)
           obtain ⟨ad228, e228, hx228_0⟩ := Kd.at_int (Kd.R_reads' HO_11.out).2.2 x14_3 p228 q228
           cases e228
           replace p228 := eq_true p228
           replace q228 := eq_true q228
           have p229 : 0 ≤ (x13_2 : Int) := of_decide_eq_true (by first | (with_reducible assumption) | assumption)
           have q229 : x13_2 < (t220.length : Int) := of_decide_eq_true (by first | (with_reducible assumption) | assumption)
           obtain ⟨ad229, e229, hx229_0⟩ := Kd.at_int (Kd.R_reads' HO_11.out).2.2 x13_2 p229 q229
           obtain rfl : ad228 = ad229 := (by injection e229)
           replace p229 := eq_true p229
           replace q229 := eq_true q229
           refine start_ (n := 20) (S := fun w' => w'.cell? ⟨gb209, 0, none⟩ = some (.int .i64 t201) ∧ w'.cell? ⟨gb209, 1, none⟩ = some (.int .i64 t202) ∧ w'.cell? ⟨gb209, 2, none⟩ = some (.int .i64 t203) ∧ w'.cell? ⟨gb209, 3, none⟩ = some (.int .i64 t204) ∧ w'.cell? ⟨gb209, 4, none⟩ = some (.int .i64 t205) ∧ w'.cell? (ad228.add (x14_3).toNat) = some (.int .i64 (rd t220 x14_3)) ∧ w'.cell? (ad228.add (x13_2).toNat) = some (.int .i64 (rd t220 x13_2))) (ds := []) (bl 20 0) (by kernel_rfl) rfl rfl ⟨(blk_cell BK209.out 0).trans rfl, (blk_cell BK209.out 1).trans rfl, (blk_cell BK209.out 2).trans rfl, (blk_cell BK209.out 3).trans rfl, (blk_cell BK209.out 4).trans rfl, hx228_0, hx229_0⟩ (fun hHeld => ?_); refine with_tabW lF.tab12 lF.bits12 (fun HT_ HW_ => ?_)
           generalize wr.drew = w55 at HO_8 HO_9 HO_11 BK199 BK200 BK209 HB hx228_0 hx229_0 hHeld ⊢
           refine pq 1 (some 94) (bl 20 2) HT_ (h := ?_)
           refine pq 3 (some 96) (bl 20 10) HT_ (h := ?_)
           refine pq 4 (some 97) (bl 20 26) HT_ (h := ?_)
           refine pq 5 (some 98) (bl 20 58) HT_ (h := ?_)
           refine pq 7 (some 100) (bl 20 186) HT_ (h := ?_)
           refine pq 8 (some 101) (bl 20 442) HT_ (h := ?_)
           refine pq 9 (some 102) (bl 20 954) HT_ (h := ?_)
           refine tq 0 (some 93) (bl 20 955) HT_ HW_ hHeld (h := ?_)
           refine tq 6 (some 99) (bl 20 1019) HT_ HW_ hHeld (h := ?_)
           refine tq 10 (some 103) (bl 20 2043) HT_ HW_ hHeld (h := ?_)
           refine join_ (σ := Value × Value) 8 (bl 20 4095) (fun s_ => [(95, s_.1), (104, s_.2)]) (fun s_ w' => (w'.cell? ⟨gb209, 0, none⟩ = some (.int .i64 t201) ∧ w'.cell? ⟨gb209, 1, none⟩ = some (.int .i64 t202) ∧ w'.cell? ⟨gb209, 2, none⟩ = some (.int .i64 t203) ∧ w'.cell? ⟨gb209, 3, none⟩ = some (.int .i64 t204) ∧ w'.cell? ⟨gb209, 4, none⟩ = some (.int .i64 t205) ∧ w'.cell? (ad228.add (x14_3).toNat) = some (.int .i64 (rd t220 x14_3)) ∧ w'.cell? (ad228.add (x13_2).toNat) = some (.int .i64 (rd t220 x13_2))) ∧ (Kd.R k74 74 w' w.heap.size (fun k_ => some k_ ≠ (.slice Ao21 t206.length co21 : Value).ownBlock) s_.1 t225) ∧ (Kd.R (Kd.int .i64) 3 w' w.heap.size (fun k_ => some k_ ≠ (.slice (some ad228) t220.length co38 : Value).ownBlock ∧ some k_ ≠ (v214 : Value).ownBlock) s_.2 y230) ∧ (Kd.R (Kd.int .i64) 3 w' w.heap.size (fun k_ => some k_ ≠ (s_.2 : Value).ownBlock ∧ some k_ ≠ (v214 : Value).ownBlock) (.slice (some ad228) t220.length co38) t220) ∧ (Kd.R k74 74 w' w.heap.size (fun k_ => some k_ ≠ (s_.1 : Value).ownBlock) (.slice Ao21 t206.length co21) t206) ∧ (Kd.R (Kd.int .i64) 3 w' w.heap.size (fun k_ => some k_ ≠ (s_.2 : Value).ownBlock ∧ some k_ ≠ (.slice (some ad228) t220.length co38 : Value).ownBlock) v214 t213) ∧ (w'.heap[gb199]? = some (.cells #[.int .u8 a0_0, .int .u8 a0_1, .int .u8 a0_2, .int .u8 a0_3, .int .u8 a0_4, .slice A0_5 l0_5.length c0_5] 66 (0, 0))) ∧ (w'.heap[gb200]? = some (.cells #[.int .u8 a1_0, .int .u8 a1_1, .int .u8 a1_2, .int .u8 a1_3, .int .u8 a1_4, .int .u8 a1_5] 67 (0, 0))) ∧ (w'.heap[gb209]? = some (.cells #[.int .i64 t201, .int .i64 t202, .int .i64 t203, .int .i64 t204, .int .i64 t205] 23 (0, 0))) ∧ (Below w.heap.size w w')) ?_ ?_
           rotate_left
           ·intro hCont
            refine two_ (i := 2) (j := 11) (Ni := some 95) (Nj := some 104) (bl 20 2047) (bl 20 4091) rfl rfl rfl rfl (two_of HT_.out (by kernel_rfl)) (by decide) (by decide) (fun K hK => ?_) (fun K hK => ?_)
            ·skip
             refine goes_ Tryd.func43 (by kernel_rfl) rfl #[.slice Ao21 t206.length co21] (by rfl) rfl rfl (by (try simp only [List.map_toArray, List.map_cons, List.map_nil]); first | done | rfl | (simp only [List.length_drop, List.length_take]; rfl)) ?_
             with_reducible refine (smaltolaw03_own.calls _ _ t206 t225 _ ?side1 ?side2 A40.out).mono ?_
             (case side1 => repeat (first | exact (Kd.R_reads' HO_8.out).2.2 | (with_reducible refine Kd.C_alloc ?_ _) | (with_reducible refine Kd.C_drewN ?_ _) | (with_reducible refine Kd.C_drew ?_)))
             (case side2 => exact (Kd.R_reads' HO_8.out).2.1)
             rintro e w56 ⟨v226, rfl, ho0, hb⟩
             have HS5_ := (hb.cell (World.block_lt_of_cell? _ _ (hHeld.2.2.2.2.2.1))).trans (hHeld.2.2.2.2.2.1)
             have HS6_ := (hb.cell (World.block_lt_of_cell? _ _ (hHeld.2.2.2.2.2.2))).trans (hHeld.2.2.2.2.2.2)
             refine ⟨_, rfl, ?_⟩
             have n0_ := Aside0.mk (Kd.R_elder' (R_ HO_8) (Kd.R_base ho0) hb)
             have n1_ := Aside0.mk (Kd.R_below (R_ HO_9) hb)
             have n2_ := Aside0.mk (Kd.R_below (R_ HO_11) hb)
             have n3_ := Aside0.mk (Kd.R_lower (Kd.R_new' ho0 (Kd.R_lt (R_ HO_8))) (below_size (by repeat (first | (with_reducible first | exact HB.out | apply below_alloc | apply pw_below_drewN | apply below_drew1 | refine below_set ?_ GE199.out | refine below_set ?_ GE200.out | refine below_set ?_ GE209.out) | exact HB.out))))
             have n4_ := Aside0.mk (blk_below (g := gb199) (o := .cells #[.int .u8 a0_0, .int .u8 a0_1, .int .u8 a0_2, .int .u8 a0_3, .int .u8 a0_4, .slice A0_5 l0_5.length c0_5] 66 (0, 0)) (b_ BK199) hb)
             have n5_ := Aside0.mk (blk_below (g := gb200) (o := .cells #[.int .u8 a1_0, .int .u8 a1_1, .int .u8 a1_2, .int .u8 a1_3, .int .u8 a1_4, .int .u8 a1_5] 67 (0, 0)) (b_ BK200) hb)
             have n6_ := Aside0.mk (blk_below (g := gb209) (o := .cells #[.int .i64 t201, .int .i64 t202, .int .i64 t203, .int .i64 t204, .int .i64 t205] 23 (0, 0)) (b_ BK209) hb)
             have n7_ := Aside0.mk (below_step (by repeat (first | (with_reducible first | exact HB.out | apply below_alloc | apply pw_below_drewN | apply below_drew1 | refine below_set ?_ GE199.out | refine below_set ?_ GE200.out | refine below_set ?_ GE209.out) | exact HB.out)) hb)
             clear HO_8
             clear HO_9
             clear HO_11
             clear BK199
             clear BK200
             clear BK209
             clear HB
             have HO_8 := n0_
             have HO_9 := n1_
             have HO_11 := n2_
             have HO227 := n3_
             have BK199 := n4_
             have BK200 := n5_
             have BK209 := n6_
             have HB := n7_
             clear n0_ n1_ n2_ n3_ n4_ n5_ n6_ n7_
             (try clear hb)
             (try clear hb2)
             (try clear hk)
             (try clear hi)
             (try clear ho0)
             refine hK.out _ _ ⟨(blk_cell BK209.out 0).trans rfl, (blk_cell BK209.out 1).trans rfl, (blk_cell BK209.out 2).trans rfl, (blk_cell BK209.out 3).trans rfl, (blk_cell BK209.out 4).trans rfl, HS5_, HS6_⟩ (fun hHeld => ?_)
             clear hK K
             refine nq 95 ?_
             refine one_ (i := 11) (N := some 104) (bl 20 4095) rfl rfl (one_of HT_.out (by kernel_rfl)) (by decide) (fun K hK => ?_)
             refine Kd.R_lit_step (Kd.int .i64) _ 3 ?hg (N := 104) ?hd (xs := ([rd t220 x14_3, rd t220 x13_2] : List Int)) (inner := [.int .i64 (rd t220 x14_3), .int .i64 (rd t220 x13_2)]) (ok := fun _ => True) (okp := fun _ => True) ?hr ?hp (fun _ hk => hk) trivial (Below.refl _ _) (Nat.le_refl _) (by simp) ?_; (case hd => rfl); (case hg => rfl); (case hr => first | (go_simp; done) | (go_simp; rfl)); (case hp => exact (Reps.one (show Kd.M (Kd.int .i64) _ _ _ (rd t220 x14_3) [.int .i64 (rd t220 x14_3)] from rfl) (Reps.one (show Kd.M (Kd.int .i64) _ _ _ (rd t220 x13_2) [.int .i64 (rd t220 x13_2)] from rfl) (Reps.none _ _))))
             intro v231 w57 ho58 hb hg_ hnew_
             have HS5_ := (hb.cell (World.block_lt_of_cell? _ _ (hHeld.2.2.2.2.2.1))).trans (hHeld.2.2.2.2.2.1)
             have HS6_ := (hb.cell (World.block_lt_of_cell? _ _ (hHeld.2.2.2.2.2.2))).trans (hHeld.2.2.2.2.2.2)
             clear hg_ hnew_
             (first | rw [← Ny230.out] at ho58 | (simp only [Int.reduceToNat] at ho58; rw [← Ny230.out] at ho58))
             have n0_ := Aside0.mk (Kd.R_below (R_ HO_8) hb)
             have n1_ := Aside0.mk (Kd.R_elder' (R_ HO_9) (Kd.R_base ho58) hb)
             have n2_ := Aside0.mk (Kd.R_elder' (R_ HO_11) (Kd.R_base ho58) hb)
             have n3_ := Aside0.mk (Kd.R_below (R_ HO227) hb)
             have n4_ := Aside0.mk (Kd.R_lower (Kd.R_new' (Kd.R_new' ho58 (Kd.R_lt (R_ HO_9))) (Kd.R_lt (R_ HO_11))) (below_size (by repeat (first | (with_reducible first | exact HB.out | apply below_alloc | apply pw_below_drewN | apply below_drew1 | refine below_set ?_ GE199.out | refine below_set ?_ GE200.out | refine below_set ?_ GE209.out) | exact HB.out))))
             have n5_ := Aside0.mk (blk_below (g := gb199) (o := .cells #[.int .u8 a0_0, .int .u8 a0_1, .int .u8 a0_2, .int .u8 a0_3, .int .u8 a0_4, .slice A0_5 l0_5.length c0_5] 66 (0, 0)) (b_ BK199) hb)
             have n6_ := Aside0.mk (blk_below (g := gb200) (o := .cells #[.int .u8 a1_0, .int .u8 a1_1, .int .u8 a1_2, .int .u8 a1_3, .int .u8 a1_4, .int .u8 a1_5] 67 (0, 0)) (b_ BK200) hb)
             have n7_ := Aside0.mk (blk_below (g := gb209) (o := .cells #[.int .i64 t201, .int .i64 t202, .int .i64 t203, .int .i64 t204, .int .i64 t205] 23 (0, 0)) (b_ BK209) hb)
             have n8_ := Aside0.mk (below_step (by repeat (first | (with_reducible first | exact HB.out | apply below_alloc | apply pw_below_drewN | apply below_drew1 | refine below_set ?_ GE199.out | refine below_set ?_ GE200.out | refine below_set ?_ GE209.out) | exact HB.out)) hb)
             clear HO_8
             clear HO_9
             clear HO_11
             clear HO227
             clear BK199
             clear BK200
             clear BK209
             clear HB
             have HO_8 := n0_
             have HO_9 := n1_
             have HO_11 := n2_
             have HO227 := n3_
             have HO232 := n4_
             have BK199 := n5_
             have BK200 := n6_
             have BK209 := n7_
             have HB := n8_
             clear n0_ n1_ n2_ n3_ n4_ n5_ n6_ n7_ n8_
             clear hb ho58
             refine hK.out _ _ ⟨(blk_cell BK209.out 0).trans rfl, (blk_cell BK209.out 1).trans rfl, (blk_cell BK209.out 2).trans rfl, (blk_cell BK209.out 3).trans rfl, (blk_cell BK209.out 4).trans rfl, HS5_, HS6_⟩ (fun hHeld => ?_)
             clear hK K
             refine nq 104 ?_
             exact norm_ (by simp only [putAll, Act.put, List.setIfInBounds_toArray, List.set_cons_zero, List.set_cons_succ]) (hCont (v226, v231) _ ⟨hHeld, (Kd.R_mono (R_ HO227) (fun _ hk => hk.2)), (Kd.R_mono (R_ HO232) (fun _ hk => ⟨hk.2, hk.1.2⟩)), (Kd.R_mono (R_ HO_11) (fun _ hk => ⟨hk.2, hk.1⟩)), (Kd.R_mono (R_ HO_8) (fun _ hk => hk.2)), (Kd.R_mono (R_ HO_9) (fun _ hk => ⟨hk.2, hk.1⟩)), (b_ BK199), (b_ BK200), (b_ BK209), (by repeat (first | (with_reducible first | exact HB.out | apply below_alloc | apply pw_below_drewN | apply below_drew1 | refine below_set ?_ GE199.out | refine below_set ?_ GE200.out | refine below_set ?_ GE209.out) | exact HB.out))⟩)
            skip
            refine Kd.R_lit_step (Kd.int .i64) _ 3 ?hg (N := 104) ?hd (xs := ([rd t220 x14_3, rd t220 x13_2] : List Int)) (inner := [.int .i64 (rd t220 x14_3), .int .i64 (rd t220 x13_2)]) (ok := fun _ => True) (okp := fun _ => True) ?hr ?hp (fun _ hk => hk) trivial (Below.refl _ _) (Nat.le_refl _) (by simp) ?_; (case hd => rfl); (case hg => rfl); (case hr => first | (go_simp; done) | (go_simp; rfl)); (case hp => exact (Reps.one (show Kd.M (Kd.int .i64) _ _ _ (rd t220 x14_3) [.int .i64 (rd t220 x14_3)] from rfl) (Reps.one (show Kd.M (Kd.int .i64) _ _ _ (rd t220 x13_2) [.int .i64 (rd t220 x13_2)] from rfl) (Reps.none _ _))))
            intro v231 w56 ho57 hb hg_ hnew_
            have HS5_ := (hb.cell (World.block_lt_of_cell? _ _ (hHeld.2.2.2.2.2.1))).trans (hHeld.2.2.2.2.2.1)
            have HS6_ := (hb.cell (World.block_lt_of_cell? _ _ (hHeld.2.2.2.2.2.2))).trans (hHeld.2.2.2.2.2.2)
            clear hg_ hnew_
            (first | rw [← Ny230.out] at ho57 | (simp only [Int.reduceToNat] at ho57; rw [← Ny230.out] at ho57))
            have n0_ := Aside0.mk (Kd.R_below (R_ HO_8) hb)
            have n1_ := Aside0.mk (Kd.R_elder' (R_ HO_9) (Kd.R_base ho57) hb)
            have n2_ := Aside0.mk (Kd.R_elder' (R_ HO_11) (Kd.R_base ho57) hb)
            have n3_ := Aside0.mk (Kd.R_lower (Kd.R_new' (Kd.R_new' ho57 (Kd.R_lt (R_ HO_9))) (Kd.R_lt (R_ HO_11))) (below_size (by repeat (first | (with_reducible first | exact HB.out | apply below_alloc | apply pw_below_drewN | apply below_drew1 | refine below_set ?_ GE199.out | refine below_set ?_ GE200.out | refine below_set ?_ GE209.out) | exact HB.out))))
            have n4_ := Aside0.mk (blk_below (g := gb199) (o := .cells #[.int .u8 a0_0, .int .u8 a0_1, .int .u8 a0_2, .int .u8 a0_3, .int .u8 a0_4, .slice A0_5 l0_5.length c0_5] 66 (0, 0)) (b_ BK199) hb)
            have n5_ := Aside0.mk (blk_below (g := gb200) (o := .cells #[.int .u8 a1_0, .int .u8 a1_1, .int .u8 a1_2, .int .u8 a1_3, .int .u8 a1_4, .int .u8 a1_5] 67 (0, 0)) (b_ BK200) hb)
            have n6_ := Aside0.mk (blk_below (g := gb209) (o := .cells #[.int .i64 t201, .int .i64 t202, .int .i64 t203, .int .i64 t204, .int .i64 t205] 23 (0, 0)) (b_ BK209) hb)
            have n7_ := Aside0.mk (below_step (by repeat (first | (with_reducible first | exact HB.out | apply below_alloc | apply pw_below_drewN | apply below_drew1 | refine below_set ?_ GE199.out | refine below_set ?_ GE200.out | refine below_set ?_ GE209.out) | exact HB.out)) hb)
            clear HO_8
            clear HO_9
            clear HO_11
            clear BK199
            clear BK200
            clear BK209
            clear HB
            have HO_8 := n0_
            have HO_9 := n1_
            have HO_11 := n2_
            have HO232 := n3_
            have BK199 := n4_
            have BK200 := n5_
            have BK209 := n6_
            have HB := n7_
            clear n0_ n1_ n2_ n3_ n4_ n5_ n6_ n7_
            clear hb ho57
            refine hK.out _ _ ⟨(blk_cell BK209.out 0).trans rfl, (blk_cell BK209.out 1).trans rfl, (blk_cell BK209.out 2).trans rfl, (blk_cell BK209.out 3).trans rfl, (blk_cell BK209.out 4).trans rfl, HS5_, HS6_⟩ (fun hHeld => ?_)
            clear hK K
            refine nq 104 ?_
            refine one_ (i := 2) (N := some 95) (bl 20 4095) rfl rfl (one_of HT_.out (by kernel_rfl)) (by decide) (fun K hK => ?_)
            refine goes_ Tryd.func43 (by kernel_rfl) rfl #[.slice Ao21 t206.length co21] (by rfl) rfl rfl (by (try simp only [List.map_toArray, List.map_cons, List.map_nil]); first | done | rfl | (simp only [List.length_drop, List.length_take]; rfl)) ?_
            with_reducible refine (smaltolaw03_own.calls _ _ t206 t225 _ ?side1 ?side2 A40.out).mono ?_
            (case side1 => repeat (first | exact (Kd.R_reads' HO_8.out).2.2 | (with_reducible refine Kd.C_alloc ?_ _) | (with_reducible refine Kd.C_drewN ?_ _) | (with_reducible refine Kd.C_drew ?_)))
            (case side2 => exact (Kd.R_reads' HO_8.out).2.1)
            rintro e w58 ⟨v226, rfl, ho0, hb⟩
            have HS5_ := (hb.cell (World.block_lt_of_cell? _ _ (hHeld.2.2.2.2.2.1))).trans (hHeld.2.2.2.2.2.1)
            have HS6_ := (hb.cell (World.block_lt_of_cell? _ _ (hHeld.2.2.2.2.2.2))).trans (hHeld.2.2.2.2.2.2)
            refine ⟨_, rfl, ?_⟩
            have n0_ := Aside0.mk (Kd.R_elder' (R_ HO_8) (Kd.R_base ho0) hb)
            have n1_ := Aside0.mk (Kd.R_below (R_ HO_9) hb)
            have n2_ := Aside0.mk (Kd.R_below (R_ HO_11) hb)
            have n3_ := Aside0.mk (Kd.R_below (R_ HO232) hb)
            have n4_ := Aside0.mk (Kd.R_lower (Kd.R_new' ho0 (Kd.R_lt (R_ HO_8))) (below_size (by repeat (first | (with_reducible first | exact HB.out | apply below_alloc | apply pw_below_drewN | apply below_drew1 | refine below_set ?_ GE199.out | refine below_set ?_ GE200.out | refine below_set ?_ GE209.out) | exact HB.out))))
            have n5_ := Aside0.mk (blk_below (g := gb199) (o := .cells #[.int .u8 a0_0, .int .u8 a0_1, .int .u8 a0_2, .int .u8 a0_3, .int .u8 a0_4, .slice A0_5 l0_5.length c0_5] 66 (0, 0)) (b_ BK199) hb)
            have n6_ := Aside0.mk (blk_below (g := gb200) (o := .cells #[.int .u8 a1_0, .int .u8 a1_1, .int .u8 a1_2, .int .u8 a1_3, .int .u8 a1_4, .int .u8 a1_5] 67 (0, 0)) (b_ BK200) hb)
            have n7_ := Aside0.mk (blk_below (g := gb209) (o := .cells #[.int .i64 t201, .int .i64 t202, .int .i64 t203, .int .i64 t204, .int .i64 t205] 23 (0, 0)) (b_ BK209) hb)
            have n8_ := Aside0.mk (below_step (by repeat (first | (with_reducible first | exact HB.out | apply below_alloc | apply pw_below_drewN | apply below_drew1 | refine below_set ?_ GE199.out | refine below_set ?_ GE200.out | refine below_set ?_ GE209.out) | exact HB.out)) hb)
            clear HO_8
            clear HO_9
            clear HO_11
            clear HO232
            clear BK199
            clear BK200
            clear BK209
            clear HB
            have HO_8 := n0_
            have HO_9 := n1_
            have HO_11 := n2_
            have HO232 := n3_
            have HO227 := n4_
            have BK199 := n5_
            have BK200 := n6_
            have BK209 := n7_
            have HB := n8_
            clear n0_ n1_ n2_ n3_ n4_ n5_ n6_ n7_ n8_
            (try clear hb)
            (try clear hb2)
            (try clear hk)
            (try clear hi)
            (try clear ho0)
            refine hK.out _ _ ⟨(blk_cell BK209.out 0).trans rfl, (blk_cell BK209.out 1).trans rfl, (blk_cell BK209.out 2).trans rfl, (blk_cell BK209.out 3).trans rfl, (blk_cell BK209.out 4).trans rfl, HS5_, HS6_⟩ (fun hHeld => ?_)
            clear hK K
            refine nq 95 ?_
            exact norm_ (by simp only [putAll, Act.put, List.setIfInBounds_toArray, List.set_cons_zero, List.set_cons_succ]) (hCont (v226, v231) _ ⟨hHeld, (Kd.R_mono (R_ HO227) (fun _ hk => hk.2)), (Kd.R_mono (R_ HO232) (fun _ hk => ⟨hk.2, hk.1.2⟩)), (Kd.R_mono (R_ HO_11) (fun _ hk => ⟨hk.2, hk.1⟩)), (Kd.R_mono (R_ HO_8) (fun _ hk => hk.2)), (Kd.R_mono (R_ HO_9) (fun _ hk => ⟨hk.2, hk.1⟩)), (b_ BK199), (b_ BK200), (b_ BK209), (by repeat (first | (with_reducible first | exact HB.out | apply below_alloc | apply pw_below_drewN | apply below_drew1 | refine below_set ?_ GE199.out | refine below_set ?_ GE200.out | refine below_set ?_ GE209.out) | exact HB.out))⟩)
           rintro ⟨v226, v231⟩ w59 ⟨hS_, h0_, h1_, h2_, h3_, h4_, h5_, h6_, h7_, h8_⟩
           have n0_ : Aside0 (Kd.R k74 74 w59 w.heap.size (fun k_ => some k_ ≠ (.slice Ao21 t206.length co21 : Value).ownBlock) v226 t225) := ⟨h0_⟩
           have n1_ : Aside0 (Kd.R (Kd.int .i64) 3 w59 w.heap.size (fun k_ => some k_ ≠ (.slice (some ad228) t220.length co38 : Value).ownBlock ∧ some k_ ≠ (v214 : Value).ownBlock) v231 y230) := ⟨h1_⟩
           have n2_ : Aside0 (Kd.R (Kd.int .i64) 3 w59 w.heap.size (fun k_ => some k_ ≠ (v231 : Value).ownBlock ∧ some k_ ≠ (v214 : Value).ownBlock) (.slice (some ad228) t220.length co38) t220) := ⟨h2_⟩
           have n3_ : Aside0 (Kd.R k74 74 w59 w.heap.size (fun k_ => some k_ ≠ (v226 : Value).ownBlock) (.slice Ao21 t206.length co21) t206) := ⟨h3_⟩
           have n4_ : Aside0 (Kd.R (Kd.int .i64) 3 w59 w.heap.size (fun k_ => some k_ ≠ (v231 : Value).ownBlock ∧ some k_ ≠ (.slice (some ad228) t220.length co38 : Value).ownBlock) v214 t213) := ⟨h4_⟩
           have n5_ : Aside0 (w59.heap[gb199]? = some (.cells #[.int .u8 a0_0, .int .u8 a0_1, .int .u8 a0_2, .int .u8 a0_3, .int .u8 a0_4, .slice A0_5 l0_5.length c0_5] 66 (0, 0))) := ⟨h5_⟩
           have n6_ : Aside0 (w59.heap[gb200]? = some (.cells #[.int .u8 a1_0, .int .u8 a1_1, .int .u8 a1_2, .int .u8 a1_3, .int .u8 a1_4, .int .u8 a1_5] 67 (0, 0))) := ⟨h6_⟩
           have n7_ : Aside0 (w59.heap[gb209]? = some (.cells #[.int .i64 t201, .int .i64 t202, .int .i64 t203, .int .i64 t204, .int .i64 t205] 23 (0, 0))) := ⟨h7_⟩
           have n8_ : Aside0 (Below w.heap.size w w59) := ⟨h8_⟩
           clear HO_8
           clear HO_9
           clear HO_11
           clear BK199
           clear BK200
           clear BK209
           clear HB
           clear h0_ h1_ h2_ h3_ h4_ h5_ h6_ h7_ h8_
           have HO227 := n0_
           have HO232 := n1_
           have HO_11 := n2_
           have HO_8 := n3_
           have HO_9 := n4_
           have BK199 := n5_
           have BK200 := n6_
           have BK209 := n7_
           have HB := n8_
           clear n0_ n1_ n2_ n3_ n4_ n5_ n6_ n7_ n8_
           have hHeld : w59.cell? ⟨gb209, 0, none⟩ = some (.int .i64 t201) ∧ w59.cell? ⟨gb209, 1, none⟩ = some (.int .i64 t202) ∧ w59.cell? ⟨gb209, 2, none⟩ = some (.int .i64 t203) ∧ w59.cell? ⟨gb209, 3, none⟩ = some (.int .i64 t204) ∧ w59.cell? ⟨gb209, 4, none⟩ = some (.int .i64 t205) ∧ w59.cell? (ad228.add (x14_3).toNat) = some (.int .i64 (rd t220 x14_3)) ∧ w59.cell? (ad228.add (x13_2).toNat) = some (.int .i64 (rd t220 x13_2)) := hS_
           obtain ⟨Ao60, co60, eo60⟩ := Kd.R_slice HO227.out
           (first | subst eo60 | (injection eo60 with f1_ f2_ f3_; have f4_ := f1_.symm; have f5_ := f3_.symm; clear f1_ f2_ f3_; subst f4_; subst f5_))
           obtain ⟨Ao61, co61, eo61⟩ := Kd.R_slice HO232.out
           (first | subst eo61 | (injection eo61 with f1_ f2_ f3_; have f4_ := f1_.symm; have f5_ := f3_.symm; clear f1_ f2_ f3_; subst f4_; subst f5_))
           refine norm_ (a' := ?_) ?_ ?_
           rotate_left
           ·simp only [putAll, Act.put, List.setIfInBounds_toArray, List.set_cons_zero, List.set_cons_succ]
            rfl
           refine one_ (i := 12) (N := some 105) (bl 20 8191) rfl rfl (one_of HT_.out (by kernel_rfl)) (by decide) (fun K hK => ?_)
           refine goes_ Tryd.func17 (by kernel_rfl) rfl #[.agg #[.int .i64 t201, .int .i64 t202, .int .i64 t203, .int .i64 t204, .int .i64 t205], .slice Ao60 t225.length co60, .slice Ao61 y230.length co61] (by rfl) rfl rfl (by (try simp only [List.map_toArray, List.map_cons, List.map_nil]); first | done | rfl | (simp only [List.length_drop, List.length_take]; rfl)) ?_
           with_reducible refine (goesC.calls t201 t202 t203 t204 t205 _ _ t225 _ _ y230 false t234 _ ?side5 ?side1 ?side2 ?side3 ?side4 A45.out).mono ?_
           (case side1 => repeat (first | exact (Kd.R_reads' HO227.out).2.2 | (with_reducible refine Kd.C_alloc ?_ _) | (with_reducible refine Kd.C_drewN ?_ _) | (with_reducible refine Kd.C_drew ?_)))
           (case side2 => exact (Kd.R_reads' HO227.out).2.1)
           (case side3 => repeat (first | exact (Kd.R_reads' HO232.out).2.2 | (with_reducible refine Kd.C_alloc ?_ _) | (with_reducible refine Kd.C_drewN ?_ _) | (with_reducible refine Kd.C_drew ?_)))
           (case side4 => exact (Kd.R_reads' HO232.out).2.1)
           (case side5 => exact Hand.TabW.below HTAB.out (by repeat (first | (with_reducible first | exact HB.out | apply below_alloc | apply pw_below_drewN | apply below_drew1 | refine below_set ?_ GE199.out | refine below_set ?_ GE200.out | refine below_set ?_ GE209.out) | exact HB.out)))
           rintro e w62 ⟨rfl, hb⟩
           have HS5_ := (hb.cell (World.block_lt_of_cell? _ _ (hHeld.2.2.2.2.2.1))).trans (hHeld.2.2.2.2.2.1)
           have HS6_ := (hb.cell (World.block_lt_of_cell? _ _ (hHeld.2.2.2.2.2.2))).trans (hHeld.2.2.2.2.2.2)
           refine ⟨_, rfl, ?_⟩
           have n0_ := Aside0.mk (Kd.R_below (R_ HO_8) hb)
           have n1_ := Aside0.mk (Kd.R_below (R_ HO_9) hb)
           have n2_ := Aside0.mk (Kd.R_below (R_ HO_11) hb)
           have n3_ := Aside0.mk (Kd.R_below (R_ HO227) hb)
           have n4_ := Aside0.mk (Kd.R_below (R_ HO232) hb)
           have n5_ := Aside0.mk (blk_below (g := gb199) (o := .cells #[.int .u8 a0_0, .int .u8 a0_1, .int .u8 a0_2, .int .u8 a0_3, .int .u8 a0_4, .slice A0_5 l0_5.length c0_5] 66 (0, 0)) (b_ BK199) hb)
           have n6_ := Aside0.mk (blk_below (g := gb200) (o := .cells #[.int .u8 a1_0, .int .u8 a1_1, .int .u8 a1_2, .int .u8 a1_3, .int .u8 a1_4, .int .u8 a1_5] 67 (0, 0)) (b_ BK200) hb)
           have n7_ := Aside0.mk (blk_below (g := gb209) (o := .cells #[.int .i64 t201, .int .i64 t202, .int .i64 t203, .int .i64 t204, .int .i64 t205] 23 (0, 0)) (b_ BK209) hb)
           have n8_ := Aside0.mk (below_step (by repeat (first | (with_reducible first | exact HB.out | apply below_alloc | apply pw_below_drewN | apply below_drew1 | refine below_set ?_ GE199.out | refine below_set ?_ GE200.out | refine below_set ?_ GE209.out) | exact HB.out)) hb)
           clear HO_8
           clear HO_9
           clear HO_11
           clear HO227
           clear HO232
           clear BK199
           clear BK200
           clear BK209
           clear HB
           have HO_8 := n0_
           have HO_9 := n1_
           have HO_11 := n2_
           have HO227 := n3_
           have HO232 := n4_
           have BK199 := n5_
           have BK200 := n6_
           have BK209 := n7_
           have HB := n8_
           clear n0_ n1_ n2_ n3_ n4_ n5_ n6_ n7_ n8_
           (try clear hb)
           (try clear hb2)
           (try clear hk)
           (try clear hi)
           refine hK.out _ _ ⟨(blk_cell BK209.out 0).trans rfl, (blk_cell BK209.out 1).trans rfl, (blk_cell BK209.out 2).trans rfl, (blk_cell BK209.out 3).trans rfl, (blk_cell BK209.out 4).trans rfl, HS5_, HS6_⟩ (fun hHeld => ?_)
           clear hK K
           refine nq 105 ?_
           refine pq 13 (some 92) (bl 20 16383) HT_ (h := ?_)
           refine pq 14 (some 106) (bl 20 32767) HT_ (h := ?_)
           refine pq 15 (some 107) (bl 20 65535) HT_ (h := ?_)
           refine pq 16 (some 108) (bl 20 131071) HT_ (h := ?_)
           refine pq 17 (some 15) (bl 20 262143) HT_ (h := ?_)
           refine pq 18 (some 16) (bl 20 524287) HT_ (h := ?_)
           refine pq 19 (some 17) (bl 20 1048575) HT_ (h := ?_)
           refine done_ (done_of HT_.out (by kernel_rfl)) ?_
           try go_wp2
           go_roundg k3
           case measure => have := HJ8.out; have := HK2.out; have := HK3.out; omega
           case rel => exact ⟨(wrap64 (x14_3 + 1)), (by first | rfl | (simp; done) | (simp [*]; done)), H', ⟨by have := HJ8.out; have := HK2.out; have := HK3.out; omega⟩, ⟨Kd.R_mono (R_ HO_8) (fun _ hk => trivial)⟩, ⟨Kd.R_mono (R_ HO_9) (fun _ hk => hk.2)⟩, ⟨Kd.R_mono (R_ HO_11) (fun _ hk => hk.2)⟩, ⟨b_ BK199⟩, ⟨b_ BK200⟩, ⟨b_ BK209⟩, ⟨by repeat (first | (with_reducible first | exact HB.out | apply below_alloc | apply pw_below_drewN | apply below_drew1 | refine below_set ?_ GE199.out | refine below_set ?_ GE200.out | refine below_set ?_ GE209.out) | exact HB.out)⟩⟩
          rw [if_neg c44] at H
          exact absurd H (by simp)
         rw [if_neg c43] at H
         exact absurd H (by simp)
        rw [if_neg c42] at H
        exact absurd H (by simp)
       rw [if_neg c41] at H
       exact absurd H (by simp)
      rw [if_neg c39] at H
      have c39b0 : decide (x14_3 < x13_2) = false := decide_eq_false c39
      clear c39
      have H' := Aside0.mk H
      clear H
      go_wp2
      go_roundg k3
      case measure => have := HJ8.out; have := HK2.out; have := HK3.out; omega
      case rel => exact ⟨(wrap64 (x13_2 + 1)), (by first | rfl | (simp; done) | (simp [*]; done)), H', ⟨by have := HJ8.out; have := HK2.out; have := HK3.out; omega⟩, ⟨R_ HO_8⟩, ⟨R_ HO_9⟩, ⟨R_ HO_11⟩, ⟨b_ BK199⟩, ⟨b_ BK200⟩, ⟨b_ BK209⟩, ⟨by repeat (first | (with_reducible first | exact HB.out | apply below_alloc | apply pw_below_drewN | apply below_drew1 | refine below_set ?_ GE199.out | refine below_set ?_ GE200.out | refine below_set ?_ GE209.out) | exact HB.out)⟩⟩
    rw [if_neg c37] at H
    have c37b0 : decide (x13_2 < (t220.length : Int)) = false := decide_eq_false c37
    clear c37
    obtain ⟨y236, hy236⟩ : ∃ y_ : List Int, y_ = (([] : List Int)) := ⟨_, rfl⟩
    replace H : (lF.l2 k2 a2 t206 t213 t216 t220 y236 0 a1_0 a1_1 a1_2 a1_3 a1_4 a1_5 t201 t202 t203 t204 t205) = some r := by first | (rw [hy236]; with_reducible exact H) | (have H2_ := (Option.bind_some _ _).symm.trans H; rw [hy236]; with_reducible exact H2_) | (have H2_ := (Option.bind_some _ _).symm.trans H; with_reducible exact H2_) | with_reducible exact H | (rw [hy236]; exact H) | exact H
    have Ny236 := Aside0.mk hy236
    clear hy236
    have H' := Aside0.mk H
    clear H
    obtain ⟨Ao63, co63, eo63⟩ := Kd.R_slice HO_11.out
    subst eo63
    go_wp2_with (first | ((with_reducible refine gate_dst (N := 114) rfl ?_); (try (refine gate_guard (by rfl) ?_; dsimp only)); refine Kd.R_lit (Kd.int .i64) _ 3 ?hg (N := 114) ?hd (xs := ([] : List Int)) (inner := []) (ok := fun _ => True) (okp := fun _ => True) ?hr ?hp (fun _ hk => hk) trivial (Below.refl _ _) (Nat.le_refl _) (by simp) ?_; (case hd => rfl); (case hg => rfl); (case hr => first | (go_simp; done) | (go_simp; rfl)); (case hp => exact (Reps.none _ _)); intro v237 w64 ho65 hb hg_ hnew_; clear hg_ hnew_; (first | rw [← Ny236.out] at ho65 | (simp only [Int.reduceToNat] at ho65; rw [← Ny236.out] at ho65)); have n0_ := Aside0.mk (Kd.R_below (R_ HO_8) hb); have n1_ := Aside0.mk (Kd.R_elder' (R_ HO_9) (Kd.R_base ho65) hb); have n2_ := Aside0.mk (Kd.R_elder' (R_ HO_11) (Kd.R_base ho65) hb); have n3_ := Aside0.mk (Kd.R_lower (Kd.R_new' (Kd.R_new' ho65 (Kd.R_lt (R_ HO_9))) (Kd.R_lt (R_ HO_11))) (below_size (by repeat (first | (with_reducible first | exact HB.out | apply below_alloc | apply pw_below_drewN | apply below_drew1 | refine below_set ?_ GE199.out | refine below_set ?_ GE200.out | refine below_set ?_ GE209.out) | exact HB.out)))); have n4_ := Aside0.mk (blk_below (g := gb199) (o := .cells #[.int .u8 a0_0, .int .u8 a0_1, .int .u8 a0_2, .int .u8 a0_3, .int .u8 a0_4, .slice A0_5 l0_5.length c0_5] 66 (0, 0)) (b_ BK199) hb); have n5_ := Aside0.mk (blk_below (g := gb200) (o := .cells #[.int .u8 a1_0, .int .u8 a1_1, .int .u8 a1_2, .int .u8 a1_3, .int .u8 a1_4, .int .u8 a1_5] 67 (0, 0)) (b_ BK200) hb); have n6_ := Aside0.mk (blk_below (g := gb209) (o := .cells #[.int .i64 t201, .int .i64 t202, .int .i64 t203, .int .i64 t204, .int .i64 t205] 23 (0, 0)) (b_ BK209) hb); have n7_ := Aside0.mk (below_step (by repeat (first | (with_reducible first | exact HB.out | apply below_alloc | apply pw_below_drewN | apply below_drew1 | refine below_set ?_ GE199.out | refine below_set ?_ GE200.out | refine below_set ?_ GE209.out) | exact HB.out)) hb); clear HO_8; clear HO_9; clear HO_11; clear BK199; clear BK200; clear BK209; clear HB; have HO_8 := n0_; have HO_9 := n1_; have HO_11 := n2_; have HO238 := n3_; have BK199 := n4_; have BK200 := n5_; have BK209 := n6_; have HB := n7_; clear n0_ n1_ n2_ n3_ n4_ n5_ n6_ n7_; clear hb ho65))
    go_loopg [18, 21] k2 (fun kq v18 v21 w' => ∃ (x18_3 : List Int) (x21_3 : Int), v21 = .int .i64 x21_3 ∧ Aside0 (lF.l2 kq a2 t206 t213 t216 t220 x18_3 x21_3 a1_0 a1_1 a1_2 a1_3 a1_4 a1_5 t201 t202 t203 t204 t205 = some r) ∧ Aside0 (kq ≤ k2) ∧ Aside0 (Kd.R k74 74 w' w.heap.size (fun _ => True) (.slice Ao21 t206.length co21) t206) ∧ Aside0 (Kd.R (Kd.int .i64) 3 w' w.heap.size (fun k_ => some k_ ≠ ((.slice Ao63 t220.length co63) : Value).ownBlock ∧ some k_ ≠ (v18 : Value).ownBlock) v214 t213) ∧ Aside0 (Kd.R (Kd.int .i64) 3 w' w.heap.size (fun k_ => some k_ ≠ (v214 : Value).ownBlock ∧ some k_ ≠ (v18 : Value).ownBlock) (.slice Ao63 t220.length co63) t220) ∧ Aside0 (Kd.R (Kd.int .i64) 3 w' w.heap.size (fun k_ => some k_ ≠ (v214 : Value).ownBlock ∧ some k_ ≠ ((.slice Ao63 t220.length co63) : Value).ownBlock) v18 x18_3) ∧ Aside0 (w'.heap[gb199]? = some (.cells #[.int .u8 a0_0, .int .u8 a0_1, .int .u8 a0_2, .int .u8 a0_3, .int .u8 a0_4, (.slice A0_5 l0_5.length c0_5)] 66 (0, 0))) ∧ Aside0 (w'.heap[gb200]? = some (.cells #[.int .u8 a1_0, .int .u8 a1_1, .int .u8 a1_2, .int .u8 a1_3, .int .u8 a1_4, .int .u8 a1_5] 67 (0, 0))) ∧ Aside0 (w'.heap[gb209]? = some (.cells #[.int .i64 t201, .int .i64 t202, .int .i64 t203, .int .i64 t204, .int .i64 t205] 23 (0, 0))) ∧ Aside0 (Below w.heap.size w w'))
    case atStart => exact ⟨(y236), (0), (by first | rfl | (simp; done) | (simp [*]; done)), H', ⟨Nat.le_refl _⟩, ⟨R_ HO_8⟩, ⟨R_ HO_9⟩, ⟨R_ HO_11⟩, ⟨Kd.R_mono (R_ HO238) (fun _ hk => ⟨hk.1.2, hk.2⟩)⟩, ⟨b_ BK199⟩, ⟨b_ BK200⟩, ⟨b_ BK209⟩, ⟨by repeat (first | (with_reducible first | exact HB.out | apply below_alloc | apply pw_below_drewN | apply below_drew1 | refine below_set ?_ GE199.out | refine below_set ?_ GE200.out | refine below_set ?_ GE209.out) | exact HB.out)⟩⟩
    case round =>
     rename_i z1_ z2_ z3_ z4_ z5_ z6_ z7_ z8_ z9_ z10_ z11_ z12_ z13_ z14_ z15_ z16_ z17_ z18_ z19_ z20_ z21_ z22_ z23_ z24_ z25_ z26_ z27_ z28_ z29_ z30_ z31_ z32_ z33_ z34_ z35_ z36_ z37_ z38_ z39_ z40_ z41_ z42_ z43_ z44_ z45_ z46_ z47_ z48_ z49_ z50_ z51_ z52_ z53_ z54_ z55_ z56_ z57_ z58_ z59_ z60_ z61_ z62_ z63_ z64_ z65_ z66_ z67_ z68_ z69_ z70_ z71_ z72_ z73_ z74_ z75_ z76_ z77_ z78_ z79_ z80_
     revert k a0_0 a0_1 a0_2 a0_3 a0_4 A0_5 c0_5 l0_5 a1_0 a1_1 a1_2 a1_3 a1_4 a1_5 a2 r w hu66 hu67 hu23 HTAB HR0_5 HC0_5 t201 t202 t203 t204 t205 t206 A4 t210 A5 t213 t216 A6 t217 A7 t220 A8 z1_ gb199 w10 GW199 GE199 gb200 w11 GW200 GE200 NB199_200 NB200_199 hnb12 hnc12 w14 gb209 w15 GW209 GE209 NB199_209 NB209_199 NB200_209 NB209_200 hnb16 hnc16 hnb17 hnc17 w19 Ao21 co21 z2_ z3_ w20 z4_ w22 Ao23 co23 z5_ w24 v214 z6_ HT_ HW_ w25 z7_ w26 Ao27 co27 z8_ w28 HO208 HO212 HO219 z9_ z10_ z11_ z12_ hHeld wc u40 u41 u42 u43 u44 u45 u46 u47 u48 u49 u50 u51 u52 u53 u54 u55 u56 u57 u58 u59 u60 u61 u62 u63 u64 u65 u66 u67 u68 u69 u70 u71 u72 u73 u74 u75 u76 u77 u78 u79 z13_ z14_ z15_ z16_ z17_ z18_ z19_ z20_ z21_ z22_ z23_ z24_ z25_ z26_ z27_ z28_ z29_ z30_ z31_ z32_ z33_ z34_ z35_ z36_ z37_ z38_ z39_ z40_ z41_ z42_ z43_ z44_ z45_ u114 z46_ z47_ z48_ z49_ z50_ z51_ z52_ z53_ z54_ z55_ z56_ z57_ z58_ z59_ u129 u130 u131 u132 u133 u134 u135 u136 u137 u138 u139 u140 u141 u142 u143 u144 u145 u146 u147 u148 u149 u150 u151 u152 u153 u154 u155 u156 u157 u158 u159 u160 u161 u162 u163 u164 u165 u166 u167 u168 u169 u170 u171 u172 u173 u174 u175 u176 u177 u178 u179 u180 u181 u182 u183 u184 u185 u186 u187 u188 u189 u190 u191 u192 u193 u194 u195 u196 u197 u198 u199 u200 u201 u202 u203 u204 u205 u206 u207 u208 u209 u210 u211 u212 u213 u214 u215 u216 u217 u218 u219 u220 u221 u222 u223 u224 u225 u226 u227 u228 u229 u230 u231 u232 u233 u234 u235 u236 u237 u238 u239 u240 u241 u242 u243 u244 u245 u246 u248 u249 u250 u251 u252 u253 u254 u255 u256 u257 u258 u259 u260 u261 u262 u263 u264 u266 u267 u268 u269 u270 u272 u273 u274 u275 u276 u278 u279 u280 u281 u282 u284 u285 u286 u287 u288 u289 u290 u291 u292 u293 u294 u295 u296 u297 u298 u299 u300 u301 u302 u303 u304 u305 u306 u307 u308 u309 u310 u311 u312 u313 u314 u315 u316 u317 z60_ z61_ z62_ z63_ z64_ kj8 HJ8 z65_ z66_ u6 u14 u15 u16 u17 u81 u82 u83 u84 u85 u86 u87 u88 u89 u90 u91 u92 u93 u94 u95 u96 u97 u98 u99 u100 u101 u102 u103 u104 u105 u106 u107 u108 u109 u110 u111 u112 u113 z67_ z68_ x13_2 k2 z69_ HK2 c37b0 y236 Ny236 H' Ao63 co63 HO215 HO222 z70_ z71_ z72_ z73_ z74_ v237 w64 HO_8 HO_9 HO_11 HO238 BK199 BK200 BK209 HB z75_ z76_ gk wr u18 u21 u115 u116 u117 u118 u119 u120 u121 u122 u123 u124 u125 u126 u127 u128 hrel z77_ z78_ z79_ z80_
     exact hG_
end Go.Proofs.YtbijamlgcebgeaaDoor.Q
-- part SN2
namespace Go.Proofs.YtbijamlgcebgeaaDoor.Q
open Go.RowKit Go.Proofs.YtbijamlgcebgeaaDoorW.PrintWords Go.Proofs.YtbijamlgcebgeaaDoorW.PrintLast Go.Proofs.YtbijamlgcebgeaaDoorW.PrintMore
attribute [local go_sem] max2_int min2_int max_two min_two max_three min_three max_four min_four
set_option maxHeartbeats 8000000 in
set_option maxRecDepth 100000 in
noncomputable def lF.cut2 : {G : Prop // G → lF.cut1.1} := by
 refine ⟨?_, ?_⟩
 rotate_left
 case refine_2 =>
  intro hG_
  replace hG_ : Aside0 (True → _) := ⟨fun _ => hG_⟩
  intro k a0_0 a0_1 a0_2 a0_3 a0_4 A0_5 c0_5 l0_5 a1_0 a1_1 a1_2 a1_3 a1_4 a1_5 a2 r w hu66 hu67 hu23 HTAB HR0_5 HC0_5 t201 t202 t203 t204 t205 t206 A4 t210 A5 t213 t216 A6 t217 A7 t220 A8 z1_ gb199 w10 GW199 GE199 gb200 w11 GW200 GE200 NB199_200 NB200_199 hnb12 hnc12 w14 gb209 w15 GW209 GE209 NB199_209 NB209_199 NB200_209 NB209_200 hnb16 hnc16 hnb17 hnc17 w19 Ao21 co21 z2_ z3_ w20 z4_ w22 Ao23 co23 z5_ w24 v214 z6_ HT_ HW_ w25 z7_ w26 Ao27 co27 z8_ w28 HO208 HO212 HO219 z9_ z10_ z11_ z12_ hHeld wc u40 u41 u42 u43 u44 u45 u46 u47 u48 u49 u50 u51 u52 u53 u54 u55 u56 u57 u58 u59 u60 u61 u62 u63 u64 u65 u66 u67 u68 u69 u70 u71 u72 u73 u74 u75 u76 u77 u78 u79 z13_ z14_ z15_ z16_ z17_ z18_ z19_ z20_ z21_ z22_ z23_ z24_ z25_ z26_ z27_ z28_ z29_ z30_ z31_ z32_ z33_ z34_ z35_ z36_ z37_ z38_ z39_ z40_ z41_ z42_ z43_ z44_ z45_ u114 z46_ z47_ z48_ z49_ z50_ z51_ z52_ z53_ z54_ z55_ z56_ z57_ z58_ z59_ u129 u130 u131 u132 u133 u134 u135 u136 u137 u138 u139 u140 u141 u142 u143 u144 u145 u146 u147 u148 u149 u150 u151 u152 u153 u154 u155 u156 u157 u158 u159 u160 u161 u162 u163 u164 u165 u166 u167 u168 u169 u170 u171 u172 u173 u174 u175 u176 u177 u178 u179 u180 u181 u182 u183 u184 u185 u186 u187 u188 u189 u190 u191 u192 u193 u194 u195 u196 u197 u198 u199 u200 u201 u202 u203 u204 u205 u206 u207 u208 u209 u210 u211 u212 u213 u214 u215 u216 u217 u218 u219 u220 u221 u222 u223 u224 u225 u226 u227 u228 u229 u230 u231 u232 u233 u234 u235 u236 u237 u238 u239 u240 u241 u242 u243 u244 u245 u246 u248 u249 u250 u251 u252 u253 u254 u255 u256 u257 u258 u259 u260 u261 u262 u263 u264 u266 u267 u268 u269 u270 u272 u273 u274 u275 u276 u278 u279 u280 u281 u282 u284 u285 u286 u287 u288 u289 u290 u291 u292 u293 u294 u295 u296 u297 u298 u299 u300 u301 u302 u303 u304 u305 u306 u307 u308 u309 u310 u311 u312 u313 u314 u315 u316 u317 z60_ z61_ z62_ z63_ z64_ kj8 HJ8 z65_ z66_ u6 u14 u15 u16 u17 u81 u82 u83 u84 u85 u86 u87 u88 u89 u90 u91 u92 u93 u94 u95 u96 u97 u98 u99 u100 u101 u102 u103 u104 u105 u106 u107 u108 u109 u110 u111 u112 u113 z67_ z68_ x13_2 k2 z69_ HK2 c37b0 y236 Ny236 H' Ao63 co63 HO215 HO222 z70_ z71_ z72_ z73_ z74_ v237 w64 HO_8 HO_9 HO_11 HO238 BK199 BK200 BK209 HB z75_ z76_ gk wr u18 u21 u115 u116 u117 u118 u119 u120 u121 u122 u123 u124 u125 u126 u127 u128 hrel z77_ z78_ z79_ z80_
  clear H'
  try clear c1
  try clear p2
  try clear q2
  try clear hx2
  try clear c3
  try clear c4
  try clear p6
  try clear c17
  try clear p22
  try clear q22
  try clear hx22
  try clear c37
  try clear c37b0
  try clear c39
  try clear c39b0
  try clear c41
  try clear c42
  try clear c43
  try clear c44
  try clear c46
  try clear p64
  try clear hx228_0
  try clear hx229_0
  try clear p228
  try clear p229
  try clear q228
  try clear q229
  obtain ⟨x18_3, x21_3, rfl, HA, HK3, HO_8, HO_9, HO_11, HO_18, BK199, BK200, BK209, HB⟩ := hrel
  rcases gk with _ | k3
  ·exact absurd HA.out (by simp [lF.l2])
  have H := HA.out
  clear HA
  simp only [lF.l2] at H
  by_cases c66 : x21_3 < (t206.length : Int)
  ·rw [if_pos c66] at H
   have c66b0 : decide (x21_3 < (t206.length : Int)) = true := decide_eq_true c66
   clear c66
   by_cases c67 : 0 ≤ x21_3
   ·rw [if_pos c67] at H
    have c67b0 : decide (0 ≤ x21_3) = true := decide_eq_true c67
    clear c67
    by_cases c68 : x21_3 < 6
    ·rw [if_pos c68] at H
     have c68b0 : decide (x21_3 < 6) = true := decide_eq_true c68
     clear c68
     by_cases c69 : x18_3.length < 17592186044416
     ·rw [if_pos c69] at H
      have LMc69 := Aside0.mk c69
      clear c69
      obtain ⟨y240, hy240⟩ : ∃ y_ : List Int, y_ = (x18_3 ++ [Int.tmod (wrap64 (rd [a1_0, a1_1, a1_2, a1_3, a1_4, a1_5] x21_3)) 6]) := ⟨_, rfl⟩
      replace H : (lF.l2 k3 a2 t206 t213 t216 t220 y240 (wrap64 (x21_3 + 1)) a1_0 a1_1 a1_2 a1_3 a1_4 a1_5 t201 t202 t203 t204 t205) = some r := by first | (rw [hy240]; with_reducible exact H) | (have H2_ := (Option.bind_some _ _).symm.trans H; rw [hy240]; with_reducible exact H2_) | (have H2_ := (Option.bind_some _ _).symm.trans H; with_reducible exact H2_) | with_reducible exact H | (rw [hy240]; exact H) | exact H
      have Ny240 := Aside0.mk hy240
      clear hy240
      have H' := Aside0.mk H
      clear H
      have hnb70 := NB200_199.out
      have hnc70 := NB199_200.out
      have hnb71 := NB200_209.out
      have hnc71 := NB209_200.out
      have hcz72_0 : wr.cell? ⟨gb200, 0, none⟩ = some (.int .u8 a1_0) := (blk_cell BK200.out 0).trans rfl
      have hcz72_1 : wr.cell? ⟨gb200, 1, none⟩ = some (.int .u8 a1_1) := (blk_cell BK200.out 1).trans rfl
      have hcz72_2 : wr.cell? ⟨gb200, 2, none⟩ = some (.int .u8 a1_2) := (blk_cell BK200.out 2).trans rfl
      have hcz72_3 : wr.cell? ⟨gb200, 3, none⟩ = some (.int .u8 a1_3) := (blk_cell BK200.out 3).trans rfl
      have hcz72_4 : wr.cell? ⟨gb200, 4, none⟩ = some (.int .u8 a1_4) := (blk_cell BK200.out 4).trans rfl
      have hcz72_5 : wr.cell? ⟨gb200, 5, none⟩ = some (.int .u8 a1_5) := (blk_cell BK200.out 5).trans rfl
      have hfz72_0 := blk_frozen BK200.out 0
      have hfz72_1 := blk_frozen BK200.out 1
      have hfz72_2 := blk_frozen BK200.out 2
      have hfz72_3 := blk_frozen BK200.out 3
      have hfz72_4 := blk_frozen BK200.out 4
      have hfz72_5 := blk_frozen BK200.out 5
      have p239 : 0 ≤ (x21_3 : Int) := of_decide_eq_true (by first | (with_reducible assumption) | assumption)
      have q239 : (x21_3 : Int) < (6 : Int) := of_decide_eq_true (by first | (with_reducible assumption) | assumption)
      have hy239 := @arr_cell .u8 [a1_0, a1_1, a1_2, a1_3, a1_4, a1_5] x21_3 p239 q239
      have hx239_0 : wr.cell? ⟨gb200, (x21_3).toNat, none⟩ = some (.int .u8 (rd [a1_0, a1_1, a1_2, a1_3, a1_4, a1_5] x21_3)) := hy239 (BK200.out) rfl
      clear hy239
      replace p239 := eq_true p239
      replace q239 := eq_true q239
      go_wp2_with (first | ((with_reducible refine gate_builtin (b := .append) (xs := #[.tmp 121, .tmp 127]) rfl ?_); (try (refine gate_guard (by rfl) ?_; dsimp only)); at_builtin; refine Kd.R_append (Kd.int .i64) (w0 := w) w.heap.size rfl (.tmp 121) (.tmp 127) 25 3 (.int .i64 0) 8 rfl Tryd.underlying25 info3 rfl (by decide) (by omega) u18 x18_3 (Int.tmod (wrap64 (rd [a1_0, a1_1, a1_2, a1_3, a1_4, a1_5] x21_3)) 6) [.int .i64 (Int.tmod (wrap64 (rd [a1_0, a1_1, a1_2, a1_3, a1_4, a1_5] x21_3)) 6)] (fun k_ => some k_ ≠ (v214 : Value).ownBlock ∧ some k_ ≠ (.slice Ao63 t220.length co63 : Value).ownBlock) (fun _ => False) rfl rfl ?aP (fun _ hk => hk.elim) ?aF ?aO ?aB ?aS ?aL ?_; (case aP => exact rfl); (case aB => exact (by repeat (first | (with_reducible first | exact HB.out | apply below_alloc | apply pw_below_drewN | apply below_drew1 | refine below_set ?_ GE199.out | refine below_set ?_ GE200.out | refine below_set ?_ GE209.out) | exact HB.out))); (case aF => exact (fun k_ hk => ⟨Kd.fresh' (Kd.R_lt (R_ HO_9)) k_ hk, Kd.fresh' (Kd.R_lt (R_ HO_11)) k_ hk⟩)); (case aO => exact (R_ HO_18)); (case aS => exact (below_size (by repeat (first | (with_reducible first | exact HB.out | apply below_alloc | apply pw_below_drewN | apply below_drew1 | refine below_set ?_ GE199.out | refine below_set ?_ GE200.out | refine below_set ?_ GE209.out) | exact HB.out)))); (case aL => have := LMc69.out; omega); intro v241 w73 ho hb hg hat; rw [← Ny240.out] at ho; have n0_ := Aside0.mk (Kd.R_over' (R_ HO_8) (Kd.R_typed (R_ HO_18)) (by decide) hg); have n1_ := Aside0.mk (Kd.R_after (ok := (fun k_ => some k_ ≠ (.slice Ao63 t220.length co63 : Value).ownBlock)) (R_ HO_9) hg hat); have n2_ := Aside0.mk (Kd.R_after (ok := (fun k_ => some k_ ≠ (v214 : Value).ownBlock)) (R_ HO_11) hg hat); have n3_ := Aside0.mk (blk_grown (g := gb199) (o := .cells #[.int .u8 a0_0, .int .u8 a0_1, .int .u8 a0_2, .int .u8 a0_3, .int .u8 a0_4, .slice A0_5 l0_5.length c0_5] 66 (0, 0)) (b_ BK199) hg (Kd.R_ne HO_18.out BK199.out (by decide))); have n4_ := Aside0.mk (blk_grown (g := gb200) (o := .cells #[.int .u8 a1_0, .int .u8 a1_1, .int .u8 a1_2, .int .u8 a1_3, .int .u8 a1_4, .int .u8 a1_5] 67 (0, 0)) (b_ BK200) hg (Kd.R_ne HO_18.out BK200.out (by decide))); have n5_ := Aside0.mk (blk_grown (g := gb209) (o := .cells #[.int .i64 t201, .int .i64 t202, .int .i64 t203, .int .i64 t204, .int .i64 t205] 23 (0, 0)) (b_ BK209) hg (Kd.R_ne HO_18.out BK209.out (by decide))); have n6_ := Aside0.mk (hb); have n7_ := Aside0.mk (ho); clear HO_8; clear HO_9; clear HO_11; clear BK199; clear BK200; clear BK209; clear HB; clear HO_18; have HO_8 := n0_; have HO_9 := n1_; have HO_11 := n2_; have BK199 := n3_; have BK200 := n4_; have BK209 := n5_; have HB := n6_; have HO242 := n7_; clear n0_ n1_ n2_ n3_ n4_ n5_ n6_ n7_; clear ho hb hg hat))
      go_roundg k3
      case measure => have := HJ8.out; have := HK2.out; have := HK3.out; omega
      case rel => exact ⟨(y240), (wrap64 (x21_3 + 1)), (by first | rfl | (simp; done) | (simp [*]; done)), H', ⟨by have := HJ8.out; have := HK2.out; have := HK3.out; omega⟩, ⟨R_ HO_8⟩, ⟨R_ HO_9⟩, ⟨R_ HO_11⟩, ⟨R_ HO242⟩, ⟨b_ BK199⟩, ⟨b_ BK200⟩, ⟨b_ BK209⟩, ⟨by repeat (first | (with_reducible first | exact HB.out | apply below_alloc | apply pw_below_drewN | apply below_drew1 | refine below_set ?_ GE199.out | refine below_set ?_ GE200.out | refine below_set ?_ GE209.out) | exact HB.out)⟩⟩
     rw [if_neg c69] at H
     exact absurd H (by simp)
    rw [if_neg c68] at H
    exact absurd H (by simp)
   rw [if_neg c67] at H
   exact absurd H (by simp)
  rw [if_neg c66] at H
  have c66b0 : decide (x21_3 < (t206.length : Int)) = false := decide_eq_false c66
  clear c66
  have H' := Aside0.mk H
  clear H
  go_wp2
  go_loopg [19, 20, 22] k3 (fun kq v19 v20 v22 w' => ∃ (x19_4 : Bool) (x20_4 : Int) (x22_4 : Int), v19 = .bool x19_4 ∧ v20 = .int .i64 x20_4 ∧ v22 = .int .i64 x22_4 ∧ Aside0 (lF.l3 kq a2 t206 t213 t216 t220 x18_3 x19_4 x20_4 x22_4 t201 t202 t203 t204 t205 = some r) ∧ Aside0 (kq ≤ k3) ∧ Aside0 (Kd.R k74 74 w' w.heap.size (fun _ => True) (.slice Ao21 t206.length co21) t206) ∧ Aside0 (Kd.R (Kd.int .i64) 3 w' w.heap.size (fun k_ => some k_ ≠ ((.slice Ao63 t220.length co63) : Value).ownBlock ∧ some k_ ≠ (u18 : Value).ownBlock) v214 t213) ∧ Aside0 (Kd.R (Kd.int .i64) 3 w' w.heap.size (fun k_ => some k_ ≠ (v214 : Value).ownBlock ∧ some k_ ≠ (u18 : Value).ownBlock) (.slice Ao63 t220.length co63) t220) ∧ Aside0 (Kd.R (Kd.int .i64) 3 w' w.heap.size (fun k_ => some k_ ≠ (v214 : Value).ownBlock ∧ some k_ ≠ ((.slice Ao63 t220.length co63) : Value).ownBlock) u18 x18_3) ∧ Aside0 (w'.heap[gb199]? = some (.cells #[.int .u8 a0_0, .int .u8 a0_1, .int .u8 a0_2, .int .u8 a0_3, .int .u8 a0_4, (.slice A0_5 l0_5.length c0_5)] 66 (0, 0))) ∧ Aside0 (w'.heap[gb200]? = some (.cells #[.int .u8 a1_0, .int .u8 a1_1, .int .u8 a1_2, .int .u8 a1_3, .int .u8 a1_4, .int .u8 a1_5] 67 (0, 0))) ∧ Aside0 (w'.heap[gb209]? = some (.cells #[.int .i64 t201, .int .i64 t202, .int .i64 t203, .int .i64 t204, .int .i64 t205] 23 (0, 0))) ∧ Aside0 (Below w.heap.size w w'))
  case atStart => exact ⟨(true), (0), (0), (by first | rfl | (simp; done) | (simp [*]; done)), (by first | rfl | (simp; done) | (simp [*]; done)), (by first | rfl | (simp; done) | (simp [*]; done)), H', ⟨Nat.le_refl _⟩, ⟨R_ HO_8⟩, ⟨R_ HO_9⟩, ⟨R_ HO_11⟩, ⟨R_ HO_18⟩, ⟨b_ BK199⟩, ⟨b_ BK200⟩, ⟨b_ BK209⟩, ⟨by repeat (first | (with_reducible first | exact HB.out | apply below_alloc | apply pw_below_drewN | apply below_drew1 | refine below_set ?_ GE199.out | refine below_set ?_ GE200.out | refine below_set ?_ GE209.out) | exact HB.out)⟩⟩
  case round =>
   clear H'
   try clear c1
   try clear p2
   try clear q2
   try clear hx2
   try clear c3
   try clear c4
   try clear c6
   try clear p6
   try clear c7
   try clear c17
   try clear p22
   try clear q22
   try clear hx22
   try clear p23
   try clear q23
   try clear hx23
   try clear c37
   try clear c37b0
   try clear c39
   try clear c39b0
   try clear c41
   try clear c42
   try clear c43
   try clear c44
   try clear c46
   try clear p64
   try clear c66
   try clear c66b0
   try clear c67
   try clear c67b0
   try clear c68
   try clear c68b0
   try clear c69
   try clear c70
   try clear c71
   try clear hcz72_0
   try clear hcz72_1
   try clear hcz72_2
   try clear hcz72_3
   try clear hcz72_4
   try clear hcz72_5
   try clear hfz72_0
   try clear hfz72_1
   try clear hfz72_2
   try clear hfz72_3
   try clear hfz72_4
   try clear hfz72_5
   try clear hx228_0
   try clear hx229_0
   try clear hx239_0
   try clear p2
   try clear p22
   try clear p228
   try clear p229
   try clear p239
   try clear p6
   try clear p64
   try clear q2
   try clear q22
   try clear q228
   try clear q229
   try clear q239
   obtain ⟨x19_4, x20_4, x22_4, rfl, rfl, rfl, HA, HK4, HO_8, HO_9, HO_11, HO_18, BK199, BK200, BK209, HB⟩ := hrel
   rcases gk with _ | k4
   ·exact absurd HA.out (by simp [lF.l3])
   have H := HA.out
   clear HA
   simp only [lF.l3] at H
   by_cases c74 : x22_4 < 6
   ·rw [if_pos c74] at H
    have c74b0 : decide (x22_4 < 6) = true := decide_eq_true c74
    clear c74
    replace H := Option.bind_eq_some_iff.mp H
    obtain ⟨t243, A750, H⟩ := H
    replace H : ((smaltolaw03_own.f t206).bind fun t246 => ((goesC.f t201 t202 t203 t204 t205 t246 t243).bind fun bt249 => (if x19_4 = true then (if (t243.length : Int) > 0 then (lF.l3 k4 a2 t206 t213 t216 t220 x18_3 bt249.1 (wrap64 (x20_4 + 1)) (wrap64 (x22_4 + 1)) t201 t202 t203 t204 t205) else (lF.l3 k4 a2 t206 t213 t216 t220 x18_3 bt249.1 x20_4 (wrap64 (x22_4 + 1)) t201 t202 t203 t204 t205)) else (if (t243.length : Int) > 0 then (lF.l3 k4 a2 t206 t213 t216 t220 x18_3 false (wrap64 (x20_4 + 1)) (wrap64 (x22_4 + 1)) t201 t202 t203 t204 t205) else (lF.l3 k4 a2 t206 t213 t216 t220 x18_3 false x20_4 (wrap64 (x22_4 + 1)) t201 t202 t203 t204 t205))))) = some r := H
    have A75 := Aside0.mk A750
    clear A750
    replace H := Option.bind_eq_some_iff.mp H
    obtain ⟨t246, A760, H⟩ := H
    replace H : ((goesC.f t201 t202 t203 t204 t205 t246 t243).bind fun bt249 => (if x19_4 = true then (if (t243.length : Int) > 0 then (lF.l3 k4 a2 t206 t213 t216 t220 x18_3 bt249.1 (wrap64 (x20_4 + 1)) (wrap64 (x22_4 + 1)) t201 t202 t203 t204 t205) else (lF.l3 k4 a2 t206 t213 t216 t220 x18_3 bt249.1 x20_4 (wrap64 (x22_4 + 1)) t201 t202 t203 t204 t205)) else (if (t243.length : Int) > 0 then (lF.l3 k4 a2 t206 t213 t216 t220 x18_3 false (wrap64 (x20_4 + 1)) (wrap64 (x22_4 + 1)) t201 t202 t203 t204 t205) else (lF.l3 k4 a2 t206 t213 t216 t220 x18_3 false x20_4 (wrap64 (x22_4 + 1)) t201 t202 t203 t204 t205)))) = some r := H
    have A76 := Aside0.mk A760
    clear A760
    replace H := Option.bind_eq_some_iff.mp H
    obtain ⟨⟨t249, t250⟩, A770, H⟩ := H
    replace H : (if x19_4 = true then (if (t243.length : Int) > 0 then (lF.l3 k4 a2 t206 t213 t216 t220 x18_3 t249 (wrap64 (x20_4 + 1)) (wrap64 (x22_4 + 1)) t201 t202 t203 t204 t205) else (lF.l3 k4 a2 t206 t213 t216 t220 x18_3 t249 x20_4 (wrap64 (x22_4 + 1)) t201 t202 t203 t204 t205)) else (if (t243.length : Int) > 0 then (lF.l3 k4 a2 t206 t213 t216 t220 x18_3 false (wrap64 (x20_4 + 1)) (wrap64 (x22_4 + 1)) t201 t202 t203 t204 t205) else (lF.l3 k4 a2 t206 t213 t216 t220 x18_3 false x20_4 (wrap64 (x22_4 + 1)) t201 t202 t203 t204 t205))) = some r := H
    have A77 := Aside0.mk A770
    clear A770
    by_cases c78 : x19_4 = true
    ·subst c78
     have H1 : (if (t243.length : Int) > 0 then (lF.l3 k4 a2 t206 t213 t216 t220 x18_3 t249 (wrap64 (x20_4 + 1)) (wrap64 (x22_4 + 1)) t201 t202 t203 t204 t205) else (lF.l3 k4 a2 t206 t213 t216 t220 x18_3 t249 x20_4 (wrap64 (x22_4 + 1)) t201 t202 t203 t204 t205)) = some r := by rw [if_pos rfl] at H; exact H
     clear H
     have H := H1
     clear H1
     by_cases c79 : (t243.length : Int) > 0
     ·rw [if_pos c79] at H
      have c79b0 : decide (0 < (t243.length : Int)) = true := decide_eq_true c79
      have c79b1 : decide (0 < t243.length) = true := decide_eq_true (by omega)
      clear c79
      have H' := Aside0.mk H
      clear H
      obtain ⟨Ao80, co80, eo80⟩ := Kd.R_slice HO_18.out
      subst eo80
      try go_wp2_with (first | ((with_reducible refine gate_callee (f := 47) rfl ?_); refine goesL_ (some 135) rfl rfl Tryd.func47 (by kernel_rfl) rfl #[.slice Ao80 x18_3.length co80, .int .i64 x22_4] rfl (by (try simp only [List.map_toArray, List.map_cons, List.map_nil]); first | done | rfl | (simp only [List.length_drop, List.length_take]; rfl)) ?_; (with_reducible refine (smaltolaw03_of.calls k4 _ _ x18_3 x22_4 t243 _ ?side1 ?side2 A75.out).mono ?_); (case side1 => repeat (first | exact (Kd.R_reads' HO_18.out).2.2 | (with_reducible refine Kd.C_alloc ?_ _) | (with_reducible refine Kd.C_drewN ?_ _) | (with_reducible refine Kd.C_drew ?_))); (case side2 => exact (Kd.R_reads' HO_18.out).2.1); rintro e w81 ⟨v244, rfl, ho0, hb⟩; refine ⟨_, rfl, ?_⟩; have n0_ := Aside0.mk (Kd.R_below (R_ HO_8) hb); have n1_ := Aside0.mk (Kd.R_elder' (R_ HO_9) (Kd.R_base ho0) hb); have n2_ := Aside0.mk (Kd.R_elder' (R_ HO_11) (Kd.R_base ho0) hb); have n3_ := Aside0.mk (Kd.R_elder' (R_ HO_18) (Kd.R_base ho0) hb); have n4_ := Aside0.mk (Kd.R_lower (Kd.R_new' (Kd.R_new' (Kd.R_new' ho0 (Kd.R_lt (R_ HO_9))) (Kd.R_lt (R_ HO_11))) (Kd.R_lt (R_ HO_18))) (below_size (by repeat (first | (with_reducible first | exact HB.out | apply below_alloc | apply pw_below_drewN | apply below_drew1 | refine below_set ?_ GE199.out | refine below_set ?_ GE200.out | refine below_set ?_ GE209.out) | exact HB.out)))); have n5_ := Aside0.mk (blk_below (g := gb199) (o := .cells #[.int .u8 a0_0, .int .u8 a0_1, .int .u8 a0_2, .int .u8 a0_3, .int .u8 a0_4, .slice A0_5 l0_5.length c0_5] 66 (0, 0)) (b_ BK199) hb); have n6_ := Aside0.mk (blk_below (g := gb200) (o := .cells #[.int .u8 a1_0, .int .u8 a1_1, .int .u8 a1_2, .int .u8 a1_3, .int .u8 a1_4, .int .u8 a1_5] 67 (0, 0)) (b_ BK200) hb); have n7_ := Aside0.mk (blk_below (g := gb209) (o := .cells #[.int .i64 t201, .int .i64 t202, .int .i64 t203, .int .i64 t204, .int .i64 t205] 23 (0, 0)) (b_ BK209) hb); have n8_ := Aside0.mk (below_step (by repeat (first | (with_reducible first | exact HB.out | apply below_alloc | apply pw_below_drewN | apply below_drew1 | refine below_set ?_ GE199.out | refine below_set ?_ GE200.out | refine below_set ?_ GE209.out) | exact HB.out)) hb); clear HO_8; clear HO_9; clear HO_11; clear HO_18; clear BK199; clear BK200; clear BK209; clear HB; have HO_8 := n0_; have HO_9 := n1_; have HO_11 := n2_; have HO_18 := n3_; have HO245 := n4_; have BK199 := n5_; have BK200 := n6_; have BK209 := n7_; have HB := n8_; clear n0_ n1_ n2_ n3_ n4_ n5_ n6_ n7_ n8_; (try clear hb); (try clear hb2); (try clear hk); (try clear hi); (try clear ho0)))
      have n0_ := Aside0.mk (Kd.R_drew HO_8.out)
      have n1_ := Aside0.mk (Kd.R_drew HO_9.out)
      have n2_ := Aside0.mk (Kd.R_drew HO_11.out)
      have n3_ := Aside0.mk (Kd.R_drew HO_18.out)
      have n4_ := Aside0.mk (Kd.R_drew HO245.out)
      have n5_ := Aside0.mk (blk_drew BK199.out)
      have n6_ := Aside0.mk (blk_drew BK200.out)
      have n7_ := Aside0.mk (blk_drew BK209.out)
      have n8_ := Aside0.mk (below_drew1 HB.out)
      clear HO_8
      clear HO_9
      clear HO_11
      clear HO_18
      clear HO245
      clear BK199
      clear BK200
      clear BK209
      clear HB
      have HO_8 := n0_
      have HO_9 := n1_
      have HO_11 := n2_
      have HO_18 := n3_
      have HO245 := n4_
      have BK199 := n5_
      have BK200 := n6_
      have BK209 := n7_
      have HB := n8_
      clear n0_ n1_ n2_ n3_ n4_ n5_ n6_ n7_ n8_
      refine start_ (n := 12) (S := fun w' => w'.cell? ⟨gb209, 0, none⟩ = some (.int .i64 t201) ∧ w'.cell? ⟨gb209, 1, none⟩ = some (.int .i64 t202) ∧ w'.cell? ⟨gb209, 2, none⟩ = some (.int .i64 t203) ∧ w'.cell? ⟨gb209, 3, none⟩ = some (.int .i64 t204) ∧ w'.cell? ⟨gb209, 4, none⟩ = some (.int .i64 t205)) (ds := []) (bl 12 0) (by kernel_rfl) rfl rfl ⟨(blk_cell BK209.out 0).trans rfl, (blk_cell BK209.out 1).trans rfl, (blk_cell BK209.out 2).trans rfl, (blk_cell BK209.out 3).trans rfl, (blk_cell BK209.out 4).trans rfl⟩ (fun hHeld => ?_); refine with_tabW lF.tab24 lF.bits24 (fun HT_ HW_ => ?_)
      generalize w81.drew = w82 at HO_8 HO_9 HO_11 HO_18 HO245 BK199 BK200 BK209 HB hHeld ⊢
      refine pq 1 (some 138) (bl 12 2) HT_ (h := ?_)
      refine pq 3 (some 140) (bl 12 10) HT_ (h := ?_)
      refine tq 0 (some 137) (bl 12 11) HT_ HW_ hHeld (h := ?_)
      refine one_ (i := 2) (N := some 139) (bl 12 15) rfl rfl (one_of HT_.out (by kernel_rfl)) (by decide) (fun K hK => ?_)
      refine goes_ Tryd.func43 (by kernel_rfl) rfl #[.slice Ao21 t206.length co21] (by rfl) rfl rfl (by (try simp only [List.map_toArray, List.map_cons, List.map_nil]); first | done | rfl | (simp only [List.length_drop, List.length_take]; rfl)) ?_
      with_reducible refine (smaltolaw03_own.calls _ _ t206 t246 _ ?side1 ?side2 A76.out).mono ?_
      (case side1 => repeat (first | exact (Kd.R_reads' HO_8.out).2.2 | (with_reducible refine Kd.C_alloc ?_ _) | (with_reducible refine Kd.C_drewN ?_ _) | (with_reducible refine Kd.C_drew ?_)))
      (case side2 => exact (Kd.R_reads' HO_8.out).2.1)
      rintro e w83 ⟨v247, rfl, ho0, hb⟩
      refine ⟨_, rfl, ?_⟩
      have n0_ := Aside0.mk (Kd.R_elder' (R_ HO_8) (Kd.R_base ho0) hb)
      have n1_ := Aside0.mk (Kd.R_below (R_ HO_9) hb)
      have n2_ := Aside0.mk (Kd.R_below (R_ HO_11) hb)
      have n3_ := Aside0.mk (Kd.R_below (R_ HO_18) hb)
      have n4_ := Aside0.mk (Kd.R_below (R_ HO245) hb)
      have n5_ := Aside0.mk (Kd.R_lower (Kd.R_new' ho0 (Kd.R_lt (R_ HO_8))) (below_size (by repeat (first | (with_reducible first | exact HB.out | apply below_alloc | apply pw_below_drewN | apply below_drew1 | refine below_set ?_ GE199.out | refine below_set ?_ GE200.out | refine below_set ?_ GE209.out) | exact HB.out))))
      have n6_ := Aside0.mk (blk_below (g := gb199) (o := .cells #[.int .u8 a0_0, .int .u8 a0_1, .int .u8 a0_2, .int .u8 a0_3, .int .u8 a0_4, .slice A0_5 l0_5.length c0_5] 66 (0, 0)) (b_ BK199) hb)
      have n7_ := Aside0.mk (blk_below (g := gb200) (o := .cells #[.int .u8 a1_0, .int .u8 a1_1, .int .u8 a1_2, .int .u8 a1_3, .int .u8 a1_4, .int .u8 a1_5] 67 (0, 0)) (b_ BK200) hb)
      have n8_ := Aside0.mk (blk_below (g := gb209) (o := .cells #[.int .i64 t201, .int .i64 t202, .int .i64 t203, .int .i64 t204, .int .i64 t205] 23 (0, 0)) (b_ BK209) hb)
      have n9_ := Aside0.mk (below_step (by repeat (first | (with_reducible first | exact HB.out | apply below_alloc | apply pw_below_drewN | apply below_drew1 | refine below_set ?_ GE199.out | refine below_set ?_ GE200.out | refine below_set ?_ GE209.out) | exact HB.out)) hb)
      clear HO_8
      clear HO_9
      clear HO_11
      clear HO_18
      clear HO245
      clear BK199
      clear BK200
      clear BK209
      clear HB
      have HO_8 := n0_
      have HO_9 := n1_
      have HO_11 := n2_
      have HO_18 := n3_
      have HO245 := n4_
      have HO248 := n5_
      have BK199 := n6_
      have BK200 := n7_
      have BK209 := n8_
      have HB := n9_
      clear n0_ n1_ n2_ n3_ n4_ n5_ n6_ n7_ n8_ n9_
      (try clear hb)
      (try clear hb2)
      (try clear hk)
      (try clear hi)
      (try clear ho0)
      obtain ⟨Ao84, co84, eo84⟩ := Kd.R_slice HO248.out
      (first | subst eo84 | (injection eo84 with f1_ f2_ f3_; have f4_ := f1_.symm; have f5_ := f3_.symm; clear f1_ f2_ f3_; subst f4_; subst f5_))
      obtain ⟨Ao85, co85, eo85⟩ := Kd.R_slice HO245.out
      (first | subst eo85 | (injection eo85 with f1_ f2_ f3_; have f4_ := f1_.symm; have f5_ := f3_.symm; clear f1_ f2_ f3_; subst f4_; subst f5_))
      refine hK.out _ _ ⟨(blk_cell BK209.out 0).trans rfl, (blk_cell BK209.out 1).trans rfl, (blk_cell BK209.out 2).trans rfl, (blk_cell BK209.out 3).trans rfl, (blk_cell BK209.out 4).trans rfl⟩ (fun hHeld => ?_)
      clear hK K
      refine nq 139 ?_
      refine one_ (i := 4) (N := some 141) (bl 12 31) rfl rfl (one_of HT_.out (by kernel_rfl)) (by decide) (fun K hK => ?_)
      refine goes_ Tryd.func17 (by kernel_rfl) rfl #[.agg #[.int .i64 t201, .int .i64 t202, .int .i64 t203, .int .i64 t204, .int .i64 t205], .slice Ao84 t246.length co84, .slice Ao85 t243.length co85] (by rfl) rfl rfl (by (try simp only [List.map_toArray, List.map_cons, List.map_nil]); first | done | rfl | (simp only [List.length_drop, List.length_take]; rfl)) ?_
      with_reducible refine (goesC.calls t201 t202 t203 t204 t205 _ _ t246 _ _ t243 t249 t250 _ ?side5 ?side1 ?side2 ?side3 ?side4 A77.out).mono ?_
      (case side1 => repeat (first | exact (Kd.R_reads' HO248.out).2.2 | (with_reducible refine Kd.C_alloc ?_ _) | (with_reducible refine Kd.C_drewN ?_ _) | (with_reducible refine Kd.C_drew ?_)))
      (case side2 => exact (Kd.R_reads' HO248.out).2.1)
      (case side3 => repeat (first | exact (Kd.R_reads' HO245.out).2.2 | (with_reducible refine Kd.C_alloc ?_ _) | (with_reducible refine Kd.C_drewN ?_ _) | (with_reducible refine Kd.C_drew ?_)))
      (case side4 => exact (Kd.R_reads' HO245.out).2.1)
      (case side5 => exact Hand.TabW.below HTAB.out (by repeat (first | (with_reducible first | exact HB.out | apply below_alloc | apply pw_below_drewN | apply below_drew1 | refine below_set ?_ GE199.out | refine below_set ?_ GE200.out | refine below_set ?_ GE209.out) | exact HB.out)))
      rintro e w86 ⟨rfl, hb⟩
      refine ⟨_, rfl, ?_⟩
      have n0_ := Aside0.mk (Kd.R_below (R_ HO_8) hb)
      have n1_ := Aside0.mk (Kd.R_below (R_ HO_9) hb)
      have n2_ := Aside0.mk (Kd.R_below (R_ HO_11) hb)
      have n3_ := Aside0.mk (Kd.R_below (R_ HO_18) hb)
      have n4_ := Aside0.mk (Kd.R_below (R_ HO245) hb)
      have n5_ := Aside0.mk (Kd.R_below (R_ HO248) hb)
      have n6_ := Aside0.mk (blk_below (g := gb199) (o := .cells #[.int .u8 a0_0, .int .u8 a0_1, .int .u8 a0_2, .int .u8 a0_3, .int .u8 a0_4, .slice A0_5 l0_5.length c0_5] 66 (0, 0)) (b_ BK199) hb)
      have n7_ := Aside0.mk (blk_below (g := gb200) (o := .cells #[.int .u8 a1_0, .int .u8 a1_1, .int .u8 a1_2, .int .u8 a1_3, .int .u8 a1_4, .int .u8 a1_5] 67 (0, 0)) (b_ BK200) hb)
      have n8_ := Aside0.mk (blk_below (g := gb209) (o := .cells #[.int .i64 t201, .int .i64 t202, .int .i64 t203, .int .i64 t204, .int .i64 t205] 23 (0, 0)) (b_ BK209) hb)
      have n9_ := Aside0.mk (below_step (by repeat (first | (with_reducible first | exact HB.out | apply below_alloc | apply pw_below_drewN | apply below_drew1 | refine below_set ?_ GE199.out | refine below_set ?_ GE200.out | refine below_set ?_ GE209.out) | exact HB.out)) hb)
      clear HO_8
      clear HO_9
      clear HO_11
      clear HO_18
      clear HO245
      clear HO248
      clear BK199
      clear BK200
      clear BK209
      clear HB
      have HO_8 := n0_
      have HO_9 := n1_
      have HO_11 := n2_
      have HO_18 := n3_
      have HO245 := n4_
      have HO248 := n5_
      have BK199 := n6_
      have BK200 := n7_
      have BK209 := n8_
      have HB := n9_
      clear n0_ n1_ n2_ n3_ n4_ n5_ n6_ n7_ n8_ n9_
      (try clear hb)
      (try clear hb2)
      (try clear hk)
      (try clear hi)
      refine hK.out _ _ ⟨(blk_cell BK209.out 0).trans rfl, (blk_cell BK209.out 1).trans rfl, (blk_cell BK209.out 2).trans rfl, (blk_cell BK209.out 3).trans rfl, (blk_cell BK209.out 4).trans rfl⟩ (fun hHeld => ?_)
      clear hK K
      refine nq 141 ?_
      refine pq 5 (some 136) (bl 12 63) HT_ (h := ?_)
      refine pq 6 (some 142) (bl 12 127) HT_ (h := ?_)
      refine pq 7 (some 143) (bl 12 255) HT_ (h := ?_)
      refine pq 8 (some 144) (bl 12 511) HT_ (h := ?_)
      refine pq 9 (some 24) (bl 12 1023) HT_ (h := ?_)
      refine pq 10 (some 25) (bl 12 2047) HT_ (h := ?_)
      refine pq 11 (some 26) (bl 12 4095) HT_ (h := ?_)
      refine done_ (done_of HT_.out (by kernel_rfl)) ?_
      try go_wp2
      go_roundg k4
      case measure => have := HJ8.out; have := HK2.out; have := HK3.out; have := HK4.out; omega
      case rel => exact ⟨(t249), (wrap64 (x20_4 + 1)), (wrap64 (x22_4 + 1)), (by first | rfl | (simp; done) | (simp [*]; done)), (by first | rfl | (simp; done) | (simp [*]; done)), (by first | rfl | (simp; done) | (simp [*]; done)), H', ⟨by have := HJ8.out; have := HK2.out; have := HK3.out; have := HK4.out; omega⟩, ⟨Kd.R_mono (R_ HO_8) (fun _ hk => trivial)⟩, ⟨Kd.R_mono (R_ HO_9) (fun _ hk => ⟨hk.1.1, hk.1.2⟩)⟩, ⟨Kd.R_mono (R_ HO_11) (fun _ hk => ⟨hk.1.1, hk.1.2⟩)⟩, ⟨Kd.R_mono (R_ HO_18) (fun _ hk => ⟨hk.1.1, hk.1.2⟩)⟩, ⟨b_ BK199⟩, ⟨b_ BK200⟩, ⟨b_ BK209⟩, ⟨by repeat (first | (with_reducible first | exact HB.out | apply below_alloc | apply pw_below_drewN | apply below_drew1 | refine below_set ?_ GE199.out | refine below_set ?_ GE200.out | refine below_set ?_ GE209.out) | exact HB.out)⟩⟩
     rw [if_neg c79] at H
     have c79b0 : decide (0 < (t243.length : Int)) = false := decide_eq_false c79
     have c79b1 : decide (0 < t243.length) = false := decide_eq_false (by omega)
     clear c79
     have H' := Aside0.mk H
     clear H
     obtain ⟨Ao87, co87, eo87⟩ := Kd.R_slice HO_18.out
     subst eo87
     try go_wp2_with (first | ((with_reducible refine gate_callee (f := 47) rfl ?_); refine goesL_ (some 135) rfl rfl Tryd.func47 (by kernel_rfl) rfl #[.slice Ao87 x18_3.length co87, .int .i64 x22_4] rfl (by (try simp only [List.map_toArray, List.map_cons, List.map_nil]); first | done | rfl | (simp only [List.length_drop, List.length_take]; rfl)) ?_; (with_reducible refine (smaltolaw03_of.calls k4 _ _ x18_3 x22_4 t243 _ ?side1 ?side2 A75.out).mono ?_); (case side1 => repeat (first | exact (Kd.R_reads' HO_18.out).2.2 | (with_reducible refine Kd.C_alloc ?_ _) | (with_reducible refine Kd.C_drewN ?_ _) | (with_reducible refine Kd.C_drew ?_))); (case side2 => exact (Kd.R_reads' HO_18.out).2.1); rintro e w88 ⟨v244, rfl, ho0, hb⟩; refine ⟨_, rfl, ?_⟩; have n0_ := Aside0.mk (Kd.R_below (R_ HO_8) hb); have n1_ := Aside0.mk (Kd.R_elder' (R_ HO_9) (Kd.R_base ho0) hb); have n2_ := Aside0.mk (Kd.R_elder' (R_ HO_11) (Kd.R_base ho0) hb); have n3_ := Aside0.mk (Kd.R_elder' (R_ HO_18) (Kd.R_base ho0) hb); have n4_ := Aside0.mk (Kd.R_lower (Kd.R_new' (Kd.R_new' (Kd.R_new' ho0 (Kd.R_lt (R_ HO_9))) (Kd.R_lt (R_ HO_11))) (Kd.R_lt (R_ HO_18))) (below_size (by repeat (first | (with_reducible first | exact HB.out | apply below_alloc | apply pw_below_drewN | apply below_drew1 | refine below_set ?_ GE199.out | refine below_set ?_ GE200.out | refine below_set ?_ GE209.out) | exact HB.out)))); have n5_ := Aside0.mk (blk_below (g := gb199) (o := .cells #[.int .u8 a0_0, .int .u8 a0_1, .int .u8 a0_2, .int .u8 a0_3, .int .u8 a0_4, .slice A0_5 l0_5.length c0_5] 66 (0, 0)) (b_ BK199) hb); have n6_ := Aside0.mk (blk_below (g := gb200) (o := .cells #[.int .u8 a1_0, .int .u8 a1_1, .int .u8 a1_2, .int .u8 a1_3, .int .u8 a1_4, .int .u8 a1_5] 67 (0, 0)) (b_ BK200) hb); have n7_ := Aside0.mk (blk_below (g := gb209) (o := .cells #[.int .i64 t201, .int .i64 t202, .int .i64 t203, .int .i64 t204, .int .i64 t205] 23 (0, 0)) (b_ BK209) hb); have n8_ := Aside0.mk (below_step (by repeat (first | (with_reducible first | exact HB.out | apply below_alloc | apply pw_below_drewN | apply below_drew1 | refine below_set ?_ GE199.out | refine below_set ?_ GE200.out | refine below_set ?_ GE209.out) | exact HB.out)) hb); clear HO_8; clear HO_9; clear HO_11; clear HO_18; clear BK199; clear BK200; clear BK209; clear HB; have HO_8 := n0_; have HO_9 := n1_; have HO_11 := n2_; have HO_18 := n3_; have HO245 := n4_; have BK199 := n5_; have BK200 := n6_; have BK209 := n7_; have HB := n8_; clear n0_ n1_ n2_ n3_ n4_ n5_ n6_ n7_ n8_; (try clear hb); (try clear hb2); (try clear hk); (try clear hi); (try clear ho0)))
     have n0_ := Aside0.mk (Kd.R_drew HO_8.out)
     have n1_ := Aside0.mk (Kd.R_drew HO_9.out)
     have n2_ := Aside0.mk (Kd.R_drew HO_11.out)
     have n3_ := Aside0.mk (Kd.R_drew HO_18.out)
     have n4_ := Aside0.mk (Kd.R_drew HO245.out)
     have n5_ := Aside0.mk (blk_drew BK199.out)
     have n6_ := Aside0.mk (blk_drew BK200.out)
     have n7_ := Aside0.mk (blk_drew BK209.out)
     have n8_ := Aside0.mk (below_drew1 HB.out)
     clear HO_8
     clear HO_9
     clear HO_11
     clear HO_18
     clear HO245
     clear BK199
     clear BK200
     clear BK209
     clear HB
     have HO_8 := n0_
     have HO_9 := n1_
     have HO_11 := n2_
     have HO_18 := n3_
     have HO245 := n4_
     have BK199 := n5_
     have BK200 := n6_
     have BK209 := n7_
     have HB := n8_
     clear n0_ n1_ n2_ n3_ n4_ n5_ n6_ n7_ n8_
     refine start_ (n := 12) (S := fun w' => w'.cell? ⟨gb209, 0, none⟩ = some (.int .i64 t201) ∧ w'.cell? ⟨gb209, 1, none⟩ = some (.int .i64 t202) ∧ w'.cell? ⟨gb209, 2, none⟩ = some (.int .i64 t203) ∧ w'.cell? ⟨gb209, 3, none⟩ = some (.int .i64 t204) ∧ w'.cell? ⟨gb209, 4, none⟩ = some (.int .i64 t205)) (ds := []) (bl 12 0) (by kernel_rfl) rfl rfl ⟨(blk_cell BK209.out 0).trans rfl, (blk_cell BK209.out 1).trans rfl, (blk_cell BK209.out 2).trans rfl, (blk_cell BK209.out 3).trans rfl, (blk_cell BK209.out 4).trans rfl⟩ (fun hHeld => ?_); refine with_tabW lF.tab24 lF.bits24 (fun HT_ HW_ => ?_)
     generalize w88.drew = w89 at HO_8 HO_9 HO_11 HO_18 HO245 BK199 BK200 BK209 HB hHeld ⊢
     refine pq 1 (some 138) (bl 12 2) HT_ (h := ?_)
     refine pq 3 (some 140) (bl 12 10) HT_ (h := ?_)
     refine tq 0 (some 137) (bl 12 11) HT_ HW_ hHeld (h := ?_)
     refine one_ (i := 2) (N := some 139) (bl 12 15) rfl rfl (one_of HT_.out (by kernel_rfl)) (by decide) (fun K hK => ?_)
     refine goes_ Tryd.func43 (by kernel_rfl) rfl #[.slice Ao21 t206.length co21] (by rfl) rfl rfl (by (try simp only [List.map_toArray, List.map_cons, List.map_nil]); first | done | rfl | (simp only [List.length_drop, List.length_take]; rfl)) ?_
     with_reducible refine (smaltolaw03_own.calls _ _ t206 t246 _ ?side1 ?side2 A76.out).mono ?_
     (case side1 => repeat (first | exact (Kd.R_reads' HO_8.out).2.2 | (with_reducible refine Kd.C_alloc ?_ _) | (with_reducible refine Kd.C_drewN ?_ _) | (with_reducible refine Kd.C_drew ?_)))
     (case side2 => exact (Kd.R_reads' HO_8.out).2.1)
     rintro e w90 ⟨v247, rfl, ho0, hb⟩
     refine ⟨_, rfl, ?_⟩
     have n0_ := Aside0.mk (Kd.R_elder' (R_ HO_8) (Kd.R_base ho0) hb)
     have n1_ := Aside0.mk (Kd.R_below (R_ HO_9) hb)
     have n2_ := Aside0.mk (Kd.R_below (R_ HO_11) hb)
     have n3_ := Aside0.mk (Kd.R_below (R_ HO_18) hb)
     have n4_ := Aside0.mk (Kd.R_below (R_ HO245) hb)
     have n5_ := Aside0.mk (Kd.R_lower (Kd.R_new' ho0 (Kd.R_lt (R_ HO_8))) (below_size (by repeat (first | (with_reducible first | exact HB.out | apply below_alloc | apply pw_below_drewN | apply below_drew1 | refine below_set ?_ GE199.out | refine below_set ?_ GE200.out | refine below_set ?_ GE209.out) | exact HB.out))))
     have n6_ := Aside0.mk (blk_below (g := gb199) (o := .cells #[.int .u8 a0_0, .int .u8 a0_1, .int .u8 a0_2, .int .u8 a0_3, .int .u8 a0_4, .slice A0_5 l0_5.length c0_5] 66 (0, 0)) (b_ BK199) hb)
     have n7_ := Aside0.mk (blk_below (g := gb200) (o := .cells #[.int .u8 a1_0, .int .u8 a1_1, .int .u8 a1_2, .int .u8 a1_3, .int .u8 a1_4, .int .u8 a1_5] 67 (0, 0)) (b_ BK200) hb)
     have n8_ := Aside0.mk (blk_below (g := gb209) (o := .cells #[.int .i64 t201, .int .i64 t202, .int .i64 t203, .int .i64 t204, .int .i64 t205] 23 (0, 0)) (b_ BK209) hb)
     have n9_ := Aside0.mk (below_step (by repeat (first | (with_reducible first | exact HB.out | apply below_alloc | apply pw_below_drewN | apply below_drew1 | refine below_set ?_ GE199.out | refine below_set ?_ GE200.out | refine below_set ?_ GE209.out) | exact HB.out)) hb)
     clear HO_8
     clear HO_9
     clear HO_11
     clear HO_18
     clear HO245
     clear BK199
     clear BK200
     clear BK209
     clear HB
     have HO_8 := n0_
     have HO_9 := n1_
     have HO_11 := n2_
     have HO_18 := n3_
     have HO245 := n4_
     have HO248 := n5_
     have BK199 := n6_
     have BK200 := n7_
     have BK209 := n8_
     have HB := n9_
     clear n0_ n1_ n2_ n3_ n4_ n5_ n6_ n7_ n8_ n9_
     (try clear hb)
     (try clear hb2)
     (try clear hk)
     (try clear hi)
     (try clear ho0)
     obtain ⟨Ao91, co91, eo91⟩ := Kd.R_slice HO248.out
     (first | subst eo91 | (injection eo91 with f1_ f2_ f3_; have f4_ := f1_.symm; have f5_ := f3_.symm; clear f1_ f2_ f3_; subst f4_; subst f5_))
     obtain ⟨Ao92, co92, eo92⟩ := Kd.R_slice HO245.out
     (first | subst eo92 | (injection eo92 with f1_ f2_ f3_; have f4_ := f1_.symm; have f5_ := f3_.symm; clear f1_ f2_ f3_; subst f4_; subst f5_))
     refine hK.out _ _ ⟨(blk_cell BK209.out 0).trans rfl, (blk_cell BK209.out 1).trans rfl, (blk_cell BK209.out 2).trans rfl, (blk_cell BK209.out 3).trans rfl, (blk_cell BK209.out 4).trans rfl⟩ (fun hHeld => ?_)
     clear hK K
     refine nq 139 ?_
     refine one_ (i := 4) (N := some 141) (bl 12 31) rfl rfl (one_of HT_.out (by kernel_rfl)) (by decide) (fun K hK => ?_)
     refine goes_ Tryd.func17 (by kernel_rfl) rfl #[.agg #[.int .i64 t201, .int .i64 t202, .int .i64 t203, .int .i64 t204, .int .i64 t205], .slice Ao91 t246.length co91, .slice Ao92 t243.length co92] (by rfl) rfl rfl (by (try simp only [List.map_toArray, List.map_cons, List.map_nil]); first | done | rfl | (simp only [List.length_drop, List.length_take]; rfl)) ?_
     with_reducible refine (goesC.calls t201 t202 t203 t204 t205 _ _ t246 _ _ t243 t249 t250 _ ?side5 ?side1 ?side2 ?side3 ?side4 A77.out).mono ?_
     (case side1 => repeat (first | exact (Kd.R_reads' HO248.out).2.2 | (with_reducible refine Kd.C_alloc ?_ _) | (with_reducible refine Kd.C_drewN ?_ _) | (with_reducible refine Kd.C_drew ?_)))
     (case side2 => exact (Kd.R_reads' HO248.out).2.1)
     (case side3 => repeat (first | exact (Kd.R_reads' HO245.out).2.2 | (with_reducible refine Kd.C_alloc ?_ _) | (with_reducible refine Kd.C_drewN ?_ _) | (with_reducible refine Kd.C_drew ?_)))
     (case side4 => exact (Kd.R_reads' HO245.out).2.1)
     (case side5 => exact Hand.TabW.below HTAB.out (by repeat (first | (with_reducible first | exact HB.out | apply below_alloc | apply pw_below_drewN | apply below_drew1 | refine below_set ?_ GE199.out | refine below_set ?_ GE200.out | refine below_set ?_ GE209.out) | exact HB.out)))
     rintro e w93 ⟨rfl, hb⟩
     refine ⟨_, rfl, ?_⟩
     have n0_ := Aside0.mk (Kd.R_below (R_ HO_8) hb)
     have n1_ := Aside0.mk (Kd.R_below (R_ HO_9) hb)
     have n2_ := Aside0.mk (Kd.R_below (R_ HO_11) hb)
     have n3_ := Aside0.mk (Kd.R_below (R_ HO_18) hb)
     have n4_ := Aside0.mk (Kd.R_below (R_ HO245) hb)
     have n5_ := Aside0.mk (Kd.R_below (R_ HO248) hb)
     have n6_ := Aside0.mk (blk_below (g := gb199) (o := .cells #[.int .u8 a0_0, .int .u8 a0_1, .int .u8 a0_2, .int .u8 a0_3, .int .u8 a0_4, .slice A0_5 l0_5.length c0_5] 66 (0, 0)) (b_ BK199) hb)
     have n7_ := Aside0.mk (blk_below (g := gb200) (o := .cells #[.int .u8 a1_0, .int .u8 a1_1, .int .u8 a1_2, .int .u8 a1_3, .int .u8 a1_4, .int .u8 a1_5] 67 (0, 0)) (b_ BK200) hb)
     have n8_ := Aside0.mk (blk_below (g := gb209) (o := .cells #[.int .i64 t201, .int .i64 t202, .int .i64 t203, .int .i64 t204, .int .i64 t205] 23 (0, 0)) (b_ BK209) hb)
     have n9_ := Aside0.mk (below_step (by repeat (first | (with_reducible first | exact HB.out | apply below_alloc | apply pw_below_drewN | apply below_drew1 | refine below_set ?_ GE199.out | refine below_set ?_ GE200.out | refine below_set ?_ GE209.out) | exact HB.out)) hb)
     clear HO_8
     clear HO_9
     clear HO_11
     clear HO_18
     clear HO245
     clear HO248
     clear BK199
     clear BK200
     clear BK209
     clear HB
     have HO_8 := n0_
     have HO_9 := n1_
     have HO_11 := n2_
     have HO_18 := n3_
     have HO245 := n4_
     have HO248 := n5_
     have BK199 := n6_
     have BK200 := n7_
     have BK209 := n8_
     have HB := n9_
     clear n0_ n1_ n2_ n3_ n4_ n5_ n6_ n7_ n8_ n9_
     (try clear hb)
     (try clear hb2)
     (try clear hk)
     (try clear hi)
     refine hK.out _ _ ⟨(blk_cell BK209.out 0).trans rfl, (blk_cell BK209.out 1).trans rfl, (blk_cell BK209.out 2).trans rfl, (blk_cell BK209.out 3).trans rfl, (blk_cell BK209.out 4).trans rfl⟩ (fun hHeld => ?_)
     clear hK K
     refine nq 141 ?_
     refine pq 5 (some 136) (bl 12 63) HT_ (h := ?_)
     refine pq 6 (some 142) (bl 12 127) HT_ (h := ?_)
     refine pq 7 (some 143) (bl 12 255) HT_ (h := ?_)
     refine pq 8 (some 144) (bl 12 511) HT_ (h := ?_)
     refine pq 9 (some 24) (bl 12 1023) HT_ (h := ?_)
     refine pq 10 (some 25) (bl 12 2047) HT_ (h := ?_)
     refine pq 11 (some 26) (bl 12 4095) HT_ (h := ?_)
     refine done_ (done_of HT_.out (by kernel_rfl)) ?_
     try go_wp2
     go_roundg k4
     case measure => have := HJ8.out; have := HK2.out; have := HK3.out; have := HK4.out; omega
     case rel => exact ⟨(t249), (x20_4), (wrap64 (x22_4 + 1)), (by first | rfl | (simp; done) | (simp [*]; done)), (by first | rfl | (simp; done) | (simp [*]; done)), (by first | rfl | (simp; done) | (simp [*]; done)), H', ⟨by have := HJ8.out; have := HK2.out; have := HK3.out; have := HK4.out; omega⟩, ⟨Kd.R_mono (R_ HO_8) (fun _ hk => trivial)⟩, ⟨Kd.R_mono (R_ HO_9) (fun _ hk => ⟨hk.1.1, hk.1.2⟩)⟩, ⟨Kd.R_mono (R_ HO_11) (fun _ hk => ⟨hk.1.1, hk.1.2⟩)⟩, ⟨Kd.R_mono (R_ HO_18) (fun _ hk => ⟨hk.1.1, hk.1.2⟩)⟩, ⟨b_ BK199⟩, ⟨b_ BK200⟩, ⟨b_ BK209⟩, ⟨by repeat (first | (with_reducible first | exact HB.out | apply below_alloc | apply pw_below_drewN | apply below_drew1 | refine below_set ?_ GE199.out | refine below_set ?_ GE200.out | refine below_set ?_ GE209.out) | exact HB.out)⟩⟩
    replace c78 := Bool.eq_false_iff.mpr c78
    subst c78
    have H1 : (if (t243.length : Int) > 0 then (lF.l3 k4 a2 t206 t213 t216 t220 x18_3 false (wrap64 (x20_4 + 1)) (wrap64 (x22_4 + 1)) t201 t202 t203 t204 t205) else (lF.l3 k4 a2 t206 t213 t216 t220 x18_3 false x20_4 (wrap64 (x22_4 + 1)) t201 t202 t203 t204 t205)) = some r := by rw [if_neg (show ¬ (false = true) by decide)] at H; exact H
    clear H
    have H := H1
    clear H1
    by_cases c94 : (t243.length : Int) > 0
    ·rw [if_pos c94] at H
     have c94b0 : decide (0 < (t243.length : Int)) = true := decide_eq_true c94
     have c94b1 : decide (0 < t243.length) = true := decide_eq_true (by omega)
     clear c94
     have H' := Aside0.mk H
     clear H
     obtain ⟨Ao95, co95, eo95⟩ := Kd.R_slice HO_18.out
     subst eo95
     try go_wp2_with (first | ((with_reducible refine gate_callee (f := 47) rfl ?_); refine goesL_ (some 135) rfl rfl Tryd.func47 (by kernel_rfl) rfl #[.slice Ao95 x18_3.length co95, .int .i64 x22_4] rfl (by (try simp only [List.map_toArray, List.map_cons, List.map_nil]); first | done | rfl | (simp only [List.length_drop, List.length_take]; rfl)) ?_; (with_reducible refine (smaltolaw03_of.calls k4 _ _ x18_3 x22_4 t243 _ ?side1 ?side2 A75.out).mono ?_); (case side1 => repeat (first | exact (Kd.R_reads' HO_18.out).2.2 | (with_reducible refine Kd.C_alloc ?_ _) | (with_reducible refine Kd.C_drewN ?_ _) | (with_reducible refine Kd.C_drew ?_))); (case side2 => exact (Kd.R_reads' HO_18.out).2.1); rintro e w96 ⟨v244, rfl, ho0, hb⟩; refine ⟨_, rfl, ?_⟩; have n0_ := Aside0.mk (Kd.R_below (R_ HO_8) hb); have n1_ := Aside0.mk (Kd.R_elder' (R_ HO_9) (Kd.R_base ho0) hb); have n2_ := Aside0.mk (Kd.R_elder' (R_ HO_11) (Kd.R_base ho0) hb); have n3_ := Aside0.mk (Kd.R_elder' (R_ HO_18) (Kd.R_base ho0) hb); have n4_ := Aside0.mk (Kd.R_lower (Kd.R_new' (Kd.R_new' (Kd.R_new' ho0 (Kd.R_lt (R_ HO_9))) (Kd.R_lt (R_ HO_11))) (Kd.R_lt (R_ HO_18))) (below_size (by repeat (first | (with_reducible first | exact HB.out | apply below_alloc | apply pw_below_drewN | apply below_drew1 | refine below_set ?_ GE199.out | refine below_set ?_ GE200.out | refine below_set ?_ GE209.out) | exact HB.out)))); have n5_ := Aside0.mk (blk_below (g := gb199) (o := .cells #[.int .u8 a0_0, .int .u8 a0_1, .int .u8 a0_2, .int .u8 a0_3, .int .u8 a0_4, .slice A0_5 l0_5.length c0_5] 66 (0, 0)) (b_ BK199) hb); have n6_ := Aside0.mk (blk_below (g := gb200) (o := .cells #[.int .u8 a1_0, .int .u8 a1_1, .int .u8 a1_2, .int .u8 a1_3, .int .u8 a1_4, .int .u8 a1_5] 67 (0, 0)) (b_ BK200) hb); have n7_ := Aside0.mk (blk_below (g := gb209) (o := .cells #[.int .i64 t201, .int .i64 t202, .int .i64 t203, .int .i64 t204, .int .i64 t205] 23 (0, 0)) (b_ BK209) hb); have n8_ := Aside0.mk (below_step (by repeat (first | (with_reducible first | exact HB.out | apply below_alloc | apply pw_below_drewN | apply below_drew1 | refine below_set ?_ GE199.out | refine below_set ?_ GE200.out | refine below_set ?_ GE209.out) | exact HB.out)) hb); clear HO_8; clear HO_9; clear HO_11; clear HO_18; clear BK199; clear BK200; clear BK209; clear HB; have HO_8 := n0_; have HO_9 := n1_; have HO_11 := n2_; have HO_18 := n3_; have HO245 := n4_; have BK199 := n5_; have BK200 := n6_; have BK209 := n7_; have HB := n8_; clear n0_ n1_ n2_ n3_ n4_ n5_ n6_ n7_ n8_; (try clear hb); (try clear hb2); (try clear hk); (try clear hi); (try clear ho0)))
     have n0_ := Aside0.mk (Kd.R_drew HO_8.out)
     have n1_ := Aside0.mk (Kd.R_drew HO_9.out)
     have n2_ := Aside0.mk (Kd.R_drew HO_11.out)
     have n3_ := Aside0.mk (Kd.R_drew HO_18.out)
     have n4_ := Aside0.mk (Kd.R_drew HO245.out)
     have n5_ := Aside0.mk (blk_drew BK199.out)
     have n6_ := Aside0.mk (blk_drew BK200.out)
     have n7_ := Aside0.mk (blk_drew BK209.out)
     have n8_ := Aside0.mk (below_drew1 HB.out)
     clear HO_8
     clear HO_9
     clear HO_11
     clear HO_18
     clear HO245
     clear BK199
     clear BK200
     clear BK209
     clear HB
     have HO_8 := n0_
     have HO_9 := n1_
     have HO_11 := n2_
     have HO_18 := n3_
     have HO245 := n4_
     have BK199 := n5_
     have BK200 := n6_
     have BK209 := n7_
     have HB := n8_
     clear n0_ n1_ n2_ n3_ n4_ n5_ n6_ n7_ n8_
     refine start_ (n := 12) (S := fun w' => w'.cell? ⟨gb209, 0, none⟩ = some (.int .i64 t201) ∧ w'.cell? ⟨gb209, 1, none⟩ = some (.int .i64 t202) ∧ w'.cell? ⟨gb209, 2, none⟩ = some (.int .i64 t203) ∧ w'.cell? ⟨gb209, 3, none⟩ = some (.int .i64 t204) ∧ w'.cell? ⟨gb209, 4, none⟩ = some (.int .i64 t205)) (ds := []) (bl 12 0) (by kernel_rfl) rfl rfl ⟨(blk_cell BK209.out 0).trans rfl, (blk_cell BK209.out 1).trans rfl, (blk_cell BK209.out 2).trans rfl, (blk_cell BK209.out 3).trans rfl, (blk_cell BK209.out 4).trans rfl⟩ (fun hHeld => ?_); refine with_tabW lF.tab24 lF.bits24 (fun HT_ HW_ => ?_)
     generalize w96.drew = w97 at HO_8 HO_9 HO_11 HO_18 HO245 BK199 BK200 BK209 HB hHeld ⊢
     refine pq 1 (some 138) (bl 12 2) HT_ (h := ?_)
     refine pq 3 (some 140) (bl 12 10) HT_ (h := ?_)
     refine tq 0 (some 137) (bl 12 11) HT_ HW_ hHeld (h := ?_)
     refine one_ (i := 2) (N := some 139) (bl 12 15) rfl rfl (one_of HT_.out (by kernel_rfl)) (by decide) (fun K hK => ?_)
     refine goes_ Tryd.func43 (by kernel_rfl) rfl #[.slice Ao21 t206.length co21] (by rfl) rfl rfl (by (try simp only [List.map_toArray, List.map_cons, List.map_nil]); first | done | rfl | (simp only [List.length_drop, List.length_take]; rfl)) ?_
     with_reducible refine (smaltolaw03_own.calls _ _ t206 t246 _ ?side1 ?side2 A76.out).mono ?_
     (case side1 => repeat (first | exact (Kd.R_reads' HO_8.out).2.2 | (with_reducible refine Kd.C_alloc ?_ _) | (with_reducible refine Kd.C_drewN ?_ _) | (with_reducible refine Kd.C_drew ?_)))
     (case side2 => exact (Kd.R_reads' HO_8.out).2.1)
     rintro e w98 ⟨v247, rfl, ho0, hb⟩
     refine ⟨_, rfl, ?_⟩
     have n0_ := Aside0.mk (Kd.R_elder' (R_ HO_8) (Kd.R_base ho0) hb)
     have n1_ := Aside0.mk (Kd.R_below (R_ HO_9) hb)
     have n2_ := Aside0.mk (Kd.R_below (R_ HO_11) hb)
     have n3_ := Aside0.mk (Kd.R_below (R_ HO_18) hb)
     have n4_ := Aside0.mk (Kd.R_below (R_ HO245) hb)
     have n5_ := Aside0.mk (Kd.R_lower (Kd.R_new' ho0 (Kd.R_lt (R_ HO_8))) (below_size (by repeat (first | (with_reducible first | exact HB.out | apply below_alloc | apply pw_below_drewN | apply below_drew1 | refine below_set ?_ GE199.out | refine below_set ?_ GE200.out | refine below_set ?_ GE209.out) | exact HB.out))))
     have n6_ := Aside0.mk (blk_below (g := gb199) (o := .cells #[.int .u8 a0_0, .int .u8 a0_1, .int .u8 a0_2, .int .u8 a0_3, .int .u8 a0_4, .slice A0_5 l0_5.length c0_5] 66 (0, 0)) (b_ BK199) hb)
     have n7_ := Aside0.mk (blk_below (g := gb200) (o := .cells #[.int .u8 a1_0, .int .u8 a1_1, .int .u8 a1_2, .int .u8 a1_3, .int .u8 a1_4, .int .u8 a1_5] 67 (0, 0)) (b_ BK200) hb)
     have n8_ := Aside0.mk (blk_below (g := gb209) (o := .cells #[.int .i64 t201, .int .i64 t202, .int .i64 t203, .int .i64 t204, .int .i64 t205] 23 (0, 0)) (b_ BK209) hb)
     have n9_ := Aside0.mk (below_step (by repeat (first | (with_reducible first | exact HB.out | apply below_alloc | apply pw_below_drewN | apply below_drew1 | refine below_set ?_ GE199.out | refine below_set ?_ GE200.out | refine below_set ?_ GE209.out) | exact HB.out)) hb)
     clear HO_8
     clear HO_9
     clear HO_11
     clear HO_18
     clear HO245
     clear BK199
     clear BK200
     clear BK209
     clear HB
     have HO_8 := n0_
     have HO_9 := n1_
     have HO_11 := n2_
     have HO_18 := n3_
     have HO245 := n4_
     have HO248 := n5_
     have BK199 := n6_
     have BK200 := n7_
     have BK209 := n8_
     have HB := n9_
     clear n0_ n1_ n2_ n3_ n4_ n5_ n6_ n7_ n8_ n9_
     (try clear hb)
     (try clear hb2)
     (try clear hk)
     (try clear hi)
     (try clear ho0)
     obtain ⟨Ao99, co99, eo99⟩ := Kd.R_slice HO248.out
     (first | subst eo99 | (injection eo99 with f1_ f2_ f3_; have f4_ := f1_.symm; have f5_ := f3_.symm; clear f1_ f2_ f3_; subst f4_; subst f5_))
     obtain ⟨Ao100, co100, eo100⟩ := Kd.R_slice HO245.out
     (first | subst eo100 | (injection eo100 with f1_ f2_ f3_; have f4_ := f1_.symm; have f5_ := f3_.symm; clear f1_ f2_ f3_; subst f4_; subst f5_))
     refine hK.out _ _ ⟨(blk_cell BK209.out 0).trans rfl, (blk_cell BK209.out 1).trans rfl, (blk_cell BK209.out 2).trans rfl, (blk_cell BK209.out 3).trans rfl, (blk_cell BK209.out 4).trans rfl⟩ (fun hHeld => ?_)
     clear hK K
     refine nq 139 ?_
     refine one_ (i := 4) (N := some 141) (bl 12 31) rfl rfl (one_of HT_.out (by kernel_rfl)) (by decide) (fun K hK => ?_)
     refine goes_ Tryd.func17 (by kernel_rfl) rfl #[.agg #[.int .i64 t201, .int .i64 t202, .int .i64 t203, .int .i64 t204, .int .i64 t205], .slice Ao99 t246.length co99, .slice Ao100 t243.length co100] (by rfl) rfl rfl (by (try simp only [List.map_toArray, List.map_cons, List.map_nil]); first | done | rfl | (simp only [List.length_drop, List.length_take]; rfl)) ?_
     with_reducible refine (goesC.calls t201 t202 t203 t204 t205 _ _ t246 _ _ t243 t249 t250 _ ?side5 ?side1 ?side2 ?side3 ?side4 A77.out).mono ?_
     (case side1 => repeat (first | exact (Kd.R_reads' HO248.out).2.2 | (with_reducible refine Kd.C_alloc ?_ _) | (with_reducible refine Kd.C_drewN ?_ _) | (with_reducible refine Kd.C_drew ?_)))
     (case side2 => exact (Kd.R_reads' HO248.out).2.1)
     (case side3 => repeat (first | exact (Kd.R_reads' HO245.out).2.2 | (with_reducible refine Kd.C_alloc ?_ _) | (with_reducible refine Kd.C_drewN ?_ _) | (with_reducible refine Kd.C_drew ?_)))
     (case side4 => exact (Kd.R_reads' HO245.out).2.1)
     (case side5 => exact Hand.TabW.below HTAB.out (by repeat (first | (with_reducible first | exact HB.out | apply below_alloc | apply pw_below_drewN | apply below_drew1 | refine below_set ?_ GE199.out | refine below_set ?_ GE200.out | refine below_set ?_ GE209.out) | exact HB.out)))
     rintro e w101 ⟨rfl, hb⟩
     refine ⟨_, rfl, ?_⟩
     have n0_ := Aside0.mk (Kd.R_below (R_ HO_8) hb)
     have n1_ := Aside0.mk (Kd.R_below (R_ HO_9) hb)
     have n2_ := Aside0.mk (Kd.R_below (R_ HO_11) hb)
     have n3_ := Aside0.mk (Kd.R_below (R_ HO_18) hb)
     have n4_ := Aside0.mk (Kd.R_below (R_ HO245) hb)
     have n5_ := Aside0.mk (Kd.R_below (R_ HO248) hb)
     have n6_ := Aside0.mk (blk_below (g := gb199) (o := .cells #[.int .u8 a0_0, .int .u8 a0_1, .int .u8 a0_2, .int .u8 a0_3, .int .u8 a0_4, .slice A0_5 l0_5.length c0_5] 66 (0, 0)) (b_ BK199) hb)
     have n7_ := Aside0.mk (blk_below (g := gb200) (o := .cells #[.int .u8 a1_0, .int .u8 a1_1, .int .u8 a1_2, .int .u8 a1_3, .int .u8 a1_4, .int .u8 a1_5] 67 (0, 0)) (b_ BK200) hb)
     have n8_ := Aside0.mk (blk_below (g := gb209) (o := .cells #[.int .i64 t201, .int .i64 t202, .int .i64 t203, .int .i64 t204, .int .i64 t205] 23 (0, 0)) (b_ BK209) hb)
     have n9_ := Aside0.mk (below_step (by repeat (first | (with_reducible first | exact HB.out | apply below_alloc | apply pw_below_drewN | apply below_drew1 | refine below_set ?_ GE199.out | refine below_set ?_ GE200.out | refine below_set ?_ GE209.out) | exact HB.out)) hb)
     clear HO_8
     clear HO_9
     clear HO_11
     clear HO_18
     clear HO245
     clear HO248
     clear BK199
     clear BK200
     clear BK209
     clear HB
     have HO_8 := n0_
     have HO_9 := n1_
     have HO_11 := n2_
     have HO_18 := n3_
     have HO245 := n4_
     have HO248 := n5_
     have BK199 := n6_
     have BK200 := n7_
     have BK209 := n8_
     have HB := n9_
     clear n0_ n1_ n2_ n3_ n4_ n5_ n6_ n7_ n8_ n9_
     (try clear hb)
     (try clear hb2)
     (try clear hk)
     (try clear hi)
     refine hK.out _ _ ⟨(blk_cell BK209.out 0).trans rfl, (blk_cell BK209.out 1).trans rfl, (blk_cell BK209.out 2).trans rfl, (blk_cell BK209.out 3).trans rfl, (blk_cell BK209.out 4).trans rfl⟩ (fun hHeld => ?_)
     clear hK K
     refine nq 141 ?_
     refine pq 5 (some 136) (bl 12 63) HT_ (h := ?_)
     refine pq 6 (some 142) (bl 12 127) HT_ (h := ?_)
     refine pq 7 (some 143) (bl 12 255) HT_ (h := ?_)
     refine pq 8 (some 144) (bl 12 511) HT_ (h := ?_)
     refine pq 9 (some 24) (bl 12 1023) HT_ (h := ?_)
     refine pq 10 (some 25) (bl 12 2047) HT_ (h := ?_)
     refine pq 11 (some 26) (bl 12 4095) HT_ (h := ?_)
     refine done_ (done_of HT_.out (by kernel_rfl)) ?_
     try go_wp2
     go_roundg k4
     case measure => have := HJ8.out; have := HK2.out; have := HK3.out; have := HK4.out; omega
     case rel => exact ⟨(false), (wrap64 (x20_4 + 1)), (wrap64 (x22_4 + 1)), (by first | rfl | (simp; done) | (simp [*]; done)), (by first | rfl | (simp; done) | (simp [*]; done)), (by first | rfl | (simp; done) | (simp [*]; done)), H', ⟨by have := HJ8.out; have := HK2.out; have := HK3.out; have := HK4.out; omega⟩, ⟨Kd.R_mono (R_ HO_8) (fun _ hk => trivial)⟩, ⟨Kd.R_mono (R_ HO_9) (fun _ hk => ⟨hk.1.1, hk.1.2⟩)⟩, ⟨Kd.R_mono (R_ HO_11) (fun _ hk => ⟨hk.1.1, hk.1.2⟩)⟩, ⟨Kd.R_mono (R_ HO_18) (fun _ hk => ⟨hk.1.1, hk.1.2⟩)⟩, ⟨b_ BK199⟩, ⟨b_ BK200⟩, ⟨b_ BK209⟩, ⟨by repeat (first | (with_reducible first | exact HB.out | apply below_alloc | apply pw_below_drewN | apply below_drew1 | refine below_set ?_ GE199.out | refine below_set ?_ GE200.out | refine below_set ?_ GE209.out) | exact HB.out)⟩⟩
    rw [if_neg c94] at H
    have c94b0 : decide (0 < (t243.length : Int)) = false := decide_eq_false c94
    have c94b1 : decide (0 < t243.length) = false := decide_eq_false (by omega)
    clear c94
    have H' := Aside0.mk H
    clear H
    obtain ⟨Ao102, co102, eo102⟩ := Kd.R_slice HO_18.out
    subst eo102
    try go_wp2_with (first | ((with_reducible refine gate_callee (f := 47) rfl ?_); refine goesL_ (some 135) rfl rfl Tryd.func47 (by kernel_rfl) rfl #[.slice Ao102 x18_3.length co102, .int .i64 x22_4] rfl (by (try simp only [List.map_toArray, List.map_cons, List.map_nil]); first | done | rfl | (simp only [List.length_drop, List.length_take]; rfl)) ?_; (with_reducible refine (smaltolaw03_of.calls k4 _ _ x18_3 x22_4 t243 _ ?side1 ?side2 A75.out).mono ?_); (case side1 => repeat (first | exact (Kd.R_reads' HO_18.out).2.2 | (with_reducible refine Kd.C_alloc ?_ _) | (with_reducible refine Kd.C_drewN ?_ _) | (with_reducible refine Kd.C_drew ?_))); (case side2 => exact (Kd.R_reads' HO_18.out).2.1); rintro e w103 ⟨v244, rfl, ho0, hb⟩; refine ⟨_, rfl, ?_⟩; have n0_ := Aside0.mk (Kd.R_below (R_ HO_8) hb); have n1_ := Aside0.mk (Kd.R_elder' (R_ HO_9) (Kd.R_base ho0) hb); have n2_ := Aside0.mk (Kd.R_elder' (R_ HO_11) (Kd.R_base ho0) hb); have n3_ := Aside0.mk (Kd.R_elder' (R_ HO_18) (Kd.R_base ho0) hb); have n4_ := Aside0.mk (Kd.R_lower (Kd.R_new' (Kd.R_new' (Kd.R_new' ho0 (Kd.R_lt (R_ HO_9))) (Kd.R_lt (R_ HO_11))) (Kd.R_lt (R_ HO_18))) (below_size (by repeat (first | (with_reducible first | exact HB.out | apply below_alloc | apply pw_below_drewN | apply below_drew1 | refine below_set ?_ GE199.out | refine below_set ?_ GE200.out | refine below_set ?_ GE209.out) | exact HB.out)))); have n5_ := Aside0.mk (blk_below (g := gb199) (o := .cells #[.int .u8 a0_0, .int .u8 a0_1, .int .u8 a0_2, .int .u8 a0_3, .int .u8 a0_4, .slice A0_5 l0_5.length c0_5] 66 (0, 0)) (b_ BK199) hb); have n6_ := Aside0.mk (blk_below (g := gb200) (o := .cells #[.int .u8 a1_0, .int .u8 a1_1, .int .u8 a1_2, .int .u8 a1_3, .int .u8 a1_4, .int .u8 a1_5] 67 (0, 0)) (b_ BK200) hb); have n7_ := Aside0.mk (blk_below (g := gb209) (o := .cells #[.int .i64 t201, .int .i64 t202, .int .i64 t203, .int .i64 t204, .int .i64 t205] 23 (0, 0)) (b_ BK209) hb); have n8_ := Aside0.mk (below_step (by repeat (first | (with_reducible first | exact HB.out | apply below_alloc | apply pw_below_drewN | apply below_drew1 | refine below_set ?_ GE199.out | refine below_set ?_ GE200.out | refine below_set ?_ GE209.out) | exact HB.out)) hb); clear HO_8; clear HO_9; clear HO_11; clear HO_18; clear BK199; clear BK200; clear BK209; clear HB; have HO_8 := n0_; have HO_9 := n1_; have HO_11 := n2_; have HO_18 := n3_; have HO245 := n4_; have BK199 := n5_; have BK200 := n6_; have BK209 := n7_; have HB := n8_; clear n0_ n1_ n2_ n3_ n4_ n5_ n6_ n7_ n8_; (try clear hb); (try clear hb2); (try clear hk); (try clear hi); (try clear ho0)))
    have n0_ := Aside0.mk (Kd.R_drew HO_8.out)
    have n1_ := Aside0.mk (Kd.R_drew HO_9.out)
    have n2_ := Aside0.mk (Kd.R_drew HO_11.out)
    have n3_ := Aside0.mk (Kd.R_drew HO_18.out)
    have n4_ := Aside0.mk (Kd.R_drew HO245.out)
    have n5_ := Aside0.mk (blk_drew BK199.out)
    have n6_ := Aside0.mk (blk_drew BK200.out)
    have n7_ := Aside0.mk (blk_drew BK209.out)
    have n8_ := Aside0.mk (below_drew1 HB.out)
    clear HO_8
    clear HO_9
    clear HO_11
    clear HO_18
    clear HO245
    clear BK199
    clear BK200
    clear BK209
    clear HB
    have HO_8 := n0_
    have HO_9 := n1_
    have HO_11 := n2_
    have HO_18 := n3_
    have HO245 := n4_
    have BK199 := n5_
    have BK200 := n6_
    have BK209 := n7_
    have HB := n8_
    clear n0_ n1_ n2_ n3_ n4_ n5_ n6_ n7_ n8_
    refine start_ (n := 12) (S := fun w' => w'.cell? ⟨gb209, 0, none⟩ = some (.int .i64 t201) ∧ w'.cell? ⟨gb209, 1, none⟩ = some (.int .i64 t202) ∧ w'.cell? ⟨gb209, 2, none⟩ = some (.int .i64 t203) ∧ w'.cell? ⟨gb209, 3, none⟩ = some (.int .i64 t204) ∧ w'.cell? ⟨gb209, 4, none⟩ = some (.int .i64 t205)) (ds := []) (bl 12 0) (by kernel_rfl) rfl rfl ⟨(blk_cell BK209.out 0).trans rfl, (blk_cell BK209.out 1).trans rfl, (blk_cell BK209.out 2).trans rfl, (blk_cell BK209.out 3).trans rfl, (blk_cell BK209.out 4).trans rfl⟩ (fun hHeld => ?_); refine with_tabW lF.tab24 lF.bits24 (fun HT_ HW_ => ?_)
    generalize w103.drew = w104 at HO_8 HO_9 HO_11 HO_18 HO245 BK199 BK200 BK209 HB hHeld ⊢
    refine pq 1 (some 138) (bl 12 2) HT_ (h := ?_)
    refine pq 3 (some 140) (bl 12 10) HT_ (h := ?_)
    refine tq 0 (some 137) (bl 12 11) HT_ HW_ hHeld (h := ?_)
    refine one_ (i := 2) (N := some 139) (bl 12 15) rfl rfl (one_of HT_.out (by kernel_rfl)) (by decide) (fun K hK => ?_)
    refine goes_ Tryd.func43 (by kernel_rfl) rfl #[.slice Ao21 t206.length co21] (by rfl) rfl rfl (by (try simp only [List.map_toArray, List.map_cons, List.map_nil]); first | done | rfl | (simp only [List.length_drop, List.length_take]; rfl)) ?_
    with_reducible refine (smaltolaw03_own.calls _ _ t206 t246 _ ?side1 ?side2 A76.out).mono ?_
    (case side1 => repeat (first | exact (Kd.R_reads' HO_8.out).2.2 | (with_reducible refine Kd.C_alloc ?_ _) | (with_reducible refine Kd.C_drewN ?_ _) | (with_reducible refine Kd.C_drew ?_)))
    (case side2 => exact (Kd.R_reads' HO_8.out).2.1)
    rintro e w105 ⟨v247, rfl, ho0, hb⟩
    refine ⟨_, rfl, ?_⟩
    have n0_ := Aside0.mk (Kd.R_elder' (R_ HO_8) (Kd.R_base ho0) hb)
    have n1_ := Aside0.mk (Kd.R_below (R_ HO_9) hb)
    have n2_ := Aside0.mk (Kd.R_below (R_ HO_11) hb)
    have n3_ := Aside0.mk (Kd.R_below (R_ HO_18) hb)
    have n4_ := Aside0.mk (Kd.R_below (R_ HO245) hb)
    have n5_ := Aside0.mk (Kd.R_lower (Kd.R_new' ho0 (Kd.R_lt (R_ HO_8))) (below_size (by repeat (first | (with_reducible first | exact HB.out | apply below_alloc | apply pw_below_drewN | apply below_drew1 | refine below_set ?_ GE199.out | refine below_set ?_ GE200.out | refine below_set ?_ GE209.out) | exact HB.out))))
    have n6_ := Aside0.mk (blk_below (g := gb199) (o := .cells #[.int .u8 a0_0, .int .u8 a0_1, .int .u8 a0_2, .int .u8 a0_3, .int .u8 a0_4, .slice A0_5 l0_5.length c0_5] 66 (0, 0)) (b_ BK199) hb)
    have n7_ := Aside0.mk (blk_below (g := gb200) (o := .cells #[.int .u8 a1_0, .int .u8 a1_1, .int .u8 a1_2, .int .u8 a1_3, .int .u8 a1_4, .int .u8 a1_5] 67 (0, 0)) (b_ BK200) hb)
    have n8_ := Aside0.mk (blk_below (g := gb209) (o := .cells #[.int .i64 t201, .int .i64 t202, .int .i64 t203, .int .i64 t204, .int .i64 t205] 23 (0, 0)) (b_ BK209) hb)
    have n9_ := Aside0.mk (below_step (by repeat (first | (with_reducible first | exact HB.out | apply below_alloc | apply pw_below_drewN | apply below_drew1 | refine below_set ?_ GE199.out | refine below_set ?_ GE200.out | refine below_set ?_ GE209.out) | exact HB.out)) hb)
    clear HO_8
    clear HO_9
    clear HO_11
    clear HO_18
    clear HO245
    clear BK199
    clear BK200
    clear BK209
    clear HB
    have HO_8 := n0_
    have HO_9 := n1_
    have HO_11 := n2_
    have HO_18 := n3_
    have HO245 := n4_
    have HO248 := n5_
    have BK199 := n6_
    have BK200 := n7_
    have BK209 := n8_
    have HB := n9_
    clear n0_ n1_ n2_ n3_ n4_ n5_ n6_ n7_ n8_ n9_
    (try clear hb)
    (try clear hb2)
    (try clear hk)
    (try clear hi)
    (try clear ho0)
    obtain ⟨Ao106, co106, eo106⟩ := Kd.R_slice HO248.out
    (first | subst eo106 | (injection eo106 with f1_ f2_ f3_; have f4_ := f1_.symm; have f5_ := f3_.symm; clear f1_ f2_ f3_; subst f4_; subst f5_))
    obtain ⟨Ao107, co107, eo107⟩ := Kd.R_slice HO245.out
    (first | subst eo107 | (injection eo107 with f1_ f2_ f3_; have f4_ := f1_.symm; have f5_ := f3_.symm; clear f1_ f2_ f3_; subst f4_; subst f5_))
    refine hK.out _ _ ⟨(blk_cell BK209.out 0).trans rfl, (blk_cell BK209.out 1).trans rfl, (blk_cell BK209.out 2).trans rfl, (blk_cell BK209.out 3).trans rfl, (blk_cell BK209.out 4).trans rfl⟩ (fun hHeld => ?_)
    clear hK K
    refine nq 139 ?_
    refine one_ (i := 4) (N := some 141) (bl 12 31) rfl rfl (one_of HT_.out (by kernel_rfl)) (by decide) (fun K hK => ?_)
    refine goes_ Tryd.func17 (by kernel_rfl) rfl #[.agg #[.int .i64 t201, .int .i64 t202, .int .i64 t203, .int .i64 t204, .int .i64 t205], .slice Ao106 t246.length co106, .slice Ao107 t243.length co107] (by rfl) rfl rfl (by (try simp only [List.map_toArray, List.map_cons, List.map_nil]); first | done | rfl | (simp only [List.length_drop, List.length_take]; rfl)) ?_
    with_reducible refine (goesC.calls t201 t202 t203 t204 t205 _ _ t246 _ _ t243 t249 t250 _ ?side5 ?side1 ?side2 ?side3 ?side4 A77.out).mono ?_
    (case side1 => repeat (first | exact (Kd.R_reads' HO248.out).2.2 | (with_reducible refine Kd.C_alloc ?_ _) | (with_reducible refine Kd.C_drewN ?_ _) | (with_reducible refine Kd.C_drew ?_)))
    (case side2 => exact (Kd.R_reads' HO248.out).2.1)
    (case side3 => repeat (first | exact (Kd.R_reads' HO245.out).2.2 | (with_reducible refine Kd.C_alloc ?_ _) | (with_reducible refine Kd.C_drewN ?_ _) | (with_reducible refine Kd.C_drew ?_)))
    (case side4 => exact (Kd.R_reads' HO245.out).2.1)
    (case side5 => exact Hand.TabW.below HTAB.out (by repeat (first | (with_reducible first | exact HB.out | apply below_alloc | apply pw_below_drewN | apply below_drew1 | refine below_set ?_ GE199.out | refine below_set ?_ GE200.out | refine below_set ?_ GE209.out) | exact HB.out)))
    rintro e w108 ⟨rfl, hb⟩
    refine ⟨_, rfl, ?_⟩
    have n0_ := Aside0.mk (Kd.R_below (R_ HO_8) hb)
    have n1_ := Aside0.mk (Kd.R_below (R_ HO_9) hb)
    have n2_ := Aside0.mk (Kd.R_below (R_ HO_11) hb)
    have n3_ := Aside0.mk (Kd.R_below (R_ HO_18) hb)
    have n4_ := Aside0.mk (Kd.R_below (R_ HO245) hb)
    have n5_ := Aside0.mk (Kd.R_below (R_ HO248) hb)
    have n6_ := Aside0.mk (blk_below (g := gb199) (o := .cells #[.int .u8 a0_0, .int .u8 a0_1, .int .u8 a0_2, .int .u8 a0_3, .int .u8 a0_4, .slice A0_5 l0_5.length c0_5] 66 (0, 0)) (b_ BK199) hb)
    have n7_ := Aside0.mk (blk_below (g := gb200) (o := .cells #[.int .u8 a1_0, .int .u8 a1_1, .int .u8 a1_2, .int .u8 a1_3, .int .u8 a1_4, .int .u8 a1_5] 67 (0, 0)) (b_ BK200) hb)
    have n8_ := Aside0.mk (blk_below (g := gb209) (o := .cells #[.int .i64 t201, .int .i64 t202, .int .i64 t203, .int .i64 t204, .int .i64 t205] 23 (0, 0)) (b_ BK209) hb)
    have n9_ := Aside0.mk (below_step (by repeat (first | (with_reducible first | exact HB.out | apply below_alloc | apply pw_below_drewN | apply below_drew1 | refine below_set ?_ GE199.out | refine below_set ?_ GE200.out | refine below_set ?_ GE209.out) | exact HB.out)) hb)
    clear HO_8
    clear HO_9
    clear HO_11
    clear HO_18
    clear HO245
    clear HO248
    clear BK199
    clear BK200
    clear BK209
    clear HB
    have HO_8 := n0_
    have HO_9 := n1_
    have HO_11 := n2_
    have HO_18 := n3_
    have HO245 := n4_
    have HO248 := n5_
    have BK199 := n6_
    have BK200 := n7_
    have BK209 := n8_
    have HB := n9_
    clear n0_ n1_ n2_ n3_ n4_ n5_ n6_ n7_ n8_ n9_
    (try clear hb)
    (try clear hb2)
    (try clear hk)
    (try clear hi)
    refine hK.out _ _ ⟨(blk_cell BK209.out 0).trans rfl, (blk_cell BK209.out 1).trans rfl, (blk_cell BK209.out 2).trans rfl, (blk_cell BK209.out 3).trans rfl, (blk_cell BK209.out 4).trans rfl⟩ (fun hHeld => ?_)
    clear hK K
    refine nq 141 ?_
    refine pq 5 (some 136) (bl 12 63) HT_ (h := ?_)
    refine pq 6 (some 142) (bl 12 127) HT_ (h := ?_)
    refine pq 7 (some 143) (bl 12 255) HT_ (h := ?_)
    refine pq 8 (some 144) (bl 12 511) HT_ (h := ?_)
    refine pq 9 (some 24) (bl 12 1023) HT_ (h := ?_)
    refine pq 10 (some 25) (bl 12 2047) HT_ (h := ?_)
    refine pq 11 (some 26) (bl 12 4095) HT_ (h := ?_)
    refine done_ (done_of HT_.out (by kernel_rfl)) ?_
    try go_wp2
    go_roundg k4
    case measure => have := HJ8.out; have := HK2.out; have := HK3.out; have := HK4.out; omega
    case rel => exact ⟨(false), (x20_4), (wrap64 (x22_4 + 1)), (by first | rfl | (simp; done) | (simp [*]; done)), (by first | rfl | (simp; done) | (simp [*]; done)), (by first | rfl | (simp; done) | (simp [*]; done)), H', ⟨by have := HJ8.out; have := HK2.out; have := HK3.out; have := HK4.out; omega⟩, ⟨Kd.R_mono (R_ HO_8) (fun _ hk => trivial)⟩, ⟨Kd.R_mono (R_ HO_9) (fun _ hk => ⟨hk.1.1, hk.1.2⟩)⟩, ⟨Kd.R_mono (R_ HO_11) (fun _ hk => ⟨hk.1.1, hk.1.2⟩)⟩, ⟨Kd.R_mono (R_ HO_18) (fun _ hk => ⟨hk.1.1, hk.1.2⟩)⟩, ⟨b_ BK199⟩, ⟨b_ BK200⟩, ⟨b_ BK209⟩, ⟨by repeat (first | (with_reducible first | exact HB.out | apply below_alloc | apply pw_below_drewN | apply below_drew1 | refine below_set ?_ GE199.out | refine below_set ?_ GE200.out | refine below_set ?_ GE209.out) | exact HB.out)⟩⟩
   rw [if_neg c74] at H
   have c74b0 : decide (x22_4 < 6) = false := decide_eq_false c74
   clear c74
   have H' := Aside0.mk H
   clear H
   go_wp2
   go_loopg [27, 28] k4 (fun kq v27 v28 w' => ∃ (x27_5 : Int) (x28_5 : Int), v27 = .int .i64 x27_5 ∧ v28 = .int .i64 x28_5 ∧ Aside0 (lF.l4 kq a2 t206 t213 t216 t220 x19_4 x20_4 x27_5 x28_5 t201 t202 t203 t204 t205 = some r) ∧ Aside0 (kq ≤ k4) ∧ Aside0 (Kd.R k74 74 w' w.heap.size (fun _ => True) (.slice Ao21 t206.length co21) t206) ∧ Aside0 (Kd.R (Kd.int .i64) 3 w' w.heap.size (fun k_ => some k_ ≠ ((.slice Ao63 t220.length co63) : Value).ownBlock) v214 t213) ∧ Aside0 (Kd.R (Kd.int .i64) 3 w' w.heap.size (fun k_ => some k_ ≠ (v214 : Value).ownBlock) (.slice Ao63 t220.length co63) t220) ∧ Aside0 (w'.heap[gb199]? = some (.cells #[.int .u8 a0_0, .int .u8 a0_1, .int .u8 a0_2, .int .u8 a0_3, .int .u8 a0_4, (.slice A0_5 l0_5.length c0_5)] 66 (0, 0))) ∧ Aside0 (w'.heap[gb200]? = some (.cells #[.int .u8 a1_0, .int .u8 a1_1, .int .u8 a1_2, .int .u8 a1_3, .int .u8 a1_4, .int .u8 a1_5] 67 (0, 0))) ∧ Aside0 (w'.heap[gb209]? = some (.cells #[.int .i64 t201, .int .i64 t202, .int .i64 t203, .int .i64 t204, .int .i64 t205] 23 (0, 0))) ∧ Aside0 (Below w.heap.size w w'))
   case atStart => exact ⟨(0), (0), (by first | rfl | (simp; done) | (simp [*]; done)), (by first | rfl | (simp; done) | (simp [*]; done)), H', ⟨Nat.le_refl _⟩, ⟨R_ HO_8⟩, ⟨Kd.R_mono (R_ HO_9) (fun _ hk => hk.1)⟩, ⟨Kd.R_mono (R_ HO_11) (fun _ hk => hk.1)⟩, ⟨b_ BK199⟩, ⟨b_ BK200⟩, ⟨b_ BK209⟩, ⟨by repeat (first | (with_reducible first | exact HB.out | apply below_alloc | apply pw_below_drewN | apply below_drew1 | refine below_set ?_ GE199.out | refine below_set ?_ GE200.out | refine below_set ?_ GE209.out) | exact HB.out)⟩⟩
   case round =>
    rename_i z1_1 z1_2 z1_3 z1_4 z1_5 z1_6 z1_7 z1_8 z1_9 z1_10 z1_11 z1_12 z1_13 z1_14 z1_15 z1_16 z1_17 z1_18 z1_19 z1_20 z1_21 z1_22 z1_23 z1_24 z1_25 z1_26 z1_27 z1_28 z1_29 z1_30 z1_31 z1_32 z1_33 z1_34 z1_35 z1_36 z1_37 z1_38 z1_39 z1_40 z1_41 z1_42 z1_43 z1_44 z1_45 z1_46 z1_47 z1_48 z1_49 z1_50 z1_51 z1_52 z1_53 z1_54 z1_55 z1_56 z1_57 z1_58 z1_59 z1_60 z1_61 z1_62 z1_63 z1_64 z1_65 z1_66 z1_67 z1_68 z1_69 z1_70 z1_71 z1_72 z1_73 z1_74 z1_75 z1_76 z1_77 z1_78 z1_79 z1_80 z1_81 z1_82 z1_83 z1_84 z1_85 z1_86 z1_87
    revert k a0_0 a0_1 a0_2 a0_3 a0_4 A0_5 c0_5 l0_5 a1_0 a1_1 a1_2 a1_3 a1_4 a1_5 a2 r w hu66 hu67 hu23 HTAB HR0_5 HC0_5 t201 t202 t203 t204 t205 t206 A4 t210 A5 t213 t216 A6 t217 A7 t220 A8 z1_ gb199 w10 GW199 GE199 gb200 w11 GW200 GE200 NB199_200 NB200_199 hnb12 hnc12 w14 gb209 w15 GW209 GE209 NB199_209 NB209_199 NB200_209 NB209_200 hnb16 hnc16 hnb17 hnc17 w19 Ao21 co21 z2_ z3_ w20 z4_ w22 Ao23 co23 z5_ w24 v214 z6_ HT_ HW_ w25 z7_ w26 Ao27 co27 z8_ w28 HO208 HO212 HO219 z9_ z10_ z11_ z12_ hHeld wc u40 u41 u42 u43 u44 u45 u46 u47 u48 u49 u50 u51 u52 u53 u54 u55 u56 u57 u58 u59 u60 u61 u62 u63 u64 u65 u66 u67 u68 u69 u70 u71 u72 u73 u74 u75 u76 u77 u78 u79 z13_ z14_ z15_ z16_ z17_ z18_ z19_ z20_ z21_ z22_ z23_ z24_ z25_ z26_ z27_ z28_ z29_ z30_ z31_ z32_ z33_ z34_ z35_ z36_ z37_ z38_ z39_ z40_ z41_ z42_ z43_ z44_ z45_ u114 z46_ z47_ z48_ z49_ z50_ z51_ z52_ z53_ z54_ z55_ z56_ z57_ z58_ z59_ z1_1 z1_2 z1_3 z1_4 z1_5 z1_6 z1_7 z1_8 z1_9 z1_10 z1_11 z1_12 z1_13 z1_14 z1_15 z1_16 z1_17 z1_18 z1_19 z1_20 z1_21 z1_22 z1_23 z1_24 z1_25 z1_26 z1_27 z1_28 z1_29 z1_30 z1_31 z1_32 z1_33 z1_34 z1_35 z1_36 z1_37 z1_38 z1_39 z1_40 z1_41 z1_42 z1_43 z1_44 z1_45 z1_46 z1_47 z1_48 z1_49 z1_50 z1_51 z1_52 z1_53 u182 u183 u184 u185 u186 u187 u188 u189 u190 u191 u192 u193 u194 u195 u196 u197 u198 u199 u200 u201 u202 u203 u204 u205 u206 u207 u208 u209 u210 u211 u212 u213 u214 u215 u216 u217 u218 u219 u220 u221 u222 u223 u224 u225 u226 u227 u228 u229 u230 u231 u232 u233 u234 u235 u236 u237 u238 u239 u240 u241 u242 u243 u244 u245 u246 u248 u249 u250 u251 u252 u253 u254 u255 u256 u257 u258 u259 u260 u261 u262 u263 u264 u266 u267 u268 u269 u270 u272 u273 u274 u275 u276 u278 u279 u280 u281 u282 u284 u285 u286 u287 u288 u289 u290 u291 u292 u293 u294 u295 u296 u297 u298 u299 u300 u301 u302 u303 u304 u305 u306 u307 u308 u309 u310 u311 u312 u313 u314 u315 u316 u317 z60_ z61_ z62_ z63_ z64_ kj8 HJ8 z65_ z66_ z1_54 u14 u15 u16 u17 u81 u82 u83 u84 u85 u86 u87 u88 u89 u90 u91 u92 u93 u94 u95 u96 u97 u98 u99 u100 u101 u102 u103 u104 u105 u106 u107 u108 u109 u110 u111 u112 u113 z67_ z68_ x13_2 k2 z69_ HK2 y236 Ny236 Ao63 co63 HO215 HO222 z70_ z71_ z72_ z73_ z74_ v237 w64 z1_55 z1_56 z1_57 HO238 z1_58 z1_59 z1_60 z1_61 z75_ z1_62 u18 u115 u116 u117 u118 u119 u120 u121 u122 u123 u124 u125 u126 u127 u128 z77_ z78_ z79_ x18_3 x21_3 z1_63 z1_64 z1_65 z1_66 z1_67 z1_68 z1_69 z1_70 k3 z80_ HK3 z1_71 z1_72 z1_73 z1_74 z1_75 u23 u24 u25 u26 u129 u130 u131 u132 u133 u134 u135 u136 u137 u138 u139 u140 u141 u142 u143 u144 u145 u146 u147 u148 u149 u150 u151 u152 u153 u154 u155 z1_76 z1_77 z1_78 x19_4 x20_4 x22_4 HO_8 HO_9 HO_11 HO_18 BK199 BK200 BK209 HB k4 z1_79 HK4 c74b0 H' z1_80 z1_81 z1_82 z1_83 gk wr u6 u27 u28 u156 u157 u158 u159 u160 u161 u162 u163 u164 u165 u166 u167 u168 u169 u170 u171 u172 u173 u174 u175 u176 u177 u178 u179 u180 u181 hrel z1_84 z1_85 z1_86 z1_87
    exact hG_.out trivial
end Go.Proofs.YtbijamlgcebgeaaDoor.Q

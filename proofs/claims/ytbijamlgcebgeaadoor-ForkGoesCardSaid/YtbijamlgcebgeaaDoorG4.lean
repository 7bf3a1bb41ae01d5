/- The law returns true for every input. Part 4 of 4. -/
import Derived.Test.YtbijamlgcebgeaaDoorG3
set_option linter.unusedVariables false
set_option linter.unusedSimpArgs false
-- part IP
namespace Go.Proofs.YtbijamlgcebgeaaDoor.Hand
open Go.RowKit Go.Shelf Go.Sort Go.Proofs.YtbijamlgcebgeaaDoorW.PrintWords Go.Proofs.YtbijamlgcebgeaaDoorW.PrintMore Go.Proofs.YtbijamlgcebgeaaDoor.Q
attribute [local go_sem] max2_mx min2_mn max_two min_two

def refAt (l : List S74) (load : List Int) (k : Nat) : S74 := rd_T74 l (rd load k)
def refWeightK (l : List S74) (load : List Int) (k : Nat) : Int × Int := (List.range k).foldl (fun (s : Int × Int) (j : Nat) => (s.1 + (refAt l load j).f2.f0, s.2 + (refAt l load j).f2.f1)) (0, 0)
theorem refWeightK_succ (l : List S74) (load : List Int) (k : Nat) : refWeightK l load (k + 1) = ((refWeightK l load k).1 + (refAt l load k).f2.f0, (refWeightK l load k).2 + (refAt l load k).f2.f1) := by simp [refWeightK, List.range_succ]
/-- Sign i is about as high as the first j. -/
def refNear1 (l : List S74) (load : List Int) (e : Int) (i j : Nat) : Bool := (List.range j).all fun k => decide (mx ((refAt l load i).f1 - (refAt l load k).f1) ((refAt l load k).f1 - (refAt l load i).f1) ≤ e)
def refNearK (l : List S74) (load : List Int) (e : Int) (k : Nat) : Bool := (List.range k).all fun i => refNear1 l load e i i
theorem refNear1_succ (l : List S74) (load : List Int) (e : Int) (i j : Nat) : refNear1 l load e i (j + 1) = (refNear1 l load e i j && decide (mx ((refAt l load i).f1 - (refAt l load j).f1) ((refAt l load j).f1 - (refAt l load i).f1) ≤ e)) := by simp [refNear1, List.range_succ]
theorem refNearK_succ (l : List S74) (load : List Int) (e : Int) (k : Nat) : refNearK l load e (k + 1) = (refNearK l load e k && refNear1 l load e k k) := by simp [refNearK, List.range_succ]
theorem refNear1_le (l : List S74) (load : List Int) (e : Int) (i : Nat) {k n : Nat} (hk : k ≤ n) (h : refNear1 l load e i k = false) : refNear1 l load e i n = false := by
  unfold refNear1 at *
  rw [List.all_eq_false] at *
  obtain ⟨x, hx, hp⟩ := h
  exact ⟨x, List.mem_range.2 (Nat.lt_of_lt_of_le (List.mem_range.1 hx) hk), hp⟩
theorem refNearK_le (l : List S74) (load : List Int) (e : Int) {k n : Nat} (hk : k ≤ n) (h : refNearK l load e k = false) : refNearK l load e n = false := by
  unfold refNearK at *
  rw [List.all_eq_false] at *
  obtain ⟨x, hx, hp⟩ := h
  exact ⟨x, List.mem_range.2 (Nat.lt_of_lt_of_le (List.mem_range.1 hx) hk), hp⟩
/-- What the reference's Goes returns, where Bars says ok. -/
def refGoesR (d e : Int) (l : List S74) (load : List Int) (ok : Bool) : Bool × Bool :=
  if refNearK l load e load.length = true then ((refHeatR l load).2.2 && ok && decide ((refWeightK l load load.length).2 ≤ d), (refHeatR l load).2.2 && ok && decide ((refWeightK l load load.length).1 ≤ d)) else (false, false)
theorem refWeight_bd (l : List S74) (load : List Int) (hb : ∀ x ∈ l, (1 ≤ x.f2.f0 ∧ x.f2.f0 ≤ x.f2.f1 ∧ x.f2.f1 ≤ 500)) (hv : ∀ j : Nat, j < load.length → 0 ≤ rd load j ∧ rd load j < l.length) : ∀ k, k ≤ load.length → 0 ≤ (refWeightK l load k).1 ∧ (refWeightK l load k).1 ≤ 500 * k ∧ 0 ≤ (refWeightK l load k).2 ∧ (refWeightK l load k).2 ≤ 500 * k := by
  intro k
  induction k with
  | zero => intro _; simp [refWeightK]
  | succ k ih =>
    intro hk
    have h1 := ih (by omega)
    have h2 := hv k (by omega)
    have h3 : refAt l load k ∈ l := by
      unfold refAt
      obtain ⟨i, hi⟩ : ∃ i : Nat, rd load k = i := ⟨(rd load k).toNat, by omega⟩
      rw [hi]
      exact rd_mem (by omega)
    have h4 := hb _ h3
    rw [refWeightK_succ]
    simp only
    omega

set_option maxRecDepth 100000 in
set_option maxHeartbeats 2000000 in
theorem refgoes_calls (K : Nat) (a b c d e : Int) (l : List S74) (load : List Int) (A1 A2 : Option Addr) (c1 c2 : Nat) (hc1 : l.length ≤ c1) (hc2 : load.length ≤ c2) (w : World) (hr1 : Kd.C k74 w A1 l.length l) (hr2 : Kd.C (Kd.int .i64) w A2 load.length load) (hlen : load.length ≤ 1000)
    (hv : ∀ j : Nat, j < load.length → 0 ≤ rd load j ∧ rd load j < l.length) (hbd : ∀ x ∈ l, (1 ≤ x.f1 ∧ x.f1 ≤ 100) ∧ (1 ≤ x.f2.f0 ∧ x.f2.f0 ≤ x.f2.f1 ∧ x.f2.f1 ≤ 500)) (r1 : List Int) (r2 : Bool)
    (hB : refNearK l load e load.length = true → smaltoref03_Bars.f K a b c d e l load [] = some (r1, r2)) :
    Calls Tryd.prog 24 #[.agg #[.int .i64 a, .int .i64 b, .int .i64 c, .int .i64 d, .int .i64 e], .slice A1 l.length c1, .slice A2 load.length c2] w fun e_ w' => e_ = .returned (.tuple #[.bool (refGoesR d e l load r2).1, .bool (refGoesR d e l load r2).2]) ∧ Below w.heap.size w w' := by
  obtain ⟨q, hq⟩ : ∃ q, refGoesR d e l load r2 = q := ⟨_, rfl⟩
  obtain ⟨q1, q2⟩ := q
  rw [hq]
  have Hq := Lib.hid hq
  have Hv := Lib.hid hv
  have Hbd := Lib.hid hbd
  have HB := Lib.hid hB
  have hwb := Lib.hid (refWeight_bd l load (fun x hx => (hbd x hx).2) hv)
  clear hq hv hbd hB
  go_enter Tryd.func24, Tryd.ntmps24
  go_wp2
  go_loopw [9] (fun i W => ∃ k : Nat, k ≤ load.length ∧ i = .int .i64 k ∧ Box W w.heap.size #[.int .i64 a, .int .i64 b, .int .i64 c, .int .i64 d, .int .i64 e] 23 ∧ Box W (w.heap.size + 1) #[.int .i64 (refWeightK l load k).1, .int .i64 (refWeightK l load k).2] 36 ∧ Below w.heap.size w W ∧ Hid (refNearK l load e k = true)) (fun i _ => load.length - (intOf i).toNat)
  case atStart => exact ⟨0, Nat.zero_le _, rfl, (Box.new _ _ _).alloc _, Box.new' _ _ _ (by simp), ((Below.refl _ _).alloc (Nat.le_refl _) _).alloc (by simp) _, Lib.hid rfl⟩
  case round =>
    obtain ⟨k, hk, rfl, x3, x8, hbl, hnr⟩ := hrel
    by_cases hlt : k < load.length
    · obtain ⟨al, e1, s1⟩ := Kd.at_int (Kd.C_below hr2 hbl) k (by omega) (by omega)
      subst e1
      rw [Int.toNat_natCast] at s1
      have hra : refAt l load k = rd_T74 l (rd load k) := rfl
      obtain ⟨i, hi⟩ : ∃ i, rd load k = i := ⟨_, rfl⟩
      obtain ⟨v1, v2⟩ := Hv.out k hlt
      rw [hi] at s1 v1 v2 hra
      obtain ⟨i, rfl⟩ : ∃ n : Nat, i = n := ⟨i.toNat, by omega⟩
      obtain ⟨ad, e2, g0, g1, g2, g3, g4, g5⟩ := at_T74 (Kd.C_below hr1 hbl) i (by omega) (by omega)
      subst e2
      rw [Int.toNat_natCast] at g0 g1 g2 g3 g4 g5
      rw [← hra] at g0 g1 g2 g3 g4 g5
      have hbk := (Hbd.out (refAt l load k) (by rw [hra]; exact rd_mem (by omega))).1
      clear hra hi
      have hsw := Lib.hid (refWeightK_succ l load k)
      have hws := Lib.hid (hwb.out k hk)
      have hws' := Lib.hid (hwb.out (k + 1) (by omega))
      obtain ⟨s, hs⟩ : ∃ v, refAt l load k = v := ⟨_, rfl⟩
      have Hs := Lib.hid hs
      rw [hs] at g0 g1 g2 g3 g4 g5 hsw hbk
      clear hs
      obtain ⟨p0, hp0⟩ : ∃ v, (refWeightK l load k).1 = v := ⟨_, rfl⟩
      obtain ⟨q0, hq0⟩ : ∃ v, (refWeightK l load k).2 = v := ⟨_, rfl⟩
      rw [hp0, hq0] at x8 hsw hws
      clear hp0 hq0
      have hsz := hbl.size
      obtain ⟨wq, hwq⟩ : ∃ v, wr.alloc (.cells #[.int .i64 s.f0, .int .i64 s.f1, .int .i64 s.f2.f0, .int .i64 s.f2.f1, .int .i64 s.f3.f0, .int .i64 s.f3.f1] 74) = v := ⟨_, rfl⟩
      have z10 : Box wq wr.heap.size #[.int .i64 s.f0, .int .i64 s.f1, .int .i64 s.f2.f0, .int .i64 s.f2.f1, .int .i64 s.f3.f0, .int .i64 s.f3.f1] 74 := hwq ▸ Box.new _ _ _
      have z3 : Box wq w.heap.size #[.int .i64 a, .int .i64 b, .int .i64 c, .int .i64 d, .int .i64 e] 23 := hwq ▸ x3.alloc _
      have z8 : Box wq (w.heap.size + 1) #[.int .i64 p0, .int .i64 q0] 36 := hwq ▸ x8.alloc _
      have zbl : Below w.heap.size w wq := hwq ▸ hbl.alloc (by omega) _
      obtain ⟨B, hB⟩ : ∃ B, wr.heap.size = B := ⟨_, rfl⟩
      have h2 := x8.lt
      rw [hB] at h2 z10
      have d0 : wq.cell? ⟨w.heap.size + 1, 0, none⟩ = some (.int .i64 p0) := z8.cell 0 rfl
      have d1 : wq.cell? ⟨w.heap.size + 1, 1, none⟩ = some (.int .i64 q0) := z8.cell 1 rfl
      have d2 : wq.cell? ⟨B, 2, none⟩ = some (.int .i64 s.f2.f0) := z10.cell 2 rfl
      have d3 : wq.cell? ⟨B, 3, none⟩ = some (.int .i64 s.f2.f1) := z10.cell 3 rfl
      have f0 : wq.frozen? ⟨w.heap.size + 1, 0, none⟩ = false := z8.frozen 0
      have f1 : wq.frozen? ⟨w.heap.size + 1, 1, none⟩ = false := z8.frozen 1
      have d3s : ∀ u, (wq.setCell ⟨w.heap.size + 1, 0, none⟩ u).cell? ⟨B, 3, none⟩ = some (.int .i64 s.f2.f1) := fun u => (World.cell?_of_block (w := wq) (Below.heap_setCell wq ⟨w.heap.size + 1, 0, none⟩ u _ (by show B ≠ w.heap.size + 1; omega))).trans d3
      go_wp2
      clear hwq
      refine wp_region_ssaT 13 14 [0, 0, 0, 0, 0, 0, 0, 0, 1, 1, 1, 1, 0] [wq.drew.setCell ⟨w.heap.size + 1, 0, none⟩ (.int .i64 (p0 + s.f2.f0))] (by kernel_rfl) (by decide) (by kernel_rfl) (by kernel_rfl) (by kernel_rfl) ?_
      simp only [List.take_succ_cons, List.take_zero, List.drop_succ_cons, List.drop_zero, List.zip_cons_cons, List.zip_nil_left, List.zip_nil_right, Nat.reduceSub]
      have W1 := hws.out
      have W2 := hws'.out
      rw [hsw.out] at W2
      simp only at W1 W2
      clear hws hws'
      iterate 8 (refine ssa_step (fun K hK => ?_); simp only [wsF_zero]; go_simp; refine hK _ _ (fun s h1 h2 => absurd h1 (by omega)) ?_; clear hK K)
      iterate 4 (refine ssa_step (fun K hK => ?_); simp only [wsF_zero]; go_simp; refine hK _ _ (fun s h1 h2 K2 hK2 => ?_) ?_; (focus (have hs := Nat.le_antisymm h2 h1; subst hs; simp only [wsF_one]; go_simp; exact hK2)); clear hK K)
      (refine ssa_step (fun K hK => ?_); simp only [wsF_zero]; go_simp; refine hK _ _ (fun s h1 h2 => absurd h1 (by omega)) ?_; clear hK K)
      refine ⟨⟨⟨rfl, ?_⟩, trivial⟩, ?_⟩
      · go_simp
        rw [show IntKind.i64.wrap (p0 + s.f2.f0) = p0 + s.f2.f0 by simp [IntKind.wrap, IntKind.bits, IntKind.signed]; omega]
      simp only [wsF_one]
      have y3 := (z3.other (b' := w.heap.size + 1) (by omega) 0 (.int .i64 (p0 + s.f2.f0))).other (b' := w.heap.size + 1) (by omega) 1 (.int .i64 (q0 + s.f2.f1))
      have y10 := (z10.other (b' := w.heap.size + 1) (by omega) 0 (.int .i64 (p0 + s.f2.f0))).other (b' := w.heap.size + 1) (by omega) 1 (.int .i64 (q0 + s.f2.f1))
      have y8 := (z8.set 0 (.int .i64 (p0 + s.f2.f0))).set 1 (.int .i64 (q0 + s.f2.f1))
      have ybl := ((zbl.setCell (p := ⟨w.heap.size + 1, 0, none⟩) (by simp) (.int .i64 (p0 + s.f2.f0))).setCell (p := ⟨w.heap.size + 1, 1, none⟩) (by simp) (.int .i64 (q0 + s.f2.f1))).drew
      go_wp2
      go_loopw [11] (fun i W => ∃ j : Nat, j ≤ k ∧ i = .int .i64 j ∧ Box W w.heap.size #[.int .i64 a, .int .i64 b, .int .i64 c, .int .i64 d, .int .i64 e] 23 ∧ Box W (w.heap.size + 1) #[.int .i64 (refWeightK l load (k + 1)).1, .int .i64 (refWeightK l load (k + 1)).2] 36 ∧ Box W B #[.int .i64 s.f0, .int .i64 s.f1, .int .i64 s.f2.f0, .int .i64 s.f2.f1, .int .i64 s.f3.f0, .int .i64 s.f3.f1] 74 ∧ Below w.heap.size w W ∧ Hid (refNear1 l load e k j = true)) (fun i _ => k - (intOf i).toNat)
      case atStart => exact ⟨0, Nat.zero_le _, rfl, y3.drew, by rw [hsw.out]; exact y8.drew, y10.drew, ybl, Lib.hid rfl⟩
      case round =>
        obtain ⟨j, hj, rfl, t3, t8, t10, tbl, hnj⟩ := hrel
        by_cases hjk : j < k
        · obtain ⟨al', e3, s3⟩ := Kd.at_int (Kd.C_below hr2 tbl) j (by omega) (by omega)
          cases e3
          rw [Int.toNat_natCast] at s3
          have hra : refAt l load j = rd_T74 l (rd load j) := rfl
          obtain ⟨u, hu⟩ : ∃ u, rd load j = u := ⟨_, rfl⟩
          obtain ⟨v1', v2'⟩ := Hv.out j (by omega)
          rw [hu] at s3 v1' v2' hra
          obtain ⟨u, rfl⟩ : ∃ n : Nat, u = n := ⟨u.toNat, by omega⟩
          obtain ⟨ad', e4, k0, k1, k2, k3, k4, k5⟩ := at_T74 (Kd.C_below hr1 tbl) u (by omega) (by omega)
          cases e4
          rw [Int.toNat_natCast] at k0 k1 k2 k3 k4 k5
          rw [← hra] at k0 k1 k2 k3 k4 k5
          have hbj := (Hbd.out (refAt l load j) (by rw [hra]; exact rd_mem (by omega))).1
          clear hra hu
          have hn1 := Lib.hid (refNear1_succ l load e k j)
          rw [Hs.out] at hn1
          obtain ⟨s', hs'⟩ : ∃ v, refAt l load j = v := ⟨_, rfl⟩
          rw [hs'] at k0 k1 k2 k3 k4 k5 hn1 hbj
          clear hs'
          obtain ⟨wp, hwp⟩ : ∃ v, wr.alloc (.cells #[.int .i64 s'.f0, .int .i64 s'.f1, .int .i64 s'.f2.f0, .int .i64 s'.f2.f1, .int .i64 s'.f3.f0, .int .i64 s'.f3.f1] 74) = v := ⟨_, rfl⟩
          have q12 : Box wp wr.heap.size #[.int .i64 s'.f0, .int .i64 s'.f1, .int .i64 s'.f2.f0, .int .i64 s'.f2.f1, .int .i64 s'.f3.f0, .int .i64 s'.f3.f1] 74 := hwp ▸ Box.new _ _ _
          have q3 := hwp ▸ t3.alloc (.cells #[.int .i64 s'.f0, .int .i64 s'.f1, .int .i64 s'.f2.f0, .int .i64 s'.f2.f1, .int .i64 s'.f3.f0, .int .i64 s'.f3.f1] 74)
          have q8 := hwp ▸ t8.alloc (.cells #[.int .i64 s'.f0, .int .i64 s'.f1, .int .i64 s'.f2.f0, .int .i64 s'.f2.f1, .int .i64 s'.f3.f0, .int .i64 s'.f3.f1] 74)
          have q10 := hwp ▸ t10.alloc (.cells #[.int .i64 s'.f0, .int .i64 s'.f1, .int .i64 s'.f2.f0, .int .i64 s'.f2.f1, .int .i64 s'.f3.f0, .int .i64 s'.f3.f1] 74)
          have qbl : Below w.heap.size w wp := hwp ▸ tbl.alloc (by have := t3.lt; omega) _
          obtain ⟨C, hC⟩ : ∃ C, wr.heap.size = C := ⟨_, rfl⟩
          rw [hC] at q12
          have e12 : wp.cell? ⟨C, 1, none⟩ = some (.int .i64 s'.f1) := q12.cell 1 rfl
          have e10 : wp.cell? ⟨B, 1, none⟩ = some (.int .i64 s.f1) := q10.cell 1 rfl
          have e3 : wp.cell? ⟨w.heap.size, 4, none⟩ = some (.int .i64 e) := q3.cell 4 rfl
          go_wp2
          · rename_i hcm
            have hf : refNear1 l load e k (j + 1) = false := by rw [hn1.out]; simp; omega
            have hf2 := refNear1_le l load e k (show j + 1 ≤ k by omega) hf
            have hf3 : refNearK l load e (k + 1) = false := by rw [refNearK_succ, hf2]; simp
            have hf4 := refNearK_le l load e (show k + 1 ≤ load.length by omega) hf3
            have hq' := Hq.out
            unfold refGoesR at hq'
            rw [hf4] at hq'
            simp only [Bool.false_eq_true, if_false, Prod.mk.injEq] at hq'
            obtain ⟨rfl, rfl⟩ := hq'
            first
              | (go_ret2; exact ⟨rfl, qbl⟩)
              | (go_ret; exact ⟨rfl, qbl⟩)
              | (go_ret2; exact qbl)
              | (go_ret; exact qbl)

          · rename_i hcm
            refine ⟨⟨j + 1, by omega, by go_num, q3, q8, q10, qbl, Lib.hid ?_⟩, ?_⟩
            · rw [hn1.out, hnj.out]; simp; omega
            · simp [intOf]; omega
        · obtain rfl : j = k := by omega
          go_wp2
          refine ⟨⟨j + 1, by omega, by go_num, t3, t8, tbl, Lib.hid ?_⟩, ?_⟩
          · rw [refNearK_succ, hnr.out, hnj.out]; rfl
          · simp [intOf]; omega
    · obtain rfl : k = load.length := by omega
      go_wp2_with fail
      refine (refheat_calls l load A1 A2 c1 c2 wr (Kd.C_below hr1 hbl) (Kd.C_below hr2 hbl) Hv.out).mono ?_
      rintro e_ w1 ⟨rfl, hb1⟩
      have hfin := Hq.out
      unfold refGoesR at hfin
      rw [hnr.out] at hfin
      generalize refHeatR l load = T at hfin ⊢
      obtain ⟨t1, t2, t3⟩ := T
      dsimp only at hfin
      have hB' := HB.out hnr.out
      have y3 := x3.step hb1
      have y8 := x8.step hb1
      have hb2 := hbl.trans (hb1.mono (by have := x3.lt; omega))
      obtain ⟨wa, hwa⟩ : ∃ v, w1.alloc (.cells #[.int .i64 t1, .int .i64 t2] 36) = v := ⟨_, rfl⟩
      have z3 : Box wa w.heap.size #[.int .i64 a, .int .i64 b, .int .i64 c, .int .i64 d, .int .i64 e] 23 := hwa ▸ y3.alloc _
      have z8 : Box wa (w.heap.size + 1) #[.int .i64 (refWeightK l load load.length).1, .int .i64 (refWeightK l load load.length).2] 36 := hwa ▸ y8.alloc _
      have zbl : Below w.heap.size w wa := hwa ▸ hb2.alloc (by have := y3.lt; omega) _
      have e0 : wa.cell? ⟨w.heap.size, 0, none⟩ = some (.int .i64 a) := z3.cell 0 rfl
      have e1 : wa.cell? ⟨w.heap.size, 1, none⟩ = some (.int .i64 b) := z3.cell 1 rfl
      have e2 : wa.cell? ⟨w.heap.size, 2, none⟩ = some (.int .i64 c) := z3.cell 2 rfl
      have e3 : wa.cell? ⟨w.heap.size, 3, none⟩ = some (.int .i64 d) := z3.cell 3 rfl
      have e4 : wa.cell? ⟨w.heap.size, 4, none⟩ = some (.int .i64 e) := z3.cell 4 rfl
      go_wp2_with fail
      refine (smaltoref03_Bars.calls K a b c d e A1 c1 l A2 c2 load (fun _ => False) _ [] r1 r2 wa wa (Below.refl _ _) (Kd.C_kept_came ⟨fun _ h => h⟩ hr1 zbl (fun _ h => h.elim)) hc1 (Kd.C_kept_came (Kd.heap_int _) hr2 zbl (fun _ h => h.elim)) hc2 (Kd.R_nil _ _ _ _ _) hB').mono ?_
      rintro e_ w2 ⟨v0, rfl, hR, hb3, hkk⟩
      have u3 := z3.step hb3
      have u8 := z8.step hb3
      have ubl := zbl.trans (hb3.mono (by have := z3.lt; omega))
      have i3 : w2.cell? ⟨w.heap.size, 3, none⟩ = some (.int .i64 d) := u3.cell 3 rfl
      have i8 : w2.cell? ⟨w.heap.size + 1, 0, none⟩ = some (.int .i64 (refWeightK l load load.length).1) := u8.cell 0 rfl
      have i9 : w2.cell? ⟨w.heap.size + 1, 1, none⟩ = some (.int .i64 (refWeightK l load load.length).2) := u8.cell 1 rfl
      simp only [if_true, Prod.mk.injEq] at hfin
      obtain ⟨hf1, hf2⟩ := hfin
      clear hB' HB hR hkk
      obtain ⟨x1, hx1⟩ : ∃ v, (refWeightK l load load.length).1 = v := ⟨_, rfl⟩
      obtain ⟨x2, hx2⟩ : ∃ v, (refWeightK l load load.length).2 = v := ⟨_, rfl⟩
      rw [hx1] at i8 hf2
      rw [hx2] at i9 hf1
      clear hx1 hx2 u8 z8 y8 x8
      obtain ⟨o1, ho1⟩ : ∃ v, decide (x1 ≤ d) = v := ⟨_, rfl⟩
      obtain ⟨o2, ho2⟩ : ∃ v, decide (x2 ≤ d) = v := ⟨_, rfl⟩
      rw [ho1] at hf2
      rw [ho2] at hf1
      go_wp2_with fail
      have ho1' : decide (x1 ≤ d) = o1 := ho1
      have ho2' : decide (x2 ≤ d) = o2 := ho2
      cases t3 <;> cases r2 <;> simp at hf1 hf2 <;> subst hf1 hf2
      all_goals
        go_quiet (fail)
        try go_wp2
        go_ret2
        exact ⟨rfl, pw_below_drewN ubl nq⟩
end Go.Proofs.YtbijamlgcebgeaaDoor.Hand

-- part JB
namespace Go.Proofs.YtbijamlgcebgeaaDoor.Hand
open Go.RowKit Go.Shelf Go.Sort Go.Proofs.YtbijamlgcebgeaaDoorW.PrintWords Go.Proofs.YtbijamlgcebgeaaDoorW.PrintMore Go.Proofs.YtbijamlgcebgeaaDoor.Q

theorem rd_range (load : List Int) : (List.range load.length).map (fun (j : Nat) => rd load j) = load := by
  apply List.ext_getElem
  · simp
  · intro i h1 h2
    simp [rd_get h2]
theorem foldl_rd {α : Type} (f : α → Int → α) (load : List Int) (z : α) : (List.range load.length).foldl (fun s (j : Nat) => f s (rd load j)) z = load.foldl f z := by
  conv => rhs; rw [← rd_range load]
  rw [List.foldl_map]
theorem all_rd (p : Int → Bool) (load : List Int) : (List.range load.length).all (fun (j : Nat) => p (rd load j)) = load.all p := by
  conv => rhs; rw [← rd_range load]
  rw [List.all_map]
  rfl
section
variable {l : List S74} {load : List Int} {s : Nat}
theorem heat_same (h : (bitsOf s).map Int.ofNat = load) : refHeatK l load load.length = heatB l (bitsOf s) := by
  unfold refHeatK heatB
  rw [foldl_rd (fun (s : Int × Int) x => (mx s.1 (rd_T74 l x).f3.f0, mn s.2 (rd_T74 l x).f3.f1)) load, ← h, List.foldl_map]
  rfl
theorem weight_pair : ∀ (is : List Nat) (a b : Int), is.foldl (fun (s : Int × Int) i => (s.1 + (l.getD i z74).f2.f0, s.2 + (l.getD i z74).f2.f1)) (a, b) = ((is.map fun i => (l.getD i z74).f2.f0).foldl (· + ·) a, (is.map fun i => (l.getD i z74).f2.f1).foldl (· + ·) b)
  | [], _, _ => rfl
  | i :: is, a, b => by simp only [List.foldl_cons, List.map_cons]; exact weight_pair is _ _
theorem weight_same (h : (bitsOf s).map Int.ofNat = load) : refWeightK l load load.length = (sumB (fun x => x.f2.f0) l (bitsOf s), sumB (fun x => x.f2.f1) l (bitsOf s)) := by
  unfold refWeightK refAt sumB
  rw [foldl_rd (fun (s : Int × Int) x => (s.1 + (rd_T74 l x).f2.f0, s.2 + (rd_T74 l x).f2.f1)) load, ← h, List.foldl_map]
  exact weight_pair _ _ _
end
/-- The least and the greatest of some numbers. -/
theorem ends_of : ∀ (hs : List Int) (a b : Int), let r := hs.foldl (fun (h : Int × Int) x => (mn h.1 x, mx h.2 x)) (a, b)
    r.1 ≤ a ∧ b ≤ r.2 ∧ (∀ x ∈ hs, r.1 ≤ x ∧ x ≤ r.2) ∧ (r.1 = a ∨ r.1 ∈ hs) ∧ (r.2 = b ∨ r.2 ∈ hs) := by
  intro hs
  induction hs with
  | nil => intro a b; simp
  | cons x hs ih =>
    intro a b
    obtain ⟨h1, h2, h3, h4, h5⟩ := ih (mn a x) (mx b x)
    simp only [List.foldl_cons]
    have m1 : mn a x ≤ a ∧ mn a x ≤ x ∧ (mn a x = a ∨ mn a x = x) := by unfold mn; split <;> omega
    have m2 : b ≤ mx b x ∧ x ≤ mx b x ∧ (mx b x = b ∨ mx b x = x) := by unfold mx; split <;> omega
    refine ⟨by omega, by omega, ?_, ?_, ?_⟩
    · intro y hy
      rcases List.mem_cons.1 hy with rfl | hy
      · omega
      · exact h3 y hy
    · rcases h4 with h4 | h4
      · rcases m1.2.2 with h | h
        · left; omega
        · right; rw [h4, h]; simp
      · right; simp [h4]
    · rcases h5 with h5 | h5
      · rcases m2.2.2 with h | h
        · left; omega
        · right; rw [h5, h]; simp
      · right; simp [h5]
theorem refNear_iff (l : List S74) (load : List Int) (e : Int) : refNearK l load e load.length = true ↔ ∀ i k : Nat, k < i → i < load.length → ((refAt l load i).f1 - (refAt l load k).f1 ≤ e ∧ (refAt l load k).f1 - (refAt l load i).f1 ≤ e) := by
  unfold refNearK refNear1
  simp only [List.all_eq_true, List.mem_range, decide_eq_true_eq]
  have hm : ∀ a b : Int, mx a b ≤ e ↔ (a ≤ e ∧ b ≤ e) := fun a b => by unfold mx; split <;> omega
  constructor
  · intro h i k hk hi; exact (hm _ _).1 (h i hi k hk)
  · intro h i hi k hk; exact (hm _ _).2 (h i k hk hi)
theorem near_same {l : List S74} {load : List Int} {s : Nat} {e : Int} (he : 0 ≤ e) (hb : ∀ x ∈ l, 1 ≤ x.f1 ∧ x.f1 ≤ 100) (h : (bitsOf s).map Int.ofNat = load) (hi : ∀ i ∈ bitsOf s, i < l.length) : refNearK l load e load.length = alikeB l e s := by
  rw [Bool.eq_iff_iff, refNear_iff]
  unfold alikeB highB
  rw [decide_eq_true_eq]
  have hfold : (bitsOf s).foldl (fun (h : Int × Int) i => (mn h.1 (l.getD i z74).f1, mx h.2 (l.getD i z74).f1)) (100, 0) = ((bitsOf s).map fun i => (l.getD i z74).f1).foldl (fun (h : Int × Int) x => (mn h.1 x, mx h.2 x)) (100, 0) := by rw [List.foldl_map]
  rw [hfold]
  obtain ⟨h1, h2, h3, h4, h5⟩ := ends_of ((bitsOf s).map fun i => (l.getD i z74).f1) 100 0
  generalize hr : ((bitsOf s).map fun i => (l.getD i z74).f1).foldl (fun (h : Int × Int) x => (mn h.1 x, mx h.2 x)) (100, 0) = r at h1 h2 h3 h4 h5 ⊢
  have hlen : (bitsOf s).length = load.length := by rw [← h]; simp
  have hat : ∀ i : Nat, (hl : i < load.length) → (refAt l load i).f1 = (l.getD ((bitsOf s)[i]'(by omega)) z74).f1 := by
    intro i hl
    subst h
    unfold refAt
    rw [rd_get hl]
    simp [rd_T74]
  have hin : ∀ i : Nat, i < load.length → (refAt l load i).f1 ∈ (bitsOf s).map fun i => (l.getD i z74).f1 := by
    intro i hl
    rw [hat i hl]
    exact List.mem_map.2 ⟨_, List.getElem_mem _, rfl⟩
  have hof : ∀ x ∈ (bitsOf s).map (fun i => (l.getD i z74).f1), ∃ i, i < load.length ∧ (refAt l load i).f1 = x := by
    intro x hx
    obtain ⟨j, hj, rfl⟩ := List.mem_map.1 hx
    obtain ⟨i, hil, rfl⟩ := List.getElem_of_mem hj
    exact ⟨i, by omega, hat i (by omega)⟩
  have hpos : ∀ x ∈ (bitsOf s).map (fun i => (l.getD i z74).f1), 1 ≤ x ∧ x ≤ 100 := by
    intro x hx
    obtain ⟨j, hj, rfl⟩ := List.mem_map.1 hx
    have hjl := hi j hj
    rw [List.getD_eq_getElem?_getD, List.getElem?_eq_getElem hjl]
    exact hb _ (List.getElem_mem hjl)
  constructor
  · intro hp
    by_cases hne : load.length = 0
    · have : bitsOf s = [] := List.length_eq_zero_iff.1 (by omega)
      rw [this] at hr
      subst hr
      simp
      omega
    · have hx0 := hin 0 (by omega)
      have hb0 := hpos _ hx0
      have hl4 : r.1 ∈ (bitsOf s).map (fun i => (l.getD i z74).f1) := by
        rcases h4 with h4 | h4
        · have := h3 _ hx0
          have hx : (refAt l load 0).f1 = 100 := by omega
          rw [h4, ← hx]; exact hx0
        · exact h4
      have hl5 : r.2 ∈ (bitsOf s).map (fun i => (l.getD i z74).f1) := by
        rcases h5 with h5 | h5
        · have := h3 _ hx0
          omega
        · exact h5
      obtain ⟨i, hi1, hi2⟩ := hof _ hl4
      obtain ⟨k, hk1, hk2⟩ := hof _ hl5
      rcases Nat.lt_trichotomy i k with hlt | rfl | hlt
      · have := hp k i hlt hk1; omega
      · omega
      · have := hp i k hlt hi1; omega
  · intro hr' i k hk hil
    have e1 := h3 _ (hin i hil)
    have e2 := h3 _ (hin k (by omega))
    omega
end Go.Proofs.YtbijamlgcebgeaaDoor.Hand

-- part JC
namespace Go.Proofs.YtbijamlgcebgeaaDoor.Hand
open Go.RowKit Go.Shelf Go.Sort Go.Proofs.YtbijamlgcebgeaaDoorW.PrintWords Go.Proofs.YtbijamlgcebgeaaDoorW.PrintMore Go.Proofs.YtbijamlgcebgeaaDoor.Q

/-- How long the first i signs on bar b are, and how many they are. -/
def lieK (l : List S74) (load begun : List Int) (b : Int) : Nat → Int × Int
  | 0 => (0, 0)
  | i + 1 => if rd begun i = b then ((lieK l load begun b i).1 + (rd_T74 l (rd load i)).f0, (lieK l load begun b i).2 + 1) else lieK l load begun b i
def lieB (a b c : Int) (l : List S74) (load begun : List Int) (x : Int) : Bool := !(decide (0 < (lieK l load begun x load.length).2) && decide (b < (lieK l load begun x load.length).1 + c * ((lieK l load begun x load.length).2 - 1)))
def lieAll (a b c : Int) (l : List S74) (load begun : List Int) : Nat → Int → Bool
  | 0, _ => true
  | d + 1, x => lieB a b c l load begun x && lieAll a b c l load begun d (x + 1)

section
variable {a b c d e : Int} {l : List S74} {load begun : List Int}
theorem lieK_bd (hb : ∀ x ∈ l, 1 ≤ x.f0 ∧ x.f0 ≤ 200) (hv : ∀ j : Nat, j < load.length → 0 ≤ rd load j ∧ rd load j < l.length) (x : Int) : ∀ i, i ≤ load.length → 0 ≤ (lieK l load begun x i).1 ∧ (lieK l load begun x i).1 ≤ 200 * i ∧ 0 ≤ (lieK l load begun x i).2 ∧ (lieK l load begun x i).2 ≤ i ∧ ((lieK l load begun x i).2 = 0 → (lieK l load begun x i).1 = 0) := by
  intro i
  induction i with
  | zero => intro _; simp [lieK]
  | succ i ih =>
    intro hi
    have h1 := ih (by omega)
    have h2 := hv i (by omega)
    obtain ⟨j, hj⟩ : ∃ j : Nat, rd load i = j := ⟨(rd load i).toNat, by omega⟩
    have h3 := hb (rd_T74 l (rd load i)) (by rw [hj]; exact rd_mem (by omega))
    unfold lieK
    split
    · simp only; omega
    · omega
theorem Lie_l1 (hb : ∀ x ∈ l, 1 ≤ x.f0 ∧ x.f0 ≤ 200) (hv : ∀ j : Nat, j < load.length → 0 ≤ rd load j ∧ rd load j < l.length) (hlen : begun.length = load.length) (hn : load.length ≤ 1000) (hb1 : 0 ≤ b ∧ b ≤ 200) (hc1 : 0 ≤ c ∧ c ≤ 20) (x : Int) (hx : 0 ≤ x ∧ x ≤ 3) :
    ∀ n i k : Nat, i + n = load.length → smaltoref03_Lie.l1 (k + n + 1) l load begun x (lieK l load begun x i).1 (lieK l load begun x i).2 i a b c d e = if lieB a b c l load begun x = true then smaltoref03_Lie.l0 k l load begun (x + 1) a b c d e else some false := by
  intro n
  induction n with
  | zero =>
    intro i k h
    obtain rfl : i = load.length := by omega
    have h1 := lieK_bd (begun := begun) hb hv x load.length (Nat.le_refl _)
    unfold smaltoref03_Lie.l1
    rw [if_neg (by omega), w64 (x := x + 1) (by omega)]
    unfold lieB
    generalize hq : lieK l load begun x load.length = q at h1 ⊢
    have hcm : 0 ≤ c * q.2 ∧ c * q.2 ≤ 20 * 1000 := ⟨Int.mul_nonneg hc1.1 h1.2.2.1, Int.le_trans (Int.mul_le_mul_of_nonneg_right hc1.2 h1.2.2.1) (by omega)⟩
    have hce : c * (q.2 - 1) = c * q.2 - c := by rw [Int.mul_sub, Int.mul_one]
    rw [w64 (x := q.2 - 1) (by omega), hce, w64 (x := c * q.2 - c) (by omega), w64 (by omega)]
    by_cases h2 : q.2 > 0
    · rw [if_pos h2]
      by_cases h3 : q.1 + (c * q.2 - c) > b
      · rw [if_pos h3, if_neg (by simp; omega)]
      · rw [if_neg h3, if_pos (by simp; omega)]
    · rw [if_neg h2, if_pos (by simp; omega)]
  | succ n ih =>
    intro i k h
    have h1 := lieK_bd (begun := begun) hb hv x i (by omega)
    have h2 := hv i (by omega)
    obtain ⟨j, hj⟩ : ∃ j : Nat, rd load i = j := ⟨(rd load i).toNat, by omega⟩
    have h3 := hb (rd_T74 l (rd load i)) (by rw [hj]; exact rd_mem (by omega))
    have hih := ih (i + 1) k (by omega)
    rw [show k + (n + 1) + 1 = (k + n + 1) + 1 by omega]
    unfold smaltoref03_Lie.l1
    rw [if_pos (by omega), if_pos (by omega), if_pos (by omega), w64 (x := (i : Int) + 1) (by omega)]
    rw [show ((i + 1 : Nat) : Int) = (i : Int) + 1 by omega] at hih
    unfold lieK at hih
    by_cases hr : rd begun i = x
    · rw [if_pos hr] at hih ⊢
      rw [if_pos h2.1, if_pos h2.2, w64 (x := (lieK l load begun x i).2 + 1) (by omega), w64 (x := (lieK l load begun x i).1 + _) (by omega)]
      exact hih
    · rw [if_neg hr] at hih ⊢
      exact hih
theorem Lie_l0 (hb : ∀ x ∈ l, 1 ≤ x.f0 ∧ x.f0 ≤ 200) (hv : ∀ j : Nat, j < load.length → 0 ≤ rd load j ∧ rd load j < l.length) (hlen : begun.length = load.length) (hn : load.length ≤ 1000) (hb1 : 0 ≤ b ∧ b ≤ 200) (hc1 : 0 ≤ c ∧ c ≤ 20) (ha : a ≤ 3) :
    ∀ (n : Nat) (x : Int) (k : Nat), 0 ≤ x → x + n = a → n * (load.length + 2) < k → smaltoref03_Lie.l0 k l load begun x a b c d e = some (lieAll a b c l load begun n x) := by
  intro n
  induction n with
  | zero =>
    intro x k hx h hk
    obtain ⟨k, rfl⟩ : ∃ j, k = j + 1 := ⟨k - 1, by omega⟩
    unfold smaltoref03_Lie.l0 lieAll
    rw [if_neg (by omega)]
  | succ n ih =>
    intro x k hx h hk
    have hk' : n * (load.length + 2) + load.length + 2 < k := by rw [Nat.succ_mul] at hk; omega
    obtain ⟨k, rfl⟩ : ∃ j, k = (j + load.length + 1) + 1 := ⟨k - (load.length + 2), by omega⟩
    have := Lie_l1 (a := a) (b := b) (c := c) (d := d) (e := e) hb hv hlen hn hb1 hc1 x (by omega) load.length 0 k (by omega)
    unfold smaltoref03_Lie.l0 lieAll
    rw [if_pos (by omega)]
    rw [show lieK l load begun x 0 = (0, 0) from rfl] at this
    rw [show ((0 : Nat) : Int) = 0 from rfl] at this
    rw [this, ih (x + 1) k (by omega) (by omega) (by omega)]
    cases lieB a b c l load begun x <;> simp
end

/-- What the signs take that lie on bar x so far: each with the gap behind it. -/
def costK (c : Int) (l : List S74) (load begun : List Int) (x : Int) (i : Nat) : Int := (lieK l load begun x i).1 + c * (lieK l load begun x i).2
theorem costK_zero (c : Int) (l : List S74) (load begun : List Int) (x : Int) : costK c l load begun x 0 = 0 := by simp [costK, lieK]
theorem costK_succ (c : Int) (l : List S74) (load begun : List Int) (x : Int) (i : Nat) : costK c l load begun x (i + 1) = if rd begun i = x then costK c l load begun x i + ((rd_T74 l (rd load i)).f0 + c) else costK c l load begun x i := by
  unfold costK
  rw [lieK]
  split
  · simp only [Int.mul_add, Int.mul_one]; omega
  · rfl
theorem lieK_congr (l : List S74) (load : List Int) {b1 b2 : List Int} (x : Int) : ∀ i : Nat, (∀ j : Nat, j < i → rd b1 j = rd b2 j) → lieK l load b1 x i = lieK l load b2 x i := by
  intro i
  induction i with
  | zero => intro _; rfl
  | succ i ih => intro h; rw [lieK, lieK, h i (by omega), ih (fun j hj => h j (by omega))]
theorem rd_snoc_lt {xs : List Int} {y : Int} {j : Nat} (h : j < xs.length) : rd (xs ++ [y]) j = rd xs j := by
  rw [rd_get h, rd_get (by simp; omega), List.getElem_append_left h]
theorem rd_snoc_at (xs : List Int) (y : Int) : rd (xs ++ [y]) (xs.length : Nat) = y := by
  rw [rd_get (by simp)]; simp
theorem costK_snoc (c : Int) (l : List S74) (load begun : List Int) (y x : Int) : costK c l load (begun ++ [y]) x (begun.length + 1) = if y = x then costK c l load begun x begun.length + ((rd_T74 l (rd load begun.length)).f0 + c) else costK c l load begun x begun.length := by
  rw [costK_succ, rd_snoc_at]
  have : costK c l load (begun ++ [y]) x begun.length = costK c l load begun x begun.length := by
    unfold costK
    rw [lieK_congr l load x begun.length (fun j hj => rd_snoc_lt hj)]
  rw [this]
theorem lieAll_iff (a b c : Int) (l : List S74) (load begun : List Int) : ∀ (n : Nat) (x : Int), lieAll a b c l load begun n x = true ↔ ∀ y : Int, x ≤ y → y < x + n → lieB a b c l load begun y = true := by
  intro n
  induction n with
  | zero => intro x; simp [lieAll]; omega
  | succ n ih =>
    intro x
    rw [lieAll, Bool.and_eq_true, ih]
    constructor
    · rintro ⟨h1, h2⟩ y hy hy2
      by_cases hxy : y = x
      · rw [hxy]; exact h1
      · exact h2 y (by omega) (by omega)
    · intro h
      exact ⟨h x (by omega) (by omega), fun y hy hy2 => h y (by omega) (by omega)⟩
theorem lieB_cost {a b c : Int} {l : List S74} {load begun : List Int} (hb : ∀ x ∈ l, 1 ≤ x.f0 ∧ x.f0 ≤ 200) (hv : ∀ j : Nat, j < load.length → 0 ≤ rd load j ∧ rd load j < l.length) (hb1 : 0 ≤ b) (hc1 : 0 ≤ c) (x : Int) : lieB a b c l load begun x = decide (costK c l load begun x load.length ≤ b + c) := by
  have h1 := lieK_bd (begun := begun) hb hv x load.length (Nat.le_refl _)
  unfold lieB costK
  generalize lieK l load begun x load.length = q at h1 ⊢
  rw [Int.mul_sub, Int.mul_one]
  rw [Bool.eq_iff_iff]
  simp only [Bool.not_eq_true', Bool.and_eq_false_iff, decide_eq_false_iff_not, decide_eq_true_eq]
  by_cases h0 : q.2 = 0
  · have := h1.2.2.2.2 h0
    rw [h0]; simp; omega
  · omega

theorem Room.get_put (r : Room) (i : Nat) (v : Int) (hi : i < 3) (j : Nat) (hj : j < 3) : (r.put i v).get j = if j = i then v else r.get j := by
  match i, hi, j, hj with
  | 0, _, 0, _ => rfl
  | 0, _, 1, _ => rfl
  | 0, _, 2, _ => rfl
  | 1, _, 0, _ => rfl
  | 1, _, 1, _ => rfl
  | 1, _, 2, _ => rfl
  | 2, _, 0, _ => rfl
  | 2, _, 1, _ => rfl
  | 2, _, 2, _ => rfl

/-- The bars of the reference, from a beginning on. -/
theorem Bars_eq (F : Furn) (hF : F.Ok) (load : List Int) (is : List Nat) (his : is.map Int.ofNat = load) (hil : ∀ i ∈ is, i < F.l.length) (hn : load.length ≤ 6) :
    ∀ (n : Nat) (begun : List Int) (k : Nat), begun.length + n = load.length → 60 + 5 * n ≤ k →
      ((∃ x : Nat, x < F.bars.toNat ∧ F.length + F.gap < costK F.gap F.l load begun x begun.length) → ∃ X, smaltoref03_Bars.f k F.bars F.length F.gap F.load F.near F.l load begun = some (X, false)) ∧
      (∀ free : Room, (∀ x : Nat, x < F.bars.toNat → free.get x = F.length + F.gap - costK F.gap F.l load begun x begun.length ∧ 0 ≤ free.get x) →
        ∃ X, smaltoref03_Bars.f k F.bars F.length F.gap F.load F.near F.l load begun = some (match barsB F (is.drop begun.length) free with | some m => (begun ++ m, true) | none => (X, false))) := by
  have hbars := hF.bars
  have hgap := hF.gap
  have hlg := hF.length
  have hb : ∀ x ∈ F.l, 1 ≤ x.f0 ∧ x.f0 ≤ 200 := fun x hx => (hF.signs x hx).1
  have hv : ∀ j : Nat, j < load.length → 0 ≤ rd load j ∧ rd load j < F.l.length := by
    intro j hj
    rw [rd_get hj]
    subst his
    rw [List.getElem_map]
    have := hil (is[j]'(by simpa using hj)) (List.getElem_mem _)
    simp only [Int.ofNat_eq_natCast]
    omega
  have hil2 : is.length = load.length := by rw [← his]; simp
  intro n
  induction n with
  | zero =>
    intro begun k h hk
    obtain ⟨k, rfl⟩ : ∃ j, k = j + 1 := ⟨k - 1, by omega⟩
    have hL : smaltoref03_Lie.f k F.bars F.length F.gap F.load F.near F.l load begun = some (lieAll F.bars F.length F.gap F.l load begun F.bars.toNat 0) := by
      unfold smaltoref03_Lie.f
      refine Lie_l0 hb hv (by omega) (by omega) (by omega) (by omega) (by omega) F.bars.toNat 0 k (by omega) (by omega) ?_
      have : F.bars.toNat * (load.length + 2) ≤ 3 * 8 := Nat.mul_le_mul (by omega) (by omega)
      omega
    have hf : smaltoref03_Bars.f (k + 1) F.bars F.length F.gap F.load F.near F.l load begun = some (begun, lieAll F.bars F.length F.gap F.l load begun F.bars.toNat 0) := by
      unfold smaltoref03_Bars.f
      rw [if_pos (by omega), hL]
      rfl
    have hbl : begun.length = load.length := by omega
    constructor
    · rintro ⟨x, hx, hc⟩
      refine ⟨begun, ?_⟩
      rw [hf]
      have : lieAll F.bars F.length F.gap F.l load begun F.bars.toNat 0 = false := by
        rw [Bool.eq_false_iff]
        intro hc2
        have := (lieAll_iff _ _ _ _ _ _ _ _).1 hc2 x (by omega) (by omega)
        rw [lieB_cost hb hv (by omega) (by omega), decide_eq_true_eq, ← hbl] at this
        omega
      rw [this]
    · intro free hfree
      refine ⟨begun, ?_⟩
      rw [hf, List.drop_eq_nil_of_le (by omega)]
      have : lieAll F.bars F.length F.gap F.l load begun F.bars.toNat 0 = true := by
        rw [lieAll_iff]
        intro y hy hy2
        obtain ⟨x, rfl⟩ : ∃ x : Nat, y = x := ⟨y.toNat, by omega⟩
        rw [lieB_cost hb hv (by omega) (by omega), decide_eq_true_eq, ← hbl]
        have := hfree x (by omega)
        omega
      rw [this]
      simp [barsB]
  | succ n ih =>
    intro begun k h hk
    obtain ⟨k, rfl⟩ : ∃ j, k = j + 1 := ⟨k - 1, by omega⟩
    have hf : smaltoref03_Bars.f (k + 1) F.bars F.length F.gap F.load F.near F.l load begun = smaltoref03_Bars.l0 k F.l load begun 0 F.bars F.length F.gap F.load F.near := by
      conv => lhs; unfold smaltoref03_Bars.f
      rw [if_neg (by omega)]
    have step : ∀ (x : Nat) (q : Nat), x < F.bars.toNat → smaltoref03_Bars.l0 (q + 1) F.l load begun x F.bars F.length F.gap F.load F.near = (smaltoref03_Bars.f q F.bars F.length F.gap F.load F.near F.l load (begun ++ [(x : Int)])).bind fun bt => if bt.2 = true then some (bt.1, true) else smaltoref03_Bars.l0 q F.l load begun ((x : Int) + 1) F.bars F.length F.gap F.load F.near := by
      intro x q hx
      conv => lhs; unfold smaltoref03_Bars.l0
      rw [if_pos (by omega)]
      simp only [Option.bind_some, List.nil_append, List.length_nil, List.length_cons]
      rw [if_pos (by omega), if_pos (by omega), w64 (by omega)]
    have stop : ∀ q : Nat, smaltoref03_Bars.l0 (q + 1) F.l load begun F.bars F.bars F.length F.gap F.load F.near = some ([], false) := by
      intro q
      unfold smaltoref03_Bars.l0
      rw [if_neg (by omega)]
    have hlast : F.bars = (F.bars.toNat : Int) := by omega
    have hlong := hb (rd_T74 F.l (rd load begun.length)) (by
      have := hv begun.length (by omega)
      obtain ⟨j, hj⟩ : ∃ j : Nat, rd load begun.length = j := ⟨(rd load begun.length).toNat, by omega⟩
      rw [hj]; exact rd_mem (by omega))
    constructor
    · rintro ⟨x0, hx0, hc⟩
      have key : ∀ (m x q : Nat), x + m = F.bars.toNat → 60 + 5 * n + m + 1 ≤ q → ∃ X, smaltoref03_Bars.l0 q F.l load begun x F.bars F.length F.gap F.load F.near = some (X, false) := by
        intro m
        induction m with
        | zero =>
          intro x q hx hq
          obtain ⟨q, rfl⟩ : ∃ j, q = j + 1 := ⟨q - 1, by omega⟩
          rw [show ((x : Nat) : Int) = F.bars by omega, stop]
          exact ⟨_, rfl⟩
        | succ m ihm =>
          intro x q hx hq
          obtain ⟨q, rfl⟩ : ∃ j, q = j + 1 := ⟨q - 1, by omega⟩
          obtain ⟨X, hX⟩ := (ih (begun ++ [(x : Int)]) q (by simp; omega) (by omega)).1 ⟨x0, hx0, by
            rw [List.length_append, List.length_singleton, costK_snoc]
            split <;> omega⟩
          rw [step x q (by omega), hX]
          simp only [Option.bind_some, Bool.false_eq_true, if_false]
          have := ihm (x + 1) q (by omega) (by omega)
          rw [show ((x + 1 : Nat) : Int) = (x : Int) + 1 by omega] at this
          exact this
      rw [hf]
      have := key F.bars.toNat 0 k (by omega) (by omega)
      exact this
    · intro free hfree
      have hdrop : is.drop begun.length = is[begun.length]'(by omega) :: is.drop (begun.length + 1) := List.drop_eq_getElem_cons (by omega)
      have hri : rd load begun.length = ((is[begun.length]'(by omega) : Nat) : Int) := by
        subst his
        rw [rd_get (by omega)]
        simp
      generalize is[begun.length]'(by omega) = i0 at hdrop hri
      rw [hri] at hlong
      have key : ∀ (m x q : Nat), x + m = F.bars.toNat → 60 + 5 * n + m + 1 ≤ q → ∃ X, smaltoref03_Bars.l0 q F.l load begun x F.bars F.length F.gap F.load F.near = some (match barsTry (barsB F (is.drop (begun.length + 1))) ((rd_T74 F.l i0).f0 + F.gap) free m x with | some m => (begun ++ m, true) | none => (X, false)) := by
        intro m
        induction m with
        | zero =>
          intro x q hx hq
          obtain ⟨q, rfl⟩ : ∃ j, q = j + 1 := ⟨q - 1, by omega⟩
          rw [show ((x : Nat) : Int) = F.bars by omega, stop]
          exact ⟨[], rfl⟩
        | succ m ihm =>
          intro x q hx hq
          obtain ⟨q, rfl⟩ : ∃ j, q = j + 1 := ⟨q - 1, by omega⟩
          have hfx := hfree x (by omega)
          have hnx := ihm (x + 1) q (by omega) (by omega)
          rw [show ((x + 1 : Nat) : Int) = (x : Int) + 1 by omega] at hnx
          obtain ⟨ih1, ih2⟩ := ih (begun ++ [(x : Int)]) q (by simp; omega) (by omega)
          rw [step x q (by omega)]
          by_cases hneg : free.get x - ((rd_T74 F.l i0).f0 + F.gap) < 0
          · obtain ⟨X, hX⟩ := ih1 ⟨x, by omega, by
              rw [List.length_append, List.length_singleton, costK_snoc, if_pos rfl, hri]
              omega⟩
            rw [hX, barsTry_neg hneg]
            simp only [Option.bind_some, Bool.false_eq_true, if_false]
            exact hnx
          · obtain ⟨X, hX⟩ := ih2 (free.put x (free.get x - ((rd_T74 F.l i0).f0 + F.gap))) (by
              intro y hy
              have hfy := hfree y hy
              rw [List.length_append, List.length_singleton, costK_snoc, Room.get_put _ _ _ (by omega) _ (by omega), hri]
              by_cases hxy : y = x
              · subst hxy; rw [if_pos rfl, if_pos rfl]; omega
              · rw [if_neg hxy, if_neg (by omega)]; exact hfy)
            rw [hX, List.length_append, List.length_singleton]
            cases hg : barsB F (is.drop (begun.length + 1)) (free.put x (free.get x - ((rd_T74 F.l i0).f0 + F.gap))) with
            | some m' =>
              rw [barsTry_some hneg hg]
              exact ⟨[], by simp⟩
            | none =>
              rw [barsTry_none hneg hg]
              simp only [Option.bind_some, Bool.false_eq_true, if_false]
              exact hnx
      rw [hf, hdrop]
      have := key F.bars.toNat 0 k (by omega) (by omega)
      exact this
end Go.Proofs.YtbijamlgcebgeaaDoor.Hand

-- part JD
namespace Go.Proofs.YtbijamlgcebgeaaDoor.Hand
open Go.RowKit Go.Shelf Go.Sort Go.Proofs.YtbijamlgcebgeaaDoorW.PrintWords Go.Proofs.YtbijamlgcebgeaaDoorW.PrintMore Go.Proofs.YtbijamlgcebgeaaDoor.Q

theorem bars_facts {F : Furn} (hF : F.Ok) {load : List Int} {is : List Nat} (his : is.map Int.ofNat = load) (hil : ∀ i ∈ is, i < F.l.length) (hn : load.length ≤ 6) :
    ∃ X, smaltoref03_Bars.f 100 F.bars F.length F.gap F.load F.near F.l load [] = some (match barsB F is F.empty with | some m => (m, true) | none => (X, false)) := by
  have hb := hF.bars
  have hg := hF.gap
  have hl := hF.length
  obtain ⟨X, hX⟩ := (Bars_eq F hF load is his hil hn load.length [] 100 (by simp) (by omega)).2 F.empty (by
    intro x hx
    rw [List.length_nil, costK_zero]
    have : F.empty.get x = F.length + F.gap := by
      unfold Furn.empty
      have : F.bars.toNat ≤ 3 := by omega
      generalize F.bars.toNat = n at hx this
      unfold roomK Room.get
      split
      · rename_i h; subst h; simp only; rw [if_pos (by omega)]
      · split
        · rename_i h; subst h; simp only; rw [if_pos (by omega)]
        · simp only; rw [if_pos (by omega)]
    omega)
  refine ⟨X, ?_⟩
  rw [hX]
  simp only [List.length_nil, List.drop_zero, List.nil_append]
  cases barsB F is F.empty <;> rfl

theorem load_short {s : Nat} {load : List Int} (h : (bitsOf s).map Int.ofNat = load) : load.length ≤ 6 := by
  rw [← h, List.length_map]
  unfold bitsOf
  exact Nat.le_trans (List.length_filter_le _ _) (by simp)
theorem load_in {s : Nat} {load : List Int} {n : Nat} (h : (bitsOf s).map Int.ofNat = load) (hi : ∀ i ∈ bitsOf s, i < n) : ∀ j : Nat, j < load.length → 0 ≤ rd load j ∧ rd load j < n := by
  intro j hj
  rw [rd_get hj]
  subst h
  rw [List.getElem_map]
  have := hi ((bitsOf s)[j]'(by simpa using hj)) (List.getElem_mem _)
  simp only [Int.ofNat_eq_natCast]
  omega

/-- Goes, Bars, Heat and the reference's. -/
theorem goes_facts {a b c d e : Int} {l : List S74} {load : List Int} {s : Nat} (h : newR a b c d e l load = .ok s) :
    ∃ r1 r2, smaltoref03_Bars.f 100 a b c d e l load [] = some (r1, r2) ∧ barsR a b c d e l load = (if r2 = true then (r1, 0) else ([], 7)) ∧
      goesR a b c d e l load = ((refGoesR d e l load r2).1, (refGoesR d e l load r2).2, 0) ∧
      heatR a b c d e l load = (if (refHeatR l load).2.2 = true then ((refHeatR l load).1, (refHeatR l load).2.1, 0) else (0, 0, 7)) ∧ (r2 = true → r1.length ≤ 6) := by
  have hF := check_ok (newR_ok h).1
  obtain ⟨hls, hs⟩ := newR_list h
  have hbits := newR_bits h
  obtain ⟨X, hX⟩ := bars_facts hF hls hbits (load_short hls)
  have hX' : smaltoref03_Bars.f 100 a b c d e l load [] = some (match barsB (mkF a b c d e l) (bitsOf s) (mkF a b c d e l).empty with | some m => (m, true) | none => (X, false)) := hX
  have hheat := heat_same (l := l) hls
  have hnear : refNearK l load e load.length = alikeB l e s := near_same (l := l) (e := e) hF.near.1 (fun x hx => (hF.signs x hx).2.1) hls hbits
  have hw := weight_same (l := l) hls
  have hgoes : ∀ r2 : Bool, (optL (barsB (mkF a b c d e l) (bitsOf s) (mkF a b c d e l).empty)).2 = r2 → goesR a b c d e l load = ((refGoesR d e l load r2).1, (refGoesR d e l load r2).2, 0) := by
    intro r2 hr2
    unfold goesR
    rw [h]
    dsimp only
    unfold goesB highW fitsB refGoesR refHeatR
    rw [hr2, hheat, hnear, hw]
    show (decide (sumB (fun x => x.f2.f1) l (bitsOf s) ≤ d) && (!(decide ((heatB l (bitsOf s)).2 < (heatB l (bitsOf s)).1) || !alikeB l e s) && r2), decide (sumB (fun x => x.f2.f0) l (bitsOf s) ≤ d) && (!(decide ((heatB l (bitsOf s)).2 < (heatB l (bitsOf s)).1) || !alikeB l e s) && r2), (0 : Int)) = _
    by_cases h2 : (heatB l (bitsOf s)).2 < (heatB l (bitsOf s)).1
    · rw [if_pos h2]
      cases alikeB l e s <;> simp [h2]
    · rw [if_neg h2]
      cases alikeB l e s <;> cases r2 <;> simp [h2]
  have hh : heatR a b c d e l load = (if (refHeatR l load).2.2 = true then ((refHeatR l load).1, (refHeatR l load).2.1, 0) else (0, 0, 7)) := by
    unfold heatR
    rw [h]
    dsimp only
    unfold refHeatR
    rw [hheat]
    split <;> simp
  cases hq : barsB (mkF a b c d e l) (bitsOf s) (mkF a b c d e l).empty with
  | none =>
    rw [hq] at hX' hgoes
    exact ⟨X, false, hX', by unfold barsR; rw [h]; dsimp only; rw [hq]; rfl, hgoes false rfl, hh, fun h => by cases h⟩
  | some m =>
    rw [hq] at hX' hgoes
    exact ⟨m, true, hX', by unfold barsR; rw [h]; dsimp only; rw [hq]; rfl, hgoes true rfl, hh, fun _ => by rw [barsB_len _ _ _ _ hq]; have := load_short hls; rw [← hls, List.length_map] at this; exact this⟩
end Go.Proofs.YtbijamlgcebgeaaDoor.Hand

-- part JE
namespace Go.Proofs.YtbijamlgcebgeaaDoor.Hand
open Go.RowKit Go.Shelf Go.Sort Go.Proofs.YtbijamlgcebgeaaDoorW.PrintWords Go.Proofs.YtbijamlgcebgeaaDoorW.PrintMore Go.Proofs.YtbijamlgcebgeaaDoor.Q

theorem Own_eq (l : List S74) (h : l.length ≤ 1000) : smaltoref03_Own.f l = some l := by
  unfold smaltoref03_Own.f
  simp
  omega
theorem ints_eq (l : List Int) (h : l.length ≤ 1000) : smaltolaw03_ints.f l = some l := by
  unfold smaltolaw03_ints.f
  simp
  omega
theorem Same_l0 (l : List S74) (hl : l.length ≤ 1000) : ∀ n i k : Nat, i + n = l.length → n < k → smaltoref03_Same.l0 k l l i = some true := by
  intro n
  induction n with
  | zero =>
    intro i k h hk
    obtain ⟨k, rfl⟩ : ∃ j, k = j + 1 := ⟨k - 1, by omega⟩
    unfold smaltoref03_Same.l0
    rw [if_neg (by omega)]
  | succ n ih =>
    intro i k h hk
    obtain ⟨k, rfl⟩ : ∃ j, k = j + 1 := ⟨k - 1, by omega⟩
    unfold smaltoref03_Same.l0
    rw [if_pos (by omega), if_pos (by omega), if_pos (by omega), w64 (by omega)]
    have := ih (i + 1) k (by omega) (by omega)
    rw [show ((i + 1 : Nat) : Int) = (i : Int) + 1 by omega] at this
    simp [this]
theorem Same_eq (l : List S74) (hl : l.length ≤ 1000) : smaltoref03_Same.f (l.length + 1) l l = some true := by
  unfold smaltoref03_Same.f
  rw [if_pos rfl]
  have := Same_l0 l hl l.length 0 (l.length + 1) (by omega) (by omega)
  simpa using this
theorem Order_l0 (l : List Int) (hl : l.length ≤ 1000) : ∀ n i k : Nat, i + n = l.length → 2 * n + 1 < k → smaltoref03_Order.l0 k l l i = some 0 := by
  intro n
  induction n with
  | zero =>
    intro i k h hk
    obtain ⟨k, rfl⟩ : ∃ j, k = j + 2 := ⟨k - 2, by omega⟩
    rw [smaltoref03_Order.l0, if_neg (by omega), smaltoref03_Order.j1, if_neg (by simp)]
    rw [w64 (by omega)]
    simp
  | succ n ih =>
    intro i k h hk
    obtain ⟨k, rfl⟩ : ∃ j, k = j + 2 := ⟨k - 2, by omega⟩
    have h1 : (i : Int) < l.length := by omega
    rw [smaltoref03_Order.l0, if_pos h1, smaltoref03_Order.j1, if_pos (by simp; omega), if_pos (by omega), if_pos h1, if_pos h1, if_pos rfl, w64 (by omega)]
    have := ih (i + 1) k (by omega) (by omega)
    rw [show ((i + 1 : Nat) : Int) = (i : Int) + 1 by omega] at this
    exact this
theorem Ints_eq (l : List Int) (hl : l.length ≤ 1000) : smaltoref03_Ints.f (2 * l.length + 2) l l = some true := by
  unfold smaltoref03_Ints.f smaltoref03_Order.f
  have := Order_l0 l hl l.length 0 (2 * l.length + 2) (by omega) (by omega)
  simp only [show ((0 : Nat) : Int) = 0 from rfl] at this
  rw [this]
  rfl
end Go.Proofs.YtbijamlgcebgeaaDoor.Hand

-- part IU
namespace Go.Proofs.YtbijamlgcebgeaaDoor.Hand
open Go.RowKit Go.Shelf Go.Sort Go.Proofs.YtbijamlgcebgeaaDoorW.PrintWords Go.Proofs.YtbijamlgcebgeaaDoorW.PrintMore Go.Proofs.YtbijamlgcebgeaaDoor.Q
attribute [local go_sem high] eqA36

/-- Where a load is refused. -/
theorem refused {a b c d e : Int} {l : List S74} {load : List Int} (h : openF a b c d e l load ≠ 0) :
    goesR a b c d e l load = (false, false, openF a b c d e l load) ∧ barsR a b c d e l load = ([], openF a b c d e l load) ∧ heatR a b c d e l load = (0, 0, openF a b c d e l load) := by
  unfold openF at h ⊢
  cases hr : newR a b c d e l load with
  | error x => unfold goesR barsR heatR; rw [hr]; exact ⟨rfl, rfl, rfl⟩
  | ok s => rw [hr] at h; exact absurd rfl h
theorem accepted {a b c d e : Int} {l : List S74} {load : List Int} (h : openF a b c d e l load = 0) : ∃ s, newR a b c d e l load = .ok s := by
  unfold openF at h
  cases hr : newR a b c d e l load with
  | error x => rw [hr] at h; exact absurd h (newR_err hr)
  | ok s => exact ⟨s, rfl⟩

set_option maxRecDepth 100000 in
set_option maxHeartbeats 4000000 in
theorem lawgoes_calls (a b c d e : Int) (l : List S74) (load : List Int) (A1 A2 : Option Addr) (c1 c2 : Nat) (hc1 : l.length ≤ c1) (hc2 : load.length ≤ c2) (w : World) (hT : TabW w) (hr1 : Kd.C k74 w A1 l.length l) (hr2 : Kd.C (Kd.int .i64) w A2 load.length load) :
    Calls Tryd.prog 3 #[.agg #[.int .i64 a, .int .i64 b, .int .i64 c, .int .i64 d, .int .i64 e], .slice A1 l.length c1, .slice A2 load.length c2] w fun e_ w' => e_ = .returned (.bool true) ∧ Below w.heap.size w w' := by
  obtain ⟨wa, hwa⟩ : ∃ v, w.alloc (.cells #[.int .i64 a, .int .i64 b, .int .i64 c, .int .i64 d, .int .i64 e] 23) = v := ⟨_, rfl⟩
  have hB : Below w.heap.size w wa := hwa ▸ (Below.refl _ _).alloc (Nat.le_refl _) _
  replace hT : TabW wa := hwa ▸ hT.alloc _
  replace hr1 : Kd.C k74 wa A1 l.length l := hwa ▸ Kd.C_alloc hr1 _
  replace hr2 : Kd.C (Kd.int .i64) wa A2 load.length load := hwa ▸ Kd.C_alloc hr2 _
  have x3 : Box wa w.heap.size #[.int .i64 a, .int .i64 b, .int .i64 c, .int .i64 d, .int .i64 e] 23 := hwa ▸ Box.new _ _ _
  have e0 : wa.cell? ⟨w.heap.size, 0, none⟩ = some (.int .i64 a) := x3.cell 0 rfl
  have e1 : wa.cell? ⟨w.heap.size, 1, none⟩ = some (.int .i64 b) := x3.cell 1 rfl
  have e2 : wa.cell? ⟨w.heap.size, 2, none⟩ = some (.int .i64 c) := x3.cell 2 rfl
  have e3 : wa.cell? ⟨w.heap.size, 3, none⟩ = some (.int .i64 d) := x3.cell 3 rfl
  have e4 : wa.cell? ⟨w.heap.size, 4, none⟩ = some (.int .i64 e) := x3.cell 4 rfl
  by_cases h12 : 12 < l.length
  · have p1 : decide ((12 : Int) < l.length) = true := decide_eq_true (by omega)
    go_enter Tryd.func3, Tryd.ntmps3
    go_wp2_with fail
    refine (known_calls _ hT).mono ?_
    rintro e_ u1 ⟨rfl, hb⟩
    replace hB := hB.trans (hb.mono hB.size)
    go_wp2
    go_ret
    exact ⟨rfl, hB⟩
  · have p1 : decide ((12 : Int) < l.length) = false := decide_eq_false (by omega)
    by_cases h13 : 12 < load.length
    · have p2 : decide ((12 : Int) < load.length) = true := decide_eq_true (by omega)
      go_enter Tryd.func3, Tryd.ntmps3
      go_wp2_with fail
      refine (known_calls _ hT).mono ?_
      rintro e_ u1 ⟨rfl, hb⟩
      replace hB := hB.trans (hb.mono hB.size)
      go_wp2
      go_ret
      exact ⟨rfl, hB⟩
    · have p2 : decide ((12 : Int) < load.length) = false := decide_eq_false (by omega)
      have HOwn := Lib.hid (Own_eq l (by omega))
      have Hints := Lib.hid (ints_eq load (by omega))
      have HSame := Lib.hid (Same_eq l (by omega))
      have HInts := Lib.hid (Ints_eq load (by omega))
      have hl1 : l.length ≤ 1000 := by omega
      have hl2 : load.length ≤ 1000 := by omega
      obtain ⟨ck, hck⟩ : ∃ v, checkF a b c d e l = v := ⟨_, rfl⟩
      have HCk := Lib.hid hck
      have HCheck := Lib.hid (hck ▸ Check_eq a b c d e l hl1 (l.length + 2) (Nat.le_refl _))
      clear hck
      obtain ⟨⟨g1, g2, g3⟩, hg⟩ : ∃ v, goesR a b c d e l load = v := ⟨_, rfl⟩
      have Hg := Lib.hid hg
      clear hg
      obtain ⟨⟨bl, be⟩, hbr⟩ : ∃ v, barsR a b c d e l load = v := ⟨_, rfl⟩
      have Hbr := Lib.hid hbr
      clear hbr
      obtain ⟨⟨h1, h2, h3⟩, hh⟩ : ∃ v, heatR a b c d e l load = v := ⟨_, rfl⟩
      have Hh := Lib.hid hh
      clear hh
      obtain ⟨o, ho⟩ : ∃ v, openF a b c d e l load = v := ⟨_, rfl⟩
      have Ho := Lib.hid ho
      clear ho
      have Hl : Hid (l.length ≤ 12 ∧ load.length ≤ 12) := Lib.hid ⟨by omega, by omega⟩
      clear hl1 hl2 h12 h13
      go_enter Tryd.func3, Tryd.ntmps3
      go_wp2_with fail
      clear hwa
      refine (smaltoref03_Own.calls A1 c1 l l _ hr1 hc1 HOwn.out).mono ?_
      rintro e_ u1 ⟨v0, rfl, hR, hb⟩
      obtain ⟨AX, cX, rfl, hcX, hX⟩ := Kd.R_reads hR
      clear hR
      replace hT := hT.below hb
      replace hr1 := Kd.C_below hr1 hb
      replace hr2 := Kd.C_below hr2 hb
      replace hB := hB.trans (hb.mono hB.size)
      replace x3 := x3.step hb
      replace e0 := x3.cell 0 rfl
      replace e1 := x3.cell 1 rfl
      replace e2 := x3.cell 2 rfl
      replace e3 := x3.cell 3 rfl
      replace e4 := x3.cell 4 rfl
      clear hb
      go_wp2_with fail
      refine (smaltolaw03_ints.calls A2 c2 load load _ hr2 hc2 Hints.out).mono ?_
      rintro e_ u1 ⟨v0, rfl, hR, hb⟩
      obtain ⟨AP, cP, rfl, hcP, hP⟩ := Kd.R_reads hR
      clear hR
      replace hT := hT.below hb
      replace hr1 := Kd.C_below hr1 hb
      replace hr2 := Kd.C_below hr2 hb
      replace hB := hB.trans (hb.mono hB.size)
      replace x3 := x3.step hb
      replace hX := Kd.C_below hX hb
      replace e0 := x3.cell 0 rfl
      replace e1 := x3.cell 1 rfl
      replace e2 := x3.cell 2 rfl
      replace e3 := x3.cell 3 rfl
      replace e4 := x3.cell 4 rfl
      clear hb
      go_wp2_with fail
      refine (check_calls a b c d e l AX cX _ hX).mono ?_
      rintro e_ u1 ⟨rfl, hb⟩
      rw [HCk.out]
      replace hT := hT.below hb
      replace hr1 := Kd.C_below hr1 hb
      replace hr2 := Kd.C_below hr2 hb
      replace hB := hB.trans (hb.mono hB.size)
      replace x3 := x3.step hb
      replace hX := Kd.C_below hX hb
      replace hP := Kd.C_below hP hb
      replace e0 := x3.cell 0 rfl
      replace e1 := x3.cell 1 rfl
      replace e2 := x3.cell 2 rfl
      replace e3 := x3.cell 3 rfl
      replace e4 := x3.cell 4 rfl
      clear hb
      go_wp2_with fail
      have hcl := goes_exp a b c d e l load AX AP cX cP _ hT hX hP
      rw [Hg.out] at hcl
      refine hcl.mono ?_
      rintro e_ u1 ⟨rfl, hb⟩
      clear hcl
      replace hT := hT.below hb
      replace hr1 := Kd.C_below hr1 hb
      replace hr2 := Kd.C_below hr2 hb
      replace hB := hB.trans (hb.mono hB.size)
      replace x3 := x3.step hb
      replace hX := Kd.C_below hX hb
      replace hP := Kd.C_below hP hb
      replace e0 := x3.cell 0 rfl
      replace e1 := x3.cell 1 rfl
      replace e2 := x3.cell 2 rfl
      replace e3 := x3.cell 3 rfl
      replace e4 := x3.cell 4 rfl
      clear hb
      go_wp2_with fail
      have hcl := bars_exp a b c d e l load AX AP cX cP _ hT hX hP
      rw [Hbr.out] at hcl
      refine (res_C hcl).mono ?_
      rintro e_ u1 ⟨AL, cL, rfl, hcL, hL, hb⟩
      clear hcl
      replace hT := hT.below hb
      replace hr1 := Kd.C_below hr1 hb
      replace hr2 := Kd.C_below hr2 hb
      replace hB := hB.trans (hb.mono hB.size)
      replace x3 := x3.step hb
      replace hX := Kd.C_below hX hb
      replace hP := Kd.C_below hP hb
      replace e0 := x3.cell 0 rfl
      replace e1 := x3.cell 1 rfl
      replace e2 := x3.cell 2 rfl
      replace e3 := x3.cell 3 rfl
      replace e4 := x3.cell 4 rfl
      clear hb
      go_wp2_with fail
      have hcl := heat_exp a b c d e l load AX AP cX cP _ hT hX hP
      rw [Hh.out] at hcl
      refine hcl.mono ?_
      rintro e_ u1 ⟨rfl, hb⟩
      clear hcl
      replace hT := hT.below hb
      replace hr1 := Kd.C_below hr1 hb
      replace hr2 := Kd.C_below hr2 hb
      replace hB := hB.trans (hb.mono hB.size)
      replace x3 := x3.step hb
      replace hX := Kd.C_below hX hb
      replace hP := Kd.C_below hP hb
      replace hL := Kd.C_below hL hb
      replace e0 := x3.cell 0 rfl
      replace e1 := x3.cell 1 rfl
      replace e2 := x3.cell 2 rfl
      replace e3 := x3.cell 3 rfl
      replace e4 := x3.cell 4 rfl
      clear hb
      obtain ⟨wh, hwh⟩ : ∃ v, u1.alloc (.cells #[.int .i64 h1, .int .i64 h2] 36) = v := ⟨_, rfl⟩
      have hb : Below u1.heap.size u1 wh := hwh ▸ (Below.refl _ _).alloc (Nat.le_refl _) _
      have x15 : Box wh u1.heap.size #[.int .i64 h1, .int .i64 h2] 36 := hwh ▸ Box.new _ _ _
      obtain ⟨b15, hb15⟩ : ∃ v, u1.heap.size = v := ⟨_, rfl⟩
      replace x15 : Box wh b15 #[.int .i64 h1, .int .i64 h2] 36 := hb15 ▸ x15
      replace hT := hT.below hb
      replace hr1 := Kd.C_below hr1 hb
      replace hr2 := Kd.C_below hr2 hb
      replace hB := hB.trans (hb.mono hB.size)
      replace x3 := x3.step hb
      replace hX := Kd.C_below hX hb
      replace hP := Kd.C_below hP hb
      replace hL := Kd.C_below hL hb
      replace e0 := x3.cell 0 rfl
      replace e1 := x3.cell 1 rfl
      replace e2 := x3.cell 2 rfl
      replace e3 := x3.cell 3 rfl
      replace e4 := x3.cell 4 rfl
      clear hb
      go_wp2_with fail
      refine (smaltoref03_Same.calls (l.length + 1) AX cX l A1 c1 l true _ hX hcX hr1 hc1 HSame.out).mono ?_
      rintro e_ u2 ⟨rfl, hd⟩
      have hb := hd.below
      clear hd hwh
      replace hT := hT.below hb
      replace hr1 := Kd.C_below hr1 hb
      replace hr2 := Kd.C_below hr2 hb
      replace hB := hB.trans (hb.mono hB.size)
      replace x3 := x3.step hb
      replace hX := Kd.C_below hX hb
      replace hP := Kd.C_below hP hb
      replace hL := Kd.C_below hL hb
      replace x15 := x15.step hb
      replace e0 := x3.cell 0 rfl
      replace e1 := x3.cell 1 rfl
      replace e2 := x3.cell 2 rfl
      replace e3 := x3.cell 3 rfl
      replace e4 := x3.cell 4 rfl
      clear hb
      go_wp2_with fail
      refine (smaltoref03_Ints.calls (2 * load.length + 2) AP cP load A2 c2 load true _ hP hcP hr2 hc2 HInts.out).mono ?_
      rintro e_ u3 ⟨rfl, hd⟩
      have hb := hd.below
      clear hd
      replace hT := hT.below hb
      replace hr1 := Kd.C_below hr1 hb
      replace hr2 := Kd.C_below hr2 hb
      replace hB := hB.trans (hb.mono hB.size)
      replace x3 := x3.step hb
      replace hX := Kd.C_below hX hb
      replace hP := Kd.C_below hP hb
      replace hL := Kd.C_below hL hb
      replace x15 := x15.step hb
      replace e0 := x3.cell 0 rfl
      replace e1 := x3.cell 1 rfl
      replace e2 := x3.cell 2 rfl
      replace e3 := x3.cell 3 rfl
      replace e4 := x3.cell 4 rfl
      clear hb
      go_wp2_with fail
      refine (smaltoref03_Check.calls (l.length + 2) a b c d e A1 c1 l ck _ hr1 hc1 HCheck.out).mono ?_
      rintro e_ u4 ⟨rfl, hb⟩
      replace hT := hT.below hb
      replace hr1 := Kd.C_below hr1 hb
      replace hr2 := Kd.C_below hr2 hb
      replace hB := hB.trans (hb.mono hB.size)
      replace x3 := x3.step hb
      replace hX := Kd.C_below hX hb
      replace hP := Kd.C_below hP hb
      replace hL := Kd.C_below hL hb
      replace x15 := x15.step hb
      replace e0 := x3.cell 0 rfl
      replace e1 := x3.cell 1 rfl
      replace e2 := x3.cell 2 rfl
      replace e3 := x3.cell 3 rfl
      replace e4 := x3.cell 4 rfl
      clear hb
      go_wp2_with fail
      have hcl := refopen_calls a b c d e l load A1 A2 c1 c2 hc1 _ hr1 hr2 (by have := Hl.out; omega) (by have := Hl.out; omega)
      rw [Ho.out] at hcl
      refine hcl.mono ?_
      rintro e_ u5 ⟨rfl, hb⟩
      clear hcl
      replace hT := hT.below hb
      replace hr1 := Kd.C_below hr1 hb
      replace hr2 := Kd.C_below hr2 hb
      replace hB := hB.trans (hb.mono hB.size)
      replace x3 := x3.step hb
      replace hX := Kd.C_below hX hb
      replace hP := Kd.C_below hP hb
      replace hL := Kd.C_below hL hb
      replace x15 := x15.step hb
      replace e0 := x3.cell 0 rfl
      replace e1 := x3.cell 1 rfl
      replace e2 := x3.cell 2 rfl
      replace e3 := x3.cell 3 rfl
      replace e4 := x3.cell 4 rfl
      clear hb
      by_cases ho0 : o = 0
      · subst ho0
        obtain ⟨s, hs⟩ := accepted Ho.out
        have hF := check_ok (newR_ok hs).1
        obtain ⟨hls, _⟩ := newR_list hs
        have hvl := load_in hls (newR_bits hs)
        obtain ⟨r1, r2, hB1, hB2, hB3, hB4, HBL⟩ := goes_facts hs
        replace HBL := Lib.hid HBL
        rw [Hbr.out] at hB2
        rw [Hg.out] at hB3
        rw [Hh.out] at hB4
        obtain ⟨⟨k1, k2, k3⟩, hk⟩ : ∃ v, refHeatR l load = v := ⟨_, rfl⟩
        rw [hk] at hB4
        have Hk := Lib.hid hk
        obtain ⟨⟨m1, m2⟩, hm⟩ : ∃ v, refGoesR d e l load r2 = v := ⟨_, rfl⟩
        rw [hm] at hB3
        have Hm := Lib.hid hm
        simp only [Prod.mk.injEq] at hB3
        obtain ⟨rfl, rfl, rfl⟩ := hB3
        have HB1 := Lib.hid hB1
        have Hvl := Lib.hid hvl
        have hbd : ∀ x ∈ l, (1 ≤ x.f1 ∧ x.f1 ≤ 100) ∧ (1 ≤ x.f2.f0 ∧ x.f2.f0 ≤ x.f2.f1 ∧ x.f2.f1 ≤ 500) := fun x hx => ⟨(hF.signs x hx).2.1, (hF.signs x hx).2.2.1⟩
        have Hbd := Lib.hid hbd
        clear hk hm hvl hbd hF hls hB1 hs
        go_wp2_with fail
        have hcl := refgoes_calls 100 a b c d e l load A1 A2 c1 c2 hc1 hc2 _ hr1 hr2 (by have := Hl.out; omega) Hvl.out Hbd.out r1 r2 (fun _ => HB1.out)
        rw [Hm.out] at hcl
        refine hcl.mono ?_
        rintro e_ u6 ⟨rfl, hb⟩
        clear hcl
        replace hT := hT.below hb
        replace hr1 := Kd.C_below hr1 hb
        replace hr2 := Kd.C_below hr2 hb
        replace hB := hB.trans (hb.mono hB.size)
        replace x3 := x3.step hb
        replace hX := Kd.C_below hX hb
        replace hP := Kd.C_below hP hb
        replace hL := Kd.C_below hL hb
        replace x15 := x15.step hb
        replace e0 := x3.cell 0 rfl
        replace e1 := x3.cell 1 rfl
        replace e2 := x3.cell 2 rfl
        replace e3 := x3.cell 3 rfl
        replace e4 := x3.cell 4 rfl
        clear hb
        go_wp2_with fail
        refine (smaltoref03_Bars.calls 100 a b c d e A1 c1 l A2 c2 load (fun _ => False) _ [] r1 r2 u6 u6 (Below.refl _ _) (Kd.C_kept_came ⟨fun _ h => h⟩ hr1 (Below.refl _ _) (fun _ h => h.elim)) hc1 (Kd.C_kept_came (Kd.heap_int _) hr2 (Below.refl _ _) (fun _ h => h.elim)) hc2 (Kd.R_nil _ _ _ _ _) HB1.out).mono ?_
        rintro e_ u7 ⟨v0, rfl, hR, hb, hkk⟩
        obtain ⟨AB, cB, rfl, hcB, hBl⟩ := Kd.R_reads hR
        clear hR hkk HB1
        replace hT := hT.below hb
        replace hr1 := Kd.C_below hr1 hb
        replace hr2 := Kd.C_below hr2 hb
        replace hB := hB.trans (hb.mono hB.size)
        replace x3 := x3.step hb
        replace hX := Kd.C_below hX hb
        replace hP := Kd.C_below hP hb
        replace hL := Kd.C_below hL hb
        replace x15 := x15.step hb
        replace e0 := x3.cell 0 rfl
        replace e1 := x3.cell 1 rfl
        replace e2 := x3.cell 2 rfl
        replace e3 := x3.cell 3 rfl
        replace e4 := x3.cell 4 rfl
        clear hb
        cases r2
        · obtain ⟨rfl, rfl⟩ : bl = [] ∧ be = 7 := by simpa using hB2
          clear hB2
          go_wp2_with fail
          have hcl := refheat_calls l load A1 A2 c1 c2 _ hr1 hr2 Hvl.out
          rw [Hk.out] at hcl
          refine hcl.mono ?_
          rintro e_ u9 ⟨rfl, hb⟩
          clear hcl
          replace hT := hT.below hb
          replace hr1 := Kd.C_below hr1 hb
          replace hr2 := Kd.C_below hr2 hb
          replace hB := hB.trans (hb.mono hB.size)
          replace x3 := x3.step hb
          replace hX := Kd.C_below hX hb
          replace hP := Kd.C_below hP hb
          replace hL := Kd.C_below hL hb
          replace x15 := x15.step hb
          replace hBl := Kd.C_below hBl hb
          replace e0 := x3.cell 0 rfl
          replace e1 := x3.cell 1 rfl
          replace e2 := x3.cell 2 rfl
          replace e3 := x3.cell 3 rfl
          replace e4 := x3.cell 4 rfl
          clear hb
          obtain ⟨wk, hwk⟩ : ∃ v, u9.alloc (.cells #[.int .i64 k1, .int .i64 k2] 36) = v := ⟨_, rfl⟩
          have hb : Below u9.heap.size u9 wk := hwk ▸ (Below.refl _ _).alloc (Nat.le_refl _) _
          have x22 : Box wk u9.heap.size #[.int .i64 k1, .int .i64 k2] 36 := hwk ▸ Box.new _ _ _
          replace hT := hT.below hb
          replace hr1 := Kd.C_below hr1 hb
          replace hr2 := Kd.C_below hr2 hb
          replace hB := hB.trans (hb.mono hB.size)
          replace x3 := x3.step hb
          replace hX := Kd.C_below hX hb
          replace hP := Kd.C_below hP hb
          replace hL := Kd.C_below hL hb
          replace x15 := x15.step hb
          replace hBl := Kd.C_below hBl hb
          replace e0 := x3.cell 0 rfl
          replace e1 := x3.cell 1 rfl
          replace e2 := x3.cell 2 rfl
          replace e3 := x3.cell 3 rfl
          replace e4 := x3.cell 4 rfl
          clear hb
          have y0 : wk.cell? ⟨b15, 0, none⟩ = some (.int .i64 h1) := x15.cell 0 rfl
          have y1 : wk.cell? ⟨b15, 1, none⟩ = some (.int .i64 h2) := x15.cell 1 rfl
          have z0 : wk.cell? ⟨u9.heap.size, 0, none⟩ = some (.int .i64 k1) := x22.cell 0 rfl
          have z1 : wk.cell? ⟨u9.heap.size, 1, none⟩ = some (.int .i64 k2) := x22.cell 1 rfl
          cases k3
          · obtain ⟨rfl, rfl, rfl⟩ : h1 = 0 ∧ h2 = 0 ∧ h3 = 7 := by simpa using hB4
            clear hB4
            go_wp2_with fail
            refine (known_calls _ hT).mono ?_
            rintro e_ uf ⟨rfl, hb⟩
            replace hB := hB.trans (hb.mono hB.size)
            go_wp2
            go_ret
            exact ⟨rfl, hB⟩
          · obtain ⟨rfl, rfl, rfl⟩ : h1 = k1 ∧ h2 = k2 ∧ h3 = 0 := by simpa using hB4
            clear hB4
            go_wp2_with fail
            refine (known_calls _ hT).mono ?_
            rintro e_ uf ⟨rfl, hb⟩
            replace hB := hB.trans (hb.mono hB.size)
            go_wp2
            go_ret
            exact ⟨rfl, hB⟩
        · obtain ⟨rfl, rfl⟩ : bl = r1 ∧ be = 0 := by simpa using hB2
          clear hB2
          go_wp2_with fail
          refine (smaltoref03_Ints.calls (2 * bl.length + 2) AL cL bl AB cB bl true _ hL hcL hBl hcB (Ints_eq bl (Nat.le_trans (HBL.out (by simp)) (by omega)))).mono ?_
          rintro e_ u8 ⟨rfl, hd⟩
          have hb := hd.below
          clear hd
          replace hT := hT.below hb
          replace hr1 := Kd.C_below hr1 hb
          replace hr2 := Kd.C_below hr2 hb
          replace hB := hB.trans (hb.mono hB.size)
          replace x3 := x3.step hb
          replace hX := Kd.C_below hX hb
          replace hP := Kd.C_below hP hb
          replace hL := Kd.C_below hL hb
          replace x15 := x15.step hb
          replace hBl := Kd.C_below hBl hb
          replace e0 := x3.cell 0 rfl
          replace e1 := x3.cell 1 rfl
          replace e2 := x3.cell 2 rfl
          replace e3 := x3.cell 3 rfl
          replace e4 := x3.cell 4 rfl
          clear hb
          go_wp2_with fail
          have hcl := refheat_calls l load A1 A2 c1 c2 _ hr1 hr2 Hvl.out
          rw [Hk.out] at hcl
          refine hcl.mono ?_
          rintro e_ u9 ⟨rfl, hb⟩
          clear hcl
          replace hT := hT.below hb
          replace hr1 := Kd.C_below hr1 hb
          replace hr2 := Kd.C_below hr2 hb
          replace hB := hB.trans (hb.mono hB.size)
          replace x3 := x3.step hb
          replace hX := Kd.C_below hX hb
          replace hP := Kd.C_below hP hb
          replace hL := Kd.C_below hL hb
          replace x15 := x15.step hb
          replace hBl := Kd.C_below hBl hb
          replace e0 := x3.cell 0 rfl
          replace e1 := x3.cell 1 rfl
          replace e2 := x3.cell 2 rfl
          replace e3 := x3.cell 3 rfl
          replace e4 := x3.cell 4 rfl
          clear hb
          obtain ⟨wk, hwk⟩ : ∃ v, u9.alloc (.cells #[.int .i64 k1, .int .i64 k2] 36) = v := ⟨_, rfl⟩
          have hb : Below u9.heap.size u9 wk := hwk ▸ (Below.refl _ _).alloc (Nat.le_refl _) _
          have x22 : Box wk u9.heap.size #[.int .i64 k1, .int .i64 k2] 36 := hwk ▸ Box.new _ _ _
          replace hT := hT.below hb
          replace hr1 := Kd.C_below hr1 hb
          replace hr2 := Kd.C_below hr2 hb
          replace hB := hB.trans (hb.mono hB.size)
          replace x3 := x3.step hb
          replace hX := Kd.C_below hX hb
          replace hP := Kd.C_below hP hb
          replace hL := Kd.C_below hL hb
          replace x15 := x15.step hb
          replace hBl := Kd.C_below hBl hb
          replace e0 := x3.cell 0 rfl
          replace e1 := x3.cell 1 rfl
          replace e2 := x3.cell 2 rfl
          replace e3 := x3.cell 3 rfl
          replace e4 := x3.cell 4 rfl
          clear hb
          have y0 : wk.cell? ⟨b15, 0, none⟩ = some (.int .i64 h1) := x15.cell 0 rfl
          have y1 : wk.cell? ⟨b15, 1, none⟩ = some (.int .i64 h2) := x15.cell 1 rfl
          have z0 : wk.cell? ⟨u9.heap.size, 0, none⟩ = some (.int .i64 k1) := x22.cell 0 rfl
          have z1 : wk.cell? ⟨u9.heap.size, 1, none⟩ = some (.int .i64 k2) := x22.cell 1 rfl
          cases k3
          · obtain ⟨rfl, rfl, rfl⟩ : h1 = 0 ∧ h2 = 0 ∧ h3 = 7 := by simpa using hB4
            clear hB4
            go_wp2_with fail
            refine (known_calls _ hT).mono ?_
            rintro e_ uf ⟨rfl, hb⟩
            replace hB := hB.trans (hb.mono hB.size)
            go_wp2
            go_ret
            exact ⟨rfl, hB⟩
          · obtain ⟨rfl, rfl, rfl⟩ : h1 = k1 ∧ h2 = k2 ∧ h3 = 0 := by simpa using hB4
            clear hB4
            go_wp2_with fail
            refine (known_calls _ hT).mono ?_
            rintro e_ uf ⟨rfl, hb⟩
            replace hB := hB.trans (hb.mono hB.size)
            go_wp2
            go_ret
            exact ⟨rfl, hB⟩
      · have ho1 : (o != 0) = true := by simp [ho0]
        obtain ⟨q1, q2, q3⟩ := refused (a := a) (b := b) (c := c) (d := d) (e := e) (l := l) (load := load) (by rw [Ho.out]; exact ho0)
        rw [Hg.out, Ho.out] at q1
        rw [Hbr.out, Ho.out] at q2
        rw [Hh.out, Ho.out] at q3
        simp only [Prod.mk.injEq] at q1 q2 q3
        obtain ⟨rfl, rfl, rfl⟩ := q1
        obtain ⟨rfl, rfl⟩ := q2
        obtain ⟨rfl, rfl, _⟩ := q3
        have y0 : u5.cell? ⟨b15, 0, none⟩ = some (.int .i64 0) := x15.cell 0 rfl
        have y1 : u5.cell? ⟨b15, 1, none⟩ = some (.int .i64 0) := x15.cell 1 rfl
        go_wp2_with fail
        refine (known_calls _ hT).mono ?_
        rintro e_ uf ⟨rfl, hb⟩
        replace hB := hB.trans (hb.mono hB.size)
        go_wp2
        go_ret
        exact ⟨rfl, hB⟩
end Go.Proofs.YtbijamlgcebgeaaDoor.Hand

-- part JG
namespace Go.Proofs.YtbijamlgcebgeaaDoor.forkGoes
open Go.ChangeShapes Go.WideShapes Go.ChangeAt Go.RowKit Go.Proofs.YtbijamlgcebgeaaDoor.Hand

set_option maxRecDepth 100000 in
theorem contract (H : Type) (enc : TypeId × Value → H) (W : World) (base : Nat) (args : Array Value) (ds gs : List (DataW H)) (before : List MemPlace)
    (hval : ∀ (j : Nat) t v, Tryd.f3.params[j]? = some t → args[j]? = some v → Value.okWide Tryd.prog W .any base t v)
    (hW : DataW.Whole enc Tryd.prog Tryd.f3.params.toList Rows.forkGoesSpec.vars false W args.toList ds gs before) (hL : laidMetH Tryd.prog Rows.forkGoesRow.laid W) :
    Calls Tryd.prog 3 args W fun e W' => ∃ v, e = .returned v ∧ Rows.forkGoesSpec.post enc Tryd.prog Tryd.f3 false true false false W args v W' := by
  have hT : TabW W := tabW_of hL
  have hW' := hW
  obtain ⟨p, q, hA0, hV, rfl, hfz, hnd⟩ := hW
  have hA : DataW.TrodAll enc Tryd.prog W 0 (fun _ => true) true Tryd.f3.params.toList args.toList ds p := hA0
  rw [Tryd.params3] at hA hval
  obtain ⟨v0, vs0, d0, ds0, p0, q0, hargs, rfl, rfl, k0, r0⟩ := trodAll_cons hA
  obtain ⟨v1, vs1, d1, ds1, p1, q1, rfl, rfl, rfl, k1, r1⟩ := trodAll_cons r0
  obtain ⟨v2, vs2, d2, ds2, p2, q2, rfl, rfl, rfl, k2, r2⟩ := trodAll_cons r1
  obtain ⟨rfl, rfl, rfl⟩ := trodAll_nil r2
  obtain rfl : args = #[v0, v1, v2] := by cases args; simp_all
  obtain ⟨rfl, rfl⟩ := trodVars_none hV
  have lt0 : ∀ x ∈ p0, x.block < W.heap.size := by obtain ⟨m, hm⟩ := k0; exact DataW.trod_lt m _ _ _ hm
  have lt1 : ∀ x ∈ p1, x.block < W.heap.size := by obtain ⟨m, hm⟩ := k1; exact DataW.trod_lt m _ _ _ hm
  have lt2 : ∀ x ∈ p2, x.block < W.heap.size := by obtain ⟨m, hm⟩ := k2; exact DataW.trod_lt m _ _ _ hm
  obtain ⟨a, b, c, d, e, rfl⟩ := open23 (hval 0 23 v0 rfl rfl) k0
  obtain ⟨A1, l1, c1, rfl, hc1, hr1⟩ := open24 (hval 1 24 v1 rfl rfl) k1
  obtain ⟨A2, l2, c2, rfl, hc2, hr2⟩ := open25 (hval 2 25 v2 rfl rfl) k2
  clear hA0 hval
  refine (lawgoes_calls a b c d e l1 l2 A1 A2 c1 c2 hc1 hc2 W hT hr1 hr2).mono fun e' W' ⟨he, bel⟩ => ?_
  subst he
  exact ⟨_, rfl, _, _, _, [], _, [], hW', trodAll_mk1 (shut_bool Tryd.underlying4 _), (trodAll_cons_mk (Below.trod laidOut (by kernel_rfl) (of_decide_eq_true (by kernel_rfl)) k0 bel lt0) (trodAll_cons_mk (Below.trod laidOut (by kernel_rfl) (of_decide_eq_true (by kernel_rfl)) k1 bel lt1) (trodAll_cons_mk (Below.trod laidOut (by kernel_rfl) (of_decide_eq_true (by kernel_rfl)) k2 bel lt2) trodAll_mk0))), rfl, bel.frame _, fun h => by cases h⟩

/-- A world for the witness: the settled one, the tables (blocks 0 and 1) holding what their initialisers lay. -/
def lay32 : Obj → Obj
  | .cells _ t frozen => .cells (Lib.deBruijn32tab.map fun (n : Nat) => Value.int .u8 n).toArray t frozen
  | o => o
def lay64 : Obj → Obj
  | .cells _ t frozen => .cells (Lib.deBruijn64tab.map fun (n : Nat) => Value.int .u8 n).toArray t frozen
  | o => o
noncomputable def laidWorld (os : Os) : World := { World.holding Tryd.prog os ⟨#[], #[], []⟩ with heap := ((World.holding Tryd.prog os ⟨#[], #[], []⟩).heap.modify 0 lay32).modify 1 lay64 }
theorem laid_met (os : Os) : laidMet Tryd.prog Rows.forkGoesRow.laid ((laidWorld os).forCall (fun _ _ => 0) ⟨#[], #[.agg #[.int .i64 0, .int .i64 0, .int .i64 0, .int .i64 0, .int .i64 0], .slice none 0 0, .slice none 0 0], []⟩).memory :=
  laidMet_of_run' 8 (by kernel_rfl) (by kernel_rfl)
theorem reads (os : Os) {H : Type} (enc : TypeId × Value → H) : ∃ places, DataW.whole enc Tryd.prog ((laidWorld os).forCall (fun _ _ => 0) ⟨#[], #[.agg #[.int .i64 0, .int .i64 0, .int .i64 0, .int .i64 0, .int .i64 0], .slice none 0 0, .slice none 0 0], []⟩).memory Tryd.f3.params.toList Rows.forkGoesSpec.vars false (#[.agg #[.int .i64 0, .int .i64 0, .int .i64 0, .int .i64 0, .int .i64 0], .slice none 0 0, .slice none 0 0] : Array Value).toList 8 = some ([.agg [.lit (.int .i64 0), .lit (.int .i64 0), .lit (.int .i64 0), .lit (.int .i64 0), .lit (.int .i64 0)], .nil, .nil], [], places) :=
  ⟨[], by kernel_rfl⟩

set_option maxRecDepth 100000 in
theorem lifted (os : Os) (started : os.Started) (H : Type) (enc : TypeId × Value → H) (F : Stop.Interp) :
    ReturnsInHanded {} Tryd.checked os 3 .any ((OpenSpec.ofChange Rows.forkGoesSpec).preRow enc Tryd.prog Tryd.f3 Rows.forkGoesRow.domain false Rows.forkGoesRow.laid) (((OpenSpec.ofChange Rows.forkGoesSpec).at F).post enc Tryd.prog Tryd.f3 false true false false) := by
  obtain ⟨places, hx⟩ := reads os enc
  refine returnsInHanded_of_row (C := Tryd.checked) (s := OpenSpec.ofChange Rows.forkGoesSpec) own started (by kernel_rfl) Tryd.func3
    (witness_row_at (enc := enc) (C := Tryd.checked) false (laidWorld os) #[.agg #[.int .i64 0, .int .i64 0, .int .i64 0, .int .i64 0, .int .i64 0], .slice none 0 0, .slice none 0 0] rfl (by kernel_rfl) (by kernel_rfl) (by kernel_rfl)
      (OpenSpec.preRow_of_cond 8 hx (by kernel_rfl) (fun k hk => by cases hk) (by kernel_rfl) (laid_met os))) ?_
  intro W base args ds gs before hval hW _ _ _ hL _ _
  exact contract H enc W base args ds gs before hval hW hL

theorem said : Rows.ForkGoesSaid :=
  OpenClaim.holds_of_cond 3 Tryd.f3 rfl rfl rfl rfl rfl rfl rfl ⟨rfl, rfl, rfl, rfl, rfl⟩ rfl rfl rfl rfl rfl (by kernel_rfl) Tryd.func3 (by kernel_rfl)
    (of_decide_eq_true (by kernel_rfl)) (by unfold Func.isWrapper; first | (rw [if_pos (by decide +kernel)]; kernel_rfl) | (rw [if_neg (by decide +kernel)]; exact ⟨rfl, rfl⟩))
    (fun os started H enc _ F => by rw [OpenClaim.pre_eq_preRow]; exact lifted os started H enc F)

theorem plain (f : FuncId) (fn : Func) (hf : Tryd.pinned.checked.prog.funcNamed "smalto/smaltolaw03.ForkGoes" = some f) (hfn : Tryd.pinned.checked.prog.funcs[f]? = some fn) :
    false = Tryd.pinned.checked.prog.looks [] ∧ ∀ (j : Nat) t, fn.params[j]? = some t → Tryd.pinned.checked.prog.wantsStandIn t = false := by
  obtain rfl : f = 3 := Option.some.inj ((show Tryd.prog.funcNamed "smalto/smaltolaw03.ForkGoes" = some 3 by kernel_rfl).symm.trans hf) |>.symm
  obtain rfl : fn = Tryd.f3 := (Option.some.inj (Tryd.func3.symm.trans hfn)).symm
  refine ⟨by kernel_rfl, fun j t ht => ?_⟩
  rw [Tryd.params3] at ht
  have hm := Array.mem_of_getElem? ht
  simp only [Array.mem_toArray, List.mem_cons, List.not_mem_nil, or_false] at hm
  rcases hm with rfl | rfl | rfl
  · exact (show Tryd.prog.wantsStandIn 23 = false by kernel_rfl)
  · exact (show Tryd.prog.wantsStandIn 24 = false by kernel_rfl)
  · exact (show Tryd.prog.wantsStandIn 25 = false by kernel_rfl)

/-- The card. -/
theorem card : Rows.ForkGoesCardSaid :=
  Claim7.holds_tied_plain_at .later [] _ _ _ _ said (fun _ h => by cases h) (by kernel_rfl) (fun _ h => by cases h) forkGoes_row_tie rfl ⟨rfl, rfl⟩ (by kernel_rfl) rfl plain (by kernel_rfl)
end Go.Proofs.YtbijamlgcebgeaaDoor.forkGoes
namespace Go.Proofs.YtbijamlgcebgeaaDoor
theorem forkGoes_card : Rows.ForkGoesCardSaid := forkGoes.card
end Go.Proofs.YtbijamlgcebgeaaDoor

/- What the laws about the fork share: words about rows and regions, the walks of the package fork and of the references, and what they compute. Part 4 of 4. -/
import Derived.Test.YtbijamlgcebgeaaDoorH3
import Derived.Test.YtbijamlgcebgeaaDoorRows
import Derived.WalkKit
import Derived.ProofKit
import Derived.OpenShut
import Derived.Deep.DeepHandedRow
import Derived.Deep.Slices
import Derived.Lib.LaidTab
import Derived.Stop.LaidErr
import Derived.Below
import Derived.ChangeOld
import Derived.SizedLaws
set_option linter.unusedVariables false
set_option linter.unusedSimpArgs false
-- part MB
namespace Go.Proofs.YtbijamlgcebgeaaDoor.Hand
open Go.RowKit Go.Shelf Go.Sort Go.Proofs.YtbijamlgcebgeaaDoorW.PrintWords Go.Proofs.YtbijamlgcebgeaaDoorW.PrintMore Go.Proofs.YtbijamlgcebgeaaDoor.Q
attribute [local go_sem] max2_mx min2_mn max_two min_two
def lieOk (F : Furn) (lie : List Int) (k : Nat) : Bool := (List.range k).all fun (i : Nat) => decide (0 ≤ rd lie i) && decide (rd lie i < F.bars)
def costRoom (F : Furn) (load lie : List Int) (k : Nat) : Room := ⟨costK F.gap F.l load lie 0 k, costK F.gap F.l load lie 1 k, costK F.gap F.l load lie 2 k⟩
def barsOk (F : Furn) (load lie : List Int) (k : Nat) : Bool := (List.range k).all fun (b : Nat) => decide (costK F.gap F.l load lie b load.length ≤ F.length + F.gap)
/-- Whether a load goes with just these bars. -/
def fineB (F : Furn) (load lie : List Int) : Bool := lieOk F lie load.length && refNearK F.l load F.near load.length && barsOk F load lie F.bars.toNat && (decide ((refWeightK F.l load load.length).2 ≤ F.load) && decide ((refHeatK F.l load load.length).1 ≤ (refHeatK F.l load load.length).2))
theorem lieOk_succ (F : Furn) (lie : List Int) (k : Nat) : lieOk F lie (k + 1) = (lieOk F lie k && (decide (0 ≤ rd lie k) && decide (rd lie k < F.bars))) := by simp [lieOk, List.range_succ]
theorem barsOk_succ (F : Furn) (load lie : List Int) (k : Nat) : barsOk F load lie (k + 1) = (barsOk F load lie k && decide (costK F.gap F.l load lie k load.length ≤ F.length + F.gap)) := by simp [barsOk, List.range_succ]
theorem all_le {p : Nat → Bool} {k n : Nat} (hk : k ≤ n) (h : (List.range k).all p = false) : (List.range n).all p = false := by
  rw [List.all_eq_false] at *
  obtain ⟨x, hx, hp⟩ := h
  exact ⟨x, List.mem_range.2 (Nat.lt_of_lt_of_le (List.mem_range.1 hx) hk), hp⟩
theorem costRoom_succ (F : Furn) (load lie : List Int) (k y : Nat) (hy : rd lie k = y) (h3 : y < 3) : costRoom F load lie (k + 1) = (costRoom F load lie k).put y ((costRoom F load lie k).get y + ((rd_T74 F.l (rd load k)).f0 + F.gap)) := by
  unfold costRoom
  rw [costK_succ, costK_succ, costK_succ, hy]
  match y, h3 with
  | 0, _ => rfl
  | 1, _ => rfl
  | 2, _ => rfl
theorem costK_bd {F : Furn} (hF : F.Ok) {load lie : List Int} (hv : ∀ j : Nat, j < load.length → 0 ≤ rd load j ∧ rd load j < F.l.length) (x : Int) : ∀ k, k ≤ load.length → 0 ≤ costK F.gap F.l load lie x k ∧ costK F.gap F.l load lie x k ≤ 220 * k := by
  have hg := hF.gap
  intro k
  induction k with
  | zero => intro _; simp [costK_zero]
  | succ k ih =>
    intro hk
    have h1 := ih (by omega)
    have h2 := hv k (by omega)
    obtain ⟨j, hj⟩ : ∃ j : Nat, rd load k = j := ⟨(rd load k).toNat, by omega⟩
    have h3 := (hF.signs (rd_T74 F.l (rd load k)) (by rw [hj]; exact rd_mem (by omega))).1
    rw [costK_succ]
    split <;> omega
theorem costRoom_get (F : Furn) (load lie : List Int) (k : Nat) {b : Nat} (hb : b < 3) : (costRoom F load lie k).get b = costK F.gap F.l load lie b k := by
  match b, hb with
  | 0, _ => rfl
  | 1, _ => rfl
  | 2, _ => rfl
set_option maxRecDepth 100000 in
set_option maxHeartbeats 4000000 in
theorem fine_calls (F : Furn) (hF : F.Ok) (load lie : List Int) (A1 A2 A3 : Option Addr) (c1 c2 c3 : Nat) (w : World) (hr1 : Kd.C k74 w A1 F.l.length F.l) (hr2 : Kd.C (Kd.int .i64) w A2 load.length load) (hr3 : Kd.C (Kd.int .i64) w A3 lie.length lie) (hlen : load.length ≤ 6) (hlie : load.length ≤ lie.length)
    (hv : ∀ j : Nat, j < load.length → 0 ≤ rd load j ∧ rd load j < F.l.length) :
    Calls Tryd.prog 45 #[.agg #[.int .i64 F.bars, .int .i64 F.length, .int .i64 F.gap, .int .i64 F.load, .int .i64 F.near], .slice A1 F.l.length c1, .slice A2 load.length c2, .slice A3 lie.length c3] w fun e_ w' => e_ = .returned (.bool (fineB F load lie)) ∧ Below w.heap.size w w' := by
  obtain ⟨q, hq⟩ : ∃ q, fineB F load lie = q := ⟨_, rfl⟩
  rw [hq]
  have Hq := Lib.hid hq
  have Hv := Lib.hid hv
  have HF := Lib.hid hF
  have hbars := hF.bars
  have hgap := hF.gap
  have hlong := hF.length
  have hnear := hF.near
  have Hcost := Lib.hid (fun (x : Int) => costK_bd (lie := lie) hF hv x)
  have hwb := Lib.hid (refWeight_bd F.l load (fun x hx => (hF.signs x hx).2.2.1) hv)
  obtain ⟨n, hn⟩ : ∃ v, load.length = v := ⟨_, rfl⟩
  have Hn := Lib.hid hn
  rw [hn] at hr2 hlen hlie ⊢
  obtain ⟨m, hm⟩ : ∃ v, lie.length = v := ⟨_, rfl⟩
  rw [hm] at hr3 hlie ⊢
  clear hq hv hn hm hF
  go_enter Tryd.func45, Tryd.ntmps45
  go_wp2_with fail
  refine (smaltolaw03_span.calls 0 1000 _ _ _ rfl).mono ?_
  rintro e_ w1 ⟨rfl, hb1⟩
  have x4 : Box w1 w.heap.size #[.int .i64 F.bars, .int .i64 F.length, .int .i64 F.gap, .int .i64 F.load, .int .i64 F.near] 23 := (Box.new w _ _).step hb1
  have hB1 : Below w.heap.size w w1 := ((Below.refl _ _).alloc (Nat.le_refl _) _).trans (hb1.mono (by simp))
  have hsz := x4.lt
  obtain ⟨Wb, hWb⟩ : ∃ v, (w1.alloc (.cells #[.int .i64 0, .int .i64 0, .int .i64 0] 99)).alloc (.cells #[.int .i64 0, .int .i64 1000] 36) = v := ⟨_, rfl⟩
  have y4 : Box Wb w.heap.size #[.int .i64 F.bars, .int .i64 F.length, .int .i64 F.gap, .int .i64 F.load, .int .i64 F.near] 23 := hWb ▸ (x4.alloc _).alloc _
  have y9 : Box Wb w1.heap.size (costRoom F load lie 0).vs 99 := by
    have h0 : (costRoom F load lie 0).vs = #[.int .i64 0, .int .i64 0, .int .i64 0] := by simp [costRoom, Room.vs, costK_zero]
    rw [h0]
    exact hWb ▸ (Box.new _ _ _).alloc _
  have y11 : Box Wb (w1.heap.size + 1) #[.int .i64 (refHeatK F.l load 0).1, .int .i64 (refHeatK F.l load 0).2] 36 := hWb ▸ Box.new' _ _ _ (by simp)
  have ybl : Below w.heap.size w Wb := hWb ▸ (hB1.alloc hB1.size _).alloc (by have := hB1.size; simp; omega) _
  obtain ⟨b9, hb9⟩ : ∃ v, w1.heap.size = v := ⟨_, rfl⟩
  rw [hb9] at y9 y11 hsz
  go_wp2
  clear hWb hb1 x4 hB1 hb9
  have h911 : w.heap.size < b9 := hsz
  go_loopw [10, 12] (fun wt i W => ∃ k : Nat, k ≤ n ∧ wt = .int .i64 (refWeightK F.l load k).2 ∧ i = .int .i64 k ∧ Box W w.heap.size #[.int .i64 F.bars, .int .i64 F.length, .int .i64 F.gap, .int .i64 F.load, .int .i64 F.near] 23 ∧ Box W b9 (costRoom F load lie k).vs 99 ∧ Box W (b9 + 1) #[.int .i64 (refHeatK F.l load k).1, .int .i64 (refHeatK F.l load k).2] 36 ∧ Below w.heap.size w W ∧ Hid (lieOk F lie k = true) ∧ Hid (refNearK F.l load F.near k = true)) (fun _ i _ => n - (intOf i).toNat)
  case atStart => exact ⟨0, Nat.zero_le _, rfl, rfl, y4, y9, y11, ybl, Lib.hid rfl, Lib.hid rfl⟩
  case round =>
    obtain ⟨k, hk, rfl, rfl, x4, x9, x11, hbl, hlo, hnr⟩ := hrel
    by_cases hlt : k < n
    · have hsz2 := hbl.size
      obtain ⟨al, e1, s1⟩ := Kd.at_int (Kd.C_below hr2 hbl) k (by omega) (by omega)
      subst e1
      rw [Int.toNat_natCast] at s1
      have hra : refAt F.l load k = rd_T74 F.l (rd load k) := rfl
      obtain ⟨i, hi⟩ : ∃ i, rd load k = i := ⟨_, rfl⟩
      obtain ⟨v1, v2⟩ := Hv.out k (by rw [Hn.out]; omega)
      rw [hi] at s1 v1 v2 hra
      obtain ⟨i, rfl⟩ : ∃ n : Nat, i = n := ⟨i.toNat, by omega⟩
      obtain ⟨ad, e2, g0, g1, g2, g3, g4, g5⟩ := at_T74 (Kd.C_below hr1 hbl) i (by omega) (by omega)
      subst e2
      rw [Int.toNat_natCast] at g0 g1 g2 g3 g4 g5
      rw [← hra] at g0 g1 g2 g3 g4 g5
      have hsg := HF.out.signs (refAt F.l load k) (by rw [hra]; exact rd_mem (by omega))
      have hcs := Lib.hid (fun (y : Nat) (h : rd lie k = y) (h3 : y < 3) => costRoom_succ F load lie k y h h3)
      have hcb := Lib.hid (fun (x : Int) => Hcost.out x k (by rw [Hn.out]; omega))
      have hraH : Hid (rd_T74 F.l (rd load k) = refAt F.l load k) := Lib.hid rfl
      clear hra hi
      have hsw := Lib.hid (refWeightK_succ F.l load k)
      have hws := Lib.hid (hwb.out k (by rw [Hn.out]; omega))
      have hhs := Lib.hid (refHeatK_succ F.l load k)
      obtain ⟨al3, e3, s3⟩ := Kd.at_int (Kd.C_below hr3 hbl) k (by omega) (by omega)
      subst e3
      rw [Int.toNat_natCast] at s3
      obtain ⟨y, hy⟩ : ∃ y, rd lie k = y := ⟨_, rfl⟩
      have hlos := Lib.hid (lieOk_succ F lie k)
      rw [hy] at s3 hlos
      obtain ⟨s, hs⟩ : ∃ v, refAt F.l load k = v := ⟨_, rfl⟩
      have Hs := Lib.hid hs
      rw [hs] at g0 g1 g2 g3 g4 g5 hsw hsg hraH
      have hhs' : Hid (refHeatK F.l load (k + 1) = (mx (refHeatK F.l load k).1 s.f3.f0, mn (refHeatK F.l load k).2 s.f3.f1)) := Lib.hid (by rw [hhs.out]; show (mx _ (refAt F.l load k).f3.f0, mn _ (refAt F.l load k).f3.f1) = _; rw [hs])
      clear hs hhs
      obtain ⟨wq, hwq⟩ : ∃ v, wr.alloc (.cells #[.int .i64 s.f0, .int .i64 s.f1, .int .i64 s.f2.f0, .int .i64 s.f2.f1, .int .i64 s.f3.f0, .int .i64 s.f3.f1] 74) = v := ⟨_, rfl⟩
      have z13 : Box wq wr.heap.size #[.int .i64 s.f0, .int .i64 s.f1, .int .i64 s.f2.f0, .int .i64 s.f2.f1, .int .i64 s.f3.f0, .int .i64 s.f3.f1] 74 := hwq ▸ Box.new _ _ _
      have z4 : Box wq w.heap.size #[.int .i64 F.bars, .int .i64 F.length, .int .i64 F.gap, .int .i64 F.load, .int .i64 F.near] 23 := hwq ▸ x4.alloc _
      have z9 : Box wq b9 (costRoom F load lie k).vs 99 := hwq ▸ x9.alloc _
      have z11 : Box wq (b9 + 1) #[.int .i64 (refHeatK F.l load k).1, .int .i64 (refHeatK F.l load k).2] 36 := hwq ▸ x11.alloc _
      have zbl : Below w.heap.size w wq := hwq ▸ hbl.alloc (by omega) _
      have s3q : wq.cell? (al3.add k) = some (.int .i64 y) := hwq ▸ ((Below.refl _ _).alloc (Nat.le_refl _) _).cell (World.block_lt_of_cell? _ _ s3) ▸ s3
      obtain ⟨B, hB⟩ : ∃ B, wr.heap.size = B := ⟨_, rfl⟩
      have h9 := x9.lt
      have h11 := x11.lt
      rw [hB] at h9 h11 z13
      have k0 : wq.cell? ⟨w.heap.size, 0, none⟩ = some (.int .i64 F.bars) := z4.cell 0 rfl
      by_cases hy0 : y < 0
      · have hd0 : decide (y < 0) = true := decide_eq_true hy0
        have hfq : fineB F load lie = false := by
          have h1 : lieOk F lie (k + 1) = false := by rw [hlos.out]; simp; omega
          have h2 : lieOk F lie load.length = false := all_le (by rw [Hn.out]; omega) h1
          unfold fineB; rw [h2]; rfl
        have hqf := Hq.out
        rw [hfq] at hqf
        subst hqf
        go_wp2
        go_quiet (fail)
        go_wp2
        go_ret
        exact ⟨rfl, pw_below_drewN zbl nq⟩
      · obtain ⟨y, rfl⟩ : ∃ v : Nat, y = v := ⟨y.toNat, by omega⟩
        have hd0 : decide ((y : Int) < 0) = false := decide_eq_false hy0
        by_cases hyb : F.bars ≤ (y : Int)
        · have hd1 : decide (F.bars ≤ (y : Int)) = true := decide_eq_true hyb
          have hfq : fineB F load lie = false := by
            have h1 : lieOk F lie (k + 1) = false := by rw [hlos.out]; simp; omega
            have h2 : lieOk F lie load.length = false := all_le (by rw [Hn.out]; omega) h1
            unfold fineB; rw [h2]; rfl
          have hqf := Hq.out
          rw [hfq] at hqf
          subst hqf
          go_wp2
          go_quiet (fail)
          go_wp2
          go_ret
          exact ⟨rfl, pw_below_drewN zbl nq⟩
        · have hd1 : decide (F.bars ≤ (y : Int)) = false := decide_eq_false hyb
          have hy3 : y < 3 := by omega
          have hlo' : Hid (lieOk F lie (k + 1) = true) := Lib.hid (by rw [hlos.out, hlo.out]; simp; omega)
          obtain ⟨cy, hcy⟩ : ∃ v, (costRoom F load lie k).get y = v := ⟨_, rfl⟩
          have hcyb : 0 ≤ cy ∧ cy ≤ 220 * k := by rw [← hcy, costRoom_get _ _ _ _ hy3]; exact hcb.out y
          have Hcy := Lib.hid hcy
          have hyH : Hid (rd lie k = y) := Lib.hid (by assumption)
          clear hlos hlo hcb hcy
          go_wp2
          go_quiet (fail)
          go_wp2
          clear hwq
          obtain ⟨wz, hwz⟩ : ∃ v, wq.drewN nq = v := ⟨_, rfl⟩
          rw [hwz]
          have u13 : Box wz B #[.int .i64 s.f0, .int .i64 s.f1, .int .i64 s.f2.f0, .int .i64 s.f2.f1, .int .i64 s.f3.f0, .int .i64 s.f3.f1] 74 := hwz ▸ z13.step (pw_below_drewN (Below.refl _ _) nq)
          have u4 : Box wz w.heap.size #[.int .i64 F.bars, .int .i64 F.length, .int .i64 F.gap, .int .i64 F.load, .int .i64 F.near] 23 := hwz ▸ z4.step (pw_below_drewN (Below.refl _ _) nq)
          have u9 : Box wz b9 (costRoom F load lie k).vs 99 := hwz ▸ z9.step (pw_below_drewN (Below.refl _ _) nq)
          have u11 : Box wz (b9 + 1) #[.int .i64 (refHeatK F.l load k).1, .int .i64 (refHeatK F.l load k).2] 36 := hwz ▸ z11.step (pw_below_drewN (Below.refl _ _) nq)
          have ubl : Below w.heap.size w wz := hwz ▸ pw_below_drewN zbl nq
          have s3z : wz.cell? (al3.add k) = some (.int .i64 y) := hwz ▸ s3q
          clear s3q hwz zbl z11 z9 z4 z13 k0
          have c0 : wz.cell? ⟨b9, y, none⟩ = some (.int .i64 cy) := by rw [← Hcy.out]; exact u9.cell y (Room.vs_get _ _ hy3)
          have f0 : wz.frozen? ⟨b9, y, none⟩ = false := u9.frozen y
          have d0 : wz.cell? ⟨B, 0, none⟩ = some (.int .i64 s.f0) := u13.cell 0 rfl
          have d2 : wz.cell? ⟨w.heap.size, 2, none⟩ = some (.int .i64 F.gap) := u4.cell 2 rfl
          have hy3' : (y : Int) < 3 := by omega
          have hkm : (k : Int) < m := by omega
          obtain ⟨W2, hW2⟩ : ∃ v, (wz.setCell ⟨b9, y, none⟩ (.int .i64 (cy + (s.f0 + F.gap)))).drew = v := ⟨_, rfl⟩
          have t13 : Box W2 B #[.int .i64 s.f0, .int .i64 s.f1, .int .i64 s.f2.f0, .int .i64 s.f2.f1, .int .i64 s.f3.f0, .int .i64 s.f3.f1] 74 := hW2 ▸ (u13.other (b' := b9) (by omega) y _).drew
          have t4 : Box W2 w.heap.size #[.int .i64 F.bars, .int .i64 F.length, .int .i64 F.gap, .int .i64 F.load, .int .i64 F.near] 23 := hW2 ▸ (u4.other (b' := b9) (by omega) y _).drew
          have t11 : Box W2 (b9 + 1) #[.int .i64 (refHeatK F.l load k).1, .int .i64 (refHeatK F.l load k).2] 36 := hW2 ▸ (u11.other (b' := b9) (by omega) y _).drew
          have t9 : Box W2 b9 (costRoom F load lie (k + 1)).vs 99 := by
            rw [← hW2, hcs.out y hyH.out hy3, ← Room.vs_put _ _ hy3, Hcy.out, hraH.out]
            exact (u9.set y _).drew
          have tbl : Below w.heap.size w W2 := hW2 ▸ (ubl.setCell (p := ⟨b9, y, none⟩) (by show w.heap.size ≤ b9; omega) _).drew
          have m3 : W2.cell? ⟨B, 3, none⟩ = some (.int .i64 s.f2.f1) := t13.cell 3 rfl
          have m4 : W2.cell? ⟨B, 4, none⟩ = some (.int .i64 s.f3.f0) := t13.cell 4 rfl
          have m5 : W2.cell? ⟨B, 5, none⟩ = some (.int .i64 s.f3.f1) := t13.cell 5 rfl
          have m6 : W2.cell? ⟨b9 + 1, 0, none⟩ = some (.int .i64 (refHeatK F.l load k).1) := t11.cell 0 rfl
          have m7 : W2.cell? ⟨b9 + 1, 1, none⟩ = some (.int .i64 (refHeatK F.l load k).2) := t11.cell 1 rfl
          have hwk := hws.out
          obtain ⟨wt, hwt⟩ : ∃ v, (refWeightK F.l load k).2 = v := ⟨_, rfl⟩
          have Hwt := Lib.hid hwt
          rw [hwt] at hwk
          clear hws
          go_still_tail 13, (by kernel_rfl)
          go_wp2_with fail
          clear hW2 u13 u4 u9 u11 ubl c0 f0 d0 d2 s3z
          refine (smaltolaw03_span.calls _ _ _ _ _ rfl).mono ?_
          rintro e_ w5 ⟨rfl, hb5⟩
          have p13 := t13.step hb5
          have p4 := t4.step hb5
          have p11 := t11.step hb5
          have p9 := t9.step hb5
          have pbl : Below w.heap.size w w5 := tbl.trans (hb5.mono tbl.size)
          have c0 : w5.cell? ⟨b9 + 1, 0, none⟩ = some (.int .i64 (refHeatK F.l load k).1) := p11.cell 0 rfl
          have c1' : w5.cell? ⟨b9 + 1, 1, none⟩ = some (.int .i64 (refHeatK F.l load k).2) := p11.cell 1 rfl
          have f0 : w5.frozen? ⟨b9 + 1, 0, none⟩ = false := p11.frozen 0
          have f1 : w5.frozen? ⟨b9 + 1, 1, none⟩ = false := p11.frozen 1
          clear t13 t4 t11 t9 tbl m3 m4 m5 m6 m7 hb5
          obtain ⟨w6, hw6⟩ : ∃ v, (w5.setCell ⟨b9 + 1, 0, none⟩ (.int .i64 (mx (refHeatK F.l load k).1 s.f3.f0))).setCell ⟨b9 + 1, 1, none⟩ (.int .i64 (mn (refHeatK F.l load k).2 s.f3.f1)) = v := ⟨_, rfl⟩
          have o13 : Box w6 B #[.int .i64 s.f0, .int .i64 s.f1, .int .i64 s.f2.f0, .int .i64 s.f2.f1, .int .i64 s.f3.f0, .int .i64 s.f3.f1] 74 := hw6 ▸ (p13.other (b' := b9 + 1) (by omega) 0 _).other (b' := b9 + 1) (by omega) 1 _
          have o4 : Box w6 w.heap.size #[.int .i64 F.bars, .int .i64 F.length, .int .i64 F.gap, .int .i64 F.load, .int .i64 F.near] 23 := hw6 ▸ (p4.other (b' := b9 + 1) (by omega) 0 _).other (b' := b9 + 1) (by omega) 1 _
          have o9 : Box w6 b9 (costRoom F load lie (k + 1)).vs 99 := hw6 ▸ (p9.other (b' := b9 + 1) (by omega) 0 _).other (b' := b9 + 1) (by omega) 1 _
          have o11 : Box w6 (b9 + 1) #[.int .i64 (refHeatK F.l load (k + 1)).1, .int .i64 (refHeatK F.l load (k + 1)).2] 36 := by
            rw [hhs'.out]
            exact hw6 ▸ (p11.set 0 _).set 1 _
          have obl : Below w.heap.size w w6 := hw6 ▸ (pbl.setCell (p := ⟨b9 + 1, 0, none⟩) (by show w.heap.size ≤ b9 + 1; omega) _).setCell (p := ⟨b9 + 1, 1, none⟩) (by show w.heap.size ≤ b9 + 1; omega) _
          go_wp2
          clear hw6 p13 p4 p9 p11 pbl c0 c1' f0 f1
          clear w5
          go_loopw [14] (fun i W => ∃ j : Nat, j ≤ k ∧ i = .int .i64 j ∧ Box W w.heap.size #[.int .i64 F.bars, .int .i64 F.length, .int .i64 F.gap, .int .i64 F.load, .int .i64 F.near] 23 ∧ Box W b9 (costRoom F load lie (k + 1)).vs 99 ∧ Box W (b9 + 1) #[.int .i64 (refHeatK F.l load (k + 1)).1, .int .i64 (refHeatK F.l load (k + 1)).2] 36 ∧ Box W B #[.int .i64 s.f0, .int .i64 s.f1, .int .i64 s.f2.f0, .int .i64 s.f2.f1, .int .i64 s.f3.f0, .int .i64 s.f3.f1] 74 ∧ Below w.heap.size w W ∧ Hid (refNear1 F.l load F.near k j = true)) (fun i _ => k - (intOf i).toNat)
          case atStart => exact ⟨0, Nat.zero_le _, rfl, o4, o9, o11, o13, obl, Lib.hid rfl⟩
          case round =>
            clear o4 o9 o11 o13 obl
            obtain ⟨j, hj, rfl, t4, t9, t11, t13, tbl, hnj⟩ := hrel
            by_cases hjk : j < k
            · obtain ⟨al', e5, s5⟩ := Kd.at_int (Kd.C_below hr2 tbl) j (by omega) (by omega)
              cases e5
              rw [Int.toNat_natCast] at s5
              have hra : refAt F.l load j = rd_T74 F.l (rd load j) := rfl
              obtain ⟨u, hu⟩ : ∃ u, rd load j = u := ⟨_, rfl⟩
              obtain ⟨v1', v2'⟩ := Hv.out j (by rw [Hn.out]; omega)
              rw [hu] at s5 v1' v2' hra
              obtain ⟨u, rfl⟩ : ∃ n : Nat, u = n := ⟨u.toNat, by omega⟩
              obtain ⟨ad', e6, k0, k1, k2, k3, k4, k5⟩ := at_T74 (Kd.C_below hr1 tbl) u (by omega) (by omega)
              cases e6
              rw [Int.toNat_natCast] at k0 k1 k2 k3 k4 k5
              rw [← hra] at k0 k1 k2 k3 k4 k5
              have hbj := (HF.out.signs (refAt F.l load j) (by rw [hra]; exact rd_mem (by omega))).2.1
              clear hra hu
              have hn1 := Lib.hid (refNear1_succ F.l load F.near k j)
              rw [Hs.out] at hn1
              obtain ⟨s', hs'⟩ : ∃ v, refAt F.l load j = v := ⟨_, rfl⟩
              rw [hs'] at k0 k1 k2 k3 k4 k5 hn1 hbj
              clear hs'
              obtain ⟨wp, hwp⟩ : ∃ v, wr.alloc (.cells #[.int .i64 s'.f0, .int .i64 s'.f1, .int .i64 s'.f2.f0, .int .i64 s'.f2.f1, .int .i64 s'.f3.f0, .int .i64 s'.f3.f1] 74) = v := ⟨_, rfl⟩
              have q15 : Box wp wr.heap.size #[.int .i64 s'.f0, .int .i64 s'.f1, .int .i64 s'.f2.f0, .int .i64 s'.f2.f1, .int .i64 s'.f3.f0, .int .i64 s'.f3.f1] 74 := hwp ▸ Box.new _ _ _
              have q4 := hwp ▸ t4.alloc (.cells #[.int .i64 s'.f0, .int .i64 s'.f1, .int .i64 s'.f2.f0, .int .i64 s'.f2.f1, .int .i64 s'.f3.f0, .int .i64 s'.f3.f1] 74)
              have q9 := hwp ▸ t9.alloc (.cells #[.int .i64 s'.f0, .int .i64 s'.f1, .int .i64 s'.f2.f0, .int .i64 s'.f2.f1, .int .i64 s'.f3.f0, .int .i64 s'.f3.f1] 74)
              have q11 := hwp ▸ t11.alloc (.cells #[.int .i64 s'.f0, .int .i64 s'.f1, .int .i64 s'.f2.f0, .int .i64 s'.f2.f1, .int .i64 s'.f3.f0, .int .i64 s'.f3.f1] 74)
              have q13 := hwp ▸ t13.alloc (.cells #[.int .i64 s'.f0, .int .i64 s'.f1, .int .i64 s'.f2.f0, .int .i64 s'.f2.f1, .int .i64 s'.f3.f0, .int .i64 s'.f3.f1] 74)
              have qbl : Below w.heap.size w wp := hwp ▸ tbl.alloc (by have := t4.lt; omega) _
              obtain ⟨C, hC⟩ : ∃ C, wr.heap.size = C := ⟨_, rfl⟩
              rw [hC] at q15
              have e15 : wp.cell? ⟨C, 1, none⟩ = some (.int .i64 s'.f1) := q15.cell 1 rfl
              have e13 : wp.cell? ⟨B, 1, none⟩ = some (.int .i64 s.f1) := q13.cell 1 rfl
              have e4 : wp.cell? ⟨w.heap.size, 4, none⟩ = some (.int .i64 F.near) := q4.cell 4 rfl
              have hfar : refNear1 F.l load F.near k (j + 1) = false → fineB F load lie = false := by
                intro hf
                have hf2 := refNear1_le F.l load F.near k (show j + 1 ≤ k by omega) hf
                have hf3 : refNearK F.l load F.near (k + 1) = false := by rw [refNearK_succ, hf2]; simp
                have hf4 := refNearK_le F.l load F.near (show k + 1 ≤ load.length by rw [Hn.out]; omega) hf3
                unfold fineB; rw [hf4]; simp
              have Hfar := Lib.hid hfar
              clear hfar
              have hmx : ∀ a b : Int, (mx a b ≤ F.near ↔ a ≤ F.near ∧ b ≤ F.near) := fun a b => by unfold mx; split <;> omega
              have hn2 : Hid (refNear1 F.l load F.near k (j + 1) = (refNear1 F.l load F.near k j && (decide (s.f1 - s'.f1 ≤ F.near) && decide (s'.f1 - s.f1 ≤ F.near)))) := Lib.hid (by rw [hn1.out]; congr 1; rw [Bool.eq_iff_iff]; simp only [Bool.and_eq_true, decide_eq_true_eq]; exact hmx _ _)
              clear hmx hn1
              by_cases ha : F.near < s.f1 - s'.f1
              · have hda : decide (F.near < s.f1 - s'.f1) = true := decide_eq_true ha
                have hqf := Hfar.out (by rw [hn2.out]; simp; omega)
                rw [Hq.out] at hqf
                subst hqf
                go_wp2
                go_ret
                exact ⟨rfl, qbl⟩
              · have hda : decide (F.near < s.f1 - s'.f1) = false := decide_eq_false ha
                by_cases hb : F.near < s'.f1 - s.f1
                · have hdb : decide (F.near < s'.f1 - s.f1) = true := decide_eq_true hb
                  have hqf := Hfar.out (by rw [hn2.out]; simp; omega)
                  rw [Hq.out] at hqf
                  subst hqf
                  go_wp2
                  go_ret
                  exact ⟨rfl, qbl⟩
                · have hdb : decide (F.near < s'.f1 - s.f1) = false := decide_eq_false hb
                  go_wp2
                  refine ⟨⟨j + 1, by omega, by go_num, q4, q9, q11, q13, qbl, Lib.hid ?_⟩, ?_⟩
                  · rw [hn2.out, hnj.out]; simp; omega
                  · simp [intOf]; omega
            · obtain rfl : j = k := by omega
              go_wp2
              refine ⟨⟨j + 1, by omega, ?_, by go_num, t4, t9, t11, tbl, hlo', Lib.hid ?_⟩, ?_⟩
              · rw [hsw.out, Hwt.out]
              · rw [refNearK_succ, hnr.out, hnj.out]; rfl
              · simp [intOf]; omega
    · obtain rfl : k = n := by omega
      rw [← Hn.out] at hlo hnr
      have hcb := Lib.hid (fun (x : Int) => Hcost.out x load.length (Nat.le_refl _))
      obtain ⟨wt, hwt⟩ : ∃ v, (refWeightK F.l load k).2 = v := ⟨_, rfl⟩
      have hwt2 : (refWeightK F.l load load.length).2 = wt := by rw [Hn.out]; exact hwt
      have hht2 : refHeatK F.l load load.length = refHeatK F.l load k := by rw [Hn.out]
      obtain ⟨⟨hl, hh⟩, hht⟩ : ∃ v, refHeatK F.l load k = v := ⟨_, rfl⟩
      rw [hht] at x11 hht2
      have hqq : Hid (q = (barsOk F load lie F.bars.toNat && (decide (wt ≤ F.load) && decide (hl ≤ hh)))) := Lib.hid (by rw [← Hq.out]; unfold fineB; rw [hlo.out, hnr.out, hwt2, hht2]; rfl)
      have hck : Hid (∀ b : Nat, b < 3 → (costRoom F load lie k).get b = costK F.gap F.l load lie b load.length) := Lib.hid (fun b hb => by rw [costRoom_get _ _ _ _ hb, Hn.out])
      rw [hwt]
      generalize costRoom F load lie k = L at x9 hck
      clear hwt hwt2 hht2 hht hlo hnr hwb Hcost
      go_wp2
      go_loopw [16] (fun i W => ∃ b : Nat, b ≤ F.bars.toNat ∧ i = .int .i64 b ∧ Box W w.heap.size #[.int .i64 F.bars, .int .i64 F.length, .int .i64 F.gap, .int .i64 F.load, .int .i64 F.near] 23 ∧ Box W b9 L.vs 99 ∧ Box W (b9 + 1) #[.int .i64 hl, .int .i64 hh] 36 ∧ Below w.heap.size w W ∧ Hid (barsOk F load lie b = true)) (fun i _ => F.bars.toNat - (intOf i).toNat)
      case atStart => exact ⟨0, Nat.zero_le _, rfl, x4, x9, x11, hbl, Lib.hid rfl⟩
      case round =>
        clear x4 x9 x11 hbl
        obtain ⟨b, hb, rfl, x4, x9, x11, hbl, hbo⟩ := hrel
        have e0 : wr.cell? ⟨w.heap.size, 0, none⟩ = some (.int .i64 F.bars) := x4.cell 0 rfl
        have e1 : wr.cell? ⟨w.heap.size, 1, none⟩ = some (.int .i64 F.length) := x4.cell 1 rfl
        have e2 : wr.cell? ⟨w.heap.size, 2, none⟩ = some (.int .i64 F.gap) := x4.cell 2 rfl
        have e3 : wr.cell? ⟨w.heap.size, 3, none⟩ = some (.int .i64 F.load) := x4.cell 3 rfl
        have h0 : wr.cell? ⟨b9 + 1, 0, none⟩ = some (.int .i64 hl) := x11.cell 0 rfl
        have h1 : wr.cell? ⟨b9 + 1, 1, none⟩ = some (.int .i64 hh) := x11.cell 1 rfl
        by_cases hlt : (b : Int) < F.bars
        · have hd0 : decide ((b : Int) < F.bars) = true := decide_eq_true hlt
          have hb3 : b < 3 := by omega
          obtain ⟨cb, hcbq⟩ : ∃ v, L.get b = v := ⟨_, rfl⟩
          have hcbb : 0 ≤ cb ∧ cb ≤ 1320 := by rw [← hcbq, hck.out b hb3]; have := hcb.out b; have := Hn.out; omega
          have c0 : wr.cell? ⟨b9, b, none⟩ = some (.int .i64 cb) := by rw [← hcbq]; exact x9.cell b (Room.vs_get _ _ hb3)
          have hbs : Hid (barsOk F load lie (b + 1) = (barsOk F load lie b && decide (cb ≤ F.length + F.gap))) := Lib.hid (by rw [barsOk_succ, ← hcbq, hck.out b hb3])
          have hb3' : (b : Int) < 3 := by omega
          clear hcbq
          by_cases hc : F.length + F.gap < cb
          · have hdc : decide (F.length + F.gap < cb) = true := decide_eq_true hc
            have hqf : q = false := by
              have h1 : barsOk F load lie (b + 1) = false := by rw [hbs.out]; simp; omega
              have h2 : barsOk F load lie F.bars.toNat = false := all_le (by omega) h1
              rw [hqq.out, h2]; rfl
            subst hqf
            go_wp2
            go_quiet (fail)
            go_wp2
            go_ret
            exact ⟨rfl, pw_below_drewN hbl nq⟩
          · have hdc : decide (F.length + F.gap < cb) = false := decide_eq_false hc
            go_wp2
            go_quiet (fail)
            go_wp2
            refine ⟨⟨b + 1, by omega, by go_num, x4.step (pw_below_drewN (Below.refl _ _) nq), x9.step (pw_below_drewN (Below.refl _ _) nq), x11.step (pw_below_drewN (Below.refl _ _) nq), pw_below_drewN hbl nq, Lib.hid ?_⟩, ?_⟩
            · rw [hbs.out, hbo.out]; simp; omega
            · simp [intOf]; omega
        · have hd0 : decide ((b : Int) < F.bars) = false := decide_eq_false hlt
          have hbe : b = F.bars.toNat := by omega
          rw [hbe] at hbo
          have hq2 := hqq.out
          rw [hbo.out, Bool.true_and] at hq2
          obtain ⟨d1, hd1⟩ : ∃ v, decide (wt ≤ F.load) = v := ⟨_, rfl⟩
          obtain ⟨d2, hd2⟩ : ∃ v, decide (hl ≤ hh) = v := ⟨_, rfl⟩
          rw [hd1, hd2] at hq2
          subst hq2
          clear hbe hbo
          cases d1 <;> cases d2
          all_goals
            go_wp2
            go_ret
            exact ⟨rfl, hbl⟩
end Go.Proofs.YtbijamlgcebgeaaDoor.Hand

-- part QH
namespace Go.Proofs.YtbijamlgcebgeaaDoor.Q
open Go.RowKit Go.Proofs.YtbijamlgcebgeaaDoorW.PrintWords Go.Proofs.YtbijamlgcebgeaaDoorW.PrintLast Go.Proofs.YtbijamlgcebgeaaDoorW.PrintMore
attribute [local go_sem] max2_int min2_int max_two min_two max_three min_three max_four min_four
def smaltolaw03_chosen.l0 : Nat → List (S74) → Int → List Int → Int → Option (List Int)
  | 0, _, _, _, _ => none
  | k + 1, x0, x1, x5, x6 => if x6 < (x0.length : Int) then (if 0 ≤ (IntKind.u64.wrap (x6)) then (if (Go.bits .and .u8 (shr .u8 x1 (IntKind.u64.wrap (x6))) 1) = 1 then (if x5.length < 17592186044416 then (smaltolaw03_chosen.l0 k x0 x1 (x5 ++ [x6]) (wrap64 (x6 + 1))) else (none)) else (smaltolaw03_chosen.l0 k x0 x1 x5 (wrap64 (x6 + 1)))) else (none)) else (some x5)
def smaltolaw03_chosen.f (k : Nat) (l0 : List (S74)) (a1 : Int) : Option (List Int) := smaltolaw03_chosen.l0 k l0 a1 (([] : List Int)) 0
theorem smaltolaw03_chosen.mono_l : ∀ k, (∀ y0 y1 y2 y3, LeO (smaltolaw03_chosen.l0 k y0 y1 y2 y3) (smaltolaw03_chosen.l0 (k + 1) y0 y1 y2 y3))
  | 0 => fun _ _ _ _ r h => by simp [smaltolaw03_chosen.l0] at h
  | k + 1 => by
    have ih0 := smaltolaw03_chosen.mono_l k
    · intro y0 y1 y2 y3
      unfold smaltolaw03_chosen.l0
      repeat' first
      | (with_reducible exact ih0 _ _ _ _)
      | (with_reducible exact LeO.refl _)
      | (with_reducible exact LeO.none _)
      | (with_reducible refine LeO.ite ?_ ?_)
      | (with_reducible refine LeO.bind ?_ (fun _ => ?_))
      | exact ih0 _ _ _ _
      | exact LeO.none _
      | refine LeO.ite ?_ ?_
      | refine LeO.bind ?_ (fun _ => ?_)
theorem smaltolaw03_chosen.mono : ∀ a0 a1 k, LeO (smaltolaw03_chosen.f k a0 a1) (smaltolaw03_chosen.f (k + 1) a0 a1) := by
  intro a0 a1 k
  have ih0 := smaltolaw03_chosen.mono_l k
  unfold smaltolaw03_chosen.f
  repeat' first
      | (with_reducible exact ih0 _ _ _ _)
      | (with_reducible exact LeO.refl _)
      | (with_reducible exact LeO.none _)
      | (with_reducible refine LeO.ite ?_ ?_)
      | (with_reducible refine LeO.bind ?_ (fun _ => ?_))
      | exact ih0 _ _ _ _
      | exact LeO.none _
      | refine LeO.ite ?_ ?_
      | refine LeO.bind ?_ (fun _ => ?_)
set_option maxHeartbeats 8000000 in
set_option maxRecDepth 100000 in
theorem smaltolaw03_chosen.calls (k : Nat) (A0 : Option Addr) (c0 : Nat) (l0 : List (S74)) (a1 : Int) (r : List Int) (w : World) (hr0 : Kd.C k74 w A0 l0.length l0) (hc0 : l0.length ≤ c0) (h : smaltolaw03_chosen.f k l0 a1 = some r) :
    Calls Tryd.prog 42 #[.slice A0 l0.length c0, .int .u8 a1] w fun e w' => ∃ v0_ : Value, e = .returned (v0_) ∧ Kd.R (Kd.int .i64) 3 w' w.heap.size (fun _ => True) v0_ r ∧ Below w.heap.size w w' := by
  have HR0 := Aside0.mk hr0
  have HC0 := Aside0.mk hc0
  clear hr0 hc0
  have HB := Aside0.mk (Below.refl w.heap.size w)
  have H : (smaltolaw03_chosen.l0 k l0 a1 (([] : List Int)) 0) = some r := h
  clear h
  obtain ⟨y338, hy338⟩ : ∃ y_ : List Int, y_ = (([] : List Int)) := ⟨_, rfl⟩
  replace H : (smaltolaw03_chosen.l0 k l0 a1 y338 0) = some r := by first | (rw [hy338]; with_reducible exact H) | (have H2_ := (Option.bind_some _ _).symm.trans H; rw [hy338]; with_reducible exact H2_) | (have H2_ := (Option.bind_some _ _).symm.trans H; with_reducible exact H2_) | with_reducible exact H | (rw [hy338]; exact H) | exact H
  have Ny338 := Aside0.mk hy338
  clear hy338
  have H' := Aside0.mk H
  clear H
  go_enter Tryd.func42, Tryd.ntmps42
  go_wp2_with (first | ((with_reducible refine gate_dst (N := 7) rfl ?_); refine Kd.R_lit (Kd.int .i64) _ 3 ?hg (N := 7) ?hd (xs := ([] : List Int)) (inner := []) (ok := fun _ => True) (okp := fun _ => True) ?hr ?hp (fun _ hk => hk) trivial (Below.refl _ _) (Nat.le_refl _) (by simp) ?_; (case hd => rfl); (case hg => rfl); (case hr => first | (go_simp; done) | (go_simp; rfl)); (case hp => exact (Reps.none _ _)); intro v339 w3 ho4 hb hg_ hnew_; clear hg_ hnew_; (first | rw [← Ny338.out] at ho4 | (simp only [Int.reduceToNat] at ho4; rw [← Ny338.out] at ho4)); have n0_ := Aside0.mk (Kd.R_lower ho4 (below_size (by repeat (first | (with_reducible first | exact HB.out | apply below_alloc | apply pw_below_drewN | apply below_drew1) | exact HB.out)))); have n1_ := Aside0.mk (below_step (by repeat (first | (with_reducible first | exact HB.out | apply below_alloc | apply pw_below_drewN | apply below_drew1) | exact HB.out)) hb); clear HB; have HO340 := n0_; have HB := n1_; clear n0_ n1_; clear hb ho4))
  go_loopg [5, 6] k (fun kq v5 v6 w' => ∃ (x5_1 : List Int) (x6_1 : Int), v6 = .int .i64 x6_1 ∧ Aside0 (smaltolaw03_chosen.l0 kq l0 a1 x5_1 x6_1 = some r) ∧ Aside0 (kq ≤ k) ∧ Aside0 (Kd.R (Kd.int .i64) 3 w' w.heap.size (fun _ => True) v5 x5_1) ∧ Aside0 (Below w.heap.size w w'))
  case atStart => exact ⟨(y338), (0), (by first | rfl | (simp; done) | (simp [*]; done)), H', ⟨Nat.le_refl _⟩, ⟨by (with_reducible repeat (first | apply Kd.R_alloc | apply Kd.R_drewN | apply Kd.R_drew)); exact HO340.out⟩, ⟨by repeat (first | (with_reducible first | exact HB.out | apply below_alloc | apply pw_below_drewN | apply below_drew1) | exact HB.out)⟩⟩
  case round =>
    clear H'
    try clear p2
    try clear c4
    obtain ⟨x5_1, x6_1, rfl, HA, HK1, HO_5, HB⟩ := hrel
    cases gk with
    | zero => exact absurd HA.out (by simp [smaltolaw03_chosen.l0])
    | succ k1 =>
      have H := HA.out
      clear HA
      simp only [smaltolaw03_chosen.l0] at H
      by_cases c5 : x6_1 < (l0.length : Int)
      · rw [if_pos c5] at H
        have c5b0 : decide (x6_1 < (l0.length : Int)) = true := decide_eq_true c5
        clear c5
        obtain ⟨ji6, hji6⟩ : ∃ j_ : Int, (IntKind.u64.wrap (x6_1)) = j_ := ⟨_, rfl⟩
        replace H : (if 0 ≤ (ji6) then (if (Go.bits .and .u8 (shr .u8 a1 (ji6)) 1) = 1 then (if x5_1.length < 17592186044416 then (smaltolaw03_chosen.l0 k1 l0 a1 (x5_1 ++ [x6_1]) (wrap64 (x6_1 + 1))) else (none)) else (smaltolaw03_chosen.l0 k1 l0 a1 x5_1 (wrap64 (x6_1 + 1)))) else (none)) = some r := by first | (rw [hji6] at H; exact H) | (simp only [hji6] at H ⊢; exact H)
        by_cases c7 : 0 ≤ (ji6)
        · rw [if_pos c7] at H
          have c7b0 := eq_true c7
          have c7b1 : decide (0 ≤ (ji6)) = true := decide_eq_true c7
          clear c7
          obtain ⟨ji8, hji8⟩ : ∃ j_ : Int, (shr .u8 a1 (ji6)) = j_ := ⟨_, rfl⟩
          replace H : (if (Go.bits .and .u8 (ji8) 1) = 1 then (if x5_1.length < 17592186044416 then (smaltolaw03_chosen.l0 k1 l0 a1 (x5_1 ++ [x6_1]) (wrap64 (x6_1 + 1))) else (none)) else (smaltolaw03_chosen.l0 k1 l0 a1 x5_1 (wrap64 (x6_1 + 1)))) = some r := by first | (rw [hji8] at H; exact H) | (simp only [hji8] at H ⊢; exact H)
          have hji8_ : (a1 / 2 ^ min (ji6).toNat 8) = ji8 := hji8
          have hji8z : (ji6) ≤ 8 → (a1 / 2 ^ (ji6).toNat) = ji8 := shr_small hji8
          by_cases c9 : (Go.bits .and .u8 (ji8) 1) = 1
          · rw [if_pos c9] at H
            have c9b0 : ((Go.bits .and .u8 (ji8) 1) == 1) = true := beq_iff_eq.mpr c9
            have c9b1 : ((Go.bits .and .u8 (ji8) 1) != 1) = false := bne_eq_false_iff_eq.mpr c9
            clear c9
            by_cases c10 : x5_1.length < 17592186044416
            · rw [if_pos c10] at H
              have LMc10 := Aside0.mk c10
              clear c10
              obtain ⟨y341, hy341⟩ : ∃ y_ : List Int, y_ = (x5_1 ++ [x6_1]) := ⟨_, rfl⟩
              replace H : (smaltolaw03_chosen.l0 k1 l0 a1 y341 (wrap64 (x6_1 + 1))) = some r := by first | (rw [hy341]; with_reducible exact H) | (have H2_ := (Option.bind_some _ _).symm.trans H; rw [hy341]; with_reducible exact H2_) | (have H2_ := (Option.bind_some _ _).symm.trans H; with_reducible exact H2_) | with_reducible exact H | (rw [hy341]; exact H) | exact H
              have Ny341 := Aside0.mk hy341
              clear hy341
              have H' := Aside0.mk H
              clear H
              go_wp2_with (first | ((with_reducible refine gate_builtin (b := .append) (xs := #[.tmp 20, .tmp 22]) rfl ?_); at_builtin; refine Kd.R_append (Kd.int .i64) (w0 := w) w.heap.size rfl (.tmp 20) (.tmp 22) 25 3 (.int .i64 0) 8 rfl Tryd.underlying25 info3 rfl (by decide) (by omega) u5 x5_1 x6_1 [.int .i64 x6_1] (fun _ => True) (fun _ => False) rfl rfl ?aP (fun _ hk => hk.elim) ?aF ?aO ?aB ?aS ?aL ?_; (case aP => exact rfl); (case aB => exact (by repeat (first | (with_reducible first | exact HB.out | apply below_alloc | apply pw_below_drewN | apply below_drew1) | exact HB.out))); (case aF => exact (fun _ _ => trivial)); (case aO => exact (by (with_reducible repeat (first | apply Kd.R_alloc | apply Kd.R_drewN | apply Kd.R_drew)); exact HO_5.out)); (case aS => exact (below_size (by repeat (first | (with_reducible first | exact HB.out | apply below_alloc | apply pw_below_drewN | apply below_drew1) | exact HB.out)))); (case aL => have := LMc10.out; omega); intro v342 w11 ho hb hg hat; rw [← Ny341.out] at ho; have n0_ := Aside0.mk (hb); have n1_ := Aside0.mk (ho); clear HB; clear HO_5; have HB := n0_; have HO343 := n1_; clear n0_ n1_; clear ho hb hg hat))
              go_roundg k1
              case measure => have := HK1.out; omega
              case rel => exact ⟨(y341), (wrap64 (x6_1 + 1)), (by first | rfl | (simp; done) | (simp [*]; done)), H', ⟨by have := HK1.out; omega⟩, ⟨by (with_reducible repeat (first | apply Kd.R_alloc | apply Kd.R_drewN | apply Kd.R_drew)); exact HO343.out⟩, ⟨by repeat (first | (with_reducible first | exact HB.out | apply below_alloc | apply pw_below_drewN | apply below_drew1) | exact HB.out)⟩⟩
            · rw [if_neg c10] at H
              exact absurd H (by simp)
          · rw [if_neg c9] at H
            have c9b0 : ((Go.bits .and .u8 (ji8) 1) == 1) = false := beq_eq_false_iff_ne.mpr c9
            have c9b1 : ((Go.bits .and .u8 (ji8) 1) != 1) = true := bne_iff_ne.mpr c9
            have H' := Aside0.mk H
            clear H
            go_wp2
            go_roundg k1
            case measure => have := HK1.out; omega
            case rel => exact ⟨(x5_1), (wrap64 (x6_1 + 1)), (by first | rfl | (simp; done) | (simp [*]; done)), H', ⟨by have := HK1.out; omega⟩, ⟨by (with_reducible repeat (first | apply Kd.R_alloc | apply Kd.R_drewN | apply Kd.R_drew)); exact HO_5.out⟩, ⟨by repeat (first | (with_reducible first | exact HB.out | apply below_alloc | apply pw_below_drewN | apply below_drew1) | exact HB.out)⟩⟩
        · rw [if_neg c7] at H
          exact absurd H (by simp)
      · rw [if_neg c5] at H
        have c5b0 : decide (x6_1 < (l0.length : Int)) = false := decide_eq_false c5
        clear c5
        obtain rfl := Option.some.inj H
        go_wp2
        go_ret
        exact ⟨_, by first | rfl | (simp [errW_none, errW_some] <;> rfl) | (simp [*, errW_none, errW_some] <;> rfl), by (with_reducible repeat (first | apply Kd.R_alloc | apply Kd.R_drewN | apply Kd.R_drew)); exact HO_5.out, by repeat (first | (with_reducible first | exact HB.out | apply below_alloc | apply pw_below_drewN | apply below_drew1) | exact HB.out)⟩
def smaltolaw03_own.f (l0 : List (S74)) : Option ((List (S74))) := (some (([] : List (S74)) : List (S74))).bind fun y344 => (if y344.length + l0.length < 2932031007402 then (some (y344 ++ l0)) else (none))
set_option maxHeartbeats 8000000 in
set_option maxRecDepth 100000 in
theorem smaltolaw03_own.calls (A0 : Option Addr) (c0 : Nat) (l0 : List (S74)) (r : List (S74)) (w : World) (hr0 : Kd.C k74 w A0 l0.length l0) (hc0 : l0.length ≤ c0) (h : smaltolaw03_own.f l0 = some r) :
    Calls Tryd.prog 43 #[.slice A0 l0.length c0] w fun e w' => ∃ v0_ : Value, e = .returned (v0_) ∧ Kd.R k74 74 w' w.heap.size (fun _ => True) v0_ r ∧ Below w.heap.size w w' := by
  have HR0 := Aside0.mk hr0
  have HC0 := Aside0.mk hc0
  clear hr0 hc0
  have HB := Aside0.mk (Below.refl w.heap.size w)
  have H : ((some (([] : List (S74)) : List (S74))).bind fun y344 => (if y344.length + l0.length < 2932031007402 then (some (y344 ++ l0)) else (none))) = some r := h
  clear h
  obtain ⟨y344, hy344⟩ : ∃ y_ : List (S74), y_ = (([] : List (S74))) := ⟨_, rfl⟩
  replace H : (if y344.length + l0.length < 2932031007402 then (some (y344 ++ l0)) else (none)) = some r := by first | (rw [hy344]; with_reducible exact H) | (have H2_ := (Option.bind_some _ _).symm.trans H; rw [hy344]; with_reducible exact H2_) | (have H2_ := (Option.bind_some _ _).symm.trans H; with_reducible exact H2_) | with_reducible exact H | (rw [hy344]; exact H) | exact H
  have Ny344 := Aside0.mk hy344
  clear hy344
  by_cases c2 : y344.length + l0.length < 2932031007402
  · rw [if_pos c2] at H
    have LMc2 := Aside0.mk c2
    clear c2
    obtain ⟨y347, hy347⟩ : ∃ y_ : List (S74), y_ = (y344 ++ l0) := ⟨_, rfl⟩
    replace H : (some y347) = some r := by first | (rw [hy347]; with_reducible exact H) | (have H2_ := (Option.bind_some _ _).symm.trans H; rw [hy347]; with_reducible exact H2_) | (have H2_ := (Option.bind_some _ _).symm.trans H; with_reducible exact H2_) | with_reducible exact H | (rw [hy347]; exact H) | exact H
    have Ny347 := Aside0.mk hy347
    clear hy347
    obtain rfl := Option.some.inj H
    go_enter Tryd.func43, Tryd.ntmps43
    go_wp2_with (first | ((with_reducible refine gate_dst (N := 3) rfl ?_); refine Kd.R_lit k74 _ 74 ?hg (N := 3) ?hd (xs := ([] : List (S74))) (inner := []) (ok := fun _ => True) (okp := fun _ => True) ?hr ?hp (fun _ hk => hk) trivial (Below.refl _ _) (Nat.le_refl _) (by simp) ?_; (case hd => rfl); (case hg => rfl); (case hr => first | (go_simp; done) | (go_simp; rfl)); (case hp => exact (Reps.none _ _)); intro v345 w3 ho4 hb hg_ hnew_; clear hg_ hnew_; (first | rw [← Ny344.out] at ho4 | (simp only [Int.reduceToNat] at ho4; rw [← Ny344.out] at ho4)); have n0_ := Aside0.mk (Kd.R_lower ho4 (below_size (by repeat (first | (with_reducible first | exact HB.out | apply below_alloc | apply pw_below_drewN | apply below_drew1) | exact HB.out)))); have n1_ := Aside0.mk (below_step (by repeat (first | (with_reducible first | exact HB.out | apply below_alloc | apply pw_below_drewN | apply below_drew1) | exact HB.out)) hb); clear HB; have HO346 := n0_; have HB := n1_; clear n0_ n1_; clear hb ho4) | ((with_reducible refine gate_builtin (b := .append) (xs := #[.tmp 3, .tmp 4]) rfl ?_); at_builtin; refine Kd.R_append_rows k74 (w0 := w) w.heap.size rfl (.tmp 3) (.tmp 4) 24 74 (.agg #[(.int .i64 0), (.int .i64 0), (.int .i64 0), (.int .i64 0), (.int .i64 0), (.int .i64 0)]) 48 rfl Tryd.underlying24 info74 rfl (by decide) (by omega) v345 y344 l0 _ _ _ (fun _ => True) (fun _ => False) rfl rfl ?aO ?aR (fun _ _ h => h) (fun _ h => h.elim) ?aF ?aB ?aS ?aL ?_; (case aR => repeat (first | exact (Kd.C_below HR0.out HB.out) | (with_reducible refine Kd.C_alloc ?_ _) | (with_reducible refine Kd.C_drewN ?_ _) | (with_reducible refine Kd.C_drew ?_))); (case aB => exact (by repeat (first | (with_reducible first | exact HB.out | apply below_alloc | apply pw_below_drewN | apply below_drew1) | exact HB.out))); (case aF => exact (fun _ _ => trivial)); (case aO => exact (by (with_reducible repeat (first | apply Kd.R_alloc | apply Kd.R_drewN | apply Kd.R_drew)); exact HO346.out)); (case aS => exact (below_size (by repeat (first | (with_reducible first | exact HB.out | apply below_alloc | apply pw_below_drewN | apply below_drew1) | exact HB.out)))); (case aL => have := LMc2.out; omega); intro v348 w5 ho hb hg hat; rw [← Ny347.out] at ho; have n0_ := Aside0.mk (hb); have n1_ := Aside0.mk (ho); clear HB; clear HO346; have HB := n0_; have HO349 := n1_; clear n0_ n1_; clear ho hb hg hat))
    go_ret
    exact ⟨_, by first | rfl | (simp [errW_none, errW_some] <;> rfl) | (simp [*, errW_none, errW_some] <;> rfl), by (with_reducible repeat (first | apply Kd.R_alloc | apply Kd.R_drewN | apply Kd.R_drew)); exact HO349.out, by repeat (first | (with_reducible first | exact HB.out | apply below_alloc | apply pw_below_drewN | apply below_drew1) | exact HB.out)⟩
  · rw [if_neg c2] at H
    exact absurd H (by simp)
end Go.Proofs.YtbijamlgcebgeaaDoor.Q

-- part RA
namespace Go.Proofs.YtbijamlgcebgeaaDoor.Hand
open Go.RowKit Go.Shelf Go.Sort Go.Proofs.YtbijamlgcebgeaaDoorW.PrintWords Go.Proofs.YtbijamlgcebgeaaDoorW.PrintMore Go.Proofs.YtbijamlgcebgeaaDoor.Q
/-- Boxes, signs and lists that stand in memory, and what has been since a world. -/
structure FS (w : World) (B : List (Nat × Array Value × Nat)) (S : List (Option Addr × List S74)) (L : List (Option Addr × List Int)) (W : World) : Prop where
  tab : TabW W
  boxes : ∀ p ∈ B, Box W p.1 p.2.1 p.2.2
  signs : ∀ p ∈ S, Kd.C k74 W p.1 p.2.length p.2
  held : Held L W
  below : Below w.heap.size w W
namespace FS
variable {w W W' : World} {B : List (Nat × Array Value × Nat)} {S : List (Option Addr × List S74)} {L : List (Option Addr × List Int)}
theorem step (h : FS w B S L W) (hb : Below W.heap.size W W') : FS w B S L W' :=
  ⟨h.tab.below hb, fun p hp => (h.boxes p hp).step hb, fun p hp => Kd.C_below (h.signs p hp) hb, fun p hp => Kd.C_below (h.held p hp) hb, h.below.trans (hb.mono h.below.size)⟩
theorem alloc (h : FS w B S L W) (o : Obj) : FS w B S L (W.alloc o) := h.step ((Below.refl _ _).alloc (Nat.le_refl _) _)
theorem drew (h : FS w B S L W) : FS w B S L W.drew := h.step ((Below.refl _ _).drew)
theorem drewN (h : FS w B S L W) (n : Nat) : FS w B S L (W.drewN n) := h.step (pw_below_drewN (Below.refl _ _) n)
theorem box (h : FS w B S L W) {b : Nat} {vs : Array Value} {t : Nat} (hm : (b, vs, t) ∈ B) : Box W b vs t := h.boxes _ hm
theorem sign (h : FS w B S L W) {A : Option Addr} {xs : List S74} (hm : (A, xs) ∈ S) : Kd.C k74 W A xs.length xs := h.signs _ hm
theorem list (h : FS w B S L W) {A : Option Addr} {xs : List Int} (hm : (A, xs) ∈ L) : Kd.C (Kd.int .i64) W A xs.length xs := h.held _ hm
end FS
/-- The rules of a fork as they lie in a box. -/
def rv (F : Furn) : Array Value := #[.int .i64 F.bars, .int .i64 F.length, .int .i64 F.gap, .int .i64 F.load, .int .i64 F.near]
structure RC (b : Nat) (F : Furn) (w' : World) : Prop where
  r0 : w'.cell? ⟨b, 0, none⟩ = some (.int .i64 F.bars)
  r1 : w'.cell? ⟨b, 1, none⟩ = some (.int .i64 F.length)
  r2 : w'.cell? ⟨b, 2, none⟩ = some (.int .i64 F.gap)
  r3 : w'.cell? ⟨b, 3, none⟩ = some (.int .i64 F.load)
  r4 : w'.cell? ⟨b, 4, none⟩ = some (.int .i64 F.near)
theorem RC.of {b : Nat} {F : Furn} {W : World} (h : Box W b (rv F) 23) : RC b F W := ⟨h.cell 0 rfl, h.cell 1 rfl, h.cell 2 rfl, h.cell 3 rfl, h.cell 4 rfl⟩
/-- The signs whose bits a byte has. -/
def chosenL (n by_ : Nat) : List Int := ((List.range n).filter fun i => by_.testBit i).map Int.ofNat
theorem bit_at (by_ i : Nat) (hi : i < 6) (hb : by_ < 256) : Go.bits .and .u8 (shr .u8 (by_ : Int) (IntKind.u64.wrap (i : Int))) 1 = if by_.testBit i then 1 else 0 := by
  have h : ∀ b < 256, ∀ i < 6, Go.bits .and .u8 (shr .u8 ((b : Nat) : Int) (IntKind.u64.wrap ((i : Nat) : Int))) 1 = if Nat.testBit b i then 1 else 0 := by decide +kernel
  exact h by_ hb i hi
theorem u64_nonneg (x : Int) : 0 ≤ IntKind.u64.wrap x := by
  simp only [IntKind.wrap]
  exact Int.emod_nonneg _ (by decide)
theorem chosen_eq (l : List S74) (by_ : Nat) (hb : by_ < 256) (hl : l.length ≤ 6) : smaltolaw03_chosen.f 10 l by_ = some (chosenL l.length by_) := by
  have key : ∀ d (k : Nat), k + d = l.length → ∀ q, d < q → smaltolaw03_chosen.l0 q l by_ (chosenL k by_) k = some (chosenL l.length by_) := by
    intro d
    induction d with
    | zero =>
      intro k hk q hq
      obtain ⟨q, rfl⟩ : ∃ p, q = p + 1 := ⟨q - 1, by omega⟩
      have hk' : k = l.length := by omega
      subst hk'
      unfold smaltolaw03_chosen.l0
      rw [if_neg (by omega)]
    | succ d ih =>
      intro k hk q hq
      obtain ⟨q, rfl⟩ : ∃ p, q = p + 1 := ⟨q - 1, by omega⟩
      unfold smaltolaw03_chosen.l0
      have hw : wrap64 ((k : Int) + 1) = ((k + 1 : Nat) : Int) := by unfold wrap64; omega
      have hlen : (chosenL k by_).length ≤ 6 := by
        unfold chosenL
        rw [List.length_map]
        exact Nat.le_trans (List.length_filter_le _ _) (by simp; omega)
      have hs : chosenL (k + 1) by_ = if by_.testBit k then chosenL k by_ ++ [(k : Int)] else chosenL k by_ := by
        unfold chosenL
        rw [List.range_succ, List.filter_append, List.map_append]
        cases h : by_.testBit k <;> simp [h]
      have hi := ih (k + 1) (by omega) q (by omega)
      rw [if_pos (by omega), if_pos (u64_nonneg _), bit_at by_ k (by omega) hb, hw]
      cases h : by_.testBit k
      · rw [hs, h] at hi
        simpa [h] using hi
      · rw [hs, h] at hi
        rw [if_pos rfl, if_pos rfl, if_pos (by omega)]
        exact hi
  have h0 := key l.length 0 (by omega) 10 (by omega)
  exact h0
theorem chosenL_len (n by_ : Nat) : (chosenL n by_).length ≤ n := by
  unfold chosenL
  rw [List.length_map]
  exact Nat.le_trans (List.length_filter_le _ _) (by simp)
theorem chosenL_in (n by_ : Nat) : ∀ j : Nat, j < (chosenL n by_).length → 0 ≤ rd (chosenL n by_) j ∧ rd (chosenL n by_) j < n := by
  intro j hj
  rw [rd_get hj]
  have hm : (chosenL n by_)[j] ∈ chosenL n by_ := List.getElem_mem _
  generalize (chosenL n by_)[j] = y at hm
  unfold chosenL at hm
  obtain ⟨i, hi, rfl⟩ := List.mem_map.1 hm
  have := List.mem_range.1 (List.mem_filter.1 hi).1
  simp only [Int.ofNat_eq_natCast]
  omega
end Go.Proofs.YtbijamlgcebgeaaDoor.Hand

-- part RS
namespace Go.Proofs.YtbijamlgcebgeaaDoor.Hand
open Go.RowKit Go.Shelf Go.Sort Go.Proofs.YtbijamlgcebgeaaDoorW.PrintWords Go.Proofs.YtbijamlgcebgeaaDoorW.PrintMore Go.Proofs.YtbijamlgcebgeaaDoor.Q
attribute [local go_sem high] eqA36
/-- Signs of their least weights. -/
def lightL (l : List S74) : List S74 := l.map fun x => ⟨x.f0, x.f1, ⟨x.f2.f0, x.f2.f0⟩, x.f3⟩
def gR (F : Furn) (l : List S74) (load : List Int) : Bool × Bool × Int := goesR F.bars F.length F.gap F.load F.near l load
structure RightD (F : Furn) (load tried : List Int) (su po : Bool) (wh : List Int) (f lo hi g : Int) : Prop where
  goes : gR F F.l load = (su, po, 0)
  bars : barsR F.bars F.length F.gap F.load F.near F.l load = (wh, f)
  heat : heatR F.bars F.length F.gap F.load F.near F.l load = (lo, hi, g)
  ways : (su = true ∧ po = true ∧ f = 0 ∧ g = 0) ∨ (su = false ∧ (f = 0 ∨ f = 7) ∧ (g = 0 ∨ g = 7))
  whlen : f = 0 → wh.length = load.length
  whnil : f = 7 → wh = []
  heat0 : g = 7 → lo = 0 ∧ hi = 0
  heatle : g = 0 → lo ≤ hi
  fine1 : su = true → fineB F load wh = true
  fine2 : su = false → fineB F load tried = false
  suits : g = 0 → ∀ k : Nat, k < load.length → (rd_T74 F.l (rd load k)).f3.f0 ≤ lo ∧ hi ≤ (rd_T74 F.l (rd load k)).f3.f1
  less : ∀ k : Nat, k < load.length → ∃ s p, gR F F.l (load.take k ++ load.drop (k + 1)) = (s, p, 0) ∧ (su = true → s = true)
  light : ∃ p, gR F (lightL F.l) load = (po, p, 0)
structure HC (b : Nat) (lo hi : Int) (w' : World) : Prop where
  lo : w'.cell? ⟨b, 0, none⟩ = some (.int .i64 lo)
  hi : w'.cell? ⟨b, 1, none⟩ = some (.int .i64 hi)
theorem HC.of {b : Nat} {lo hi : Int} {W : World} (h : Box W b #[.int .i64 lo, .int .i64 hi] 36) : HC b lo hi W := ⟨h.cell 0 rfl, h.cell 1 rfl⟩
/-- What a Rack makes. -/
def madeF (x : B5) (xs : List B5) : Furn := ⟨((1 + x.a % 3 : Nat) : Int), ((30 + x.b % 100 : Nat) : Int), ((x.c % 8 : Nat) : Int), ((40 + x.d : Nat) : Int), ((x.e % 40 : Nat) : Int), madeL xs⟩
theorem madeF_ok (x : B5) (hx : x.Ok) (xs : List B5) (hxs : ∀ v ∈ xs, v.Ok) : (madeF x xs).Ok := by
  obtain ⟨h1, h2, h3, h4, h5⟩ := hx
  refine ⟨⟨?_, ?_⟩, ⟨?_, ?_⟩, ⟨?_, ?_⟩, ⟨?_, ?_⟩, ⟨?_, ?_⟩, ?_, ?_⟩
  all_goals try (unfold madeF; simp only; omega)
  · unfold madeF madeL
    simp
    omega
  · intro y hy
    unfold madeF madeL at hy
    obtain ⟨v, hv, rfl⟩ := List.mem_map.1 hy
    obtain ⟨q1, q2, q3, q4, q5⟩ := hxs v (List.mem_of_mem_take hv)
    unfold madeS
    simp only
    omega
end Go.Proofs.YtbijamlgcebgeaaDoor.Hand

-- part RP
namespace Go.Proofs.YtbijamlgcebgeaaDoor.Hand
open Go.RowKit Go.Shelf Go.Sort Go.Proofs.YtbijamlgcebgeaaDoorW.PrintWords Go.Proofs.YtbijamlgcebgeaaDoorW.PrintMore Go.Proofs.YtbijamlgcebgeaaDoor.Q
theorem setL_some (n : Nat) (load : List Int) (hv : ∀ j : Nat, j < load.length → 0 ≤ rd load j ∧ rd load j < n) (ha : ∀ j : Nat, 0 < j → j < load.length → rd load ((j : Int) - 1) < rd load j) :
    ∀ (d k s : Nat), k + d = load.length → ∃ r, setL n load d k s = some r := by
  intro d
  induction d with
  | zero => intro k s _; exact ⟨s, rfl⟩
  | succ d ih =>
    intro k s hk
    have h1 := hv k (by omega)
    unfold setL
    rw [if_pos (by rw [allIn_one]; simp only [Bool.and_eq_true, decide_eq_true_eq]; omega), if_neg (by rintro ⟨h2, h3⟩; have := ha k h2 (by omega); omega)]
    exact ih _ _ (by omega)
theorem ok_check {a b c d e : Int} {l : List S74} (h : (mkF a b c d e l).Ok) : checkF a b c d e l = 0 := by
  obtain ⟨h1, h2, h3, h4, h5, h6, h7⟩ := h
  simp only [mkF] at h1 h2 h3 h4 h5 h6 h7
  unfold checkF
  rw [if_pos (by unfold rulesB; simp only [allIn_one, Bool.and_eq_true, decide_eq_true_eq]; omega), if_neg (by omega), if_neg (by
    simp only [List.any_eq_true, not_exists, not_and]
    intro x hx
    have h8 := h7 x hx
    have : signB x = true := by
      unfold signB
      simp only [allIn_one, allIn_two, Bool.and_eq_true, decide_eq_true_eq]
      omega
    simp [this])]
theorem newR_some {a b c d e : Int} {l : List S74} {load : List Int} (h : (mkF a b c d e l).Ok) (hv : ∀ j : Nat, j < load.length → 0 ≤ rd load j ∧ rd load j < l.length) (ha : ∀ j : Nat, 0 < j → j < load.length → rd load ((j : Int) - 1) < rd load j) :
    ∃ s, newR a b c d e l load = .ok s := by
  obtain ⟨r, hr⟩ := setL_some l.length load hv ha load.length 0 0 (by omega)
  refine ⟨r, ?_⟩
  unfold newR
  rw [if_pos (ok_check h), hr]
end Go.Proofs.YtbijamlgcebgeaaDoor.Hand

-- part RQ
namespace Go.Proofs.YtbijamlgcebgeaaDoor.Hand
open Go.RowKit Go.Shelf Go.Sort Go.Proofs.YtbijamlgcebgeaaDoorW.PrintWords Go.Proofs.YtbijamlgcebgeaaDoorW.PrintMore Go.Proofs.YtbijamlgcebgeaaDoor.Q
theorem chosenL_pair (n by_ : Nat) : (chosenL n by_).Pairwise (· < ·) := by
  unfold chosenL
  rw [List.pairwise_map]
  refine List.Pairwise.imp (fun {a b} h => ?_) (List.pairwise_lt_range.filter _)
  exact Int.ofNat_lt.2 h
theorem chosenL_mem (n by_ : Nat) : ∀ x ∈ chosenL n by_, 0 ≤ x ∧ x < n := by
  intro y hm
  unfold chosenL at hm
  obtain ⟨i, hi, rfl⟩ := List.mem_map.1 hm
  have := List.mem_range.1 (List.mem_filter.1 hi).1
  simp only [Int.ofNat_eq_natCast]
  omega
/-- A valid fork takes a load that ascends. -/
theorem new_pair {F : Furn} (hF : F.Ok) {load : List Int} (hp : load.Pairwise (· < ·)) (hm : ∀ x ∈ load, 0 ≤ x ∧ x < F.l.length) :
    ∃ s, newR F.bars F.length F.gap F.load F.near F.l load = .ok s ∧ (bitsOf s).map Int.ofNat = load ∧ s < 64 := by
  obtain ⟨s, hs⟩ := newR_some (a := F.bars) (b := F.length) (c := F.gap) (d := F.load) (e := F.near) (l := F.l) (load := load) hF (fun j hj => by rw [rd_get hj]; exact hm _ (List.getElem_mem _)) (fun j h0 hj => by
    rw [show ((j : Int) - 1) = ((j - 1 : Nat) : Int) by omega, rd_get hj, rd_get (show j - 1 < load.length by omega)]
    exact List.pairwise_iff_getElem.1 hp (j - 1) j (by omega) hj (by omega))
  exact ⟨s, hs, newR_list hs⟩
theorem less_sub (load : List Int) (k : Nat) : (load.take k ++ load.drop (k + 1)).Sublist load := by
  rw [← List.eraseIdx_eq_take_drop_succ]
  exact List.eraseIdx_sublist _ _
end Go.Proofs.YtbijamlgcebgeaaDoor.Hand

-- part RU
namespace Go.Proofs.YtbijamlgcebgeaaDoor.Hand
open Go.RowKit Go.Shelf Go.Sort Go.Proofs.YtbijamlgcebgeaaDoorW.PrintWords Go.Proofs.YtbijamlgcebgeaaDoorW.PrintMore Go.Proofs.YtbijamlgcebgeaaDoor.Q
/-- What signs take on bar x. -/
def cst (F : Furn) (x : Int) : List Nat → List Int → Int
  | i :: is, y :: ys => (if y = x then (rd_T74 F.l (i : Nat)).f0 + F.gap else 0) + cst F x is ys
  | _, _ => 0
theorem cst_snoc (F : Furn) (x : Int) (i : Nat) (y : Int) : ∀ (is : List Nat) (ys : List Int), is.length = ys.length → cst F x (is ++ [i]) (ys ++ [y]) = cst F x is ys + if y = x then (rd_T74 F.l (i : Nat)).f0 + F.gap else 0 := by
  intro is
  induction is with
  | nil => intro ys h; obtain rfl : ys = [] := List.length_eq_zero_iff.1 (by simpa using h.symm); simp [cst]
  | cons j is ih =>
    intro ys h
    cases ys with
    | nil => simp at h
    | cons z ys =>
      have := ih ys (by simpa using h)
      simp only [List.cons_append, cst]
      omega
theorem costK_cst (F : Furn) (is : List Nat) (lie : List Int) (x : Int) (h : is.length ≤ lie.length) : ∀ k, k ≤ is.length → costK F.gap F.l (is.map Int.ofNat) lie x k = cst F x (is.take k) (lie.take k) := by
  intro k
  induction k with
  | zero => intro _; rw [costK_zero]; simp [cst]
  | succ k ih =>
    intro hk
    rw [costK_succ, List.take_succ_eq_append_getElem (by omega), List.take_succ_eq_append_getElem (by omega), cst_snoc _ _ _ _ _ _ (by simp; omega), ih (by omega), rd_get (show k < lie.length by omega), rd_get (show k < (is.map Int.ofNat).length by simp; omega)]
    simp only [List.getElem_map]
    split
    · rfl
    · simp
theorem cst_nonneg {F : Furn} (hc : ∀ i, 0 ≤ (rd_T74 F.l (i : Nat)).f0 + F.gap) (x : Int) : ∀ (is : List Nat) (ys : List Int), 0 ≤ cst F x is ys := by
  intro is
  induction is with
  | nil => intro ys; simp [cst]
  | cons j is ih =>
    intro ys
    cases ys with
    | nil => simp [cst]
    | cons z ys =>
      have := ih ys
      have := hc j
      simp only [cst]
      split <;> omega
theorem barsTry_of {g : Room → Option (List Int)} {c : Int} {free : Room} {m : List Int} : ∀ (d k : Nat), barsTry g c free d k = some m → ∃ (x : Nat) (l : List Int), k ≤ x ∧ x < k + d ∧ 0 ≤ free.get x - c ∧ g (free.put x (free.get x - c)) = some l ∧ m = (x : Int) :: l := by
  intro d
  induction d with
  | zero => intro k h; cases h
  | succ d ih =>
    intro k h
    unfold barsTry at h
    split at h
    · obtain ⟨x, l, h1, h2, h3⟩ := ih _ h
      exact ⟨x, l, by omega, by omega, h3⟩
    · split at h
      · rename_i hn _ l hl
        exact ⟨k, l, Nat.le_refl _, by omega, by omega, hl, by simpa using h.symm⟩
      · obtain ⟨x, l, h1, h2, h3⟩ := ih _ h
        exact ⟨x, l, by omega, by omega, h3⟩
theorem barsB_some (F : Furn) (hb : F.bars.toNat ≤ 3) (hb0 : 0 ≤ F.bars) : ∀ (is : List Nat) (free : Room) (m : List Int), barsB F is free = some m → (∀ x : Nat, x < F.bars.toNat → 0 ≤ free.get x) → (∀ y ∈ m, 0 ≤ y ∧ y < F.bars) ∧ ∀ x : Nat, x < F.bars.toNat → cst F x is m ≤ free.get x := by
  intro is
  induction is with
  | nil =>
    intro free m h h0
    simp [barsB] at h
    subst h
    exact ⟨by simp, fun x hx => h0 x hx⟩
  | cons i is ih =>
    intro free m h h0
    unfold barsB at h
    obtain ⟨x, l, h1, h2, h3, h4, rfl⟩ := barsTry_of _ _ h
    obtain ⟨i1, i2⟩ := ih _ _ h4 (fun y hy => by
      rw [Room.get_put _ _ _ (by omega) _ (by omega)]
      split
      · omega
      · exact h0 y hy)
    refine ⟨fun y hy => ?_, fun y hy => ?_⟩
    · rcases List.mem_cons.1 hy with rfl | hy
      · omega
      · exact i1 y hy
    · have := i2 y hy
      rw [Room.get_put _ _ _ (by omega) _ (by omega)] at this
      simp only [cst]
      by_cases hxy : y = x
      · subst hxy
        rw [if_pos rfl] at this ⊢
        omega
      · rw [if_neg hxy] at this
        rw [if_neg (by omega)]
        omega
theorem barsB_of (F : Furn) (hb : F.bars.toNat ≤ 3) (hb0 : 0 ≤ F.bars) (hc : ∀ i, 0 ≤ (rd_T74 F.l (i : Nat)).f0 + F.gap) : ∀ (is : List Nat) (m : List Int) (free : Room), m.length = is.length → (∀ y ∈ m, 0 ≤ y ∧ y < F.bars) → (∀ x : Nat, x < F.bars.toNat → cst F x is m ≤ free.get x) → (barsB F is free).isSome = true := by
  intro is
  induction is with
  | nil => intro m free _ _ _; rfl
  | cons i is ih =>
    intro m free hl hm hx
    cases m with
    | nil => simp at hl
    | cons y m =>
      obtain ⟨q1, q2⟩ := hm y (by simp)
      obtain ⟨x, rfl⟩ : ∃ n : Nat, y = n := ⟨y.toNat, by omega⟩
      unfold barsB
      refine (barsTry_isSome _ _).2 ⟨x, Nat.zero_le _, by omega, ?_, ?_⟩
      · have := hx x (by omega)
        have := cst_nonneg hc x is m
        simp only [cst, if_pos] at *
        omega
      · refine ih m _ (by simpa using hl) (fun y hy => hm y (by simp [hy])) (fun z hz => ?_)
        have := hx z hz
        rw [Room.get_put _ _ _ (by omega) _ (by omega)]
        simp only [cst] at this
        by_cases hxz : z = x
        · subst hxz
          rw [if_pos rfl] at this ⊢
          omega
        · rw [if_neg hxz]
          rw [if_neg (by omega)] at this
          omega
theorem empty_get {F : Furn} (hF : F.Ok) {x : Nat} (hx : x < F.bars.toNat) : F.empty.get x = F.length + F.gap := by
  have hb := hF.bars
  unfold Furn.empty
  have : F.bars.toNat ≤ 3 := by omega
  generalize F.bars.toNat = n at hx this
  unfold roomK Room.get
  split
  · rename_i h; subst h; simp only; rw [if_pos (by omega)]
  · split
    · rename_i h; subst h; simp only; rw [if_pos (by omega)]
    · simp only; rw [if_pos (by omega)]
theorem cost_pos {F : Furn} (hF : F.Ok) (i : Nat) : 0 ≤ (rd_T74 F.l (i : Nat)).f0 + F.gap := by
  have hg := hF.gap
  by_cases hi : i < F.l.length
  · have := (hF.signs _ (rd_mem hi)).1
    omega
  · unfold rd_T74
    rw [Int.toNat_natCast, List.getD_eq_getElem?_getD, List.getElem?_eq_none (by omega)]
    have : (0 : Int) ≤ ((none : Option S74).getD z74).f0 := by decide
    omega
/-- Whether a load is fine with some bars, said by its set. -/
theorem fineB_iff {F : Furn} (hF : F.Ok) {load : List Int} {s : Nat} (hs : (bitsOf s).map Int.ofNat = load) (hi : ∀ i ∈ bitsOf s, i < F.l.length) (lie : List Int) (hl : lie.length = load.length) :
    fineB F load lie = true ↔ (∀ y ∈ lie, 0 ≤ y ∧ y < F.bars) ∧ (∀ x : Nat, x < F.bars.toNat → cst F x (bitsOf s) lie ≤ F.length + F.gap) ∧ alikeB F.l F.near s = true ∧ highW F s ≤ F.load ∧ (heatB F.l (bitsOf s)).1 ≤ (heatB F.l (bitsOf s)).2 := by
  have h1 := near_same (l := F.l) (e := F.near) hF.near.1 (fun x hx => (hF.signs x hx).2.1) hs hi
  have h2 := weight_same (l := F.l) hs
  have h3 := heat_same (l := F.l) hs
  have hlen : load.length = (bitsOf s).length := by rw [← hs]; simp
  unfold fineB
  rw [h1, h2, h3]
  simp only [Bool.and_eq_true, decide_eq_true_eq]
  have h4 : lieOk F lie load.length = true ↔ ∀ y ∈ lie, 0 ≤ y ∧ y < F.bars := by
    unfold lieOk
    simp only [List.all_eq_true, List.mem_range, Bool.and_eq_true, decide_eq_true_eq]
    constructor
    · intro h y hy
      obtain ⟨j, hj, rfl⟩ := List.getElem_of_mem hy
      have := h j (by omega)
      rwa [rd_get hj] at this
    · intro h j hj
      rw [rd_get (by omega)]
      exact h _ (List.getElem_mem _)
  have h5 : barsOk F load lie F.bars.toNat = true ↔ ∀ x : Nat, x < F.bars.toNat → cst F x (bitsOf s) lie ≤ F.length + F.gap := by
    unfold barsOk
    simp only [List.all_eq_true, List.mem_range, decide_eq_true_eq]
    have : ∀ x : Nat, costK F.gap F.l load lie x load.length = cst F x (bitsOf s) lie := by
      intro x
      have := costK_cst F (bitsOf s) lie x (by omega) (bitsOf s).length (Nat.le_refl _)
      rw [hs, List.take_of_length_le (Nat.le_refl _), List.take_of_length_le (by omega)] at this
      rw [hlen, this]
    simp only [this]
  rw [h4, h5]
  unfold highW
  constructor
  · rintro ⟨⟨⟨a, b⟩, c⟩, d, e⟩; exact ⟨a, c, b, d, e⟩
  · rintro ⟨a, c, b, d, e⟩; exact ⟨⟨⟨a, b⟩, c⟩, d, e⟩
theorem goesB_iff (F : Furn) (s : Nat) : goesB F s = true ↔ highW F s ≤ F.load ∧ (heatB F.l (bitsOf s)).1 ≤ (heatB F.l (bitsOf s)).2 ∧ alikeB F.l F.near s = true ∧ (barsB F (bitsOf s) F.empty).isSome = true := by
  unfold goesB fitsB
  have : (optL (barsB F (bitsOf s) F.empty)).2 = (barsB F (bitsOf s) F.empty).isSome := by cases barsB F (bitsOf s) F.empty <;> rfl
  rw [this]
  simp only [Bool.and_eq_true, decide_eq_true_eq, Bool.not_eq_true', Bool.or_eq_false_iff, decide_eq_false_iff_not, Bool.not_eq_false']
  constructor
  · rintro ⟨a, ⟨b, c⟩, d⟩; exact ⟨a, by omega, c, d⟩
  · rintro ⟨a, b, c, d⟩; exact ⟨a, ⟨by omega, c⟩, d⟩
theorem and_of_sub {p s : Nat} (hp : p < 64) (h : ((bitsOf p).map Int.ofNat).Sublist ((bitsOf s).map Int.ofNat)) : p &&& s = p := by
  apply Nat.eq_of_testBit_eq
  intro i
  rw [Nat.testBit_and]
  cases hpi : p.testBit i
  · rfl
  · have hi : i < 6 := by
      rcases Nat.lt_or_ge i 6 with h | h
      · exact h
      · have : p.testBit i = false := Nat.testBit_lt_two_pow (Nat.lt_of_lt_of_le hp (Nat.pow_le_pow_right (by omega) h : 2 ^ 6 ≤ 2 ^ i))
        rw [this] at hpi
        cases hpi
    have hm : Int.ofNat i ∈ (bitsOf p).map Int.ofNat := List.mem_map.2 ⟨i, List.mem_filter.2 ⟨List.mem_range.2 hi, hpi⟩, rfl⟩
    obtain ⟨j, hj, hji⟩ := List.mem_map.1 (h.subset hm)
    obtain rfl : j = i := Int.ofNat.inj hji
    rw [(List.mem_filter.1 hj).2]
    rfl
theorem set_inj {p s : Nat} (hp : p < 64) (hs : s < 64) (h : (bitsOf p).map Int.ofNat = (bitsOf s).map Int.ofNat) : p = s := by
  have h1 := and_of_sub (s := s) hp (by rw [h]; exact List.Sublist.refl _)
  have h2 := and_of_sub (s := p) hs (by rw [h]; exact List.Sublist.refl _)
  rw [Nat.and_comm] at h2
  exact h1.symm.trans h2
theorem heatK_suits (l : List S74) (load : List Int) : ∀ (n k : Nat), k < n → (rd_T74 l (rd load k)).f3.f0 ≤ (refHeatK l load n).1 ∧ (refHeatK l load n).2 ≤ (rd_T74 l (rd load k)).f3.f1 := by
  intro n
  induction n with
  | zero => intro k h; omega
  | succ n ih =>
    intro k h
    rw [refHeatK_succ]
    rcases Nat.lt_succ_iff_lt_or_eq.1 h with h | rfl
    · have := ih k h
      simp only
      unfold mx mn
      split <;> split <;> omega
    · simp only
      unfold mx mn
      split <;> split <;> omega
def lite (x : S74) : S74 := ⟨x.f0, x.f1, ⟨x.f2.f0, x.f2.f0⟩, x.f3⟩
theorem light_getD (l : List S74) (i : Nat) : (lightL l).getD i z74 = lite (l.getD i z74) := by
  unfold lightL
  rw [List.getD_eq_getElem?_getD, List.getD_eq_getElem?_getD, List.getElem?_map]
  cases l[i]? <;> rfl
def lightF (F : Furn) : Furn := ⟨F.bars, F.length, F.gap, F.load, F.near, lightL F.l⟩
theorem light_ok {F : Furn} (hF : F.Ok) : (lightF F).Ok := by
  refine ⟨hF.bars, hF.length, hF.gap, hF.load, hF.near, by unfold lightF lightL; simp only [List.length_map]; exact hF.len, ?_⟩
  intro x hx
  obtain ⟨y, hy, rfl⟩ := List.mem_map.1 hx
  have := hF.signs y hy
  simp only
  omega
theorem light_bars (F : Furn) : ∀ (is : List Nat), barsB (lightF F) is = barsB F is := by
  intro is
  induction is with
  | nil => rfl
  | cons i is ih =>
    funext free
    unfold barsB
    rw [ih]
    have : (rd_T74 (lightF F).l (i : Nat)).f0 = (rd_T74 F.l (i : Nat)).f0 := by
      unfold rd_T74
      rw [show (lightF F).l = lightL F.l from rfl, light_getD]
      rfl
    rw [this]
    rfl
theorem light_fits (F : Furn) (s : Nat) : fitsB (lightF F) s = fitsB F s := by
  unfold fitsB
  rw [light_bars]
  have h1 : heatB (lightF F).l (bitsOf s) = heatB F.l (bitsOf s) := by
    unfold heatB
    rw [show (lightF F).l = lightL F.l from rfl]
    simp only [light_getD]
    rfl
  have h2 : alikeB (lightF F).l (lightF F).near s = alikeB F.l F.near s := by
    unfold alikeB highB
    rw [show (lightF F).l = lightL F.l from rfl]
    simp only [light_getD]
    rfl
  rw [h1, h2]
  rfl
theorem light_high (F : Furn) (s : Nat) : highW (lightF F) s = sumB (fun x => x.f2.f0) F.l (bitsOf s) := by
  unfold highW sumB
  rw [show (lightF F).l = lightL F.l from rfl]
  simp only [light_getD]
  rfl
theorem low_high {F : Furn} (hF : F.Ok) {is : List Nat} (hi : ∀ i ∈ is, i < F.l.length) : sumB (fun x => x.f2.f0) F.l is ≤ sumB (fun x => x.f2.f1) F.l is := by
  have key : ∀ (is : List Nat) (a b : Int), a ≤ b → (∀ i ∈ is, i < F.l.length) → (is.map fun i => (F.l.getD i z74).f2.f0).foldl (· + ·) a ≤ (is.map fun i => (F.l.getD i z74).f2.f1).foldl (· + ·) b := by
    intro is
    induction is with
    | nil => intro a b h _; exact h
    | cons i is ih =>
      intro a b h hi
      have h1 := hi i (by simp)
      have h2 := hF.signs _ (rd_mem h1)
      unfold rd_T74 at h2
      rw [Int.toNat_natCast] at h2
      refine ih _ _ ?_ (fun j hj => hi j (by simp [hj]))
      show a + (F.l.getD i z74).f2.f0 ≤ b + (F.l.getD i z74).f2.f1
      omega
  exact key is 0 0 (Int.le_refl _) hi
theorem right_facts {F : Furn} (hF : F.Ok) (by_ : Nat) (tried : List Int) (ht : tried.length = (chosenL F.l.length by_).length) :
    ∃ su po wh f lo hi g, RightD F (chosenL F.l.length by_) tried su po wh f lo hi g := by
  have hp := chosenL_pair F.l.length by_
  have hm := chosenL_mem F.l.length by_
  generalize chosenL F.l.length by_ = load at ht hp hm ⊢
  obtain ⟨s, hs, hls, h64⟩ := new_pair hF hp hm
  have hbits := newR_bits hs
  have hb := hF.bars
  have hlen : load.length = (bitsOf s).length := by rw [← hls]; simp
  have hmk : mkF F.bars F.length F.gap F.load F.near F.l = F := rfl
  have hg : gR F F.l load = (goesB F s, decide (sumB (fun x => x.f2.f0) F.l (bitsOf s) ≤ F.load) && fitsB F s, 0) := by
    unfold gR goesR
    rw [hs]
    rfl
  have hlow := low_high hF hbits
  have hgo := goesB_iff F s
  have hfacts : ∀ m, barsB F (bitsOf s) F.empty = some m → m.length = load.length ∧ (∀ y ∈ m, 0 ≤ y ∧ y < F.bars) ∧ ∀ x : Nat, x < F.bars.toNat → cst F x (bitsOf s) m ≤ F.length + F.gap := by
    intro m hm
    have h1 := barsB_len _ _ _ _ hm
    obtain ⟨h2, h3⟩ := barsB_some F (by omega) (by omega) _ _ _ hm (fun x hx => by rw [empty_get hF hx]; have := hF.length; have := hF.gap; omega)
    exact ⟨by omega, h2, fun x hx => by have := h3 x hx; rwa [empty_get hF hx] at this⟩
  have hheat : heatR F.bars F.length F.gap F.load F.near F.l load = if (heatB F.l (bitsOf s)).2 < (heatB F.l (bitsOf s)).1 then (0, 0, 7) else ((heatB F.l (bitsOf s)).1, (heatB F.l (bitsOf s)).2, 0) := by
    unfold heatR
    rw [hs]
  have hbars : barsR F.bars F.length F.gap F.load F.near F.l load = match barsB F (bitsOf s) F.empty with | none => ([], 7) | some m => (m, 0) := by
    unfold barsR
    rw [hs]
    rfl
  have hfine2 : goesB F s = false → fineB F load tried = false := by
    intro h
    rw [Bool.eq_false_iff]
    intro hf
    rw [fineB_iff hF hls hbits tried ht] at hf
    obtain ⟨h1, h2, h3, h4, h5⟩ := hf
    rw [Bool.eq_false_iff] at h
    exact h (hgo.2 ⟨h4, h5, h3, barsB_of F (by omega) (by omega) (cost_pos hF) _ tried _ (by omega) h1 (fun x hx => by rw [empty_get hF hx]; exact h2 x hx)⟩)
  have hless : ∀ k : Nat, k < load.length → ∃ s' p, gR F F.l (load.take k ++ load.drop (k + 1)) = (s', p, 0) ∧ (goesB F s = true → s' = true) := by
    intro k hk
    have hsub := less_sub load k
    obtain ⟨t, ht1, ht2, ht3⟩ := new_pair hF (hp.sublist hsub) (fun x hx => hm x (hsub.subset hx))
    refine ⟨goesB F t, decide (sumB (fun x => x.f2.f0) F.l (bitsOf t) ≤ F.load) && fitsB F t, ?_, ?_⟩
    · unfold gR goesR
      rw [ht1]
      rfl
    · refine goesB_sub hF (and_of_sub ht3 ?_) hbits
      rw [ht2, hls]
      exact hsub
  have hlight : ∃ p, gR F (lightL F.l) load = (decide (sumB (fun x => x.f2.f0) F.l (bitsOf s) ≤ F.load) && fitsB F s, p, 0) := by
    have hll : (lightF F).l.length = F.l.length := by simp [lightF, lightL]
    obtain ⟨t, ht1, ht2, ht3⟩ := new_pair (light_ok hF) hp (fun x hx => by rw [hll]; exact hm x hx)
    obtain rfl : t = s := set_inj ht3 h64 (by rw [ht2, hls])
    refine ⟨decide (sumB (fun x => x.f2.f0) (lightF F).l (bitsOf t) ≤ F.load) && fitsB (lightF F) t, ?_⟩
    have : gR F (lightL F.l) load = (goesB (lightF F) t, decide (sumB (fun x => x.f2.f0) (lightF F).l (bitsOf t) ≤ F.load) && fitsB (lightF F) t, 0) := by
      have ht1' : newR F.bars F.length F.gap F.load F.near (lightL F.l) load = .ok t := ht1
      unfold gR goesR
      rw [ht1']
      rfl
    rw [this]
    unfold goesB
    rw [light_high, light_fits]
    rfl
  have hsuits : ∀ k : Nat, k < load.length → (rd_T74 F.l (rd load k)).f3.f0 ≤ (heatB F.l (bitsOf s)).1 ∧ (heatB F.l (bitsOf s)).2 ≤ (rd_T74 F.l (rd load k)).f3.f1 := by
    intro k hk
    have := heatK_suits F.l load load.length k hk
    rwa [heat_same (l := F.l) hls] at this
  have hpo : goesB F s = true → (decide (sumB (fun x => x.f2.f0) F.l (bitsOf s) ≤ F.load) && fitsB F s) = true := by
    intro h
    unfold goesB highW at h
    simp only [Bool.and_eq_true, decide_eq_true_eq] at h ⊢
    exact ⟨by omega, h.2⟩
  cases hq : barsB F (bitsOf s) F.empty with
  | none =>
    rw [hq] at hbars
    have hno : goesB F s = false := by
      rw [Bool.eq_false_iff]
      intro h
      have := (hgo.1 h).2.2.2
      rw [hq] at this
      cases this
    by_cases h2 : (heatB F.l (bitsOf s)).2 < (heatB F.l (bitsOf s)).1
    · rw [if_pos h2] at hheat
      exact ⟨_, _, [], 7, 0, 0, 7, hg, hbars, hheat, .inr ⟨hno, .inr rfl, .inr rfl⟩, (by intro h; cases h), fun _ => rfl, fun _ => ⟨rfl, rfl⟩, (by intro h; cases h), (fun h => by rw [hno] at h; cases h), hfine2, (by intro h; cases h), hless, hlight⟩
    · rw [if_neg h2] at hheat
      exact ⟨_, _, [], 7, _, _, 0, hg, hbars, hheat, .inr ⟨hno, .inr rfl, .inl rfl⟩, (by intro h; cases h), fun _ => rfl, (by intro h; cases h), fun _ => by omega, (fun h => by rw [hno] at h; cases h), hfine2, fun _ => hsuits, hless, hlight⟩
  | some m =>
    rw [hq] at hbars
    obtain ⟨f1, f2, f3⟩ := hfacts m hq
    have hfine1 : goesB F s = true → fineB F load m = true := by
      intro h
      obtain ⟨h1, h2, h3, h4⟩ := hgo.1 h
      exact (fineB_iff hF hls hbits m f1).2 ⟨f2, f3, h3, h1, h2⟩
    by_cases h2 : (heatB F.l (bitsOf s)).2 < (heatB F.l (bitsOf s)).1
    · rw [if_pos h2] at hheat
      have hno : goesB F s = false := by
        rw [Bool.eq_false_iff]
        intro h
        have := (hgo.1 h).2.1
        omega
      exact ⟨_, _, m, 0, 0, 0, 7, hg, hbars, hheat, .inr ⟨hno, .inl rfl, .inr rfl⟩, fun _ => f1, (by intro h; cases h), fun _ => ⟨rfl, rfl⟩, (by intro h; cases h), hfine1, hfine2, (by intro h; cases h), hless, hlight⟩
    · rw [if_neg h2] at hheat
      refine ⟨_, _, m, 0, _, _, 0, hg, hbars, hheat, ?_, fun _ => f1, (by intro h; cases h), (by intro h; cases h), fun _ => by omega, hfine1, hfine2, fun _ => hsuits, hless, hlight⟩
      cases hsu : goesB F s
      · exact .inr ⟨rfl, .inl rfl, .inl rfl⟩
      · exact .inl ⟨rfl, hpo hsu, rfl, rfl⟩
end Go.Proofs.YtbijamlgcebgeaaDoor.Hand

-- part PA
namespace Go.Proofs.YtbijamlgcebgeaaDoor.Hand
open Go.RowKit Go.Shelf Go.Sort Go.Proofs.YtbijamlgcebgeaaDoorW.PrintWords Go.Proofs.YtbijamlgcebgeaaDoorW.PrintMore Go.Proofs.YtbijamlgcebgeaaDoor.Q
/-- The places at which a list has a number. -/
def idx (x : List Int) (j : Int) : List Nat := (List.range x.length).filter fun (i : Nat) => decide (rd x i = j)
def skip (i k : Nat) : Nat := if k < i then k else k + 1
end Go.Proofs.YtbijamlgcebgeaaDoor.Hand

-- part QI
namespace Go.Proofs.YtbijamlgcebgeaaDoor.Q
open Go.RowKit Go.Proofs.YtbijamlgcebgeaaDoorW.PrintWords Go.Proofs.YtbijamlgcebgeaaDoorW.PrintLast Go.Proofs.YtbijamlgcebgeaaDoorW.PrintMore
attribute [local go_sem] max2_int min2_int max_two min_two max_three min_three max_four min_four
def smaltolaw03_up.l0 : Nat → List Int → Int → Int → Option (Bool)
  | 0, _, _, _ => none
  | k + 1, x0, x1, x5 => if x5 < (x0.length : Int) then (if 0 ≤ x5 then (if (rd x0 x5) < 0 then (some false) else (if (rd x0 x5) ≥ x1 then (some false) else (if x5 > 0 then (if 0 ≤ (wrap64 (x5 - 1)) then (if (wrap64 (x5 - 1)) < (x0.length : Int) then (if (rd x0 x5) ≤ (rd x0 (wrap64 (x5 - 1))) then (some false) else (smaltolaw03_up.l0 k x0 x1 (wrap64 (x5 + 1)))) else (none)) else (none)) else (smaltolaw03_up.l0 k x0 x1 (wrap64 (x5 + 1)))))) else (none)) else (some true)
def smaltolaw03_up.f (k : Nat) (l0 : List Int) (a1 : Int) : Option (Bool) := smaltolaw03_up.l0 k l0 a1 0
theorem smaltolaw03_up.mono_l : ∀ k, (∀ y0 y1 y2, LeO (smaltolaw03_up.l0 k y0 y1 y2) (smaltolaw03_up.l0 (k + 1) y0 y1 y2))
  | 0 => fun _ _ _ r h => by simp [smaltolaw03_up.l0] at h
  | k + 1 => by
    have ih0 := smaltolaw03_up.mono_l k
    · intro y0 y1 y2
      unfold smaltolaw03_up.l0
      repeat' first
      | (with_reducible exact ih0 _ _ _)
      | (with_reducible exact LeO.refl _)
      | (with_reducible exact LeO.none _)
      | (with_reducible refine LeO.ite ?_ ?_)
      | (with_reducible refine LeO.bind ?_ (fun _ => ?_))
      | exact ih0 _ _ _
      | exact LeO.none _
      | refine LeO.ite ?_ ?_
      | refine LeO.bind ?_ (fun _ => ?_)
theorem smaltolaw03_up.mono : ∀ a0 a1 k, LeO (smaltolaw03_up.f k a0 a1) (smaltolaw03_up.f (k + 1) a0 a1) := by
  intro a0 a1 k
  have ih0 := smaltolaw03_up.mono_l k
  unfold smaltolaw03_up.f
  repeat' first
      | (with_reducible exact ih0 _ _ _)
      | (with_reducible exact LeO.refl _)
      | (with_reducible exact LeO.none _)
      | (with_reducible refine LeO.ite ?_ ?_)
      | (with_reducible refine LeO.bind ?_ (fun _ => ?_))
      | exact ih0 _ _ _
      | exact LeO.none _
      | refine LeO.ite ?_ ?_
      | refine LeO.bind ?_ (fun _ => ?_)
set_option maxHeartbeats 8000000 in
set_option maxRecDepth 100000 in
theorem smaltolaw03_up.calls (k : Nat) (A0 : Option Addr) (c0 : Nat) (l0 : List Int) (a1 : Int) (r : Bool) (w : World) (hr0 : Kd.C (Kd.int .i64) w A0 l0.length l0) (hc0 : l0.length ≤ c0) (h : smaltolaw03_up.f k l0 a1 = some r) :
    Calls Tryd.prog 46 #[.slice A0 l0.length c0, .int .i64 a1] w fun e w' => e = .returned (.bool r) ∧ Drawn0 w w' := by
  have HR0 := Aside0.mk hr0
  have HC0 := Aside0.mk hc0
  clear hr0 hc0
  have H : (smaltolaw03_up.l0 k l0 a1 0) = some r := h
  clear h
  have H' := Aside0.mk H
  clear H
  go_enter Tryd.func46, Tryd.ntmps46
  go_wp2
  repeat (go_quiet (fail); try go_wp2)
  go_loopg [5] k (fun kq v5 w' => ∃ (x5_1 : Int), v5 = .int .i64 x5_1 ∧ Aside0 (smaltolaw03_up.l0 kq l0 a1 x5_1 = some r) ∧ Aside0 (kq ≤ k) ∧ Drawn0 w w')
  case atStart => exact ⟨(0), (by first | rfl | (simp; done) | (simp [*]; done)), H', ⟨Nat.le_refl _⟩, by repeat (first | exact Drawn0.refl _ | apply Drawn0.step)⟩
  case round =>
    clear H'
    try clear p2
    obtain ⟨x5_1, rfl, HA, HK1, ⟨m1, rfl⟩⟩ := hrel
    cases gk with
    | zero => exact absurd HA.out (by simp [smaltolaw03_up.l0])
    | succ k1 =>
      have H := HA.out
      clear HA
      simp only [smaltolaw03_up.l0] at H
      by_cases c3 : x5_1 < (l0.length : Int)
      · rw [if_pos c3] at H
        have c3b0 : decide (x5_1 < (l0.length : Int)) = true := decide_eq_true c3
        clear c3
        by_cases c4 : 0 ≤ x5_1
        · rw [if_pos c4] at H
          have c4b0 : decide (0 ≤ x5_1) = true := decide_eq_true c4
          clear c4
          by_cases c5 : (rd l0 x5_1) < 0
          · rw [if_pos c5] at H
            have c5b0 : decide ((rd l0 x5_1) < 0) = true := decide_eq_true c5
            clear c5
            obtain rfl := Option.some.inj H
            have p351 : 0 ≤ (x5_1 : Int) := of_decide_eq_true (by first | (with_reducible assumption) | assumption)
            have q351 : x5_1 < (l0.length : Int) := of_decide_eq_true (by first | (with_reducible assumption) | assumption)
            obtain ⟨ad351, e351, hx351_0⟩ := Kd.at_int HR0.out x5_1 p351 q351
            cases e351
            replace p351 := eq_true p351
            replace q351 := eq_true q351
            go_wp2
            repeat (go_quiet (fail); try go_wp2)
            go_ret
            exact ⟨by first | rfl | (simp; done) | (simp [*]; done), by repeat (first | exact Drawn0.refl _ | apply Drawn0.step)⟩
          · rw [if_neg c5] at H
            have c5b0 : decide ((rd l0 x5_1) < 0) = false := decide_eq_false c5
            clear c5
            by_cases c6 : (rd l0 x5_1) ≥ a1
            · rw [if_pos c6] at H
              have c6b0 : decide (a1 ≤ (rd l0 x5_1)) = true := decide_eq_true c6
              clear c6
              obtain rfl := Option.some.inj H
              have p351 : 0 ≤ (x5_1 : Int) := of_decide_eq_true (by first | (with_reducible assumption) | assumption)
              have q351 : x5_1 < (l0.length : Int) := of_decide_eq_true (by first | (with_reducible assumption) | assumption)
              obtain ⟨ad351, e351, hx351_0⟩ := Kd.at_int HR0.out x5_1 p351 q351
              cases e351
              replace p351 := eq_true p351
              replace q351 := eq_true q351
              have p352 : 0 ≤ (x5_1 : Int) := of_decide_eq_true (by first | (with_reducible assumption) | assumption)
              have q352 : x5_1 < (l0.length : Int) := of_decide_eq_true (by first | (with_reducible assumption) | assumption)
              obtain ⟨ad352, e352, hx352_0⟩ := Kd.at_int HR0.out x5_1 p352 q352
              obtain rfl : ad351 = ad352 := (by injection e352)
              replace p352 := eq_true p352
              replace q352 := eq_true q352
              go_wp2
              repeat (go_quiet (fail); try go_wp2)
              go_ret
              exact ⟨by first | rfl | (simp; done) | (simp [*]; done), by repeat (first | exact Drawn0.refl _ | apply Drawn0.step)⟩
            · rw [if_neg c6] at H
              have c6b0 : decide (a1 ≤ (rd l0 x5_1)) = false := decide_eq_false c6
              clear c6
              by_cases c7 : x5_1 > 0
              · rw [if_pos c7] at H
                have c7b0 : decide (0 < x5_1) = true := decide_eq_true c7
                clear c7
                obtain ⟨ji8, hji8⟩ : ∃ j_ : Int, (wrap64 (x5_1 - 1)) = j_ := ⟨_, rfl⟩
                replace H : (if 0 ≤ (ji8) then (if (ji8) < (l0.length : Int) then (if (rd l0 x5_1) ≤ (rd l0 (ji8)) then (some false) else (smaltolaw03_up.l0 k1 l0 a1 (wrap64 (x5_1 + 1)))) else (none)) else (none)) = some r := by first | (rw [hji8] at H; exact H) | (simp only [hji8] at H ⊢; exact H)
                have hji8w : (IntKind.i64.wrap (x5_1 - 1)) = ji8 := (i64_w _).trans hji8
                by_cases c9 : 0 ≤ (ji8)
                · rw [if_pos c9] at H
                  have c9b0 : decide (0 ≤ (ji8)) = true := decide_eq_true c9
                  clear c9
                  by_cases c10 : (ji8) < (l0.length : Int)
                  · rw [if_pos c10] at H
                    have c10b0 : decide ((ji8) < (l0.length : Int)) = true := decide_eq_true c10
                    clear c10
                    by_cases c11 : (rd l0 x5_1) ≤ (rd l0 (ji8))
                    · rw [if_pos c11] at H
                      have c11b0 : decide ((rd l0 x5_1) ≤ (rd l0 (ji8))) = true := decide_eq_true c11
                      clear c11
                      obtain rfl := Option.some.inj H
                      have p351 : 0 ≤ (x5_1 : Int) := of_decide_eq_true (by first | (with_reducible assumption) | assumption)
                      have q351 : x5_1 < (l0.length : Int) := of_decide_eq_true (by first | (with_reducible assumption) | assumption)
                      obtain ⟨ad351, e351, hx351_0⟩ := Kd.at_int HR0.out x5_1 p351 q351
                      cases e351
                      replace p351 := eq_true p351
                      replace q351 := eq_true q351
                      have p352 : 0 ≤ (x5_1 : Int) := of_decide_eq_true (by first | (with_reducible assumption) | assumption)
                      have q352 : x5_1 < (l0.length : Int) := of_decide_eq_true (by first | (with_reducible assumption) | assumption)
                      obtain ⟨ad352, e352, hx352_0⟩ := Kd.at_int HR0.out x5_1 p352 q352
                      obtain rfl : ad351 = ad352 := (by injection e352)
                      replace p352 := eq_true p352
                      replace q352 := eq_true q352
                      have p353 : 0 ≤ (x5_1 : Int) := of_decide_eq_true (by first | (with_reducible assumption) | assumption)
                      have q353 : x5_1 < (l0.length : Int) := of_decide_eq_true (by first | (with_reducible assumption) | assumption)
                      obtain ⟨ad353, e353, hx353_0⟩ := Kd.at_int HR0.out x5_1 p353 q353
                      obtain rfl : ad351 = ad353 := (by injection e353)
                      replace p353 := eq_true p353
                      replace q353 := eq_true q353
                      have p354 : 0 ≤ ((ji8) : Int) := of_decide_eq_true (by first | (with_reducible assumption) | assumption)
                      have q354 : (ji8) < (l0.length : Int) := of_decide_eq_true (by first | (with_reducible assumption) | assumption)
                      obtain ⟨ad354, e354, hx354_0⟩ := Kd.at_int HR0.out (ji8) p354 q354
                      obtain rfl : ad351 = ad354 := (by injection e354)
                      replace p354 := eq_true p354
                      replace q354 := eq_true q354
                      go_wp2
                      repeat (go_quiet (fail); try go_wp2)
                      go_ret
                      exact ⟨by first | rfl | (simp; done) | (simp only [← hji8] <;> (first | rfl | simp)) | (simp [*]; done), by repeat (first | exact Drawn0.refl _ | apply Drawn0.step)⟩
                    · rw [if_neg c11] at H
                      have c11b0 : decide ((rd l0 x5_1) ≤ (rd l0 (ji8))) = false := decide_eq_false c11
                      clear c11
                      have H' := Aside0.mk H
                      clear H
                      have p351 : 0 ≤ (x5_1 : Int) := of_decide_eq_true (by first | (with_reducible assumption) | assumption)
                      have q351 : x5_1 < (l0.length : Int) := of_decide_eq_true (by first | (with_reducible assumption) | assumption)
                      obtain ⟨ad351, e351, hx351_0⟩ := Kd.at_int HR0.out x5_1 p351 q351
                      cases e351
                      replace p351 := eq_true p351
                      replace q351 := eq_true q351
                      have p352 : 0 ≤ (x5_1 : Int) := of_decide_eq_true (by first | (with_reducible assumption) | assumption)
                      have q352 : x5_1 < (l0.length : Int) := of_decide_eq_true (by first | (with_reducible assumption) | assumption)
                      obtain ⟨ad352, e352, hx352_0⟩ := Kd.at_int HR0.out x5_1 p352 q352
                      obtain rfl : ad351 = ad352 := (by injection e352)
                      replace p352 := eq_true p352
                      replace q352 := eq_true q352
                      have p353 : 0 ≤ (x5_1 : Int) := of_decide_eq_true (by first | (with_reducible assumption) | assumption)
                      have q353 : x5_1 < (l0.length : Int) := of_decide_eq_true (by first | (with_reducible assumption) | assumption)
                      obtain ⟨ad353, e353, hx353_0⟩ := Kd.at_int HR0.out x5_1 p353 q353
                      obtain rfl : ad351 = ad353 := (by injection e353)
                      replace p353 := eq_true p353
                      replace q353 := eq_true q353
                      have p354 : 0 ≤ ((ji8) : Int) := of_decide_eq_true (by first | (with_reducible assumption) | assumption)
                      have q354 : (ji8) < (l0.length : Int) := of_decide_eq_true (by first | (with_reducible assumption) | assumption)
                      obtain ⟨ad354, e354, hx354_0⟩ := Kd.at_int HR0.out (ji8) p354 q354
                      obtain rfl : ad351 = ad354 := (by injection e354)
                      replace p354 := eq_true p354
                      replace q354 := eq_true q354
                      go_wp2
                      repeat (go_quiet (fail); try go_wp2)
                      go_roundg k1
                      case measure => have := HK1.out; omega
                      case rel => exact ⟨(wrap64 (x5_1 + 1)), (by first | rfl | (simp; done) | (simp [*]; done)), H', ⟨by have := HK1.out; omega⟩, by repeat (first | exact Drawn0.refl _ | apply Drawn0.step)⟩
                  · rw [if_neg c10] at H
                    exact absurd H (by simp)
                · rw [if_neg c9] at H
                  exact absurd H (by simp)
              · rw [if_neg c7] at H
                have c7b0 : decide (0 < x5_1) = false := decide_eq_false c7
                clear c7
                have H' := Aside0.mk H
                clear H
                have p351 : 0 ≤ (x5_1 : Int) := of_decide_eq_true (by first | (with_reducible assumption) | assumption)
                have q351 : x5_1 < (l0.length : Int) := of_decide_eq_true (by first | (with_reducible assumption) | assumption)
                obtain ⟨ad351, e351, hx351_0⟩ := Kd.at_int HR0.out x5_1 p351 q351
                cases e351
                replace p351 := eq_true p351
                replace q351 := eq_true q351
                have p352 : 0 ≤ (x5_1 : Int) := of_decide_eq_true (by first | (with_reducible assumption) | assumption)
                have q352 : x5_1 < (l0.length : Int) := of_decide_eq_true (by first | (with_reducible assumption) | assumption)
                obtain ⟨ad352, e352, hx352_0⟩ := Kd.at_int HR0.out x5_1 p352 q352
                obtain rfl : ad351 = ad352 := (by injection e352)
                replace p352 := eq_true p352
                replace q352 := eq_true q352
                go_wp2
                repeat (go_quiet (fail); try go_wp2)
                go_roundg k1
                case measure => have := HK1.out; omega
                case rel => exact ⟨(wrap64 (x5_1 + 1)), (by first | rfl | (simp; done) | (simp [*]; done)), H', ⟨by have := HK1.out; omega⟩, by repeat (first | exact Drawn0.refl _ | apply Drawn0.step)⟩
        · rw [if_neg c4] at H
          exact absurd H (by simp)
      · rw [if_neg c3] at H
        have c3b0 : decide (x5_1 < (l0.length : Int)) = false := decide_eq_false c3
        clear c3
        obtain rfl := Option.some.inj H
        go_wp2
        repeat (go_quiet (fail); try go_wp2)
        go_ret
        exact ⟨by first | rfl | (simp; done) | (simp [*]; done), by repeat (first | exact Drawn0.refl _ | apply Drawn0.step)⟩
end Go.Proofs.YtbijamlgcebgeaaDoor.Q

-- part QJ
namespace Go.Proofs.YtbijamlgcebgeaaDoor.Q
open Go.RowKit Go.Proofs.YtbijamlgcebgeaaDoorW.PrintWords Go.Proofs.YtbijamlgcebgeaaDoorW.PrintLast Go.Proofs.YtbijamlgcebgeaaDoorW.PrintMore
attribute [local go_sem] max2_int min2_int max_two min_two max_three min_three max_four min_four
end Go.Proofs.YtbijamlgcebgeaaDoor.Q

-- part QK
namespace Go.Proofs.YtbijamlgcebgeaaDoor.Q
open Go.RowKit Go.Proofs.YtbijamlgcebgeaaDoorW.PrintWords Go.Proofs.YtbijamlgcebgeaaDoorW.PrintLast Go.Proofs.YtbijamlgcebgeaaDoorW.PrintMore Go.Proofs.YtbijamlgcebgeaaDoor.Hand
structure S63 where
  f0 : Int
  f1 : Int
  f2 : Int
  f3 : Int
  f4 : Int
def z63 : S63 := ⟨(0 : Int), (0 : Int), (0 : Int), (0 : Int), (0 : Int)⟩
def k63 : Kd S63 := Kd.iso (Kd.pair (Kd.int .u8) (Kd.pair (Kd.int .u8) (Kd.pair (Kd.int .u8) (Kd.pair (Kd.int .u8) (Kd.int .u8))))) (fun x : S63 => (x.f0, x.f1, x.f2, x.f3, x.f4))
theorem k63_open {w : World} {x : S63} {cs : List Value} (h : k63.K w x cs) : cs = [.int .u8 x.f0, .int .u8 x.f1, .int .u8 x.f2, .int .u8 x.f3, .int .u8 x.f4] := by
  obtain ⟨_, _, rfl, rfl, ⟨_, _, rfl, rfl, ⟨_, _, rfl, rfl, ⟨_, _, rfl, rfl, rfl⟩⟩⟩⟩ := h
  exact rfl
theorem k63_mk (w : World) (x : S63)  : k63.K w x [.int .u8 x.f0, .int .u8 x.f1, .int .u8 x.f2, .int .u8 x.f3, .int .u8 x.f4] := ⟨[.int .u8 x.f0], [.int .u8 x.f1, .int .u8 x.f2, .int .u8 x.f3, .int .u8 x.f4], rfl, rfl, ⟨[.int .u8 x.f1], [.int .u8 x.f2, .int .u8 x.f3, .int .u8 x.f4], rfl, rfl, ⟨[.int .u8 x.f2], [.int .u8 x.f3, .int .u8 x.f4], rfl, rfl, ⟨[.int .u8 x.f3], [.int .u8 x.f4], rfl, rfl, rfl⟩⟩⟩⟩
def fork_Bars.f (a0_0 : Int) (a0_1 : Int) (a0_2 : Int) (a0_3 : Int) (a0_4 : Int) (l1 : List (S74)) (l2 : List Int) : Option (List Int × Int) := some (barsR a0_0 a0_1 a0_2 a0_3 a0_4 l1 l2)
theorem fork_Bars.calls (a0_0 : Int) (a0_1 : Int) (a0_2 : Int) (a0_3 : Int) (a0_4 : Int) (A1 : Option Addr) (c1 : Nat) (l1 : List (S74)) (A2 : Option Addr) (c2 : Nat) (l2 : List Int) (r1 : List Int) (r2 : Int) (w : World) (hT : TabW w) (hr1 : Kd.C k74 w A1 l1.length l1) (hc1 : l1.length ≤ c1) (hr2 : Kd.C (Kd.int .i64) w A2 l2.length l2) (hc2 : l2.length ≤ c2) (h : fork_Bars.f a0_0 a0_1 a0_2 a0_3 a0_4 l1 l2 = some (r1, r2)) :
    Calls Tryd.prog 18 #[.agg #[.int .i64 a0_0, .int .i64 a0_1, .int .i64 a0_2, .int .i64 a0_3, .int .i64 a0_4], .slice A1 l1.length c1, .slice A2 l2.length c2] w fun e w' => ∃ v0_ : Value, e = .returned (.tuple #[v0_, .int .i64 r2]) ∧ Kd.R (Kd.int .i64) 3 w' w.heap.size (fun _ => True) v0_ r1 ∧ Below w.heap.size w w' := by
  have hx := bars_exp a0_0 a0_1 a0_2 a0_3 a0_4 l1 l2 A1 A2 c1 c2 w hT hr1 hr2
  simp only [fork_Bars.f, Option.some.injEq] at h
  rw [h] at hx
  exact hx
def goesC.f (a0_0 : Int) (a0_1 : Int) (a0_2 : Int) (a0_3 : Int) (a0_4 : Int) (l1 : List (S74)) (l2 : List Int) : Option (Bool × Bool) := if (goesR a0_0 a0_1 a0_2 a0_3 a0_4 l1 l2).2.2 = 0 then some ((goesR a0_0 a0_1 a0_2 a0_3 a0_4 l1 l2).1, (goesR a0_0 a0_1 a0_2 a0_3 a0_4 l1 l2).2.1) else none
theorem goesC.calls (a0_0 : Int) (a0_1 : Int) (a0_2 : Int) (a0_3 : Int) (a0_4 : Int) (A1 : Option Addr) (c1 : Nat) (l1 : List (S74)) (A2 : Option Addr) (c2 : Nat) (l2 : List Int) (r1 : Bool) (r2 : Bool) (w : World) (hT : TabW w) (hr1 : Kd.C k74 w A1 l1.length l1) (hc1 : l1.length ≤ c1) (hr2 : Kd.C (Kd.int .i64) w A2 l2.length l2) (hc2 : l2.length ≤ c2) (h : goesC.f a0_0 a0_1 a0_2 a0_3 a0_4 l1 l2 = some (r1, r2)) :
    Calls Tryd.prog 17 #[.agg #[.int .i64 a0_0, .int .i64 a0_1, .int .i64 a0_2, .int .i64 a0_3, .int .i64 a0_4], .slice A1 l1.length c1, .slice A2 l2.length c2] w fun e w' => e = .returned (.tuple #[.bool r1, .bool r2, .int .i64 0]) ∧ Below w.heap.size w w' := by
  have hx := goes_exp a0_0 a0_1 a0_2 a0_3 a0_4 l1 l2 A1 A2 c1 c2 w hT hr1 hr2
  unfold goesC.f at h
  split at h
  · rename_i h0
    simp only [Option.some.injEq, Prod.mk.injEq] at h
    rw [h0, h.1, h.2] at hx
    exact hx
  · cases h
def stillC.f (a0_0 : Int) (a0_1 : Int) (a0_2 : Int) (a0_3 : Int) (a0_4 : Int) (l1 : List (S74)) (l2 : List Int) : Option (List Int) := if (stillR a0_0 a0_1 a0_2 a0_3 a0_4 l1 l2).2 = 0 then some (stillR a0_0 a0_1 a0_2 a0_3 a0_4 l1 l2).1 else none
theorem stillC.calls (a0_0 : Int) (a0_1 : Int) (a0_2 : Int) (a0_3 : Int) (a0_4 : Int) (A1 : Option Addr) (c1 : Nat) (l1 : List (S74)) (A2 : Option Addr) (c2 : Nat) (l2 : List Int) (r1 : List Int) (w : World) (hT : TabW w) (hr1 : Kd.C k74 w A1 l1.length l1) (hc1 : l1.length ≤ c1) (hr2 : Kd.C (Kd.int .i64) w A2 l2.length l2) (hc2 : l2.length ≤ c2) (h : stillC.f a0_0 a0_1 a0_2 a0_3 a0_4 l1 l2 = some r1) :
    Calls Tryd.prog 27 #[.agg #[.int .i64 a0_0, .int .i64 a0_1, .int .i64 a0_2, .int .i64 a0_3, .int .i64 a0_4], .slice A1 l1.length c1, .slice A2 l2.length c2] w fun e w' => ∃ v0_ : Value, e = .returned (.tuple #[v0_, .int .i64 0]) ∧ Kd.R (Kd.int .i64) 3 w' w.heap.size (fun _ => True) v0_ r1 ∧ Below w.heap.size w w' := by
  have hx := still_exp a0_0 a0_1 a0_2 a0_3 a0_4 l1 l2 A1 A2 c1 c2 w hT hr1 hr2
  unfold stillC.f at h
  split at h
  · rename_i h0
    simp only [Option.some.injEq] at h
    rw [h0, h] at hx
    exact hx
  · cases h
def apartC.f (a0_0 : Int) (a0_1 : Int) (a0_2 : Int) (a0_3 : Int) (a0_4 : Int) (l1 : List (S74)) : Option (List Int) := if (apartR a0_0 a0_1 a0_2 a0_3 a0_4 l1).2 = 0 then some (apartR a0_0 a0_1 a0_2 a0_3 a0_4 l1).1 else none
theorem apartC.calls (a0_0 : Int) (a0_1 : Int) (a0_2 : Int) (a0_3 : Int) (a0_4 : Int) (A1 : Option Addr) (c1 : Nat) (l1 : List (S74)) (r1 : List Int) (w : World) (hT : TabW w) (hr1 : Kd.C k74 w A1 l1.length l1) (hc1 : l1.length ≤ c1) (h : apartC.f a0_0 a0_1 a0_2 a0_3 a0_4 l1 = some r1) :
    Calls Tryd.prog 36 #[.agg #[.int .i64 a0_0, .int .i64 a0_1, .int .i64 a0_2, .int .i64 a0_3, .int .i64 a0_4], .slice A1 l1.length c1] w fun e w' => ∃ v0_ : Value, e = .returned (.tuple #[v0_, .int .i64 0]) ∧ Kd.R (Kd.int .i64) 3 w' w.heap.size (fun _ => True) v0_ r1 ∧ Below w.heap.size w w' := by
  have hx := apart_exp a0_0 a0_1 a0_2 a0_3 a0_4 l1 A1 c1 w hT hr1
  unfold apartC.f at h
  split at h
  · rename_i h0
    simp only [Option.some.injEq] at h
    rw [h0, h] at hx
    exact hx
  · cases h
def knownC.f : Option Unit := some ()
theorem knownC.calls (w : World) (hT : TabW w) (h : knownC.f = some ()) : Calls Tryd.prog 13 #[] w fun e w' => e = .returned (.bool true) ∧ Below w.heap.size w w' := known_calls w hT
def upC.f (k : Nat) (l0 : List Int) (a1 : Int) : Option Unit := if smaltolaw03_up.f k l0 a1 = some true then some () else none
theorem upC.mono : ∀ a0 a1 k, LeO (upC.f k a0 a1) (upC.f (k + 1) a0 a1) := by
  intro a0 a1 k r h
  unfold upC.f at h ⊢
  split at h
  · rename_i h0
    exact (if_pos (smaltolaw03_up.mono a0 a1 k _ h0)).trans h
  · cases h
theorem upC.calls (k : Nat) (A0 : Option Addr) (c0 : Nat) (l0 : List Int) (a1 : Int) (w : World) (hr0 : Kd.C (Kd.int .i64) w A0 l0.length l0) (hc0 : l0.length ≤ c0) (h : upC.f k l0 a1 = some ()) :
    Calls Tryd.prog 46 #[.slice A0 l0.length c0, .int .i64 a1] w fun e w' => e = .returned (.bool true) ∧ Drawn0 w w' := by
  unfold upC.f at h
  split at h
  · rename_i h0
    exact smaltolaw03_up.calls k A0 c0 l0 a1 true w hr0 hc0 h0
  · cases h
def fork_Heat.f (a0_0 : Int) (a0_1 : Int) (a0_2 : Int) (a0_3 : Int) (a0_4 : Int) (l1 : List (S74)) (l2 : List Int) : Option (Int × Int × Int) := some (heatR a0_0 a0_1 a0_2 a0_3 a0_4 l1 l2)
theorem fork_Heat.calls (a0_0 : Int) (a0_1 : Int) (a0_2 : Int) (a0_3 : Int) (a0_4 : Int) (A1 : Option Addr) (c1 : Nat) (l1 : List (S74)) (A2 : Option Addr) (c2 : Nat) (l2 : List Int) (r1 : Int) (r2 : Int) (r3 : Int) (w : World) (hT : TabW w) (hr1 : Kd.C k74 w A1 l1.length l1) (hc1 : l1.length ≤ c1) (hr2 : Kd.C (Kd.int .i64) w A2 l2.length l2) (hc2 : l2.length ≤ c2) (h : fork_Heat.f a0_0 a0_1 a0_2 a0_3 a0_4 l1 l2 = some (r1, r2, r3)) :
    Calls Tryd.prog 19 #[.agg #[.int .i64 a0_0, .int .i64 a0_1, .int .i64 a0_2, .int .i64 a0_3, .int .i64 a0_4], .slice A1 l1.length c1, .slice A2 l2.length c2] w fun e w' => e = .returned (.tuple #[.agg #[.int .i64 r1, .int .i64 r2], .int .i64 r3]) ∧ Below w.heap.size w w' := by
  have hx := heat_exp a0_0 a0_1 a0_2 a0_3 a0_4 l1 l2 A1 A2 c1 c2 w hT hr1 hr2
  simp only [fork_Heat.f, Option.some.injEq] at h
  rw [h] at hx
  exact hx
/-- A variable that is a small array, read at an index. -/
theorem arr_cell (k : IntKind) (xs : List Int) (j : Int) (h0 : 0 ≤ j) (h1 : j < (xs.length : Int)) ⦃W : World⦄ ⦃g : Nat⦄ ⦃cs : Array Value⦄ ⦃t : Nat⦄ (h : W.heap[g]? = some (.cells cs t (0, 0))) (hcs : cs = (xs.map (Value.int k)).toArray) : W.cell? ⟨g, j.toNat, none⟩ = some (.int k (rd xs j)) := by
  rw [blk_cell h, hcs]
  unfold rd
  rw [List.getD_eq_getElem?_getD, List.getElem?_eq_getElem (show j.toNat < xs.length by omega)]
  simp [show j.toNat < xs.length by omega]
/-- A byte. -/
def byteB (a : Int) : Bool := decide (0 ≤ a) && decide (a < 256)
def okB5 (x : S63) : Bool := byteB x.f0 && byteB x.f1 && byteB x.f2 && byteB x.f3 && byteB x.f4
def b5 (x : S63) : B5 := ⟨x.f0.toNat, x.f1.toNat, x.f2.toNat, x.f3.toNat, x.f4.toNat⟩
theorem byteB_iff (a : Int) : byteB a = true ↔ 0 ≤ a ∧ a < 256 := by unfold byteB; simp
theorem byteB_ok {a : Int} (h : byteB a = true) : a.toNat < 256 ∧ ((a.toNat : Nat) : Int) = a := by rw [byteB_iff] at h; omega
theorem b5_ok {x : S63} (h : okB5 x = true) : (b5 x).Ok ∧ [.int .u8 x.f0, .int .u8 x.f1, .int .u8 x.f2, .int .u8 x.f3, .int .u8 x.f4] = (b5 x).cs := by
  unfold okB5 at h
  simp only [Bool.and_eq_true] at h
  obtain ⟨⟨⟨⟨h0, h1⟩, h2⟩, h3⟩, h4⟩ := h
  have e0 := byteB_ok h0
  have e1 := byteB_ok h1
  have e2 := byteB_ok h2
  have e3 := byteB_ok h3
  have e4 := byteB_ok h4
  refine ⟨⟨e0.1, e1.1, e2.1, e3.1, e4.1⟩, ?_⟩
  unfold B5.cs b5
  simp only [e0.2, e1.2, e2.2, e3.2, e4.2]
theorem readsB5 {w : World} {A : Option Addr} {l : List (S63)} (hr : Kd.C k63 w A l.length l) (hok : ∀ x ∈ l, okB5 x = true) : B5C w A l.length (l.map b5) := by
  obtain ⟨hl, hm, hc⟩ := hr
  refine ⟨by simp, hm, fun hn => ?_⟩
  obtain ⟨ad, e, hcell⟩ := hc hn
  refine ⟨ad, e, fun j p hj => ?_⟩
  rw [List.getElem?_map] at hj
  obtain ⟨y, hy, rfl⟩ := Option.map_eq_some_iff.1 hj
  obtain ⟨c, hs, hK, hu⟩ := hcell j y hy
  exact ⟨c, hs, (k63_open hK).trans (b5_ok (hok y (List.mem_of_getElem? hy))).2, hu⟩
def smaltolaw03_Rack_made.f (a0_0 : Int) (a0_1 : Int) (a0_2 : Int) (a0_3 : Int) (a0_4 : Int) (l0_5 : List (S63)) : Option (Int × Int × Int × Int × Int × List S74) :=
  if (okB5 ⟨a0_0, a0_1, a0_2, a0_3, a0_4⟩ && l0_5.all okB5) = true then some (((1 + a0_0.toNat % 3 : Nat) : Int), ((30 + a0_1.toNat % 100 : Nat) : Int), ((a0_2.toNat % 8 : Nat) : Int), ((40 + a0_3.toNat : Nat) : Int), ((a0_4.toNat % 40 : Nat) : Int), madeL (l0_5.map b5)) else none
theorem smaltolaw03_Rack_made.calls (a0_0 : Int) (a0_1 : Int) (a0_2 : Int) (a0_3 : Int) (a0_4 : Int) (A0_5 : Option Addr) (c0_5 : Nat) (l0_5 : List (S63)) (r1 : Int) (r2 : Int) (r3 : Int) (r4 : Int) (r5 : Int) (r6 : List S74) (w : World) (hr0_5 : Kd.C k63 w A0_5 l0_5.length l0_5) (hc0_5 : l0_5.length ≤ c0_5) (h : smaltolaw03_Rack_made.f a0_0 a0_1 a0_2 a0_3 a0_4 l0_5 = some (r1, r2, r3, r4, r5, r6)) :
    Calls Tryd.prog 41 #[.agg #[.int .u8 a0_0, .int .u8 a0_1, .int .u8 a0_2, .int .u8 a0_3, .int .u8 a0_4, .slice A0_5 l0_5.length c0_5]] w fun e w' => ∃ v5_ : Value, e = .returned (.tuple #[.agg #[.int .i64 r1, .int .i64 r2, .int .i64 r3, .int .i64 r4, .int .i64 r5], v5_]) ∧ Kd.R k74 74 w' w.heap.size (fun _ => True) v5_ r6 ∧ Below w.heap.size w w' := by
  unfold smaltolaw03_Rack_made.f at h
  split at h
  · rename_i hok
    simp only [Bool.and_eq_true, List.all_eq_true] at hok
    obtain ⟨h0, h1⟩ := hok
    simp only [Option.some.injEq, Prod.mk.injEq] at h
    obtain ⟨rfl, rfl, rfl, rfl, rfl, rfl⟩ := h
    obtain ⟨hx, hcs⟩ := b5_ok h0
    have hr : B5C w A0_5 (l0_5.map b5).length (l0_5.map b5) := by
      rw [List.length_map]
      exact readsB5 hr0_5 h1
    have hm := made_calls (b5 ⟨a0_0, a0_1, a0_2, a0_3, a0_4⟩) hx (l0_5.map b5) (fun v hv => by obtain ⟨y, hy, rfl⟩ := List.mem_map.1 hv; exact (b5_ok (h1 y hy)).1) A0_5 c0_5 (by rw [List.length_map]; exact hc0_5) w hr
    unfold B5.cs at hcs
    simp only [List.cons.injEq, and_true] at hcs
    obtain ⟨q0, q1, q2, q3, q4⟩ := hcs
    rw [← q0, ← q1, ← q2, ← q3, ← q4, List.length_map] at hm
    exact hm
  · cases h
end Go.Proofs.YtbijamlgcebgeaaDoor.Q

-- part PB
namespace Go.Proofs.YtbijamlgcebgeaaDoor.Hand
open Go.RowKit Go.Shelf Go.Sort Go.Proofs.YtbijamlgcebgeaaDoorW.PrintWords Go.Proofs.YtbijamlgcebgeaaDoorW.PrintMore Go.Proofs.YtbijamlgcebgeaaDoor.Q
/-- As a rewriting that leaves a proof: the kernel never compares what stands on both sides. -/
theorem bs {α β : Type} (a : α) (f : α → Option β) : (some a).bind f = f a := by
  have h : ∀ o : Option α, o = some a → o.bind f = f a := by intro o ho; subst ho; rfl
  exact h _ rfl
theorem own_f {l : List S74} (h : l.length ≤ 1000) : smaltolaw03_own.f l = some l := by
  simp only [smaltolaw03_own.f, Option.bind_some, List.nil_append, List.length_nil]
  rw [if_pos (by omega)]
theorem ints_f {l : List Int} (h : l.length ≤ 1000) : smaltolaw03_ints.f l = some l := by
  simp only [smaltolaw03_ints.f, Option.bind_some, List.nil_append, List.length_nil]
  rw [if_pos (by omega)]
theorem made_f {a0 a1 a2 a3 a4 : Int} {l : List S63} (h0 : okB5 ⟨a0, a1, a2, a3, a4⟩ = true) (h1 : ∀ x ∈ l, okB5 x = true) :
    ∃ F : Furn, F.Ok ∧ smaltolaw03_Rack_made.f a0 a1 a2 a3 a4 l = some (F.bars, F.length, F.gap, F.load, F.near, F.l) ∧ F.load ≤ 295 ∧ F.length ≤ 129 ∧ F.near ≤ 39 := by
  refine ⟨madeF (b5 ⟨a0, a1, a2, a3, a4⟩) (l.map b5), madeF_ok _ (b5_ok h0).1 _ (fun v hv => by obtain ⟨y, hy, rfl⟩ := List.mem_map.1 hv; exact (b5_ok (h1 y hy)).1), ?_, ?_⟩
  · unfold smaltolaw03_Rack_made.f
    rw [if_pos (by simp only [Bool.and_eq_true, List.all_eq_true]; exact ⟨h0, h1⟩)]
    rfl
  · have := (b5_ok h0).1
    obtain ⟨q1, q2, q3, q4, q5⟩ := this
    unfold madeF
    simp only
    omega
end Go.Proofs.YtbijamlgcebgeaaDoor.Hand

-- part JF
namespace Go.Proofs.YtbijamlgcebgeaaDoor.Hand
open Go.ChangeShapes Go.WideShapes Go.ChangeAt Go.RowKit Go.Deep Go.Proofs.YtbijamlgcebgeaaDoorW.PrintWords Go.Proofs.YtbijamlgcebgeaaDoor.Q
theorem own : ownKnob Tryd.prog.godebug = none := by kernel_rfl
theorem laidOut : laidOutB Tryd.prog = true := by kernel_rfl
theorem g64 : Tryd.prog.globalNamed "math/bits.deBruijn64tab" = some 1 := by kernel_rfl
section
variable {H : Type} {enc : TypeId × Value → H} {w : World} {base : Nat} {spare : Nat → Bool} {held : Bool}
end
set_option maxRecDepth 100000 in
/-- What the rows list gives: the table. -/
theorem tabW_of {W : World} (h : laidMetH Tryd.prog Rows.forkGoesRow.laid W) : TabW W := by
  have h2 : Lib.TabIs Tryd.prog W "math/bits.deBruijn64tab" .u8 (Lib.deBruijn64tab.map fun (n : Nat) => (n : Int)) :=
    Lib.tabIs_of_head (rest := []) (g := 1) (t := Tryd.prog.globals[1]!.type) (n := 64) (e := 5) g64 (by kernel_rfl) (by kernel_rfl) (by kernel_rfl) (by kernel_rfl) (by kernel_rfl) (laidMet.tail h)
  have hc : ∀ j, j < Lib.deBruijn64tab.length → W.cell? ⟨1, j, none⟩ = some (.int .u8 (Lib.deBruijn64tab.getD j 0)) := by
    intro j hj
    have := h2.cell g64 j (by simpa using hj)
    rw [this]
    simp [List.getD_eq_getElem?_getD, List.getElem?_eq_getElem hj]
  exact ⟨World.block_lt_of_cell? W ⟨1, 0, none⟩ (hc 0 (by decide)), hc⟩
end Go.Proofs.YtbijamlgcebgeaaDoor.Hand

-- part JH
namespace Go.Proofs.YtbijamlgcebgeaaDoor.Hand
open Go.ChangeShapes Go.WideShapes Go.ChangeAt Go.RowKit Go.Deep Go.Proofs.YtbijamlgcebgeaaDoorW.PrintWords Go.Proofs.YtbijamlgcebgeaaDoor.Q
theorem cells5 : Tryd.prog.cellsOf 5 = 1 := by kernel_rfl
theorem cells63 : Tryd.prog.cellsOf 63 = 5 := by kernel_rfl
theorem cells66 : Tryd.prog.cellsOf 66 = 6 := by kernel_rfl
theorem cells67 : Tryd.prog.cellsOf 67 = 6 := by kernel_rfl
theorem wf_byte {n : Int} (h : (Lit.int .u8 n).wf = true) : byteB n = true := by
  rw [byteB_iff]
  have h1 : IntKind.u8.min = 0 := by decide
  have h2 : IntKind.u8.max = 255 := by decide
  simp [Lit.wf, h1, h2] at h
  omega
section
variable {H : Type} {enc : TypeId × Value → H} {w : World} {base : Nat} {spare : Nat → Bool} {held : Bool}
theorem elByte {n : Nat} {c : Value} {x : DataW H × List MemPlace} (h : DataW.trod enc Tryd.prog w base spare held n 5 [c] = some x) : ∃ y : Int, c = .int .u8 y ∧ byteB y = true := by
  obtain ⟨y, e, _, hw⟩ := DataW.trod_int Tryd.underlying5 h
  simp only [List.cons.injEq, and_true] at e
  exact ⟨y, e, wf_byte hw⟩
set_option maxRecDepth 100000 in
theorem el63 {n : Nat} {cs : List Value} {x : DataW H × List MemPlace} (h : DataW.trod enc Tryd.prog w base spare held n 63 cs = some x) : ∃ y : S63, cs = [.int .u8 y.f0, .int .u8 y.f1, .int .u8 y.f2, .int .u8 y.f3, .int .u8 y.f4] ∧ okB5 y = true := by
  obtain ⟨xs, m, rfl, rfl, hl, hx, hf⟩ := DataW.trod_array Tryd.underlying63 h
  rw [cells63] at hl
  rw [cells5] at hf
  match cs, hl with
  | [c0, c1, c2, c3, c4], _ =>
    match xs, hx with
    | [y0, y1, y2, y3, y4], _ =>
      obtain ⟨i0, e0, b0⟩ := elByte (show DataW.trod enc Tryd.prog w base spare held m 5 [c0] = some y0 from hf 0 (by decide))
      obtain ⟨i1, e1, b1⟩ := elByte (show DataW.trod enc Tryd.prog w base spare held m 5 [c1] = some y1 from hf 1 (by decide))
      obtain ⟨i2, e2, b2⟩ := elByte (show DataW.trod enc Tryd.prog w base spare held m 5 [c2] = some y2 from hf 2 (by decide))
      obtain ⟨i3, e3, b3⟩ := elByte (show DataW.trod enc Tryd.prog w base spare held m 5 [c3] = some y3 from hf 3 (by decide))
      obtain ⟨i4, e4, b4⟩ := elByte (show DataW.trod enc Tryd.prog w base spare held m 5 [c4] = some y4 from hf 4 (by decide))
      refine ⟨⟨i0, i1, i2, i3, i4⟩, by rw [e0, e1, e2, e3, e4], ?_⟩
      unfold okB5
      simp only [b0, b1, b2, b3, b4, Bool.and_self]
set_option maxRecDepth 100000 in
theorem el64 {fuel : Nat} {c0 : Value} {x : DataW H × List MemPlace} (hf : DataW.trod enc Tryd.prog w base spare held fuel 64 [c0] = some x) :
    ∃ (A : Option Addr) (l : List S63) (c : Nat), c0 = .slice A l.length c ∧ l.length ≤ c ∧ (∀ x ∈ l, okB5 x = true) ∧ Kd.C k63 w A l.length l := by
  rcases open_slice Tryd.underlying64 hf with ⟨hcs, _⟩ | ⟨a, n, c, m, k, D, Pl, hcs, _, hl, hm, hmm, _, hi⟩
  · simp only [List.cons.injEq, and_true] at hcs
    exact ⟨none, [], 0, hcs, Nat.le_refl _, (by simp), rfl, by simp, fun h => absurd h (by simp)⟩
  · simp only [List.cons.injEq, and_true] at hcs
    have hlm : n ≤ m := by rw [hmm]; split <;> omega
    have hel : ∀ i, i < n → ∃ y : S63, okB5 y = true ∧ ∀ j u, [Value.int .u8 y.f0, .int .u8 y.f1, .int .u8 y.f2, .int .u8 y.f3, .int .u8 y.f4][j]? = some u → w.cell? (a.add (i * 5 + j)) = some u := by
      intro i hin
      obtain ⟨cs', hc, ht⟩ := hi i (by omega)
      rw [cells63] at hc
      obtain ⟨y, rfl, hok⟩ := el63 ht
      refine ⟨y, hok, fun j u hj => ?_⟩
      obtain ⟨_, _, hat⟩ := World.cells?_some hc
      obtain ⟨hjl, hju⟩ := List.getElem?_eq_some_iff.1 hj
      have := hat j (by simpa using hjl)
      rw [← Go.Deep.add_add, this]
      exact hj
    obtain ⟨f, hf⟩ : ∃ f : Nat → S63, ∀ i, i < n → okB5 (f i) = true ∧ ∀ j u, [Value.int .u8 (f i).f0, .int .u8 (f i).f1, .int .u8 (f i).f2, .int .u8 (f i).f3, .int .u8 (f i).f4][j]? = some u → w.cell? (a.add (i * 5 + j)) = some u :=
      haveI : Inhabited S63 := ⟨z63⟩
      choose_lt (p := fun i (y : S63) => okB5 y = true ∧ ∀ j u, [Value.int .u8 y.f0, .int .u8 y.f1, .int .u8 y.f2, .int .u8 y.f3, .int .u8 y.f4][j]? = some u → w.cell? (a.add (i * 5 + j)) = some u) hel
    refine ⟨some a, (List.range n).map f, c, by rw [hcs]; simp, by simpa using hl, fun y hy => ?_, ?_⟩
    · obtain ⟨i, hi, rfl⟩ := List.mem_map.1 hy
      exact (hf i (List.mem_range.1 hi)).1
    rw [show ((List.range n).map f).length = n by simp]
    refine ⟨by simp, by simp [maxLen] at hm; omega, fun _ => ⟨a, rfl, fun j p hj => ?_⟩⟩
    obtain ⟨hjl, hp⟩ := List.getElem?_eq_some_iff.1 hj
    simp at hjl hp
    subst hp
    exact ⟨_, rfl, k63_mk w (f j), (hf j hjl).2⟩
set_option maxRecDepth 100000 in
theorem open66 {b0 : Nat} {v : Value} {d : DataW H} {p : List MemPlace} (hv : Value.okWide Tryd.prog w .any b0 66 v) (h : DataW.Trod enc Tryd.prog w base spare held 66 v d p) :
    ∃ (y : S63) (A : Option Addr) (l : List S63) (c : Nat), v = .agg #[.int .u8 y.f0, .int .u8 y.f1, .int .u8 y.f2, .int .u8 y.f3, .int .u8 y.f4, .slice A l.length c] ∧ okB5 y = true ∧ (∀ x ∈ l, okB5 x = true) ∧ l.length ≤ c ∧ Kd.C k63 w A l.length l := by
  obtain ⟨cs, rfl, hsz⟩ := okWide_struct Tryd.underlying66 hv
  rw [cells66] at hsz
  obtain ⟨fuel, hf⟩ := h
  obtain ⟨xs, m, rfl, _, hl, hx, hf⟩ := DataW.trod_struct Tryd.underlying66 hf
  obtain ⟨l⟩ := cs
  match l, hsz with
  | [c0, c1, c2, c3, c4, c5], _ =>
    have h0 := hf 0 _ rfl
    have h1 := hf 1 _ rfl
    match xs, hx with
    | [y0, y1], _ =>
      obtain ⟨y, e, hok⟩ := el63 (show DataW.trod enc Tryd.prog w base spare held m 63 [c0, c1, c2, c3, c4] = some y0 from h0)
      obtain ⟨A, l, c, e2, hc, hall, hC⟩ := el64 (show DataW.trod enc Tryd.prog w base spare held m 64 [c5] = some y1 from h1)
      simp only [List.cons.injEq, and_true] at e
      obtain ⟨e0, e1, e3, e4, e5⟩ := e
      exact ⟨y, A, l, c, by rw [e0, e1, e3, e4, e5, e2], hok, hall, hc, hC⟩
set_option maxRecDepth 100000 in
theorem openByte {b0 : Nat} {v : Value} {d : DataW H} {p : List MemPlace} (hv : Value.okWide Tryd.prog w .any b0 5 v) (h : DataW.Trod enc Tryd.prog w base spare held 5 v d p) : ∃ a : Int, v = .int .u8 a ∧ byteB a = true := by
  obtain ⟨a, e, _, _, hw⟩ := open_int Tryd.underlying5 hv h
  exact ⟨a, e, wf_byte hw⟩
set_option maxRecDepth 100000 in
theorem open67 {b0 : Nat} {v : Value} {d : DataW H} {p : List MemPlace} (hv : Value.okWide Tryd.prog w .any b0 67 v) (h : DataW.Trod enc Tryd.prog w base spare held 67 v d p) : ∃ a0 a1 a2 a3 a4 a5 : Int, v = .agg #[.int .u8 a0, .int .u8 a1, .int .u8 a2, .int .u8 a3, .int .u8 a4, .int .u8 a5] ∧ byteB a0 = true ∧ byteB a1 = true ∧ byteB a2 = true ∧ byteB a3 = true ∧ byteB a4 = true ∧ byteB a5 = true := by
  obtain ⟨cs, rfl, hsz⟩ : ∃ cs, v = .agg cs ∧ cs.size = Tryd.prog.cellsOf 67 := by
    simp only [Value.okWide, Tryd.underlying67] at hv
    obtain ⟨cs, h1, h2, _⟩ := hv
    exact ⟨cs, h1, h2⟩
  rw [cells67] at hsz
  obtain ⟨fuel, hf⟩ := h
  obtain ⟨xs, m, rfl, _, hl, hx, hf⟩ := DataW.trod_array Tryd.underlying67 hf
  rw [cells5] at hf
  obtain ⟨l⟩ := cs
  match l, hsz with
  | [c0, c1, c2, c3, c4, c5], _ =>
    match xs, hx with
    | [y0, y1, y2, y3, y4, y5], _ =>
      obtain ⟨i0, e0, b0⟩ := elByte (show DataW.trod enc Tryd.prog w base spare held m 5 [c0] = some y0 from hf 0 (by decide))
      obtain ⟨i1, e1, b1⟩ := elByte (show DataW.trod enc Tryd.prog w base spare held m 5 [c1] = some y1 from hf 1 (by decide))
      obtain ⟨i2, e2, b2⟩ := elByte (show DataW.trod enc Tryd.prog w base spare held m 5 [c2] = some y2 from hf 2 (by decide))
      obtain ⟨i3, e3, b3⟩ := elByte (show DataW.trod enc Tryd.prog w base spare held m 5 [c3] = some y3 from hf 3 (by decide))
      obtain ⟨i4, e4, b4⟩ := elByte (show DataW.trod enc Tryd.prog w base spare held m 5 [c4] = some y4 from hf 4 (by decide))
      obtain ⟨i5, e5, b5⟩ := elByte (show DataW.trod enc Tryd.prog w base spare held m 5 [c5] = some y5 from hf 5 (by decide))
      exact ⟨i0, i1, i2, i3, i4, i5, by rw [e0, e1, e2, e3, e4, e5], b0, b1, b2, b3, b4, b5⟩
end
end Go.Proofs.YtbijamlgcebgeaaDoor.Hand

-- part QMf
namespace Go.Proofs.YtbijamlgcebgeaaDoor.Q
open Go.RowKit Go.Proofs.YtbijamlgcebgeaaDoorW.PrintWords Go.Proofs.YtbijamlgcebgeaaDoorW.PrintLast Go.Proofs.YtbijamlgcebgeaaDoorW.PrintMore
attribute [local go_sem] max2_int min2_int max_two min_two max_three min_three max_four min_four
end Go.Proofs.YtbijamlgcebgeaaDoor.Q

-- part QM
namespace Go.Proofs.YtbijamlgcebgeaaDoor.Q
open Go.RowKit Go.Proofs.YtbijamlgcebgeaaDoorW.PrintWords Go.Proofs.YtbijamlgcebgeaaDoorW.PrintLast Go.Proofs.YtbijamlgcebgeaaDoorW.PrintMore
attribute [local go_sem] max2_int min2_int max_two min_two max_three min_three max_four min_four
end Go.Proofs.YtbijamlgcebgeaaDoor.Q

-- part PD
namespace Go.Proofs.YtbijamlgcebgeaaDoor.Hand
open Go.RowKit Go.Shelf Go.Sort Go.Proofs.YtbijamlgcebgeaaDoorW.PrintWords Go.Proofs.YtbijamlgcebgeaaDoorW.PrintMore Go.Proofs.YtbijamlgcebgeaaDoor.Q
theorem more_rounds {α : Type} (g : Nat → Option α) (h : ∀ k, LeO (g k) (g (k + 1))) {k : Nat} {r : α} (e : g k = some r) : ∀ n, k ≤ n → g n = some r := by
  intro n
  induction n with
  | zero => intro hn; obtain rfl : k = 0 := by omega
            exact e
  | succ n ih =>
    intro hn
    by_cases hk : k = n + 1
    · subst hk; exact e
    · exact h n _ (ih (by omega))
theorem chosen_f {l : List S74} (hl : l.length ≤ 6) (by_ : Nat) (hb : by_ < 256) (k : Nat) (hk : 10 ≤ k) : smaltolaw03_chosen.f k l by_ = some (chosenL l.length by_) :=
  more_rounds (fun k => smaltolaw03_chosen.f k l by_) (fun k => smaltolaw03_chosen.mono _ _ k) (chosen_eq l by_ hb hl) k hk
section
variable {F : Furn} (hF : F.Ok)
include hF
end
end Go.Proofs.YtbijamlgcebgeaaDoor.Hand

-- part QT
namespace Go.Proofs.YtbijamlgcebgeaaDoor.Q
open Go.RowKit Go.Proofs.YtbijamlgcebgeaaDoorW.PrintWords Go.Proofs.YtbijamlgcebgeaaDoorW.PrintLast Go.Proofs.YtbijamlgcebgeaaDoorW.PrintMore Go.Proofs.YtbijamlgcebgeaaDoor.Hand
def fineOk (a b c d e : Int) (l1 : List (S74)) (l2 l3 : List Int) : Bool := decide (checkF a b c d e l1 = 0) && decide (l2.length ≤ 6) && decide (l2.length ≤ l3.length) && (List.range l2.length).all (fun (j : Nat) => decide (0 ≤ rd l2 j) && decide (rd l2 j < l1.length))
def smaltolaw03_fine.f (a0_0 : Int) (a0_1 : Int) (a0_2 : Int) (a0_3 : Int) (a0_4 : Int) (l1 : List (S74)) (l2 l3 : List Int) : Option Bool :=
  if fineOk a0_0 a0_1 a0_2 a0_3 a0_4 l1 l2 l3 = true then some (fineB (mkF a0_0 a0_1 a0_2 a0_3 a0_4 l1) l2 l3) else none
theorem smaltolaw03_fine.calls (a0_0 : Int) (a0_1 : Int) (a0_2 : Int) (a0_3 : Int) (a0_4 : Int) (A1 : Option Addr) (c1 : Nat) (l1 : List (S74)) (A2 : Option Addr) (c2 : Nat) (l2 : List Int) (A3 : Option Addr) (c3 : Nat) (l3 : List Int) (r : Bool) (w : World) (hr1 : Kd.C k74 w A1 l1.length l1) (hc1 : l1.length ≤ c1) (hr2 : Kd.C (Kd.int .i64) w A2 l2.length l2) (hc2 : l2.length ≤ c2) (hr3 : Kd.C (Kd.int .i64) w A3 l3.length l3) (hc3 : l3.length ≤ c3) (h : smaltolaw03_fine.f a0_0 a0_1 a0_2 a0_3 a0_4 l1 l2 l3 = some r) :
    Calls Tryd.prog 45 #[.agg #[.int .i64 a0_0, .int .i64 a0_1, .int .i64 a0_2, .int .i64 a0_3, .int .i64 a0_4], .slice A1 l1.length c1, .slice A2 l2.length c2, .slice A3 l3.length c3] w fun e w' => e = .returned (.bool r) ∧ Below w.heap.size w w' := by
  unfold smaltolaw03_fine.f at h
  split at h
  · rename_i hok
    unfold fineOk at hok
    simp only [Bool.and_eq_true, decide_eq_true_eq, List.all_eq_true, List.mem_range] at hok
    obtain ⟨⟨⟨h1, h2⟩, h3⟩, h4⟩ := hok
    have hx := fine_calls (mkF a0_0 a0_1 a0_2 a0_3 a0_4 l1) (check_ok h1) l2 l3 A1 A2 A3 c1 c2 c3 w hr1 hr2 hr3 h2 h3 h4
    simp only [Option.some.injEq] at h
    rw [h] at hx
    exact hx
  · cases h
end Go.Proofs.YtbijamlgcebgeaaDoor.Q

/- What the laws about the fork share: words about rows and regions, the walks of the package fork and of the references, and what they compute. Part 4 of 4. -/
import Derived.Test.YtbijamlgcebgeaaDoorE3
import Derived.Test.YtbijamlgcebgeaaDoorRows
import Derived.WalkKit
import Derived.ProofKit
import Derived.OpenShut
import Derived.Deep.DeepHandedRow
import Derived.Deep.Slices
import Derived.Lib.LaidTab
import Derived.Stop.LaidErr
import Derived.Below
import Derived.ChangeOld
import Derived.SizedLaws
set_option linter.unusedVariables false
set_option linter.unusedSimpArgs false
-- part RQ
namespace Go.Proofs.YtbijamlgcebgeaaDoor.Hand
open Go.RowKit Go.Shelf Go.Sort Go.Proofs.YtbijamlgcebgeaaDoorW.PrintWords Go.Proofs.YtbijamlgcebgeaaDoorW.PrintMore Go.Proofs.YtbijamlgcebgeaaDoor.Q
/-- A valid fork takes a load that ascends. -/
theorem new_pair {F : Furn} (hF : F.Ok) {load : List Int} (hp : load.Pairwise (· < ·)) (hm : ∀ x ∈ load, 0 ≤ x ∧ x < F.l.length) :
    ∃ s, newR F.bars F.length F.gap F.load F.near F.l load = .ok s ∧ (bitsOf s).map Int.ofNat = load ∧ s < 64 := by
  obtain ⟨s, hs⟩ := newR_some (a := F.bars) (b := F.length) (c := F.gap) (d := F.load) (e := F.near) (l := F.l) (load := load) hF (fun j hj => by rw [rd_get hj]; exact hm _ (List.getElem_mem _)) (fun j h0 hj => by
    rw [show ((j : Int) - 1) = ((j - 1 : Nat) : Int) by omega, rd_get hj, rd_get (show j - 1 < load.length by omega)]
    exact List.pairwise_iff_getElem.1 hp (j - 1) j (by omega) hj (by omega))
  exact ⟨s, hs, newR_list hs⟩
end Go.Proofs.YtbijamlgcebgeaaDoor.Hand

-- part RU
namespace Go.Proofs.YtbijamlgcebgeaaDoor.Hand
open Go.RowKit Go.Shelf Go.Sort Go.Proofs.YtbijamlgcebgeaaDoorW.PrintWords Go.Proofs.YtbijamlgcebgeaaDoorW.PrintMore Go.Proofs.YtbijamlgcebgeaaDoor.Q
theorem empty_get {F : Furn} (hF : F.Ok) {x : Nat} (hx : x < F.bars.toNat) : F.empty.get x = F.length + F.gap := by
  have hb := hF.bars
  unfold Furn.empty
  have : F.bars.toNat ≤ 3 := by omega
  generalize F.bars.toNat = n at hx this
  unfold roomK Room.get
  split
  · rename_i h; subst h; simp only; rw [if_pos (by omega)]
  · split
    · rename_i h; subst h; simp only; rw [if_pos (by omega)]
    · simp only; rw [if_pos (by omega)]
end Go.Proofs.YtbijamlgcebgeaaDoor.Hand

-- part PA
namespace Go.Proofs.YtbijamlgcebgeaaDoor.Hand
open Go.RowKit Go.Shelf Go.Sort Go.Proofs.YtbijamlgcebgeaaDoorW.PrintWords Go.Proofs.YtbijamlgcebgeaaDoorW.PrintMore Go.Proofs.YtbijamlgcebgeaaDoor.Q
/-- Whether the signs of a list of places go. -/
def goesI (F : Furn) (is : List Nat) : Bool := decide (sumB (fun x => x.f2.f1) F.l is ≤ F.load) && (!(decide ((heatB F.l is).2 < (heatB F.l is).1) || !decide ((highB F.l is).2 - (highB F.l is).1 ≤ F.near)) && (optL (barsB F is F.empty)).2)
theorem goesB_I (F : Furn) (s : Nat) : goesB F s = goesI F (bitsOf s) := rfl
theorem goesI_iff (F : Furn) (is : List Nat) : goesI F is = true ↔ sumB (fun x => x.f2.f1) F.l is ≤ F.load ∧ (heatB F.l is).1 ≤ (heatB F.l is).2 ∧ (highB F.l is).2 - (highB F.l is).1 ≤ F.near ∧ (barsB F is F.empty).isSome = true := by
  unfold goesI
  have : (optL (barsB F is F.empty)).2 = (barsB F is F.empty).isSome := by cases barsB F is F.empty <;> rfl
  rw [this]
  simp only [Bool.and_eq_true, decide_eq_true_eq, Bool.not_eq_true', Bool.or_eq_false_iff, decide_eq_false_iff_not, Bool.not_eq_false']
  constructor
  · rintro ⟨a, ⟨b, c⟩, d⟩; exact ⟨a, by omega, c, d⟩
  · rintro ⟨a, b, c, d⟩; exact ⟨a, ⟨by omega, c⟩, d⟩
theorem val_pos {F : Furn} (hF : F.Ok) (i : Nat) : 0 ≤ (F.l.getD i z74).f2.f1 ∧ 0 ≤ (F.l.getD i z74).f0 := by
  rw [List.getD_eq_getElem?_getD]
  by_cases hil : i < F.l.length
  · rw [List.getElem?_eq_getElem hil]
    have := hF.signs _ (List.getElem_mem hil)
    show 0 ≤ (F.l[i]).f2.f1 ∧ 0 ≤ (F.l[i]).f0
    omega
  · rw [List.getElem?_eq_none (by omega)]
    exact ⟨by decide, by decide⟩
/-- Rules that are no harder. -/
structure Easier (F G : Furn) : Prop where
  bars : F.bars ≤ G.bars
  length : F.length ≤ G.length
  gap : F.gap = G.gap
  load : F.load ≤ G.load
  near : F.near ≤ G.near
theorem barsB_easy {F G : Furn} (hl : F.l = G.l) (hb : F.bars ≤ G.bars) (hb0 : 0 ≤ F.bars) (hb3 : G.bars.toNat ≤ 3) (hg : F.gap = G.gap) : ∀ (is : List Nat) (r s : Room), RoomLe F.bars.toNat r s → (barsB F is r).isSome = true → (barsB G is s).isSome = true := by
  intro is
  induction is with
  | nil => intro r s _ _; rfl
  | cons i is ih =>
    intro r s hle h
    unfold barsB at h ⊢
    obtain ⟨x, h1, h2, h3, h4⟩ := (barsTry_isSome _ _).1 h
    refine (barsTry_isSome _ _).2 ⟨x, h1, by omega, ?_, ?_⟩
    · have := hle x (by omega)
      rw [← hl, ← hg]
      omega
    · refine ih _ _ ?_ h4
      intro y hy
      rw [Room.get_put _ _ _ (by omega) _ (by omega), Room.get_put _ _ _ (by omega) _ (by omega)]
      have h5 := hle y hy
      have h6 := hle x (by omega)
      rw [← hl, ← hg]
      split <;> omega
theorem goesI_easy {F G : Furn} (hF : F.Ok) (hG : G.Ok) (hl : F.l = G.l) (h : Easier F G) {is : List Nat} (hg : goesI F is = true) : goesI G is = true := by
  rw [goesI_iff] at hg ⊢
  obtain ⟨a, b, c, d⟩ := hg
  have hb := hF.bars
  have hb' := hG.bars
  have h1 := h.load
  have h2 := h.near
  have h3 := h.bars
  rw [← hl]
  refine ⟨by omega, b, by omega, barsB_easy hl h.bars (by omega) (by omega) h.gap is _ _ ?_ d⟩
  intro x hx
  rw [empty_get hF hx, empty_get hG (by omega)]
  have := h.length
  have := h.gap
  omega
theorem goesI_sub {F : Furn} (hF : F.Ok) {is js : List Nat} (hsub : is.Sublist js) (hg : goesI F js = true) : goesI F is = true := by
  rw [goesI_iff] at hg ⊢
  obtain ⟨h1, h2, h3, h4⟩ := hg
  have hat := val_pos hF
  have hb := hF.bars
  have hgp := hF.gap
  refine ⟨?_, ?_, ?_, ?_⟩
  · exact Int.le_trans (sum_sub (fun i => (F.l.getD i z74).f2.f1) (fun i => (hat i).1) hsub 0 0 (Int.le_refl _)) h1
  · have := heat_sub F.l hsub (0, 1000) (0, 1000) (Int.le_refl _) (Int.le_refl _)
    unfold heatB at h2 ⊢
    omega
  · have := high_sub F.l hsub (100, 0) (100, 0) (Int.le_refl _) (Int.le_refl _)
    unfold highB at h3 ⊢
    omega
  · exact bars_sub F (by omega) (fun i => by have := (hat i).2; unfold rd_T74; simp only [Int.toNat_natCast]; omega) hsub F.empty F.empty (fun _ _ => Int.le_refl _) h4
theorem barsB_congr {F G : Furn} (h1 : F.bars = G.bars) (h3 : F.gap = G.gap) : ∀ (is js : List Nat), (is.map fun i => F.l.getD i z74) = (js.map fun i => G.l.getD i z74) → barsB F is = barsB G js := by
  intro is
  induction is with
  | nil =>
    intro js h
    cases js with
    | nil => rfl
    | cons j js => simp at h
  | cons i is ih =>
    intro js h
    cases js with
    | nil => simp at h
    | cons j js =>
      simp only [List.map_cons, List.cons.injEq] at h
      funext r
      have hr : rd_T74 F.l ((i : Nat) : Int) = rd_T74 G.l ((j : Nat) : Int) := by
        unfold rd_T74
        rw [Int.toNat_natCast, Int.toNat_natCast]
        exact h.1
      unfold barsB
      rw [ih js h.2, h1, h3, hr]
theorem goesI_congr {F G : Furn} (h1 : F.bars = G.bars) (h2 : F.length = G.length) (h3 : F.gap = G.gap) (h4 : F.load = G.load) (h5 : F.near = G.near) {is js : List Nat} (h : (is.map fun i => F.l.getD i z74) = (js.map fun i => G.l.getD i z74)) : goesI F is = goesI G js := by
  have hs : sumB (fun x => x.f2.f1) F.l is = sumB (fun x => x.f2.f1) G.l js := by
    unfold sumB
    have e : ∀ (H : Furn) (ks : List Nat), (ks.map fun i => (H.l.getD i z74).f2.f1) = (ks.map fun i => H.l.getD i z74).map fun x => x.f2.f1 := fun H ks => by rw [List.map_map]; rfl
    rw [e F, e G, h]
  have hh : heatB F.l is = heatB G.l js := by
    unfold heatB
    have e : ∀ (H : Furn) (ks : List Nat) (z : Int × Int), ks.foldl (fun h i => (mx h.1 (H.l.getD i z74).f3.f0, mn h.2 (H.l.getD i z74).f3.f1)) z = (ks.map fun i => H.l.getD i z74).foldl (fun h x => (mx h.1 x.f3.f0, mn h.2 x.f3.f1)) z := fun H ks z => by rw [List.foldl_map]
    rw [e F, e G, h]
  have hi : highB F.l is = highB G.l js := by
    unfold highB
    have e : ∀ (H : Furn) (ks : List Nat) (z : Int × Int), ks.foldl (fun h i => (mn h.1 (H.l.getD i z74).f1, mx h.2 (H.l.getD i z74).f1)) z = (ks.map fun i => H.l.getD i z74).foldl (fun h x => (mn h.1 x.f1, mx h.2 x.f1)) z := fun H ks z => by rw [List.foldl_map]
    rw [e F, e G, h]
  have he : F.empty = G.empty := by unfold Furn.empty; rw [h1, h2, h3]
  unfold goesI
  rw [hs, hh, hi, he, barsB_congr h1 h3 is js h, h4, h5]
theorem goesI_nil {F : Furn} (hF : F.Ok) : goesI F [] = true := goes_none hF
theorem asc_ext : ∀ {xs ys : List Nat}, xs.Pairwise (· < ·) → ys.Pairwise (· < ·) → (∀ a, a ∈ xs ↔ a ∈ ys) → xs = ys := by
  intro xs
  induction xs with
  | nil =>
    intro ys _ _ h
    cases ys with
    | nil => rfl
    | cons y ys => exact absurd ((h y).2 (by simp)) (by simp)
  | cons x xs ih =>
    intro ys hx hy h
    cases ys with
    | nil => exact absurd ((h x).1 (by simp)) (by simp)
    | cons y ys =>
      obtain ⟨hx1, hx2⟩ := List.pairwise_cons.1 hx
      obtain ⟨hy1, hy2⟩ := List.pairwise_cons.1 hy
      have e : x = y := by
        rcases List.mem_cons.1 ((h x).1 (by simp)) with h1 | h1
        · exact h1
        · rcases List.mem_cons.1 ((h y).2 (by simp)) with h2 | h2
          · exact h2.symm
          · have := hx1 y h2; have := hy1 x h1; omega
      subst e
      rw [ih hx2 hy2 (fun a => by
        constructor
        · intro ha
          rcases List.mem_cons.1 ((h a).1 (by simp [ha])) with h1 | h1
          · have := hx1 a ha; omega
          · exact h1
        · intro ha
          rcases List.mem_cons.1 ((h a).2 (by simp [ha])) with h1 | h1
          · have := hy1 a ha; omega
          · exact h1)]
theorem asc_sub {xs ys : List Nat} (hx : xs.Pairwise (· < ·)) (hy : ys.Pairwise (· < ·)) (h : ∀ a ∈ xs, a ∈ ys) : xs.Sublist ys := by
  have : xs = ys.filter fun a => decide (a ∈ xs) := asc_ext hx (hy.filter _) (fun a => by
    rw [List.mem_filter, decide_eq_true_eq]
    exact ⟨fun ha => ⟨h a ha, ha⟩, fun ha => ha.2⟩)
  rw [this]
  exact List.filter_sublist
/-- The places at which a list has a number. -/
def idx (x : List Int) (j : Int) : List Nat := (List.range x.length).filter fun (i : Nat) => decide (rd x i = j)
theorem idx_asc (x : List Int) (j : Int) : (idx x j).Pairwise (· < ·) := List.pairwise_lt_range.filter _
theorem idx_mem {x : List Int} {j : Int} {i : Nat} : i ∈ idx x j ↔ i < x.length ∧ rd x i = j := by
  unfold idx
  rw [List.mem_filter, List.mem_range, decide_eq_true_eq]
theorem bits_asc (s : Nat) : (bitsOf s).Pairwise (· < ·) := List.pairwise_lt_range.filter _
theorem bits_mem {s i : Nat} (hs : s < 64) : i ∈ bitsOf s ↔ s.testBit i = true := by
  unfold bitsOf
  rw [List.mem_filter, List.mem_range]
  refine ⟨fun h => h.2, fun h => ⟨?_, h⟩⟩
  rcases Nat.lt_or_ge i 6 with h6 | h6
  · exact h6
  · have : s.testBit i = false := Nat.testBit_lt_two_pow (Nat.lt_of_lt_of_le hs (Nat.pow_le_pow_right (by omega) h6 : 2 ^ 6 ≤ 2 ^ i))
    rw [this] at h
    cases h
theorem setK_bit (l : List Int) (j : Int) (i : Nat) : ∀ k, (setK l j k).testBit i = true ↔ i < k ∧ rd l i = j := by
  intro k
  induction k with
  | zero => simp [setK]
  | succ k ih =>
    rw [setK_succ]
    split
    · rename_i h
      rw [Nat.testBit_or, Bool.or_eq_true, ih, Nat.testBit_two_pow, decide_eq_true_eq]
      constructor
      · rintro (⟨a, b⟩ | rfl)
        · exact ⟨by omega, b⟩
        · exact ⟨by omega, h⟩
      · rintro ⟨a, b⟩
        rcases Nat.lt_succ_iff_lt_or_eq.1 a with c | c
        · exact .inl ⟨c, b⟩
        · exact .inr c.symm
    · rename_i h
      rw [ih]
      constructor
      · rintro ⟨a, b⟩; exact ⟨by omega, b⟩
      · rintro ⟨a, b⟩
        rcases Nat.lt_succ_iff_lt_or_eq.1 a with c | c
        · exact ⟨c, b⟩
        · subst c; exact absurd b h
theorem bits_idx {x : List Int} (h : x.length ≤ 6) (j : Int) : bitsOf (setN x j) = idx x j := by
  refine asc_ext (bits_asc _) (idx_asc _ _) (fun a => ?_)
  have hlt : setN x j < 64 := Nat.lt_of_lt_of_le (setN_lt x j) (Nat.pow_le_pow_right (by omega) h : 2 ^ x.length ≤ 2 ^ 6)
  rw [bits_mem hlt, idx_mem]
  exact setK_bit x j a x.length
theorem mem_allLs (m : Nat) : ∀ (n : Nat) (x : List Int), x.length = n → (∀ y ∈ x, 0 ≤ y ∧ y < m) → x ∈ allLs m n := by
  intro n
  induction n with
  | zero => intro x h _; rw [List.length_eq_zero_iff.1 h]; simp [allLs]
  | succ n ih =>
    intro x h hy
    cases x with
    | nil => simp at h
    | cons y x =>
      have h0 := hy y (by simp)
      rw [allLs_first, List.mem_flatMap]
      exact ⟨y.toNat, List.mem_range.2 (by omega), List.mem_map.2 ⟨x, ih x (by simpa using h) (fun z hz => hy z (by simp [hz])), by rw [Int.toNat_of_nonneg h0.1]⟩⟩
/-- Loads with numbers below m in which all signs can be fired. -/
structure Good (F : Furn) (m : Nat) (x : List Int) : Prop where
  len : x.length = F.l.length
  rng : ∀ y ∈ x, 0 ≤ y ∧ y < m
  goes : ∀ j : Int, goesI F (idx x j) = true
theorem idx_none {x : List Int} {m : Nat} (h : ∀ y ∈ x, 0 ≤ y ∧ y < (m : Int)) {j : Int} (hj : j < 0 ∨ (m : Int) ≤ j) : idx x j = [] := by
  rw [List.eq_nil_iff_forall_not_mem]
  intro i hi
  obtain ⟨h1, h2⟩ := idx_mem.1 hi
  rw [rd_get h1] at h2
  have := h _ (List.getElem_mem h1)
  omega
theorem lists_good {F : Furn} (hF : F.Ok) {m : Nat} (hm : m ≤ 6) {x : List Int} : x ∈ listsL F m ↔ Good F m x := by
  have hl := hF.len
  rw [listsL_eq hF hm, List.mem_filter]
  constructor
  · rintro ⟨h1, h2⟩
    obtain ⟨h3, h4⟩ := allLs_mem _ _ _ h1
    refine ⟨h3, h4, fun j => ?_⟩
    by_cases hj : 0 ≤ j ∧ j < m
    · unfold firedB at h2
      rw [List.all_eq_true] at h2
      have := h2 j.toNat (List.mem_range.2 (by omega))
      rw [Int.toNat_of_nonneg hj.1, goesB_I, bits_idx (by omega)] at this
      exact this
    · rw [idx_none h4 (by omega)]
      exact goesI_nil hF
  · rintro ⟨h1, h2, h3⟩
    refine ⟨mem_allLs _ _ _ h1 h2, ?_⟩
    unfold firedB
    rw [List.all_eq_true]
    intro j _
    rw [goesB_I, bits_idx (by omega)]
    exact h3 _
theorem fewest_some {F : Furn} (hF : F.Ok) (h : (fewestB F).2.2 = true) : Good F (fewestB F).2.1 (fewestB F).1 ∧ (fewestB F).2.1 ≤ F.l.length ∧ (listsL F (fewestB F).2.1).head? = some (fewestB F).1 ∧ ∀ m, m < (fewestB F).2.1 → ∀ x, ¬ Good F m x := by
  have hl := hF.len
  unfold fewestB at h ⊢
  cases hq : fewestO F (F.l.length + 1) with
  | none => rw [hq] at h; cases h
  | some p =>
    obtain ⟨L, m⟩ := p
    dsimp only
    have key : ∀ k, fewestO F k = some (L, m) → m < k ∧ (listsL F m).head? = some L ∧ ∀ m', m' < m → listsL F m' = [] := by
      intro k
      induction k with
      | zero => intro h; simp [fewestO] at h
      | succ k ih =>
        intro h
        cases hk : fewestO F k with
        | some p =>
          rw [fewestO_le F (Nat.le_succ k) hk] at h
          rw [h] at hk
          obtain ⟨h1, h2, h3⟩ := ih hk
          exact ⟨by omega, h2, h3⟩
        | none =>
          rw [fewestO_succ F k hk] at h
          obtain ⟨L', hL', he⟩ := Option.map_eq_some_iff.1 h
          simp only [Prod.mk.injEq] at he
          obtain ⟨rfl, rfl⟩ := he
          refine ⟨by omega, hL', fun m' hm' => ?_⟩
          unfold fewestO at hk
          rw [List.findSome?_eq_none_iff] at hk
          have := hk m' (List.mem_range.2 hm')
          cases hh : listsL F m' with
          | nil => rfl
          | cons y ys => rw [hh] at this; cases this
    obtain ⟨h1, h2, h3⟩ := key _ hq
    refine ⟨(lists_good hF (by omega)).1 (List.mem_of_head? h2), by omega, h2, fun m' hm' x hx => ?_⟩
    have := (lists_good hF (by omega)).2 hx
    rw [h3 m' hm'] at this
    cases this
theorem fewest_none {F : Furn} (hF : F.Ok) (h : (fewestB F).2.2 = false) : ∀ m, m ≤ F.l.length → ∀ x, ¬ Good F m x := by
  have hl := hF.len
  intro m hm x hx
  unfold fewestB at h
  cases hq : fewestO F (F.l.length + 1) with
  | some p => rw [hq] at h; cases h
  | none =>
    unfold fewestO at hq
    rw [List.findSome?_eq_none_iff] at hq
    have := hq m (List.mem_range.2 (by omega))
    have hm := (lists_good hF (by omega)).2 hx
    cases hh : listsL F m with
    | nil => rw [hh] at hm; cases hm
    | cons y ys => rw [hh] at this; cases this
def lessF (F : Furn) (i : Nat) : Furn := ⟨F.bars, F.length, F.gap, F.load, F.near, F.l.eraseIdx i⟩
def skip (i k : Nat) : Nat := if k < i then k else k + 1
theorem skip_lt {i a b : Nat} (h : a < b) : skip i a < skip i b := by unfold skip; split <;> split <;> omega
theorem skip_ne (i a : Nat) : skip i a ≠ i := by unfold skip; split <;> omega
theorem less_ok {F : Furn} (hF : F.Ok) (i : Nat) : (lessF F i).Ok :=
  ⟨hF.bars, hF.length, hF.gap, hF.load, hF.near, Nat.le_trans (List.length_eraseIdx_le _ _) hF.len, fun x hx => hF.signs x (List.mem_of_mem_eraseIdx hx)⟩
theorem less_getD (F : Furn) (i k : Nat) : (lessF F i).l.getD k z74 = F.l.getD (skip i k) z74 := by
  show (F.l.eraseIdx i).getD k z74 = _
  rw [List.getD_eq_getElem?_getD, List.getD_eq_getElem?_getD, List.getElem?_eraseIdx]
  unfold skip
  split <;> rfl
theorem less_goes (F : Furn) (i : Nat) (is : List Nat) : goesI (lessF F i) is = goesI F (is.map (skip i)) :=
  goesI_congr (F := lessF F i) (G := F) rfl rfl rfl rfl rfl (by
    rw [List.map_map]
    exact List.map_congr_left (fun k _ => less_getD F i k))
theorem less_idx (x : List Int) (i : Nat) (j : Int) : (idx (x.eraseIdx i) j).map (skip i) = (idx x j).filter fun a => decide (a ≠ i) := by
  refine asc_ext ?_ ((idx_asc _ _).filter _) (fun a => ?_)
  · rw [List.pairwise_map]
    exact (idx_asc _ _).imp (fun h => skip_lt h)
  · rw [List.mem_filter, decide_eq_true_eq, List.mem_map, idx_mem]
    have hat : ∀ k : Nat, rd (x.eraseIdx i) k = rd x (skip i k : Nat) := by
      intro k
      unfold rd
      rw [Int.toNat_natCast, Int.toNat_natCast, List.getD_eq_getElem?_getD, List.getD_eq_getElem?_getD, List.getElem?_eraseIdx]
      unfold skip
      split <;> rfl
    by_cases hi : i < x.length
    · have hlen := List.length_eraseIdx_of_lt hi
      constructor
      · rintro ⟨k, hk, rfl⟩
        obtain ⟨h1, h2⟩ := idx_mem.1 hk
        rw [hat] at h2
        refine ⟨⟨?_, h2⟩, skip_ne _ _⟩
        unfold skip
        split <;> omega
      · rintro ⟨⟨h1, h2⟩, h3⟩
        by_cases hlt : a < i
        · have e : skip i a = a := by unfold skip; rw [if_pos hlt]
          exact ⟨a, idx_mem.2 ⟨by omega, by rw [hat, e]; exact h2⟩, e⟩
        · have e : skip i (a - 1) = a := by unfold skip; rw [if_neg (by omega)]; omega
          exact ⟨a - 1, idx_mem.2 ⟨by omega, by rw [hat, e]; exact h2⟩, e⟩
    · rw [List.eraseIdx_of_length_le (by omega)]
      constructor
      · rintro ⟨k, hk, rfl⟩
        obtain ⟨h1, h2⟩ := idx_mem.1 hk
        have e : skip i k = k := by unfold skip; rw [if_pos (by omega)]
        rw [e]
        exact ⟨⟨h1, h2⟩, by omega⟩
      · rintro ⟨⟨h1, h2⟩, h3⟩
        have e : skip i a = a := by unfold skip; rw [if_pos (by omega)]
        exact ⟨a, idx_mem.2 ⟨h1, h2⟩, e⟩
theorem less_good {F : Furn} (hF : F.Ok) {m : Nat} {x : List Int} (h : Good F m x) (i : Nat) (hi : i < F.l.length) : Good (lessF F i) m (x.eraseIdx i) := by
  refine ⟨?_, fun y hy => h.rng y (List.mem_of_mem_eraseIdx hy), fun j => ?_⟩
  · rw [List.length_eraseIdx_of_lt (by rw [h.len]; exact hi)]
    show _ = (F.l.eraseIdx i).length
    rw [List.length_eraseIdx_of_lt hi, h.len]
  · rw [less_goes, less_idx]
    exact goesI_sub hF List.filter_sublist (h.goes j)
/-- A sign more, in a load of its own. -/
theorem more_good {F : Furn} (hF : F.Ok) {m : Nat} {x : List Int} (i : Nat) (hi : i < F.l.length) (h : Good (lessF F i) m x) (h1 : goesI F [i] = true) : Good F (m + 1) (x.take i ++ ((m : Nat) : Int) :: x.drop i) := by
  have hlen : x.length + 1 = F.l.length := by
    have := h.len
    have h2 : (lessF F i).l.length = F.l.length - 1 := List.length_eraseIdx_of_lt hi
    omega
  have hil : i ≤ x.length := by omega
  obtain ⟨y, hy⟩ : ∃ y, x.take i ++ ((m : Nat) : Int) :: x.drop i = y := ⟨_, rfl⟩
  rw [hy]
  have hyl : y.length = F.l.length := by rw [← hy]; simp; omega
  have hye : y.eraseIdx i = x := by
    rw [← hy, List.eraseIdx_append_of_length_le (by simp; omega)]
    have : i - (x.take i).length = 0 := by simp; omega
    rw [this]
    simp
  have hyi : rd y i = (m : Int) := by
    rw [rd_get (by omega)]
    subst hy
    rw [List.getElem_append_right (by simp; omega)]
    simp [show i - min i x.length = 0 by omega]
  refine ⟨hyl, fun z hz => ?_, fun j => ?_⟩
  · rw [← hy] at hz
    rcases List.mem_append.1 hz with hz | hz
    · have := h.rng z (List.mem_of_mem_take hz); omega
    · rcases List.mem_cons.1 hz with rfl | hz
      · omega
      · have := h.rng z (List.mem_of_mem_drop hz); omega
  · have hless := less_idx y i j
    rw [hye] at hless
    by_cases hj : j = m
    · have e : idx y j = [i] := by
        refine asc_ext (idx_asc _ _) (by simp) (fun a => ?_)
        rw [List.mem_singleton]
        constructor
        · intro ha
          rcases Classical.em (a = i) with h2 | h2
          · exact h2
          · have : a ∈ (idx y j).filter fun a => decide (a ≠ i) := List.mem_filter.2 ⟨ha, by simpa using h2⟩
            rw [← hless, idx_none h.rng (by omega)] at this
            cases this
        · rintro rfl
          exact idx_mem.2 ⟨by omega, by rw [hyi, hj]⟩
      rw [e]
      exact h1
    · have e : (idx y j).filter (fun a => decide (a ≠ i)) = idx y j := by
        rw [List.filter_eq_self]
        intro a ha
        rw [decide_eq_true_eq]
        rintro rfl
        have := (idx_mem.1 ha).2
        rw [hyi] at this
        exact hj this.symm
      rw [e] at hless
      rw [← hless, ← less_goes]
      exact h.goes j
theorem single_good {F : Furn} (hF : F.Ok) {m : Nat} {x : List Int} (h : Good F m x) (i : Nat) (hi : i < F.l.length) : goesI F [i] = true := by
  refine goesI_sub hF (asc_sub (by simp) (idx_asc x (rd x i)) ?_) (h.goes (rd x i))
  intro a ha
  obtain rfl := List.mem_singleton.1 ha
  exact idx_mem.2 ⟨by rw [h.len]; exact hi, rfl⟩
def countI (x : List Int) : Int := x.foldl (fun n y => mx n (y + 1)) 0
theorem countI_le (x : List Int) : ∀ (a m : Int), x.foldl (fun n y => mx n (y + 1)) a ≤ m ↔ a ≤ m ∧ ∀ y ∈ x, y + 1 ≤ m := by
  induction x with
  | nil => intro a m; simp
  | cons y x ih =>
    intro a m
    rw [List.foldl_cons, ih]
    have hm : mx a (y + 1) ≤ m ↔ a ≤ m ∧ y + 1 ≤ m := by unfold mx; split <;> omega
    rw [hm]
    simp only [List.mem_cons, forall_eq_or_imp]
    constructor
    · rintro ⟨⟨h1, h2⟩, h3⟩; exact ⟨h1, h2, h3⟩
    · rintro ⟨h1, h2, h3⟩; exact ⟨⟨h1, h2⟩, h3⟩
theorem countI_pos (x : List Int) : 0 ≤ countI x := by
  have := (countI_le x 0 (countI x)).1 (Int.le_refl _)
  exact this.1
theorem countI_lt (x : List Int) : ∀ y ∈ x, y < countI x := by
  have := (countI_le x 0 (countI x)).1 (Int.le_refl _)
  intro y hy
  have := this.2 y hy
  omega
/-- The fewest loads have no gap at the end: their count is the number. -/
theorem count_few {F : Furn} {m : Nat} {x : List Int} (h : Good F m x) (hmin : ∀ m', m' < m → ∀ x, ¬ Good F m' x) : countI x = m := by
  have h1 : countI x ≤ m := (countI_le x 0 m).2 ⟨by omega, fun y hy => by have := h.rng y hy; omega⟩
  have h0 := countI_pos x
  rcases Int.lt_or_eq_of_le h1 with h2 | h2
  · exact absurd (Good.mk h.len (fun y hy => ⟨(h.rng y hy).1, by have := countI_lt x y hy; omega⟩) h.goes : Good F (countI x).toNat x) (hmin _ (by omega) x)
  · exact h2
end Go.Proofs.YtbijamlgcebgeaaDoor.Hand

-- part QI
namespace Go.Proofs.YtbijamlgcebgeaaDoor.Q
open Go.RowKit Go.Proofs.YtbijamlgcebgeaaDoorW.PrintWords Go.Proofs.YtbijamlgcebgeaaDoorW.PrintLast Go.Proofs.YtbijamlgcebgeaaDoorW.PrintMore
attribute [local go_sem] max2_int min2_int max_two min_two max_three min_three max_four min_four
def smaltolaw03_up.l0 : Nat → List Int → Int → Int → Option (Bool)
  | 0, _, _, _ => none
  | k + 1, x0, x1, x5 => if x5 < (x0.length : Int) then (if 0 ≤ x5 then (if (rd x0 x5) < 0 then (some false) else (if (rd x0 x5) ≥ x1 then (some false) else (if x5 > 0 then (if 0 ≤ (wrap64 (x5 - 1)) then (if (wrap64 (x5 - 1)) < (x0.length : Int) then (if (rd x0 x5) ≤ (rd x0 (wrap64 (x5 - 1))) then (some false) else (smaltolaw03_up.l0 k x0 x1 (wrap64 (x5 + 1)))) else (none)) else (none)) else (smaltolaw03_up.l0 k x0 x1 (wrap64 (x5 + 1)))))) else (none)) else (some true)
def smaltolaw03_up.f (k : Nat) (l0 : List Int) (a1 : Int) : Option (Bool) := smaltolaw03_up.l0 k l0 a1 0
theorem smaltolaw03_up.mono_l : ∀ k, (∀ y0 y1 y2, LeO (smaltolaw03_up.l0 k y0 y1 y2) (smaltolaw03_up.l0 (k + 1) y0 y1 y2))
  | 0 => fun _ _ _ r h => by simp [smaltolaw03_up.l0] at h
  | k + 1 => by
    have ih0 := smaltolaw03_up.mono_l k
    · intro y0 y1 y2
      unfold smaltolaw03_up.l0
      repeat' first
      | (with_reducible exact ih0 _ _ _)
      | (with_reducible exact LeO.refl _)
      | (with_reducible exact LeO.none _)
      | (with_reducible refine LeO.ite ?_ ?_)
      | (with_reducible refine LeO.bind ?_ (fun _ => ?_))
      | exact ih0 _ _ _
      | exact LeO.none _
      | refine LeO.ite ?_ ?_
      | refine LeO.bind ?_ (fun _ => ?_)
theorem smaltolaw03_up.mono : ∀ a0 a1 k, LeO (smaltolaw03_up.f k a0 a1) (smaltolaw03_up.f (k + 1) a0 a1) := by
  intro a0 a1 k
  have ih0 := smaltolaw03_up.mono_l k
  unfold smaltolaw03_up.f
  repeat' first
      | (with_reducible exact ih0 _ _ _)
      | (with_reducible exact LeO.refl _)
      | (with_reducible exact LeO.none _)
      | (with_reducible refine LeO.ite ?_ ?_)
      | (with_reducible refine LeO.bind ?_ (fun _ => ?_))
      | exact ih0 _ _ _
      | exact LeO.none _
      | refine LeO.ite ?_ ?_
      | refine LeO.bind ?_ (fun _ => ?_)
set_option maxHeartbeats 8000000 in
set_option maxRecDepth 100000 in
theorem smaltolaw03_up.calls (k : Nat) (A0 : Option Addr) (c0 : Nat) (l0 : List Int) (a1 : Int) (r : Bool) (w : World) (hr0 : Kd.C (Kd.int .i64) w A0 l0.length l0) (hc0 : l0.length ≤ c0) (h : smaltolaw03_up.f k l0 a1 = some r) :
    Calls Tryd.prog 46 #[.slice A0 l0.length c0, .int .i64 a1] w fun e w' => e = .returned (.bool r) ∧ Drawn0 w w' := by
  have HR0 := Aside0.mk hr0
  have HC0 := Aside0.mk hc0
  clear hr0 hc0
  have H : (smaltolaw03_up.l0 k l0 a1 0) = some r := h
  clear h
  have H' := Aside0.mk H
  clear H
  go_enter Tryd.func46, Tryd.ntmps46
  go_wp2
  repeat (go_quiet (fail); try go_wp2)
  go_loopg [5] k (fun kq v5 w' => ∃ (x5_1 : Int), v5 = .int .i64 x5_1 ∧ Aside0 (smaltolaw03_up.l0 kq l0 a1 x5_1 = some r) ∧ Aside0 (kq ≤ k) ∧ Drawn0 w w')
  case atStart => exact ⟨(0), (by first | rfl | (simp; done) | (simp [*]; done)), H', ⟨Nat.le_refl _⟩, by repeat (first | exact Drawn0.refl _ | apply Drawn0.step)⟩
  case round =>
    clear H'
    try clear p2
    obtain ⟨x5_1, rfl, HA, HK1, ⟨m1, rfl⟩⟩ := hrel
    cases gk with
    | zero => exact absurd HA.out (by simp [smaltolaw03_up.l0])
    | succ k1 =>
      have H := HA.out
      clear HA
      simp only [smaltolaw03_up.l0] at H
      by_cases c3 : x5_1 < (l0.length : Int)
      · rw [if_pos c3] at H
        have c3b0 : decide (x5_1 < (l0.length : Int)) = true := decide_eq_true c3
        clear c3
        by_cases c4 : 0 ≤ x5_1
        · rw [if_pos c4] at H
          have c4b0 : decide (0 ≤ x5_1) = true := decide_eq_true c4
          clear c4
          by_cases c5 : (rd l0 x5_1) < 0
          · rw [if_pos c5] at H
            have c5b0 : decide ((rd l0 x5_1) < 0) = true := decide_eq_true c5
            clear c5
            obtain rfl := Option.some.inj H
            have p351 : 0 ≤ (x5_1 : Int) := of_decide_eq_true (by first | (with_reducible assumption) | assumption)
            have q351 : x5_1 < (l0.length : Int) := of_decide_eq_true (by first | (with_reducible assumption) | assumption)
            obtain ⟨ad351, e351, hx351_0⟩ := Kd.at_int HR0.out x5_1 p351 q351
            cases e351
            replace p351 := eq_true p351
            replace q351 := eq_true q351
            go_wp2
            repeat (go_quiet (fail); try go_wp2)
            go_ret
            exact ⟨by first | rfl | (simp; done) | (simp [*]; done), by repeat (first | exact Drawn0.refl _ | apply Drawn0.step)⟩
          · rw [if_neg c5] at H
            have c5b0 : decide ((rd l0 x5_1) < 0) = false := decide_eq_false c5
            clear c5
            by_cases c6 : (rd l0 x5_1) ≥ a1
            · rw [if_pos c6] at H
              have c6b0 : decide (a1 ≤ (rd l0 x5_1)) = true := decide_eq_true c6
              clear c6
              obtain rfl := Option.some.inj H
              have p351 : 0 ≤ (x5_1 : Int) := of_decide_eq_true (by first | (with_reducible assumption) | assumption)
              have q351 : x5_1 < (l0.length : Int) := of_decide_eq_true (by first | (with_reducible assumption) | assumption)
              obtain ⟨ad351, e351, hx351_0⟩ := Kd.at_int HR0.out x5_1 p351 q351
              cases e351
              replace p351 := eq_true p351
              replace q351 := eq_true q351
              have p352 : 0 ≤ (x5_1 : Int) := of_decide_eq_true (by first | (with_reducible assumption) | assumption)
              have q352 : x5_1 < (l0.length : Int) := of_decide_eq_true (by first | (with_reducible assumption) | assumption)
              obtain ⟨ad352, e352, hx352_0⟩ := Kd.at_int HR0.out x5_1 p352 q352
              obtain rfl : ad351 = ad352 := (by injection e352)
              replace p352 := eq_true p352
              replace q352 := eq_true q352
              go_wp2
              repeat (go_quiet (fail); try go_wp2)
              go_ret
              exact ⟨by first | rfl | (simp; done) | (simp [*]; done), by repeat (first | exact Drawn0.refl _ | apply Drawn0.step)⟩
            · rw [if_neg c6] at H
              have c6b0 : decide (a1 ≤ (rd l0 x5_1)) = false := decide_eq_false c6
              clear c6
              by_cases c7 : x5_1 > 0
              · rw [if_pos c7] at H
                have c7b0 : decide (0 < x5_1) = true := decide_eq_true c7
                clear c7
                obtain ⟨ji8, hji8⟩ : ∃ j_ : Int, (wrap64 (x5_1 - 1)) = j_ := ⟨_, rfl⟩
                replace H : (if 0 ≤ (ji8) then (if (ji8) < (l0.length : Int) then (if (rd l0 x5_1) ≤ (rd l0 (ji8)) then (some false) else (smaltolaw03_up.l0 k1 l0 a1 (wrap64 (x5_1 + 1)))) else (none)) else (none)) = some r := by first | (rw [hji8] at H; exact H) | (simp only [hji8] at H ⊢; exact H)
                have hji8w : (IntKind.i64.wrap (x5_1 - 1)) = ji8 := (i64_w _).trans hji8
                by_cases c9 : 0 ≤ (ji8)
                · rw [if_pos c9] at H
                  have c9b0 : decide (0 ≤ (ji8)) = true := decide_eq_true c9
                  clear c9
                  by_cases c10 : (ji8) < (l0.length : Int)
                  · rw [if_pos c10] at H
                    have c10b0 : decide ((ji8) < (l0.length : Int)) = true := decide_eq_true c10
                    clear c10
                    by_cases c11 : (rd l0 x5_1) ≤ (rd l0 (ji8))
                    · rw [if_pos c11] at H
                      have c11b0 : decide ((rd l0 x5_1) ≤ (rd l0 (ji8))) = true := decide_eq_true c11
                      clear c11
                      obtain rfl := Option.some.inj H
                      have p351 : 0 ≤ (x5_1 : Int) := of_decide_eq_true (by first | (with_reducible assumption) | assumption)
                      have q351 : x5_1 < (l0.length : Int) := of_decide_eq_true (by first | (with_reducible assumption) | assumption)
                      obtain ⟨ad351, e351, hx351_0⟩ := Kd.at_int HR0.out x5_1 p351 q351
                      cases e351
                      replace p351 := eq_true p351
                      replace q351 := eq_true q351
                      have p352 : 0 ≤ (x5_1 : Int) := of_decide_eq_true (by first | (with_reducible assumption) | assumption)
                      have q352 : x5_1 < (l0.length : Int) := of_decide_eq_true (by first | (with_reducible assumption) | assumption)
                      obtain ⟨ad352, e352, hx352_0⟩ := Kd.at_int HR0.out x5_1 p352 q352
                      obtain rfl : ad351 = ad352 := (by injection e352)
                      replace p352 := eq_true p352
                      replace q352 := eq_true q352
                      have p353 : 0 ≤ (x5_1 : Int) := of_decide_eq_true (by first | (with_reducible assumption) | assumption)
                      have q353 : x5_1 < (l0.length : Int) := of_decide_eq_true (by first | (with_reducible assumption) | assumption)
                      obtain ⟨ad353, e353, hx353_0⟩ := Kd.at_int HR0.out x5_1 p353 q353
                      obtain rfl : ad351 = ad353 := (by injection e353)
                      replace p353 := eq_true p353
                      replace q353 := eq_true q353
                      have p354 : 0 ≤ ((ji8) : Int) := of_decide_eq_true (by first | (with_reducible assumption) | assumption)
                      have q354 : (ji8) < (l0.length : Int) := of_decide_eq_true (by first | (with_reducible assumption) | assumption)
                      obtain ⟨ad354, e354, hx354_0⟩ := Kd.at_int HR0.out (ji8) p354 q354
                      obtain rfl : ad351 = ad354 := (by injection e354)
                      replace p354 := eq_true p354
                      replace q354 := eq_true q354
                      go_wp2
                      repeat (go_quiet (fail); try go_wp2)
                      go_ret
                      exact ⟨by first | rfl | (simp; done) | (simp only [← hji8] <;> (first | rfl | simp)) | (simp [*]; done), by repeat (first | exact Drawn0.refl _ | apply Drawn0.step)⟩
                    · rw [if_neg c11] at H
                      have c11b0 : decide ((rd l0 x5_1) ≤ (rd l0 (ji8))) = false := decide_eq_false c11
                      clear c11
                      have H' := Aside0.mk H
                      clear H
                      have p351 : 0 ≤ (x5_1 : Int) := of_decide_eq_true (by first | (with_reducible assumption) | assumption)
                      have q351 : x5_1 < (l0.length : Int) := of_decide_eq_true (by first | (with_reducible assumption) | assumption)
                      obtain ⟨ad351, e351, hx351_0⟩ := Kd.at_int HR0.out x5_1 p351 q351
                      cases e351
                      replace p351 := eq_true p351
                      replace q351 := eq_true q351
                      have p352 : 0 ≤ (x5_1 : Int) := of_decide_eq_true (by first | (with_reducible assumption) | assumption)
                      have q352 : x5_1 < (l0.length : Int) := of_decide_eq_true (by first | (with_reducible assumption) | assumption)
                      obtain ⟨ad352, e352, hx352_0⟩ := Kd.at_int HR0.out x5_1 p352 q352
                      obtain rfl : ad351 = ad352 := (by injection e352)
                      replace p352 := eq_true p352
                      replace q352 := eq_true q352
                      have p353 : 0 ≤ (x5_1 : Int) := of_decide_eq_true (by first | (with_reducible assumption) | assumption)
                      have q353 : x5_1 < (l0.length : Int) := of_decide_eq_true (by first | (with_reducible assumption) | assumption)
                      obtain ⟨ad353, e353, hx353_0⟩ := Kd.at_int HR0.out x5_1 p353 q353
                      obtain rfl : ad351 = ad353 := (by injection e353)
                      replace p353 := eq_true p353
                      replace q353 := eq_true q353
                      have p354 : 0 ≤ ((ji8) : Int) := of_decide_eq_true (by first | (with_reducible assumption) | assumption)
                      have q354 : (ji8) < (l0.length : Int) := of_decide_eq_true (by first | (with_reducible assumption) | assumption)
                      obtain ⟨ad354, e354, hx354_0⟩ := Kd.at_int HR0.out (ji8) p354 q354
                      obtain rfl : ad351 = ad354 := (by injection e354)
                      replace p354 := eq_true p354
                      replace q354 := eq_true q354
                      go_wp2
                      repeat (go_quiet (fail); try go_wp2)
                      go_roundg k1
                      case measure => have := HK1.out; omega
                      case rel => exact ⟨(wrap64 (x5_1 + 1)), (by first | rfl | (simp; done) | (simp [*]; done)), H', ⟨by have := HK1.out; omega⟩, by repeat (first | exact Drawn0.refl _ | apply Drawn0.step)⟩
                  · rw [if_neg c10] at H
                    exact absurd H (by simp)
                · rw [if_neg c9] at H
                  exact absurd H (by simp)
              · rw [if_neg c7] at H
                have c7b0 : decide (0 < x5_1) = false := decide_eq_false c7
                clear c7
                have H' := Aside0.mk H
                clear H
                have p351 : 0 ≤ (x5_1 : Int) := of_decide_eq_true (by first | (with_reducible assumption) | assumption)
                have q351 : x5_1 < (l0.length : Int) := of_decide_eq_true (by first | (with_reducible assumption) | assumption)
                obtain ⟨ad351, e351, hx351_0⟩ := Kd.at_int HR0.out x5_1 p351 q351
                cases e351
                replace p351 := eq_true p351
                replace q351 := eq_true q351
                have p352 : 0 ≤ (x5_1 : Int) := of_decide_eq_true (by first | (with_reducible assumption) | assumption)
                have q352 : x5_1 < (l0.length : Int) := of_decide_eq_true (by first | (with_reducible assumption) | assumption)
                obtain ⟨ad352, e352, hx352_0⟩ := Kd.at_int HR0.out x5_1 p352 q352
                obtain rfl : ad351 = ad352 := (by injection e352)
                replace p352 := eq_true p352
                replace q352 := eq_true q352
                go_wp2
                repeat (go_quiet (fail); try go_wp2)
                go_roundg k1
                case measure => have := HK1.out; omega
                case rel => exact ⟨(wrap64 (x5_1 + 1)), (by first | rfl | (simp; done) | (simp [*]; done)), H', ⟨by have := HK1.out; omega⟩, by repeat (first | exact Drawn0.refl _ | apply Drawn0.step)⟩
        · rw [if_neg c4] at H
          exact absurd H (by simp)
      · rw [if_neg c3] at H
        have c3b0 : decide (x5_1 < (l0.length : Int)) = false := decide_eq_false c3
        clear c3
        obtain rfl := Option.some.inj H
        go_wp2
        repeat (go_quiet (fail); try go_wp2)
        go_ret
        exact ⟨by first | rfl | (simp; done) | (simp [*]; done), by repeat (first | exact Drawn0.refl _ | apply Drawn0.step)⟩
def smaltolaw03_of.l0 : Nat → List Int → Int → List Int → Int → Option (List Int)
  | 0, _, _, _, _ => none
  | k + 1, x0, x1, x5, x6 => if x6 < (x0.length : Int) then (if 0 ≤ x6 then (if (rd x0 x6) = x1 then (if x5.length < 17592186044416 then (smaltolaw03_of.l0 k x0 x1 (x5 ++ [x6]) (wrap64 (x6 + 1))) else (none)) else (smaltolaw03_of.l0 k x0 x1 x5 (wrap64 (x6 + 1)))) else (none)) else (some x5)
def smaltolaw03_of.f (k : Nat) (l0 : List Int) (a1 : Int) : Option (List Int) := smaltolaw03_of.l0 k l0 a1 (([] : List Int)) 0
theorem smaltolaw03_of.mono_l : ∀ k, (∀ y0 y1 y2 y3, LeO (smaltolaw03_of.l0 k y0 y1 y2 y3) (smaltolaw03_of.l0 (k + 1) y0 y1 y2 y3))
  | 0 => fun _ _ _ _ r h => by simp [smaltolaw03_of.l0] at h
  | k + 1 => by
    have ih0 := smaltolaw03_of.mono_l k
    · intro y0 y1 y2 y3
      unfold smaltolaw03_of.l0
      repeat' first
      | (with_reducible exact ih0 _ _ _ _)
      | (with_reducible exact LeO.refl _)
      | (with_reducible exact LeO.none _)
      | (with_reducible refine LeO.ite ?_ ?_)
      | (with_reducible refine LeO.bind ?_ (fun _ => ?_))
      | exact ih0 _ _ _ _
      | exact LeO.none _
      | refine LeO.ite ?_ ?_
      | refine LeO.bind ?_ (fun _ => ?_)
theorem smaltolaw03_of.mono : ∀ a0 a1 k, LeO (smaltolaw03_of.f k a0 a1) (smaltolaw03_of.f (k + 1) a0 a1) := by
  intro a0 a1 k
  have ih0 := smaltolaw03_of.mono_l k
  unfold smaltolaw03_of.f
  repeat' first
      | (with_reducible exact ih0 _ _ _ _)
      | (with_reducible exact LeO.refl _)
      | (with_reducible exact LeO.none _)
      | (with_reducible refine LeO.ite ?_ ?_)
      | (with_reducible refine LeO.bind ?_ (fun _ => ?_))
      | exact ih0 _ _ _ _
      | exact LeO.none _
      | refine LeO.ite ?_ ?_
      | refine LeO.bind ?_ (fun _ => ?_)
set_option maxHeartbeats 8000000 in
set_option maxRecDepth 100000 in
theorem smaltolaw03_of.calls (k : Nat) (A0 : Option Addr) (c0 : Nat) (l0 : List Int) (a1 : Int) (r : List Int) (w : World) (hr0 : Kd.C (Kd.int .i64) w A0 l0.length l0) (hc0 : l0.length ≤ c0) (h : smaltolaw03_of.f k l0 a1 = some r) :
    Calls Tryd.prog 47 #[.slice A0 l0.length c0, .int .i64 a1] w fun e w' => ∃ v0_ : Value, e = .returned (v0_) ∧ Kd.R (Kd.int .i64) 3 w' w.heap.size (fun _ => True) v0_ r ∧ Below w.heap.size w w' := by
  have HR0 := Aside0.mk hr0
  have HC0 := Aside0.mk hc0
  clear hr0 hc0
  have HB := Aside0.mk (Below.refl w.heap.size w)
  have H : (smaltolaw03_of.l0 k l0 a1 (([] : List Int)) 0) = some r := h
  clear h
  obtain ⟨y355, hy355⟩ : ∃ y_ : List Int, y_ = (([] : List Int)) := ⟨_, rfl⟩
  replace H : (smaltolaw03_of.l0 k l0 a1 y355 0) = some r := by first | (rw [hy355]; with_reducible exact H) | (have H2_ := (Option.bind_some _ _).symm.trans H; rw [hy355]; with_reducible exact H2_) | (have H2_ := (Option.bind_some _ _).symm.trans H; with_reducible exact H2_) | with_reducible exact H | (rw [hy355]; exact H) | exact H
  have Ny355 := Aside0.mk hy355
  clear hy355
  have H' := Aside0.mk H
  clear H
  go_enter Tryd.func47, Tryd.ntmps47
  go_wp2_with (first | ((with_reducible refine gate_dst (N := 7) rfl ?_); refine Kd.R_lit (Kd.int .i64) _ 3 ?hg (N := 7) ?hd (xs := ([] : List Int)) (inner := []) (ok := fun _ => True) (okp := fun _ => True) ?hr ?hp (fun _ hk => hk) trivial (Below.refl _ _) (Nat.le_refl _) (by simp) ?_; (case hd => rfl); (case hg => rfl); (case hr => first | (go_simp; done) | (go_simp; rfl)); (case hp => exact (Reps.none _ _)); intro v356 w3 ho4 hb hg_ hnew_; clear hg_ hnew_; (first | rw [← Ny355.out] at ho4 | (simp only [Int.reduceToNat] at ho4; rw [← Ny355.out] at ho4)); have n0_ := Aside0.mk (Kd.R_lower ho4 (below_size (by repeat (first | (with_reducible first | exact HB.out | apply below_alloc | apply pw_below_drewN | apply below_drew1) | exact HB.out)))); have n1_ := Aside0.mk (below_step (by repeat (first | (with_reducible first | exact HB.out | apply below_alloc | apply pw_below_drewN | apply below_drew1) | exact HB.out)) hb); clear HB; have HO357 := n0_; have HB := n1_; clear n0_ n1_; clear hb ho4))
  go_loopg [5, 6] k (fun kq v5 v6 w' => ∃ (x5_1 : List Int) (x6_1 : Int), v6 = .int .i64 x6_1 ∧ Aside0 (smaltolaw03_of.l0 kq l0 a1 x5_1 x6_1 = some r) ∧ Aside0 (kq ≤ k) ∧ Aside0 (Kd.R (Kd.int .i64) 3 w' w.heap.size (fun _ => True) v5 x5_1) ∧ Aside0 (Below w.heap.size w w'))
  case atStart => exact ⟨(y355), (0), (by first | rfl | (simp; done) | (simp [*]; done)), H', ⟨Nat.le_refl _⟩, ⟨by (with_reducible repeat (first | apply Kd.R_alloc | apply Kd.R_drewN | apply Kd.R_drew)); exact HO357.out⟩, ⟨by repeat (first | (with_reducible first | exact HB.out | apply below_alloc | apply pw_below_drewN | apply below_drew1) | exact HB.out)⟩⟩
  case round =>
    clear H'
    try clear p2
    try clear c4
    obtain ⟨x5_1, x6_1, rfl, HA, HK1, HO_5, HB⟩ := hrel
    cases gk with
    | zero => exact absurd HA.out (by simp [smaltolaw03_of.l0])
    | succ k1 =>
      have H := HA.out
      clear HA
      simp only [smaltolaw03_of.l0] at H
      by_cases c5 : x6_1 < (l0.length : Int)
      · rw [if_pos c5] at H
        have c5b0 : decide (x6_1 < (l0.length : Int)) = true := decide_eq_true c5
        clear c5
        by_cases c6 : 0 ≤ x6_1
        · rw [if_pos c6] at H
          have c6b0 : decide (0 ≤ x6_1) = true := decide_eq_true c6
          clear c6
          by_cases c7 : (rd l0 x6_1) = a1
          · rw [if_pos c7] at H
            have c7b0 : ((rd l0 x6_1) == a1) = true := beq_iff_eq.mpr c7
            have c7b1 : ((rd l0 x6_1) != a1) = false := bne_eq_false_iff_eq.mpr c7
            clear c7
            by_cases c8 : x5_1.length < 17592186044416
            · rw [if_pos c8] at H
              have LMc8 := Aside0.mk c8
              clear c8
              obtain ⟨y359, hy359⟩ : ∃ y_ : List Int, y_ = (x5_1 ++ [x6_1]) := ⟨_, rfl⟩
              replace H : (smaltolaw03_of.l0 k1 l0 a1 y359 (wrap64 (x6_1 + 1))) = some r := by first | (rw [hy359]; with_reducible exact H) | (have H2_ := (Option.bind_some _ _).symm.trans H; rw [hy359]; with_reducible exact H2_) | (have H2_ := (Option.bind_some _ _).symm.trans H; with_reducible exact H2_) | with_reducible exact H | (rw [hy359]; exact H) | exact H
              have Ny359 := Aside0.mk hy359
              clear hy359
              have H' := Aside0.mk H
              clear H
              have p358 : 0 ≤ (x6_1 : Int) := of_decide_eq_true (by first | (with_reducible assumption) | assumption)
              have q358 : x6_1 < (l0.length : Int) := of_decide_eq_true (by first | (with_reducible assumption) | assumption)
              obtain ⟨ad358, e358, hx358_0⟩ := Kd.at_int HR0.out x6_1 p358 q358
              cases e358
              replace hx358_0 := (HB.out.cell (World.block_lt_of_cell? w _ hx358_0)).trans hx358_0
              replace p358 := eq_true p358
              replace q358 := eq_true q358
              go_wp2_with (first | ((with_reducible refine gate_builtin (b := .append) (xs := #[.tmp 20, .tmp 22]) rfl ?_); at_builtin; refine Kd.R_append (Kd.int .i64) (w0 := w) w.heap.size rfl (.tmp 20) (.tmp 22) 25 3 (.int .i64 0) 8 rfl Tryd.underlying25 info3 rfl (by decide) (by omega) u5 x5_1 x6_1 [.int .i64 x6_1] (fun _ => True) (fun _ => False) rfl rfl ?aP (fun _ hk => hk.elim) ?aF ?aO ?aB ?aS ?aL ?_; (case aP => exact rfl); (case aB => exact (by repeat (first | (with_reducible first | exact HB.out | apply below_alloc | apply pw_below_drewN | apply below_drew1) | exact HB.out))); (case aF => exact (fun _ _ => trivial)); (case aO => exact (by (with_reducible repeat (first | apply Kd.R_alloc | apply Kd.R_drewN | apply Kd.R_drew)); exact HO_5.out)); (case aS => exact (below_size (by repeat (first | (with_reducible first | exact HB.out | apply below_alloc | apply pw_below_drewN | apply below_drew1) | exact HB.out)))); (case aL => have := LMc8.out; omega); intro v360 w9 ho hb hg hat; rw [← Ny359.out] at ho; have n0_ := Aside0.mk (hb); have n1_ := Aside0.mk (ho); clear HB; clear HO_5; have HB := n0_; have HO361 := n1_; clear n0_ n1_; clear ho hb hg hat))
              go_roundg k1
              case measure => have := HK1.out; omega
              case rel => exact ⟨(y359), (wrap64 (x6_1 + 1)), (by first | rfl | (simp; done) | (simp [*]; done)), H', ⟨by have := HK1.out; omega⟩, ⟨by (with_reducible repeat (first | apply Kd.R_alloc | apply Kd.R_drewN | apply Kd.R_drew)); exact HO361.out⟩, ⟨by repeat (first | (with_reducible first | exact HB.out | apply below_alloc | apply pw_below_drewN | apply below_drew1) | exact HB.out)⟩⟩
            · rw [if_neg c8] at H
              exact absurd H (by simp)
          · rw [if_neg c7] at H
            have c7b0 : ((rd l0 x6_1) == a1) = false := beq_eq_false_iff_ne.mpr c7
            have c7b1 : ((rd l0 x6_1) != a1) = true := bne_iff_ne.mpr c7
            have H' := Aside0.mk H
            clear H
            have p358 : 0 ≤ (x6_1 : Int) := of_decide_eq_true (by first | (with_reducible assumption) | assumption)
            have q358 : x6_1 < (l0.length : Int) := of_decide_eq_true (by first | (with_reducible assumption) | assumption)
            obtain ⟨ad358, e358, hx358_0⟩ := Kd.at_int HR0.out x6_1 p358 q358
            cases e358
            replace hx358_0 := (HB.out.cell (World.block_lt_of_cell? w _ hx358_0)).trans hx358_0
            replace p358 := eq_true p358
            replace q358 := eq_true q358
            go_wp2
            go_roundg k1
            case measure => have := HK1.out; omega
            case rel => exact ⟨(x5_1), (wrap64 (x6_1 + 1)), (by first | rfl | (simp; done) | (simp [*]; done)), H', ⟨by have := HK1.out; omega⟩, ⟨by (with_reducible repeat (first | apply Kd.R_alloc | apply Kd.R_drewN | apply Kd.R_drew)); exact HO_5.out⟩, ⟨by repeat (first | (with_reducible first | exact HB.out | apply below_alloc | apply pw_below_drewN | apply below_drew1) | exact HB.out)⟩⟩
        · rw [if_neg c6] at H
          exact absurd H (by simp)
      · rw [if_neg c5] at H
        have c5b0 : decide (x6_1 < (l0.length : Int)) = false := decide_eq_false c5
        clear c5
        obtain rfl := Option.some.inj H
        go_wp2
        go_ret
        exact ⟨_, by first | rfl | (simp [errW_none, errW_some] <;> rfl) | (simp [*, errW_none, errW_some] <;> rfl), by (with_reducible repeat (first | apply Kd.R_alloc | apply Kd.R_drewN | apply Kd.R_drew)); exact HO_5.out, by repeat (first | (with_reducible first | exact HB.out | apply below_alloc | apply pw_below_drewN | apply below_drew1) | exact HB.out)⟩
end Go.Proofs.YtbijamlgcebgeaaDoor.Q

-- part QJ
namespace Go.Proofs.YtbijamlgcebgeaaDoor.Q
open Go.RowKit Go.Proofs.YtbijamlgcebgeaaDoorW.PrintWords Go.Proofs.YtbijamlgcebgeaaDoorW.PrintLast Go.Proofs.YtbijamlgcebgeaaDoorW.PrintMore
attribute [local go_sem] max2_int min2_int max_two min_two max_three min_three max_four min_four
def smaltolaw03_count.l0 : Nat → List Int → Int → Int → Option (Int)
  | 0, _, _, _ => none
  | k + 1, x0, x3, x4 => if x4 < (x0.length : Int) then (if 0 ≤ x4 then (smaltolaw03_count.l0 k x0 (mx x3 (wrap64 ((rd x0 x4) + 1))) (wrap64 (x4 + 1))) else (none)) else (some x3)
def smaltolaw03_count.f (k : Nat) (l0 : List Int) : Option (Int) := smaltolaw03_count.l0 k l0 0 0
theorem smaltolaw03_count.mono_l : ∀ k, (∀ y0 y1 y2, LeO (smaltolaw03_count.l0 k y0 y1 y2) (smaltolaw03_count.l0 (k + 1) y0 y1 y2))
  | 0 => fun _ _ _ r h => by simp [smaltolaw03_count.l0] at h
  | k + 1 => by
    have ih0 := smaltolaw03_count.mono_l k
    · intro y0 y1 y2
      unfold smaltolaw03_count.l0
      repeat' first
      | (with_reducible exact ih0 _ _ _)
      | (with_reducible exact LeO.refl _)
      | (with_reducible exact LeO.none _)
      | (with_reducible refine LeO.ite ?_ ?_)
      | (with_reducible refine LeO.bind ?_ (fun _ => ?_))
      | exact ih0 _ _ _
      | exact LeO.none _
      | refine LeO.ite ?_ ?_
      | refine LeO.bind ?_ (fun _ => ?_)
theorem smaltolaw03_count.mono : ∀ a0 k, LeO (smaltolaw03_count.f k a0) (smaltolaw03_count.f (k + 1) a0) := by
  intro a0 k
  have ih0 := smaltolaw03_count.mono_l k
  unfold smaltolaw03_count.f
  repeat' first
      | (with_reducible exact ih0 _ _ _)
      | (with_reducible exact LeO.refl _)
      | (with_reducible exact LeO.none _)
      | (with_reducible refine LeO.ite ?_ ?_)
      | (with_reducible refine LeO.bind ?_ (fun _ => ?_))
      | exact ih0 _ _ _
      | exact LeO.none _
      | refine LeO.ite ?_ ?_
      | refine LeO.bind ?_ (fun _ => ?_)
set_option maxHeartbeats 8000000 in
set_option maxRecDepth 100000 in
theorem smaltolaw03_count.calls (k : Nat) (A0 : Option Addr) (c0 : Nat) (l0 : List Int) (r : Int) (w : World) (hr0 : Kd.C (Kd.int .i64) w A0 l0.length l0) (hc0 : l0.length ≤ c0) (h : smaltolaw03_count.f k l0 = some r) :
    Calls Tryd.prog 49 #[.slice A0 l0.length c0] w fun e w' => e = .returned (.int .i64 r) ∧ Below w.heap.size w w' := by
  have HR0 := Aside0.mk hr0
  have HC0 := Aside0.mk hc0
  clear hr0 hc0
  have HB := Aside0.mk (Below.refl w.heap.size w)
  have H : (smaltolaw03_count.l0 k l0 0 0) = some r := h
  clear h
  have H' := Aside0.mk H
  clear H
  go_enter Tryd.func49, Tryd.ntmps49
  go_wp2
  go_loopg [3, 4] k (fun kq v3 v4 w' => ∃ (x3_1 : Int) (x4_1 : Int), v3 = .int .i64 x3_1 ∧ v4 = .int .i64 x4_1 ∧ Aside0 (smaltolaw03_count.l0 kq l0 x3_1 x4_1 = some r) ∧ Aside0 (kq ≤ k) ∧ Aside0 (Below w.heap.size w w'))
  case atStart => exact ⟨(0), (0), (by first | rfl | (simp; done) | (simp [*]; done)), (by first | rfl | (simp; done) | (simp [*]; done)), H', ⟨Nat.le_refl _⟩, ⟨by repeat (first | (with_reducible first | exact HB.out | apply below_alloc | apply pw_below_drewN | apply below_drew1) | exact HB.out)⟩⟩
  case round =>
    clear H'
    obtain ⟨x3_1, x4_1, rfl, rfl, HA, HK1, HB⟩ := hrel
    cases gk with
    | zero => exact absurd HA.out (by simp [smaltolaw03_count.l0])
    | succ k1 =>
      have H := HA.out
      clear HA
      simp only [smaltolaw03_count.l0] at H
      by_cases c2 : x4_1 < (l0.length : Int)
      · rw [if_pos c2] at H
        have c2b0 : decide (x4_1 < (l0.length : Int)) = true := decide_eq_true c2
        clear c2
        by_cases c3 : 0 ≤ x4_1
        · rw [if_pos c3] at H
          have c3b0 : decide (0 ≤ x4_1) = true := decide_eq_true c3
          clear c3
          obtain ⟨ji4, hji4⟩ : ∃ j_ : Int, (mx x3_1 (wrap64 ((rd l0 x4_1) + 1))) = j_ := ⟨_, rfl⟩
          replace H : (smaltolaw03_count.l0 k1 l0 ji4 (wrap64 (x4_1 + 1))) = some r := by first | (rw [hji4] at H; exact H) | (simp only [hji4] at H ⊢; exact H)
          have hji4_ : (if x3_1 < (wrap64 ((rd l0 x4_1) + 1)) then (wrap64 ((rd l0 x4_1) + 1)) else x3_1) = ji4 := hji4
          have H' := Aside0.mk H
          clear H
          have p363 : 0 ≤ (x4_1 : Int) := of_decide_eq_true (by first | (with_reducible assumption) | assumption)
          have q363 : x4_1 < (l0.length : Int) := of_decide_eq_true (by first | (with_reducible assumption) | assumption)
          obtain ⟨ad363, e363, hx363_0⟩ := Kd.at_int HR0.out x4_1 p363 q363
          cases e363
          replace hx363_0 := (HB.out.cell (World.block_lt_of_cell? w _ hx363_0)).trans hx363_0
          replace p363 := eq_true p363
          replace q363 := eq_true q363
          go_wp2
          go_roundg k1
          case measure => have := HK1.out; omega
          case rel => exact ⟨(ji4), (wrap64 (x4_1 + 1)), (by first | rfl | (simp; done) | (simp only [← hji4] <;> (first | rfl | simp)) | (simp [*]; done)), (by first | rfl | (simp; done) | (simp [*]; done)), H', ⟨by have := HK1.out; omega⟩, ⟨by repeat (first | (with_reducible first | exact HB.out | apply below_alloc | apply pw_below_drewN | apply below_drew1) | exact HB.out)⟩⟩
        · rw [if_neg c3] at H
          exact absurd H (by simp)
      · rw [if_neg c2] at H
        have c2b0 : decide (x4_1 < (l0.length : Int)) = false := decide_eq_false c2
        clear c2
        obtain rfl := Option.some.inj H
        go_wp2
        go_ret
        exact ⟨by first | rfl | (simp [errW_none, errW_some] <;> rfl) | (simp [*, errW_none, errW_some] <;> rfl), by repeat (first | (with_reducible first | exact HB.out | apply below_alloc | apply pw_below_drewN | apply below_drew1) | exact HB.out)⟩
end Go.Proofs.YtbijamlgcebgeaaDoor.Q

-- part QK
namespace Go.Proofs.YtbijamlgcebgeaaDoor.Q
open Go.RowKit Go.Proofs.YtbijamlgcebgeaaDoorW.PrintWords Go.Proofs.YtbijamlgcebgeaaDoorW.PrintLast Go.Proofs.YtbijamlgcebgeaaDoorW.PrintMore Go.Proofs.YtbijamlgcebgeaaDoor.Hand
structure S63 where
  f0 : Int
  f1 : Int
  f2 : Int
  f3 : Int
  f4 : Int
def z63 : S63 := ⟨(0 : Int), (0 : Int), (0 : Int), (0 : Int), (0 : Int)⟩
def k63 : Kd S63 := Kd.iso (Kd.pair (Kd.int .u8) (Kd.pair (Kd.int .u8) (Kd.pair (Kd.int .u8) (Kd.pair (Kd.int .u8) (Kd.int .u8))))) (fun x : S63 => (x.f0, x.f1, x.f2, x.f3, x.f4))
theorem k63_open {w : World} {x : S63} {cs : List Value} (h : k63.K w x cs) : cs = [.int .u8 x.f0, .int .u8 x.f1, .int .u8 x.f2, .int .u8 x.f3, .int .u8 x.f4] := by
  obtain ⟨_, _, rfl, rfl, ⟨_, _, rfl, rfl, ⟨_, _, rfl, rfl, ⟨_, _, rfl, rfl, rfl⟩⟩⟩⟩ := h
  exact rfl
theorem k63_mk (w : World) (x : S63)  : k63.K w x [.int .u8 x.f0, .int .u8 x.f1, .int .u8 x.f2, .int .u8 x.f3, .int .u8 x.f4] := ⟨[.int .u8 x.f0], [.int .u8 x.f1, .int .u8 x.f2, .int .u8 x.f3, .int .u8 x.f4], rfl, rfl, ⟨[.int .u8 x.f1], [.int .u8 x.f2, .int .u8 x.f3, .int .u8 x.f4], rfl, rfl, ⟨[.int .u8 x.f2], [.int .u8 x.f3, .int .u8 x.f4], rfl, rfl, ⟨[.int .u8 x.f3], [.int .u8 x.f4], rfl, rfl, rfl⟩⟩⟩⟩
def putI (a b c d e : Int) (l : List S74) (m : List Int) : List Int × Int × Int := ((putR a b c d e l m).1, (((putR a b c d e l m).2.1 : Nat) : Int), (putR a b c d e l m).2.2)
def fork_Loads.f (a0_0 : Int) (a0_1 : Int) (a0_2 : Int) (a0_3 : Int) (a0_4 : Int) (l1 : List (S74)) : Option (List Int × Int) := some (loadsR a0_0 a0_1 a0_2 a0_3 a0_4 l1)
theorem fork_Loads.calls (a0_0 : Int) (a0_1 : Int) (a0_2 : Int) (a0_3 : Int) (a0_4 : Int) (A1 : Option Addr) (c1 : Nat) (l1 : List (S74)) (r1 : List Int) (r2 : Int) (w : World) (hT : TabW w) (hr1 : Kd.C k74 w A1 l1.length l1) (hc1 : l1.length ≤ c1) (h : fork_Loads.f a0_0 a0_1 a0_2 a0_3 a0_4 l1 = some (r1, r2)) :
    Calls Tryd.prog 31 #[.agg #[.int .i64 a0_0, .int .i64 a0_1, .int .i64 a0_2, .int .i64 a0_3, .int .i64 a0_4], .slice A1 l1.length c1] w fun e w' => ∃ v0_ : Value, e = .returned (.tuple #[v0_, .int .i64 r2]) ∧ Kd.R (Kd.int .i64) 3 w' w.heap.size (fun _ => True) v0_ r1 ∧ Below w.heap.size w w' := by
  have hx := loads_exp a0_0 a0_1 a0_2 a0_3 a0_4 l1 A1 c1 w hT hr1
  simp only [fork_Loads.f, Option.some.injEq] at h
  rw [h] at hx
  exact hx
def fork_Put.f (a0_0 : Int) (a0_1 : Int) (a0_2 : Int) (a0_3 : Int) (a0_4 : Int) (l1 : List (S74)) (l2 : List Int) : Option (List Int × Int × Int) := some (putI a0_0 a0_1 a0_2 a0_3 a0_4 l1 l2)
theorem fork_Put.calls (a0_0 : Int) (a0_1 : Int) (a0_2 : Int) (a0_3 : Int) (a0_4 : Int) (A1 : Option Addr) (c1 : Nat) (l1 : List (S74)) (A2 : Option Addr) (c2 : Nat) (l2 : List Int) (r1 : List Int) (r2 : Int) (r3 : Int) (w : World) (hT : TabW w) (hr1 : Kd.C k74 w A1 l1.length l1) (hc1 : l1.length ≤ c1) (hr2 : Kd.C (Kd.int .i64) w A2 l2.length l2) (hc2 : l2.length ≤ c2) (h : fork_Put.f a0_0 a0_1 a0_2 a0_3 a0_4 l1 l2 = some (r1, r2, r3)) :
    Calls Tryd.prog 38 #[.agg #[.int .i64 a0_0, .int .i64 a0_1, .int .i64 a0_2, .int .i64 a0_3, .int .i64 a0_4], .slice A1 l1.length c1, .slice A2 l2.length c2] w fun e w' => ∃ v0_ : Value, e = .returned (.tuple #[v0_, .int .i64 r2, .int .i64 r3]) ∧ Kd.R (Kd.int .i64) 3 w' w.heap.size (fun _ => True) v0_ r1 ∧ Below w.heap.size w w' := by
  have hx := put_exp a0_0 a0_1 a0_2 a0_3 a0_4 l1 l2 A1 A2 c1 c2 w hT hr1 hr2
  simp only [fork_Put.f, putI, Prod.mk.injEq, Option.some.injEq] at h
  rw [h.1, h.2.1, h.2.2] at hx
  exact hx
def goesC.f (a0_0 : Int) (a0_1 : Int) (a0_2 : Int) (a0_3 : Int) (a0_4 : Int) (l1 : List (S74)) (l2 : List Int) : Option (Bool × Bool) := if (goesR a0_0 a0_1 a0_2 a0_3 a0_4 l1 l2).2.2 = 0 then some ((goesR a0_0 a0_1 a0_2 a0_3 a0_4 l1 l2).1, (goesR a0_0 a0_1 a0_2 a0_3 a0_4 l1 l2).2.1) else none
theorem goesC.calls (a0_0 : Int) (a0_1 : Int) (a0_2 : Int) (a0_3 : Int) (a0_4 : Int) (A1 : Option Addr) (c1 : Nat) (l1 : List (S74)) (A2 : Option Addr) (c2 : Nat) (l2 : List Int) (r1 : Bool) (r2 : Bool) (w : World) (hT : TabW w) (hr1 : Kd.C k74 w A1 l1.length l1) (hc1 : l1.length ≤ c1) (hr2 : Kd.C (Kd.int .i64) w A2 l2.length l2) (hc2 : l2.length ≤ c2) (h : goesC.f a0_0 a0_1 a0_2 a0_3 a0_4 l1 l2 = some (r1, r2)) :
    Calls Tryd.prog 17 #[.agg #[.int .i64 a0_0, .int .i64 a0_1, .int .i64 a0_2, .int .i64 a0_3, .int .i64 a0_4], .slice A1 l1.length c1, .slice A2 l2.length c2] w fun e w' => e = .returned (.tuple #[.bool r1, .bool r2, .int .i64 0]) ∧ Below w.heap.size w w' := by
  have hx := goes_exp a0_0 a0_1 a0_2 a0_3 a0_4 l1 l2 A1 A2 c1 c2 w hT hr1 hr2
  unfold goesC.f at h
  split at h
  · rename_i h0
    simp only [Option.some.injEq, Prod.mk.injEq] at h
    rw [h0, h.1, h.2] at hx
    exact hx
  · cases h
def stillC.f (a0_0 : Int) (a0_1 : Int) (a0_2 : Int) (a0_3 : Int) (a0_4 : Int) (l1 : List (S74)) (l2 : List Int) : Option (List Int) := if (stillR a0_0 a0_1 a0_2 a0_3 a0_4 l1 l2).2 = 0 then some (stillR a0_0 a0_1 a0_2 a0_3 a0_4 l1 l2).1 else none
theorem stillC.calls (a0_0 : Int) (a0_1 : Int) (a0_2 : Int) (a0_3 : Int) (a0_4 : Int) (A1 : Option Addr) (c1 : Nat) (l1 : List (S74)) (A2 : Option Addr) (c2 : Nat) (l2 : List Int) (r1 : List Int) (w : World) (hT : TabW w) (hr1 : Kd.C k74 w A1 l1.length l1) (hc1 : l1.length ≤ c1) (hr2 : Kd.C (Kd.int .i64) w A2 l2.length l2) (hc2 : l2.length ≤ c2) (h : stillC.f a0_0 a0_1 a0_2 a0_3 a0_4 l1 l2 = some r1) :
    Calls Tryd.prog 27 #[.agg #[.int .i64 a0_0, .int .i64 a0_1, .int .i64 a0_2, .int .i64 a0_3, .int .i64 a0_4], .slice A1 l1.length c1, .slice A2 l2.length c2] w fun e w' => ∃ v0_ : Value, e = .returned (.tuple #[v0_, .int .i64 0]) ∧ Kd.R (Kd.int .i64) 3 w' w.heap.size (fun _ => True) v0_ r1 ∧ Below w.heap.size w w' := by
  have hx := still_exp a0_0 a0_1 a0_2 a0_3 a0_4 l1 l2 A1 A2 c1 c2 w hT hr1 hr2
  unfold stillC.f at h
  split at h
  · rename_i h0
    simp only [Option.some.injEq] at h
    rw [h0, h] at hx
    exact hx
  · cases h
def apartC.f (a0_0 : Int) (a0_1 : Int) (a0_2 : Int) (a0_3 : Int) (a0_4 : Int) (l1 : List (S74)) : Option (List Int) := if (apartR a0_0 a0_1 a0_2 a0_3 a0_4 l1).2 = 0 then some (apartR a0_0 a0_1 a0_2 a0_3 a0_4 l1).1 else none
theorem apartC.calls (a0_0 : Int) (a0_1 : Int) (a0_2 : Int) (a0_3 : Int) (a0_4 : Int) (A1 : Option Addr) (c1 : Nat) (l1 : List (S74)) (r1 : List Int) (w : World) (hT : TabW w) (hr1 : Kd.C k74 w A1 l1.length l1) (hc1 : l1.length ≤ c1) (h : apartC.f a0_0 a0_1 a0_2 a0_3 a0_4 l1 = some r1) :
    Calls Tryd.prog 36 #[.agg #[.int .i64 a0_0, .int .i64 a0_1, .int .i64 a0_2, .int .i64 a0_3, .int .i64 a0_4], .slice A1 l1.length c1] w fun e w' => ∃ v0_ : Value, e = .returned (.tuple #[v0_, .int .i64 0]) ∧ Kd.R (Kd.int .i64) 3 w' w.heap.size (fun _ => True) v0_ r1 ∧ Below w.heap.size w w' := by
  have hx := apart_exp a0_0 a0_1 a0_2 a0_3 a0_4 l1 A1 c1 w hT hr1
  unfold apartC.f at h
  split at h
  · rename_i h0
    simp only [Option.some.injEq] at h
    rw [h0, h] at hx
    exact hx
  · cases h
def knownC.f : Option Unit := some ()
theorem knownC.calls (w : World) (hT : TabW w) (h : knownC.f = some ()) : Calls Tryd.prog 13 #[] w fun e w' => e = .returned (.bool true) ∧ Below w.heap.size w w' := known_calls w hT
def upC.f (k : Nat) (l0 : List Int) (a1 : Int) : Option Unit := if smaltolaw03_up.f k l0 a1 = some true then some () else none
theorem upC.mono : ∀ a0 a1 k, LeO (upC.f k a0 a1) (upC.f (k + 1) a0 a1) := by
  intro a0 a1 k r h
  unfold upC.f at h ⊢
  split at h
  · rename_i h0
    exact (if_pos (smaltolaw03_up.mono a0 a1 k _ h0)).trans h
  · cases h
theorem upC.calls (k : Nat) (A0 : Option Addr) (c0 : Nat) (l0 : List Int) (a1 : Int) (w : World) (hr0 : Kd.C (Kd.int .i64) w A0 l0.length l0) (hc0 : l0.length ≤ c0) (h : upC.f k l0 a1 = some ()) :
    Calls Tryd.prog 46 #[.slice A0 l0.length c0, .int .i64 a1] w fun e w' => e = .returned (.bool true) ∧ Drawn0 w w' := by
  unfold upC.f at h
  split at h
  · rename_i h0
    exact smaltolaw03_up.calls k A0 c0 l0 a1 true w hr0 hc0 h0
  · cases h
/-- A variable that is a small array, read at an index. -/
theorem arr_cell (k : IntKind) (xs : List Int) (j : Int) (h0 : 0 ≤ j) (h1 : j < (xs.length : Int)) ⦃W : World⦄ ⦃g : Nat⦄ ⦃cs : Array Value⦄ ⦃t : Nat⦄ (h : W.heap[g]? = some (.cells cs t (0, 0))) (hcs : cs = (xs.map (Value.int k)).toArray) : W.cell? ⟨g, j.toNat, none⟩ = some (.int k (rd xs j)) := by
  rw [blk_cell h, hcs]
  unfold rd
  rw [List.getD_eq_getElem?_getD, List.getElem?_eq_getElem (show j.toNat < xs.length by omega)]
  simp [show j.toNat < xs.length by omega]
/-- A byte. -/
def byteB (a : Int) : Bool := decide (0 ≤ a) && decide (a < 256)
def okB5 (x : S63) : Bool := byteB x.f0 && byteB x.f1 && byteB x.f2 && byteB x.f3 && byteB x.f4
def b5 (x : S63) : B5 := ⟨x.f0.toNat, x.f1.toNat, x.f2.toNat, x.f3.toNat, x.f4.toNat⟩
theorem byteB_iff (a : Int) : byteB a = true ↔ 0 ≤ a ∧ a < 256 := by unfold byteB; simp
theorem byteB_ok {a : Int} (h : byteB a = true) : a.toNat < 256 ∧ ((a.toNat : Nat) : Int) = a := by rw [byteB_iff] at h; omega
theorem b5_ok {x : S63} (h : okB5 x = true) : (b5 x).Ok ∧ [.int .u8 x.f0, .int .u8 x.f1, .int .u8 x.f2, .int .u8 x.f3, .int .u8 x.f4] = (b5 x).cs := by
  unfold okB5 at h
  simp only [Bool.and_eq_true] at h
  obtain ⟨⟨⟨⟨h0, h1⟩, h2⟩, h3⟩, h4⟩ := h
  have e0 := byteB_ok h0
  have e1 := byteB_ok h1
  have e2 := byteB_ok h2
  have e3 := byteB_ok h3
  have e4 := byteB_ok h4
  refine ⟨⟨e0.1, e1.1, e2.1, e3.1, e4.1⟩, ?_⟩
  unfold B5.cs b5
  simp only [e0.2, e1.2, e2.2, e3.2, e4.2]
theorem readsB5 {w : World} {A : Option Addr} {l : List (S63)} (hr : Kd.C k63 w A l.length l) (hok : ∀ x ∈ l, okB5 x = true) : B5C w A l.length (l.map b5) := by
  obtain ⟨hl, hm, hc⟩ := hr
  refine ⟨by simp, hm, fun hn => ?_⟩
  obtain ⟨ad, e, hcell⟩ := hc hn
  refine ⟨ad, e, fun j p hj => ?_⟩
  rw [List.getElem?_map] at hj
  obtain ⟨y, hy, rfl⟩ := Option.map_eq_some_iff.1 hj
  obtain ⟨c, hs, hK, hu⟩ := hcell j y hy
  exact ⟨c, hs, (k63_open hK).trans (b5_ok (hok y (List.mem_of_getElem? hy))).2, hu⟩
def smaltolaw03_Rack_made.f (a0_0 : Int) (a0_1 : Int) (a0_2 : Int) (a0_3 : Int) (a0_4 : Int) (l0_5 : List (S63)) : Option (Int × Int × Int × Int × Int × List S74) :=
  if (okB5 ⟨a0_0, a0_1, a0_2, a0_3, a0_4⟩ && l0_5.all okB5) = true then some (((1 + a0_0.toNat % 3 : Nat) : Int), ((30 + a0_1.toNat % 100 : Nat) : Int), ((a0_2.toNat % 8 : Nat) : Int), ((40 + a0_3.toNat : Nat) : Int), ((a0_4.toNat % 40 : Nat) : Int), madeL (l0_5.map b5)) else none
theorem smaltolaw03_Rack_made.calls (a0_0 : Int) (a0_1 : Int) (a0_2 : Int) (a0_3 : Int) (a0_4 : Int) (A0_5 : Option Addr) (c0_5 : Nat) (l0_5 : List (S63)) (r1 : Int) (r2 : Int) (r3 : Int) (r4 : Int) (r5 : Int) (r6 : List S74) (w : World) (hr0_5 : Kd.C k63 w A0_5 l0_5.length l0_5) (hc0_5 : l0_5.length ≤ c0_5) (h : smaltolaw03_Rack_made.f a0_0 a0_1 a0_2 a0_3 a0_4 l0_5 = some (r1, r2, r3, r4, r5, r6)) :
    Calls Tryd.prog 41 #[.agg #[.int .u8 a0_0, .int .u8 a0_1, .int .u8 a0_2, .int .u8 a0_3, .int .u8 a0_4, .slice A0_5 l0_5.length c0_5]] w fun e w' => ∃ v5_ : Value, e = .returned (.tuple #[.agg #[.int .i64 r1, .int .i64 r2, .int .i64 r3, .int .i64 r4, .int .i64 r5], v5_]) ∧ Kd.R k74 74 w' w.heap.size (fun _ => True) v5_ r6 ∧ Below w.heap.size w w' := by
  unfold smaltolaw03_Rack_made.f at h
  split at h
  · rename_i hok
    simp only [Bool.and_eq_true, List.all_eq_true] at hok
    obtain ⟨h0, h1⟩ := hok
    simp only [Option.some.injEq, Prod.mk.injEq] at h
    obtain ⟨rfl, rfl, rfl, rfl, rfl, rfl⟩ := h
    obtain ⟨hx, hcs⟩ := b5_ok h0
    have hr : B5C w A0_5 (l0_5.map b5).length (l0_5.map b5) := by
      rw [List.length_map]
      exact readsB5 hr0_5 h1
    have hm := made_calls (b5 ⟨a0_0, a0_1, a0_2, a0_3, a0_4⟩) hx (l0_5.map b5) (fun v hv => by obtain ⟨y, hy, rfl⟩ := List.mem_map.1 hv; exact (b5_ok (h1 y hy)).1) A0_5 c0_5 (by rw [List.length_map]; exact hc0_5) w hr
    unfold B5.cs at hcs
    simp only [List.cons.injEq, and_true] at hcs
    obtain ⟨q0, q1, q2, q3, q4⟩ := hcs
    rw [← q0, ← q1, ← q2, ← q3, ← q4, List.length_map] at hm
    exact hm
  · cases h
end Go.Proofs.YtbijamlgcebgeaaDoor.Q

-- part PB
namespace Go.Proofs.YtbijamlgcebgeaaDoor.Hand
open Go.RowKit Go.Shelf Go.Sort Go.Proofs.YtbijamlgcebgeaaDoorW.PrintWords Go.Proofs.YtbijamlgcebgeaaDoorW.PrintMore Go.Proofs.YtbijamlgcebgeaaDoor.Q
/-- As a rewriting that leaves a proof: the kernel never compares what stands on both sides. -/
theorem bs {α β : Type} (a : α) (f : α → Option β) : (some a).bind f = f a := by
  have h : ∀ o : Option α, o = some a → o.bind f = f a := by intro o ho; subst ho; rfl
  exact h _ rfl
theorem own_f {l : List S74} (h : l.length ≤ 1000) : smaltolaw03_own.f l = some l := by
  simp only [smaltolaw03_own.f, Option.bind_some, List.nil_append, List.length_nil]
  rw [if_pos (by omega)]
theorem ints_f {l : List Int} (h : l.length ≤ 1000) : smaltolaw03_ints.f l = some l := by
  simp only [smaltolaw03_ints.f, Option.bind_some, List.nil_append, List.length_nil]
  rw [if_pos (by omega)]
theorem fold_take {x : List Int} {i : Nat} (hi : i < x.length) (f : Int → Int → Int) (a : Int) : (x.take (i + 1)).foldl f a = f ((x.take i).foldl f a) (rd x i) := by
  rw [List.take_succ_eq_append_getElem hi, List.foldl_append, rd_get hi]
  rfl
theorem count_f {x : List Int} (hl : x.length ≤ 1000) (hb : ∀ y ∈ x, 0 ≤ y ∧ y ≤ 1000) (k : Nat) (hk : x.length < k) : smaltolaw03_count.f k x = some (countI x) := by
  have key : ∀ d (i : Nat), i + d = x.length → ∀ q, d < q → smaltolaw03_count.l0 q x ((x.take i).foldl (fun n y => mx n (y + 1)) 0) i = some (countI x) := by
    intro d
    induction d with
    | zero =>
      intro i hi q hq
      obtain ⟨q, rfl⟩ : ∃ p, q = p + 1 := ⟨q - 1, by omega⟩
      rw [smaltolaw03_count.l0, if_neg (by omega), List.take_of_length_le (by omega)]
      rfl
    | succ d ih =>
      intro i hi q hq
      obtain ⟨q, rfl⟩ : ∃ p, q = p + 1 := ⟨q - 1, by omega⟩
      have hil : i < x.length := by omega
      have := ih (i + 1) (by omega) q (by omega)
      rw [fold_take hil, show ((i + 1 : Nat) : Int) = (i : Int) + 1 by omega] at this
      have hb' := hb _ (List.getElem_mem hil)
      rw [← rd_get hil] at hb'
      rw [smaltolaw03_count.l0, if_pos (by omega), if_pos (by omega), w64 (x := rd x i + 1) (by omega), w64 (x := (i : Int) + 1) (by omega)]
      exact this
  have h0 := key x.length 0 (by omega) k hk
  exact h0
theorem up_f {x : List Int} (hl : x.length ≤ 1000) (n : Int) (hp : x.Pairwise (· < ·)) (hm : ∀ y ∈ x, 0 ≤ y ∧ y < n) (k : Nat) (hk : x.length < k) : upC.f k x n = some () := by
  have key : ∀ d (i : Nat), i + d = x.length → ∀ q, d < q → smaltolaw03_up.l0 q x n i = some true := by
    intro d
    induction d with
    | zero =>
      intro i hi q hq
      obtain ⟨q, rfl⟩ : ∃ p, q = p + 1 := ⟨q - 1, by omega⟩
      rw [smaltolaw03_up.l0, if_neg (by omega)]
    | succ d ih =>
      intro i hi q hq
      obtain ⟨q, rfl⟩ : ∃ p, q = p + 1 := ⟨q - 1, by omega⟩
      have hil : i < x.length := by omega
      have := ih (i + 1) (by omega) q (by omega)
      rw [show ((i + 1 : Nat) : Int) = (i : Int) + 1 by omega] at this
      have h1 := hm _ (List.getElem_mem hil)
      rw [← rd_get hil] at h1
      rw [smaltolaw03_up.l0, if_pos (by omega), if_pos (by omega), if_neg (by omega), if_neg (by omega), w64 (x := (i : Int) + 1) (by omega), this]
      by_cases h0 : i = 0
      · rw [if_neg (by omega)]
      · rw [if_pos (by omega), w64 (x := (i : Int) - 1) (by omega), if_pos (by omega), if_pos (by omega), if_neg]
        rw [show ((i : Int) - 1) = ((i - 1 : Nat) : Int) by omega, rd_get hil, rd_get (show i - 1 < x.length by omega)]
        have := List.pairwise_iff_getElem.1 hp (i - 1) i (by omega) hil (by omega)
        omega
  have h0 := key x.length 0 (by omega) k hk
  exact if_pos h0
/-- The places of a number, as numbers. -/
def ofL (x : List Int) (n : Int) : List Int := (idx x n).map Int.ofNat
theorem of_f {x : List Int} (hl : x.length ≤ 1000) (n : Int) (k : Nat) (hk : x.length < k) : smaltolaw03_of.f k x n = some (ofL x n) := by
  have key : ∀ d (i : Nat), i + d = x.length → ∀ q, d < q → smaltolaw03_of.l0 q x n (((List.range i).filter fun (i : Nat) => decide (rd x i = n)).map Int.ofNat) i = some (ofL x n) := by
    intro d
    induction d with
    | zero =>
      intro i hi q hq
      obtain ⟨q, rfl⟩ : ∃ p, q = p + 1 := ⟨q - 1, by omega⟩
      rw [smaltolaw03_of.l0, if_neg (by omega), show i = x.length by omega]
      rfl
    | succ d ih =>
      intro i hi q hq
      obtain ⟨q, rfl⟩ : ∃ p, q = p + 1 := ⟨q - 1, by omega⟩
      have := ih (i + 1) (by omega) q (by omega)
      rw [show ((i + 1 : Nat) : Int) = (i : Int) + 1 by omega, List.range_succ, List.filter_append, List.map_append] at this
      have hlen : (((List.range i).filter fun (i : Nat) => decide (rd x i = n)).map Int.ofNat).length ≤ i := by
        rw [List.length_map]
        exact Nat.le_trans (List.length_filter_le _ _) (by simp)
      rw [smaltolaw03_of.l0, if_pos (by omega), if_pos (by omega), w64 (x := (i : Int) + 1) (by omega)]
      by_cases h : rd x i = n
      · rw [if_pos h, if_pos (by omega)]
        simpa [h] using this
      · rw [if_neg h]
        simpa [h] using this
  exact key x.length 0 (by omega) k hk
/-- Whether the signs of an ascending list go, as the program tells it. -/
theorem goes_places {F : Furn} (hF : F.Ok) {is : List Nat} (ha : is.Pairwise (· < ·)) (hi : ∀ i ∈ is, i < F.l.length) : ∃ p, gR F F.l (is.map Int.ofNat) = (goesI F is, p, 0) := by
  obtain ⟨s, h1, h2, h3⟩ := new_pair hF (load := is.map Int.ofNat) (by
    rw [List.pairwise_map]
    exact ha.imp (fun h => Int.ofNat_lt.2 h)) (fun x hx => by
    obtain ⟨i, hi', rfl⟩ := List.mem_map.1 hx
    have := hi i hi'
    simp only [Int.ofNat_eq_natCast]
    omega)
  have e : bitsOf s = is := List.map_inj_right (f := Int.ofNat) (fun a b h => Int.ofNat.inj h) |>.1 h2
  refine ⟨decide (sumB (fun x => x.f2.f0) F.l (bitsOf s) ≤ F.load) && fitsB F s, ?_⟩
  unfold gR goesR
  rw [h1, ← e]
  rfl
theorem goesC_f {F : Furn} (hF : F.Ok) {is : List Nat} (ha : is.Pairwise (· < ·)) (hi : ∀ i ∈ is, i < F.l.length) : ∃ p, goesC.f F.bars F.length F.gap F.load F.near F.l (is.map Int.ofNat) = some (goesI F is, p) := by
  obtain ⟨p, hp⟩ := goes_places hF ha hi
  refine ⟨p, ?_⟩
  unfold gR at hp
  unfold goesC.f
  rw [hp]
  simp
theorem new_nil {F : Furn} (hF : F.Ok) : ∃ s, newR F.bars F.length F.gap F.load F.near F.l [] = .ok s := by
  obtain ⟨s, h, _⟩ := new_pair hF (load := []) (by simp) (by simp)
  exact ⟨s, h⟩
theorem loads_f {F : Furn} (hF : F.Ok) : fork_Loads.f F.bars F.length F.gap F.load F.near F.l = some (if (fewestB F).2.2 = true then ((fewestB F).1, 0) else ([], 7)) := by
  obtain ⟨s, hs⟩ := new_nil hF
  unfold fork_Loads.f loadsR
  rw [hs]
  rfl
theorem made_f {a0 a1 a2 a3 a4 : Int} {l : List S63} (h0 : okB5 ⟨a0, a1, a2, a3, a4⟩ = true) (h1 : ∀ x ∈ l, okB5 x = true) :
    ∃ F : Furn, F.Ok ∧ smaltolaw03_Rack_made.f a0 a1 a2 a3 a4 l = some (F.bars, F.length, F.gap, F.load, F.near, F.l) ∧ F.load ≤ 295 ∧ F.length ≤ 129 ∧ F.near ≤ 39 := by
  refine ⟨madeF (b5 ⟨a0, a1, a2, a3, a4⟩) (l.map b5), madeF_ok _ (b5_ok h0).1 _ (fun v hv => by obtain ⟨y, hy, rfl⟩ := List.mem_map.1 hv; exact (b5_ok (h1 y hy)).1), ?_, ?_⟩
  · unfold smaltolaw03_Rack_made.f
    rw [if_pos (by simp only [Bool.and_eq_true, List.all_eq_true]; exact ⟨h0, h1⟩)]
    rfl
  · have := (b5_ok h0).1
    obtain ⟨q1, q2, q3, q4, q5⟩ := this
    unfold madeF
    simp only
    omega
theorem few_less {F : Furn} (hF : F.Ok) (h : (fewestB F).2.2 = true) {i : Nat} (hi : i < F.l.length) : (fewestB (lessF F i)).2.2 = true ∧ (fewestB (lessF F i)).2.1 ≤ (fewestB F).2.1 ∧ (fewestB F).2.1 ≤ (fewestB (lessF F i)).2.1 + 1 := by
  have h1 : (fewestB (lessF F i)).2.2 = true := rest_ok (a := F.bars) (b := F.length) (c := F.gap) (d := F.load) (e := F.near) (l := F.l) (ok_check hF) h i hi
  obtain ⟨g1, _, _, g2⟩ := fewest_some hF h
  obtain ⟨k1, _, _, k2⟩ := fewest_some (less_ok hF i) h1
  refine ⟨h1, ?_, ?_⟩
  · rcases Nat.lt_or_ge (fewestB F).2.1 (fewestB (lessF F i)).2.1 with h2 | h2
    · exact absurd (less_good hF g1 i hi) (k2 _ h2 _)
    · exact h2
  · rcases Nat.lt_or_ge ((fewestB (lessF F i)).2.1 + 1) (fewestB F).2.1 with h2 | h2
    · exact absurd (more_good hF i hi k1 (single_good hF g1 i hi)) (g2 _ h2 _)
    · exact h2
theorem few_count {F : Furn} (hF : F.Ok) (h : (fewestB F).2.2 = true) : countI (fewestB F).1 = (fewestB F).2.1 := by
  obtain ⟨g1, _, _, g2⟩ := fewest_some hF h
  exact count_few g1 g2
end Go.Proofs.YtbijamlgcebgeaaDoor.Hand

-- part JF
namespace Go.Proofs.YtbijamlgcebgeaaDoor.Hand
open Go.ChangeShapes Go.WideShapes Go.ChangeAt Go.RowKit Go.Deep Go.Proofs.YtbijamlgcebgeaaDoorW.PrintWords Go.Proofs.YtbijamlgcebgeaaDoor.Q
theorem own : ownKnob Tryd.prog.godebug = none := by kernel_rfl
theorem laidOut : laidOutB Tryd.prog = true := by kernel_rfl
theorem g64 : Tryd.prog.globalNamed "math/bits.deBruijn64tab" = some 1 := by kernel_rfl
section
variable {H : Type} {enc : TypeId × Value → H} {w : World} {base : Nat} {spare : Nat → Bool} {held : Bool}
end
set_option maxRecDepth 100000 in
/-- What the rows list gives: the table. -/
theorem tabW_of {W : World} (h : laidMetH Tryd.prog Rows.forkGoesRow.laid W) : TabW W := by
  have h2 : Lib.TabIs Tryd.prog W "math/bits.deBruijn64tab" .u8 (Lib.deBruijn64tab.map fun (n : Nat) => (n : Int)) :=
    Lib.tabIs_of_head (rest := []) (g := 1) (t := Tryd.prog.globals[1]!.type) (n := 64) (e := 5) g64 (by kernel_rfl) (by kernel_rfl) (by kernel_rfl) (by kernel_rfl) (by kernel_rfl) (laidMet.tail h)
  have hc : ∀ j, j < Lib.deBruijn64tab.length → W.cell? ⟨1, j, none⟩ = some (.int .u8 (Lib.deBruijn64tab.getD j 0)) := by
    intro j hj
    have := h2.cell g64 j (by simpa using hj)
    rw [this]
    simp [List.getD_eq_getElem?_getD, List.getElem?_eq_getElem hj]
  exact ⟨World.block_lt_of_cell? W ⟨1, 0, none⟩ (hc 0 (by decide)), hc⟩
end Go.Proofs.YtbijamlgcebgeaaDoor.Hand

-- part JH
namespace Go.Proofs.YtbijamlgcebgeaaDoor.Hand
open Go.ChangeShapes Go.WideShapes Go.ChangeAt Go.RowKit Go.Deep Go.Proofs.YtbijamlgcebgeaaDoorW.PrintWords Go.Proofs.YtbijamlgcebgeaaDoor.Q
theorem cells5 : Tryd.prog.cellsOf 5 = 1 := by kernel_rfl
theorem cells63 : Tryd.prog.cellsOf 63 = 5 := by kernel_rfl
theorem cells66 : Tryd.prog.cellsOf 66 = 6 := by kernel_rfl
theorem cells67 : Tryd.prog.cellsOf 67 = 6 := by kernel_rfl
theorem wf_byte {n : Int} (h : (Lit.int .u8 n).wf = true) : byteB n = true := by
  rw [byteB_iff]
  have h1 : IntKind.u8.min = 0 := by decide
  have h2 : IntKind.u8.max = 255 := by decide
  simp [Lit.wf, h1, h2] at h
  omega
section
variable {H : Type} {enc : TypeId × Value → H} {w : World} {base : Nat} {spare : Nat → Bool} {held : Bool}
theorem elByte {n : Nat} {c : Value} {x : DataW H × List MemPlace} (h : DataW.trod enc Tryd.prog w base spare held n 5 [c] = some x) : ∃ y : Int, c = .int .u8 y ∧ byteB y = true := by
  obtain ⟨y, e, _, hw⟩ := DataW.trod_int Tryd.underlying5 h
  simp only [List.cons.injEq, and_true] at e
  exact ⟨y, e, wf_byte hw⟩
set_option maxRecDepth 100000 in
theorem el63 {n : Nat} {cs : List Value} {x : DataW H × List MemPlace} (h : DataW.trod enc Tryd.prog w base spare held n 63 cs = some x) : ∃ y : S63, cs = [.int .u8 y.f0, .int .u8 y.f1, .int .u8 y.f2, .int .u8 y.f3, .int .u8 y.f4] ∧ okB5 y = true := by
  obtain ⟨xs, m, rfl, rfl, hl, hx, hf⟩ := DataW.trod_array Tryd.underlying63 h
  rw [cells63] at hl
  rw [cells5] at hf
  match cs, hl with
  | [c0, c1, c2, c3, c4], _ =>
    match xs, hx with
    | [y0, y1, y2, y3, y4], _ =>
      obtain ⟨i0, e0, b0⟩ := elByte (show DataW.trod enc Tryd.prog w base spare held m 5 [c0] = some y0 from hf 0 (by decide))
      obtain ⟨i1, e1, b1⟩ := elByte (show DataW.trod enc Tryd.prog w base spare held m 5 [c1] = some y1 from hf 1 (by decide))
      obtain ⟨i2, e2, b2⟩ := elByte (show DataW.trod enc Tryd.prog w base spare held m 5 [c2] = some y2 from hf 2 (by decide))
      obtain ⟨i3, e3, b3⟩ := elByte (show DataW.trod enc Tryd.prog w base spare held m 5 [c3] = some y3 from hf 3 (by decide))
      obtain ⟨i4, e4, b4⟩ := elByte (show DataW.trod enc Tryd.prog w base spare held m 5 [c4] = some y4 from hf 4 (by decide))
      refine ⟨⟨i0, i1, i2, i3, i4⟩, by rw [e0, e1, e2, e3, e4], ?_⟩
      unfold okB5
      simp only [b0, b1, b2, b3, b4, Bool.and_self]
set_option maxRecDepth 100000 in
theorem el64 {fuel : Nat} {c0 : Value} {x : DataW H × List MemPlace} (hf : DataW.trod enc Tryd.prog w base spare held fuel 64 [c0] = some x) :
    ∃ (A : Option Addr) (l : List S63) (c : Nat), c0 = .slice A l.length c ∧ l.length ≤ c ∧ (∀ x ∈ l, okB5 x = true) ∧ Kd.C k63 w A l.length l := by
  rcases open_slice Tryd.underlying64 hf with ⟨hcs, _⟩ | ⟨a, n, c, m, k, D, Pl, hcs, _, hl, hm, hmm, _, hi⟩
  · simp only [List.cons.injEq, and_true] at hcs
    exact ⟨none, [], 0, hcs, Nat.le_refl _, (by simp), rfl, by simp, fun h => absurd h (by simp)⟩
  · simp only [List.cons.injEq, and_true] at hcs
    have hlm : n ≤ m := by rw [hmm]; split <;> omega
    have hel : ∀ i, i < n → ∃ y : S63, okB5 y = true ∧ ∀ j u, [Value.int .u8 y.f0, .int .u8 y.f1, .int .u8 y.f2, .int .u8 y.f3, .int .u8 y.f4][j]? = some u → w.cell? (a.add (i * 5 + j)) = some u := by
      intro i hin
      obtain ⟨cs', hc, ht⟩ := hi i (by omega)
      rw [cells63] at hc
      obtain ⟨y, rfl, hok⟩ := el63 ht
      refine ⟨y, hok, fun j u hj => ?_⟩
      obtain ⟨_, _, hat⟩ := World.cells?_some hc
      obtain ⟨hjl, hju⟩ := List.getElem?_eq_some_iff.1 hj
      have := hat j (by simpa using hjl)
      rw [← Go.Deep.add_add, this]
      exact hj
    obtain ⟨f, hf⟩ : ∃ f : Nat → S63, ∀ i, i < n → okB5 (f i) = true ∧ ∀ j u, [Value.int .u8 (f i).f0, .int .u8 (f i).f1, .int .u8 (f i).f2, .int .u8 (f i).f3, .int .u8 (f i).f4][j]? = some u → w.cell? (a.add (i * 5 + j)) = some u :=
      haveI : Inhabited S63 := ⟨z63⟩
      choose_lt (p := fun i (y : S63) => okB5 y = true ∧ ∀ j u, [Value.int .u8 y.f0, .int .u8 y.f1, .int .u8 y.f2, .int .u8 y.f3, .int .u8 y.f4][j]? = some u → w.cell? (a.add (i * 5 + j)) = some u) hel
    refine ⟨some a, (List.range n).map f, c, by rw [hcs]; simp, by simpa using hl, fun y hy => ?_, ?_⟩
    · obtain ⟨i, hi, rfl⟩ := List.mem_map.1 hy
      exact (hf i (List.mem_range.1 hi)).1
    rw [show ((List.range n).map f).length = n by simp]
    refine ⟨by simp, by simp [maxLen] at hm; omega, fun _ => ⟨a, rfl, fun j p hj => ?_⟩⟩
    obtain ⟨hjl, hp⟩ := List.getElem?_eq_some_iff.1 hj
    simp at hjl hp
    subst hp
    exact ⟨_, rfl, k63_mk w (f j), (hf j hjl).2⟩
set_option maxRecDepth 100000 in
theorem open66 {b0 : Nat} {v : Value} {d : DataW H} {p : List MemPlace} (hv : Value.okWide Tryd.prog w .any b0 66 v) (h : DataW.Trod enc Tryd.prog w base spare held 66 v d p) :
    ∃ (y : S63) (A : Option Addr) (l : List S63) (c : Nat), v = .agg #[.int .u8 y.f0, .int .u8 y.f1, .int .u8 y.f2, .int .u8 y.f3, .int .u8 y.f4, .slice A l.length c] ∧ okB5 y = true ∧ (∀ x ∈ l, okB5 x = true) ∧ l.length ≤ c ∧ Kd.C k63 w A l.length l := by
  obtain ⟨cs, rfl, hsz⟩ := okWide_struct Tryd.underlying66 hv
  rw [cells66] at hsz
  obtain ⟨fuel, hf⟩ := h
  obtain ⟨xs, m, rfl, _, hl, hx, hf⟩ := DataW.trod_struct Tryd.underlying66 hf
  obtain ⟨l⟩ := cs
  match l, hsz with
  | [c0, c1, c2, c3, c4, c5], _ =>
    have h0 := hf 0 _ rfl
    have h1 := hf 1 _ rfl
    match xs, hx with
    | [y0, y1], _ =>
      obtain ⟨y, e, hok⟩ := el63 (show DataW.trod enc Tryd.prog w base spare held m 63 [c0, c1, c2, c3, c4] = some y0 from h0)
      obtain ⟨A, l, c, e2, hc, hall, hC⟩ := el64 (show DataW.trod enc Tryd.prog w base spare held m 64 [c5] = some y1 from h1)
      simp only [List.cons.injEq, and_true] at e
      obtain ⟨e0, e1, e3, e4, e5⟩ := e
      exact ⟨y, A, l, c, by rw [e0, e1, e3, e4, e5, e2], hok, hall, hc, hC⟩
set_option maxRecDepth 100000 in
theorem openByte {b0 : Nat} {v : Value} {d : DataW H} {p : List MemPlace} (hv : Value.okWide Tryd.prog w .any b0 5 v) (h : DataW.Trod enc Tryd.prog w base spare held 5 v d p) : ∃ a : Int, v = .int .u8 a ∧ byteB a = true := by
  obtain ⟨a, e, _, _, hw⟩ := open_int Tryd.underlying5 hv h
  exact ⟨a, e, wf_byte hw⟩
set_option maxRecDepth 100000 in
theorem open67 {b0 : Nat} {v : Value} {d : DataW H} {p : List MemPlace} (hv : Value.okWide Tryd.prog w .any b0 67 v) (h : DataW.Trod enc Tryd.prog w base spare held 67 v d p) : ∃ a0 a1 a2 a3 a4 a5 : Int, v = .agg #[.int .u8 a0, .int .u8 a1, .int .u8 a2, .int .u8 a3, .int .u8 a4, .int .u8 a5] ∧ byteB a0 = true ∧ byteB a1 = true ∧ byteB a2 = true ∧ byteB a3 = true ∧ byteB a4 = true ∧ byteB a5 = true := by
  obtain ⟨cs, rfl, hsz⟩ : ∃ cs, v = .agg cs ∧ cs.size = Tryd.prog.cellsOf 67 := by
    simp only [Value.okWide, Tryd.underlying67] at hv
    obtain ⟨cs, h1, h2, _⟩ := hv
    exact ⟨cs, h1, h2⟩
  rw [cells67] at hsz
  obtain ⟨fuel, hf⟩ := h
  obtain ⟨xs, m, rfl, _, hl, hx, hf⟩ := DataW.trod_array Tryd.underlying67 hf
  rw [cells5] at hf
  obtain ⟨l⟩ := cs
  match l, hsz with
  | [c0, c1, c2, c3, c4, c5], _ =>
    match xs, hx with
    | [y0, y1, y2, y3, y4, y5], _ =>
      obtain ⟨i0, e0, b0⟩ := elByte (show DataW.trod enc Tryd.prog w base spare held m 5 [c0] = some y0 from hf 0 (by decide))
      obtain ⟨i1, e1, b1⟩ := elByte (show DataW.trod enc Tryd.prog w base spare held m 5 [c1] = some y1 from hf 1 (by decide))
      obtain ⟨i2, e2, b2⟩ := elByte (show DataW.trod enc Tryd.prog w base spare held m 5 [c2] = some y2 from hf 2 (by decide))
      obtain ⟨i3, e3, b3⟩ := elByte (show DataW.trod enc Tryd.prog w base spare held m 5 [c3] = some y3 from hf 3 (by decide))
      obtain ⟨i4, e4, b4⟩ := elByte (show DataW.trod enc Tryd.prog w base spare held m 5 [c4] = some y4 from hf 4 (by decide))
      obtain ⟨i5, e5, b5⟩ := elByte (show DataW.trod enc Tryd.prog w base spare held m 5 [c5] = some y5 from hf 5 (by decide))
      exact ⟨i0, i1, i2, i3, i4, i5, by rw [e0, e1, e2, e3, e4, e5], b0, b1, b2, b3, b4, b5⟩
end
end Go.Proofs.YtbijamlgcebgeaaDoor.Hand

-- part QE
namespace Go.Proofs.YtbijamlgcebgeaaDoor.Q
open Go.RowKit Go.Proofs.YtbijamlgcebgeaaDoorW.PrintWords Go.Proofs.YtbijamlgcebgeaaDoorW.PrintLast Go.Proofs.YtbijamlgcebgeaaDoorW.PrintMore
attribute [local go_sem] max2_int min2_int max_two min_two max_three min_three max_four min_four
end Go.Proofs.YtbijamlgcebgeaaDoor.Q

-- part KC
namespace Go.Proofs.YtbijamlgcebgeaaDoor.Hand
open Go.RowKit Go.Shelf Go.Sort Go.Proofs.YtbijamlgcebgeaaDoorW.PrintWords Go.Proofs.YtbijamlgcebgeaaDoorW.PrintMore Go.Proofs.YtbijamlgcebgeaaDoor.Q
/-- The pairs of a set with sign number i, as sets. -/
def pairI (s i : Nat) (k : Nat) : List Nat := (List.range k).map fun j => 2 ^ (bitsOf s).getD i 0 ||| 2 ^ (bitsOf s).getD j 0
def pairsR (s : Nat) (n : Nat) : List Nat := (List.range n).flatMap fun i => pairI s i i
def pairsP (s : Nat) : List Nat := (bitsOf s).flatMap fun a => (bitsOf (hiB s a)).map fun b => 2 ^ a ||| 2 ^ b
theorem pairs_same : ∀ s : Nat, s < 64 → (pairsR s (lenB s)).all (fun x => (pairsP s).contains x) = true ∧ (pairsP s).all (fun x => (pairsR s (lenB s)).contains x) = true := by decide +kernel
theorem apartB_pairs (F : Furn) {s : Nat} (hs : s < 64) : apartB F s = (pairsR s (lenB s)).all fun p => !goesB F p := by
  have h1 : apartB F s = (pairsP s).all fun p => !goesB F p := by
    unfold apartB apart1 pairsP
    rw [List.all_flatMap]
    congr 1
    funext a
    rw [List.all_map]
    rfl
  obtain ⟨q1, q2⟩ := pairs_same s hs
  rw [h1, Bool.eq_iff_iff]
  simp only [List.all_eq_true, List.contains_iff_mem] at q1 q2 ⊢
  exact ⟨fun h x hx => h x (q1 x hx), fun h x hx => h x (q2 x hx)⟩
theorem or_lt {a b n : Nat} (ha : a < n) (hb : b < n) : 2 ^ a ||| 2 ^ b < 2 ^ n := Nat.or_lt_two_pow ((Nat.pow_lt_pow_iff_right (by decide)).2 ha) ((Nat.pow_lt_pow_iff_right (by decide)).2 hb)
theorem rd_ilist {s i : Nat} (hi : i < lenB s) : rd (ilist s) (i : Int) = (((bitsOf s).getD i 0 : Nat) : Int) := by
  have h1 : i < (bitsOf s).length := hi
  rw [rd_get (by rw [(ilist_len s).1]; exact hi), List.getD_eq_getElem?_getD, List.getElem?_eq_getElem h1]
  simp [ilist]
section
variable {F : Furn} (hF : F.Ok)
include hF
end
end Go.Proofs.YtbijamlgcebgeaaDoor.Hand

-- part PE
namespace Go.Proofs.YtbijamlgcebgeaaDoor.Hand
open Go.RowKit Go.Shelf Go.Sort Go.Proofs.YtbijamlgcebgeaaDoorW.PrintWords Go.Proofs.YtbijamlgcebgeaaDoorW.PrintMore Go.Proofs.YtbijamlgcebgeaaDoor.Q
theorem apart_one (F : Furn) : apartB F 0 = true ∧ apartB F 1 = true := by
  refine ⟨rfl, ?_⟩
  unfold apartB
  rw [show bitsOf 1 = [0] by decide]
  simp only [List.all_cons, List.all_nil, Bool.and_true]
  unfold apart1
  rw [show bitsOf (hiB 1 0) = [] by decide]
  rfl
theorem apart_facts {F : Furn} : ∀ k, k ≤ 2 ^ F.l.length → apartBest F k < 2 ^ F.l.length ∧ apartB F (apartBest F k) = true ∧ (1 < k → 1 ≤ lenB (apartBest F k)) ∧ (k ≤ 1 → apartBest F k = 0) := by
  intro k
  induction k with
  | zero => intro _; exact ⟨Nat.pow_pos (by omega), (apart_one F).1, by omega, fun _ => rfl⟩
  | succ k ih =>
    intro hk
    obtain ⟨h1, h2, h3, h4⟩ := ih (by omega)
    rw [apartBest_succ]
    unfold apartStep
    by_cases h0 : k = 0
    · subst h0
      rw [h4 (by omega)]
      have : (if (decide (lenB 0 < lenB 0) || (decide (lenB 0 = lenB 0) && !befB 0 0)) = true then 0 else if apartB F 0 = true then 0 else 0) = 0 := by
        split
        · rfl
        · split <;> rfl
      rw [this]
      exact ⟨Nat.pow_pos (by omega), (apart_one F).1, by omega, fun _ => rfl⟩
    · by_cases k1 : k = 1
      · subst k1
        rw [h4 (by omega)]
        have e : (decide (lenB 1 < lenB 0) || (decide (lenB 1 = lenB 0) && !befB 1 0)) = false := by decide
        rw [e, if_neg (by decide), if_pos (apart_one F).2]
        exact ⟨by omega, (apart_one F).2, fun _ => by decide, by omega⟩
      · split
        · exact ⟨h1, h2, fun _ => h3 (by omega), by omega⟩
        · rename_i hc
          split
          · rename_i ha
            have h5 := h3 (by omega)
            refine ⟨by omega, ha, fun _ => ?_, by omega⟩
            simp only [Bool.or_eq_true, decide_eq_true_eq, not_or] at hc
            omega
          · exact ⟨h1, h2, fun _ => h3 (by omega), by omega⟩
/-- The set that Apart tells. -/
def apartS (F : Furn) : Nat := apartBest F (2 ^ F.l.length)
theorem apartS_facts {F : Furn} (hF : F.Ok) : apartS F < 64 ∧ (∀ i ∈ bitsOf (apartS F), i < F.l.length) ∧ apartB F (apartS F) = true ∧ (0 < F.l.length → 1 ≤ lenB (apartS F)) := by
  obtain ⟨h1, h2, h3, _⟩ := apart_facts (F := F) _ (Nat.le_refl (2 ^ F.l.length))
  have hl := hF.len
  refine ⟨Nat.lt_of_lt_of_le h1 (Nat.pow_le_pow_right (by omega) hl : 2 ^ F.l.length ≤ 2 ^ 6), bitsOf_below h1, h2, fun h => h3 ?_⟩
  have : 2 ^ 1 ≤ 2 ^ F.l.length := Nat.pow_le_pow_right (by omega) h
  omega
theorem apart_pair {F : Furn} {b : Nat} (hb : b < 64) (h : apartB F b = true) {i j : Nat} (hj : j < i) (hi : i < lenB b) : (bitsOf b).getD j 0 < (bitsOf b).getD i 0 ∧ goesI F [(bitsOf b).getD j 0, (bitsOf b).getD i 0] = false := by
  rw [apartB_pairs F hb, List.all_eq_true] at h
  have hlt : (bitsOf b).getD j 0 < (bitsOf b).getD i 0 := by
    unfold lenB at hi
    rw [List.getD_eq_getElem?_getD, List.getD_eq_getElem?_getD, List.getElem?_eq_getElem hi, List.getElem?_eq_getElem (by omega)]
    exact List.pairwise_iff_getElem.1 (bits_asc b) j i (by omega) hi hj
  have h6 : ∀ k, k < lenB b → (bitsOf b).getD k 0 < 6 := by
    intro k hk
    unfold lenB at hk
    rw [List.getD_eq_getElem?_getD, List.getElem?_eq_getElem hk]
    exact List.mem_range.1 (List.mem_filter.1 (List.getElem_mem hk)).1
  have hi6 := h6 i hi
  refine ⟨hlt, ?_⟩
  have hm := h (2 ^ (bitsOf b).getD i 0 ||| 2 ^ (bitsOf b).getD j 0) (List.mem_flatMap.2 ⟨i, List.mem_range.2 hi, List.mem_map.2 ⟨j, List.mem_range.2 hj, rfl⟩⟩)
  generalize (bitsOf b).getD i 0 = y at hlt hm hi6 ⊢
  generalize (bitsOf b).getD j 0 = x at hlt hm ⊢
  have h64 : 2 ^ y ||| 2 ^ x < 64 := or_lt (n := 6) hi6 (by omega)
  have e : bitsOf (2 ^ y ||| 2 ^ x) = [x, y] := by
    refine asc_ext (bits_asc _) (by simp; exact hlt) (fun a => ?_)
    rw [bits_mem h64, Nat.testBit_or, Nat.testBit_two_pow, Nat.testBit_two_pow, Bool.or_eq_true, decide_eq_true_eq, decide_eq_true_eq]
    simp only [List.mem_cons, List.not_mem_nil, or_false]
    constructor
    · rintro (h | h)
      · exact .inr h.symm
      · exact .inl h.symm
    · rintro (h | h)
      · exact .inr h.symm
      · exact .inl h.symm
  rw [goesB_I, e, Bool.not_eq_true'] at hm
  exact hm
theorem nodup_lt : ∀ (m : Nat) (L : List Nat), L.Nodup → (∀ y ∈ L, y < m) → L.length ≤ m := by
  intro m
  induction m with
  | zero =>
    intro L _ h
    cases L with
    | nil => simp
    | cons y L => have := h y (by simp); omega
  | succ m ih =>
    intro L hn h
    have h1 := ih (L.erase m) (hn.erase m) (fun y hy => by
      have h2 := (hn.mem_erase_iff).1 hy
      have := h y h2.2
      omega)
    by_cases hm : m ∈ L
    · rw [List.length_erase_of_mem hm] at h1
      omega
    · rw [List.erase_of_not_mem hm] at h1
      omega
theorem rd_place {x : List Int} {i : Nat} (h : i < x.length) : i ∈ idx x (rd x i) := idx_mem.2 ⟨h, rfl⟩
/-- No fewer loads than signs that are apart. -/
theorem few_apart {F : Furn} (hF : F.Ok) {m : Nat} {x : List Int} (h : Good F m x) : lenB (apartS F) ≤ m := by
  obtain ⟨h1, h2, h3, _⟩ := apartS_facts hF
  have hlen := h.len
  have hr : ∀ a ∈ bitsOf (apartS F), 0 ≤ rd x a ∧ rd x a < m := by
    intro a ha
    rw [rd_get (by have := h2 a ha; omega)]
    exact h.rng _ (List.getElem_mem _)
  have := nodup_lt m ((bitsOf (apartS F)).map fun (a : Nat) => (rd x a).toNat) (by
    unfold List.Nodup
    rw [List.pairwise_map, List.pairwise_iff_getElem]
    intro j i hj hi hji e
    have h4 := hr _ (List.getElem_mem hj)
    have h5 := hr _ (List.getElem_mem hi)
    have e2 : rd x ((bitsOf (apartS F))[j] : Nat) = rd x ((bitsOf (apartS F))[i] : Nat) := by omega
    obtain ⟨q1, q2⟩ := apart_pair h1 h3 hji hi
    rw [List.getD_eq_getElem?_getD, List.getD_eq_getElem?_getD, List.getElem?_eq_getElem hi, List.getElem?_eq_getElem hj] at q1 q2
    simp only [Option.getD_some] at q1 q2
    have := goesI_sub hF (is := [(bitsOf (apartS F))[j], (bitsOf (apartS F))[i]]) (asc_sub (by simp; exact q1) (idx_asc x (rd x ((bitsOf (apartS F))[j] : Nat))) (fun a ha => by
      simp only [List.mem_cons, List.not_mem_nil, or_false] at ha
      rcases ha with rfl | rfl
      · exact rd_place (by have := h2 _ (List.getElem_mem hj); omega)
      · rw [e2]; exact rd_place (by have := h2 _ (List.getElem_mem hi); omega))) (h.goes _)
    rw [q2] at this
    cases this) (fun y hy => by
    obtain ⟨a, ha, rfl⟩ := List.mem_map.1 hy
    have := hr a ha
    omega)
  rw [List.length_map] at this
  exact this
def used (x : List Int) (t : Nat) : Nat := ((List.range t).filter fun (j : Nat) => decide (0 < (idx x j).length)).length
theorem used_succ (x : List Int) (t : Nat) : used x (t + 1) = if 0 < (idx x t).length then used x t + 1 else used x t := by
  unfold used
  rw [List.range_succ, List.filter_append, List.length_append]
  by_cases h : 0 < (idx x t).length
  · rw [if_pos h, List.filter_cons, if_pos (by simpa using h)]; rfl
  · rw [if_neg h, List.filter_cons, if_neg (by simpa using h)]; rfl
theorem used_mono (x : List Int) {s t : Nat} (h : s ≤ t) : used x s ≤ used x t := by
  induction t with
  | zero => have : s = 0 := by omega
            subst this; exact Nat.le_refl _
  | succ t ih =>
    by_cases e : s = t + 1
    · subst e; exact Nat.le_refl _
    · have := ih (by omega)
      rw [used_succ]
      split <;> omega
theorem used_le (x : List Int) (t : Nat) : used x t ≤ t := Nat.le_trans (List.length_filter_le _ _) (by simp)
theorem used_at {x : List Int} {i : Nat} (hi : i < x.length) {v : Nat} (hv : rd x i = v) : used x (v + 1) = used x v + 1 := by
  rw [used_succ, if_pos]
  have : i ∈ idx x (v : Int) := idx_mem.2 ⟨hi, hv⟩
  exact List.length_pos_of_mem this
/-- Numbers without gaps. -/
def rankL (x : List Int) : List Int := x.map fun y => ((used x y.toNat : Nat) : Int)
theorem rank_good {F : Furn} (hF : F.Ok) {m : Nat} {x : List Int} (h : Good F m x) : Good F (used x m) (rankL x) := by
  have hat : ∀ i, i < x.length → ∃ v : Nat, rd x i = v ∧ v < m ∧ rd (rankL x) i = ((used x v : Nat) : Int) := by
    intro i hi
    have h1 := h.rng _ (List.getElem_mem hi)
    refine ⟨(rd x i).toNat, ?_, ?_, ?_⟩
    · rw [rd_get hi]; omega
    · rw [rd_get hi]; omega
    · unfold rankL
      rw [rd_get (by simpa using hi), List.getElem_map, rd_get hi]
  refine ⟨by unfold rankL; rw [List.length_map]; exact h.len, fun y hy => ?_, fun j => ?_⟩
  · unfold rankL at hy
    obtain ⟨z, hz, rfl⟩ := List.mem_map.1 hy
    obtain ⟨i, hi, rfl⟩ := List.getElem_of_mem hz
    obtain ⟨v, hv, hvm, _⟩ := hat i hi
    have h1 := used_at hi hv
    have h2 := used_mono x (show v + 1 ≤ m by omega)
    rw [rd_get hi] at hv
    rw [hv, Int.toNat_natCast]
    omega
  · cases hc : idx (rankL x) j with
    | nil => exact goesI_nil hF
    | cons i is =>
      have hi : i ∈ idx (rankL x) j := by rw [hc]; simp
      obtain ⟨h1, h2⟩ := idx_mem.1 hi
      have hl : (rankL x).length = x.length := by unfold rankL; simp
      rw [hl] at h1
      obtain ⟨v, hv, _, hr⟩ := hat i h1
      rw [← hc]
      refine goesI_sub hF (asc_sub (idx_asc _ _) (idx_asc x (v : Int)) (fun a ha => ?_)) (h.goes v)
      obtain ⟨h3, h4⟩ := idx_mem.1 ha
      rw [hl] at h3
      obtain ⟨u, hu, _, hr2⟩ := hat a h3
      refine idx_mem.2 ⟨h3, ?_⟩
      rw [hu]
      have e : used x u = used x v := by omega
      rcases Nat.lt_trichotomy u v with h5 | h5 | h5
      · have := used_at h3 hu
        have := used_mono x (show u + 1 ≤ v by omega)
        omega
      · rw [h5]
      · have := used_at h1 hv
        have := used_mono x (show v + 1 ≤ u by omega)
        omega
def lexL : List Int → List Int → Prop
  | a :: x, b :: y => a < b ∨ (a = b ∧ lexL x y)
  | _, _ => False
theorem lexL_asym : ∀ {x y : List Int}, lexL x y → ¬ lexL y x := by
  intro x
  induction x with
  | nil => intro y h; exact h.elim
  | cons a x ih =>
    intro y h
    cases y with
    | nil => exact h.elim
    | cons b y =>
      rintro (h2 | ⟨h2, h3⟩)
      · rcases h with h | ⟨h, _⟩ <;> omega
      · rcases h with h | ⟨_, h⟩
        · omega
        · exact ih h h3
theorem lexL_at : ∀ {i : Nat} {x y : List Int} (hx : i < x.length) (hy : i < y.length), x.take i = y.take i → x[i] < y[i] → lexL x y := by
  intro i
  induction i with
  | zero =>
    intro x y hx hy _ h
    cases x with
    | nil => simp at hx
    | cons a x =>
      cases y with
      | nil => simp at hy
      | cons b y => exact .inl h
  | succ i ih =>
    intro x y hx hy ht h
    cases x with
    | nil => simp at hx
    | cons a x =>
      cases y with
      | nil => simp at hy
      | cons b y =>
        simp only [List.take_succ_cons, List.cons.injEq] at ht
        exact .inr ⟨ht.1, ih (by simpa using hx) (by simpa using hy) ht.2 h⟩
theorem allLs_pair (m : Nat) : ∀ n, (allLs m n).Pairwise lexL := by
  intro n
  induction n with
  | zero => simp [allLs]
  | succ n ih =>
    rw [allLs_first, List.pairwise_flatMap]
    refine ⟨fun j _ => ?_, ?_⟩
    · rw [List.pairwise_map]
      exact ih.imp (fun h => .inr ⟨rfl, h⟩)
    · refine List.pairwise_lt_range.imp (fun {a b} hab x hx y hy => ?_)
      obtain ⟨x', _, rfl⟩ := List.mem_map.1 hx
      obtain ⟨y', _, rfl⟩ := List.mem_map.1 hy
      exact .inl (Int.ofNat_lt.2 hab)
def swp (c v y : Int) : Int := if y = c then v else if y = v then c else y
theorem swp_swp (c v y : Int) : swp c v (swp c v y) = y := by
  unfold swp
  split <;> split <;> (try split) <;> omega
/-- The first list numbers its loads as they come. -/
theorem few_first {F : Furn} (hF : F.Ok) (h : (fewestB F).2.2 = true) {i : Nat} (hi : i < (fewestB F).1.length) : rd (fewestB F).1 i ≤ countI ((fewestB F).1.take i) := by
  obtain ⟨g1, g2, g3, _⟩ := fewest_some hF h
  have hl := hF.len
  generalize (fewestB F).2.1 = m at g1 g2 g3
  generalize (fewestB F).1 = x at g1 g3 hi ⊢
  rcases Int.lt_or_le (countI (x.take i)) (rd x i) with hlt | hle
  · exfalso
    obtain ⟨c, hc⟩ : ∃ c, countI (x.take i) = c := ⟨_, rfl⟩
    obtain ⟨v, hv⟩ : ∃ v, rd x i = v := ⟨_, rfl⟩
    rw [hc, hv] at hlt
    have hc0 := countI_pos (x.take i)
    have hcl := countI_lt (x.take i)
    rw [hc] at hc0 hcl
    have hvm := g1.rng _ (List.getElem_mem hi)
    rw [← rd_get hi, hv] at hvm
    have hgood : Good F m (x.map (swp c v)) := by
      refine ⟨by rw [List.length_map]; exact g1.len, fun y hy => ?_, fun j => ?_⟩
      · obtain ⟨z, hz, rfl⟩ := List.mem_map.1 hy
        have := g1.rng z hz
        unfold swp
        split
        · omega
        · split <;> omega
      · have e : idx (x.map (swp c v)) j = idx x (swp c v j) := by
          refine asc_ext (idx_asc _ _) (idx_asc _ _) (fun a => ?_)
          rw [idx_mem, idx_mem, List.length_map]
          constructor
          · rintro ⟨h1, h2⟩
            rw [rd_get (by simpa using h1), List.getElem_map] at h2
            exact ⟨h1, by rw [rd_get h1, ← h2, swp_swp]⟩
          · rintro ⟨h1, h2⟩
            rw [rd_get h1] at h2
            exact ⟨h1, by rw [rd_get (by simpa using h1), List.getElem_map, h2, swp_swp]⟩
        rw [e]
        exact g1.goes _
    have hmem := (lists_good hF (by omega)).2 hgood
    have hlex : lexL (x.map (swp c v)) x := by
      refine lexL_at (i := i) (by simpa using hi) hi ?_ ?_
      · rw [← List.map_take]
        have hid : ∀ L : List Int, (∀ y ∈ L, swp c v y = y) → L.map (swp c v) = L := by
          intro L
          induction L with
          | nil => intro _; rfl
          | cons y L ih => intro h; rw [List.map_cons, h y (by simp), ih (fun z hz => h z (by simp [hz]))]
        refine hid _ (fun y hy => ?_)
        have := hcl y hy
        unfold swp
        rw [if_neg (by omega), if_neg (by omega)]
      · rw [List.getElem_map, ← rd_get hi, hv]
        unfold swp
        rw [if_neg (by omega), if_pos rfl]
        exact hlt
    have hp : (listsL F m).Pairwise lexL := by
      rw [listsL_eq hF (by omega)]
      exact (allLs_pair _ _).filter _
    cases hq : listsL F m with
    | nil => rw [hq] at g3; cases g3
    | cons z zs =>
      rw [hq] at g3 hmem hp
      obtain rfl : z = x := by simpa using g3
      rcases List.mem_cons.1 hmem with e | e
      · rw [e] at hlex
        exact lexL_asym hlex hlex
      · exact lexL_asym hlex ((List.pairwise_cons.1 hp).1 _ e)
  · exact hle
theorem few_easy {F G : Furn} (hF : F.Ok) (hG : G.Ok) (hl : F.l = G.l) (he : Easier F G) (h : (fewestB F).2.2 = true) : (fewestB G).2.2 = true ∧ (fewestB G).2.1 ≤ (fewestB F).2.1 := by
  obtain ⟨g1, g2, _, _⟩ := fewest_some hF h
  have hx : Good G (fewestB F).2.1 (fewestB F).1 := ⟨by rw [← hl]; exact g1.len, g1.rng, fun j => goesI_easy hF hG hl he (g1.goes j)⟩
  have hok : (fewestB G).2.2 = true := by
    cases hc : (fewestB G).2.2
    · exact absurd hx (fewest_none hG hc _ (by rw [← hl]; exact g2) _)
    · rfl
  obtain ⟨_, _, _, k2⟩ := fewest_some hG hok
  refine ⟨hok, ?_⟩
  rcases Nat.lt_or_ge (fewestB F).2.1 (fewestB G).2.1 with h2 | h2
  · exact absurd hx (k2 _ h2 _)
  · exact h2
end Go.Proofs.YtbijamlgcebgeaaDoor.Hand

-- part QNf
namespace Go.Proofs.YtbijamlgcebgeaaDoor.Q
open Go.RowKit Go.Proofs.YtbijamlgcebgeaaDoorW.PrintWords Go.Proofs.YtbijamlgcebgeaaDoorW.PrintLast Go.Proofs.YtbijamlgcebgeaaDoorW.PrintMore
attribute [local go_sem] max2_int min2_int max_two min_two max_three min_three max_four min_four
mutual
def lF.j0 : Nat → Int → List (S74) → List Int → Int → List Int → Bool → Int → Int → Int → Int → Int → Int → Int → Int → Int → Int → Int → Option (Bool)
  | 0, _, _, _, _, _, _, _, _, _, _, _, _, _, _, _, _, _ => none
  | k + 1, x2, x8, x9, x10, x11, x80, x201000, x201001, x201002, x201003, x201004, x201005, x210000, x210001, x210002, x210003, x210004 => if x80 = true then (some false) else (lF.l0 k x2 x8 x9 x10 x11 0 x201000 x201001 x201002 x201003 x201004 x201005 x210000 x210001 x210002 x210003 x210004)
def lF.l0 : Nat → Int → List (S74) → List Int → Int → List Int → Int → Int → Int → Int → Int → Int → Int → Int → Int → Int → Int → Int → Option (Bool)
  | 0, _, _, _, _, _, _, _, _, _, _, _, _, _, _, _, _, _ => none
  | k + 1, x2, x8, x9, x10, x11, x13, x201000, x201001, x201002, x201003, x201004, x201005, x210000, x210001, x210002, x210003, x210004 => if x13 < (x11.length : Int) then (lF.l1 k x2 x8 x9 x10 x11 x13 0 x201000 x201001 x201002 x201003 x201004 x201005 x210000 x210001 x210002 x210003 x210004) else (lF.l2 k x2 x8 x9 x10 x11 (([] : List Int)) 0 x201000 x201001 x201002 x201003 x201004 x201005 x210000 x210001 x210002 x210003 x210004)
def lF.l1 : Nat → Int → List (S74) → List Int → Int → List Int → Int → Int → Int → Int → Int → Int → Int → Int → Int → Int → Int → Int → Int → Option (Bool)
  | 0, _, _, _, _, _, _, _, _, _, _, _, _, _, _, _, _, _, _ => none
  | k + 1, x2, x8, x9, x10, x11, x13, x14, x201000, x201001, x201002, x201003, x201004, x201005, x210000, x210001, x210002, x210003, x210004 => if x14 < x13 then ((smaltolaw03_own.f x8).bind fun t225 => (if 0 ≤ x14 then (if x14 < (x11.length : Int) then (if 0 ≤ x13 then (if x13 < (x11.length : Int) then ((goesC.f x210000 x210001 x210002 x210003 x210004 t225 (([rd x11 x14, rd x11 x13] : List Int))).bind fun bt233 => (if bt233.1 = true then (some false) else (lF.l1 k x2 x8 x9 x10 x11 x13 (wrap64 (x14 + 1)) x201000 x201001 x201002 x201003 x201004 x201005 x210000 x210001 x210002 x210003 x210004))) else (none)) else (none)) else (none)) else (none))) else (lF.l0 k x2 x8 x9 x10 x11 (wrap64 (x13 + 1)) x201000 x201001 x201002 x201003 x201004 x201005 x210000 x210001 x210002 x210003 x210004)
def lF.l2 : Nat → Int → List (S74) → List Int → Int → List Int → List Int → Int → Int → Int → Int → Int → Int → Int → Int → Int → Int → Int → Int → Option (Bool)
  | 0, _, _, _, _, _, _, _, _, _, _, _, _, _, _, _, _, _, _ => none
  | k + 1, x2, x8, x9, x10, x11, x18, x21, x201000, x201001, x201002, x201003, x201004, x201005, x210000, x210001, x210002, x210003, x210004 => if x21 < (x8.length : Int) then (if 0 ≤ x21 then (if x21 < 6 then (if x18.length < 17592186044416 then (lF.l2 k x2 x8 x9 x10 x11 (x18 ++ [Int.tmod (wrap64 (rd [x201000, x201001, x201002, x201003, x201004, x201005] x21)) 6]) (wrap64 (x21 + 1)) x201000 x201001 x201002 x201003 x201004 x201005 x210000 x210001 x210002 x210003 x210004) else (none)) else (none)) else (none)) else (lF.l3 k x2 x8 x9 x10 x11 x18 true 0 0 x210000 x210001 x210002 x210003 x210004)
def lF.l3 : Nat → Int → List (S74) → List Int → Int → List Int → List Int → Bool → Int → Int → Int → Int → Int → Int → Int → Option (Bool)
  | 0, _, _, _, _, _, _, _, _, _, _, _, _, _, _ => none
  | k + 1, x2, x8, x9, x10, x11, x18, x19, x20, x22, x210000, x210001, x210002, x210003, x210004 => if x22 < 6 then ((smaltolaw03_of.f k x18 x22).bind fun t243 => ((smaltolaw03_own.f x8).bind fun t246 => ((goesC.f x210000 x210001 x210002 x210003 x210004 t246 t243).bind fun bt249 => (if x19 = true then (if (t243.length : Int) > 0 then (lF.l3 k x2 x8 x9 x10 x11 x18 bt249.1 (wrap64 (x20 + 1)) (wrap64 (x22 + 1)) x210000 x210001 x210002 x210003 x210004) else (lF.l3 k x2 x8 x9 x10 x11 x18 bt249.1 x20 (wrap64 (x22 + 1)) x210000 x210001 x210002 x210003 x210004)) else (if (t243.length : Int) > 0 then (lF.l3 k x2 x8 x9 x10 x11 x18 false (wrap64 (x20 + 1)) (wrap64 (x22 + 1)) x210000 x210001 x210002 x210003 x210004) else (lF.l3 k x2 x8 x9 x10 x11 x18 false x20 (wrap64 (x22 + 1)) x210000 x210001 x210002 x210003 x210004)))))) else (lF.l4 k x2 x8 x9 x10 x11 x19 x20 0 0 x210000 x210001 x210002 x210003 x210004)
def lF.l4 : Nat → Int → List (S74) → List Int → Int → List Int → Bool → Int → Int → Int → Int → Int → Int → Int → Int → Option (Bool)
  | 0, _, _, _, _, _, _, _, _, _, _, _, _, _, _ => none
  | k + 1, x2, x8, x9, x10, x11, x19, x20, x27, x28, x210000, x210001, x210002, x210003, x210004 => if x28 < (x9.length : Int) then (if 0 ≤ x28 then (if (rd x9 x28) < 0 then (some false) else (if (rd x9 x28) > x27 then (some false) else (lF.l4 k x2 x8 x9 x10 x11 x19 x20 (mx x27 (wrap64 ((rd x9 x28) + 1))) (wrap64 (x28 + 1)) x210000 x210001 x210002 x210003 x210004))) else (none)) else (if x10 = 0 then (if (x9.length : Int) = (x8.length : Int) then (if x19 = true then (if x20 < x27 then (lF.j6 k x2 x8 x9 x27 true x210000 x210001 x210002 x210003 x210004) else (if (x11.length : Int) > x27 then (lF.j6 k x2 x8 x9 x27 true x210000 x210001 x210002 x210003 x210004) else (if (x8.length : Int) > 0 then (lF.j6 k x2 x8 x9 x27 ((x11.length : Int) == 0) x210000 x210001 x210002 x210003 x210004) else (lF.j6 k x2 x8 x9 x27 false x210000 x210001 x210002 x210003 x210004)))) else (if (x11.length : Int) > x27 then (lF.j6 k x2 x8 x9 x27 true x210000 x210001 x210002 x210003 x210004) else (if (x8.length : Int) > 0 then (lF.j6 k x2 x8 x9 x27 ((x11.length : Int) == 0) x210000 x210001 x210002 x210003 x210004) else (lF.j6 k x2 x8 x9 x27 false x210000 x210001 x210002 x210003 x210004)))) else (lF.j6 k x2 x8 x9 x27 true x210000 x210001 x210002 x210003 x210004)) else (if x19 = true then (some false) else ((knownC.f).bind fun _ => (some true))))
def lF.j6 : Nat → Int → List (S74) → List Int → Int → Bool → Int → Int → Int → Int → Int → Option (Bool)
  | 0, _, _, _, _, _, _, _, _, _, _ => none
  | k + 1, x2, x8, x9, x27, x217, x210000, x210001, x210002, x210003, x210004 => if x217 = true then (some false) else (lF.l5 k x2 x8 x9 x27 0 x210000 x210001 x210002 x210003 x210004)
def lF.l5 : Nat → Int → List (S74) → List Int → Int → Int → Int → Int → Int → Int → Int → Option (Bool)
  | 0, _, _, _, _, _, _, _, _, _, _ => none
  | k + 1, x2, x8, x9, x27, x29, x210000, x210001, x210002, x210003, x210004 => if x29 < x27 then ((smaltolaw03_own.f x8).bind fun t256 => ((smaltolaw03_of.f k x9 x29).bind fun t259 => ((goesC.f x210000 x210001 x210002 x210003 x210004 t256 t259).bind fun bt262 => (if bt262.1 = true then (lF.l5 k x2 x8 x9 x27 (wrap64 (x29 + 1)) x210000 x210001 x210002 x210003 x210004) else (some false))))) else (lF.l6 k x2 x8 x27 0 x210000 x210001 x210002 x210003 x210004)
def lF.l6 : Nat → Int → List (S74) → Int → Int → Int → Int → Int → Int → Int → Option (Bool)
  | 0, _, _, _, _, _, _, _, _, _ => none
  | k + 1, x2, x8, x27, x33, x210000, x210001, x210002, x210003, x210004 => if x33 < 5 then ((smaltolaw03_own.f x8).bind fun t266 => (if x33 = 0 then (lF.j9 k x2 x8 x27 x33 t266 x210000 x210001 x210002 x210003 x210004 x210000 x210001 x210002 (wrap64 (x210003 + 30)) x210004) else (if x33 = 1 then (lF.j9 k x2 x8 x27 x33 t266 x210000 x210001 x210002 x210003 x210004 x210000 (wrap64 (x210001 + 20)) x210002 x210003 x210004) else (if x33 = 2 then (lF.j9 k x2 x8 x27 x33 t266 x210000 x210001 x210002 x210003 x210004 x210000 x210001 x210002 x210003 (wrap64 (x210004 + 10))) else (if x33 = 3 then (lF.j9 k x2 x8 x27 x33 t266 x210000 x210001 x210002 x210003 x210004 (mn 3 (wrap64 (x210000 + 1))) x210001 x210002 x210003 x210004) else (if (x8.length : Int) > 0 then (if (x8.length : Int) = 0 then (none) else (if 0 ≤ (Int.tmod (wrap64 (x2)) (x8.length : Int)) then (if (Int.tmod (wrap64 (x2)) (x8.length : Int)) ≤ (x8.length : Int) then ((smaltolaw03_own.f (x8.take ((Int.tmod (wrap64 (x2)) (x8.length : Int)) : Int).toNat)).bind fun t274 => (if 0 ≤ (wrap64 ((Int.tmod (wrap64 (x2)) (x8.length : Int)) + 1)) then (if (wrap64 ((Int.tmod (wrap64 (x2)) (x8.length : Int)) + 1)) ≤ (x8.length : Int) then ((some (x8.drop ((wrap64 ((Int.tmod (wrap64 (x2)) (x8.length : Int)) + 1)) : Int).toNat : List (S74))).bind fun y277 => (if t274.length + y277.length < 2932031007402 then (lF.j9 k x2 x8 x27 x33 (t274 ++ y277) x210000 x210001 x210002 x210003 x210004 x210000 x210001 x210002 x210003 x210004) else (none))) else (none)) else (none))) else (none)) else (none))) else (lF.j9 k x2 x8 x27 x33 t266 x210000 x210001 x210002 x210003 x210004 x210000 x210001 x210002 x210003 x210004))))))) else ((knownC.f).bind fun _ => (some true))
def lF.j9 : Nat → Int → List (S74) → Int → Int → List (S74) → Int → Int → Int → Int → Int → Int → Int → Int → Int → Int → Option (Bool)
  | 0, _, _, _, _, _, _, _, _, _, _, _, _, _, _, _ => none
  | k + 1, x2, x8, x27, x33, x35, x210000, x210001, x210002, x210003, x210004, x270000, x270001, x270002, x270003, x270004 => (fork_Loads.f x270000 x270001 x270002 x270003 x270004 x35).bind fun bt284 => (if bt284.2 = 0 then (lF.l7 k x2 x8 x27 x33 bt284.1 0 x210000 x210001 x210002 x210003 x210004) else (some false))
def lF.l7 : Nat → Int → List (S74) → Int → Int → List Int → Int → Int → Int → Int → Int → Int → Option (Bool)
  | 0, _, _, _, _, _, _, _, _, _, _, _ => none
  | k + 1, x2, x8, x27, x33, x37, x39, x210000, x210001, x210002, x210003, x210004 => if x39 < (x37.length : Int) then (if 0 ≤ x39 then (if (rd x37 x39) < 0 then (some false) else (if (rd x37 x39) ≥ x27 then (some false) else (lF.l7 k x2 x8 x27 x33 x37 (wrap64 (x39 + 1)) x210000 x210001 x210002 x210003 x210004))) else (none)) else (lF.l6 k x2 x8 x27 (wrap64 (x33 + 1)) x210000 x210001 x210002 x210003 x210004)
end
def lF.f (k : Nat) (a0_0 : Int) (a0_1 : Int) (a0_2 : Int) (a0_3 : Int) (a0_4 : Int) (l0_5 : List (S63)) (a1_0 : Int) (a1_1 : Int) (a1_2 : Int) (a1_3 : Int) (a1_4 : Int) (a1_5 : Int) (a2 : Int) : Option (Bool) := (smaltolaw03_Rack_made.f a0_0 a0_1 a0_2 a0_3 a0_4 l0_5).bind fun bt201 => ((smaltolaw03_own.f bt201.2.2.2.2.2).bind fun t210 => ((fork_Loads.f bt201.1 bt201.2.1 bt201.2.2.1 bt201.2.2.2.1 bt201.2.2.2.2.1 t210).bind fun bt213 => ((smaltolaw03_own.f bt201.2.2.2.2.2).bind fun t217 => ((apartC.f bt201.1 bt201.2.1 bt201.2.2.1 bt201.2.2.2.1 bt201.2.2.2.2.1 t217).bind fun t220 => ((upC.f k t220 (bt201.2.2.2.2.2.length : Int)).bind fun _ => (if bt213.2 = 0 then (lF.j0 k a2 bt201.2.2.2.2.2 bt213.1 bt213.2 t220 false a1_0 a1_1 a1_2 a1_3 a1_4 a1_5 bt201.1 bt201.2.1 bt201.2.2.1 bt201.2.2.2.1 bt201.2.2.2.2.1) else (if bt213.2 = 7 then (lF.j0 k a2 bt201.2.2.2.2.2 bt213.1 bt213.2 t220 ((bt213.1.length : Int) != 0) a1_0 a1_1 a1_2 a1_3 a1_4 a1_5 bt201.1 bt201.2.1 bt201.2.2.1 bt201.2.2.2.1 bt201.2.2.2.2.1) else (lF.j0 k a2 bt201.2.2.2.2.2 bt213.1 bt213.2 t220 true a1_0 a1_1 a1_2 a1_3 a1_4 a1_5 bt201.1 bt201.2.1 bt201.2.2.1 bt201.2.2.2.1 bt201.2.2.2.2.1))))))))
theorem lF.mono_l : ∀ k, (∀ y0 y1 y2 y3 y4 y5 y6 y7 y8 y9 y10 y11 y12 y13 y14 y15 y16, LeO (lF.j0 k y0 y1 y2 y3 y4 y5 y6 y7 y8 y9 y10 y11 y12 y13 y14 y15 y16) (lF.j0 (k + 1) y0 y1 y2 y3 y4 y5 y6 y7 y8 y9 y10 y11 y12 y13 y14 y15 y16)) ∧ (∀ y0 y1 y2 y3 y4 y5 y6 y7 y8 y9 y10 y11 y12 y13 y14 y15 y16, LeO (lF.l0 k y0 y1 y2 y3 y4 y5 y6 y7 y8 y9 y10 y11 y12 y13 y14 y15 y16) (lF.l0 (k + 1) y0 y1 y2 y3 y4 y5 y6 y7 y8 y9 y10 y11 y12 y13 y14 y15 y16)) ∧ (∀ y0 y1 y2 y3 y4 y5 y6 y7 y8 y9 y10 y11 y12 y13 y14 y15 y16 y17, LeO (lF.l1 k y0 y1 y2 y3 y4 y5 y6 y7 y8 y9 y10 y11 y12 y13 y14 y15 y16 y17) (lF.l1 (k + 1) y0 y1 y2 y3 y4 y5 y6 y7 y8 y9 y10 y11 y12 y13 y14 y15 y16 y17)) ∧ (∀ y0 y1 y2 y3 y4 y5 y6 y7 y8 y9 y10 y11 y12 y13 y14 y15 y16 y17, LeO (lF.l2 k y0 y1 y2 y3 y4 y5 y6 y7 y8 y9 y10 y11 y12 y13 y14 y15 y16 y17) (lF.l2 (k + 1) y0 y1 y2 y3 y4 y5 y6 y7 y8 y9 y10 y11 y12 y13 y14 y15 y16 y17)) ∧ (∀ y0 y1 y2 y3 y4 y5 y6 y7 y8 y9 y10 y11 y12 y13, LeO (lF.l3 k y0 y1 y2 y3 y4 y5 y6 y7 y8 y9 y10 y11 y12 y13) (lF.l3 (k + 1) y0 y1 y2 y3 y4 y5 y6 y7 y8 y9 y10 y11 y12 y13)) ∧ (∀ y0 y1 y2 y3 y4 y5 y6 y7 y8 y9 y10 y11 y12 y13, LeO (lF.l4 k y0 y1 y2 y3 y4 y5 y6 y7 y8 y9 y10 y11 y12 y13) (lF.l4 (k + 1) y0 y1 y2 y3 y4 y5 y6 y7 y8 y9 y10 y11 y12 y13)) ∧ (∀ y0 y1 y2 y3 y4 y5 y6 y7 y8 y9, LeO (lF.j6 k y0 y1 y2 y3 y4 y5 y6 y7 y8 y9) (lF.j6 (k + 1) y0 y1 y2 y3 y4 y5 y6 y7 y8 y9)) ∧ (∀ y0 y1 y2 y3 y4 y5 y6 y7 y8 y9, LeO (lF.l5 k y0 y1 y2 y3 y4 y5 y6 y7 y8 y9) (lF.l5 (k + 1) y0 y1 y2 y3 y4 y5 y6 y7 y8 y9)) ∧ (∀ y0 y1 y2 y3 y4 y5 y6 y7 y8, LeO (lF.l6 k y0 y1 y2 y3 y4 y5 y6 y7 y8) (lF.l6 (k + 1) y0 y1 y2 y3 y4 y5 y6 y7 y8)) ∧ (∀ y0 y1 y2 y3 y4 y5 y6 y7 y8 y9 y10 y11 y12 y13 y14, LeO (lF.j9 k y0 y1 y2 y3 y4 y5 y6 y7 y8 y9 y10 y11 y12 y13 y14) (lF.j9 (k + 1) y0 y1 y2 y3 y4 y5 y6 y7 y8 y9 y10 y11 y12 y13 y14)) ∧ (∀ y0 y1 y2 y3 y4 y5 y6 y7 y8 y9 y10, LeO (lF.l7 k y0 y1 y2 y3 y4 y5 y6 y7 y8 y9 y10) (lF.l7 (k + 1) y0 y1 y2 y3 y4 y5 y6 y7 y8 y9 y10))
  | 0 => ⟨fun _ _ _ _ _ _ _ _ _ _ _ _ _ _ _ _ _ r h => by simp [lF.j0] at h, fun _ _ _ _ _ _ _ _ _ _ _ _ _ _ _ _ _ r h => by simp [lF.l0] at h, fun _ _ _ _ _ _ _ _ _ _ _ _ _ _ _ _ _ _ r h => by simp [lF.l1] at h, fun _ _ _ _ _ _ _ _ _ _ _ _ _ _ _ _ _ _ r h => by simp [lF.l2] at h, fun _ _ _ _ _ _ _ _ _ _ _ _ _ _ r h => by simp [lF.l3] at h, fun _ _ _ _ _ _ _ _ _ _ _ _ _ _ r h => by simp [lF.l4] at h, fun _ _ _ _ _ _ _ _ _ _ r h => by simp [lF.j6] at h, fun _ _ _ _ _ _ _ _ _ _ r h => by simp [lF.l5] at h, fun _ _ _ _ _ _ _ _ _ r h => by simp [lF.l6] at h, fun _ _ _ _ _ _ _ _ _ _ _ _ _ _ _ r h => by simp [lF.j9] at h, fun _ _ _ _ _ _ _ _ _ _ _ r h => by simp [lF.l7] at h⟩
  | k + 1 => by
    obtain ⟨ih0, ih1, ih2, ih3, ih4, ih5, ih6, ih7, ih8, ih9, ih10⟩ := lF.mono_l k
    refine ⟨?_, ?_, ?_, ?_, ?_, ?_, ?_, ?_, ?_, ?_, ?_⟩
    · intro y0 y1 y2 y3 y4 y5 y6 y7 y8 y9 y10 y11 y12 y13 y14 y15 y16
      unfold lF.j0
      repeat' first
      | (with_reducible exact ih0 _ _ _ _ _ _ _ _ _ _ _ _ _ _ _ _ _)
      | (with_reducible exact ih1 _ _ _ _ _ _ _ _ _ _ _ _ _ _ _ _ _)
      | (with_reducible exact ih2 _ _ _ _ _ _ _ _ _ _ _ _ _ _ _ _ _ _)
      | (with_reducible exact ih3 _ _ _ _ _ _ _ _ _ _ _ _ _ _ _ _ _ _)
      | (with_reducible exact ih4 _ _ _ _ _ _ _ _ _ _ _ _ _ _)
      | (with_reducible exact ih5 _ _ _ _ _ _ _ _ _ _ _ _ _ _)
      | (with_reducible exact ih6 _ _ _ _ _ _ _ _ _ _)
      | (with_reducible exact ih7 _ _ _ _ _ _ _ _ _ _)
      | (with_reducible exact ih8 _ _ _ _ _ _ _ _ _)
      | (with_reducible exact ih9 _ _ _ _ _ _ _ _ _ _ _ _ _ _ _)
      | (with_reducible exact ih10 _ _ _ _ _ _ _ _ _ _ _)
      | (with_reducible exact smaltolaw03_of.mono _ _ _)
      | (with_reducible exact upC.mono _ _ _)
      | (with_reducible exact LeO.refl _)
      | (with_reducible exact LeO.none _)
      | (with_reducible refine LeO.ite ?_ ?_)
      | (with_reducible refine LeO.bind ?_ (fun _ => ?_))
      | exact ih0 _ _ _ _ _ _ _ _ _ _ _ _ _ _ _ _ _
      | exact ih1 _ _ _ _ _ _ _ _ _ _ _ _ _ _ _ _ _
      | exact ih2 _ _ _ _ _ _ _ _ _ _ _ _ _ _ _ _ _ _
      | exact ih3 _ _ _ _ _ _ _ _ _ _ _ _ _ _ _ _ _ _
      | exact ih4 _ _ _ _ _ _ _ _ _ _ _ _ _ _
      | exact ih5 _ _ _ _ _ _ _ _ _ _ _ _ _ _
      | exact ih6 _ _ _ _ _ _ _ _ _ _
      | exact ih7 _ _ _ _ _ _ _ _ _ _
      | exact ih8 _ _ _ _ _ _ _ _ _
      | exact ih9 _ _ _ _ _ _ _ _ _ _ _ _ _ _ _
      | exact ih10 _ _ _ _ _ _ _ _ _ _ _
      | exact smaltolaw03_of.mono _ _ _
      | exact upC.mono _ _ _
      | exact LeO.none _
      | refine LeO.ite ?_ ?_
      | refine LeO.bind ?_ (fun _ => ?_)
    · intro y0 y1 y2 y3 y4 y5 y6 y7 y8 y9 y10 y11 y12 y13 y14 y15 y16
      unfold lF.l0
      repeat' first
      | (with_reducible exact ih0 _ _ _ _ _ _ _ _ _ _ _ _ _ _ _ _ _)
      | (with_reducible exact ih1 _ _ _ _ _ _ _ _ _ _ _ _ _ _ _ _ _)
      | (with_reducible exact ih2 _ _ _ _ _ _ _ _ _ _ _ _ _ _ _ _ _ _)
      | (with_reducible exact ih3 _ _ _ _ _ _ _ _ _ _ _ _ _ _ _ _ _ _)
      | (with_reducible exact ih4 _ _ _ _ _ _ _ _ _ _ _ _ _ _)
      | (with_reducible exact ih5 _ _ _ _ _ _ _ _ _ _ _ _ _ _)
      | (with_reducible exact ih6 _ _ _ _ _ _ _ _ _ _)
      | (with_reducible exact ih7 _ _ _ _ _ _ _ _ _ _)
      | (with_reducible exact ih8 _ _ _ _ _ _ _ _ _)
      | (with_reducible exact ih9 _ _ _ _ _ _ _ _ _ _ _ _ _ _ _)
      | (with_reducible exact ih10 _ _ _ _ _ _ _ _ _ _ _)
      | (with_reducible exact smaltolaw03_of.mono _ _ _)
      | (with_reducible exact upC.mono _ _ _)
      | (with_reducible exact LeO.refl _)
      | (with_reducible exact LeO.none _)
      | (with_reducible refine LeO.ite ?_ ?_)
      | (with_reducible refine LeO.bind ?_ (fun _ => ?_))
      | exact ih0 _ _ _ _ _ _ _ _ _ _ _ _ _ _ _ _ _
      | exact ih1 _ _ _ _ _ _ _ _ _ _ _ _ _ _ _ _ _
      | exact ih2 _ _ _ _ _ _ _ _ _ _ _ _ _ _ _ _ _ _
      | exact ih3 _ _ _ _ _ _ _ _ _ _ _ _ _ _ _ _ _ _
      | exact ih4 _ _ _ _ _ _ _ _ _ _ _ _ _ _
      | exact ih5 _ _ _ _ _ _ _ _ _ _ _ _ _ _
      | exact ih6 _ _ _ _ _ _ _ _ _ _
      | exact ih7 _ _ _ _ _ _ _ _ _ _
      | exact ih8 _ _ _ _ _ _ _ _ _
      | exact ih9 _ _ _ _ _ _ _ _ _ _ _ _ _ _ _
      | exact ih10 _ _ _ _ _ _ _ _ _ _ _
      | exact smaltolaw03_of.mono _ _ _
      | exact upC.mono _ _ _
      | exact LeO.none _
      | refine LeO.ite ?_ ?_
      | refine LeO.bind ?_ (fun _ => ?_)
    · intro y0 y1 y2 y3 y4 y5 y6 y7 y8 y9 y10 y11 y12 y13 y14 y15 y16 y17
      unfold lF.l1
      repeat' first
      | (with_reducible exact ih0 _ _ _ _ _ _ _ _ _ _ _ _ _ _ _ _ _)
      | (with_reducible exact ih1 _ _ _ _ _ _ _ _ _ _ _ _ _ _ _ _ _)
      | (with_reducible exact ih2 _ _ _ _ _ _ _ _ _ _ _ _ _ _ _ _ _ _)
      | (with_reducible exact ih3 _ _ _ _ _ _ _ _ _ _ _ _ _ _ _ _ _ _)
      | (with_reducible exact ih4 _ _ _ _ _ _ _ _ _ _ _ _ _ _)
      | (with_reducible exact ih5 _ _ _ _ _ _ _ _ _ _ _ _ _ _)
      | (with_reducible exact ih6 _ _ _ _ _ _ _ _ _ _)
      | (with_reducible exact ih7 _ _ _ _ _ _ _ _ _ _)
      | (with_reducible exact ih8 _ _ _ _ _ _ _ _ _)
      | (with_reducible exact ih9 _ _ _ _ _ _ _ _ _ _ _ _ _ _ _)
      | (with_reducible exact ih10 _ _ _ _ _ _ _ _ _ _ _)
      | (with_reducible exact smaltolaw03_of.mono _ _ _)
      | (with_reducible exact upC.mono _ _ _)
      | (with_reducible exact LeO.refl _)
      | (with_reducible exact LeO.none _)
      | (with_reducible refine LeO.ite ?_ ?_)
      | (with_reducible refine LeO.bind ?_ (fun _ => ?_))
      | exact ih0 _ _ _ _ _ _ _ _ _ _ _ _ _ _ _ _ _
      | exact ih1 _ _ _ _ _ _ _ _ _ _ _ _ _ _ _ _ _
      | exact ih2 _ _ _ _ _ _ _ _ _ _ _ _ _ _ _ _ _ _
      | exact ih3 _ _ _ _ _ _ _ _ _ _ _ _ _ _ _ _ _ _
      | exact ih4 _ _ _ _ _ _ _ _ _ _ _ _ _ _
      | exact ih5 _ _ _ _ _ _ _ _ _ _ _ _ _ _
      | exact ih6 _ _ _ _ _ _ _ _ _ _
      | exact ih7 _ _ _ _ _ _ _ _ _ _
      | exact ih8 _ _ _ _ _ _ _ _ _
      | exact ih9 _ _ _ _ _ _ _ _ _ _ _ _ _ _ _
      | exact ih10 _ _ _ _ _ _ _ _ _ _ _
      | exact smaltolaw03_of.mono _ _ _
      | exact upC.mono _ _ _
      | exact LeO.none _
      | refine LeO.ite ?_ ?_
      | refine LeO.bind ?_ (fun _ => ?_)
    · intro y0 y1 y2 y3 y4 y5 y6 y7 y8 y9 y10 y11 y12 y13 y14 y15 y16 y17
      unfold lF.l2
      repeat' first
      | (with_reducible exact ih0 _ _ _ _ _ _ _ _ _ _ _ _ _ _ _ _ _)
      | (with_reducible exact ih1 _ _ _ _ _ _ _ _ _ _ _ _ _ _ _ _ _)
      | (with_reducible exact ih2 _ _ _ _ _ _ _ _ _ _ _ _ _ _ _ _ _ _)
      | (with_reducible exact ih3 _ _ _ _ _ _ _ _ _ _ _ _ _ _ _ _ _ _)
      | (with_reducible exact ih4 _ _ _ _ _ _ _ _ _ _ _ _ _ _)
      | (with_reducible exact ih5 _ _ _ _ _ _ _ _ _ _ _ _ _ _)
      | (with_reducible exact ih6 _ _ _ _ _ _ _ _ _ _)
      | (with_reducible exact ih7 _ _ _ _ _ _ _ _ _ _)
      | (with_reducible exact ih8 _ _ _ _ _ _ _ _ _)
      | (with_reducible exact ih9 _ _ _ _ _ _ _ _ _ _ _ _ _ _ _)
      | (with_reducible exact ih10 _ _ _ _ _ _ _ _ _ _ _)
      | (with_reducible exact smaltolaw03_of.mono _ _ _)
      | (with_reducible exact upC.mono _ _ _)
      | (with_reducible exact LeO.refl _)
      | (with_reducible exact LeO.none _)
      | (with_reducible refine LeO.ite ?_ ?_)
      | (with_reducible refine LeO.bind ?_ (fun _ => ?_))
      | exact ih0 _ _ _ _ _ _ _ _ _ _ _ _ _ _ _ _ _
      | exact ih1 _ _ _ _ _ _ _ _ _ _ _ _ _ _ _ _ _
      | exact ih2 _ _ _ _ _ _ _ _ _ _ _ _ _ _ _ _ _ _
      | exact ih3 _ _ _ _ _ _ _ _ _ _ _ _ _ _ _ _ _ _
      | exact ih4 _ _ _ _ _ _ _ _ _ _ _ _ _ _
      | exact ih5 _ _ _ _ _ _ _ _ _ _ _ _ _ _
      | exact ih6 _ _ _ _ _ _ _ _ _ _
      | exact ih7 _ _ _ _ _ _ _ _ _ _
      | exact ih8 _ _ _ _ _ _ _ _ _
      | exact ih9 _ _ _ _ _ _ _ _ _ _ _ _ _ _ _
      | exact ih10 _ _ _ _ _ _ _ _ _ _ _
      | exact smaltolaw03_of.mono _ _ _
      | exact upC.mono _ _ _
      | exact LeO.none _
      | refine LeO.ite ?_ ?_
      | refine LeO.bind ?_ (fun _ => ?_)
    · intro y0 y1 y2 y3 y4 y5 y6 y7 y8 y9 y10 y11 y12 y13
      unfold lF.l3
      repeat' first
      | (with_reducible exact ih0 _ _ _ _ _ _ _ _ _ _ _ _ _ _ _ _ _)
      | (with_reducible exact ih1 _ _ _ _ _ _ _ _ _ _ _ _ _ _ _ _ _)
      | (with_reducible exact ih2 _ _ _ _ _ _ _ _ _ _ _ _ _ _ _ _ _ _)
      | (with_reducible exact ih3 _ _ _ _ _ _ _ _ _ _ _ _ _ _ _ _ _ _)
      | (with_reducible exact ih4 _ _ _ _ _ _ _ _ _ _ _ _ _ _)
      | (with_reducible exact ih5 _ _ _ _ _ _ _ _ _ _ _ _ _ _)
      | (with_reducible exact ih6 _ _ _ _ _ _ _ _ _ _)
      | (with_reducible exact ih7 _ _ _ _ _ _ _ _ _ _)
      | (with_reducible exact ih8 _ _ _ _ _ _ _ _ _)
      | (with_reducible exact ih9 _ _ _ _ _ _ _ _ _ _ _ _ _ _ _)
      | (with_reducible exact ih10 _ _ _ _ _ _ _ _ _ _ _)
      | (with_reducible exact smaltolaw03_of.mono _ _ _)
      | (with_reducible exact upC.mono _ _ _)
      | (with_reducible exact LeO.refl _)
      | (with_reducible exact LeO.none _)
      | (with_reducible refine LeO.ite ?_ ?_)
      | (with_reducible refine LeO.bind ?_ (fun _ => ?_))
      | exact ih0 _ _ _ _ _ _ _ _ _ _ _ _ _ _ _ _ _
      | exact ih1 _ _ _ _ _ _ _ _ _ _ _ _ _ _ _ _ _
      | exact ih2 _ _ _ _ _ _ _ _ _ _ _ _ _ _ _ _ _ _
      | exact ih3 _ _ _ _ _ _ _ _ _ _ _ _ _ _ _ _ _ _
      | exact ih4 _ _ _ _ _ _ _ _ _ _ _ _ _ _
      | exact ih5 _ _ _ _ _ _ _ _ _ _ _ _ _ _
      | exact ih6 _ _ _ _ _ _ _ _ _ _
      | exact ih7 _ _ _ _ _ _ _ _ _ _
      | exact ih8 _ _ _ _ _ _ _ _ _
      | exact ih9 _ _ _ _ _ _ _ _ _ _ _ _ _ _ _
      | exact ih10 _ _ _ _ _ _ _ _ _ _ _
      | exact smaltolaw03_of.mono _ _ _
      | exact upC.mono _ _ _
      | exact LeO.none _
      | refine LeO.ite ?_ ?_
      | refine LeO.bind ?_ (fun _ => ?_)
    · intro y0 y1 y2 y3 y4 y5 y6 y7 y8 y9 y10 y11 y12 y13
      unfold lF.l4
      repeat' first
      | (with_reducible exact ih0 _ _ _ _ _ _ _ _ _ _ _ _ _ _ _ _ _)
      | (with_reducible exact ih1 _ _ _ _ _ _ _ _ _ _ _ _ _ _ _ _ _)
      | (with_reducible exact ih2 _ _ _ _ _ _ _ _ _ _ _ _ _ _ _ _ _ _)
      | (with_reducible exact ih3 _ _ _ _ _ _ _ _ _ _ _ _ _ _ _ _ _ _)
      | (with_reducible exact ih4 _ _ _ _ _ _ _ _ _ _ _ _ _ _)
      | (with_reducible exact ih5 _ _ _ _ _ _ _ _ _ _ _ _ _ _)
      | (with_reducible exact ih6 _ _ _ _ _ _ _ _ _ _)
      | (with_reducible exact ih7 _ _ _ _ _ _ _ _ _ _)
      | (with_reducible exact ih8 _ _ _ _ _ _ _ _ _)
      | (with_reducible exact ih9 _ _ _ _ _ _ _ _ _ _ _ _ _ _ _)
      | (with_reducible exact ih10 _ _ _ _ _ _ _ _ _ _ _)
      | (with_reducible exact smaltolaw03_of.mono _ _ _)
      | (with_reducible exact upC.mono _ _ _)
      | (with_reducible exact LeO.refl _)
      | (with_reducible exact LeO.none _)
      | (with_reducible refine LeO.ite ?_ ?_)
      | (with_reducible refine LeO.bind ?_ (fun _ => ?_))
      | exact ih0 _ _ _ _ _ _ _ _ _ _ _ _ _ _ _ _ _
      | exact ih1 _ _ _ _ _ _ _ _ _ _ _ _ _ _ _ _ _
      | exact ih2 _ _ _ _ _ _ _ _ _ _ _ _ _ _ _ _ _ _
      | exact ih3 _ _ _ _ _ _ _ _ _ _ _ _ _ _ _ _ _ _
      | exact ih4 _ _ _ _ _ _ _ _ _ _ _ _ _ _
      | exact ih5 _ _ _ _ _ _ _ _ _ _ _ _ _ _
      | exact ih6 _ _ _ _ _ _ _ _ _ _
      | exact ih7 _ _ _ _ _ _ _ _ _ _
      | exact ih8 _ _ _ _ _ _ _ _ _
      | exact ih9 _ _ _ _ _ _ _ _ _ _ _ _ _ _ _
      | exact ih10 _ _ _ _ _ _ _ _ _ _ _
      | exact smaltolaw03_of.mono _ _ _
      | exact upC.mono _ _ _
      | exact LeO.none _
      | refine LeO.ite ?_ ?_
      | refine LeO.bind ?_ (fun _ => ?_)
    · intro y0 y1 y2 y3 y4 y5 y6 y7 y8 y9
      unfold lF.j6
      repeat' first
      | (with_reducible exact ih0 _ _ _ _ _ _ _ _ _ _ _ _ _ _ _ _ _)
      | (with_reducible exact ih1 _ _ _ _ _ _ _ _ _ _ _ _ _ _ _ _ _)
      | (with_reducible exact ih2 _ _ _ _ _ _ _ _ _ _ _ _ _ _ _ _ _ _)
      | (with_reducible exact ih3 _ _ _ _ _ _ _ _ _ _ _ _ _ _ _ _ _ _)
      | (with_reducible exact ih4 _ _ _ _ _ _ _ _ _ _ _ _ _ _)
      | (with_reducible exact ih5 _ _ _ _ _ _ _ _ _ _ _ _ _ _)
      | (with_reducible exact ih6 _ _ _ _ _ _ _ _ _ _)
      | (with_reducible exact ih7 _ _ _ _ _ _ _ _ _ _)
      | (with_reducible exact ih8 _ _ _ _ _ _ _ _ _)
      | (with_reducible exact ih9 _ _ _ _ _ _ _ _ _ _ _ _ _ _ _)
      | (with_reducible exact ih10 _ _ _ _ _ _ _ _ _ _ _)
      | (with_reducible exact smaltolaw03_of.mono _ _ _)
      | (with_reducible exact upC.mono _ _ _)
      | (with_reducible exact LeO.refl _)
      | (with_reducible exact LeO.none _)
      | (with_reducible refine LeO.ite ?_ ?_)
      | (with_reducible refine LeO.bind ?_ (fun _ => ?_))
      | exact ih0 _ _ _ _ _ _ _ _ _ _ _ _ _ _ _ _ _
      | exact ih1 _ _ _ _ _ _ _ _ _ _ _ _ _ _ _ _ _
      | exact ih2 _ _ _ _ _ _ _ _ _ _ _ _ _ _ _ _ _ _
      | exact ih3 _ _ _ _ _ _ _ _ _ _ _ _ _ _ _ _ _ _
      | exact ih4 _ _ _ _ _ _ _ _ _ _ _ _ _ _
      | exact ih5 _ _ _ _ _ _ _ _ _ _ _ _ _ _
      | exact ih6 _ _ _ _ _ _ _ _ _ _
      | exact ih7 _ _ _ _ _ _ _ _ _ _
      | exact ih8 _ _ _ _ _ _ _ _ _
      | exact ih9 _ _ _ _ _ _ _ _ _ _ _ _ _ _ _
      | exact ih10 _ _ _ _ _ _ _ _ _ _ _
      | exact smaltolaw03_of.mono _ _ _
      | exact upC.mono _ _ _
      | exact LeO.none _
      | refine LeO.ite ?_ ?_
      | refine LeO.bind ?_ (fun _ => ?_)
    · intro y0 y1 y2 y3 y4 y5 y6 y7 y8 y9
      unfold lF.l5
      repeat' first
      | (with_reducible exact ih0 _ _ _ _ _ _ _ _ _ _ _ _ _ _ _ _ _)
      | (with_reducible exact ih1 _ _ _ _ _ _ _ _ _ _ _ _ _ _ _ _ _)
      | (with_reducible exact ih2 _ _ _ _ _ _ _ _ _ _ _ _ _ _ _ _ _ _)
      | (with_reducible exact ih3 _ _ _ _ _ _ _ _ _ _ _ _ _ _ _ _ _ _)
      | (with_reducible exact ih4 _ _ _ _ _ _ _ _ _ _ _ _ _ _)
      | (with_reducible exact ih5 _ _ _ _ _ _ _ _ _ _ _ _ _ _)
      | (with_reducible exact ih6 _ _ _ _ _ _ _ _ _ _)
      | (with_reducible exact ih7 _ _ _ _ _ _ _ _ _ _)
      | (with_reducible exact ih8 _ _ _ _ _ _ _ _ _)
      | (with_reducible exact ih9 _ _ _ _ _ _ _ _ _ _ _ _ _ _ _)
      | (with_reducible exact ih10 _ _ _ _ _ _ _ _ _ _ _)
      | (with_reducible exact smaltolaw03_of.mono _ _ _)
      | (with_reducible exact upC.mono _ _ _)
      | (with_reducible exact LeO.refl _)
      | (with_reducible exact LeO.none _)
      | (with_reducible refine LeO.ite ?_ ?_)
      | (with_reducible refine LeO.bind ?_ (fun _ => ?_))
      | exact ih0 _ _ _ _ _ _ _ _ _ _ _ _ _ _ _ _ _
      | exact ih1 _ _ _ _ _ _ _ _ _ _ _ _ _ _ _ _ _
      | exact ih2 _ _ _ _ _ _ _ _ _ _ _ _ _ _ _ _ _ _
      | exact ih3 _ _ _ _ _ _ _ _ _ _ _ _ _ _ _ _ _ _
      | exact ih4 _ _ _ _ _ _ _ _ _ _ _ _ _ _
      | exact ih5 _ _ _ _ _ _ _ _ _ _ _ _ _ _
      | exact ih6 _ _ _ _ _ _ _ _ _ _
      | exact ih7 _ _ _ _ _ _ _ _ _ _
      | exact ih8 _ _ _ _ _ _ _ _ _
      | exact ih9 _ _ _ _ _ _ _ _ _ _ _ _ _ _ _
      | exact ih10 _ _ _ _ _ _ _ _ _ _ _
      | exact smaltolaw03_of.mono _ _ _
      | exact upC.mono _ _ _
      | exact LeO.none _
      | refine LeO.ite ?_ ?_
      | refine LeO.bind ?_ (fun _ => ?_)
    · intro y0 y1 y2 y3 y4 y5 y6 y7 y8
      unfold lF.l6
      repeat' first
      | (with_reducible exact ih0 _ _ _ _ _ _ _ _ _ _ _ _ _ _ _ _ _)
      | (with_reducible exact ih1 _ _ _ _ _ _ _ _ _ _ _ _ _ _ _ _ _)
      | (with_reducible exact ih2 _ _ _ _ _ _ _ _ _ _ _ _ _ _ _ _ _ _)
      | (with_reducible exact ih3 _ _ _ _ _ _ _ _ _ _ _ _ _ _ _ _ _ _)
      | (with_reducible exact ih4 _ _ _ _ _ _ _ _ _ _ _ _ _ _)
      | (with_reducible exact ih5 _ _ _ _ _ _ _ _ _ _ _ _ _ _)
      | (with_reducible exact ih6 _ _ _ _ _ _ _ _ _ _)
      | (with_reducible exact ih7 _ _ _ _ _ _ _ _ _ _)
      | (with_reducible exact ih8 _ _ _ _ _ _ _ _ _)
      | (with_reducible exact ih9 _ _ _ _ _ _ _ _ _ _ _ _ _ _ _)
      | (with_reducible exact ih10 _ _ _ _ _ _ _ _ _ _ _)
      | (with_reducible exact smaltolaw03_of.mono _ _ _)
      | (with_reducible exact upC.mono _ _ _)
      | (with_reducible exact LeO.refl _)
      | (with_reducible exact LeO.none _)
      | (with_reducible refine LeO.ite ?_ ?_)
      | (with_reducible refine LeO.bind ?_ (fun _ => ?_))
      | exact ih0 _ _ _ _ _ _ _ _ _ _ _ _ _ _ _ _ _
      | exact ih1 _ _ _ _ _ _ _ _ _ _ _ _ _ _ _ _ _
      | exact ih2 _ _ _ _ _ _ _ _ _ _ _ _ _ _ _ _ _ _
      | exact ih3 _ _ _ _ _ _ _ _ _ _ _ _ _ _ _ _ _ _
      | exact ih4 _ _ _ _ _ _ _ _ _ _ _ _ _ _
      | exact ih5 _ _ _ _ _ _ _ _ _ _ _ _ _ _
      | exact ih6 _ _ _ _ _ _ _ _ _ _
      | exact ih7 _ _ _ _ _ _ _ _ _ _
      | exact ih8 _ _ _ _ _ _ _ _ _
      | exact ih9 _ _ _ _ _ _ _ _ _ _ _ _ _ _ _
      | exact ih10 _ _ _ _ _ _ _ _ _ _ _
      | exact smaltolaw03_of.mono _ _ _
      | exact upC.mono _ _ _
      | exact LeO.none _
      | refine LeO.ite ?_ ?_
      | refine LeO.bind ?_ (fun _ => ?_)
    · intro y0 y1 y2 y3 y4 y5 y6 y7 y8 y9 y10 y11 y12 y13 y14
      unfold lF.j9
      repeat' first
      | (with_reducible exact ih0 _ _ _ _ _ _ _ _ _ _ _ _ _ _ _ _ _)
      | (with_reducible exact ih1 _ _ _ _ _ _ _ _ _ _ _ _ _ _ _ _ _)
      | (with_reducible exact ih2 _ _ _ _ _ _ _ _ _ _ _ _ _ _ _ _ _ _)
      | (with_reducible exact ih3 _ _ _ _ _ _ _ _ _ _ _ _ _ _ _ _ _ _)
      | (with_reducible exact ih4 _ _ _ _ _ _ _ _ _ _ _ _ _ _)
      | (with_reducible exact ih5 _ _ _ _ _ _ _ _ _ _ _ _ _ _)
      | (with_reducible exact ih6 _ _ _ _ _ _ _ _ _ _)
      | (with_reducible exact ih7 _ _ _ _ _ _ _ _ _ _)
      | (with_reducible exact ih8 _ _ _ _ _ _ _ _ _)
      | (with_reducible exact ih9 _ _ _ _ _ _ _ _ _ _ _ _ _ _ _)
      | (with_reducible exact ih10 _ _ _ _ _ _ _ _ _ _ _)
      | (with_reducible exact smaltolaw03_of.mono _ _ _)
      | (with_reducible exact upC.mono _ _ _)
      | (with_reducible exact LeO.refl _)
      | (with_reducible exact LeO.none _)
      | (with_reducible refine LeO.ite ?_ ?_)
      | (with_reducible refine LeO.bind ?_ (fun _ => ?_))
      | exact ih0 _ _ _ _ _ _ _ _ _ _ _ _ _ _ _ _ _
      | exact ih1 _ _ _ _ _ _ _ _ _ _ _ _ _ _ _ _ _
      | exact ih2 _ _ _ _ _ _ _ _ _ _ _ _ _ _ _ _ _ _
      | exact ih3 _ _ _ _ _ _ _ _ _ _ _ _ _ _ _ _ _ _
      | exact ih4 _ _ _ _ _ _ _ _ _ _ _ _ _ _
      | exact ih5 _ _ _ _ _ _ _ _ _ _ _ _ _ _
      | exact ih6 _ _ _ _ _ _ _ _ _ _
      | exact ih7 _ _ _ _ _ _ _ _ _ _
      | exact ih8 _ _ _ _ _ _ _ _ _
      | exact ih9 _ _ _ _ _ _ _ _ _ _ _ _ _ _ _
      | exact ih10 _ _ _ _ _ _ _ _ _ _ _
      | exact smaltolaw03_of.mono _ _ _
      | exact upC.mono _ _ _
      | exact LeO.none _
      | refine LeO.ite ?_ ?_
      | refine LeO.bind ?_ (fun _ => ?_)
    · intro y0 y1 y2 y3 y4 y5 y6 y7 y8 y9 y10
      unfold lF.l7
      repeat' first
      | (with_reducible exact ih0 _ _ _ _ _ _ _ _ _ _ _ _ _ _ _ _ _)
      | (with_reducible exact ih1 _ _ _ _ _ _ _ _ _ _ _ _ _ _ _ _ _)
      | (with_reducible exact ih2 _ _ _ _ _ _ _ _ _ _ _ _ _ _ _ _ _ _)
      | (with_reducible exact ih3 _ _ _ _ _ _ _ _ _ _ _ _ _ _ _ _ _ _)
      | (with_reducible exact ih4 _ _ _ _ _ _ _ _ _ _ _ _ _ _)
      | (with_reducible exact ih5 _ _ _ _ _ _ _ _ _ _ _ _ _ _)
      | (with_reducible exact ih6 _ _ _ _ _ _ _ _ _ _)
      | (with_reducible exact ih7 _ _ _ _ _ _ _ _ _ _)
      | (with_reducible exact ih8 _ _ _ _ _ _ _ _ _)
      | (with_reducible exact ih9 _ _ _ _ _ _ _ _ _ _ _ _ _ _ _)
      | (with_reducible exact ih10 _ _ _ _ _ _ _ _ _ _ _)
      | (with_reducible exact smaltolaw03_of.mono _ _ _)
      | (with_reducible exact upC.mono _ _ _)
      | (with_reducible exact LeO.refl _)
      | (with_reducible exact LeO.none _)
      | (with_reducible refine LeO.ite ?_ ?_)
      | (with_reducible refine LeO.bind ?_ (fun _ => ?_))
      | exact ih0 _ _ _ _ _ _ _ _ _ _ _ _ _ _ _ _ _
      | exact ih1 _ _ _ _ _ _ _ _ _ _ _ _ _ _ _ _ _
      | exact ih2 _ _ _ _ _ _ _ _ _ _ _ _ _ _ _ _ _ _
      | exact ih3 _ _ _ _ _ _ _ _ _ _ _ _ _ _ _ _ _ _
      | exact ih4 _ _ _ _ _ _ _ _ _ _ _ _ _ _
      | exact ih5 _ _ _ _ _ _ _ _ _ _ _ _ _ _
      | exact ih6 _ _ _ _ _ _ _ _ _ _
      | exact ih7 _ _ _ _ _ _ _ _ _ _
      | exact ih8 _ _ _ _ _ _ _ _ _
      | exact ih9 _ _ _ _ _ _ _ _ _ _ _ _ _ _ _
      | exact ih10 _ _ _ _ _ _ _ _ _ _ _
      | exact smaltolaw03_of.mono _ _ _
      | exact upC.mono _ _ _
      | exact LeO.none _
      | refine LeO.ite ?_ ?_
      | refine LeO.bind ?_ (fun _ => ?_)
theorem lF.mono : ∀ a0 a1 a2 a3 a4 a5 a6 a7 a8 a9 a10 a11 a12 k, LeO (lF.f k a0 a1 a2 a3 a4 a5 a6 a7 a8 a9 a10 a11 a12) (lF.f (k + 1) a0 a1 a2 a3 a4 a5 a6 a7 a8 a9 a10 a11 a12) := by
  intro a0 a1 a2 a3 a4 a5 a6 a7 a8 a9 a10 a11 a12 k
  obtain ⟨ih0, ih1, ih2, ih3, ih4, ih5, ih6, ih7, ih8, ih9, ih10⟩ := lF.mono_l k
  unfold lF.f
  repeat' first
      | (with_reducible exact ih0 _ _ _ _ _ _ _ _ _ _ _ _ _ _ _ _ _)
      | (with_reducible exact ih1 _ _ _ _ _ _ _ _ _ _ _ _ _ _ _ _ _)
      | (with_reducible exact ih2 _ _ _ _ _ _ _ _ _ _ _ _ _ _ _ _ _ _)
      | (with_reducible exact ih3 _ _ _ _ _ _ _ _ _ _ _ _ _ _ _ _ _ _)
      | (with_reducible exact ih4 _ _ _ _ _ _ _ _ _ _ _ _ _ _)
      | (with_reducible exact ih5 _ _ _ _ _ _ _ _ _ _ _ _ _ _)
      | (with_reducible exact ih6 _ _ _ _ _ _ _ _ _ _)
      | (with_reducible exact ih7 _ _ _ _ _ _ _ _ _ _)
      | (with_reducible exact ih8 _ _ _ _ _ _ _ _ _)
      | (with_reducible exact ih9 _ _ _ _ _ _ _ _ _ _ _ _ _ _ _)
      | (with_reducible exact ih10 _ _ _ _ _ _ _ _ _ _ _)
      | (with_reducible exact smaltolaw03_of.mono _ _ _)
      | (with_reducible exact upC.mono _ _ _)
      | (with_reducible exact LeO.refl _)
      | (with_reducible exact LeO.none _)
      | (with_reducible refine LeO.ite ?_ ?_)
      | (with_reducible refine LeO.bind ?_ (fun _ => ?_))
      | exact ih0 _ _ _ _ _ _ _ _ _ _ _ _ _ _ _ _ _
      | exact ih1 _ _ _ _ _ _ _ _ _ _ _ _ _ _ _ _ _
      | exact ih2 _ _ _ _ _ _ _ _ _ _ _ _ _ _ _ _ _ _
      | exact ih3 _ _ _ _ _ _ _ _ _ _ _ _ _ _ _ _ _ _
      | exact ih4 _ _ _ _ _ _ _ _ _ _ _ _ _ _
      | exact ih5 _ _ _ _ _ _ _ _ _ _ _ _ _ _
      | exact ih6 _ _ _ _ _ _ _ _ _ _
      | exact ih7 _ _ _ _ _ _ _ _ _ _
      | exact ih8 _ _ _ _ _ _ _ _ _
      | exact ih9 _ _ _ _ _ _ _ _ _ _ _ _ _ _ _
      | exact ih10 _ _ _ _ _ _ _ _ _ _ _
      | exact smaltolaw03_of.mono _ _ _
      | exact upC.mono _ _ _
      | exact LeO.none _
      | refine LeO.ite ?_ ?_
      | refine LeO.bind ?_ (fun _ => ?_)
def lF.T2 : Bool × List (List Nat × List Nat) := (true, [([], []), ([], []), ([1], [1]), ([0, 2, 2], [0, 2]), ([3], [3]), ([4], [4]), ([4], [4]), ([5, 3, 0, 1, 2, 3, 4, 5], [5]), ([6, 7, 0, 1, 2, 3, 4, 5, 6, 7], [6])])
def lF.B2 : List Nat := [0, 0, 2, 7, 15, 31, 31, 63, 255]
theorem lF.tab2 : rtab .any (opsOf Tryd.f9 2) = lF.T2 := by kernel_rfl
theorem lF.bits2 : waitsOk lF.T2.2 lF.B2 = true := by kernel_rfl
def lF.T3 : Bool × List (List Nat × List Nat) := (true, [([], []), ([], []), ([1], [1]), ([0, 2, 2], [0, 2]), ([3], [3]), ([4], [4]), ([4], [4]), ([5, 3, 0, 1, 2, 3, 4, 5], [5]), ([6, 7, 0, 1, 2, 3, 4, 5, 6, 7], [6])])
def lF.B3 : List Nat := [0, 0, 2, 7, 15, 31, 31, 63, 255]
theorem lF.tab3 : rtab .any (opsOf Tryd.f9 3) = lF.T3 := by kernel_rfl
theorem lF.bits3 : waitsOk lF.T3.2 lF.B3 = true := by kernel_rfl
def lF.T12 : Bool × List (List Nat × List Nat) := (true, [([], []), ([], []), ([1], [1]), ([], []), ([], []), ([3, 4], [3, 4]), ([5], [5]), ([], []), ([], []), ([7, 8], [7, 8]), ([9], [9]), ([6, 10], [6, 10]), ([0, 2, 11, 2], [0, 2, 11]), ([12], [12]), ([13], [13]), ([13], [13]), ([13], [13]), ([14, 12, 0, 1, 2, 3, 4, 5, 6, 7, 8, 9, 10, 11, 12, 13, 14], [14]), ([15, 17, 0, 1, 2, 3, 4, 5, 6, 7, 8, 9, 10, 11, 12, 13, 14, 15, 17], [15]), ([16, 18, 0, 1, 2, 3, 4, 5, 6, 7, 8, 9, 10, 11, 12, 13, 14, 15, 16, 17, 18], [16])])
def lF.B12 : List Nat := [0, 0, 2, 0, 0, 24, 56, 0, 0, 384, 896, 2040, 4095, 8191, 16383, 16383, 16383, 32767, 196607, 524287]
theorem lF.tab12 : rtab .any (opsOf Tryd.f9 12) = lF.T12 := by kernel_rfl
theorem lF.bits12 : waitsOk lF.T12.2 lF.B12 = true := by kernel_rfl
def lF.T24 : Bool × List (List Nat × List Nat) := (true, [([], []), ([], []), ([1], [1]), ([], []), ([0, 2, 3, 2], [0, 2, 3]), ([4], [4]), ([5], [5]), ([5], [5]), ([5], [5]), ([6, 4, 0, 1, 2, 3, 4, 5, 6], [6]), ([7, 9, 0, 1, 2, 3, 4, 5, 6, 7, 9], [7]), ([8, 10, 0, 1, 2, 3, 4, 5, 6, 7, 8, 9, 10], [8])])
def lF.B24 : List Nat := [0, 0, 2, 0, 15, 31, 63, 63, 63, 127, 767, 2047]
theorem lF.tab24 : rtab .any (opsOf Tryd.f9 24) = lF.T24 := by kernel_rfl
theorem lF.bits24 : waitsOk lF.T24.2 lF.B24 = true := by kernel_rfl
def lF.T44 : Bool × List (List Nat × List Nat) := (true, [([], []), ([], []), ([1], [1]), ([], []), ([], []), ([3, 4, 2], [3, 4]), ([0, 2, 5, 5], [0, 2, 5]), ([6], [6]), ([7], [7]), ([7], [7]), ([7], [7]), ([8, 6, 0, 1, 2, 3, 4, 5, 6, 7, 8], [8]), ([9, 11, 0, 1, 2, 3, 4, 5, 6, 7, 8, 9, 11], [9]), ([10, 12, 0, 1, 2, 3, 4, 5, 6, 7, 8, 9, 10, 11, 12], [10])])
def lF.B44 : List Nat := [0, 0, 2, 0, 0, 30, 63, 127, 255, 255, 255, 511, 3071, 8191]
theorem lF.tab44 : rtab .any (opsOf Tryd.f9 44) = lF.T44 := by kernel_rfl
theorem lF.bits44 : waitsOk lF.T44.2 lF.B44 = true := by kernel_rfl
def lF.T54 : Bool × List (List Nat × List Nat) := (true, [([], []), ([], []), ([0, 1], [0, 1]), ([2], [2]), ([], []), ([], []), ([5], [5]), ([4, 6], [4, 6]), ([3, 7, 3], [3, 7]), ([8, 8, 0, 1, 2, 3, 4, 5, 6, 7, 8], [8])])
def lF.B54 : List Nat := [0, 0, 3, 7, 0, 0, 32, 112, 255, 511]
theorem lF.tab54 : rtab .any (opsOf Tryd.f9 54) = lF.T54 := by kernel_rfl
theorem lF.bits54 : waitsOk lF.T54.2 lF.B54 = true := by kernel_rfl
end Go.Proofs.YtbijamlgcebgeaaDoor.Q

-- part PF
namespace Go.Proofs.YtbijamlgcebgeaaDoor.Hand
open Go.RowKit Go.Shelf Go.Sort Go.Proofs.YtbijamlgcebgeaaDoorW.PrintWords Go.Proofs.YtbijamlgcebgeaaDoorW.PrintMore Go.Proofs.YtbijamlgcebgeaaDoor.Q
theorem apartC_f {F : Furn} (hF : F.Ok) : apartC.f F.bars F.length F.gap F.load F.near F.l = some (ilist (apartS F)) := by
  obtain ⟨s, hs⟩ := new_nil hF
  unfold apartC.f apartR
  rw [hs]
  rfl
section
variable {F : Furn} {v : Int} {m : Nat}
theorem few_l7 (t : Int) {y : List Int} (hl : y.length ≤ 6) (hy : ∀ z ∈ y, 0 ≤ z ∧ z < (m : Int)) : ∀ d (i q : Nat), i + d = y.length →
    lF.l7 (q + d + 1) v F.l m t y i F.bars F.length F.gap F.load F.near = lF.l6 q v F.l m (wrap64 (t + 1)) F.bars F.length F.gap F.load F.near := by
  intro d
  induction d with
  | zero =>
    intro i q hi
    rw [lF.l7, if_neg (by omega)]
  | succ d ih =>
    intro i q hi
    have hil : i < y.length := by omega
    have h1 := hy _ (List.getElem_mem hil)
    rw [← rd_get hil] at h1
    have := ih (i + 1) q (by omega)
    rw [show ((i + 1 : Nat) : Int) = (i : Int) + 1 by omega] at this
    rw [show q + (d + 1) + 1 = (q + d + 1) + 1 by omega, lF.l7, if_pos (by omega), if_pos (by omega), if_neg (by omega), if_neg (by omega), w64 (x := (i : Int) + 1) (by omega)]
    exact this
theorem few_j9 {G : Furn} (hG : G.Ok) (hok : (fewestB G).2.2 = true) (hm : (fewestB G).2.1 ≤ m) (t : Int) (q : Nat) :
    ∃ q', q ≤ q' ∧ lF.j9 (q + 10) v F.l m t G.l F.bars F.length F.gap F.load F.near G.bars G.length G.gap G.load G.near = lF.l6 q' v F.l m (wrap64 (t + 1)) F.bars F.length F.gap F.load F.near := by
  obtain ⟨g1, g2, _, _⟩ := fewest_some hG hok
  have hl := hG.len
  have hlen := g1.len
  refine ⟨q + 8 - G.l.length, by omega, ?_⟩
  rw [show q + 10 = (q + 9) + 1 by omega, lF.j9, loads_f hG, if_pos hok]
  simp only [bs]
  rw [if_pos trivial]
  have := few_l7 (F := F) (v := v) (m := m) t (y := (fewestB G).1) (by omega) (fun z hz => by have := g1.rng z hz; omega) G.l.length 0 (q + 8 - G.l.length) (by omega)
  rw [show q + 8 - G.l.length + G.l.length + 1 = q + 9 by omega] at this
  exact this
theorem few_l6 (hF : F.Ok) (hbd : F.load ≤ 295 ∧ F.length ≤ 129 ∧ F.near ≤ 39) (hok : (fewestB F).2.2 = true) (hv : 0 ≤ v ∧ v < 256) : ∀ d (t q : Nat), t + d = 5 → 12 * d + 5 ≤ q →
    lF.l6 q v F.l (fewestB F).2.1 t F.bars F.length F.gap F.load F.near = some true := by
  have hl := hF.len
  obtain ⟨b1, b2, b3⟩ := hbd
  have hFb := hF.bars
  have hFl := hF.length
  have hFd := hF.load
  have hFn := hF.near
  intro d
  induction d with
  | zero =>
    intro t q ht hq
    obtain ⟨q, rfl⟩ : ∃ p, q = p + 1 := ⟨q - 1, by omega⟩
    rw [lF.l6, if_neg (by omega)]
    rfl
  | succ d ih =>
    intro t q ht hq
    obtain ⟨q, rfl⟩ : ∃ p, q = (p + 10) + 1 := ⟨q - 11, by omega⟩
    have hnext : ∀ q', q ≤ q' → lF.l6 q' v F.l (fewestB F).2.1 (wrap64 ((t : Int) + 1)) F.bars F.length F.gap F.load F.near = some true := by
      intro q' hq'
      rw [w64 (by omega), show ((t : Int) + 1) = ((t + 1 : Nat) : Int) by omega]
      exact ih (t + 1) q' (by omega) (by omega)
    have hgo : ∀ G : Furn, G.Ok → G.l = F.l → Easier F G → lF.j9 (q + 10) v F.l (fewestB F).2.1 t G.l F.bars F.length F.gap F.load F.near G.bars G.length G.gap G.load G.near = some true := by
      intro G hG hGl he
      obtain ⟨e1, e2⟩ := few_easy hF hG hGl.symm he hok
      obtain ⟨q', h1, h2⟩ := few_j9 (F := F) (v := v) hG e1 e2 t q
      rw [h2]
      exact hnext q' h1
    rw [lF.l6, if_pos (by omega), own_f (by omega)]
    simp only [bs]
    by_cases t0 : t = 0
    · rw [if_pos (by omega), w64 (by omega)]
      exact hgo ⟨F.bars, F.length, F.gap, F.load + 30, F.near, F.l⟩ ⟨hF.bars, hF.length, hF.gap, ⟨by simp only; omega, by simp only; omega⟩, hF.near, hF.len, hF.signs⟩ rfl ⟨Int.le_refl _, Int.le_refl _, rfl, by simp only; omega, Int.le_refl _⟩
    rw [if_neg (by omega)]
    by_cases t1 : t = 1
    · rw [if_pos (by omega), w64 (by omega)]
      exact hgo ⟨F.bars, F.length + 20, F.gap, F.load, F.near, F.l⟩ ⟨hF.bars, ⟨by simp only; omega, by simp only; omega⟩, hF.gap, hF.load, hF.near, hF.len, hF.signs⟩ rfl ⟨Int.le_refl _, by simp only; omega, rfl, Int.le_refl _, Int.le_refl _⟩
    rw [if_neg (by omega)]
    by_cases t2 : t = 2
    · rw [if_pos (by omega), w64 (by omega)]
      exact hgo ⟨F.bars, F.length, F.gap, F.load, F.near + 10, F.l⟩ ⟨hF.bars, hF.length, hF.gap, hF.load, ⟨by simp only; omega, by simp only; omega⟩, hF.len, hF.signs⟩ rfl ⟨Int.le_refl _, Int.le_refl _, rfl, Int.le_refl _, by simp only; omega⟩
    rw [if_neg (by omega)]
    by_cases t3 : t = 3
    · rw [if_pos (by omega), w64 (by omega)]
      have hmn : mn 3 (F.bars + 1) = 3 ∨ mn 3 (F.bars + 1) = F.bars + 1 := by unfold mn; split <;> omega
      have hmn2 : F.bars ≤ mn 3 (F.bars + 1) ∧ mn 3 (F.bars + 1) ≤ 3 := by unfold mn; split <;> omega
      exact hgo ⟨mn 3 (F.bars + 1), F.length, F.gap, F.load, F.near, F.l⟩ ⟨⟨by simp only; omega, hmn2.2⟩, hF.length, hF.gap, hF.load, hF.near, hF.len, hF.signs⟩ rfl ⟨hmn2.1, Int.le_refl _, rfl, Int.le_refl _, Int.le_refl _⟩
    rw [if_neg (by omega)]
    by_cases hn : F.l.length = 0
    · rw [if_neg (by omega)]
      exact hgo F hF rfl ⟨Int.le_refl _, Int.le_refl _, rfl, Int.le_refl _, Int.le_refl _⟩
    · obtain ⟨b, rfl⟩ : ∃ b : Nat, v = b := ⟨v.toNat, by omega⟩
      have hat : b % F.l.length < F.l.length := Nat.mod_lt _ (by omega)
      rw [if_pos (by omega), if_neg (by omega), w64 (x := ((b : Nat) : Int)) (by omega), tmod_nat, if_pos (by omega), if_pos (by omega), Int.toNat_natCast, own_f (by rw [List.length_take]; omega)]
      simp only [bs]
      rw [w64 (by omega), if_pos (by omega), if_pos (by omega), show (((b % F.l.length : Nat) : Int) + 1).toNat = b % F.l.length + 1 by omega, if_pos (by rw [List.length_take, List.length_drop]; omega), ← List.eraseIdx_eq_take_drop_succ]
      obtain ⟨e1, e2, _⟩ := few_less hF hok hat
      obtain ⟨q', h1, h2⟩ := few_j9 (F := F) (v := ((b : Nat) : Int)) (less_ok hF (b % F.l.length)) e1 e2 t q
      have h2' : lF.j9 (q + 10) (b : Int) F.l (fewestB F).2.1 t (F.l.eraseIdx (b % F.l.length)) F.bars F.length F.gap F.load F.near F.bars F.length F.gap F.load F.near = lF.l6 q' (b : Int) F.l (fewestB F).2.1 (wrap64 ((t : Int) + 1)) F.bars F.length F.gap F.load F.near := h2
      rw [h2']
      exact hnext q' h1
theorem few_l5 (hF : F.Ok) (hbd : F.load ≤ 295 ∧ F.length ≤ 129 ∧ F.near ≤ 39) (hok : (fewestB F).2.2 = true) (hv : 0 ≤ v ∧ v < 256) : ∀ d (j q : Nat), j + d = (fewestB F).2.1 → d + 100 ≤ q →
    lF.l5 q v F.l (fewestB F).1 (fewestB F).2.1 j F.bars F.length F.gap F.load F.near = some true := by
  have hl := hF.len
  obtain ⟨g1, g2, _, _⟩ := fewest_some hF hok
  have hlen := g1.len
  intro d
  induction d with
  | zero =>
    intro j q hj hq
    obtain ⟨q, rfl⟩ : ∃ p, q = p + 1 := ⟨q - 1, by omega⟩
    rw [lF.l5, if_neg (by omega)]
    exact few_l6 hF hbd hok hv 5 0 q (by omega) (by omega)
  | succ d ih =>
    intro j q hj hq
    obtain ⟨q, rfl⟩ : ∃ p, q = p + 1 := ⟨q - 1, by omega⟩
    have := ih (j + 1) q (by omega) (by omega)
    rw [show ((j + 1 : Nat) : Int) = (j : Int) + 1 by omega] at this
    obtain ⟨p, hgo⟩ := goesC_f hF (is := idx (fewestB F).1 j) (idx_asc _ _) (fun a ha => by have := (idx_mem.1 ha).1; omega)
    rw [lF.l5, if_pos (by omega), own_f (by omega)]
    simp only [bs]
    rw [of_f (by omega) _ _ (by omega)]
    simp only [bs]
    unfold ofL
    rw [hgo]
    simp only [bs]
    rw [if_pos (g1.goes j), w64 (by omega)]
    exact this
/-- Behind the loads that were tried: there are fewest loads. -/
theorem few_l4 (hF : F.Ok) (hbd : F.load ≤ 295 ∧ F.length ≤ 129 ∧ F.near ≤ 39) (hok : (fewestB F).2.2 = true) (hv : 0 ≤ v ∧ v < 256) (fits : Bool) (most : Nat) (hfm : fits = true → (fewestB F).2.1 ≤ most) : ∀ d (i q : Nat), i + d = F.l.length → d + 300 ≤ q →
    lF.l4 q v F.l (fewestB F).1 0 (ilist (apartS F)) fits most (countI ((fewestB F).1.take i)) i F.bars F.length F.gap F.load F.near = some true := by
  have hl := hF.len
  obtain ⟨g1, g2, _, _⟩ := fewest_some hF hok
  have hlen := g1.len
  intro d
  induction d with
  | zero =>
    intro i q hi hq
    obtain ⟨q, rfl⟩ : ∃ p, q = p + 1 + 1 := ⟨q - 2, by omega⟩
    have hal := ilist_len (apartS F)
    have h1 := few_apart hF g1
    obtain ⟨_, _, _, h2⟩ := apartS_facts hF
    rw [lF.l4, if_neg (by omega), List.take_of_length_le (by omega), few_count hF hok, if_pos rfl, if_pos (by omega)]
    have hj : ∀ b : Bool, b = false → lF.j6 (q + 1) v F.l (fewestB F).1 (fewestB F).2.1 b F.bars F.length F.gap F.load F.near = some true := by
      intro b hb
      rw [lF.j6, if_neg (by rw [hb]; decide)]
      exact few_l5 hF hbd hok hv (fewestB F).2.1 0 q (by omega) (by omega)
    have hrest : (if ((ilist (apartS F)).length : Int) > ((fewestB F).2.1 : Nat) then lF.j6 (q + 1) v F.l (fewestB F).1 (fewestB F).2.1 true F.bars F.length F.gap F.load F.near else if (F.l.length : Int) > 0 then lF.j6 (q + 1) v F.l (fewestB F).1 (fewestB F).2.1 (((ilist (apartS F)).length : Int) == 0) F.bars F.length F.gap F.load F.near else lF.j6 (q + 1) v F.l (fewestB F).1 (fewestB F).2.1 false F.bars F.length F.gap F.load F.near) = some true := by
      rw [if_neg (by omega)]
      split
      · exact hj _ (by rw [beq_eq_false_iff_ne]; omega)
      · exact hj _ rfl
    cases fits
    · rw [if_neg (by decide)]
      exact hrest
    · rw [if_pos rfl, if_neg (by have := hfm rfl; omega)]
      exact hrest
  | succ d ih =>
    intro i q hi hq
    obtain ⟨q, rfl⟩ : ∃ p, q = p + 1 := ⟨q - 1, by omega⟩
    have hil : i < (fewestB F).1.length := by omega
    have h1 := g1.rng _ (List.getElem_mem hil)
    rw [← rd_get hil] at h1
    have h2 := few_first hF hok hil
    have := ih (i + 1) q (by omega) (by omega)
    have hc : countI ((fewestB F).1.take (i + 1)) = mx (countI ((fewestB F).1.take i)) (rd (fewestB F).1 i + 1) := fold_take hil _ _
    rw [hc, show ((i + 1 : Nat) : Int) = (i : Int) + 1 by omega] at this
    rw [lF.l4, if_pos (by omega), if_pos (by omega), if_neg (by omega), if_neg (by omega), w64 (x := rd (fewestB F).1 i + 1) (by omega), w64 (x := (i : Int) + 1) (by omega)]
    exact this
/-- Loads by bytes. -/
def bytesL (bs : List Int) (i : Nat) : List Int := (List.range i).map fun (j : Nat) => rd bs j % 6
theorem bytesL_succ (bs : List Int) (i : Nat) : bytesL bs (i + 1) = bytesL bs i ++ [rd bs i % 6] := by unfold bytesL; rw [List.range_succ, List.map_append]; rfl
theorem bytesL_len (bs : List Int) (i : Nat) : (bytesL bs i).length = i := by unfold bytesL; simp
theorem bytesL_in (bs : List Int) (i : Nat) : ∀ y ∈ bytesL bs i, 0 ≤ y ∧ y < ((6 : Nat) : Int) := by
  intro y hy
  unfold bytesL at hy
  obtain ⟨j, _, rfl⟩ := List.mem_map.1 hy
  omega
def fitsT (F : Furn) (x : List Int) (t : Nat) : Bool := (List.range t).all fun (j : Nat) => goesI F (idx x j)
theorem fitsT_succ (F : Furn) (x : List Int) (t : Nat) : fitsT F x (t + 1) = (fitsT F x t && goesI F (idx x t)) := by unfold fitsT; simp [List.range_succ]
theorem fits_good {x : List Int} (hF : F.Ok) (hx : x.length = F.l.length) (hr : ∀ y ∈ x, 0 ≤ y ∧ y < ((6 : Nat) : Int)) (h : fitsT F x 6 = true) : Good F 6 x := by
  refine ⟨hx, hr, fun j => ?_⟩
  by_cases hj : 0 ≤ j ∧ j < 6
  · unfold fitsT at h
    rw [List.all_eq_true] at h
    have := h j.toNat (List.mem_range.2 (by omega))
    rwa [Int.toNat_of_nonneg hj.1] at this
  · rw [idx_none hr (by omega)]
    exact goesI_nil hF
theorem few_l3 {loads apart : List Int} {e : Int} {x : List Int} (hF : F.Ok) (hx : x.length = F.l.length) (H : ∀ q, 400 ≤ q → lF.l4 q v F.l loads e apart (fitsT F x 6) (used x 6) 0 0 F.bars F.length F.gap F.load F.near = some true) : ∀ d (t q : Nat), t + d = 6 → d + 401 ≤ q →
    lF.l3 q v F.l loads e apart x (fitsT F x t) (used x t) t F.bars F.length F.gap F.load F.near = some true := by
  have hl := hF.len
  intro d
  induction d with
  | zero =>
    intro t q ht hq
    obtain ⟨q, rfl⟩ : ∃ p, q = p + 1 := ⟨q - 1, by omega⟩
    rw [lF.l3, if_neg (by omega), show t = 6 by omega]
    exact H q (by omega)
  | succ d ih =>
    intro t q ht hq
    obtain ⟨q, rfl⟩ : ∃ p, q = p + 1 := ⟨q - 1, by omega⟩
    have := ih (t + 1) q (by omega) (by omega)
    rw [show ((t + 1 : Nat) : Int) = (t : Int) + 1 by omega, fitsT_succ, used_succ] at this
    obtain ⟨p, hgo⟩ := goesC_f hF (is := idx x t) (idx_asc _ _) (fun a ha => by have := (idx_mem.1 ha).1; omega)
    have hu := used_le x t
    rw [lF.l3, if_pos (by omega), of_f (by omega) _ _ (by omega)]
    simp only [bs]
    rw [own_f (by omega)]
    simp only [bs]
    have ho : ofL x t = (idx x t).map Int.ofNat := rfl
    rw [ho, hgo]
    simp only [bs]
    rw [List.length_map, w64 (x := (t : Int) + 1) (by omega), w64 (x := ((used x t : Nat) : Int) + 1) (by omega)]
    cases hft : fitsT F x t
    · rw [if_neg (by decide)]
      rw [hft, Bool.false_and] at this
      by_cases hp : 0 < (idx x t).length
      · rw [if_pos (by omega)]
        rw [if_pos hp] at this
        exact this
      · rw [if_neg (by omega)]
        rw [if_neg hp] at this
        exact this
    · rw [if_pos rfl]
      rw [hft, Bool.true_and] at this
      by_cases hp : 0 < (idx x t).length
      · rw [if_pos (by omega)]
        rw [if_pos hp] at this
        exact this
      · rw [if_neg (by omega)]
        rw [if_neg hp] at this
        exact this
theorem few_l2 {loads apart : List Int} {e b0 b1 b2 b3 b4 b5 : Int} (hF : F.Ok) (hb : ∀ y ∈ [b0, b1, b2, b3, b4, b5], 0 ≤ y ∧ y < 256) (H : ∀ q, 500 ≤ q → lF.l3 q v F.l loads e apart (bytesL [b0, b1, b2, b3, b4, b5] F.l.length) true 0 0 F.bars F.length F.gap F.load F.near = some true) : ∀ d (i q : Nat), i + d = F.l.length → d + 501 ≤ q →
    lF.l2 q v F.l loads e apart (bytesL [b0, b1, b2, b3, b4, b5] i) i b0 b1 b2 b3 b4 b5 F.bars F.length F.gap F.load F.near = some true := by
  have hl := hF.len
  intro d
  induction d with
  | zero =>
    intro i q hi hq
    obtain ⟨q, rfl⟩ : ∃ p, q = p + 1 := ⟨q - 1, by omega⟩
    rw [lF.l2, if_neg (by omega), show i = F.l.length by omega]
    exact H q (by omega)
  | succ d ih =>
    intro i q hi hq
    obtain ⟨q, rfl⟩ : ∃ p, q = p + 1 := ⟨q - 1, by omega⟩
    have := ih (i + 1) q (by omega) (by omega)
    rw [show ((i + 1 : Nat) : Int) = (i : Int) + 1 by omega, bytesL_succ] at this
    have hi6 : i < [b0, b1, b2, b3, b4, b5].length := by simp; omega
    have h1 := hb _ (List.getElem_mem hi6)
    rw [← rd_get hi6] at h1
    rw [lF.l2, if_pos (by omega), if_pos (by omega), if_pos (by omega), if_pos (by rw [bytesL_len]; omega), w64 (x := rd [b0, b1, b2, b3, b4, b5] i) (by omega), Int.tmod_eq_emod_of_nonneg h1.1, w64 (x := (i : Int) + 1) (by omega)]
    exact this
theorem few_l1 {loads : List Int} {e b0 b1 b2 b3 b4 b5 : Int} (hF : F.Ok) (i : Nat) (hi : i < lenB (apartS F)) (c : Nat) (H : ∀ q, c ≤ q → lF.l0 q v F.l loads e (ilist (apartS F)) ((i + 1 : Nat) : Int) b0 b1 b2 b3 b4 b5 F.bars F.length F.gap F.load F.near = some true) : ∀ d (j q : Nat), j + d = i → d + c + 1 ≤ q →
    lF.l1 q v F.l loads e (ilist (apartS F)) i j b0 b1 b2 b3 b4 b5 F.bars F.length F.gap F.load F.near = some true := by
  have hl := hF.len
  obtain ⟨a1, a2, a3, _⟩ := apartS_facts hF
  have hal := ilist_len (apartS F)
  intro d
  induction d with
  | zero =>
    intro j q hj hq
    obtain ⟨q, rfl⟩ : ∃ p, q = p + 1 := ⟨q - 1, by omega⟩
    rw [lF.l1, if_neg (by omega), w64 (by omega)]
    exact H q (by omega)
  | succ d ih =>
    intro j q hj hq
    obtain ⟨q, rfl⟩ : ∃ p, q = p + 1 := ⟨q - 1, by omega⟩
    have := ih (j + 1) q (by omega) (by omega)
    rw [show ((j + 1 : Nat) : Int) = (j : Int) + 1 by omega] at this
    obtain ⟨p1, p2⟩ := apart_pair a1 a3 (show j < i by omega) hi
    have hin : ∀ k, k < lenB (apartS F) → (bitsOf (apartS F)).getD k 0 < F.l.length := by
      intro k hk
      unfold lenB at hk
      rw [List.getD_eq_getElem?_getD, List.getElem?_eq_getElem hk]
      exact a2 _ (List.getElem_mem hk)
    obtain ⟨p, hgo⟩ := goesC_f hF (is := [(bitsOf (apartS F)).getD j 0, (bitsOf (apartS F)).getD i 0]) (by simp; exact p1) (fun a ha => by
      simp only [List.mem_cons, List.not_mem_nil, or_false] at ha
      rcases ha with rfl | rfl
      · exact hin j (by omega)
      · exact hin i hi)
    rw [lF.l1, if_pos (by omega), own_f (by omega)]
    simp only [bs]
    rw [if_pos (by omega), if_pos (by omega), if_pos (by omega), if_pos (by omega), rd_ilist (show j < lenB (apartS F) by omega), rd_ilist hi]
    have hgo' : goesC.f F.bars F.length F.gap F.load F.near F.l [((((bitsOf (apartS F)).getD j 0 : Nat)) : Int), (((bitsOf (apartS F)).getD i 0 : Nat) : Int)] = some (goesI F [(bitsOf (apartS F)).getD j 0, (bitsOf (apartS F)).getD i 0], p) := hgo
    rw [hgo']
    simp only [bs]
    rw [p2, if_neg (by decide), w64 (by omega)]
    exact this
theorem few_l0 {loads : List Int} {e b0 b1 b2 b3 b4 b5 : Int} (hF : F.Ok) (H : ∀ q, 600 ≤ q → lF.l2 q v F.l loads e (ilist (apartS F)) [] 0 b0 b1 b2 b3 b4 b5 F.bars F.length F.gap F.load F.near = some true) : ∀ d (i q : Nat), i + d = lenB (apartS F) → 10 * d + 601 ≤ q →
    lF.l0 q v F.l loads e (ilist (apartS F)) i b0 b1 b2 b3 b4 b5 F.bars F.length F.gap F.load F.near = some true := by
  have hal := ilist_len (apartS F)
  intro d
  induction d with
  | zero =>
    intro i q hi hq
    obtain ⟨q, rfl⟩ : ∃ p, q = p + 1 := ⟨q - 1, by omega⟩
    rw [lF.l0, if_neg (by omega)]
    exact H q (by omega)
  | succ d ih =>
    intro i q hi hq
    obtain ⟨q, rfl⟩ : ∃ p, q = p + 1 := ⟨q - 1, by omega⟩
    rw [lF.l0, if_pos (by omega)]
    have hih := ih (i + 1)
    obtain ⟨c, hc⟩ : ∃ c, 10 * d + 601 = c := ⟨_, rfl⟩
    rw [hc] at hih
    have hi5 : i ≤ 5 := by omega
    have hil : i < lenB (apartS F) := by omega
    have hqc : i + c + 1 ≤ q := by omega
    have hz : 0 + i = i := by omega
    exact few_l1 hF i hil c (fun q hq => hih q (by omega) hq) i 0 q hz hqc
end
/-- The plain law of ForkFew. -/
theorem few_pure {a0 a1 a2 a3 a4 : Int} {l : List S63} (h0 : okB5 ⟨a0, a1, a2, a3, a4⟩ = true) (h1 : ∀ x ∈ l, okB5 x = true) {b0 b1 b2 b3 b4 b5 v : Int} (hb : ∀ y ∈ [b0, b1, b2, b3, b4, b5], 0 ≤ y ∧ y < 256) (hv : 0 ≤ v ∧ v < 256) : lF.f 1000 a0 a1 a2 a3 a4 l b0 b1 b2 b3 b4 b5 v = some true := by
  obtain ⟨F, hF, hm, hbd⟩ := made_f h0 h1
  have hl := hF.len
  obtain ⟨a1, a2, a3, _⟩ := apartS_facts hF
  have hal := ilist_len (apartS F)
  have hx := bytesL_len [b0, b1, b2, b3, b4, b5] F.l.length
  have hr := bytesL_in [b0, b1, b2, b3, b4, b5] F.l.length
  have hgood := fits_good (F := F) hF hx hr
  have htail : ∀ (loads : List Int) (e : Int), (∀ q, 400 ≤ q → lF.l4 q v F.l loads e (ilist (apartS F)) (fitsT F (bytesL [b0, b1, b2, b3, b4, b5] F.l.length) 6) (used (bytesL [b0, b1, b2, b3, b4, b5] F.l.length) 6) 0 0 F.bars F.length F.gap F.load F.near = some true) → lF.j0 1000 v F.l loads e (ilist (apartS F)) false b0 b1 b2 b3 b4 b5 F.bars F.length F.gap F.load F.near = some true := by
    intro loads e h4
    rw [lF.j0, if_neg (by decide)]
    refine few_l0 hF (fun q hq => ?_) (lenB (apartS F)) 0 999 (by omega) (by omega)
    exact few_l2 hF hb (fun q hq => few_l3 hF hx h4 6 0 q (by omega) (by omega)) F.l.length 0 q (by omega) (by omega)
  unfold lF.f
  rw [hm]
  simp only [bs]
  rw [own_f (by omega)]
  simp only [bs]
  rw [loads_f hF]
  simp only [bs]
  rw [apartC_f hF]
  simp only [bs]
  rw [up_f (by omega) _ (by
      unfold ilist
      rw [List.pairwise_map]
      exact (bits_asc _).imp (fun h => Int.ofNat_lt.2 h)) (fun y hy => by
      obtain ⟨i, hi, rfl⟩ := List.mem_map.1 hy
      have := a2 i hi
      simp only [Int.ofNat_eq_natCast]
      omega) _ (by omega)]
  simp only [bs]
  by_cases hok : (fewestB F).2.2 = true
  · rw [if_pos hok]
    dsimp only
    rw [if_pos rfl]
    refine htail _ _ (fun q hq => ?_)
    refine few_l4 hF hbd hok hv _ _ (fun hf => ?_) F.l.length 0 q (by omega) (by omega)
    obtain ⟨_, _, _, g⟩ := fewest_some hF hok
    have hrank := rank_good hF (hgood hf)
    rcases Nat.lt_or_ge (used (bytesL [b0, b1, b2, b3, b4, b5] F.l.length) 6) (fewestB F).2.1 with h | h
    · exact absurd hrank (g _ h _)
    · exact h
  · rw [if_neg hok]
    dsimp only
    rw [if_neg (by decide), if_pos rfl, show ((([] : List Int).length : Int) != 0) = false by simp]
    refine htail _ _ (fun q hq => ?_)
    obtain ⟨q, rfl⟩ : ∃ p, q = p + 1 := ⟨q - 1, by omega⟩
    have hno : fitsT F (bytesL [b0, b1, b2, b3, b4, b5] F.l.length) 6 = false := by
      rw [Bool.eq_false_iff]
      intro hf
      refine hok (of_singles hF (fun s hs => ?_))
      rw [goesB_I, bits_one s (by omega)]
      exact single_good hF (hgood hf) s hs
    rw [lF.l4, if_neg (by simp), if_neg (by decide), hno, if_neg (by decide)]
    rfl
end Go.Proofs.YtbijamlgcebgeaaDoor.Hand

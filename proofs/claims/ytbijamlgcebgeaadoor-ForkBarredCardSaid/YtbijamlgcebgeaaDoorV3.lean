/- ForkBarred: the law returns true for every input; each argument reads behind the call as it read before (for worlds in which the two tables of the library hold what its initialisers lay). Part 3 of 3. -/
import Derived.Test.YtbijamlgcebgeaaDoorV2
import Derived.Test.YtbijamlgcebgeaaDoorCards
import Derived.Test.YtbijamlgcebgeaaDoorTie
set_option linter.unusedVariables false
set_option linter.unusedSimpArgs false
-- part PD
namespace Go.Proofs.YtbijamlgcebgeaaDoor.Hand
open Go.RowKit Go.Shelf Go.Sort Go.Proofs.YtbijamlgcebgeaaDoorW.PrintWords Go.Proofs.YtbijamlgcebgeaaDoorW.PrintMore Go.Proofs.YtbijamlgcebgeaaDoor.Q
theorem more_rounds {α : Type} (g : Nat → Option α) (h : ∀ k, LeO (g k) (g (k + 1))) {k : Nat} {r : α} (e : g k = some r) : ∀ n, k ≤ n → g n = some r := by
  intro n
  induction n with
  | zero => intro hn; obtain rfl : k = 0 := by omega
            exact e
  | succ n ih =>
    intro hn
    by_cases hk : k = n + 1
    · subst hk; exact e
    · exact h n _ (ih (by omega))
theorem chosen_f {l : List S74} (hl : l.length ≤ 6) (by_ : Nat) (hb : by_ < 256) (k : Nat) (hk : 10 ≤ k) : smaltolaw03_chosen.f k l by_ = some (chosenL l.length by_) :=
  more_rounds (fun k => smaltolaw03_chosen.f k l by_) (fun k => smaltolaw03_chosen.mono _ _ k) (chosen_eq l by_ hb hl) k hk
theorem bar_facts {F : Furn} {s : Nat} (hs : s < 64) (hg : goesB F s = false) : ∀ k, k ≤ s + 1 →
    (barBest F s k < 64 ∧ barBest F s k &&& s = barBest F s k ∧ goesB F (barBest F s k) = false) ∧ ∀ p, p < k → p &&& s = p → goesB F p = false → lenB (barBest F s k) ≤ lenB p := by
  intro k
  induction k with
  | zero => intro _; exact ⟨⟨hs, Nat.and_self s, hg⟩, fun p hp => by omega⟩
  | succ k ih =>
    intro hk
    obtain ⟨⟨h1, h2, h3⟩, h4⟩ := ih (by omega)
    rw [barBest_succ]
    unfold barStep
    have hbef : ∀ p q : Nat, befB p q = true → lenB p ≤ lenB q := by
      intro p q h
      unfold befB at h
      split at h
      · omega
      · have := of_decide_eq_true h; omega
    have hlt : ∀ p q : Nat, lenB p < lenB q → befB p q = true := by
      intro p q h
      unfold befB
      rw [if_neg (by omega)]
      exact decide_eq_true h
    by_cases hc : ((k &&& s == k) && befB k (barBest F s k) && !goesB F k) = true
    · rw [if_pos hc]
      simp only [Bool.and_eq_true, beq_iff_eq, Bool.not_eq_true'] at hc
      obtain ⟨⟨c1, c2⟩, c3⟩ := hc
      refine ⟨⟨by omega, c1, c3⟩, fun p hp hps hpg => ?_⟩
      by_cases e : p = k
      · subst e; exact Nat.le_refl _
      · exact Nat.le_trans (hbef _ _ c2) (h4 p (by omega) hps hpg)
    · rw [if_neg hc]
      refine ⟨⟨h1, h2, h3⟩, fun p hp hps hpg => ?_⟩
      by_cases e : p = k
      · subst e
        rcases Nat.lt_or_ge (lenB p) (lenB (barBest F s p)) with h | h
        · refine absurd ?_ hc
          simp only [Bool.and_eq_true, beq_iff_eq, Bool.not_eq_true']
          exact ⟨⟨hps, hlt _ _ h⟩, hpg⟩
        · exact h
      · exact h4 p (by omega) hps hpg
theorem sub_places {p s : Nat} (hp : p < 64) (hs : s < 64) (h : p &&& s = p) : ∀ i ∈ bitsOf p, i ∈ bitsOf s := by
  intro i hi
  rw [bits_mem hp] at hi
  rw [bits_mem hs]
  rw [← h, Nat.testBit_and, Bool.and_eq_true] at hi
  exact hi.2
theorem bits_lt6 {s i : Nat} (h : i ∈ bitsOf s) : i < 6 := List.mem_range.1 (List.mem_filter.1 h).1
/-- Without any one of them they go. -/
theorem bar_less {F : Furn} (hF : F.Ok) {s : Nat} (hs : s < 64) (hb : ∀ i ∈ bitsOf s, i < F.l.length) (hg : goesB F s = false) (k : Nat) (hk : k < (bitsOf (barBest F s (s + 1))).length) : goesI F ((bitsOf (barBest F s (s + 1))).eraseIdx k) = true := by
  obtain ⟨⟨h1, h2, h3⟩, h4⟩ := bar_facts hs hg (s + 1) (Nat.le_refl _)
  generalize barBest F s (s + 1) = b at hk h1 h2 h3 h4 ⊢
  have hsub : ((bitsOf b).eraseIdx k).Sublist (bitsOf b) := List.eraseIdx_sublist _ _
  have hin := sub_places h1 hs h2
  obtain ⟨p, hp1, hp2, hp3⟩ := new_pair hF (load := ((bitsOf b).eraseIdx k).map Int.ofNat) (by
    rw [List.pairwise_map]
    exact ((bits_asc b).sublist hsub).imp (fun h => Int.ofNat_lt.2 h)) (fun x hx => by
    obtain ⟨i, hi, rfl⟩ := List.mem_map.1 hx
    have := hb i (hin i (hsub.subset hi))
    simp only [Int.ofNat_eq_natCast]
    omega)
  have e : bitsOf p = (bitsOf b).eraseIdx k := List.map_inj_right (f := Int.ofNat) (fun a b h => Int.ofNat.inj h) |>.1 hp2
  have hps : p &&& s = p := and_of_sub hp3 ((asc_sub (bits_asc p) (bits_asc s) (fun i hi => hin i (hsub.subset (e ▸ hi)))).map _)
  rw [← e, ← goesB_I]
  cases hgp : goesB F p
  · have hle : p ≤ s := by rw [← hps]; exact Nat.and_le_right
    have := h4 p (by omega) hps hgp
    have hl : lenB p = lenB b - 1 := by
      unfold lenB
      rw [e, List.length_eraseIdx_of_lt hk]
    unfold lenB at this hl
    omega
  · rfl
section
variable {F : Furn} (hF : F.Ok)
/-- The signs of bar but for one. -/
def restL (bar : List Int) (k : Int) : Nat → List Int
  | 0 => []
  | i + 1 => if (i : Int) = k then restL bar k i else restL bar k i ++ [rd bar i]
theorem restL_succ (bar : List Int) (k : Int) (i : Nat) : restL bar k (i + 1) = if (i : Int) = k then restL bar k i else restL bar k i ++ [rd bar i] := rfl
theorem restL_len (bar : List Int) (k : Int) : ∀ i, (restL bar k i).length ≤ i := by
  intro i
  induction i with
  | zero => simp [restL]
  | succ i ih =>
    unfold restL
    split
    · omega
    · simp; omega
theorem restL_all (bar : List Int) : ∀ i, i ≤ bar.length → restL bar (-1) i = bar.take i := by
  intro i
  induction i with
  | zero => intro _; simp [restL]
  | succ i ih =>
    intro h
    unfold restL
    rw [if_neg (by omega), ih (by omega), List.take_succ_eq_append_getElem (by omega), rd_get (by omega)]
theorem restL_one (bar : List Int) (k : Nat) : ∀ i, i ≤ bar.length → restL bar k i = (bar.take i).eraseIdx k := by
  intro i
  induction i with
  | zero => intro _; simp [restL]
  | succ i ih =>
    intro h
    have hlt : (bar.take i).length = i := by simp; omega
    unfold restL
    rw [ih (by omega), List.take_succ_eq_append_getElem (by omega), rd_get (by omega)]
    by_cases e : (i : Int) = (k : Int)
    · rw [if_pos e, List.eraseIdx_append_of_length_le (by omega)]
      obtain rfl : i = k := by omega
      rw [show i - (bar.take i).length = 0 by omega, List.eraseIdx_of_length_le (by omega)]
      simp
    · rw [if_neg e]
      by_cases h2 : k < i
      · rw [List.eraseIdx_append_of_lt_length (by omega)]
      · rw [List.eraseIdx_of_length_le (by omega), List.eraseIdx_of_length_le (by simp; omega)]
/-- What stands behind the loop over the signs of bar. -/
def exit1 (q : Nat) (load bar : List Int) (f : Int) (still : List Int) (k : Int) (rest : List Int) : Option Bool :=
  (smaltolaw03_own.f F.l).bind fun t => ((goesC.f F.bars F.length F.gap F.load F.near t rest).bind fun bt => (if bt.1 = true then (if k ≥ 0 then (lB.l0 q F.l load bar f still (wrap64 (k + 1)) F.bars F.length F.gap F.load F.near) else (some false)) else (if k ≥ 0 then (some false) else (lB.l0 q F.l load bar f still (wrap64 (k + 1)) F.bars F.length F.gap F.load F.near))))
theorem barred_l1 {load bar still : List Int} {f k : Int} (hl : load.length ≤ 6) (hb : bar.length ≤ 6) (hin : ∀ y ∈ bar, y ∈ load) : ∀ d (i q : Nat), i + d = bar.length → 10 ≤ q →
    lB.l1 (q + d + 1) F.l load bar f still k (restL bar k i) i F.bars F.length F.gap F.load F.near = exit1 (F := F) q load bar f still k (restL bar k bar.length) := by
  intro d
  induction d with
  | zero =>
    intro i q hi hq
    rw [lB.l1, if_neg (by omega), show i = bar.length by omega]
    rfl
  | succ d ih =>
    intro i q hi hq
    have hil : i < bar.length := by omega
    have := ih (i + 1) q (by omega) hq
    rw [show ((i + 1 : Nat) : Int) = (i : Int) + 1 by omega] at this
    have hm : rd bar i ∈ load := by rw [rd_get hil]; exact hin _ (List.getElem_mem hil)
    have hlen := restL_len bar k i
    rw [show q + (d + 1) + 1 = (q + d + 1) + 1 by omega, lB.l1, if_pos (by omega), if_pos (by omega), has_f (by omega) _ _ (by omega)]
    simp only [bs]
    rw [if_pos (by rw [decide_eq_true_eq]; exact hm), w64 (x := (i : Int) + 1) (by omega)]
    rw [restL_succ] at this
    by_cases e : (i : Int) = k
    · rw [if_pos e] at this ⊢
      exact this
    · rw [if_neg e] at this ⊢
      rw [if_pos (by omega)]
      exact this
/-- The signs of a load and one more. -/
def moreP (n : Nat) (load : List Int) (i : Nat) : List Nat := (List.range n).filter fun a => decide (a = i) || decide ((a : Int) ∈ load)
theorem moreP_succ (j : Nat) (load : List Int) (i : Nat) : moreP (j + 1) load i = if j = i ∨ (j : Int) ∈ load then moreP j load i ++ [j] else moreP j load i := by
  unfold moreP
  rw [List.range_succ, List.filter_append]
  by_cases h : j = i ∨ (j : Int) ∈ load
  · rw [if_pos h]
    congr 1
    have : (decide (j = i) || decide ((j : Int) ∈ load)) = true := by simpa using h
    rw [List.filter_cons, if_pos this]
    rfl
  · rw [if_neg h]
    have : (decide (j = i) || decide ((j : Int) ∈ load)) = false := by simpa using h
    rw [List.filter_cons, if_neg (by rw [this]; decide)]
    simp
theorem moreP_len (n : Nat) (load : List Int) (i : Nat) : (moreP n load i).length ≤ n := Nat.le_trans (List.length_filter_le _ _) (by simp)
def exit3 (q : Nat) (load still : List Int) (i : Int) (more : List Int) : Option Bool :=
  (smaltolaw03_own.f F.l).bind fun t => ((goesC.f F.bars F.length F.gap F.load F.near t more).bind fun bt => ((smaltolaw03_has.f q still i).bind fun h => (if bt.1 = true then (if h = true then (lB.l2 q F.l load still (wrap64 (i + 1)) F.bars F.length F.gap F.load F.near) else (some false)) else (if h = true then (some false) else (lB.l2 q F.l load still (wrap64 (i + 1)) F.bars F.length F.gap F.load F.near)))))
theorem barred_l3 {load still : List Int} (hl : load.length ≤ 6) (hn : F.l.length ≤ 6) (i : Nat) : ∀ d (j q : Nat), j + d = F.l.length → 10 ≤ q →
    lB.l3 (q + d + 1) F.l load still i ((moreP j load i).map Int.ofNat) j F.bars F.length F.gap F.load F.near = exit3 (F := F) q load still i ((moreP F.l.length load i).map Int.ofNat) := by
  intro d
  induction d with
  | zero =>
    intro j q hj hq
    rw [lB.l3, if_neg (by omega), show j = F.l.length by omega]
    rfl
  | succ d ih =>
    intro j q hj hq
    have := ih (j + 1) q (by omega) hq
    have hlen := moreP_len j load i
    rw [show ((j + 1 : Nat) : Int) = (j : Int) + 1 by omega, moreP_succ] at this
    rw [show q + (d + 1) + 1 = (q + d + 1) + 1 by omega, lB.l3, if_pos (by omega), w64 (x := (j : Int) + 1) (by omega)]
    by_cases e : (j : Int) = (i : Int)
    · rw [if_pos e, if_pos (by rw [List.length_map]; omega)]
      rw [if_pos (.inl (by omega)), List.map_append] at this
      exact this
    · rw [if_neg e, has_f (by omega) _ _ (by omega)]
      simp only [bs]
      by_cases h : (j : Int) ∈ load
      · rw [if_pos (by rw [decide_eq_true_eq]; exact h), if_pos (by rw [List.length_map]; omega)]
        rw [if_pos (.inr h), List.map_append] at this
        exact this
      · rw [if_neg (by rw [decide_eq_true_eq]; exact h)]
        rw [if_neg (fun h' => h'.elim (fun h' => e (by omega)) h)] at this
        exact this
include hF
/-- What Still tells, sign by sign. -/
theorem barred_l2 {s : Nat} (hs : s < 64) (hb : ∀ i ∈ bitsOf s, i < F.l.length) : ∀ d (i q : Nat), i + d = F.l.length → d * 20 + 30 ≤ q →
    lB.l2 q F.l (ilist s) ((stillL F s F.l.length).map Int.ofNat) i F.bars F.length F.gap F.load F.near = some true := by
  have hl := hF.len
  have hlen : (ilist s).length ≤ 6 := by have := ilist_len s; omega
  have hsl : ((stillL F s F.l.length).map Int.ofNat).length ≤ 6 := by
    rw [List.length_map]
    exact Nat.le_trans (List.length_filter_le _ _) (by simp; omega)
  have hmem : ∀ i : Nat, ((i : Nat) : Int) ∈ ilist s ↔ s.testBit i = true := by
    intro i
    rw [← bits_mem hs]
    unfold ilist
    rw [List.mem_map]
    exact ⟨fun ⟨j, hj, e⟩ => Int.ofNat.inj e ▸ hj, fun h => ⟨i, h, rfl⟩⟩
  have hst : ∀ i : Nat, ((i : Nat) : Int) ∈ (stillL F s F.l.length).map Int.ofNat ↔ i < F.l.length ∧ s.testBit i = false ∧ goesB F (s ||| 2 ^ i) = true := by
    intro i
    rw [List.mem_map]
    constructor
    · rintro ⟨j, hj, e⟩
      obtain rfl : j = i := Int.ofNat.inj e
      unfold stillL at hj
      rw [List.mem_filter, List.mem_range, Bool.and_eq_true, Bool.not_eq_true'] at hj
      exact hj
    · intro h
      refine ⟨i, ?_, rfl⟩
      unfold stillL
      rw [List.mem_filter, List.mem_range, Bool.and_eq_true, Bool.not_eq_true']
      exact h
  intro d
  induction d with
  | zero =>
    intro i q hi hq
    obtain ⟨q, rfl⟩ : ∃ p, q = p + 1 := ⟨q - 1, by omega⟩
    rw [lB.l2, if_neg (by omega)]
    rfl
  | succ d ih =>
    intro i q hi hq
    obtain ⟨q, rfl⟩ : ∃ p, q = (p + F.l.length + 1) + 1 := ⟨q - (F.l.length + 2), by omega⟩
    have hih := ih (i + 1) q (by omega) (by omega)
    have hih2 := ih (i + 1) (q + F.l.length + 1) (by omega) (by omega)
    rw [show ((i + 1 : Nat) : Int) = (i : Int) + 1 by omega] at hih hih2
    rw [lB.l2, if_pos (by omega), has_f (by omega) _ _ (by omega)]
    simp only [bs]
    by_cases h : s.testBit i = true
    · rw [if_pos (by rw [decide_eq_true_eq]; exact (hmem i).2 h), has_f (by omega) _ _ (by omega)]
      simp only [bs]
      rw [if_neg (by rw [decide_eq_true_eq]; exact fun h' => by rw [((hst i).1 h').2.1] at h; cases h), w64 (x := (i : Int) + 1) (by omega)]
      exact hih2
    · have h' : s.testBit i = false := Bool.eq_false_iff.2 h
      rw [if_neg (by rw [decide_eq_true_eq]; exact fun h'' => h ((hmem i).1 h''))]
      have h3 := barred_l3 (F := F) (still := (stillL F s F.l.length).map Int.ofNat) hlen hl i F.l.length 0 q (by omega) (by omega)
      have e0 : ((moreP 0 (ilist s) i).map Int.ofNat) = ([] : List Int) := rfl
      rw [e0, show ((0 : Nat) : Int) = 0 from rfl] at h3
      rw [h3]
      have hp : moreP F.l.length (ilist s) i = bitsOf (s ||| 2 ^ i) := by
        have h64 : s ||| 2 ^ i < 64 := Nat.or_lt_two_pow (n := 6) hs (Nat.pow_lt_pow_right (by decide) (by omega))
        refine asc_ext (List.pairwise_lt_range.filter _) (bits_asc _) (fun a => ?_)
        rw [bits_mem h64, Nat.testBit_or, Nat.testBit_two_pow, Bool.or_eq_true, decide_eq_true_eq]
        unfold moreP
        rw [List.mem_filter, List.mem_range, Bool.or_eq_true, decide_eq_true_eq, decide_eq_true_eq, hmem]
        constructor
        · rintro ⟨_, h1 | h1⟩
          · exact .inr h1.symm
          · exact .inl h1
        · rintro (h1 | h1)
          · exact ⟨hb a ((bits_mem hs).2 h1), .inr h1⟩
          · exact ⟨by omega, .inl h1.symm⟩
      obtain ⟨p, hgo⟩ := goesC_f hF (is := moreP F.l.length (ilist s) i) (List.pairwise_lt_range.filter _) (fun a ha => List.mem_range.1 (List.mem_filter.1 ha).1)
      unfold exit3
      rw [own_f (by omega)]
      simp only [bs]
      rw [hgo]
      simp only [bs]
      rw [has_f (by omega) _ _ (by omega)]
      simp only [bs]
      rw [hp, ← goesB_I, w64 (x := (i : Int) + 1) (by omega)]
      cases hgs : goesB F (s ||| 2 ^ i)
      · rw [if_neg (by decide), if_neg (by rw [decide_eq_true_eq]; exact fun hx => by rw [((hst i).1 hx).2.2] at hgs; cases hgs)]
        exact hih
      · rw [if_pos rfl, if_pos (by rw [decide_eq_true_eq]; exact (hst i).2 ⟨by omega, h', hgs⟩)]
        exact hih
theorem barred_l0 {s : Nat} (hs : s < 64) (hb : ∀ i ∈ bitsOf s, i < F.l.length) (hg : goesB F s = false) : ∀ d (t q : Nat), t + d = lenB (barBest F s (s + 1)) + 1 → d * 20 + 300 ≤ q →
    lB.l0 q F.l (ilist s) (ilist (barBest F s (s + 1))) 0 ((stillL F s F.l.length).map Int.ofNat) ((t : Int) - 1) F.bars F.length F.gap F.load F.near = some true := by
  have hl := hF.len
  have hlen : (ilist s).length ≤ 6 := by have := ilist_len s; omega
  obtain ⟨⟨b1, b2, b3⟩, _⟩ := bar_facts hs hg (s + 1) (Nat.le_refl _)
  have hless := bar_less hF hs hb hg
  obtain ⟨b, hbe⟩ : ∃ b, barBest F s (s + 1) = b := ⟨_, rfl⟩
  rw [hbe] at b1 b2 b3 hless ⊢
  have hin := sub_places b1 hs b2
  have hbl : (ilist b).length = lenB b := (ilist_len b).1
  have hb6 : lenB b ≤ 6 := (ilist_len b).2
  have hbin : ∀ y ∈ ilist b, y ∈ ilist s := by
    intro y hy
    obtain ⟨i, hi, rfl⟩ := List.mem_map.1 hy
    exact List.mem_map.2 ⟨i, hin i hi, rfl⟩
  intro d
  induction d with
  | zero =>
    intro t q ht hq
    obtain ⟨q, rfl⟩ : ∃ p, q = p + 1 + 1 := ⟨q - 2, by omega⟩
    rw [lB.l0, if_neg (by omega), lB.j2, if_neg (by decide)]
    exact barred_l2 hF hs hb F.l.length 0 q (by omega) (by omega)
  | succ d ih =>
    intro t q ht hq
    obtain ⟨q, rfl⟩ : ∃ p, q = (p + lenB b + 1) + 1 + 1 := ⟨q - (lenB b + 3), by omega⟩
    have hih := ih (t + 1) q (by omega) (by omega)
    rw [lB.l0, if_pos (by omega), lB.j2, if_pos (by decide)]
    have h1 := barred_l1 (F := F) (load := ilist s) (bar := ilist b) (still := (stillL F s F.l.length).map Int.ofNat) (f := 0) (k := (t : Int) - 1) hlen (by omega) hbin (lenB b) 0 q (by omega) (by omega)
    rw [show restL (ilist b) ((t : Int) - 1) 0 = [] from rfl, show ((0 : Nat) : Int) = 0 from rfl] at h1
    rw [h1]
    unfold exit1
    rw [own_f (by omega)]
    simp only [bs]
    rw [w64 (x := (t : Int) - 1 + 1) (by omega), show (t : Int) - 1 + 1 = ((t + 1 : Nat) : Int) - 1 by omega]
    by_cases h0 : t = 0
    · subst h0
      have e : restL (ilist b) (((0 : Nat) : Int) - 1) (ilist b).length = (bitsOf b).map Int.ofNat := by
        rw [show (((0 : Nat) : Int) - 1) = -1 by decide, restL_all _ _ (Nat.le_refl _), List.take_of_length_le (Nat.le_refl _)]
        rfl
      obtain ⟨p, hgo⟩ := goesC_f hF (is := bitsOf b) (bits_asc b) (fun a ha => hb a (hin a ha))
      rw [e, hgo]
      simp only [bs]
      rw [← goesB_I, b3, if_neg (by decide), if_neg (by omega)]
      exact hih
    · have e : restL (ilist b) ((t : Int) - 1) (ilist b).length = ((bitsOf b).eraseIdx (t - 1)).map Int.ofNat := by
        rw [show ((t : Int) - 1) = ((t - 1 : Nat) : Int) by omega, restL_one _ _ _ (Nat.le_refl _), List.take_of_length_le (Nat.le_refl _)]
        unfold ilist
        rw [List.eraseIdx_eq_take_drop_succ, List.eraseIdx_eq_take_drop_succ, List.map_append, List.map_take, List.map_drop]
      have hsub : ((bitsOf b).eraseIdx (t - 1)).Sublist (bitsOf b) := List.eraseIdx_sublist _ _
      obtain ⟨p, hgo⟩ := goesC_f hF (is := (bitsOf b).eraseIdx (t - 1)) ((bits_asc b).sublist hsub) (fun a ha => hb a (hin a (hsub.subset ha)))
      rw [e, hgo]
      simp only [bs]
      rw [hless (t - 1) (by unfold lenB at ht; omega), if_pos rfl, if_pos (by omega)]
      exact hih
end
/-- The plain law of ForkBarred. -/
theorem barred_pure {a0 a1 a2 a3 a4 : Int} {l : List S63} (h0 : okB5 ⟨a0, a1, a2, a3, a4⟩ = true) (h1 : ∀ x ∈ l, okB5 x = true) (by_ : Nat) (hby : by_ < 256) : lB.f 1000 a0 a1 a2 a3 a4 l by_ = some true := by
  obtain ⟨F, hF, hm, _⟩ := made_f h0 h1
  have hl := hF.len
  obtain ⟨s, hs1, hs2, hs3⟩ := new_pair hF (chosenL_pair F.l.length by_) (chosenL_mem F.l.length by_)
  have hbits := newR_bits hs1
  have hlen : (chosenL F.l.length by_).length ≤ 6 := Nat.le_trans (chosenL_len _ _) hl
  have hil : chosenL F.l.length by_ = ilist s := hs2.symm
  have hbar : fork_Bar.f F.bars F.length F.gap F.load F.near F.l (ilist s) = some (if goesB F s = true then ([], 6) else (ilist (barBest F s (s + 1)), 0)) := by
    rw [hil] at hs1
    unfold fork_Bar.f barR
    rw [hs1]
    rfl
  have hstill : stillC.f F.bars F.length F.gap F.load F.near F.l (ilist s) = some ((stillL F s F.l.length).map Int.ofNat) := by
    rw [hil] at hs1
    unfold stillC.f stillR
    rw [hs1]
    rfl
  obtain ⟨p, hgo⟩ := goesC_f hF (is := bitsOf s) (bits_asc s) hbits
  have hgo' : goesC.f F.bars F.length F.gap F.load F.near F.l (ilist s) = some (goesB F s, p) := hgo
  have hsu : ((stillL F s F.l.length).map Int.ofNat).Pairwise (· < ·) := by
    rw [List.pairwise_map]
    exact (List.pairwise_lt_range.filter _).imp (fun h => Int.ofNat_lt.2 h)
  have hsm : ∀ y ∈ (stillL F s F.l.length).map Int.ofNat, 0 ≤ y ∧ y < (F.l.length : Int) := by
    intro y hy
    obtain ⟨i, hi, rfl⟩ := List.mem_map.1 hy
    have := List.mem_range.1 (List.mem_filter.1 hi).1
    simp only [Int.ofNat_eq_natCast]
    omega
  have hsl : ((stillL F s F.l.length).map Int.ofNat).length ≤ 6 := by
    rw [List.length_map]
    exact Nat.le_trans (List.length_filter_le _ _) (by simp; omega)
  rw [hil] at hlen
  unfold lB.f
  rw [hm]
  simp only [bs]
  rw [chosen_f hl by_ hby _ (by omega), hil]
  simp only [bs]
  rw [own_f (by omega)]
  simp only [bs]
  rw [ints_f (by omega)]
  simp only [bs]
  rw [hgo']
  simp only [bs]
  rw [hbar]
  simp only [bs]
  rw [hstill]
  simp only [bs]
  cases hg : goesB F s
  · have e0 : (if false = true then (([] : List Int), (6 : Int)) else (ilist (barBest F s (s + 1)), 0)) = (ilist (barBest F s (s + 1)), 0) := if_neg (by decide)
    rw [e0]
    dsimp only
    rw [if_pos rfl, if_neg (by decide)]
    obtain ⟨⟨b1, b2, b3⟩, _⟩ := bar_facts hs3 hg (s + 1) (Nat.le_refl _)
    have hbl := ilist_len (barBest F s (s + 1))
    have hin := sub_places b1 hs3 b2
    have hne : lenB (barBest F s (s + 1)) ≠ 0 := by
      intro e
      have e2 : bitsOf (barBest F s (s + 1)) = [] := List.length_eq_zero_iff.1 e
      have e3 : barBest F s (s + 1) = 0 := set_inj b1 (by decide) (by rw [e2]; decide)
      rw [e3, goes_none hF] at b3
      cases b3
    have hst0 : stillL F s F.l.length = [] := by
      unfold stillL
      rw [List.filter_eq_nil_iff]
      intro i hi hc
      rw [Bool.and_eq_true] at hc
      have hi' := List.mem_range.1 hi
      have h64 : s ||| 2 ^ i < 64 := Nat.or_lt_two_pow (n := 6) hs3 (Nat.pow_lt_pow_right (by decide) (by omega))
      have := goesB_sub hF (p := s) (s := s ||| 2 ^ i) (sub_of_bits fun j hj => by rw [Nat.testBit_or, hj]; rfl) (fun j hj => by
        rw [bits_mem h64, Nat.testBit_or, Nat.testBit_two_pow, Bool.or_eq_true, decide_eq_true_eq] at hj
        rcases hj with hj | hj
        · exact hbits j ((bits_mem hs3).2 hj)
        · omega) hc.2
      rw [hg] at this
      cases this
    rw [if_neg (by omega), up_f (by omega) _ (by
      unfold ilist
      rw [List.pairwise_map]
      exact (bits_asc _).imp (fun h => Int.ofNat_lt.2 h)) (fun y hy => by
      obtain ⟨i, hi, rfl⟩ := List.mem_map.1 hy
      have := hbits i (hin i hi)
      simp only [Int.ofNat_eq_natCast]
      omega) _ (by omega)]
    simp only [bs]
    rw [up_f (by omega) _ hsu hsm _ (by omega)]
    simp only [bs]
    rw [lB.j0, if_neg (by rw [hst0]; decide)]
    exact barred_l0 hF hs3 hbits hg (lenB (barBest F s (s + 1)) + 1) 0 999 (by omega) (by omega)
  · have e0 : (if true = true then (([] : List Int), (6 : Int)) else (ilist (barBest F s (s + 1)), 0)) = ([], 6) := if_pos rfl
    rw [e0]
    dsimp only
    rw [if_neg (by decide), if_pos rfl, if_pos rfl, if_pos (by simp), up_f (by simp) _ (by simp) (by simp) _ (by simp)]
    simp only [bs]
    rw [up_f (by omega) _ hsu hsm _ (by omega)]
    simp only [bs]
    rw [lB.j0, if_neg (by decide), lB.l0, if_pos (by simp), lB.j2, if_neg (by decide)]
    exact barred_l2 hF hs3 hbits F.l.length 0 997 (by omega) (by omega)
theorem barred_calls {W : World} (y : S63) (A : Option Addr) (l : List S63) (c : Nat) (h0 : okB5 y = true) (h1 : ∀ x ∈ l, okB5 x = true) (hc : l.length ≤ c) (hr : Kd.C k63 W A l.length l) (a1 : Int) (ha : byteB a1 = true) (hT : TabW W) :
    Calls Tryd.prog 10 #[.agg #[.int .u8 y.f0, .int .u8 y.f1, .int .u8 y.f2, .int .u8 y.f3, .int .u8 y.f4, .slice A l.length c], .int .u8 a1] W fun e W' => e = .returned (.bool true) ∧ Below W.heap.size W W' := by
  obtain ⟨hb, he⟩ := byteB_ok ha
  have := barred_pure h0 h1 a1.toNat hb
  rw [he] at this
  exact lB.calls 1000 y.f0 y.f1 y.f2 y.f3 y.f4 A c l a1 true W hT hr hc this
end Go.Proofs.YtbijamlgcebgeaaDoor.Hand
-- part CB
namespace Go.Proofs.YtbijamlgcebgeaaDoor.forkBarred
open Go.ChangeShapes Go.WideShapes Go.ChangeAt Go.RowKit Go.Proofs.YtbijamlgcebgeaaDoor.Hand
set_option maxRecDepth 100000 in
theorem contract (H : Type) (enc : TypeId × Value → H) (W : World) (base : Nat) (args : Array Value) (ds gs : List (DataW H)) (before : List MemPlace)
    (hval : ∀ (j : Nat) t v, Tryd.f10.params[j]? = some t → args[j]? = some v → Value.okWide Tryd.prog W .any base t v)
    (hW : DataW.Whole enc Tryd.prog Tryd.f10.params.toList Rows.forkBarredSpec.vars false W args.toList ds gs before) (hL : laidMetH Tryd.prog Rows.forkBarredRow.laid W) :
    Calls Tryd.prog 10 args W fun e W' => ∃ v, e = .returned v ∧ Rows.forkBarredSpec.post enc Tryd.prog Tryd.f10 false true false false W args v W' := by
  have hT : TabW W := tabW_of hL
  have hW' := hW
  obtain ⟨p, q, hA0, hV, rfl, hfz, hnd⟩ := hW
  have hA : DataW.TrodAll enc Tryd.prog W 0 (fun _ => true) true Tryd.f10.params.toList args.toList ds p := hA0
  rw [Tryd.params10] at hA hval
  obtain ⟨v0, vs0, d0, ds0, p0, q0, hargs, rfl, rfl, k0, r0⟩ := trodAll_cons hA
  obtain ⟨v1, vs1, d1, ds1, p1, q1, rfl, rfl, rfl, k1, r1⟩ := trodAll_cons r0
  obtain ⟨rfl, rfl, rfl⟩ := trodAll_nil r1
  obtain rfl : args = #[v0, v1] := by cases args; simp_all
  obtain ⟨rfl, rfl⟩ := trodVars_none hV
  have lt0 : ∀ x ∈ p0, x.block < W.heap.size := by obtain ⟨m, hm⟩ := k0; exact DataW.trod_lt m _ _ _ hm
  have lt1 : ∀ x ∈ p1, x.block < W.heap.size := by obtain ⟨m, hm⟩ := k1; exact DataW.trod_lt m _ _ _ hm
  obtain ⟨y0, A0, l0, c0, rfl, ok0, all0, hc0, hr0⟩ := open66 (hval 0 66 v0 rfl rfl) k0
  have kk1 := k1
  obtain ⟨a1, rfl, hb1⟩ := openByte (hval 1 5 v1 rfl rfl) k1
  clear hA0 hval
  refine (barred_calls y0 A0 l0 c0 ok0 all0 hc0 hr0 a1 hb1 hT).mono fun e' W' ⟨he, bel⟩ => ?_
  subst he
  exact ⟨_, rfl, _, _, _, [], _, [], hW', trodAll_mk1 (shut_bool Tryd.underlying4 _), (trodAll_cons_mk (Below.trod laidOut (by kernel_rfl) (of_decide_eq_true (by kernel_rfl)) k0 bel lt0) (trodAll_cons_mk (Below.trod laidOut (by kernel_rfl) (of_decide_eq_true (by kernel_rfl)) k1 bel lt1) trodAll_mk0)), rfl, bel.frame _, fun h => by cases h⟩
/-- A world for the witness: the settled one, the tables (blocks 0 and 1) holding what their initialisers lay. -/
def lay32 : Obj → Obj
  | .cells _ t frozen => .cells (Lib.deBruijn32tab.map fun (n : Nat) => Value.int .u8 n).toArray t frozen
  | o => o
def lay64 : Obj → Obj
  | .cells _ t frozen => .cells (Lib.deBruijn64tab.map fun (n : Nat) => Value.int .u8 n).toArray t frozen
  | o => o
noncomputable def laidWorld (os : Os) : World := { World.holding Tryd.prog os ⟨#[], #[], []⟩ with heap := ((World.holding Tryd.prog os ⟨#[], #[], []⟩).heap.modify 0 lay32).modify 1 lay64 }
theorem laid_met (os : Os) : laidMet Tryd.prog Rows.forkBarredRow.laid ((laidWorld os).forCall (fun _ _ => 0) ⟨#[], #[.agg #[.int .u8 0, .int .u8 0, .int .u8 0, .int .u8 0, .int .u8 0, .slice none 0 0], .int .u8 0], []⟩).memory :=
  laidMet_of_run' 8 (by kernel_rfl) (by kernel_rfl)
theorem reads (os : Os) {H : Type} (enc : TypeId × Value → H) : ∃ places, DataW.whole enc Tryd.prog ((laidWorld os).forCall (fun _ _ => 0) ⟨#[], #[.agg #[.int .u8 0, .int .u8 0, .int .u8 0, .int .u8 0, .int .u8 0, .slice none 0 0], .int .u8 0], []⟩).memory Tryd.f10.params.toList Rows.forkBarredSpec.vars false (#[.agg #[.int .u8 0, .int .u8 0, .int .u8 0, .int .u8 0, .int .u8 0, .slice none 0 0], .int .u8 0] : Array Value).toList 8 = some ([.agg [.agg [.lit (.int .u8 0), .lit (.int .u8 0), .lit (.int .u8 0), .lit (.int .u8 0), .lit (.int .u8 0)], .nil], .lit (.int .u8 0)], [], places) :=
  ⟨[], by kernel_rfl⟩
set_option maxRecDepth 100000 in
theorem lifted (os : Os) (started : os.Started) (H : Type) (enc : TypeId × Value → H) (F : Stop.Interp) :
    ReturnsInHanded {} Tryd.checked os 10 .any ((OpenSpec.ofChange Rows.forkBarredSpec).preRow enc Tryd.prog Tryd.f10 Rows.forkBarredRow.domain false Rows.forkBarredRow.laid) (((OpenSpec.ofChange Rows.forkBarredSpec).at F).post enc Tryd.prog Tryd.f10 false true false false) := by
  obtain ⟨places, hx⟩ := reads os enc
  refine returnsInHanded_of_row (C := Tryd.checked) (s := OpenSpec.ofChange Rows.forkBarredSpec) own started (by kernel_rfl) Tryd.func10
    (witness_row_at (enc := enc) (C := Tryd.checked) false (laidWorld os) #[.agg #[.int .u8 0, .int .u8 0, .int .u8 0, .int .u8 0, .int .u8 0, .slice none 0 0], .int .u8 0] rfl (by kernel_rfl) (by kernel_rfl) (by kernel_rfl)
      (OpenSpec.preRow_of_cond 8 hx (by kernel_rfl) (fun k hk => by cases hk) (by kernel_rfl) (laid_met os))) ?_
  intro W base args ds gs before hval hW _ _ _ hL _ _
  exact contract H enc W base args ds gs before hval hW hL
theorem said : Rows.ForkBarredSaid :=
  OpenClaim.holds_of_cond 10 Tryd.f10 rfl rfl rfl rfl rfl rfl rfl ⟨rfl, rfl, rfl, rfl, rfl⟩ rfl rfl rfl rfl rfl (by kernel_rfl) Tryd.func10 (by kernel_rfl)
    (of_decide_eq_true (by kernel_rfl)) (by unfold Func.isWrapper; first | (rw [if_pos (by decide +kernel)]; kernel_rfl) | (rw [if_neg (by decide +kernel)]; exact ⟨rfl, rfl⟩))
    (fun os started H enc _ F => by rw [OpenClaim.pre_eq_preRow]; exact lifted os started H enc F)
theorem plain (f : FuncId) (fn : Func) (hf : Tryd.pinned.checked.prog.funcNamed "smalto/smaltolaw03.ForkBarred" = some f) (hfn : Tryd.pinned.checked.prog.funcs[f]? = some fn) :
    false = Tryd.pinned.checked.prog.looks [] ∧ ∀ (j : Nat) t, fn.params[j]? = some t → Tryd.pinned.checked.prog.wantsStandIn t = false := by
  obtain rfl : f = 10 := Option.some.inj ((show Tryd.prog.funcNamed "smalto/smaltolaw03.ForkBarred" = some 10 by kernel_rfl).symm.trans hf) |>.symm
  obtain rfl : fn = Tryd.f10 := (Option.some.inj (Tryd.func10.symm.trans hfn)).symm
  refine ⟨by kernel_rfl, fun j t ht => ?_⟩
  rw [Tryd.params10] at ht
  have hm := Array.mem_of_getElem? ht
  simp only [List.mem_toArray, List.mem_cons, List.not_mem_nil, or_false] at hm
  rcases hm with rfl | rfl
  · exact (show Tryd.prog.wantsStandIn 66 = false by kernel_rfl)
  · exact (show Tryd.prog.wantsStandIn 5 = false by kernel_rfl)
/-- The card. -/
theorem card : Rows.ForkBarredCardSaid :=
  Claim7.holds_tied_plain_at .later [] _ _ _ _ said (fun _ h => by cases h) (by kernel_rfl) (fun _ h => by cases h) forkBarred_row_tie rfl ⟨rfl, rfl⟩ (by kernel_rfl) rfl plain (by kernel_rfl)
end Go.Proofs.YtbijamlgcebgeaaDoor.forkBarred
namespace Go.Proofs.YtbijamlgcebgeaaDoor
theorem forkBarred_card : Rows.ForkBarredCardSaid := forkBarred.card
end Go.Proofs.YtbijamlgcebgeaaDoor

/- ForkStills: the law returns true for every input, where the two tables of the library hold what their initialisers lay; its arguments read as they read before. -/
import Derived.Test.YtbijamlgcebgeaaDoorC5
import Derived.Test.YtbijamlgcebgeaaDoorCards
import Derived.Test.YtbijamlgcebgeaaDoorTie
set_option linter.unusedVariables false
set_option linter.unusedSimpArgs false
-- part LB
namespace Go.Proofs.YtbijamlgcebgeaaDoor.Hand
open Go.RowKit Go.Shelf Go.Sort Go.Proofs.YtbijamlgcebgeaaDoorW.PrintWords Go.Proofs.YtbijamlgcebgeaaDoorW.PrintMore Go.Proofs.YtbijamlgcebgeaaDoor.Q
theorem bits_range {n t : Nat} (hn : n ≤ 6) (hb : ∀ i ∈ bitsOf t, i < n) : (List.range n).filter (fun i => t.testBit i) = bitsOf t := by
  unfold bitsOf
  have h6 : List.range 6 = List.range n ++ List.range' n (6 - n) := by
    rw [List.range_eq_range', List.range_eq_range', show (6 : Nat) = n + (6 - n) by omega, ← List.range'_append_1]
    simp
  rw [h6, List.filter_append]
  have h7 : (List.range' n (6 - n)).filter (fun i => t.testBit i) = [] := by
    rw [List.filter_eq_nil_iff]
    intro i hi
    rw [List.mem_range'_1] at hi
    intro ht
    have := hb i (mem_bitsOf.2 ⟨by omega, ht⟩)
    omega
  rw [h7, List.append_nil]
theorem mem_ilist {s i : Nat} : ((i : Nat) : Int) ∈ ilist s ↔ i ∈ bitsOf s := by
  unfold ilist
  rw [List.mem_map]
  constructor
  · rintro ⟨j, hj, h⟩
    have : j = i := Int.ofNat.inj h
    rw [← this]; exact hj
  · intro h; exact ⟨i, h, rfl⟩
theorem Has_l0 (l : List Int) (hl : l.length ≤ 1000) (x : Int) : ∀ n i k : Nat, i + n = l.length → n < k → smaltoref03_Has.l0 k l x i = some (decide (x ∈ l.drop i)) := by
  intro n
  induction n with
  | zero =>
    intro i k h hk
    obtain ⟨k, rfl⟩ : ∃ j, k = j + 1 := ⟨k - 1, by omega⟩
    unfold smaltoref03_Has.l0
    rw [if_neg (by omega), List.drop_eq_nil_of_le (by omega)]
    simp
  | succ n ih =>
    intro i k h hk
    obtain ⟨k, rfl⟩ : ∃ j, k = j + 1 := ⟨k - 1, by omega⟩
    have hi : i < l.length := by omega
    unfold smaltoref03_Has.l0
    rw [if_pos (by omega), if_pos (by omega), rd_get hi, w64 (by omega), List.drop_eq_getElem_cons hi]
    have := ih (i + 1) k (by omega) (by omega)
    rw [show ((i + 1 : Nat) : Int) = (i : Int) + 1 by omega] at this
    rw [this]
    by_cases hx : l[i] = x
    · rw [if_pos hx]; simp [hx]
    · rw [if_neg hx]
      congr 1
      refine decide_eq_decide.2 ?_
      rw [List.mem_cons]
      exact ⟨fun h => .inr h, fun h => h.resolve_left (fun e => hx e.symm)⟩
theorem Has_eq {s i : Nat} (k : Nat) (hk : 8 ≤ k) : smaltoref03_Has.f k (ilist s) (i : Int) = some (decide (i ∈ bitsOf s)) := by
  have h6 := ilist_len s
  have := Has_l0 (ilist s) (by omega) i (ilist s).length 0 k (by omega) (by omega)
  unfold smaltoref03_Has.f
  simp only [show ((0 : Nat) : Int) = 0 from rfl, List.drop_zero] at this
  rw [this]
  congr 1
  exact decide_eq_decide.2 mem_ilist
theorem With_l0 (l : List S74) (hl : l.length ≤ 6) (s x : Nat) : ∀ (n i k : Nat) (acc : List Int), i + n = l.length → n + 8 < k → acc.length ≤ i →
    smaltoref03_With.l0 k l (ilist s) x acc i = some (acc ++ ((List.range' i n).filter fun j => decide (j = x) || decide (j ∈ bitsOf s)).map Int.ofNat) := by
  intro n
  induction n with
  | zero =>
    intro i k acc h hk ha
    obtain ⟨k, rfl⟩ : ∃ j, k = j + 1 := ⟨k - 1, by omega⟩
    unfold smaltoref03_With.l0
    rw [if_neg (by omega)]
    simp
  | succ n ih =>
    intro i k acc h hk ha
    obtain ⟨k, rfl⟩ : ∃ j, k = j + 1 := ⟨k - 1, by omega⟩
    unfold smaltoref03_With.l0
    rw [if_pos (by omega), w64 (by omega), List.range'_succ, List.filter_cons]
    have h1 := ih (i + 1) k (acc ++ [(i : Int)]) (by omega) (by omega) (by simp; omega)
    have h2 := ih (i + 1) k acc (by omega) (by omega) (by omega)
    rw [show ((i + 1 : Nat) : Int) = (i : Int) + 1 by omega] at h1 h2
    by_cases hx : i = x
    · rw [if_pos (by omega), if_pos (by omega), if_pos (by simp [hx]), h1]
      simp
    · rw [if_neg (by omega), Has_eq k (by omega)]
      simp only [Option.bind_some]
      by_cases hb : i ∈ bitsOf s
      · rw [if_pos (by simp [hb]), if_pos (by omega), if_pos (by simp [hb]), h1]
        simp
      · rw [if_neg (by simp [hb]), if_neg (by simp [hb, hx]), h2]
theorem With_eq (l : List S74) (hl : l.length ≤ 6) {s x : Nat} (hb : ∀ i ∈ bitsOf s, i < l.length) (hx : x < l.length) (k : Nat) (hk : 20 ≤ k) : smaltoref03_With.f k l (ilist s) (x : Int) = some (ilist (s ||| 2 ^ x)) := by
  have := With_l0 l hl s x l.length 0 k [] (by omega) (by omega) (by simp)
  unfold smaltoref03_With.f
  simp only [show ((0 : Nat) : Int) = 0 from rfl, List.nil_append] at this
  rw [this, ← List.range_eq_range']
  congr 1
  unfold ilist
  congr 1
  have hbt : ∀ i ∈ bitsOf (s ||| 2 ^ x), i < l.length := by
    intro i hi
    rw [mem_bitsOf, Nat.testBit_or, Bool.or_eq_true, Nat.testBit_two_pow] at hi
    rcases hi.2 with h | h
    · exact hb i (mem_bitsOf.2 ⟨hi.1, h⟩)
    · have : x = i := by simpa using h
      omega
  rw [← bits_range hl hbt]
  apply List.filter_congr
  intro i hi
  rw [List.mem_range] at hi
  rw [Nat.testBit_or, Nat.testBit_two_pow, Bool.eq_iff_iff]
  simp only [Bool.or_eq_true, decide_eq_true_eq, mem_bitsOf]
  constructor
  · rintro (h | h)
    · right; exact h.symm
    · left; exact h.2
  · rintro (h | h)
    · right; exact ⟨by omega, h⟩
    · left; exact h.symm
theorem Still_l0 {F : Furn} (hF : F.Ok) {s : Nat} (hb : ∀ i ∈ bitsOf s, i < F.l.length) (hs : s < 64) : ∀ (n i k : Nat), i + n = F.l.length → n + 110 < k →
    smaltoref03_Still.l0 k F.l (ilist s) ((stillL F s i).map Int.ofNat) i F.bars F.length F.gap F.load F.near = some ((stillL F s F.l.length).map Int.ofNat) := by
  have hs6 := hF.len
  intro n
  induction n with
  | zero =>
    intro i k h hk
    obtain ⟨k, rfl⟩ : ∃ j, k = j + 1 := ⟨k - 1, by omega⟩
    unfold smaltoref03_Still.l0
    rw [if_neg (by omega), show i = F.l.length by omega]
  | succ n ih =>
    intro i k h hk
    obtain ⟨k, rfl⟩ : ∃ j, k = j + 1 := ⟨k - 1, by omega⟩
    have hi : i < F.l.length := by omega
    have hnext := ih (i + 1) k (by omega) (by omega)
    rw [show ((i + 1 : Nat) : Int) = (i : Int) + 1 by omega] at hnext
    have hst : stillL F s (i + 1) = stillL F s i ++ (if (!s.testBit i && goesB F (s ||| 2 ^ i)) = true then [i] else []) := stillL_succ F s i
    have hlen : (stillL F s i).length ≤ i := by
      unfold stillL
      exact Nat.le_trans (List.length_filter_le _ _) (by simp)
    have htb : decide (i ∈ bitsOf s) = s.testBit i := by
      rw [Bool.eq_iff_iff, decide_eq_true_eq, mem_bitsOf]
      exact ⟨fun h => h.2, fun h => ⟨by omega, h⟩⟩
    unfold smaltoref03_Still.l0
    rw [if_pos (by omega), Has_eq k (by omega), htb, w64 (by omega)]
    simp only [Option.bind_some]
    cases htt : s.testBit i with
    | true =>
      rw [htt] at hst
      rw [if_pos rfl]
      rw [hst] at hnext
      simpa using hnext
    | false =>
      rw [htt] at hst
      rw [if_neg (by simp), With_eq F.l hs6 hb hi k (by omega)]
      simp only [Option.bind_some]
      obtain ⟨r2, hr⟩ := goes_set hF (t := s ||| 2 ^ i) (by
        intro j hj
        rw [mem_bitsOf, Nat.testBit_or, Bool.or_eq_true, Nat.testBit_two_pow] at hj
        rcases hj.2 with h | h
        · exact hb j (mem_bitsOf.2 ⟨hj.1, h⟩)
        · have : i = j := by simpa using h
          omega) k (by omega)
      rw [hr]
      simp only [Option.bind_some]
      cases hg : goesB F (s ||| 2 ^ i) with
      | true =>
        rw [if_pos rfl, if_pos (by simp; omega)]
        rw [hst, hg] at hnext
        simpa using hnext
      | false =>
        rw [if_neg (by simp)]
        rw [hst, hg] at hnext
        simpa using hnext
theorem Still_eq {F : Furn} (hF : F.Ok) {s : Nat} (hb : ∀ i ∈ bitsOf s, i < F.l.length) (hs : s < 64) (k : Nat) (hk : 120 ≤ k) :
    smaltoref03_Still.f k F.bars F.length F.gap F.load F.near F.l (ilist s) = some ((stillL F s F.l.length).map Int.ofNat) := by
  have hs6 := hF.len
  exact Still_l0 hF hb hs F.l.length 0 k (by omega) (by omega)
end Go.Proofs.YtbijamlgcebgeaaDoor.Hand

-- part LC
namespace Go.Proofs.YtbijamlgcebgeaaDoor.Hand
open Go.RowKit Go.Shelf Go.Sort Go.Proofs.YtbijamlgcebgeaaDoorW.PrintWords Go.Proofs.YtbijamlgcebgeaaDoorW.PrintMore Go.Proofs.YtbijamlgcebgeaaDoor.Q
theorem two_pow_v : ∀ n : Nat, n ≤ 6 → shl .i64 1 (IntKind.u64.wrap (n : Int)) = ((2 ^ n : Nat) : Int) ∧ 0 ≤ IntKind.u64.wrap (n : Int) ∧ 2 ^ n ≤ 64 := by decide +kernel
theorem ilist_zero : ilist 0 = [] := by decide
/-- The subsets of a set, ascending. -/
def subL (s : Nat) : List Nat := (List.range (s + 1)).filter fun p => p &&& s == p
theorem subL_at : ∀ s : Nat, s < 64 → (subL s).length = 2 ^ lenB s ∧ ∀ m : Nat, m < 2 ^ lenB s → pickL (ilist s) m = ilist ((subL s).getD m 0) := by decide +kernel
theorem subL_ends : ∀ s : Nat, s < 64 → (subL s).getD 0 0 = 0 ∧ (subL s).getD (2 ^ lenB s - 1) 0 = s ∧ ∀ m : Nat, m < 2 ^ lenB s - 1 → ((subL s).getD m 0 &&& s == (subL s).getD m 0) = true ∧ lenB ((subL s).getD m 0) < lenB s ∧ (m ≠ 0 → lenB ((subL s).getD m 0) ≠ 0) := by decide +kernel
theorem lenB_zero : ∀ s : Nat, s < 64 → (lenB s = 0 ↔ s = 0) := by decide +kernel
theorem befB_self (s : Nat) : befB s s = false := by
  unfold befB
  rw [if_pos rfl]
  have : ∀ l : List Nat, lexLt l l = false := by
    intro l
    induction l with
    | nil => rfl
    | cons x l ih => simp [lexLt, ih]
  exact this _
theorem Few_set (s t : Nat) (k : Nat) (hk : 14 ≤ k) : smaltoref03_Few.f k (ilist s) (ilist t) = some (befB s t) := by
  obtain ⟨o, ho, hoo⟩ := Order_set s t k hk
  unfold smaltoref03_Few.f befB
  rw [(ilist_len s).1, (ilist_len t).1]
  by_cases h : lenB s = lenB t
  · rw [if_pos (by omega), if_pos h, ho]
    simp only [Option.bind_some]
    congr 1
    rw [Bool.eq_iff_iff, decide_eq_true_eq]
    exact hoo h
  · rw [if_neg (by omega), if_neg h]
    congr 1
    exact decide_eq_decide.2 (by omega)
/-- One set more: 0 is none. -/
def refStep (F : Furn) (b p : Nat) : Nat := if ((b == 0) || befB p b) = true then (if goesB F p = true then b else p) else b
def refBest (F : Furn) (s : Nat) (k : Nat) : Nat := ((List.range k).map fun m => (subL s).getD (m + 1) 0).foldl (refStep F) 0
theorem refBest_succ (F : Furn) (s k : Nat) : refBest F s (k + 1) = refStep F (refBest F s k) ((subL s).getD (k + 1) 0) := by simp [refBest, List.range_succ]
theorem subL_le {s m : Nat} (hs : s < 64) (hm : m < 2 ^ lenB s) : (subL s).getD m 0 ≤ s ∧ ((subL s).getD m 0 &&& s == (subL s).getD m 0) = true := by
  have hl := (subL_at s hs).1
  rw [List.getD_eq_getElem?_getD, List.getElem?_eq_getElem (by rw [hl]; exact hm)]
  have := List.getElem_mem (l := subL s) (n := m) (by rw [hl]; exact hm)
  unfold subL at this
  rw [List.mem_filter, List.mem_range] at this
  exact ⟨by show (subL s)[m] ≤ s; have := this.1; unfold subL; omega, this.2⟩
theorem sub_bits {p s n : Nat} (h : (p &&& s == p) = true) (hb : ∀ i ∈ bitsOf s, i < n) : ∀ i ∈ bitsOf p, i < n := by
  intro i hi
  have h' : p &&& s = p := by simpa using h
  rw [mem_bitsOf, ← h', Nat.testBit_and, Bool.and_eq_true] at hi
  exact hb i (mem_bitsOf.2 ⟨hi.1, hi.2.2⟩)
section
variable {F : Furn} (hF : F.Ok) {s : Nat} (hs : s < 64) (hb : ∀ i ∈ bitsOf s, i < F.l.length)
include hs
theorem refBest_lt : ∀ k, k < 2 ^ lenB s → refBest F s k < 64 := by
  intro k
  induction k with
  | zero => intro _; simp [refBest]
  | succ k ih =>
    intro h
    have h1 := ih (by omega)
    have h2 := (subL_le hs h).1
    rw [refBest_succ]
    unfold refStep
    split
    · split <;> omega
    · exact h1
include hF hb
theorem Bar_l0 : ∀ (n m k : Nat), m + 1 + n = 2 ^ lenB s → 2 * n + 110 ≤ k →
    smaltoref03_Bar.l0 k F.l (ilist s) (ilist (refBest F s m)) ((m : Int) + 1) F.bars F.length F.gap F.load F.near = some (ilist (refBest F s (2 ^ lenB s - 1))) := by
  have hl := ilist_len s
  obtain ⟨p1, p2, p3⟩ := two_pow_v (lenB s) hl.2
  intro n
  induction n with
  | zero =>
    intro m k h hk
    obtain ⟨k, rfl⟩ : ∃ j, k = j + 1 := ⟨k - 1, by omega⟩
    rw [smaltoref03_Bar.l0, hl.1, if_pos p2, p1, if_neg (by omega), show m = 2 ^ lenB s - 1 by omega]
  | succ n ih =>
    intro m k h hk
    obtain ⟨k, rfl⟩ : ∃ j, k = j + 2 := ⟨k - 2, by omega⟩
    have hm1 : m + 1 < 2 ^ lenB s := by omega
    have hnext := ih (m + 1) k (by omega) (by omega)
    rw [show ((m + 1 : Nat) : Int) + 1 = (m : Int) + 1 + 1 by omega, refBest_succ] at hnext
    have hpick := (subL_at s hs).2 (m + 1) hm1
    obtain ⟨hle, hsub⟩ := subL_le hs hm1
    have hrb := refBest_lt (F := F) hs m (by omega)
    have hlb := ilist_len (refBest F s m)
    generalize (subL s).getD (m + 1) 0 = p at hnext hpick hle hsub
    have hpb := sub_bits hsub hb
    have hN := Numbers_eq (ilist s) (by omega) (m + 1) (by omega) (k + 1) (by omega)
    rw [show ((m + 1 : Nat) : Int) = (m : Int) + 1 by omega, hpick] at hN
    rw [smaltoref03_Bar.l0, hl.1, if_pos p2, p1, if_pos (by omega), hN]
    simp only [Option.bind_some]
    have hj1 : smaltoref03_Bar.j1 (k + 1) F.l (ilist s) (ilist (refBest F s m)) ((m : Int) + 1) (ilist p) false F.bars F.length F.gap F.load F.near = smaltoref03_Bar.l0 k F.l (ilist s) (ilist (if goesB F p = true then refBest F s m else p)) ((m : Int) + 1 + 1) F.bars F.length F.gap F.load F.near := by
      obtain ⟨r2, hr⟩ := goes_set hF (t := p) hpb k (by omega)
      rw [smaltoref03_Bar.j1, if_neg (by simp), hr, w64 (by omega)]
      simp only [Option.bind_some]
      cases goesB F p <;> simp
    have hj2 : smaltoref03_Bar.j1 (k + 1) F.l (ilist s) (ilist (refBest F s m)) ((m : Int) + 1) (ilist p) true F.bars F.length F.gap F.load F.near = smaltoref03_Bar.l0 k F.l (ilist s) (ilist (refBest F s m)) ((m : Int) + 1 + 1) F.bars F.length F.gap F.load F.near := by
      rw [smaltoref03_Bar.j1, if_pos rfl, w64 (by omega)]
    rw [← hnext]
    unfold refStep
    by_cases h0 : refBest F s m = 0
    · have hz := (lenB_zero _ hrb).2 h0
      rw [if_neg (by rw [hlb.1]; omega), hj1, h0]
      simp
    · have hz : lenB (refBest F s m) ≠ 0 := fun h => h0 ((lenB_zero _ hrb).1 h)
      rw [if_pos (by rw [hlb.1]; omega), Few_set _ _ _ (by omega)]
      simp only [Option.bind_some]
      have hbz : (refBest F s m == 0) = false := by simpa using h0
      rw [hbz, Bool.false_or]
      cases befB p (refBest F s m) with
      | true => rw [if_pos rfl]; exact hj1
      | false => rw [if_neg (by simp)]; exact hj2
theorem goesB_zero : goesB F 0 = true := by
  have _ := hs
  have _ := hb
  have h1 := hF.load
  have h2 := hF.near
  unfold goesB highW fitsB alikeB
  have e : bitsOf 0 = [] := by decide
  rw [e]
  simp [sumB, heatB, highB, barsB, optL]
  omega
theorem barBest_sub : barBest F s (s + 1) = (subL s).foldl (fun b p => if (befB p b && !goesB F p) = true then p else b) s := by
  have _ := hF
  have _ := hs
  have _ := hb
  unfold barBest subL
  rw [List.foldl_filter]
  congr 1
  funext b p
  unfold barStep
  cases (p &&& s == p) <;> simp
theorem subL_map : subL s = (List.range (2 ^ lenB s)).map fun m => (subL s).getD m 0 := by
  have _ := hF
  have _ := hb
  have hl := (subL_at s hs).1
  apply List.ext_getElem
  · simp [hl]
  · intro i h1 h2
    simp [List.getD_eq_getElem?_getD, h1]
/-- What the program has found so far, beside the reference. -/
theorem bar_beside (hg : goesB F s = false) : ∀ k, k < 2 ^ lenB s → ((List.range (k + 1)).map fun m => (subL s).getD m 0).foldl (fun b p => if (befB p b && !goesB F p) = true then p else b) s = if refBest F s k = 0 then s else refBest F s k := by
  have hle := ilist_len s
  obtain ⟨q0, q1, q2⟩ := subL_ends s hs
  intro k
  induction k with
  | zero =>
    intro hk
    simp only [List.range_succ, List.range_zero, List.nil_append, List.map_cons, List.map_nil, List.foldl_cons, List.foldl_nil, q0, goesB_zero hF hs hb]
    simp [refBest]
  | succ k ih =>
    intro hk
    have h1 := ih (by omega)
    rw [List.range_succ, List.map_append, List.foldl_append, h1, refBest_succ]
    simp only [List.map_cons, List.map_nil, List.foldl_cons, List.foldl_nil]
    by_cases hlast : k + 1 = 2 ^ lenB s - 1
    · rw [hlast, q1]
      unfold refStep
      by_cases h0 : refBest F s k = 0
      · have h64 : s ≠ 0 := by
          rintro rfl
          rw [goesB_zero hF hs hb] at hg
          cases hg
        rw [if_pos h0, befB_self, h0, hg]
        simp [h64]
      · have hbz : (refBest F s k == 0) = false := by simpa using h0
        rw [if_neg h0, hbz, hg]
        cases hbf : befB s (refBest F s k) with
        | true =>
          have h64 : s ≠ 0 := by
            rintro rfl
            rw [goesB_zero hF hs hb] at hg
            cases hg
          simp [h64]
        | false => simp [h0]
    · obtain ⟨r1, r2, r3⟩ := q2 (k + 1) (by omega)
      have r3 := r3 (by omega)
      have hp0 : (subL s).getD (k + 1) 0 ≠ 0 := by
        intro h
        rw [h] at r3
        exact r3 (by decide)
      generalize (subL s).getD (k + 1) 0 = p at r1 r2 r3 hp0 ⊢
      unfold refStep
      by_cases h0 : refBest F s k = 0
      · rw [if_pos h0, h0]
        have hbf : befB p s = true := by
          unfold befB
          rw [if_neg (by omega)]
          exact decide_eq_true r2
        rw [hbf]
        cases goesB F p <;> simp [hp0]
      · have hbz : (refBest F s k == 0) = false := by simpa using h0
        rw [if_neg h0, hbz]
        cases befB p (refBest F s k) <;> cases goesB F p <;> simp [h0, hp0]
theorem bar_goes (hg : goesB F s = true) : ∀ k, k < 2 ^ lenB s → refBest F s k = 0 := by
  intro k
  induction k with
  | zero => intro _; rfl
  | succ k ih =>
    intro hk
    have h2 := (subL_le hs hk).2
    rw [refBest_succ, ih (by omega)]
    have h2' : (subL s).getD (k + 1) 0 &&& s = (subL s).getD (k + 1) 0 := by simpa using h2
    have hgo := goesB_sub hF h2' hb hg
    unfold refStep
    rw [hgo]
    simp
theorem bar_final (hg : goesB F s = false) : barBest F s (s + 1) = refBest F s (2 ^ lenB s - 1) ∧ refBest F s (2 ^ lenB s - 1) ≠ 0 := by
  have hp : 0 < 2 ^ lenB s := Nat.two_pow_pos _
  have h1 := bar_beside hF hs hb hg (2 ^ lenB s - 1) (by omega)
  rw [show 2 ^ lenB s - 1 + 1 = 2 ^ lenB s by omega, ← subL_map hF hs hb, ← barBest_sub hF hs hb] at h1
  have hne : refBest F s (2 ^ lenB s - 1) ≠ 0 := by
    intro h0
    by_cases hz : 2 ^ lenB s - 1 = 0
    · have : lenB s = 0 := by
        rcases Nat.eq_zero_or_pos (lenB s) with h | h
        · exact h
        · have : 2 ^ 1 ≤ 2 ^ lenB s := Nat.pow_le_pow_right (by omega) h
          omega
      have := (lenB_zero s hs).1 this
      subst this
      rw [goesB_zero hF hs hb] at hg
      cases hg
    · obtain ⟨j, hj⟩ : ∃ j, 2 ^ lenB s - 1 = j + 1 := ⟨2 ^ lenB s - 2, by omega⟩
      rw [hj, refBest_succ, ← hj, (subL_ends s hs).2.1] at h0
      unfold refStep at h0
      rw [hg] at h0
      have h64 : s ≠ 0 := by
        rintro rfl
        rw [goesB_zero hF hs hb] at hg
        cases hg
      split at h0
      · simp at h0; exact h64 h0
      · rename_i hc
        rw [h0] at hc
        simp at hc
  rw [if_neg hne] at h1
  exact ⟨h1, hne⟩
theorem bar_ne (hg : goesB F s = false) : (ilist (barBest F s (s + 1))).length ≠ 0 := by
  obtain ⟨h1, h2⟩ := bar_final hF hs hb hg
  have hp : 0 < 2 ^ lenB s := Nat.two_pow_pos _
  rw [h1, (ilist_len _).1]
  exact fun h => h2 ((lenB_zero _ (refBest_lt hs _ (by omega))).1 h)
theorem Bar_eq (k : Nat) (hk : 300 ≤ k) : smaltoref03_Bar.f k F.bars F.length F.gap F.load F.near F.l (ilist s) = some (if goesB F s = true then [] else ilist (barBest F s (s + 1))) := by
  have hl := ilist_len s
  have p3 := (two_pow_v (lenB s) hl.2).2.2
  have hp : 0 < 2 ^ lenB s := Nat.two_pow_pos _
  have h := Bar_l0 hF hs hb (2 ^ lenB s - 1) 0 k (by omega) (by omega)
  unfold smaltoref03_Bar.f
  have e0 : ilist (refBest F s 0) = [] := ilist_zero
  rw [e0] at h
  simp only [show ((0 : Nat) : Int) + 1 = 1 from rfl] at h
  rw [h]
  cases hg : goesB F s with
  | true => rw [bar_goes hF hs hb hg _ (by omega), ilist_zero, if_pos rfl]
  | false =>
    rw [if_neg (by simp)]
    rw [(bar_final hF hs hb hg).1]
end
end Go.Proofs.YtbijamlgcebgeaaDoor.Hand

-- part LD
namespace Go.Proofs.YtbijamlgcebgeaaDoor.Hand
open Go.RowKit Go.Shelf Go.Sort Go.Proofs.YtbijamlgcebgeaaDoorW.PrintWords Go.Proofs.YtbijamlgcebgeaaDoorW.PrintMore Go.Proofs.YtbijamlgcebgeaaDoor.Q
attribute [local go_sem high] eqA36
set_option maxRecDepth 100000 in
set_option maxHeartbeats 4000000 in
theorem lawstills_calls (a b c d e : Int) (l : List S74) (load : List Int) (A1 A2 : Option Addr) (c1 c2 : Nat) (hc1 : l.length ≤ c1) (hc2 : load.length ≤ c2) (w : World) (hT : TabW w) (hr1 : Kd.C k74 w A1 l.length l) (hr2 : Kd.C (Kd.int .i64) w A2 load.length load) :
    Calls Tryd.prog 4 #[.agg #[.int .i64 a, .int .i64 b, .int .i64 c, .int .i64 d, .int .i64 e], .slice A1 l.length c1, .slice A2 load.length c2] w fun e_ w' => e_ = .returned (.bool true) ∧ Below w.heap.size w w' := by
  obtain ⟨wa, hwa⟩ : ∃ v, w.alloc (.cells #[.int .i64 a, .int .i64 b, .int .i64 c, .int .i64 d, .int .i64 e] 23) = v := ⟨_, rfl⟩
  have hB : Below w.heap.size w wa := hwa ▸ (Below.refl _ _).alloc (Nat.le_refl _) _
  replace hT : TabW wa := hwa ▸ hT.alloc _
  replace hr1 : Kd.C k74 wa A1 l.length l := hwa ▸ Kd.C_alloc hr1 _
  replace hr2 : Kd.C (Kd.int .i64) wa A2 load.length load := hwa ▸ Kd.C_alloc hr2 _
  have x3 : Box wa w.heap.size #[.int .i64 a, .int .i64 b, .int .i64 c, .int .i64 d, .int .i64 e] 23 := hwa ▸ Box.new _ _ _
  have e0 : wa.cell? ⟨w.heap.size, 0, none⟩ = some (.int .i64 a) := x3.cell 0 rfl
  have e1 : wa.cell? ⟨w.heap.size, 1, none⟩ = some (.int .i64 b) := x3.cell 1 rfl
  have e2 : wa.cell? ⟨w.heap.size, 2, none⟩ = some (.int .i64 c) := x3.cell 2 rfl
  have e3 : wa.cell? ⟨w.heap.size, 3, none⟩ = some (.int .i64 d) := x3.cell 3 rfl
  have e4 : wa.cell? ⟨w.heap.size, 4, none⟩ = some (.int .i64 e) := x3.cell 4 rfl
  by_cases h12 : 12 < l.length
  · have p1 : decide ((12 : Int) < l.length) = true := decide_eq_true (by omega)
    go_enter Tryd.func4, Tryd.ntmps4
    go_wp2_with fail
    refine (known_calls _ hT).mono ?_
    rintro e_ uf ⟨rfl, hb⟩
    replace hB := hB.trans (hb.mono hB.size)
    go_wp2
    go_ret
    exact ⟨rfl, hB⟩
  · have p1 : decide ((12 : Int) < l.length) = false := decide_eq_false (by omega)
    by_cases h13 : 12 < load.length
    · have p2 : decide ((12 : Int) < load.length) = true := decide_eq_true (by omega)
      go_enter Tryd.func4, Tryd.ntmps4
      go_wp2_with fail
      refine (known_calls _ hT).mono ?_
      rintro e_ uf ⟨rfl, hb⟩
      replace hB := hB.trans (hb.mono hB.size)
      go_wp2
      go_ret
      exact ⟨rfl, hB⟩
    · have p2 : decide ((12 : Int) < load.length) = false := decide_eq_false (by omega)
      have HOwn := Lib.hid (Own_eq l (by omega))
      have Hints := Lib.hid (ints_eq load (by omega))
      have HSame := Lib.hid (Same_eq l (by omega))
      have HInts := Lib.hid (Ints_eq load (by omega))
      obtain ⟨⟨sl, se⟩, hst⟩ : ∃ v, stillR a b c d e l load = v := ⟨_, rfl⟩
      have Hst := Lib.hid hst
      obtain ⟨⟨bl, be⟩, hbr⟩ : ∃ v, barR a b c d e l load = v := ⟨_, rfl⟩
      have Hbr := Lib.hid hbr
      obtain ⟨o, ho⟩ : ∃ v, openF a b c d e l load = v := ⟨_, rfl⟩
      have Ho := Lib.hid ho
      clear hst hbr ho
      have Hl : Hid (l.length ≤ 12 ∧ load.length ≤ 12) := Lib.hid ⟨by omega, by omega⟩
      clear h12 h13
      go_enter Tryd.func4, Tryd.ntmps4
      go_wp2_with fail
      clear hwa
      refine (smaltoref03_Own.calls A1 c1 l l _ hr1 hc1 HOwn.out).mono ?_
      rintro e_ u1 ⟨v0, rfl, hR, hb⟩
      obtain ⟨AX, cX, rfl, hcX, hX⟩ := Kd.R_reads hR
      clear hR
      replace hT := hT.below hb
      replace hr1 := Kd.C_below hr1 hb
      replace hB := hB.trans (hb.mono hB.size)
      replace x3 := x3.step hb
      replace hr2 := Kd.C_below hr2 hb
      replace e0 := x3.cell 0 rfl
      replace e1 := x3.cell 1 rfl
      replace e2 := x3.cell 2 rfl
      replace e3 := x3.cell 3 rfl
      replace e4 := x3.cell 4 rfl
      clear hb
      go_wp2_with fail
      refine (smaltolaw03_ints.calls A2 c2 load load _ hr2 hc2 Hints.out).mono ?_
      rintro e_ u1 ⟨v0, rfl, hR, hb⟩
      obtain ⟨AP, cP, rfl, hcP, hP⟩ := Kd.R_reads hR
      clear hR
      replace hT := hT.below hb
      replace hr1 := Kd.C_below hr1 hb
      replace hB := hB.trans (hb.mono hB.size)
      replace x3 := x3.step hb
      replace hr2 := Kd.C_below hr2 hb
      replace hX := Kd.C_below hX hb
      replace e0 := x3.cell 0 rfl
      replace e1 := x3.cell 1 rfl
      replace e2 := x3.cell 2 rfl
      replace e3 := x3.cell 3 rfl
      replace e4 := x3.cell 4 rfl
      clear hb
      go_wp2_with fail
      have hcl := still_exp a b c d e l load AX AP cX cP _ hT hX hP
      rw [Hst.out] at hcl
      refine (res_C hcl).mono ?_
      rintro e_ u1 ⟨AS, cS, rfl, hcS, hS, hb⟩
      clear hcl
      replace hT := hT.below hb
      replace hr1 := Kd.C_below hr1 hb
      replace hB := hB.trans (hb.mono hB.size)
      replace x3 := x3.step hb
      replace hr2 := Kd.C_below hr2 hb
      replace hX := Kd.C_below hX hb
      replace hP := Kd.C_below hP hb
      replace e0 := x3.cell 0 rfl
      replace e1 := x3.cell 1 rfl
      replace e2 := x3.cell 2 rfl
      replace e3 := x3.cell 3 rfl
      replace e4 := x3.cell 4 rfl
      clear hb
      go_wp2_with fail
      have hcl := bar_exp a b c d e l load AX AP cX cP _ hT hX hP
      rw [Hbr.out] at hcl
      refine (res_C hcl).mono ?_
      rintro e_ u1 ⟨AL, cL, rfl, hcL, hL, hb⟩
      clear hcl
      replace hT := hT.below hb
      replace hr1 := Kd.C_below hr1 hb
      replace hB := hB.trans (hb.mono hB.size)
      replace x3 := x3.step hb
      replace hr2 := Kd.C_below hr2 hb
      replace hX := Kd.C_below hX hb
      replace hP := Kd.C_below hP hb
      replace hS := Kd.C_below hS hb
      replace e0 := x3.cell 0 rfl
      replace e1 := x3.cell 1 rfl
      replace e2 := x3.cell 2 rfl
      replace e3 := x3.cell 3 rfl
      replace e4 := x3.cell 4 rfl
      clear hb
      go_wp2_with fail
      refine (smaltoref03_Same.calls (l.length + 1) AX cX l A1 c1 l true _ hX hcX hr1 hc1 HSame.out).mono ?_
      rintro e_ uu ⟨rfl, hd⟩
      have hb := hd.below
      clear hd
      replace hT := hT.below hb
      replace hr1 := Kd.C_below hr1 hb
      replace hB := hB.trans (hb.mono hB.size)
      replace x3 := x3.step hb
      replace hr2 := Kd.C_below hr2 hb
      replace hX := Kd.C_below hX hb
      replace hP := Kd.C_below hP hb
      replace hS := Kd.C_below hS hb
      replace hL := Kd.C_below hL hb
      replace e0 := x3.cell 0 rfl
      replace e1 := x3.cell 1 rfl
      replace e2 := x3.cell 2 rfl
      replace e3 := x3.cell 3 rfl
      replace e4 := x3.cell 4 rfl
      clear hb
      go_wp2_with fail
      refine (smaltoref03_Ints.calls (2 * load.length + 2) AP cP load A2 c2 load true _ hP hcP hr2 hc2 HInts.out).mono ?_
      rintro e_ uu ⟨rfl, hd⟩
      have hb := hd.below
      clear hd
      replace hT := hT.below hb
      replace hr1 := Kd.C_below hr1 hb
      replace hB := hB.trans (hb.mono hB.size)
      replace x3 := x3.step hb
      replace hr2 := Kd.C_below hr2 hb
      replace hX := Kd.C_below hX hb
      replace hP := Kd.C_below hP hb
      replace hS := Kd.C_below hS hb
      replace hL := Kd.C_below hL hb
      replace e0 := x3.cell 0 rfl
      replace e1 := x3.cell 1 rfl
      replace e2 := x3.cell 2 rfl
      replace e3 := x3.cell 3 rfl
      replace e4 := x3.cell 4 rfl
      clear hb
      go_wp2_with fail
      have hcl := refopen_calls a b c d e l load A1 A2 c1 c2 hc1 _ hr1 hr2 (by have := Hl.out; omega) (by have := Hl.out; omega)
      rw [Ho.out] at hcl
      refine hcl.mono ?_
      rintro e_ u5 ⟨rfl, hb⟩
      clear hcl
      replace hT := hT.below hb
      replace hr1 := Kd.C_below hr1 hb
      replace hB := hB.trans (hb.mono hB.size)
      replace x3 := x3.step hb
      replace hr2 := Kd.C_below hr2 hb
      replace hX := Kd.C_below hX hb
      replace hP := Kd.C_below hP hb
      replace hS := Kd.C_below hS hb
      replace hL := Kd.C_below hL hb
      replace e0 := x3.cell 0 rfl
      replace e1 := x3.cell 1 rfl
      replace e2 := x3.cell 2 rfl
      replace e3 := x3.cell 3 rfl
      replace e4 := x3.cell 4 rfl
      clear hb
      by_cases ho0 : o = 0
      · subst ho0
        obtain ⟨s, hs⟩ := accepted Ho.out
        have hF := check_ok (newR_ok hs).1
        obtain ⟨hls, hs64⟩ := newR_list hs
        have hbits := newR_bits hs
        have hst' := Hst.out
        unfold stillR at hst'
        rw [hs] at hst'
        simp only [Prod.mk.injEq] at hst'
        obtain ⟨hst', rfl⟩ := hst'
        have HStill : Hid (smaltoref03_Still.f 120 a b c d e l load = some sl) := Lib.hid (by rw [← hst', ← hls]; exact Still_eq hF hbits hs64 120 (Nat.le_refl _))
        have hbq : smaltoref03_Bar.f 300 a b c d e l load = some (if goesB (mkF a b c d e l) s = true then [] else ilist (barBest (mkF a b c d e l) s (s + 1))) := by rw [← hls]; exact Bar_eq hF hs64 hbits 300 (Nat.le_refl _)
        have hbr' := Hbr.out
        unfold barR at hbr'
        rw [hs] at hbr'
        dsimp only at hbr'
        have hbn := bar_ne hF hs64 hbits
        have HSl : Hid (sl.length ≤ 1000) := Lib.hid (by rw [← hst', List.length_map]; unfold stillL; exact Nat.le_trans (List.length_filter_le _ _) (by have := Hl.out; simp; omega))
        have hbl6 := (ilist_len (barBest (mkF a b c d e l) s (s + 1)))
        obtain ⟨due, hdue⟩ : ∃ v, (if goesB (mkF a b c d e l) s = true then [] else ilist (barBest (mkF a b c d e l) s (s + 1))) = v := ⟨_, rfl⟩
        rw [hdue] at hbq
        have HBar := Lib.hid hbq
        have hcase : (bl = [] ∧ be = 6 ∧ due = []) ∨ (be = 0 ∧ due = bl ∧ bl.length ≠ 0 ∧ bl.length ≤ 1000) := by
          cases hg : goesB (mkF a b c d e l) s with
          | true =>
            rw [hg] at hbr' hdue
            simp only [if_true, Prod.mk.injEq] at hbr' hdue
            exact .inl ⟨hbr'.1.symm, hbr'.2.symm, hdue.symm⟩
          | false =>
            rw [hg] at hbr' hdue
            simp only [Bool.false_eq_true, if_false, Prod.mk.injEq] at hbr' hdue
            have := hbn hg
            rw [hdue] at this hbl6
            refine .inr ⟨hbr'.2.symm, hdue.symm.trans hbr'.1, ?_, ?_⟩
            · rw [← hbr'.1, hdue]; exact this
            · rw [← hbr'.1, hdue]; omega
        clear hst' hbr' hbn hbl6 hdue hbq hF hls hs64 hbits hs Hbr Hst
        go_wp2_with fail
        refine (smaltoref03_Bar.calls 300 a b c d e A1 c1 l A2 c2 load due _ hr1 hc1 hr2 hc2 HBar.out).mono ?_
        rintro e_ u1 ⟨v0, rfl, hR, hb⟩
        obtain ⟨AB, cB, rfl, hcB, hBs⟩ := Kd.R_reads hR
        clear hR HBar
        replace hT := hT.below hb
        replace hr1 := Kd.C_below hr1 hb
        replace hB := hB.trans (hb.mono hB.size)
        replace x3 := x3.step hb
        replace hr2 := Kd.C_below hr2 hb
        replace hX := Kd.C_below hX hb
        replace hP := Kd.C_below hP hb
        replace hS := Kd.C_below hS hb
        replace hL := Kd.C_below hL hb
        replace e0 := x3.cell 0 rfl
        replace e1 := x3.cell 1 rfl
        replace e2 := x3.cell 2 rfl
        replace e3 := x3.cell 3 rfl
        replace e4 := x3.cell 4 rfl
        clear hb
        rcases hcase with ⟨rfl, rfl, rfl⟩ | ⟨rfl, rfl, hbne, hbl⟩
        · clear HOwn
          go_wp2_with fail
          refine (smaltoref03_Still.calls 120 a b c d e A1 c1 l A2 c2 load sl _ hr1 hc1 hr2 hc2 HStill.out).mono ?_
          rintro e_ u1 ⟨v0, rfl, hR, hb⟩
          obtain ⟨AT, cT, rfl, hcT, hTs⟩ := Kd.R_reads hR
          clear hR
          replace hT := hT.below hb
          replace hr1 := Kd.C_below hr1 hb
          replace hB := hB.trans (hb.mono hB.size)
          replace x3 := x3.step hb
          replace hr2 := Kd.C_below hr2 hb
          replace hX := Kd.C_below hX hb
          replace hP := Kd.C_below hP hb
          replace hS := Kd.C_below hS hb
          replace hL := Kd.C_below hL hb
          replace hBs := Kd.C_below hBs hb
          replace e0 := x3.cell 0 rfl
          replace e1 := x3.cell 1 rfl
          replace e2 := x3.cell 2 rfl
          replace e3 := x3.cell 3 rfl
          replace e4 := x3.cell 4 rfl
          clear hb
          go_wp2_with fail
          refine (smaltoref03_Ints.calls (2 * sl.length + 2) AS cS sl AT cT sl true _ hS hcS hTs hcT (Ints_eq sl HSl.out)).mono ?_
          rintro e_ uu ⟨rfl, hd⟩
          have hb := hd.below
          clear hd
          replace hT := hT.below hb
          replace hr1 := Kd.C_below hr1 hb
          replace hB := hB.trans (hb.mono hB.size)
          replace x3 := x3.step hb
          replace hr2 := Kd.C_below hr2 hb
          replace hX := Kd.C_below hX hb
          replace hP := Kd.C_below hP hb
          replace hS := Kd.C_below hS hb
          replace hL := Kd.C_below hL hb
          replace hBs := Kd.C_below hBs hb
          replace hTs := Kd.C_below hTs hb
          replace e0 := x3.cell 0 rfl
          replace e1 := x3.cell 1 rfl
          replace e2 := x3.cell 2 rfl
          replace e3 := x3.cell 3 rfl
          replace e4 := x3.cell 4 rfl
          clear hb
          go_wp2_with fail
          refine (smaltoref03_Ints.calls (2 * ([] : List Int).length + 2) AL cL [] AB cB [] true _ hL hcL hBs hcB (Ints_eq [] (by simp))).mono ?_
          rintro e_ uu ⟨rfl, hd⟩
          have hb := hd.below
          clear hd
          replace hT := hT.below hb
          replace hr1 := Kd.C_below hr1 hb
          replace hB := hB.trans (hb.mono hB.size)
          replace x3 := x3.step hb
          replace hr2 := Kd.C_below hr2 hb
          replace hX := Kd.C_below hX hb
          replace hP := Kd.C_below hP hb
          replace hS := Kd.C_below hS hb
          replace hL := Kd.C_below hL hb
          replace hBs := Kd.C_below hBs hb
          replace hTs := Kd.C_below hTs hb
          replace e0 := x3.cell 0 rfl
          replace e1 := x3.cell 1 rfl
          replace e2 := x3.cell 2 rfl
          replace e3 := x3.cell 3 rfl
          replace e4 := x3.cell 4 rfl
          clear hb
          go_wp2_with fail
          refine (known_calls _ hT).mono ?_
          rintro e_ uf ⟨rfl, hb⟩
          replace hB := hB.trans (hb.mono hB.size)
          go_wp2
          go_ret
          exact ⟨rfl, hB⟩
        · have hz : ((due.length : Int) == 0) = false := by simp; intro h; rw [h] at hbne; exact hbne rfl
          have Hbl := Lib.hid hbl
          clear hbl hbne
          go_wp2_with fail
          refine (smaltoref03_Still.calls 120 a b c d e A1 c1 l A2 c2 load sl _ hr1 hc1 hr2 hc2 HStill.out).mono ?_
          rintro e_ u1 ⟨v0, rfl, hR, hb⟩
          obtain ⟨AT, cT, rfl, hcT, hTs⟩ := Kd.R_reads hR
          clear hR
          replace hT := hT.below hb
          replace hr1 := Kd.C_below hr1 hb
          replace hB := hB.trans (hb.mono hB.size)
          replace x3 := x3.step hb
          replace hr2 := Kd.C_below hr2 hb
          replace hX := Kd.C_below hX hb
          replace hP := Kd.C_below hP hb
          replace hS := Kd.C_below hS hb
          replace hL := Kd.C_below hL hb
          replace hBs := Kd.C_below hBs hb
          replace e0 := x3.cell 0 rfl
          replace e1 := x3.cell 1 rfl
          replace e2 := x3.cell 2 rfl
          replace e3 := x3.cell 3 rfl
          replace e4 := x3.cell 4 rfl
          clear hb
          go_wp2_with fail
          refine (smaltoref03_Ints.calls (2 * sl.length + 2) AS cS sl AT cT sl true _ hS hcS hTs hcT (Ints_eq sl HSl.out)).mono ?_
          rintro e_ uu ⟨rfl, hd⟩
          have hb := hd.below
          clear hd
          replace hT := hT.below hb
          replace hr1 := Kd.C_below hr1 hb
          replace hB := hB.trans (hb.mono hB.size)
          replace x3 := x3.step hb
          replace hr2 := Kd.C_below hr2 hb
          replace hX := Kd.C_below hX hb
          replace hP := Kd.C_below hP hb
          replace hS := Kd.C_below hS hb
          replace hL := Kd.C_below hL hb
          replace hBs := Kd.C_below hBs hb
          replace hTs := Kd.C_below hTs hb
          replace e0 := x3.cell 0 rfl
          replace e1 := x3.cell 1 rfl
          replace e2 := x3.cell 2 rfl
          replace e3 := x3.cell 3 rfl
          replace e4 := x3.cell 4 rfl
          clear hb
          go_wp2_with fail
          refine (smaltoref03_Ints.calls (2 * due.length + 2) AL cL due AB cB due true _ hL hcL hBs hcB (Ints_eq due Hbl.out)).mono ?_
          rintro e_ uu ⟨rfl, hd⟩
          have hb := hd.below
          clear hd
          replace hT := hT.below hb
          replace hr1 := Kd.C_below hr1 hb
          replace hB := hB.trans (hb.mono hB.size)
          replace x3 := x3.step hb
          replace hr2 := Kd.C_below hr2 hb
          replace hX := Kd.C_below hX hb
          replace hP := Kd.C_below hP hb
          replace hS := Kd.C_below hS hb
          replace hL := Kd.C_below hL hb
          replace hBs := Kd.C_below hBs hb
          replace hTs := Kd.C_below hTs hb
          replace e0 := x3.cell 0 rfl
          replace e1 := x3.cell 1 rfl
          replace e2 := x3.cell 2 rfl
          replace e3 := x3.cell 3 rfl
          replace e4 := x3.cell 4 rfl
          clear hb
          go_wp2_with fail
          refine (known_calls _ hT).mono ?_
          rintro e_ uf ⟨rfl, hb⟩
          replace hB := hB.trans (hb.mono hB.size)
          go_wp2
          go_ret
          exact ⟨rfl, hB⟩
      · have ho1 : (o != 0) = true := by simp [ho0]
        obtain ⟨q1, q2⟩ : stillR a b c d e l load = ([], openF a b c d e l load) ∧ barR a b c d e l load = ([], openF a b c d e l load) := by
          have hne : openF a b c d e l load ≠ 0 := by rw [Ho.out]; exact ho0
          unfold openF at hne ⊢
          cases hr : newR a b c d e l load with
          | error x => unfold stillR barR; rw [hr]; exact ⟨rfl, rfl⟩
          | ok s => rw [hr] at hne; exact absurd rfl hne
        rw [Hst.out, Ho.out] at q1
        rw [Hbr.out, Ho.out] at q2
        simp only [Prod.mk.injEq] at q1 q2
        obtain ⟨rfl, rfl⟩ := q1
        obtain ⟨rfl, _⟩ := q2
        go_wp2_with fail
        refine (known_calls _ hT).mono ?_
        rintro e_ uf ⟨rfl, hb⟩
        replace hB := hB.trans (hb.mono hB.size)
        go_wp2
        go_ret
        exact ⟨rfl, hB⟩
end Go.Proofs.YtbijamlgcebgeaaDoor.Hand

-- part LE
namespace Go.Proofs.YtbijamlgcebgeaaDoor.forkStills
open Go.ChangeShapes Go.WideShapes Go.ChangeAt Go.RowKit Go.Proofs.YtbijamlgcebgeaaDoor.Hand
set_option maxRecDepth 100000 in
theorem contract (H : Type) (enc : TypeId × Value → H) (W : World) (base : Nat) (args : Array Value) (ds gs : List (DataW H)) (before : List MemPlace)
    (hval : ∀ (j : Nat) t v, Tryd.f4.params[j]? = some t → args[j]? = some v → Value.okWide Tryd.prog W .any base t v)
    (hW : DataW.Whole enc Tryd.prog Tryd.f4.params.toList Rows.forkStillsSpec.vars false W args.toList ds gs before) (hL : laidMetH Tryd.prog Rows.forkStillsRow.laid W) :
    Calls Tryd.prog 4 args W fun e W' => ∃ v, e = .returned v ∧ Rows.forkStillsSpec.post enc Tryd.prog Tryd.f4 false true false false W args v W' := by
  have hT : TabW W := tabW_of hL
  have hW' := hW
  obtain ⟨p, q, hA0, hV, rfl, hfz, hnd⟩ := hW
  have hA : DataW.TrodAll enc Tryd.prog W 0 (fun _ => true) true Tryd.f4.params.toList args.toList ds p := hA0
  rw [Tryd.params4] at hA hval
  obtain ⟨v0, vs0, d0, ds0, p0, q0, hargs, rfl, rfl, k0, r0⟩ := trodAll_cons hA
  obtain ⟨v1, vs1, d1, ds1, p1, q1, rfl, rfl, rfl, k1, r1⟩ := trodAll_cons r0
  obtain ⟨v2, vs2, d2, ds2, p2, q2, rfl, rfl, rfl, k2, r2⟩ := trodAll_cons r1
  obtain ⟨rfl, rfl, rfl⟩ := trodAll_nil r2
  obtain rfl : args = #[v0, v1, v2] := by cases args; simp_all
  obtain ⟨rfl, rfl⟩ := trodVars_none hV
  have lt0 : ∀ x ∈ p0, x.block < W.heap.size := by obtain ⟨m, hm⟩ := k0; exact DataW.trod_lt m _ _ _ hm
  have lt1 : ∀ x ∈ p1, x.block < W.heap.size := by obtain ⟨m, hm⟩ := k1; exact DataW.trod_lt m _ _ _ hm
  have lt2 : ∀ x ∈ p2, x.block < W.heap.size := by obtain ⟨m, hm⟩ := k2; exact DataW.trod_lt m _ _ _ hm
  obtain ⟨a, b, c, d, e, rfl⟩ := open23 (hval 0 23 v0 rfl rfl) k0
  obtain ⟨A1, l1, c1, rfl, hc1, hr1⟩ := open24 (hval 1 24 v1 rfl rfl) k1
  obtain ⟨A2, l2, c2, rfl, hc2, hr2⟩ := open25 (hval 2 25 v2 rfl rfl) k2
  clear hA0 hval
  refine (lawstills_calls a b c d e l1 l2 A1 A2 c1 c2 hc1 hc2 W hT hr1 hr2).mono fun e' W' ⟨he, bel⟩ => ?_
  subst he
  exact ⟨_, rfl, _, _, _, [], _, [], hW', trodAll_mk1 (shut_bool Tryd.underlying4 _), (trodAll_cons_mk (Below.trod laidOut (by kernel_rfl) (of_decide_eq_true (by kernel_rfl)) k0 bel lt0) (trodAll_cons_mk (Below.trod laidOut (by kernel_rfl) (of_decide_eq_true (by kernel_rfl)) k1 bel lt1) (trodAll_cons_mk (Below.trod laidOut (by kernel_rfl) (of_decide_eq_true (by kernel_rfl)) k2 bel lt2) trodAll_mk0))), rfl, bel.frame _, fun h => by cases h⟩
/-- A world for the witness: the settled one, the tables (blocks 0 and 1) holding what their initialisers lay. -/
def lay32 : Obj → Obj
  | .cells _ t frozen => .cells (Lib.deBruijn32tab.map fun (n : Nat) => Value.int .u8 n).toArray t frozen
  | o => o
def lay64 : Obj → Obj
  | .cells _ t frozen => .cells (Lib.deBruijn64tab.map fun (n : Nat) => Value.int .u8 n).toArray t frozen
  | o => o
noncomputable def laidWorld (os : Os) : World := { World.holding Tryd.prog os ⟨#[], #[], []⟩ with heap := ((World.holding Tryd.prog os ⟨#[], #[], []⟩).heap.modify 0 lay32).modify 1 lay64 }
theorem laid_met (os : Os) : laidMet Tryd.prog Rows.forkStillsRow.laid ((laidWorld os).forCall (fun _ _ => 0) ⟨#[], #[.agg #[.int .i64 0, .int .i64 0, .int .i64 0, .int .i64 0, .int .i64 0], .slice none 0 0, .slice none 0 0], []⟩).memory :=
  laidMet_of_run' 8 (by kernel_rfl) (by kernel_rfl)
theorem reads (os : Os) {H : Type} (enc : TypeId × Value → H) : ∃ places, DataW.whole enc Tryd.prog ((laidWorld os).forCall (fun _ _ => 0) ⟨#[], #[.agg #[.int .i64 0, .int .i64 0, .int .i64 0, .int .i64 0, .int .i64 0], .slice none 0 0, .slice none 0 0], []⟩).memory Tryd.f4.params.toList Rows.forkStillsSpec.vars false (#[.agg #[.int .i64 0, .int .i64 0, .int .i64 0, .int .i64 0, .int .i64 0], .slice none 0 0, .slice none 0 0] : Array Value).toList 8 = some ([.agg [.lit (.int .i64 0), .lit (.int .i64 0), .lit (.int .i64 0), .lit (.int .i64 0), .lit (.int .i64 0)], .nil, .nil], [], places) :=
  ⟨[], by kernel_rfl⟩
set_option maxRecDepth 100000 in
theorem lifted (os : Os) (started : os.Started) (H : Type) (enc : TypeId × Value → H) (F : Stop.Interp) :
    ReturnsInHanded {} Tryd.checked os 4 .any ((OpenSpec.ofChange Rows.forkStillsSpec).preRow enc Tryd.prog Tryd.f4 Rows.forkStillsRow.domain false Rows.forkStillsRow.laid) (((OpenSpec.ofChange Rows.forkStillsSpec).at F).post enc Tryd.prog Tryd.f4 false true false false) := by
  obtain ⟨places, hx⟩ := reads os enc
  refine returnsInHanded_of_row (C := Tryd.checked) (s := OpenSpec.ofChange Rows.forkStillsSpec) own started (by kernel_rfl) Tryd.func4
    (witness_row_at (enc := enc) (C := Tryd.checked) false (laidWorld os) #[.agg #[.int .i64 0, .int .i64 0, .int .i64 0, .int .i64 0, .int .i64 0], .slice none 0 0, .slice none 0 0] rfl (by kernel_rfl) (by kernel_rfl) (by kernel_rfl)
      (OpenSpec.preRow_of_cond 8 hx (by kernel_rfl) (fun k hk => by cases hk) (by kernel_rfl) (laid_met os))) ?_
  intro W base args ds gs before hval hW _ _ _ hL _ _
  exact contract H enc W base args ds gs before hval hW hL
theorem said : Rows.ForkStillsSaid :=
  OpenClaim.holds_of_cond 4 Tryd.f4 rfl rfl rfl rfl rfl rfl rfl ⟨rfl, rfl, rfl, rfl, rfl⟩ rfl rfl rfl rfl rfl (by kernel_rfl) Tryd.func4 (by kernel_rfl)
    (of_decide_eq_true (by kernel_rfl)) (by unfold Func.isWrapper; first | (rw [if_pos (by decide +kernel)]; kernel_rfl) | (rw [if_neg (by decide +kernel)]; exact ⟨rfl, rfl⟩))
    (fun os started H enc _ F => by rw [OpenClaim.pre_eq_preRow]; exact lifted os started H enc F)
theorem plain (f : FuncId) (fn : Func) (hf : Tryd.pinned.checked.prog.funcNamed "smalto/smaltolaw03.ForkStills" = some f) (hfn : Tryd.pinned.checked.prog.funcs[f]? = some fn) :
    false = Tryd.pinned.checked.prog.looks [] ∧ ∀ (j : Nat) t, fn.params[j]? = some t → Tryd.pinned.checked.prog.wantsStandIn t = false := by
  obtain rfl : f = 4 := Option.some.inj ((show Tryd.prog.funcNamed "smalto/smaltolaw03.ForkStills" = some 4 by kernel_rfl).symm.trans hf) |>.symm
  obtain rfl : fn = Tryd.f4 := (Option.some.inj (Tryd.func4.symm.trans hfn)).symm
  refine ⟨by kernel_rfl, fun j t ht => ?_⟩
  rw [Tryd.params4] at ht
  have hm := Array.mem_of_getElem? ht
  simp only [List.mem_toArray, List.mem_cons, List.not_mem_nil, or_false] at hm
  rcases hm with rfl | rfl | rfl
  · exact (show Tryd.prog.wantsStandIn 23 = false by kernel_rfl)
  · exact (show Tryd.prog.wantsStandIn 24 = false by kernel_rfl)
  · exact (show Tryd.prog.wantsStandIn 25 = false by kernel_rfl)
/-- The card. -/
theorem card : Rows.ForkStillsCardSaid :=
  Claim7.holds_tied_plain_at .later [] _ _ _ _ said (fun _ h => by cases h) (by kernel_rfl) (fun _ h => by cases h) forkStills_row_tie rfl ⟨rfl, rfl⟩ (by kernel_rfl) rfl plain (by kernel_rfl)
end Go.Proofs.YtbijamlgcebgeaaDoor.forkStills
namespace Go.Proofs.YtbijamlgcebgeaaDoor
theorem forkStills_card : Rows.ForkStillsCardSaid := forkStills.card
end Go.Proofs.YtbijamlgcebgeaaDoor


/- What the laws about the fork share: words about rows and regions, the walks of the package fork and of the references, and what they compute. Part 5 of 5. -/
import Derived.Test.YtbijamlgcebgeaaDoorC4
import Derived.Test.YtbijamlgcebgeaaDoorRows
import Derived.WalkKit
import Derived.ProofKit
import Derived.OpenShut
import Derived.Deep.DeepHandedRow
import Derived.Deep.Slices
import Derived.Lib.LaidTab
import Derived.Stop.LaidErr
import Derived.Below
import Derived.ChangeOld
import Derived.SizedLaws
set_option linter.unusedVariables false
set_option linter.unusedSimpArgs false
-- part JB
namespace Go.Proofs.YtbijamlgcebgeaaDoor.Hand
open Go.RowKit Go.Shelf Go.Sort Go.Proofs.YtbijamlgcebgeaaDoorW.PrintWords Go.Proofs.YtbijamlgcebgeaaDoorW.PrintMore Go.Proofs.YtbijamlgcebgeaaDoor.Q
theorem rd_range (load : List Int) : (List.range load.length).map (fun (j : Nat) => rd load j) = load := by
  apply List.ext_getElem
  · simp
  · intro i h1 h2
    simp [rd_get h2]
theorem foldl_rd {α : Type} (f : α → Int → α) (load : List Int) (z : α) : (List.range load.length).foldl (fun s (j : Nat) => f s (rd load j)) z = load.foldl f z := by
  conv => rhs; rw [← rd_range load]
  rw [List.foldl_map]
section
variable {l : List S74} {load : List Int} {s : Nat}
theorem heat_same (h : (bitsOf s).map Int.ofNat = load) : refHeatK l load load.length = heatB l (bitsOf s) := by
  unfold refHeatK heatB
  rw [foldl_rd (fun (s : Int × Int) x => (mx s.1 (rd_T74 l x).f3.f0, mn s.2 (rd_T74 l x).f3.f1)) load, ← h, List.foldl_map]
  rfl
theorem weight_pair : ∀ (is : List Nat) (a b : Int), is.foldl (fun (s : Int × Int) i => (s.1 + (l.getD i z74).f2.f0, s.2 + (l.getD i z74).f2.f1)) (a, b) = ((is.map fun i => (l.getD i z74).f2.f0).foldl (· + ·) a, (is.map fun i => (l.getD i z74).f2.f1).foldl (· + ·) b)
  | [], _, _ => rfl
  | i :: is, a, b => by simp only [List.foldl_cons, List.map_cons]; exact weight_pair is _ _
theorem weight_same (h : (bitsOf s).map Int.ofNat = load) : refWeightK l load load.length = (sumB (fun x => x.f2.f0) l (bitsOf s), sumB (fun x => x.f2.f1) l (bitsOf s)) := by
  unfold refWeightK refAt sumB
  rw [foldl_rd (fun (s : Int × Int) x => (s.1 + (rd_T74 l x).f2.f0, s.2 + (rd_T74 l x).f2.f1)) load, ← h, List.foldl_map]
  exact weight_pair _ _ _
end
/-- The least and the greatest of some numbers. -/
theorem ends_of : ∀ (hs : List Int) (a b : Int), let r := hs.foldl (fun (h : Int × Int) x => (mn h.1 x, mx h.2 x)) (a, b)
    r.1 ≤ a ∧ b ≤ r.2 ∧ (∀ x ∈ hs, r.1 ≤ x ∧ x ≤ r.2) ∧ (r.1 = a ∨ r.1 ∈ hs) ∧ (r.2 = b ∨ r.2 ∈ hs) := by
  intro hs
  induction hs with
  | nil => intro a b; simp
  | cons x hs ih =>
    intro a b
    obtain ⟨h1, h2, h3, h4, h5⟩ := ih (mn a x) (mx b x)
    simp only [List.foldl_cons]
    have m1 : mn a x ≤ a ∧ mn a x ≤ x ∧ (mn a x = a ∨ mn a x = x) := by unfold mn; split <;> omega
    have m2 : b ≤ mx b x ∧ x ≤ mx b x ∧ (mx b x = b ∨ mx b x = x) := by unfold mx; split <;> omega
    refine ⟨by omega, by omega, ?_, ?_, ?_⟩
    · intro y hy
      rcases List.mem_cons.1 hy with rfl | hy
      · omega
      · exact h3 y hy
    · rcases h4 with h4 | h4
      · rcases m1.2.2 with h | h
        · left; omega
        · right; rw [h4, h]; simp
      · right; simp [h4]
    · rcases h5 with h5 | h5
      · rcases m2.2.2 with h | h
        · left; omega
        · right; rw [h5, h]; simp
      · right; simp [h5]
theorem refNear_iff (l : List S74) (load : List Int) (e : Int) : refNearK l load e load.length = true ↔ ∀ i k : Nat, k < i → i < load.length → ((refAt l load i).f1 - (refAt l load k).f1 ≤ e ∧ (refAt l load k).f1 - (refAt l load i).f1 ≤ e) := by
  unfold refNearK refNear1
  simp only [List.all_eq_true, List.mem_range, decide_eq_true_eq]
  have hm : ∀ a b : Int, mx a b ≤ e ↔ (a ≤ e ∧ b ≤ e) := fun a b => by unfold mx; split <;> omega
  constructor
  · intro h i k hk hi; exact (hm _ _).1 (h i hi k hk)
  · intro h i hi k hk; exact (hm _ _).2 (h i k hk hi)
theorem near_same {l : List S74} {load : List Int} {s : Nat} {e : Int} (he : 0 ≤ e) (hb : ∀ x ∈ l, 1 ≤ x.f1 ∧ x.f1 ≤ 100) (h : (bitsOf s).map Int.ofNat = load) (hi : ∀ i ∈ bitsOf s, i < l.length) : refNearK l load e load.length = alikeB l e s := by
  rw [Bool.eq_iff_iff, refNear_iff]
  unfold alikeB highB
  rw [decide_eq_true_eq]
  have hfold : (bitsOf s).foldl (fun (h : Int × Int) i => (mn h.1 (l.getD i z74).f1, mx h.2 (l.getD i z74).f1)) (100, 0) = ((bitsOf s).map fun i => (l.getD i z74).f1).foldl (fun (h : Int × Int) x => (mn h.1 x, mx h.2 x)) (100, 0) := by rw [List.foldl_map]
  rw [hfold]
  obtain ⟨h1, h2, h3, h4, h5⟩ := ends_of ((bitsOf s).map fun i => (l.getD i z74).f1) 100 0
  generalize hr : ((bitsOf s).map fun i => (l.getD i z74).f1).foldl (fun (h : Int × Int) x => (mn h.1 x, mx h.2 x)) (100, 0) = r at h1 h2 h3 h4 h5 ⊢
  have hlen : (bitsOf s).length = load.length := by rw [← h]; simp
  have hat : ∀ i : Nat, (hl : i < load.length) → (refAt l load i).f1 = (l.getD ((bitsOf s)[i]'(by omega)) z74).f1 := by
    intro i hl
    subst h
    unfold refAt
    rw [rd_get hl]
    simp [rd_T74]
  have hin : ∀ i : Nat, i < load.length → (refAt l load i).f1 ∈ (bitsOf s).map fun i => (l.getD i z74).f1 := by
    intro i hl
    rw [hat i hl]
    exact List.mem_map.2 ⟨_, List.getElem_mem _, rfl⟩
  have hof : ∀ x ∈ (bitsOf s).map (fun i => (l.getD i z74).f1), ∃ i, i < load.length ∧ (refAt l load i).f1 = x := by
    intro x hx
    obtain ⟨j, hj, rfl⟩ := List.mem_map.1 hx
    obtain ⟨i, hil, rfl⟩ := List.getElem_of_mem hj
    exact ⟨i, by omega, hat i (by omega)⟩
  have hpos : ∀ x ∈ (bitsOf s).map (fun i => (l.getD i z74).f1), 1 ≤ x ∧ x ≤ 100 := by
    intro x hx
    obtain ⟨j, hj, rfl⟩ := List.mem_map.1 hx
    have hjl := hi j hj
    rw [List.getD_eq_getElem?_getD, List.getElem?_eq_getElem hjl]
    exact hb _ (List.getElem_mem hjl)
  constructor
  · intro hp
    by_cases hne : load.length = 0
    · have : bitsOf s = [] := List.length_eq_zero_iff.1 (by omega)
      rw [this] at hr
      subst hr
      simp
      omega
    · have hx0 := hin 0 (by omega)
      have hb0 := hpos _ hx0
      have hl4 : r.1 ∈ (bitsOf s).map (fun i => (l.getD i z74).f1) := by
        rcases h4 with h4 | h4
        · have := h3 _ hx0
          have hx : (refAt l load 0).f1 = 100 := by omega
          rw [h4, ← hx]; exact hx0
        · exact h4
      have hl5 : r.2 ∈ (bitsOf s).map (fun i => (l.getD i z74).f1) := by
        rcases h5 with h5 | h5
        · have := h3 _ hx0
          omega
        · exact h5
      obtain ⟨i, hi1, hi2⟩ := hof _ hl4
      obtain ⟨k, hk1, hk2⟩ := hof _ hl5
      rcases Nat.lt_trichotomy i k with hlt | rfl | hlt
      · have := hp k i hlt hk1; omega
      · omega
      · have := hp i k hlt hi1; omega
  · intro hr' i k hk hil
    have e1 := h3 _ (hin i hil)
    have e2 := h3 _ (hin k (by omega))
    omega
end Go.Proofs.YtbijamlgcebgeaaDoor.Hand

-- part JC
namespace Go.Proofs.YtbijamlgcebgeaaDoor.Hand
open Go.RowKit Go.Shelf Go.Sort Go.Proofs.YtbijamlgcebgeaaDoorW.PrintWords Go.Proofs.YtbijamlgcebgeaaDoorW.PrintMore Go.Proofs.YtbijamlgcebgeaaDoor.Q
/-- How long the first i signs on bar b are, and how many they are. -/
def lieK (l : List S74) (load begun : List Int) (b : Int) : Nat → Int × Int
  | 0 => (0, 0)
  | i + 1 => if rd begun i = b then ((lieK l load begun b i).1 + (rd_T74 l (rd load i)).f0, (lieK l load begun b i).2 + 1) else lieK l load begun b i
def lieB (a b c : Int) (l : List S74) (load begun : List Int) (x : Int) : Bool := !(decide (0 < (lieK l load begun x load.length).2) && decide (b < (lieK l load begun x load.length).1 + c * ((lieK l load begun x load.length).2 - 1)))
def lieAll (a b c : Int) (l : List S74) (load begun : List Int) : Nat → Int → Bool
  | 0, _ => true
  | d + 1, x => lieB a b c l load begun x && lieAll a b c l load begun d (x + 1)
section
variable {a b c d e : Int} {l : List S74} {load begun : List Int}
theorem lieK_bd (hb : ∀ x ∈ l, 1 ≤ x.f0 ∧ x.f0 ≤ 200) (hv : ∀ j : Nat, j < load.length → 0 ≤ rd load j ∧ rd load j < l.length) (x : Int) : ∀ i, i ≤ load.length → 0 ≤ (lieK l load begun x i).1 ∧ (lieK l load begun x i).1 ≤ 200 * i ∧ 0 ≤ (lieK l load begun x i).2 ∧ (lieK l load begun x i).2 ≤ i ∧ ((lieK l load begun x i).2 = 0 → (lieK l load begun x i).1 = 0) := by
  intro i
  induction i with
  | zero => intro _; simp [lieK]
  | succ i ih =>
    intro hi
    have h1 := ih (by omega)
    have h2 := hv i (by omega)
    obtain ⟨j, hj⟩ : ∃ j : Nat, rd load i = j := ⟨(rd load i).toNat, by omega⟩
    have h3 := hb (rd_T74 l (rd load i)) (by rw [hj]; exact rd_mem (by omega))
    unfold lieK
    split
    · simp only; omega
    · omega
theorem Lie_l1 (hb : ∀ x ∈ l, 1 ≤ x.f0 ∧ x.f0 ≤ 200) (hv : ∀ j : Nat, j < load.length → 0 ≤ rd load j ∧ rd load j < l.length) (hlen : begun.length = load.length) (hn : load.length ≤ 1000) (hb1 : 0 ≤ b ∧ b ≤ 200) (hc1 : 0 ≤ c ∧ c ≤ 20) (x : Int) (hx : 0 ≤ x ∧ x ≤ 3) :
    ∀ n i k : Nat, i + n = load.length → smaltoref03_Lie.l1 (k + n + 1) l load begun x (lieK l load begun x i).1 (lieK l load begun x i).2 i a b c d e = if lieB a b c l load begun x = true then smaltoref03_Lie.l0 k l load begun (x + 1) a b c d e else some false := by
  intro n
  induction n with
  | zero =>
    intro i k h
    obtain rfl : i = load.length := by omega
    have h1 := lieK_bd (begun := begun) hb hv x load.length (Nat.le_refl _)
    unfold smaltoref03_Lie.l1
    rw [if_neg (by omega), w64 (x := x + 1) (by omega)]
    unfold lieB
    generalize hq : lieK l load begun x load.length = q at h1 ⊢
    have hcm : 0 ≤ c * q.2 ∧ c * q.2 ≤ 20 * 1000 := ⟨Int.mul_nonneg hc1.1 h1.2.2.1, Int.le_trans (Int.mul_le_mul_of_nonneg_right hc1.2 h1.2.2.1) (by omega)⟩
    have hce : c * (q.2 - 1) = c * q.2 - c := by rw [Int.mul_sub, Int.mul_one]
    rw [w64 (x := q.2 - 1) (by omega), hce, w64 (x := c * q.2 - c) (by omega), w64 (by omega)]
    by_cases h2 : q.2 > 0
    · rw [if_pos h2]
      by_cases h3 : q.1 + (c * q.2 - c) > b
      · rw [if_pos h3, if_neg (by simp; omega)]
      · rw [if_neg h3, if_pos (by simp; omega)]
    · rw [if_neg h2, if_pos (by simp; omega)]
  | succ n ih =>
    intro i k h
    have h1 := lieK_bd (begun := begun) hb hv x i (by omega)
    have h2 := hv i (by omega)
    obtain ⟨j, hj⟩ : ∃ j : Nat, rd load i = j := ⟨(rd load i).toNat, by omega⟩
    have h3 := hb (rd_T74 l (rd load i)) (by rw [hj]; exact rd_mem (by omega))
    have hih := ih (i + 1) k (by omega)
    rw [show k + (n + 1) + 1 = (k + n + 1) + 1 by omega]
    unfold smaltoref03_Lie.l1
    rw [if_pos (by omega), if_pos (by omega), if_pos (by omega), w64 (x := (i : Int) + 1) (by omega)]
    rw [show ((i + 1 : Nat) : Int) = (i : Int) + 1 by omega] at hih
    unfold lieK at hih
    by_cases hr : rd begun i = x
    · rw [if_pos hr] at hih ⊢
      rw [if_pos h2.1, if_pos h2.2, w64 (x := (lieK l load begun x i).2 + 1) (by omega), w64 (x := (lieK l load begun x i).1 + _) (by omega)]
      exact hih
    · rw [if_neg hr] at hih ⊢
      exact hih
theorem Lie_l0 (hb : ∀ x ∈ l, 1 ≤ x.f0 ∧ x.f0 ≤ 200) (hv : ∀ j : Nat, j < load.length → 0 ≤ rd load j ∧ rd load j < l.length) (hlen : begun.length = load.length) (hn : load.length ≤ 1000) (hb1 : 0 ≤ b ∧ b ≤ 200) (hc1 : 0 ≤ c ∧ c ≤ 20) (ha : a ≤ 3) :
    ∀ (n : Nat) (x : Int) (k : Nat), 0 ≤ x → x + n = a → n * (load.length + 2) < k → smaltoref03_Lie.l0 k l load begun x a b c d e = some (lieAll a b c l load begun n x) := by
  intro n
  induction n with
  | zero =>
    intro x k hx h hk
    obtain ⟨k, rfl⟩ : ∃ j, k = j + 1 := ⟨k - 1, by omega⟩
    unfold smaltoref03_Lie.l0 lieAll
    rw [if_neg (by omega)]
  | succ n ih =>
    intro x k hx h hk
    have hk' : n * (load.length + 2) + load.length + 2 < k := by rw [Nat.succ_mul] at hk; omega
    obtain ⟨k, rfl⟩ : ∃ j, k = (j + load.length + 1) + 1 := ⟨k - (load.length + 2), by omega⟩
    have := Lie_l1 (a := a) (b := b) (c := c) (d := d) (e := e) hb hv hlen hn hb1 hc1 x (by omega) load.length 0 k (by omega)
    unfold smaltoref03_Lie.l0 lieAll
    rw [if_pos (by omega)]
    rw [show lieK l load begun x 0 = (0, 0) from rfl] at this
    rw [show ((0 : Nat) : Int) = 0 from rfl] at this
    rw [this, ih (x + 1) k (by omega) (by omega) (by omega)]
    cases lieB a b c l load begun x <;> simp
end
/-- What the signs take that lie on bar x so far: each with the gap behind it. -/
def costK (c : Int) (l : List S74) (load begun : List Int) (x : Int) (i : Nat) : Int := (lieK l load begun x i).1 + c * (lieK l load begun x i).2
theorem costK_zero (c : Int) (l : List S74) (load begun : List Int) (x : Int) : costK c l load begun x 0 = 0 := by simp [costK, lieK]
theorem costK_succ (c : Int) (l : List S74) (load begun : List Int) (x : Int) (i : Nat) : costK c l load begun x (i + 1) = if rd begun i = x then costK c l load begun x i + ((rd_T74 l (rd load i)).f0 + c) else costK c l load begun x i := by
  unfold costK
  rw [lieK]
  split
  · simp only [Int.mul_add, Int.mul_one]; omega
  · rfl
theorem lieK_congr (l : List S74) (load : List Int) {b1 b2 : List Int} (x : Int) : ∀ i : Nat, (∀ j : Nat, j < i → rd b1 j = rd b2 j) → lieK l load b1 x i = lieK l load b2 x i := by
  intro i
  induction i with
  | zero => intro _; rfl
  | succ i ih => intro h; rw [lieK, lieK, h i (by omega), ih (fun j hj => h j (by omega))]
theorem rd_snoc_lt {xs : List Int} {y : Int} {j : Nat} (h : j < xs.length) : rd (xs ++ [y]) j = rd xs j := by
  rw [rd_get h, rd_get (by simp; omega), List.getElem_append_left h]
theorem rd_snoc_at (xs : List Int) (y : Int) : rd (xs ++ [y]) (xs.length : Nat) = y := by
  rw [rd_get (by simp)]; simp
theorem costK_snoc (c : Int) (l : List S74) (load begun : List Int) (y x : Int) : costK c l load (begun ++ [y]) x (begun.length + 1) = if y = x then costK c l load begun x begun.length + ((rd_T74 l (rd load begun.length)).f0 + c) else costK c l load begun x begun.length := by
  rw [costK_succ, rd_snoc_at]
  have : costK c l load (begun ++ [y]) x begun.length = costK c l load begun x begun.length := by
    unfold costK
    rw [lieK_congr l load x begun.length (fun j hj => rd_snoc_lt hj)]
  rw [this]
theorem lieAll_iff (a b c : Int) (l : List S74) (load begun : List Int) : ∀ (n : Nat) (x : Int), lieAll a b c l load begun n x = true ↔ ∀ y : Int, x ≤ y → y < x + n → lieB a b c l load begun y = true := by
  intro n
  induction n with
  | zero => intro x; simp [lieAll]; omega
  | succ n ih =>
    intro x
    rw [lieAll, Bool.and_eq_true, ih]
    constructor
    · rintro ⟨h1, h2⟩ y hy hy2
      by_cases hxy : y = x
      · rw [hxy]; exact h1
      · exact h2 y (by omega) (by omega)
    · intro h
      exact ⟨h x (by omega) (by omega), fun y hy hy2 => h y (by omega) (by omega)⟩
theorem lieB_cost {a b c : Int} {l : List S74} {load begun : List Int} (hb : ∀ x ∈ l, 1 ≤ x.f0 ∧ x.f0 ≤ 200) (hv : ∀ j : Nat, j < load.length → 0 ≤ rd load j ∧ rd load j < l.length) (hb1 : 0 ≤ b) (hc1 : 0 ≤ c) (x : Int) : lieB a b c l load begun x = decide (costK c l load begun x load.length ≤ b + c) := by
  have h1 := lieK_bd (begun := begun) hb hv x load.length (Nat.le_refl _)
  unfold lieB costK
  generalize lieK l load begun x load.length = q at h1 ⊢
  rw [Int.mul_sub, Int.mul_one]
  rw [Bool.eq_iff_iff]
  simp only [Bool.not_eq_true', Bool.and_eq_false_iff, decide_eq_false_iff_not, decide_eq_true_eq]
  by_cases h0 : q.2 = 0
  · have := h1.2.2.2.2 h0
    rw [h0]; simp; omega
  · omega
theorem Room.get_put (r : Room) (i : Nat) (v : Int) (hi : i < 3) (j : Nat) (hj : j < 3) : (r.put i v).get j = if j = i then v else r.get j := by
  match i, hi, j, hj with
  | 0, _, 0, _ => rfl
  | 0, _, 1, _ => rfl
  | 0, _, 2, _ => rfl
  | 1, _, 0, _ => rfl
  | 1, _, 1, _ => rfl
  | 1, _, 2, _ => rfl
  | 2, _, 0, _ => rfl
  | 2, _, 1, _ => rfl
  | 2, _, 2, _ => rfl
/-- The bars of the reference, from a beginning on. -/
theorem Bars_eq (F : Furn) (hF : F.Ok) (load : List Int) (is : List Nat) (his : is.map Int.ofNat = load) (hil : ∀ i ∈ is, i < F.l.length) (hn : load.length ≤ 6) :
    ∀ (n : Nat) (begun : List Int) (k : Nat), begun.length + n = load.length → 60 + 5 * n ≤ k →
      ((∃ x : Nat, x < F.bars.toNat ∧ F.length + F.gap < costK F.gap F.l load begun x begun.length) → ∃ X, smaltoref03_Bars.f k F.bars F.length F.gap F.load F.near F.l load begun = some (X, false)) ∧
      (∀ free : Room, (∀ x : Nat, x < F.bars.toNat → free.get x = F.length + F.gap - costK F.gap F.l load begun x begun.length ∧ 0 ≤ free.get x) →
        ∃ X, smaltoref03_Bars.f k F.bars F.length F.gap F.load F.near F.l load begun = some (match barsB F (is.drop begun.length) free with | some m => (begun ++ m, true) | none => (X, false))) := by
  have hbars := hF.bars
  have hgap := hF.gap
  have hlg := hF.length
  have hb : ∀ x ∈ F.l, 1 ≤ x.f0 ∧ x.f0 ≤ 200 := fun x hx => (hF.signs x hx).1
  have hv : ∀ j : Nat, j < load.length → 0 ≤ rd load j ∧ rd load j < F.l.length := by
    intro j hj
    rw [rd_get hj]
    subst his
    rw [List.getElem_map]
    have := hil (is[j]'(by simpa using hj)) (List.getElem_mem _)
    simp only [Int.ofNat_eq_natCast]
    omega
  have hil2 : is.length = load.length := by rw [← his]; simp
  intro n
  induction n with
  | zero =>
    intro begun k h hk
    obtain ⟨k, rfl⟩ : ∃ j, k = j + 1 := ⟨k - 1, by omega⟩
    have hL : smaltoref03_Lie.f k F.bars F.length F.gap F.load F.near F.l load begun = some (lieAll F.bars F.length F.gap F.l load begun F.bars.toNat 0) := by
      unfold smaltoref03_Lie.f
      refine Lie_l0 hb hv (by omega) (by omega) (by omega) (by omega) (by omega) F.bars.toNat 0 k (by omega) (by omega) ?_
      have : F.bars.toNat * (load.length + 2) ≤ 3 * 8 := Nat.mul_le_mul (by omega) (by omega)
      omega
    have hf : smaltoref03_Bars.f (k + 1) F.bars F.length F.gap F.load F.near F.l load begun = some (begun, lieAll F.bars F.length F.gap F.l load begun F.bars.toNat 0) := by
      unfold smaltoref03_Bars.f
      rw [if_pos (by omega), hL]
      rfl
    have hbl : begun.length = load.length := by omega
    constructor
    · rintro ⟨x, hx, hc⟩
      refine ⟨begun, ?_⟩
      rw [hf]
      have : lieAll F.bars F.length F.gap F.l load begun F.bars.toNat 0 = false := by
        rw [Bool.eq_false_iff]
        intro hc2
        have := (lieAll_iff _ _ _ _ _ _ _ _).1 hc2 x (by omega) (by omega)
        rw [lieB_cost hb hv (by omega) (by omega), decide_eq_true_eq, ← hbl] at this
        omega
      rw [this]
    · intro free hfree
      refine ⟨begun, ?_⟩
      rw [hf, List.drop_eq_nil_of_le (by omega)]
      have : lieAll F.bars F.length F.gap F.l load begun F.bars.toNat 0 = true := by
        rw [lieAll_iff]
        intro y hy hy2
        obtain ⟨x, rfl⟩ : ∃ x : Nat, y = x := ⟨y.toNat, by omega⟩
        rw [lieB_cost hb hv (by omega) (by omega), decide_eq_true_eq, ← hbl]
        have := hfree x (by omega)
        omega
      rw [this]
      simp [barsB]
  | succ n ih =>
    intro begun k h hk
    obtain ⟨k, rfl⟩ : ∃ j, k = j + 1 := ⟨k - 1, by omega⟩
    have hf : smaltoref03_Bars.f (k + 1) F.bars F.length F.gap F.load F.near F.l load begun = smaltoref03_Bars.l0 k F.l load begun 0 F.bars F.length F.gap F.load F.near := by
      conv => lhs; unfold smaltoref03_Bars.f
      rw [if_neg (by omega)]
    have step : ∀ (x : Nat) (q : Nat), x < F.bars.toNat → smaltoref03_Bars.l0 (q + 1) F.l load begun x F.bars F.length F.gap F.load F.near = (smaltoref03_Bars.f q F.bars F.length F.gap F.load F.near F.l load (begun ++ [(x : Int)])).bind fun bt => if bt.2 = true then some (bt.1, true) else smaltoref03_Bars.l0 q F.l load begun ((x : Int) + 1) F.bars F.length F.gap F.load F.near := by
      intro x q hx
      conv => lhs; unfold smaltoref03_Bars.l0
      rw [if_pos (by omega)]
      simp only [Option.bind_some, List.nil_append, List.length_nil, List.length_cons]
      rw [if_pos (by omega), if_pos (by omega), w64 (by omega)]
    have stop : ∀ q : Nat, smaltoref03_Bars.l0 (q + 1) F.l load begun F.bars F.bars F.length F.gap F.load F.near = some ([], false) := by
      intro q
      unfold smaltoref03_Bars.l0
      rw [if_neg (by omega)]
    have hlast : F.bars = (F.bars.toNat : Int) := by omega
    have hlong := hb (rd_T74 F.l (rd load begun.length)) (by
      have := hv begun.length (by omega)
      obtain ⟨j, hj⟩ : ∃ j : Nat, rd load begun.length = j := ⟨(rd load begun.length).toNat, by omega⟩
      rw [hj]; exact rd_mem (by omega))
    constructor
    · rintro ⟨x0, hx0, hc⟩
      have key : ∀ (m x q : Nat), x + m = F.bars.toNat → 60 + 5 * n + m + 1 ≤ q → ∃ X, smaltoref03_Bars.l0 q F.l load begun x F.bars F.length F.gap F.load F.near = some (X, false) := by
        intro m
        induction m with
        | zero =>
          intro x q hx hq
          obtain ⟨q, rfl⟩ : ∃ j, q = j + 1 := ⟨q - 1, by omega⟩
          rw [show ((x : Nat) : Int) = F.bars by omega, stop]
          exact ⟨_, rfl⟩
        | succ m ihm =>
          intro x q hx hq
          obtain ⟨q, rfl⟩ : ∃ j, q = j + 1 := ⟨q - 1, by omega⟩
          obtain ⟨X, hX⟩ := (ih (begun ++ [(x : Int)]) q (by simp; omega) (by omega)).1 ⟨x0, hx0, by
            rw [List.length_append, List.length_singleton, costK_snoc]
            split <;> omega⟩
          rw [step x q (by omega), hX]
          simp only [Option.bind_some, Bool.false_eq_true, if_false]
          have := ihm (x + 1) q (by omega) (by omega)
          rw [show ((x + 1 : Nat) : Int) = (x : Int) + 1 by omega] at this
          exact this
      rw [hf]
      have := key F.bars.toNat 0 k (by omega) (by omega)
      exact this
    · intro free hfree
      have hdrop : is.drop begun.length = is[begun.length]'(by omega) :: is.drop (begun.length + 1) := List.drop_eq_getElem_cons (by omega)
      have hri : rd load begun.length = ((is[begun.length]'(by omega) : Nat) : Int) := by
        subst his
        rw [rd_get (by omega)]
        simp
      generalize is[begun.length]'(by omega) = i0 at hdrop hri
      rw [hri] at hlong
      have key : ∀ (m x q : Nat), x + m = F.bars.toNat → 60 + 5 * n + m + 1 ≤ q → ∃ X, smaltoref03_Bars.l0 q F.l load begun x F.bars F.length F.gap F.load F.near = some (match barsTry (barsB F (is.drop (begun.length + 1))) ((rd_T74 F.l i0).f0 + F.gap) free m x with | some m => (begun ++ m, true) | none => (X, false)) := by
        intro m
        induction m with
        | zero =>
          intro x q hx hq
          obtain ⟨q, rfl⟩ : ∃ j, q = j + 1 := ⟨q - 1, by omega⟩
          rw [show ((x : Nat) : Int) = F.bars by omega, stop]
          exact ⟨[], rfl⟩
        | succ m ihm =>
          intro x q hx hq
          obtain ⟨q, rfl⟩ : ∃ j, q = j + 1 := ⟨q - 1, by omega⟩
          have hfx := hfree x (by omega)
          have hnx := ihm (x + 1) q (by omega) (by omega)
          rw [show ((x + 1 : Nat) : Int) = (x : Int) + 1 by omega] at hnx
          obtain ⟨ih1, ih2⟩ := ih (begun ++ [(x : Int)]) q (by simp; omega) (by omega)
          rw [step x q (by omega)]
          by_cases hneg : free.get x - ((rd_T74 F.l i0).f0 + F.gap) < 0
          · obtain ⟨X, hX⟩ := ih1 ⟨x, by omega, by
              rw [List.length_append, List.length_singleton, costK_snoc, if_pos rfl, hri]
              omega⟩
            rw [hX, barsTry_neg hneg]
            simp only [Option.bind_some, Bool.false_eq_true, if_false]
            exact hnx
          · obtain ⟨X, hX⟩ := ih2 (free.put x (free.get x - ((rd_T74 F.l i0).f0 + F.gap))) (by
              intro y hy
              have hfy := hfree y hy
              rw [List.length_append, List.length_singleton, costK_snoc, Room.get_put _ _ _ (by omega) _ (by omega), hri]
              by_cases hxy : y = x
              · subst hxy; rw [if_pos rfl, if_pos rfl]; omega
              · rw [if_neg hxy, if_neg (by omega)]; exact hfy)
            rw [hX, List.length_append, List.length_singleton]
            cases hg : barsB F (is.drop (begun.length + 1)) (free.put x (free.get x - ((rd_T74 F.l i0).f0 + F.gap))) with
            | some m' =>
              rw [barsTry_some hneg hg]
              exact ⟨[], by simp⟩
            | none =>
              rw [barsTry_none hneg hg]
              simp only [Option.bind_some, Bool.false_eq_true, if_false]
              exact hnx
      rw [hf, hdrop]
      have := key F.bars.toNat 0 k (by omega) (by omega)
      exact this
end Go.Proofs.YtbijamlgcebgeaaDoor.Hand

-- part JD
namespace Go.Proofs.YtbijamlgcebgeaaDoor.Hand
open Go.RowKit Go.Shelf Go.Sort Go.Proofs.YtbijamlgcebgeaaDoorW.PrintWords Go.Proofs.YtbijamlgcebgeaaDoorW.PrintMore Go.Proofs.YtbijamlgcebgeaaDoor.Q
theorem bars_facts {F : Furn} (hF : F.Ok) {load : List Int} {is : List Nat} (his : is.map Int.ofNat = load) (hil : ∀ i ∈ is, i < F.l.length) (hn : load.length ≤ 6) :
    ∃ X, smaltoref03_Bars.f 100 F.bars F.length F.gap F.load F.near F.l load [] = some (match barsB F is F.empty with | some m => (m, true) | none => (X, false)) := by
  have hb := hF.bars
  have hg := hF.gap
  have hl := hF.length
  obtain ⟨X, hX⟩ := (Bars_eq F hF load is his hil hn load.length [] 100 (by simp) (by omega)).2 F.empty (by
    intro x hx
    rw [List.length_nil, costK_zero]
    have : F.empty.get x = F.length + F.gap := by
      unfold Furn.empty
      have : F.bars.toNat ≤ 3 := by omega
      generalize F.bars.toNat = n at hx this
      unfold roomK Room.get
      split
      · rename_i h; subst h; simp only; rw [if_pos (by omega)]
      · split
        · rename_i h; subst h; simp only; rw [if_pos (by omega)]
        · simp only; rw [if_pos (by omega)]
    omega)
  refine ⟨X, ?_⟩
  rw [hX]
  simp only [List.length_nil, List.drop_zero, List.nil_append]
  try (cases barsB F is F.empty <;> rfl)
theorem load_short {s : Nat} {load : List Int} (h : (bitsOf s).map Int.ofNat = load) : load.length ≤ 6 := by
  rw [← h, List.length_map]
  unfold bitsOf
  exact Nat.le_trans (List.length_filter_le _ _) (by simp)
theorem load_in {s : Nat} {load : List Int} {n : Nat} (h : (bitsOf s).map Int.ofNat = load) (hi : ∀ i ∈ bitsOf s, i < n) : ∀ j : Nat, j < load.length → 0 ≤ rd load j ∧ rd load j < n := by
  intro j hj
  rw [rd_get hj]
  subst h
  rw [List.getElem_map]
  have := hi ((bitsOf s)[j]'(by simpa using hj)) (List.getElem_mem _)
  simp only [Int.ofNat_eq_natCast]
  omega
/-- Goes, Bars, Heat and the reference's. -/
theorem goes_facts {a b c d e : Int} {l : List S74} {load : List Int} {s : Nat} (h : newR a b c d e l load = .ok s) :
    ∃ r1 r2, smaltoref03_Bars.f 100 a b c d e l load [] = some (r1, r2) ∧ barsR a b c d e l load = (if r2 = true then (r1, 0) else ([], 7)) ∧
      goesR a b c d e l load = ((refGoesR d e l load r2).1, (refGoesR d e l load r2).2, 0) ∧
      heatR a b c d e l load = (if (refHeatR l load).2.2 = true then ((refHeatR l load).1, (refHeatR l load).2.1, 0) else (0, 0, 7)) ∧ (r2 = true → r1.length ≤ 6) := by
  have hF := check_ok (newR_ok h).1
  obtain ⟨hls, hs⟩ := newR_list h
  have hbits := newR_bits h
  obtain ⟨X, hX⟩ := bars_facts hF hls hbits (load_short hls)
  have hX' : smaltoref03_Bars.f 100 a b c d e l load [] = some (match barsB (mkF a b c d e l) (bitsOf s) (mkF a b c d e l).empty with | some m => (m, true) | none => (X, false)) := hX
  have hheat := heat_same (l := l) hls
  have hnear : refNearK l load e load.length = alikeB l e s := near_same (l := l) (e := e) hF.near.1 (fun x hx => (hF.signs x hx).2.1) hls hbits
  have hw := weight_same (l := l) hls
  have hgoes : ∀ r2 : Bool, (optL (barsB (mkF a b c d e l) (bitsOf s) (mkF a b c d e l).empty)).2 = r2 → goesR a b c d e l load = ((refGoesR d e l load r2).1, (refGoesR d e l load r2).2, 0) := by
    intro r2 hr2
    unfold goesR
    rw [h]
    dsimp only
    unfold goesB highW fitsB refGoesR refHeatR
    rw [hr2, hheat, hnear, hw]
    show (decide (sumB (fun x => x.f2.f1) l (bitsOf s) ≤ d) && (!(decide ((heatB l (bitsOf s)).2 < (heatB l (bitsOf s)).1) || !alikeB l e s) && r2), decide (sumB (fun x => x.f2.f0) l (bitsOf s) ≤ d) && (!(decide ((heatB l (bitsOf s)).2 < (heatB l (bitsOf s)).1) || !alikeB l e s) && r2), (0 : Int)) = _
    by_cases h2 : (heatB l (bitsOf s)).2 < (heatB l (bitsOf s)).1
    · rw [if_pos h2]
      cases alikeB l e s <;> simp [h2]
    · rw [if_neg h2]
      cases alikeB l e s <;> cases r2 <;> simp [h2]
  have hh : heatR a b c d e l load = (if (refHeatR l load).2.2 = true then ((refHeatR l load).1, (refHeatR l load).2.1, 0) else (0, 0, 7)) := by
    unfold heatR
    rw [h]
    dsimp only
    unfold refHeatR
    rw [hheat]
    split <;> simp
  cases hq : barsB (mkF a b c d e l) (bitsOf s) (mkF a b c d e l).empty with
  | none =>
    rw [hq] at hX' hgoes
    exact ⟨X, false, hX', by unfold barsR; rw [h]; dsimp only; rw [hq]; rfl, hgoes false rfl, hh, fun h => by cases h⟩
  | some m =>
    rw [hq] at hX' hgoes
    exact ⟨m, true, hX', by unfold barsR; rw [h]; dsimp only; rw [hq]; rfl, hgoes true rfl, hh, fun _ => by rw [barsB_len _ _ _ _ hq]; have := load_short hls; rw [← hls, List.length_map] at this; exact this⟩
end Go.Proofs.YtbijamlgcebgeaaDoor.Hand

-- part JE
namespace Go.Proofs.YtbijamlgcebgeaaDoor.Hand
open Go.RowKit Go.Shelf Go.Sort Go.Proofs.YtbijamlgcebgeaaDoorW.PrintWords Go.Proofs.YtbijamlgcebgeaaDoorW.PrintMore Go.Proofs.YtbijamlgcebgeaaDoor.Q
theorem Own_eq (l : List S74) (h : l.length ≤ 1000) : smaltoref03_Own.f l = some l := by
  unfold smaltoref03_Own.f
  simp
  omega
theorem ints_eq (l : List Int) (h : l.length ≤ 1000) : smaltolaw03_ints.f l = some l := by
  unfold smaltolaw03_ints.f
  simp
  omega
theorem Same_l0 (l : List S74) (hl : l.length ≤ 1000) : ∀ n i k : Nat, i + n = l.length → n < k → smaltoref03_Same.l0 k l l i = some true := by
  intro n
  induction n with
  | zero =>
    intro i k h hk
    obtain ⟨k, rfl⟩ : ∃ j, k = j + 1 := ⟨k - 1, by omega⟩
    unfold smaltoref03_Same.l0
    rw [if_neg (by omega)]
  | succ n ih =>
    intro i k h hk
    obtain ⟨k, rfl⟩ : ∃ j, k = j + 1 := ⟨k - 1, by omega⟩
    unfold smaltoref03_Same.l0
    rw [if_pos (by omega), if_pos (by omega), if_pos (by omega), w64 (by omega)]
    have := ih (i + 1) k (by omega) (by omega)
    rw [show ((i + 1 : Nat) : Int) = (i : Int) + 1 by omega] at this
    simp [this]
theorem Same_eq (l : List S74) (hl : l.length ≤ 1000) : smaltoref03_Same.f (l.length + 1) l l = some true := by
  unfold smaltoref03_Same.f
  rw [if_pos rfl]
  have := Same_l0 l hl l.length 0 (l.length + 1) (by omega) (by omega)
  simpa using this
theorem Order_l0 (l : List Int) (hl : l.length ≤ 1000) : ∀ n i k : Nat, i + n = l.length → 2 * n + 1 < k → smaltoref03_Order.l0 k l l i = some 0 := by
  intro n
  induction n with
  | zero =>
    intro i k h hk
    obtain ⟨k, rfl⟩ : ∃ j, k = j + 2 := ⟨k - 2, by omega⟩
    rw [smaltoref03_Order.l0, if_neg (by omega), smaltoref03_Order.j1, if_neg (by simp)]
    rw [w64 (by omega)]
    simp
  | succ n ih =>
    intro i k h hk
    obtain ⟨k, rfl⟩ : ∃ j, k = j + 2 := ⟨k - 2, by omega⟩
    have h1 : (i : Int) < l.length := by omega
    rw [smaltoref03_Order.l0, if_pos h1, smaltoref03_Order.j1, if_pos (by simp; omega), if_pos (by omega), if_pos h1, if_pos h1, if_pos rfl, w64 (by omega)]
    have := ih (i + 1) k (by omega) (by omega)
    rw [show ((i + 1 : Nat) : Int) = (i : Int) + 1 by omega] at this
    exact this
theorem Ints_eq (l : List Int) (hl : l.length ≤ 1000) : smaltoref03_Ints.f (2 * l.length + 2) l l = some true := by
  unfold smaltoref03_Ints.f smaltoref03_Order.f
  have := Order_l0 l hl l.length 0 (2 * l.length + 2) (by omega) (by omega)
  simp only [show ((0 : Nat) : Int) = 0 from rfl] at this
  rw [this]
  rfl
end Go.Proofs.YtbijamlgcebgeaaDoor.Hand

-- part IU
namespace Go.Proofs.YtbijamlgcebgeaaDoor.Hand
open Go.RowKit Go.Shelf Go.Sort Go.Proofs.YtbijamlgcebgeaaDoorW.PrintWords Go.Proofs.YtbijamlgcebgeaaDoorW.PrintMore Go.Proofs.YtbijamlgcebgeaaDoor.Q
attribute [local go_sem high] eqA36
/-- Where a load is refused. -/
theorem refused {a b c d e : Int} {l : List S74} {load : List Int} (h : openF a b c d e l load ≠ 0) :
    goesR a b c d e l load = (false, false, openF a b c d e l load) ∧ barsR a b c d e l load = ([], openF a b c d e l load) ∧ heatR a b c d e l load = (0, 0, openF a b c d e l load) := by
  unfold openF at h ⊢
  cases hr : newR a b c d e l load with
  | error x => unfold goesR barsR heatR; rw [hr]; exact ⟨rfl, rfl, rfl⟩
  | ok s => rw [hr] at h; exact absurd rfl h
theorem accepted {a b c d e : Int} {l : List S74} {load : List Int} (h : openF a b c d e l load = 0) : ∃ s, newR a b c d e l load = .ok s := by
  unfold openF at h
  cases hr : newR a b c d e l load with
  | error x => rw [hr] at h; exact absurd h (newR_err hr)
  | ok s => exact ⟨s, rfl⟩
set_option maxRecDepth 100000 in
set_option maxHeartbeats 4000000 in
theorem lawgoes_calls (a b c d e : Int) (l : List S74) (load : List Int) (A1 A2 : Option Addr) (c1 c2 : Nat) (hc1 : l.length ≤ c1) (hc2 : load.length ≤ c2) (w : World) (hT : TabW w) (hr1 : Kd.C k74 w A1 l.length l) (hr2 : Kd.C (Kd.int .i64) w A2 load.length load) :
    Calls Tryd.prog 3 #[.agg #[.int .i64 a, .int .i64 b, .int .i64 c, .int .i64 d, .int .i64 e], .slice A1 l.length c1, .slice A2 load.length c2] w fun e_ w' => e_ = .returned (.bool true) ∧ Below w.heap.size w w' := by
  obtain ⟨wa, hwa⟩ : ∃ v, w.alloc (.cells #[.int .i64 a, .int .i64 b, .int .i64 c, .int .i64 d, .int .i64 e] 23) = v := ⟨_, rfl⟩
  have hB : Below w.heap.size w wa := hwa ▸ (Below.refl _ _).alloc (Nat.le_refl _) _
  replace hT : TabW wa := hwa ▸ hT.alloc _
  replace hr1 : Kd.C k74 wa A1 l.length l := hwa ▸ Kd.C_alloc hr1 _
  replace hr2 : Kd.C (Kd.int .i64) wa A2 load.length load := hwa ▸ Kd.C_alloc hr2 _
  have x3 : Box wa w.heap.size #[.int .i64 a, .int .i64 b, .int .i64 c, .int .i64 d, .int .i64 e] 23 := hwa ▸ Box.new _ _ _
  have e0 : wa.cell? ⟨w.heap.size, 0, none⟩ = some (.int .i64 a) := x3.cell 0 rfl
  have e1 : wa.cell? ⟨w.heap.size, 1, none⟩ = some (.int .i64 b) := x3.cell 1 rfl
  have e2 : wa.cell? ⟨w.heap.size, 2, none⟩ = some (.int .i64 c) := x3.cell 2 rfl
  have e3 : wa.cell? ⟨w.heap.size, 3, none⟩ = some (.int .i64 d) := x3.cell 3 rfl
  have e4 : wa.cell? ⟨w.heap.size, 4, none⟩ = some (.int .i64 e) := x3.cell 4 rfl
  by_cases h12 : 12 < l.length
  · have p1 : decide ((12 : Int) < l.length) = true := decide_eq_true (by omega)
    go_enter Tryd.func3, Tryd.ntmps3
    go_wp2_with fail
    refine (known_calls _ hT).mono ?_
    rintro e_ u1 ⟨rfl, hb⟩
    replace hB := hB.trans (hb.mono hB.size)
    go_wp2
    go_ret
    exact ⟨rfl, hB⟩
  · have p1 : decide ((12 : Int) < l.length) = false := decide_eq_false (by omega)
    by_cases h13 : 12 < load.length
    · have p2 : decide ((12 : Int) < load.length) = true := decide_eq_true (by omega)
      go_enter Tryd.func3, Tryd.ntmps3
      go_wp2_with fail
      refine (known_calls _ hT).mono ?_
      rintro e_ u1 ⟨rfl, hb⟩
      replace hB := hB.trans (hb.mono hB.size)
      go_wp2
      go_ret
      exact ⟨rfl, hB⟩
    · have p2 : decide ((12 : Int) < load.length) = false := decide_eq_false (by omega)
      have HOwn := Lib.hid (Own_eq l (by omega))
      have Hints := Lib.hid (ints_eq load (by omega))
      have HSame := Lib.hid (Same_eq l (by omega))
      have HInts := Lib.hid (Ints_eq load (by omega))
      have hl1 : l.length ≤ 1000 := by omega
      have hl2 : load.length ≤ 1000 := by omega
      obtain ⟨ck, hck⟩ : ∃ v, checkF a b c d e l = v := ⟨_, rfl⟩
      have HCk := Lib.hid hck
      have HCheck := Lib.hid (hck ▸ Check_eq a b c d e l hl1 (l.length + 2) (Nat.le_refl _))
      clear hck
      obtain ⟨⟨g1, g2, g3⟩, hg⟩ : ∃ v, goesR a b c d e l load = v := ⟨_, rfl⟩
      have Hg := Lib.hid hg
      clear hg
      obtain ⟨⟨bl, be⟩, hbr⟩ : ∃ v, barsR a b c d e l load = v := ⟨_, rfl⟩
      have Hbr := Lib.hid hbr
      clear hbr
      obtain ⟨⟨h1, h2, h3⟩, hh⟩ : ∃ v, heatR a b c d e l load = v := ⟨_, rfl⟩
      have Hh := Lib.hid hh
      clear hh
      obtain ⟨o, ho⟩ : ∃ v, openF a b c d e l load = v := ⟨_, rfl⟩
      have Ho := Lib.hid ho
      clear ho
      have Hl : Hid (l.length ≤ 12 ∧ load.length ≤ 12) := Lib.hid ⟨by omega, by omega⟩
      clear hl1 hl2 h12 h13
      go_enter Tryd.func3, Tryd.ntmps3
      go_wp2_with fail
      clear hwa
      refine (smaltoref03_Own.calls A1 c1 l l _ hr1 hc1 HOwn.out).mono ?_
      rintro e_ u1 ⟨v0, rfl, hR, hb⟩
      obtain ⟨AX, cX, rfl, hcX, hX⟩ := Kd.R_reads hR
      clear hR
      replace hT := hT.below hb
      replace hr1 := Kd.C_below hr1 hb
      replace hr2 := Kd.C_below hr2 hb
      replace hB := hB.trans (hb.mono hB.size)
      replace x3 := x3.step hb
      replace e0 := x3.cell 0 rfl
      replace e1 := x3.cell 1 rfl
      replace e2 := x3.cell 2 rfl
      replace e3 := x3.cell 3 rfl
      replace e4 := x3.cell 4 rfl
      clear hb
      go_wp2_with fail
      refine (smaltolaw03_ints.calls A2 c2 load load _ hr2 hc2 Hints.out).mono ?_
      rintro e_ u1 ⟨v0, rfl, hR, hb⟩
      obtain ⟨AP, cP, rfl, hcP, hP⟩ := Kd.R_reads hR
      clear hR
      replace hT := hT.below hb
      replace hr1 := Kd.C_below hr1 hb
      replace hr2 := Kd.C_below hr2 hb
      replace hB := hB.trans (hb.mono hB.size)
      replace x3 := x3.step hb
      replace hX := Kd.C_below hX hb
      replace e0 := x3.cell 0 rfl
      replace e1 := x3.cell 1 rfl
      replace e2 := x3.cell 2 rfl
      replace e3 := x3.cell 3 rfl
      replace e4 := x3.cell 4 rfl
      clear hb
      go_wp2_with fail
      refine (check_calls a b c d e l AX cX _ hX).mono ?_
      rintro e_ u1 ⟨rfl, hb⟩
      rw [HCk.out]
      replace hT := hT.below hb
      replace hr1 := Kd.C_below hr1 hb
      replace hr2 := Kd.C_below hr2 hb
      replace hB := hB.trans (hb.mono hB.size)
      replace x3 := x3.step hb
      replace hX := Kd.C_below hX hb
      replace hP := Kd.C_below hP hb
      replace e0 := x3.cell 0 rfl
      replace e1 := x3.cell 1 rfl
      replace e2 := x3.cell 2 rfl
      replace e3 := x3.cell 3 rfl
      replace e4 := x3.cell 4 rfl
      clear hb
      go_wp2_with fail
      have hcl := goes_exp a b c d e l load AX AP cX cP _ hT hX hP
      rw [Hg.out] at hcl
      refine hcl.mono ?_
      rintro e_ u1 ⟨rfl, hb⟩
      clear hcl
      replace hT := hT.below hb
      replace hr1 := Kd.C_below hr1 hb
      replace hr2 := Kd.C_below hr2 hb
      replace hB := hB.trans (hb.mono hB.size)
      replace x3 := x3.step hb
      replace hX := Kd.C_below hX hb
      replace hP := Kd.C_below hP hb
      replace e0 := x3.cell 0 rfl
      replace e1 := x3.cell 1 rfl
      replace e2 := x3.cell 2 rfl
      replace e3 := x3.cell 3 rfl
      replace e4 := x3.cell 4 rfl
      clear hb
      go_wp2_with fail
      have hcl := bars_exp a b c d e l load AX AP cX cP _ hT hX hP
      rw [Hbr.out] at hcl
      refine (res_C hcl).mono ?_
      rintro e_ u1 ⟨AL, cL, rfl, hcL, hL, hb⟩
      clear hcl
      replace hT := hT.below hb
      replace hr1 := Kd.C_below hr1 hb
      replace hr2 := Kd.C_below hr2 hb
      replace hB := hB.trans (hb.mono hB.size)
      replace x3 := x3.step hb
      replace hX := Kd.C_below hX hb
      replace hP := Kd.C_below hP hb
      replace e0 := x3.cell 0 rfl
      replace e1 := x3.cell 1 rfl
      replace e2 := x3.cell 2 rfl
      replace e3 := x3.cell 3 rfl
      replace e4 := x3.cell 4 rfl
      clear hb
      go_wp2_with fail
      have hcl := heat_exp a b c d e l load AX AP cX cP _ hT hX hP
      rw [Hh.out] at hcl
      refine hcl.mono ?_
      rintro e_ u1 ⟨rfl, hb⟩
      clear hcl
      replace hT := hT.below hb
      replace hr1 := Kd.C_below hr1 hb
      replace hr2 := Kd.C_below hr2 hb
      replace hB := hB.trans (hb.mono hB.size)
      replace x3 := x3.step hb
      replace hX := Kd.C_below hX hb
      replace hP := Kd.C_below hP hb
      replace hL := Kd.C_below hL hb
      replace e0 := x3.cell 0 rfl
      replace e1 := x3.cell 1 rfl
      replace e2 := x3.cell 2 rfl
      replace e3 := x3.cell 3 rfl
      replace e4 := x3.cell 4 rfl
      clear hb
      obtain ⟨wh, hwh⟩ : ∃ v, u1.alloc (.cells #[.int .i64 h1, .int .i64 h2] 36) = v := ⟨_, rfl⟩
      have hb : Below u1.heap.size u1 wh := hwh ▸ (Below.refl _ _).alloc (Nat.le_refl _) _
      have x15 : Box wh u1.heap.size #[.int .i64 h1, .int .i64 h2] 36 := hwh ▸ Box.new _ _ _
      obtain ⟨b15, hb15⟩ : ∃ v, u1.heap.size = v := ⟨_, rfl⟩
      replace x15 : Box wh b15 #[.int .i64 h1, .int .i64 h2] 36 := hb15 ▸ x15
      replace hT := hT.below hb
      replace hr1 := Kd.C_below hr1 hb
      replace hr2 := Kd.C_below hr2 hb
      replace hB := hB.trans (hb.mono hB.size)
      replace x3 := x3.step hb
      replace hX := Kd.C_below hX hb
      replace hP := Kd.C_below hP hb
      replace hL := Kd.C_below hL hb
      replace e0 := x3.cell 0 rfl
      replace e1 := x3.cell 1 rfl
      replace e2 := x3.cell 2 rfl
      replace e3 := x3.cell 3 rfl
      replace e4 := x3.cell 4 rfl
      clear hb
      go_wp2_with fail
      refine (smaltoref03_Same.calls (l.length + 1) AX cX l A1 c1 l true _ hX hcX hr1 hc1 HSame.out).mono ?_
      rintro e_ u2 ⟨rfl, hd⟩
      have hb := hd.below
      clear hd hwh
      replace hT := hT.below hb
      replace hr1 := Kd.C_below hr1 hb
      replace hr2 := Kd.C_below hr2 hb
      replace hB := hB.trans (hb.mono hB.size)
      replace x3 := x3.step hb
      replace hX := Kd.C_below hX hb
      replace hP := Kd.C_below hP hb
      replace hL := Kd.C_below hL hb
      replace x15 := x15.step hb
      replace e0 := x3.cell 0 rfl
      replace e1 := x3.cell 1 rfl
      replace e2 := x3.cell 2 rfl
      replace e3 := x3.cell 3 rfl
      replace e4 := x3.cell 4 rfl
      clear hb
      go_wp2_with fail
      refine (smaltoref03_Ints.calls (2 * load.length + 2) AP cP load A2 c2 load true _ hP hcP hr2 hc2 HInts.out).mono ?_
      rintro e_ u3 ⟨rfl, hd⟩
      have hb := hd.below
      clear hd
      replace hT := hT.below hb
      replace hr1 := Kd.C_below hr1 hb
      replace hr2 := Kd.C_below hr2 hb
      replace hB := hB.trans (hb.mono hB.size)
      replace x3 := x3.step hb
      replace hX := Kd.C_below hX hb
      replace hP := Kd.C_below hP hb
      replace hL := Kd.C_below hL hb
      replace x15 := x15.step hb
      replace e0 := x3.cell 0 rfl
      replace e1 := x3.cell 1 rfl
      replace e2 := x3.cell 2 rfl
      replace e3 := x3.cell 3 rfl
      replace e4 := x3.cell 4 rfl
      clear hb
      go_wp2_with fail
      refine (smaltoref03_Check.calls (l.length + 2) a b c d e A1 c1 l ck _ hr1 hc1 HCheck.out).mono ?_
      rintro e_ u4 ⟨rfl, hb⟩
      replace hT := hT.below hb
      replace hr1 := Kd.C_below hr1 hb
      replace hr2 := Kd.C_below hr2 hb
      replace hB := hB.trans (hb.mono hB.size)
      replace x3 := x3.step hb
      replace hX := Kd.C_below hX hb
      replace hP := Kd.C_below hP hb
      replace hL := Kd.C_below hL hb
      replace x15 := x15.step hb
      replace e0 := x3.cell 0 rfl
      replace e1 := x3.cell 1 rfl
      replace e2 := x3.cell 2 rfl
      replace e3 := x3.cell 3 rfl
      replace e4 := x3.cell 4 rfl
      clear hb
      go_wp2_with fail
      have hcl := refopen_calls a b c d e l load A1 A2 c1 c2 hc1 _ hr1 hr2 (by have := Hl.out; omega) (by have := Hl.out; omega)
      rw [Ho.out] at hcl
      refine hcl.mono ?_
      rintro e_ u5 ⟨rfl, hb⟩
      clear hcl
      replace hT := hT.below hb
      replace hr1 := Kd.C_below hr1 hb
      replace hr2 := Kd.C_below hr2 hb
      replace hB := hB.trans (hb.mono hB.size)
      replace x3 := x3.step hb
      replace hX := Kd.C_below hX hb
      replace hP := Kd.C_below hP hb
      replace hL := Kd.C_below hL hb
      replace x15 := x15.step hb
      replace e0 := x3.cell 0 rfl
      replace e1 := x3.cell 1 rfl
      replace e2 := x3.cell 2 rfl
      replace e3 := x3.cell 3 rfl
      replace e4 := x3.cell 4 rfl
      clear hb
      by_cases ho0 : o = 0
      · subst ho0
        obtain ⟨s, hs⟩ := accepted Ho.out
        have hF := check_ok (newR_ok hs).1
        obtain ⟨hls, _⟩ := newR_list hs
        have hvl := load_in hls (newR_bits hs)
        obtain ⟨r1, r2, hB1, hB2, hB3, hB4, HBL⟩ := goes_facts hs
        replace HBL := Lib.hid HBL
        rw [Hbr.out] at hB2
        rw [Hg.out] at hB3
        rw [Hh.out] at hB4
        obtain ⟨⟨k1, k2, k3⟩, hk⟩ : ∃ v, refHeatR l load = v := ⟨_, rfl⟩
        rw [hk] at hB4
        have Hk := Lib.hid hk
        obtain ⟨⟨m1, m2⟩, hm⟩ : ∃ v, refGoesR d e l load r2 = v := ⟨_, rfl⟩
        rw [hm] at hB3
        have Hm := Lib.hid hm
        simp only [Prod.mk.injEq] at hB3
        obtain ⟨rfl, rfl, rfl⟩ := hB3
        have HB1 := Lib.hid hB1
        have Hvl := Lib.hid hvl
        have hbd : ∀ x ∈ l, (1 ≤ x.f1 ∧ x.f1 ≤ 100) ∧ (1 ≤ x.f2.f0 ∧ x.f2.f0 ≤ x.f2.f1 ∧ x.f2.f1 ≤ 500) := fun x hx => ⟨(hF.signs x hx).2.1, (hF.signs x hx).2.2.1⟩
        have Hbd := Lib.hid hbd
        clear hk hm hvl hbd hF hls hB1 hs
        go_wp2_with fail
        have hcl := refgoes_calls 100 a b c d e l load A1 A2 c1 c2 hc1 hc2 _ hr1 hr2 (by have := Hl.out; omega) Hvl.out Hbd.out r1 r2 (fun _ => HB1.out)
        rw [Hm.out] at hcl
        refine hcl.mono ?_
        rintro e_ u6 ⟨rfl, hb⟩
        clear hcl
        replace hT := hT.below hb
        replace hr1 := Kd.C_below hr1 hb
        replace hr2 := Kd.C_below hr2 hb
        replace hB := hB.trans (hb.mono hB.size)
        replace x3 := x3.step hb
        replace hX := Kd.C_below hX hb
        replace hP := Kd.C_below hP hb
        replace hL := Kd.C_below hL hb
        replace x15 := x15.step hb
        replace e0 := x3.cell 0 rfl
        replace e1 := x3.cell 1 rfl
        replace e2 := x3.cell 2 rfl
        replace e3 := x3.cell 3 rfl
        replace e4 := x3.cell 4 rfl
        clear hb
        go_wp2_with fail
        refine (smaltoref03_Bars.calls 100 a b c d e A1 c1 l A2 c2 load (fun _ => False) _ [] r1 r2 u6 u6 (Below.refl _ _) (Kd.C_kept_came ⟨fun _ h => h⟩ hr1 (Below.refl _ _) (fun _ h => h.elim)) hc1 (Kd.C_kept_came (Kd.heap_int _) hr2 (Below.refl _ _) (fun _ h => h.elim)) hc2 (Kd.R_nil _ _ _ _ _) HB1.out).mono ?_
        rintro e_ u7 ⟨v0, rfl, hR, hb, hkk⟩
        obtain ⟨AB, cB, rfl, hcB, hBl⟩ := Kd.R_reads hR
        clear hR hkk HB1
        replace hT := hT.below hb
        replace hr1 := Kd.C_below hr1 hb
        replace hr2 := Kd.C_below hr2 hb
        replace hB := hB.trans (hb.mono hB.size)
        replace x3 := x3.step hb
        replace hX := Kd.C_below hX hb
        replace hP := Kd.C_below hP hb
        replace hL := Kd.C_below hL hb
        replace x15 := x15.step hb
        replace e0 := x3.cell 0 rfl
        replace e1 := x3.cell 1 rfl
        replace e2 := x3.cell 2 rfl
        replace e3 := x3.cell 3 rfl
        replace e4 := x3.cell 4 rfl
        clear hb
        cases r2
        · obtain ⟨rfl, rfl⟩ : bl = [] ∧ be = 7 := by simpa using hB2
          clear hB2
          go_wp2_with fail
          have hcl := refheat_calls l load A1 A2 c1 c2 _ hr1 hr2 Hvl.out
          rw [Hk.out] at hcl
          refine hcl.mono ?_
          rintro e_ u9 ⟨rfl, hb⟩
          clear hcl
          replace hT := hT.below hb
          replace hr1 := Kd.C_below hr1 hb
          replace hr2 := Kd.C_below hr2 hb
          replace hB := hB.trans (hb.mono hB.size)
          replace x3 := x3.step hb
          replace hX := Kd.C_below hX hb
          replace hP := Kd.C_below hP hb
          replace hL := Kd.C_below hL hb
          replace x15 := x15.step hb
          replace hBl := Kd.C_below hBl hb
          replace e0 := x3.cell 0 rfl
          replace e1 := x3.cell 1 rfl
          replace e2 := x3.cell 2 rfl
          replace e3 := x3.cell 3 rfl
          replace e4 := x3.cell 4 rfl
          clear hb
          obtain ⟨wk, hwk⟩ : ∃ v, u9.alloc (.cells #[.int .i64 k1, .int .i64 k2] 36) = v := ⟨_, rfl⟩
          have hb : Below u9.heap.size u9 wk := hwk ▸ (Below.refl _ _).alloc (Nat.le_refl _) _
          have x22 : Box wk u9.heap.size #[.int .i64 k1, .int .i64 k2] 36 := hwk ▸ Box.new _ _ _
          replace hT := hT.below hb
          replace hr1 := Kd.C_below hr1 hb
          replace hr2 := Kd.C_below hr2 hb
          replace hB := hB.trans (hb.mono hB.size)
          replace x3 := x3.step hb
          replace hX := Kd.C_below hX hb
          replace hP := Kd.C_below hP hb
          replace hL := Kd.C_below hL hb
          replace x15 := x15.step hb
          replace hBl := Kd.C_below hBl hb
          replace e0 := x3.cell 0 rfl
          replace e1 := x3.cell 1 rfl
          replace e2 := x3.cell 2 rfl
          replace e3 := x3.cell 3 rfl
          replace e4 := x3.cell 4 rfl
          clear hb
          have y0 : wk.cell? ⟨b15, 0, none⟩ = some (.int .i64 h1) := x15.cell 0 rfl
          have y1 : wk.cell? ⟨b15, 1, none⟩ = some (.int .i64 h2) := x15.cell 1 rfl
          have z0 : wk.cell? ⟨u9.heap.size, 0, none⟩ = some (.int .i64 k1) := x22.cell 0 rfl
          have z1 : wk.cell? ⟨u9.heap.size, 1, none⟩ = some (.int .i64 k2) := x22.cell 1 rfl
          cases k3
          · obtain ⟨rfl, rfl, rfl⟩ : h1 = 0 ∧ h2 = 0 ∧ h3 = 7 := by simpa using hB4
            clear hB4
            go_wp2_with fail
            refine (known_calls _ hT).mono ?_
            rintro e_ uf ⟨rfl, hb⟩
            replace hB := hB.trans (hb.mono hB.size)
            go_wp2
            go_ret
            exact ⟨rfl, hB⟩
          · obtain ⟨rfl, rfl, rfl⟩ : h1 = k1 ∧ h2 = k2 ∧ h3 = 0 := by simpa using hB4
            clear hB4
            go_wp2_with fail
            refine (known_calls _ hT).mono ?_
            rintro e_ uf ⟨rfl, hb⟩
            replace hB := hB.trans (hb.mono hB.size)
            go_wp2
            go_ret
            exact ⟨rfl, hB⟩
        · obtain ⟨rfl, rfl⟩ : bl = r1 ∧ be = 0 := by simpa using hB2
          clear hB2
          go_wp2_with fail
          refine (smaltoref03_Ints.calls (2 * bl.length + 2) AL cL bl AB cB bl true _ hL hcL hBl hcB (Ints_eq bl (Nat.le_trans (HBL.out (by simp)) (by omega)))).mono ?_
          rintro e_ u8 ⟨rfl, hd⟩
          have hb := hd.below
          clear hd
          replace hT := hT.below hb
          replace hr1 := Kd.C_below hr1 hb
          replace hr2 := Kd.C_below hr2 hb
          replace hB := hB.trans (hb.mono hB.size)
          replace x3 := x3.step hb
          replace hX := Kd.C_below hX hb
          replace hP := Kd.C_below hP hb
          replace hL := Kd.C_below hL hb
          replace x15 := x15.step hb
          replace hBl := Kd.C_below hBl hb
          replace e0 := x3.cell 0 rfl
          replace e1 := x3.cell 1 rfl
          replace e2 := x3.cell 2 rfl
          replace e3 := x3.cell 3 rfl
          replace e4 := x3.cell 4 rfl
          clear hb
          go_wp2_with fail
          have hcl := refheat_calls l load A1 A2 c1 c2 _ hr1 hr2 Hvl.out
          rw [Hk.out] at hcl
          refine hcl.mono ?_
          rintro e_ u9 ⟨rfl, hb⟩
          clear hcl
          replace hT := hT.below hb
          replace hr1 := Kd.C_below hr1 hb
          replace hr2 := Kd.C_below hr2 hb
          replace hB := hB.trans (hb.mono hB.size)
          replace x3 := x3.step hb
          replace hX := Kd.C_below hX hb
          replace hP := Kd.C_below hP hb
          replace hL := Kd.C_below hL hb
          replace x15 := x15.step hb
          replace hBl := Kd.C_below hBl hb
          replace e0 := x3.cell 0 rfl
          replace e1 := x3.cell 1 rfl
          replace e2 := x3.cell 2 rfl
          replace e3 := x3.cell 3 rfl
          replace e4 := x3.cell 4 rfl
          clear hb
          obtain ⟨wk, hwk⟩ : ∃ v, u9.alloc (.cells #[.int .i64 k1, .int .i64 k2] 36) = v := ⟨_, rfl⟩
          have hb : Below u9.heap.size u9 wk := hwk ▸ (Below.refl _ _).alloc (Nat.le_refl _) _
          have x22 : Box wk u9.heap.size #[.int .i64 k1, .int .i64 k2] 36 := hwk ▸ Box.new _ _ _
          replace hT := hT.below hb
          replace hr1 := Kd.C_below hr1 hb
          replace hr2 := Kd.C_below hr2 hb
          replace hB := hB.trans (hb.mono hB.size)
          replace x3 := x3.step hb
          replace hX := Kd.C_below hX hb
          replace hP := Kd.C_below hP hb
          replace hL := Kd.C_below hL hb
          replace x15 := x15.step hb
          replace hBl := Kd.C_below hBl hb
          replace e0 := x3.cell 0 rfl
          replace e1 := x3.cell 1 rfl
          replace e2 := x3.cell 2 rfl
          replace e3 := x3.cell 3 rfl
          replace e4 := x3.cell 4 rfl
          clear hb
          have y0 : wk.cell? ⟨b15, 0, none⟩ = some (.int .i64 h1) := x15.cell 0 rfl
          have y1 : wk.cell? ⟨b15, 1, none⟩ = some (.int .i64 h2) := x15.cell 1 rfl
          have z0 : wk.cell? ⟨u9.heap.size, 0, none⟩ = some (.int .i64 k1) := x22.cell 0 rfl
          have z1 : wk.cell? ⟨u9.heap.size, 1, none⟩ = some (.int .i64 k2) := x22.cell 1 rfl
          cases k3
          · obtain ⟨rfl, rfl, rfl⟩ : h1 = 0 ∧ h2 = 0 ∧ h3 = 7 := by simpa using hB4
            clear hB4
            go_wp2_with fail
            refine (known_calls _ hT).mono ?_
            rintro e_ uf ⟨rfl, hb⟩
            replace hB := hB.trans (hb.mono hB.size)
            go_wp2
            go_ret
            exact ⟨rfl, hB⟩
          · obtain ⟨rfl, rfl, rfl⟩ : h1 = k1 ∧ h2 = k2 ∧ h3 = 0 := by simpa using hB4
            clear hB4
            go_wp2_with fail
            refine (known_calls _ hT).mono ?_
            rintro e_ uf ⟨rfl, hb⟩
            replace hB := hB.trans (hb.mono hB.size)
            go_wp2
            go_ret
            exact ⟨rfl, hB⟩
      · have ho1 : (o != 0) = true := by simp [ho0]
        obtain ⟨q1, q2, q3⟩ := refused (a := a) (b := b) (c := c) (d := d) (e := e) (l := l) (load := load) (by rw [Ho.out]; exact ho0)
        rw [Hg.out, Ho.out] at q1
        rw [Hbr.out, Ho.out] at q2
        rw [Hh.out, Ho.out] at q3
        simp only [Prod.mk.injEq] at q1 q2 q3
        obtain ⟨rfl, rfl, rfl⟩ := q1
        obtain ⟨rfl, rfl⟩ := q2
        obtain ⟨rfl, rfl, _⟩ := q3
        have y0 : u5.cell? ⟨b15, 0, none⟩ = some (.int .i64 0) := x15.cell 0 rfl
        have y1 : u5.cell? ⟨b15, 1, none⟩ = some (.int .i64 0) := x15.cell 1 rfl
        go_wp2_with fail
        refine (known_calls _ hT).mono ?_
        rintro e_ uf ⟨rfl, hb⟩
        replace hB := hB.trans (hb.mono hB.size)
        go_wp2
        go_ret
        exact ⟨rfl, hB⟩
end Go.Proofs.YtbijamlgcebgeaaDoor.Hand

-- part JF
namespace Go.Proofs.YtbijamlgcebgeaaDoor.Hand
open Go.ChangeShapes Go.WideShapes Go.ChangeAt Go.RowKit Go.Deep Go.Proofs.YtbijamlgcebgeaaDoorW.PrintWords Go.Proofs.YtbijamlgcebgeaaDoor.Q
theorem own : ownKnob Tryd.prog.godebug = none := by kernel_rfl
theorem laidOut : laidOutB Tryd.prog = true := by kernel_rfl
theorem cells74 : Tryd.prog.cellsOf 74 = 6 := by kernel_rfl
theorem cells36 : Tryd.prog.cellsOf 36 = 2 := by kernel_rfl
theorem cells23 : Tryd.prog.cellsOf 23 = 5 := by kernel_rfl
theorem cells3 : Tryd.prog.cellsOf 3 = 1 := by kernel_rfl
theorem g64 : Tryd.prog.globalNamed "math/bits.deBruijn64tab" = some 1 := by kernel_rfl
section
variable {H : Type} {enc : TypeId × Value → H} {w : World} {base : Nat} {spare : Nat → Bool} {held : Bool}
set_option maxRecDepth 100000 in
theorem el36 {n : Nat} {cs : List Value} {x : DataW H × List MemPlace} (h : DataW.trod enc Tryd.prog w base spare held n 36 cs = some x) : ∃ y : S36, cs = [.int .i64 y.f0, .int .i64 y.f1] := by
  obtain ⟨xs, m, rfl, rfl, hl, hx, hf⟩ := DataW.trod_struct Tryd.underlying36 h
  rw [cells36] at hl
  match cs, hl with
  | [c0, c1], _ =>
    have h0 := hf 0 _ rfl
    have h1 := hf 1 _ rfl
    match xs, hx with
    | [y0, y1], _ =>
      obtain ⟨i0, e0, _, _⟩ := DataW.trod_int Tryd.underlying3 (show DataW.trod enc Tryd.prog w base spare held m 3 [c0] = some y0 from h0)
      obtain ⟨i1, e1, _, _⟩ := DataW.trod_int Tryd.underlying3 (show DataW.trod enc Tryd.prog w base spare held m 3 [c1] = some y1 from h1)
      simp only [List.cons.injEq, and_true] at e0 e1
      exact ⟨⟨i0, i1⟩, by rw [e0, e1]⟩
set_option maxRecDepth 100000 in
theorem el74 {n : Nat} {cs : List Value} {x : DataW H × List MemPlace} (h : DataW.trod enc Tryd.prog w base spare held n 74 cs = some x) : ∃ y : S74, cs = [.int .i64 y.f0, .int .i64 y.f1, .int .i64 y.f2.f0, .int .i64 y.f2.f1, .int .i64 y.f3.f0, .int .i64 y.f3.f1] := by
  obtain ⟨xs, m, rfl, rfl, hl, hx, hf⟩ := DataW.trod_struct Tryd.underlying74 h
  rw [cells74] at hl
  match cs, hl with
  | [c0, c1, c2, c3, c4, c5], _ =>
    have h0 := hf 0 _ rfl
    have h1 := hf 1 _ rfl
    have h2 := hf 2 _ rfl
    have h3 := hf 3 _ rfl
    match xs, hx with
    | [y0, y1, y2, y3], _ =>
      obtain ⟨i0, e0, _, _⟩ := DataW.trod_int Tryd.underlying3 (show DataW.trod enc Tryd.prog w base spare held m 3 [c0] = some y0 from h0)
      obtain ⟨i1, e1, _, _⟩ := DataW.trod_int Tryd.underlying3 (show DataW.trod enc Tryd.prog w base spare held m 3 [c1] = some y1 from h1)
      obtain ⟨s2, e2⟩ := el36 (show DataW.trod enc Tryd.prog w base spare held m 36 [c2, c3] = some y2 from h2)
      obtain ⟨s3, e3⟩ := el36 (show DataW.trod enc Tryd.prog w base spare held m 36 [c4, c5] = some y3 from h3)
      simp only [List.cons.injEq, and_true] at e0 e1 e2 e3
      exact ⟨⟨i0, i1, s2, s3⟩, by rw [e0, e1, e2.1, e2.2, e3.1, e3.2]⟩
set_option maxRecDepth 100000 in
theorem open23 {b0 : Nat} {v : Value} {d : DataW H} {p : List MemPlace} (hv : Value.okWide Tryd.prog w .any b0 23 v) (h : DataW.Trod enc Tryd.prog w base spare held 23 v d p) : ∃ a b c e f : Int, v = .agg #[.int .i64 a, .int .i64 b, .int .i64 c, .int .i64 e, .int .i64 f] := by
  obtain ⟨cs, rfl, hsz⟩ := okWide_struct Tryd.underlying23 hv
  rw [cells23] at hsz
  obtain ⟨fuel, hf⟩ := h
  obtain ⟨xs, m, rfl, _, hl, hx, hf⟩ := DataW.trod_struct Tryd.underlying23 hf
  obtain ⟨l⟩ := cs
  match l, hsz with
  | [c0, c1, c2, c3, c4], _ =>
    have h0 := hf 0 _ rfl
    have h1 := hf 1 _ rfl
    have h2 := hf 2 _ rfl
    have h3 := hf 3 _ rfl
    have h4 := hf 4 _ rfl
    match xs, hx with
    | [y0, y1, y2, y3, y4], _ =>
      obtain ⟨i0, e0, _, _⟩ := DataW.trod_int Tryd.underlying3 (show DataW.trod enc Tryd.prog w base spare held m 3 [c0] = some y0 from h0)
      obtain ⟨i1, e1, _, _⟩ := DataW.trod_int Tryd.underlying3 (show DataW.trod enc Tryd.prog w base spare held m 3 [c1] = some y1 from h1)
      obtain ⟨i2, e2, _, _⟩ := DataW.trod_int Tryd.underlying3 (show DataW.trod enc Tryd.prog w base spare held m 3 [c2] = some y2 from h2)
      obtain ⟨i3, e3, _, _⟩ := DataW.trod_int Tryd.underlying3 (show DataW.trod enc Tryd.prog w base spare held m 3 [c3] = some y3 from h3)
      obtain ⟨i4, e4, _, _⟩ := DataW.trod_int Tryd.underlying3 (show DataW.trod enc Tryd.prog w base spare held m 3 [c4] = some y4 from h4)
      simp only [List.cons.injEq, and_true] at e0 e1 e2 e3 e4
      exact ⟨i0, i1, i2, i3, i4, by rw [e0, e1, e2, e3, e4]⟩
set_option maxRecDepth 100000 in
theorem open24 {b0 : Nat} {v : Value} {d : DataW H} {p : List MemPlace} (hv : Value.okWide Tryd.prog w .any b0 24 v) (h : DataW.Trod enc Tryd.prog w base spare held 24 v d p) :
    ∃ (A : Option Addr) (l : List S74) (c : Nat), v = .slice A l.length c ∧ l.length ≤ c ∧ Kd.C k74 w A l.length l := by
  obtain ⟨A, n, c, rfl⟩ := okWide_slice Tryd.underlying24 hv
  obtain ⟨fuel, hf⟩ := h
  rcases open_slice Tryd.underlying24 hf with ⟨hcs, _⟩ | ⟨a, len, cap, m, k, D, Pl, hcs, _, hl, hm, hmm, _, hi⟩
  · simp [Value.cells] at hcs
    obtain ⟨rfl, rfl, rfl⟩ := hcs
    exact ⟨none, [], 0, rfl, Nat.le_refl _, rfl, by simp, fun h => absurd h (by simp)⟩
  · simp [Value.cells] at hcs
    obtain ⟨rfl, rfl, rfl⟩ := hcs
    have hlm : n ≤ m := by rw [hmm]; split <;> omega
    have hel : ∀ i, i < n → ∃ y : S74, ∀ j u, [Value.int .i64 y.f0, .int .i64 y.f1, .int .i64 y.f2.f0, .int .i64 y.f2.f1, .int .i64 y.f3.f0, .int .i64 y.f3.f1][j]? = some u → w.cell? (a.add (i * 6 + j)) = some u := by
      intro i hin
      obtain ⟨cs', hc, ht⟩ := hi i (by omega)
      rw [cells74] at hc
      obtain ⟨y, rfl⟩ := el74 ht
      refine ⟨y, fun j u hj => ?_⟩
      obtain ⟨_, _, hat⟩ := World.cells?_some hc
      obtain ⟨hjl, hju⟩ := List.getElem?_eq_some_iff.1 hj
      have := hat j (by simpa using hjl)
      rw [← Go.Deep.add_add, this]
      exact hj
    obtain ⟨f, hf⟩ : ∃ f : Nat → S74, ∀ i, i < n → ∀ j u, [Value.int .i64 (f i).f0, .int .i64 (f i).f1, .int .i64 (f i).f2.f0, .int .i64 (f i).f2.f1, .int .i64 (f i).f3.f0, .int .i64 (f i).f3.f1][j]? = some u → w.cell? (a.add (i * 6 + j)) = some u :=
      haveI : Inhabited S74 := ⟨z74⟩
      choose_lt (p := fun i (y : S74) => ∀ j u, [Value.int .i64 y.f0, .int .i64 y.f1, .int .i64 y.f2.f0, .int .i64 y.f2.f1, .int .i64 y.f3.f0, .int .i64 y.f3.f1][j]? = some u → w.cell? (a.add (i * 6 + j)) = some u) hel
    refine ⟨some a, (List.range n).map f, c, by simp, by simpa using hl, ?_⟩
    rw [show ((List.range n).map f).length = n by simp]
    refine ⟨by simp, by simp [maxLen] at hm; omega, fun _ => ⟨a, rfl, fun j p hj => ?_⟩⟩
    obtain ⟨hjl, hp⟩ := List.getElem?_eq_some_iff.1 hj
    simp at hjl hp
    subst hp
    exact ⟨_, rfl, k74_mk w (f j), hf j hjl⟩
set_option maxRecDepth 100000 in
theorem open25 {b0 : Nat} {v : Value} {d : DataW H} {p : List MemPlace} (hv : Value.okWide Tryd.prog w .any b0 25 v) (h : DataW.Trod enc Tryd.prog w base spare held 25 v d p) :
    ∃ (A : Option Addr) (l : List Int) (c : Nat), v = .slice A l.length c ∧ l.length ≤ c ∧ Kd.C (Kd.int .i64) w A l.length l := by
  obtain ⟨A, n, c, rfl⟩ := okWide_slice Tryd.underlying25 hv
  obtain ⟨fuel, hf⟩ := h
  rcases open_slice Tryd.underlying25 hf with ⟨hcs, _⟩ | ⟨a, len, cap, m, k, D, Pl, hcs, _, hl, hm, hmm, _, hi⟩
  · simp [Value.cells] at hcs
    obtain ⟨rfl, rfl, rfl⟩ := hcs
    exact ⟨none, [], 0, rfl, Nat.le_refl _, rfl, by simp, fun h => absurd h (by simp)⟩
  · simp [Value.cells] at hcs
    obtain ⟨rfl, rfl, rfl⟩ := hcs
    have hlm : n ≤ m := by rw [hmm]; split <;> omega
    have hel : ∀ i, i < n → ∃ y : Int, w.cell? (a.add i) = some (.int .i64 y) := by
      intro i hin
      obtain ⟨cs', hc, ht⟩ := hi i (by omega)
      rw [cells3, Nat.mul_one] at hc
      obtain ⟨y, rfl, _⟩ := DataW.trod_int Tryd.underlying3 ht
      exact ⟨y, cell_of_cells?_one hc⟩
    obtain ⟨f, hf⟩ := choose_lt (p := fun i (y : Int) => w.cell? (a.add i) = some (.int .i64 y)) hel
    refine ⟨some a, (List.range n).map f, c, by simp, by simpa using hl, ?_⟩
    rw [show ((List.range n).map f).length = n by simp]
    refine ⟨by simp, by simp [maxLen] at hm; omega, fun _ => ⟨a, rfl, fun j p hj => ?_⟩⟩
    obtain ⟨hjl, hp⟩ := List.getElem?_eq_some_iff.1 hj
    simp at hjl hp
    subst hp
    refine ⟨[.int .i64 (f j)], rfl, rfl, fun i u hu => ?_⟩
    match i, hu with
    | 0, hu =>
      simp at hu
      subst hu
      rw [show (j * (Kd.int .i64).sz + 0 : Nat) = j by show j * 1 + 0 = j; omega]
      exact hf j hjl
end
set_option maxRecDepth 100000 in
/-- What the rows list gives: the table. -/
theorem tabW_of {W : World} (h : laidMetH Tryd.prog Rows.forkGoesRow.laid W) : TabW W := by
  have h2 : Lib.TabIs Tryd.prog W "math/bits.deBruijn64tab" .u8 (Lib.deBruijn64tab.map fun (n : Nat) => (n : Int)) :=
    Lib.tabIs_of_head (rest := []) (g := 1) (t := Tryd.prog.globals[1]!.type) (n := 64) (e := 5) g64 (by kernel_rfl) (by kernel_rfl) (by kernel_rfl) (by kernel_rfl) (by kernel_rfl) (laidMet.tail h)
  have hc : ∀ j, j < Lib.deBruijn64tab.length → W.cell? ⟨1, j, none⟩ = some (.int .u8 (Lib.deBruijn64tab.getD j 0)) := by
    intro j hj
    have := h2.cell g64 j (by simpa using hj)
    rw [this]
    simp [List.getD_eq_getElem?_getD, List.getElem?_eq_getElem hj]
  exact ⟨World.block_lt_of_cell? W ⟨1, 0, none⟩ (hc 0 (by decide)), hc⟩
end Go.Proofs.YtbijamlgcebgeaaDoor.Hand

-- part QA
namespace Go.Proofs.YtbijamlgcebgeaaDoor.Q
open Go.RowKit Go.Proofs.YtbijamlgcebgeaaDoorW.PrintWords Go.Proofs.YtbijamlgcebgeaaDoorW.PrintLast Go.Proofs.YtbijamlgcebgeaaDoorW.PrintMore
attribute [local go_sem] max2_int min2_int max_two min_two max_three min_three max_four min_four
theorem info4 : (Tryd.prog.info? 4).map (fun i => (i.zero, i.size, i.bytes)) = some (some (.bool false), 1, 1) := by kernel_rfl
/-- The reference's Heat, by hand: a load whose numbers are signs. -/
def smaltoref03_Heat.f (l0 : List (S74)) (l1 : List Int) : Option (Int × Int × Bool) := if (List.range l1.length).all (fun (j : Nat) => decide (0 ≤ rd l1 j) && decide (rd l1 j < l0.length)) = true then some (Go.Proofs.YtbijamlgcebgeaaDoor.Hand.refHeatR l0 l1) else none
theorem smaltoref03_Heat.calls (A0 : Option Addr) (c0 : Nat) (l0 : List (S74)) (A1 : Option Addr) (c1 : Nat) (l1 : List Int) (r1 : Int) (r2 : Int) (r3 : Bool) (w : World) (hr0 : Kd.C k74 w A0 l0.length l0) (hc0 : l0.length ≤ c0) (hr1 : Kd.C (Kd.int .i64) w A1 l1.length l1) (hc1 : l1.length ≤ c1) (h : smaltoref03_Heat.f l0 l1 = some (r1, r2, r3)) :
    Calls Tryd.prog 26 #[.slice A0 l0.length c0, .slice A1 l1.length c1] w fun e w' => e = .returned (.tuple #[.agg #[.int .i64 r1, .int .i64 r2], .bool r3]) ∧ Below w.heap.size w w' := by
  unfold smaltoref03_Heat.f at h
  split at h
  · rename_i hv
    have hv' : ∀ j : Nat, j < l1.length → 0 ≤ rd l1 j ∧ rd l1 j < l0.length := fun j hj => by
      have := List.all_eq_true.1 hv j (List.mem_range.2 hj)
      simpa using this
    have := Go.Proofs.YtbijamlgcebgeaaDoor.Hand.refheat_calls l0 l1 A0 A1 c0 c1 w hr0 hr1 hv'
    simp only [Option.some.injEq] at h
    rw [h] at this
    exact this
  · cases h
/-- The reference's Goes, by hand: valid signs, a load whose numbers are signs. -/
def goesV (l1 : List (S74)) (l2 : List Int) : Bool := decide (l2.length ≤ 1000) && (List.range l2.length).all (fun (j : Nat) => decide (0 ≤ rd l2 j) && decide (rd l2 j < l1.length)) && l1.all (fun x => decide ((1 ≤ x.f1 ∧ x.f1 ≤ 100) ∧ (1 ≤ x.f2.f0 ∧ x.f2.f0 ≤ x.f2.f1 ∧ x.f2.f1 ≤ 500)))
def smaltoref03_Goes.f (k : Nat) (a0_0 : Int) (a0_1 : Int) (a0_2 : Int) (a0_3 : Int) (a0_4 : Int) (l1 : List (S74)) (l2 : List Int) : Option (Bool × Bool) := if goesV l1 l2 = true then ((smaltoref03_Bars.f k a0_0 a0_1 a0_2 a0_3 a0_4 l1 l2 []).bind fun b => some (Go.Proofs.YtbijamlgcebgeaaDoor.Hand.refGoesR a0_3 a0_4 l1 l2 b.2)) else none
theorem smaltoref03_Goes.mono : ∀ a0 a1 a2 a3 a4 a5 a6 k, LeO (smaltoref03_Goes.f k a0 a1 a2 a3 a4 a5 a6) (smaltoref03_Goes.f (k + 1) a0 a1 a2 a3 a4 a5 a6) := by
  intro a0 a1 a2 a3 a4 a5 a6 k
  unfold smaltoref03_Goes.f
  exact LeO.ite (LeO.bind (smaltoref03_Bars.mono _ _ _ _ _ _ _ _ _) (fun _ => LeO.refl _)) (LeO.none _)
theorem smaltoref03_Goes.calls (k : Nat) (a0_0 : Int) (a0_1 : Int) (a0_2 : Int) (a0_3 : Int) (a0_4 : Int) (A1 : Option Addr) (c1 : Nat) (l1 : List (S74)) (A2 : Option Addr) (c2 : Nat) (l2 : List Int) (r1 : Bool) (r2 : Bool) (w : World) (hr1 : Kd.C k74 w A1 l1.length l1) (hc1 : l1.length ≤ c1) (hr2 : Kd.C (Kd.int .i64) w A2 l2.length l2) (hc2 : l2.length ≤ c2) (h : smaltoref03_Goes.f k a0_0 a0_1 a0_2 a0_3 a0_4 l1 l2 = some (r1, r2)) :
    Calls Tryd.prog 24 #[.agg #[.int .i64 a0_0, .int .i64 a0_1, .int .i64 a0_2, .int .i64 a0_3, .int .i64 a0_4], .slice A1 l1.length c1, .slice A2 l2.length c2] w fun e w' => e = .returned (.tuple #[.bool r1, .bool r2]) ∧ Below w.heap.size w w' := by
  unfold smaltoref03_Goes.f at h
  split at h
  · rename_i hv
    unfold goesV at hv
    simp only [Bool.and_eq_true, decide_eq_true_eq, List.all_eq_true, List.mem_range] at hv
    obtain ⟨⟨b1, b2⟩, hb, hq⟩ := Option.bind_eq_some_iff.1 h
    have h3 := Go.Proofs.YtbijamlgcebgeaaDoor.Hand.refgoes_calls k a0_0 a0_1 a0_2 a0_3 a0_4 l1 l2 A1 A2 c1 c2 hc1 hc2 w hr1 hr2 hv.1.1 hv.1.2 hv.2 b1 b2 (fun _ => hb)
    simp only [Option.some.injEq] at hq
    rw [hq] at h3
    exact h3
  · cases h
def smaltoref03_Numbers.l0 : Nat → List Int → Int → List Int → Int → Option (List Int)
  | 0, _, _, _, _ => none
  | k + 1, x0, x1, x5, x6 => if x6 < (x0.length : Int) then (if 0 ≤ (IntKind.u64.wrap (x6)) then (if (Go.bits .and .i64 (shr .i64 x1 (IntKind.u64.wrap (x6))) 1) = 1 then (if 0 ≤ x6 then (if x5.length < 17592186044416 then (smaltoref03_Numbers.l0 k x0 x1 (x5 ++ [rd x0 x6]) (wrap64 (x6 + 1))) else (none)) else (none)) else (smaltoref03_Numbers.l0 k x0 x1 x5 (wrap64 (x6 + 1)))) else (none)) else (some x5)
def smaltoref03_Numbers.f (k : Nat) (l0 : List Int) (a1 : Int) : Option (List Int) := smaltoref03_Numbers.l0 k l0 a1 (([] : List Int)) 0
theorem smaltoref03_Numbers.mono_l : ∀ k, (∀ y0 y1 y2 y3, LeO (smaltoref03_Numbers.l0 k y0 y1 y2 y3) (smaltoref03_Numbers.l0 (k + 1) y0 y1 y2 y3))
  | 0 => fun _ _ _ _ r h => by simp [smaltoref03_Numbers.l0] at h
  | k + 1 => by
    have ih0 := smaltoref03_Numbers.mono_l k
    · intro y0 y1 y2 y3
      unfold smaltoref03_Numbers.l0
      repeat' first
      | (with_reducible exact ih0 _ _ _ _)
      | (with_reducible exact LeO.refl _)
      | (with_reducible exact LeO.none _)
      | (with_reducible refine LeO.ite ?_ ?_)
      | (with_reducible refine LeO.bind ?_ (fun _ => ?_))
      | exact ih0 _ _ _ _
      | exact LeO.none _
      | refine LeO.ite ?_ ?_
      | refine LeO.bind ?_ (fun _ => ?_)
theorem smaltoref03_Numbers.mono : ∀ a0 a1 k, LeO (smaltoref03_Numbers.f k a0 a1) (smaltoref03_Numbers.f (k + 1) a0 a1) := by
  intro a0 a1 k
  have ih0 := smaltoref03_Numbers.mono_l k
  unfold smaltoref03_Numbers.f
  repeat' first
      | (with_reducible exact ih0 _ _ _ _)
      | (with_reducible exact LeO.refl _)
      | (with_reducible exact LeO.none _)
      | (with_reducible refine LeO.ite ?_ ?_)
      | (with_reducible refine LeO.bind ?_ (fun _ => ?_))
      | exact ih0 _ _ _ _
      | exact LeO.none _
      | refine LeO.ite ?_ ?_
      | refine LeO.bind ?_ (fun _ => ?_)
set_option maxHeartbeats 8000000 in
set_option maxRecDepth 100000 in
theorem smaltoref03_Numbers.calls (k : Nat) (A0 : Option Addr) (c0 : Nat) (l0 : List Int) (a1 : Int) (r : List Int) (w : World) (hr0 : Kd.C (Kd.int .i64) w A0 l0.length l0) (hc0 : l0.length ≤ c0) (h : smaltoref03_Numbers.f k l0 a1 = some r) :
    Calls Tryd.prog 71 #[.slice A0 l0.length c0, .int .i64 a1] w fun e w' => ∃ v0_ : Value, e = .returned (v0_) ∧ Kd.R (Kd.int .i64) 3 w' w.heap.size (fun _ => True) v0_ r ∧ Below w.heap.size w w' := by
  have HR0 := Aside0.mk hr0
  have HC0 := Aside0.mk hc0
  clear hr0 hc0
  have HB := Aside0.mk (Below.refl w.heap.size w)
  have H : (smaltoref03_Numbers.l0 k l0 a1 (([] : List Int)) 0) = some r := h
  clear h
  obtain ⟨y178, hy178⟩ : ∃ y_ : List Int, y_ = (([] : List Int)) := ⟨_, rfl⟩
  replace H : (smaltoref03_Numbers.l0 k l0 a1 y178 0) = some r := by first | (rw [hy178]; with_reducible exact H) | (have H2_ := (Option.bind_some _ _).symm.trans H; rw [hy178]; with_reducible exact H2_) | (have H2_ := (Option.bind_some _ _).symm.trans H; with_reducible exact H2_) | with_reducible exact H | (rw [hy178]; exact H) | exact H
  have Ny178 := Aside0.mk hy178
  clear hy178
  have H' := Aside0.mk H
  clear H
  go_enter Tryd.func71, Tryd.ntmps71
  go_wp2_with (first | ((with_reducible refine gate_dst (N := 7) rfl ?_); refine Kd.R_lit (Kd.int .i64) _ 3 ?hg (N := 7) ?hd (xs := ([] : List Int)) (inner := []) (ok := fun _ => True) (okp := fun _ => True) ?hr ?hp (fun _ hk => hk) trivial (Below.refl _ _) (Nat.le_refl _) (by simp) ?_; (case hd => rfl); (case hg => rfl); (case hr => first | (go_simp; done) | (go_simp; rfl)); (case hp => exact (Reps.none _ _)); intro v179 w3 ho4 hb hg_ hnew_; clear hg_ hnew_; (first | rw [← Ny178.out] at ho4 | (simp only [Int.reduceToNat] at ho4; rw [← Ny178.out] at ho4)); have n0_ := Aside0.mk (Kd.R_lower ho4 (below_size (by repeat (first | (with_reducible first | exact HB.out | apply below_alloc | apply pw_below_drewN | apply below_drew1) | exact HB.out)))); have n1_ := Aside0.mk (below_step (by repeat (first | (with_reducible first | exact HB.out | apply below_alloc | apply pw_below_drewN | apply below_drew1) | exact HB.out)) hb); clear HB; have HO180 := n0_; have HB := n1_; clear n0_ n1_; clear hb ho4))
  go_loopg [5, 6] k (fun kq v5 v6 w' => ∃ (x5_1 : List Int) (x6_1 : Int), v6 = .int .i64 x6_1 ∧ Aside0 (smaltoref03_Numbers.l0 kq l0 a1 x5_1 x6_1 = some r) ∧ Aside0 (kq ≤ k) ∧ Aside0 (Kd.R (Kd.int .i64) 3 w' w.heap.size (fun _ => True) v5 x5_1) ∧ Aside0 (Below w.heap.size w w'))
  case atStart => exact ⟨(y178), (0), (by first | rfl | (simp; done) | (simp [*]; done)), H', ⟨Nat.le_refl _⟩, ⟨by (with_reducible repeat (first | apply Kd.R_alloc | apply Kd.R_drewN | apply Kd.R_drew)); exact HO180.out⟩, ⟨by repeat (first | (with_reducible first | exact HB.out | apply below_alloc | apply pw_below_drewN | apply below_drew1) | exact HB.out)⟩⟩
  case round =>
    clear H'
    try clear p2
    obtain ⟨x5_1, x6_1, rfl, HA, HK1, HO_5, HB⟩ := hrel
    cases gk with
    | zero => exact absurd HA.out (by simp [smaltoref03_Numbers.l0])
    | succ k1 =>
      have H := HA.out
      clear HA
      simp only [smaltoref03_Numbers.l0] at H
      by_cases c5 : x6_1 < (l0.length : Int)
      · rw [if_pos c5] at H
        have c5b0 : decide (x6_1 < (l0.length : Int)) = true := decide_eq_true c5
        clear c5
        obtain ⟨ji6, hji6⟩ : ∃ j_ : Int, (IntKind.u64.wrap (x6_1)) = j_ := ⟨_, rfl⟩
        replace H : (if 0 ≤ (ji6) then (if (Go.bits .and .i64 (shr .i64 a1 (ji6)) 1) = 1 then (if 0 ≤ x6_1 then (if x5_1.length < 17592186044416 then (smaltoref03_Numbers.l0 k1 l0 a1 (x5_1 ++ [rd l0 x6_1]) (wrap64 (x6_1 + 1))) else (none)) else (none)) else (smaltoref03_Numbers.l0 k1 l0 a1 x5_1 (wrap64 (x6_1 + 1)))) else (none)) = some r := by first | (rw [hji6] at H; exact H) | (simp only [hji6] at H ⊢; exact H)
        by_cases c7 : 0 ≤ (ji6)
        · rw [if_pos c7] at H
          have c7b0 := eq_true c7
          have c7b1 : decide (0 ≤ (ji6)) = true := decide_eq_true c7
          clear c7
          obtain ⟨ji8, hji8⟩ : ∃ j_ : Int, (shr .i64 a1 (ji6)) = j_ := ⟨_, rfl⟩
          replace H : (if (Go.bits .and .i64 (ji8) 1) = 1 then (if 0 ≤ x6_1 then (if x5_1.length < 17592186044416 then (smaltoref03_Numbers.l0 k1 l0 a1 (x5_1 ++ [rd l0 x6_1]) (wrap64 (x6_1 + 1))) else (none)) else (none)) else (smaltoref03_Numbers.l0 k1 l0 a1 x5_1 (wrap64 (x6_1 + 1)))) = some r := by first | (rw [hji8] at H; exact H) | (simp only [hji8] at H ⊢; exact H)
          have hji8_ : (a1 / 2 ^ min (ji6).toNat 64) = ji8 := hji8
          have hji8z : (ji6) ≤ 64 → (a1 / 2 ^ (ji6).toNat) = ji8 := shr_small hji8
          by_cases c9 : (Go.bits .and .i64 (ji8) 1) = 1
          · rw [if_pos c9] at H
            have c9b0 : ((Go.bits .and .i64 (ji8) 1) == 1) = true := beq_iff_eq.mpr c9
            have c9b1 : ((Go.bits .and .i64 (ji8) 1) != 1) = false := bne_eq_false_iff_eq.mpr c9
            clear c9
            by_cases c10 : 0 ≤ x6_1
            · rw [if_pos c10] at H
              have c10b0 : decide (0 ≤ x6_1) = true := decide_eq_true c10
              clear c10
              by_cases c11 : x5_1.length < 17592186044416
              · rw [if_pos c11] at H
                have LMc11 := Aside0.mk c11
                clear c11
                obtain ⟨y182, hy182⟩ : ∃ y_ : List Int, y_ = (x5_1 ++ [rd l0 x6_1]) := ⟨_, rfl⟩
                replace H : (smaltoref03_Numbers.l0 k1 l0 a1 y182 (wrap64 (x6_1 + 1))) = some r := by first | (rw [hy182]; with_reducible exact H) | (have H2_ := (Option.bind_some _ _).symm.trans H; rw [hy182]; with_reducible exact H2_) | (have H2_ := (Option.bind_some _ _).symm.trans H; with_reducible exact H2_) | with_reducible exact H | (rw [hy182]; exact H) | exact H
                have Ny182 := Aside0.mk hy182
                clear hy182
                have H' := Aside0.mk H
                clear H
                have p181 : 0 ≤ (x6_1 : Int) := of_decide_eq_true (by first | (with_reducible assumption) | assumption)
                have q181 : x6_1 < (l0.length : Int) := of_decide_eq_true (by first | (with_reducible assumption) | assumption)
                obtain ⟨ad181, e181, hx181_0⟩ := Kd.at_int HR0.out x6_1 p181 q181
                cases e181
                replace hx181_0 := (HB.out.cell (World.block_lt_of_cell? w _ hx181_0)).trans hx181_0
                replace p181 := eq_true p181
                replace q181 := eq_true q181
                go_wp2_with (first | ((with_reducible refine gate_builtin (b := .append) (xs := #[.tmp 20, .tmp 25]) rfl ?_); at_builtin; refine Kd.R_append (Kd.int .i64) (w0 := w) w.heap.size rfl (.tmp 20) (.tmp 25) 25 3 (.int .i64 0) 8 rfl Tryd.underlying25 info3 rfl (by decide) (by omega) u5 x5_1 (rd l0 x6_1) [.int .i64 (rd l0 x6_1)] (fun _ => True) (fun _ => False) rfl rfl ?aP (fun _ hk => hk.elim) ?aF ?aO ?aB ?aS ?aL ?_; (case aP => exact rfl); (case aB => exact (by repeat (first | (with_reducible first | exact HB.out | apply below_alloc | apply pw_below_drewN | apply below_drew1) | exact HB.out))); (case aF => exact (fun _ _ => trivial)); (case aO => exact (by (with_reducible repeat (first | apply Kd.R_alloc | apply Kd.R_drewN | apply Kd.R_drew)); exact HO_5.out)); (case aS => exact (below_size (by repeat (first | (with_reducible first | exact HB.out | apply below_alloc | apply pw_below_drewN | apply below_drew1) | exact HB.out)))); (case aL => have := LMc11.out; omega); intro v183 w12 ho hb hg hat; rw [← Ny182.out] at ho; have n0_ := Aside0.mk (hb); have n1_ := Aside0.mk (ho); clear HB; clear HO_5; have HB := n0_; have HO184 := n1_; clear n0_ n1_; clear ho hb hg hat))
                go_roundg k1
                case measure => have := HK1.out; omega
                case rel => exact ⟨(y182), (wrap64 (x6_1 + 1)), (by first | rfl | (simp; done) | (simp [*]; done)), H', ⟨by have := HK1.out; omega⟩, ⟨by (with_reducible repeat (first | apply Kd.R_alloc | apply Kd.R_drewN | apply Kd.R_drew)); exact HO184.out⟩, ⟨by repeat (first | (with_reducible first | exact HB.out | apply below_alloc | apply pw_below_drewN | apply below_drew1) | exact HB.out)⟩⟩
              · rw [if_neg c11] at H
                exact absurd H (by simp)
            · rw [if_neg c10] at H
              exact absurd H (by simp)
          · rw [if_neg c9] at H
            have c9b0 : ((Go.bits .and .i64 (ji8) 1) == 1) = false := beq_eq_false_iff_ne.mpr c9
            have c9b1 : ((Go.bits .and .i64 (ji8) 1) != 1) = true := bne_iff_ne.mpr c9
            have H' := Aside0.mk H
            clear H
            go_wp2
            go_roundg k1
            case measure => have := HK1.out; omega
            case rel => exact ⟨(x5_1), (wrap64 (x6_1 + 1)), (by first | rfl | (simp; done) | (simp [*]; done)), H', ⟨by have := HK1.out; omega⟩, ⟨by (with_reducible repeat (first | apply Kd.R_alloc | apply Kd.R_drewN | apply Kd.R_drew)); exact HO_5.out⟩, ⟨by repeat (first | (with_reducible first | exact HB.out | apply below_alloc | apply pw_below_drewN | apply below_drew1) | exact HB.out)⟩⟩
        · rw [if_neg c7] at H
          exact absurd H (by simp)
      · rw [if_neg c5] at H
        have c5b0 : decide (x6_1 < (l0.length : Int)) = false := decide_eq_false c5
        clear c5
        obtain rfl := Option.some.inj H
        go_wp2
        go_ret
        exact ⟨_, by first | rfl | (simp [errW_none, errW_some] <;> rfl) | (simp [*, errW_none, errW_some] <;> rfl), by (with_reducible repeat (first | apply Kd.R_alloc | apply Kd.R_drewN | apply Kd.R_drew)); exact HO_5.out, by repeat (first | (with_reducible first | exact HB.out | apply below_alloc | apply pw_below_drewN | apply below_drew1) | exact HB.out)⟩
def smaltoref03_Few.f (k : Nat) (l0 : List Int) (l1 : List Int) : Option (Bool) := if (l0.length : Int) = (l1.length : Int) then ((smaltoref03_Order.f k l0 l1).bind fun t185 => (some (decide (t185 < 0)))) else (some (decide ((l0.length : Int) < (l1.length : Int))))
theorem smaltoref03_Few.mono : ∀ a0 a1 k, LeO (smaltoref03_Few.f k a0 a1) (smaltoref03_Few.f (k + 1) a0 a1) := by
  intro a0 a1 k
  unfold smaltoref03_Few.f
  repeat' first
      | (with_reducible exact smaltoref03_Order.mono _ _ _)
      | (with_reducible exact LeO.refl _)
      | (with_reducible exact LeO.none _)
      | (with_reducible refine LeO.ite ?_ ?_)
      | (with_reducible refine LeO.bind ?_ (fun _ => ?_))
      | exact smaltoref03_Order.mono _ _ _
      | exact LeO.none _
      | refine LeO.ite ?_ ?_
      | refine LeO.bind ?_ (fun _ => ?_)
set_option maxHeartbeats 8000000 in
set_option maxRecDepth 100000 in
theorem smaltoref03_Few.calls (k : Nat) (A0 : Option Addr) (c0 : Nat) (l0 : List Int) (A1 : Option Addr) (c1 : Nat) (l1 : List Int) (r : Bool) (w : World) (hr0 : Kd.C (Kd.int .i64) w A0 l0.length l0) (hc0 : l0.length ≤ c0) (hr1 : Kd.C (Kd.int .i64) w A1 l1.length l1) (hc1 : l1.length ≤ c1) (h : smaltoref03_Few.f k l0 l1 = some r) :
    Calls Tryd.prog 72 #[.slice A0 l0.length c0, .slice A1 l1.length c1] w fun e w' => e = .returned (.bool r) ∧ Drawn0 w w' := by
  have HR0 := Aside0.mk hr0
  have HC0 := Aside0.mk hc0
  clear hr0 hc0
  have HR1 := Aside0.mk hr1
  have HC1 := Aside0.mk hc1
  clear hr1 hc1
  have H : (if (l0.length : Int) = (l1.length : Int) then ((smaltoref03_Order.f k l0 l1).bind fun t185 => (some (decide (t185 < 0)))) else (some (decide ((l0.length : Int) < (l1.length : Int))))) = some r := h
  clear h
  by_cases c3 : (l0.length : Int) = (l1.length : Int)
  · rw [if_pos c3] at H
    have c3b0 : ((l0.length : Int) == (l1.length : Int)) = true := beq_iff_eq.mpr c3
    have c3b1 : ((l0.length : Int) != (l1.length : Int)) = false := bne_eq_false_iff_eq.mpr c3
    have c3b2 : (l0.length == l1.length) = true := by first | simpa using c3 | (simp at c3 ⊢; omega)
    clear c3
    replace H := Option.bind_eq_some_iff.mp H
    obtain ⟨t185, A40, H⟩ := H
    replace H : (some (decide (t185 < 0))) = some r := H
    have A4 := Aside0.mk A40
    clear A40
    obtain rfl := Option.some.inj H
    go_enter Tryd.func72, Tryd.ntmps72
    go_wp2_with (first | ((with_reducible refine gate_callee (f := 64) rfl ?_); refine goesL_ (some 17) rfl rfl Tryd.func64 (by kernel_rfl) rfl #[.slice A0 l0.length c0, .slice A1 l1.length c1] rfl (by (try simp only [List.map_toArray, List.map_cons, List.map_nil]); first | done | rfl | (simp only [List.length_drop, List.length_take]; rfl)) ?_; (with_reducible refine (smaltoref03_Order.calls k _ _ l0 _ _ l1 t185 _ ?side1 ?side2 ?side3 ?side4 A4.out).mono ?_); (case side1 => repeat (first | exact HR0.out | (with_reducible refine Kd.C_alloc ?_ _) | (with_reducible refine Kd.C_drewN ?_ _) | (with_reducible refine Kd.C_drew ?_))); (case side2 => exact HC0.out); (case side3 => repeat (first | exact HR1.out | (with_reducible refine Kd.C_alloc ?_ _) | (with_reducible refine Kd.C_drewN ?_ _) | (with_reducible refine Kd.C_drew ?_))); (case side4 => exact HC1.out); rintro e w' ⟨rfl, ⟨nd, rfl⟩⟩; refine ⟨_, rfl, ?_⟩))
    go_ret
    exact ⟨by first | rfl | (simp; done) | (simp [*]; done), by repeat (first | exact Drawn0.refl _ | apply Drawn0.step)⟩
  · rw [if_neg c3] at H
    have c3b0 : ((l0.length : Int) == (l1.length : Int)) = false := beq_eq_false_iff_ne.mpr c3
    have c3b1 : ((l0.length : Int) != (l1.length : Int)) = true := bne_iff_ne.mpr c3
    have c3b2 : (l0.length == l1.length) = false := by first | simpa using c3 | (simp at c3 ⊢; omega)
    obtain rfl := Option.some.inj H
    go_enter Tryd.func72, Tryd.ntmps72
    go_wp2
    go_ret
    exact ⟨by first | rfl | (simp; done) | (simp [*]; done), by repeat (first | exact Drawn0.refl _ | apply Drawn0.step)⟩
mutual
def smaltoref03_Bar.l0 : Nat → List (S74) → List Int → List Int → Int → Int → Int → Int → Int → Int → Option (List Int)
  | 0, _, _, _, _, _, _, _, _, _ => none
  | k + 1, x1, x2, x7, x8, x187000, x187001, x187002, x187003, x187004 => if 0 ≤ (IntKind.u64.wrap ((x2.length : Int))) then (if x8 < (shl .i64 1 (IntKind.u64.wrap ((x2.length : Int)))) then ((smaltoref03_Numbers.f k x2 x8).bind fun t190 => (if (x7.length : Int) > 0 then ((smaltoref03_Few.f k t190 x7).bind fun t193 => (smaltoref03_Bar.j1 k x1 x2 x7 x8 t190 (!t193) x187000 x187001 x187002 x187003 x187004)) else (smaltoref03_Bar.j1 k x1 x2 x7 x8 t190 false x187000 x187001 x187002 x187003 x187004))) else (some x7)) else (none)
def smaltoref03_Bar.j1 : Nat → List (S74) → List Int → List Int → Int → List Int → Bool → Int → Int → Int → Int → Int → Option (List Int)
  | 0, _, _, _, _, _, _, _, _, _, _, _ => none
  | k + 1, x1, x2, x7, x8, x9, x32, x187000, x187001, x187002, x187003, x187004 => if x32 = true then (smaltoref03_Bar.l0 k x1 x2 x7 (wrap64 (x8 + 1)) x187000 x187001 x187002 x187003 x187004) else ((smaltoref03_Goes.f k x187000 x187001 x187002 x187003 x187004 x1 x9).bind fun bt194 => (if bt194.1 = true then (smaltoref03_Bar.l0 k x1 x2 x7 (wrap64 (x8 + 1)) x187000 x187001 x187002 x187003 x187004) else (smaltoref03_Bar.l0 k x1 x2 x9 (wrap64 (x8 + 1)) x187000 x187001 x187002 x187003 x187004)))
end
def smaltoref03_Bar.f (k : Nat) (a0_0 : Int) (a0_1 : Int) (a0_2 : Int) (a0_3 : Int) (a0_4 : Int) (l1 : List (S74)) (l2 : List Int) : Option (List Int) := smaltoref03_Bar.l0 k l1 l2 (([] : List Int)) 1 a0_0 a0_1 a0_2 a0_3 a0_4
theorem smaltoref03_Bar.mono_l : ∀ k, (∀ y0 y1 y2 y3 y4 y5 y6 y7 y8, LeO (smaltoref03_Bar.l0 k y0 y1 y2 y3 y4 y5 y6 y7 y8) (smaltoref03_Bar.l0 (k + 1) y0 y1 y2 y3 y4 y5 y6 y7 y8)) ∧ (∀ y0 y1 y2 y3 y4 y5 y6 y7 y8 y9 y10, LeO (smaltoref03_Bar.j1 k y0 y1 y2 y3 y4 y5 y6 y7 y8 y9 y10) (smaltoref03_Bar.j1 (k + 1) y0 y1 y2 y3 y4 y5 y6 y7 y8 y9 y10))
  | 0 => ⟨fun _ _ _ _ _ _ _ _ _ r h => by simp [smaltoref03_Bar.l0] at h, fun _ _ _ _ _ _ _ _ _ _ _ r h => by simp [smaltoref03_Bar.j1] at h⟩
  | k + 1 => by
    obtain ⟨ih0, ih1⟩ := smaltoref03_Bar.mono_l k
    refine ⟨?_, ?_⟩
    · intro y0 y1 y2 y3 y4 y5 y6 y7 y8
      unfold smaltoref03_Bar.l0
      repeat' first
      | (with_reducible exact ih0 _ _ _ _ _ _ _ _ _)
      | (with_reducible exact ih1 _ _ _ _ _ _ _ _ _ _ _)
      | (with_reducible exact smaltoref03_Few.mono _ _ _)
      | (with_reducible exact smaltoref03_Goes.mono _ _ _ _ _ _ _ _)
      | (with_reducible exact smaltoref03_Numbers.mono _ _ _)
      | (with_reducible exact LeO.refl _)
      | (with_reducible exact LeO.none _)
      | (with_reducible refine LeO.ite ?_ ?_)
      | (with_reducible refine LeO.bind ?_ (fun _ => ?_))
      | exact ih0 _ _ _ _ _ _ _ _ _
      | exact ih1 _ _ _ _ _ _ _ _ _ _ _
      | exact smaltoref03_Few.mono _ _ _
      | exact smaltoref03_Goes.mono _ _ _ _ _ _ _ _
      | exact smaltoref03_Numbers.mono _ _ _
      | exact LeO.none _
      | refine LeO.ite ?_ ?_
      | refine LeO.bind ?_ (fun _ => ?_)
    · intro y0 y1 y2 y3 y4 y5 y6 y7 y8 y9 y10
      unfold smaltoref03_Bar.j1
      repeat' first
      | (with_reducible exact ih0 _ _ _ _ _ _ _ _ _)
      | (with_reducible exact ih1 _ _ _ _ _ _ _ _ _ _ _)
      | (with_reducible exact smaltoref03_Few.mono _ _ _)
      | (with_reducible exact smaltoref03_Goes.mono _ _ _ _ _ _ _ _)
      | (with_reducible exact smaltoref03_Numbers.mono _ _ _)
      | (with_reducible exact LeO.refl _)
      | (with_reducible exact LeO.none _)
      | (with_reducible refine LeO.ite ?_ ?_)
      | (with_reducible refine LeO.bind ?_ (fun _ => ?_))
      | exact ih0 _ _ _ _ _ _ _ _ _
      | exact ih1 _ _ _ _ _ _ _ _ _ _ _
      | exact smaltoref03_Few.mono _ _ _
      | exact smaltoref03_Goes.mono _ _ _ _ _ _ _ _
      | exact smaltoref03_Numbers.mono _ _ _
      | exact LeO.none _
      | refine LeO.ite ?_ ?_
      | refine LeO.bind ?_ (fun _ => ?_)
theorem smaltoref03_Bar.mono : ∀ a0 a1 a2 a3 a4 a5 a6 k, LeO (smaltoref03_Bar.f k a0 a1 a2 a3 a4 a5 a6) (smaltoref03_Bar.f (k + 1) a0 a1 a2 a3 a4 a5 a6) := by
  intro a0 a1 a2 a3 a4 a5 a6 k
  obtain ⟨ih0, ih1⟩ := smaltoref03_Bar.mono_l k
  unfold smaltoref03_Bar.f
  repeat' first
      | (with_reducible exact ih0 _ _ _ _ _ _ _ _ _)
      | (with_reducible exact ih1 _ _ _ _ _ _ _ _ _ _ _)
      | (with_reducible exact smaltoref03_Few.mono _ _ _)
      | (with_reducible exact smaltoref03_Goes.mono _ _ _ _ _ _ _ _)
      | (with_reducible exact smaltoref03_Numbers.mono _ _ _)
      | (with_reducible exact LeO.refl _)
      | (with_reducible exact LeO.none _)
      | (with_reducible refine LeO.ite ?_ ?_)
      | (with_reducible refine LeO.bind ?_ (fun _ => ?_))
      | exact ih0 _ _ _ _ _ _ _ _ _
      | exact ih1 _ _ _ _ _ _ _ _ _ _ _
      | exact smaltoref03_Few.mono _ _ _
      | exact smaltoref03_Goes.mono _ _ _ _ _ _ _ _
      | exact smaltoref03_Numbers.mono _ _ _
      | exact LeO.none _
      | refine LeO.ite ?_ ?_
      | refine LeO.bind ?_ (fun _ => ?_)
set_option maxHeartbeats 8000000 in
set_option maxRecDepth 100000 in
theorem smaltoref03_Bar.calls (k : Nat) (a0_0 : Int) (a0_1 : Int) (a0_2 : Int) (a0_3 : Int) (a0_4 : Int) (A1 : Option Addr) (c1 : Nat) (l1 : List (S74)) (A2 : Option Addr) (c2 : Nat) (l2 : List Int) (r : List Int) (w : World) (hr1 : Kd.C k74 w A1 l1.length l1) (hc1 : l1.length ≤ c1) (hr2 : Kd.C (Kd.int .i64) w A2 l2.length l2) (hc2 : l2.length ≤ c2) (h : smaltoref03_Bar.f k a0_0 a0_1 a0_2 a0_3 a0_4 l1 l2 = some r) :
    Calls Tryd.prog 29 #[.agg #[.int .i64 a0_0, .int .i64 a0_1, .int .i64 a0_2, .int .i64 a0_3, .int .i64 a0_4], .slice A1 l1.length c1, .slice A2 l2.length c2] w fun e w' => ∃ v0_ : Value, e = .returned (v0_) ∧ Kd.R (Kd.int .i64) 3 w' w.heap.size (fun _ => True) v0_ r ∧ Below w.heap.size w w' := by
  have hu23 := Tryd.underlying23
  have HR1 := Aside0.mk hr1
  have HC1 := Aside0.mk hc1
  clear hr1 hc1
  have HR2 := Aside0.mk hr2
  have HC2 := Aside0.mk hc2
  clear hr2 hc2
  have HB := Aside0.mk (Below.refl w.heap.size w)
  have H : (smaltoref03_Bar.l0 k l1 l2 (([] : List Int)) 1 a0_0 a0_1 a0_2 a0_3 a0_4) = some r := h
  clear h
  obtain ⟨y187, hy187⟩ : ∃ y_ : List Int, y_ = (([] : List Int)) := ⟨_, rfl⟩
  replace H : (smaltoref03_Bar.l0 k l1 l2 y187 1 a0_0 a0_1 a0_2 a0_3 a0_4) = some r := by first | (rw [hy187]; with_reducible exact H) | (have H2_ := (Option.bind_some _ _).symm.trans H; rw [hy187]; with_reducible exact H2_) | (have H2_ := (Option.bind_some _ _).symm.trans H; with_reducible exact H2_) | with_reducible exact H | (rw [hy187]; exact H) | exact H
  have Ny187 := Aside0.mk hy187
  clear hy187
  have H' := Aside0.mk H
  clear H
  go_enter Tryd.func29, Tryd.ntmps29
  go_wp2_with (first | ((with_reducible refine gate_dst (N := 3) rfl ?_); refine box_event ?hg (N := 3) ?hd (cs := #[.int .i64 a0_0, .int .i64 a0_1, .int .i64 a0_2, .int .i64 a0_3, .int .i64 a0_4]) (t := 23) ?hr ?_; (case hd => rfl); (case hg => rfl); (case hr => first | (go_simp; done) | (go_simp; rfl)); intro gb186 hg w4 hbox hb; have n0_ := Aside0.mk (below_step (by repeat (first | (with_reducible first | exact HB.out | apply below_alloc | apply pw_below_drewN | apply below_drew1) | exact HB.out)) hb); have n1_ := Aside0.mk (hbox); have n2_ := Aside0.mk ((by rw [hg]; exact (below_size (by repeat (first | (with_reducible first | exact HB.out | apply below_alloc | apply pw_below_drewN | apply below_drew1) | exact HB.out))) : w.heap.size ≤ gb186)); have n3_ := Aside0.mk ((by rw [hg]; exact (below_size (by repeat (first | (with_reducible first | exact HB.out | apply below_alloc | apply pw_below_drewN | apply below_drew1) | exact HB.out))) : w.heap.size ≤ gb186)); clear HB; have HB := n0_; have BK186 := n1_; have GW186 := n2_; have GE186 := n3_; clear n0_ n1_ n2_ n3_; clear hb hbox hg) | ((with_reducible refine gate_dst (N := 12) rfl ?_); refine Kd.R_lit (Kd.int .i64) _ 3 ?hg (N := 12) ?hd (xs := ([] : List Int)) (inner := []) (ok := fun _ => True) (okp := fun _ => True) ?hr ?hp (fun _ hk => hk) trivial (Below.refl _ _) (Nat.le_refl _) (by simp) ?_; (case hd => rfl); (case hg => rfl); (case hr => first | (go_simp; done) | (go_simp; rfl)); (case hp => exact (Reps.none _ _)); intro v188 w5 ho6 hb hg_ hnew_; clear hg_ hnew_; (first | rw [← Ny187.out] at ho6 | (simp only [Int.reduceToNat] at ho6; rw [← Ny187.out] at ho6)); have n0_ := Aside0.mk (Kd.R_lower ho6 (below_size (by repeat (first | (with_reducible first | exact HB.out | apply below_alloc | apply pw_below_drewN | apply below_drew1 | refine below_set ?_ GE186.out) | exact HB.out)))); have n1_ := Aside0.mk (blk_below (g := gb186) (o := .cells #[.int .i64 a0_0, .int .i64 a0_1, .int .i64 a0_2, .int .i64 a0_3, .int .i64 a0_4] 23 (0, 0)) (by (with_reducible repeat (first | refine blk_drewN ?_ _ | refine blk_drew ?_ | refine blk_alloc ?_ _)); exact BK186.out) hb); have n2_ := Aside0.mk (below_step (by repeat (first | (with_reducible first | exact HB.out | apply below_alloc | apply pw_below_drewN | apply below_drew1 | refine below_set ?_ GE186.out) | exact HB.out)) hb); clear BK186; clear HB; have HO189 := n0_; have BK186 := n1_; have HB := n2_; clear n0_ n1_ n2_; clear hb ho6))
  go_loopg [7, 8] k (fun kq v7 v8 w' => ∃ (x7_1 : List Int) (x8_1 : Int), v8 = .int .i64 x8_1 ∧ Aside0 (smaltoref03_Bar.l0 kq l1 l2 x7_1 x8_1 a0_0 a0_1 a0_2 a0_3 a0_4 = some r) ∧ Aside0 (kq ≤ k) ∧ Aside0 (Kd.R (Kd.int .i64) 3 w' w.heap.size (fun _ => True) v7 x7_1) ∧ Aside0 (w'.heap[gb186]? = some (.cells #[.int .i64 a0_0, .int .i64 a0_1, .int .i64 a0_2, .int .i64 a0_3, .int .i64 a0_4] 23 (0, 0))) ∧ Aside0 (Below w.heap.size w w'))
  case atStart => exact ⟨(y187), (1), (by first | rfl | (simp; done) | (simp [*]; done)), H', ⟨Nat.le_refl _⟩, ⟨by (with_reducible repeat (first | apply Kd.R_alloc | apply Kd.R_drewN | apply Kd.R_drew)); exact HO189.out⟩, ⟨by (with_reducible repeat (first | refine blk_drewN ?_ _ | refine blk_drew ?_ | refine blk_alloc ?_ _)); exact BK186.out⟩, ⟨by repeat (first | (with_reducible first | exact HB.out | apply below_alloc | apply pw_below_drewN | apply below_drew1 | refine below_set ?_ GE186.out) | exact HB.out)⟩⟩
  case round =>
    clear H'
    try clear c1
    try clear c2
    try clear p2
    obtain ⟨x7_1, x8_1, rfl, HA, HK1, HO_7, BK186, HB⟩ := hrel
    cases gk with
    | zero => exact absurd HA.out (by simp [smaltoref03_Bar.l0])
    | succ k1 =>
      have H := HA.out
      clear HA
      simp only [smaltoref03_Bar.l0] at H
      obtain ⟨ji7, hji7⟩ : ∃ j_ : Int, (IntKind.u64.wrap ((l2.length : Int))) = j_ := ⟨_, rfl⟩
      replace H : (if 0 ≤ (ji7) then (if x8_1 < (shl .i64 1 (ji7)) then ((smaltoref03_Numbers.f k1 l2 x8_1).bind fun t190 => (if (x7_1.length : Int) > 0 then ((smaltoref03_Few.f k1 t190 x7_1).bind fun t193 => (smaltoref03_Bar.j1 k1 l1 l2 x7_1 x8_1 t190 (!t193) a0_0 a0_1 a0_2 a0_3 a0_4)) else (smaltoref03_Bar.j1 k1 l1 l2 x7_1 x8_1 t190 false a0_0 a0_1 a0_2 a0_3 a0_4))) else (some x7_1)) else (none)) = some r := by first | (rw [hji7] at H; exact H) | (simp only [hji7] at H ⊢; exact H)
      by_cases c8 : 0 ≤ (ji7)
      · rw [if_pos c8] at H
        have c8b0 := eq_true c8
        have c8b1 : decide (0 ≤ (ji7)) = true := decide_eq_true c8
        clear c8
        obtain ⟨ji9, hji9⟩ : ∃ j_ : Int, (shl .i64 1 (ji7)) = j_ := ⟨_, rfl⟩
        replace H : (if x8_1 < (ji9) then ((smaltoref03_Numbers.f k1 l2 x8_1).bind fun t190 => (if (x7_1.length : Int) > 0 then ((smaltoref03_Few.f k1 t190 x7_1).bind fun t193 => (smaltoref03_Bar.j1 k1 l1 l2 x7_1 x8_1 t190 (!t193) a0_0 a0_1 a0_2 a0_3 a0_4)) else (smaltoref03_Bar.j1 k1 l1 l2 x7_1 x8_1 t190 false a0_0 a0_1 a0_2 a0_3 a0_4))) else (some x7_1)) = some r := by first | (rw [hji9] at H; exact H) | (simp only [hji9] at H ⊢; exact H)
        have hji9_ : (IntKind.i64.wrap (1 * 2 ^ min (ji7).toNat 64)) = ji9 := hji9
        have hji9z : (ji7) ≤ 64 → (IntKind.i64.wrap (1 * 2 ^ (ji7).toNat)) = ji9 := shl_small hji9
        have hji9u : (IntKind.i64.wrap (2 ^ min (ji7).toNat 64)) = ji9 := by have h_ := hji9_; rw [Int.one_mul] at h_; exact h_
        have hji9v : (ji7) ≤ 64 → (IntKind.i64.wrap (2 ^ (ji7).toNat)) = ji9 := fun hle_ => by have h_ := hji9z hle_; rw [Int.one_mul] at h_; exact h_
        have hji9y : (wrap64 (1 * 2 ^ min (ji7).toNat 64)) = ji9 := (i64_w _).symm.trans hji9_
        have hji9x : (ji7) ≤ 64 → (wrap64 (1 * 2 ^ (ji7).toNat)) = ji9 := fun h_ => (i64_w _).symm.trans (hji9z h_)
        by_cases c10 : x8_1 < (ji9)
        · rw [if_pos c10] at H
          have c10b0 : decide (x8_1 < (ji9)) = true := decide_eq_true c10
          clear c10
          replace H := Option.bind_eq_some_iff.mp H
          obtain ⟨t190, A110, H⟩ := H
          replace H : (if (x7_1.length : Int) > 0 then ((smaltoref03_Few.f k1 t190 x7_1).bind fun t193 => (smaltoref03_Bar.j1 k1 l1 l2 x7_1 x8_1 t190 (!t193) a0_0 a0_1 a0_2 a0_3 a0_4)) else (smaltoref03_Bar.j1 k1 l1 l2 x7_1 x8_1 t190 false a0_0 a0_1 a0_2 a0_3 a0_4)) = some r := H
          have A11 := Aside0.mk A110
          clear A110
          have HC12 := Aside0.mk H
          clear H
          go_upto_region 6 with (first | ((with_reducible refine gate_callee (f := 71) rfl ?_); refine goesL_ (some 23) rfl rfl Tryd.func71 (by kernel_rfl) rfl #[.slice A2 l2.length c2, .int .i64 x8_1] rfl (by (try simp only [List.map_toArray, List.map_cons, List.map_nil]); first | done | rfl | (simp only [List.length_drop, List.length_take]; rfl)) ?_; (with_reducible refine (smaltoref03_Numbers.calls k1 _ _ l2 x8_1 t190 _ ?side1 ?side2 A11.out).mono ?_); (case side1 => repeat (first | exact (Kd.C_below HR2.out HB.out) | (with_reducible refine Kd.C_alloc ?_ _) | (with_reducible refine Kd.C_drewN ?_ _) | (with_reducible refine Kd.C_drew ?_))); (case side2 => exact HC2.out); rintro e w13 ⟨v191, rfl, ho0, hb⟩; refine ⟨_, rfl, ?_⟩; have n0_ := Aside0.mk (Kd.R_elder' (by (with_reducible repeat (first | apply Kd.R_alloc | apply Kd.R_drewN | apply Kd.R_drew)); exact HO_7.out) (Kd.R_base ho0) hb); have n1_ := Aside0.mk (Kd.R_lower (Kd.R_new' ho0 (Kd.R_lt (by (with_reducible repeat (first | apply Kd.R_alloc | apply Kd.R_drewN | apply Kd.R_drew)); exact HO_7.out))) (below_size (by repeat (first | (with_reducible first | exact HB.out | apply below_alloc | apply pw_below_drewN | apply below_drew1 | refine below_set ?_ GE186.out) | exact HB.out)))); have n2_ := Aside0.mk (blk_below (g := gb186) (o := .cells #[.int .i64 a0_0, .int .i64 a0_1, .int .i64 a0_2, .int .i64 a0_3, .int .i64 a0_4] 23 (0, 0)) (by (with_reducible repeat (first | refine blk_drewN ?_ _ | refine blk_drew ?_ | refine blk_alloc ?_ _)); exact BK186.out) hb); have n3_ := Aside0.mk (below_step (by repeat (first | (with_reducible first | exact HB.out | apply below_alloc | apply pw_below_drewN | apply below_drew1 | refine below_set ?_ GE186.out) | exact HB.out)) hb); clear HO_7; clear BK186; clear HB; have HO_7 := n0_; have HO192 := n1_; have BK186 := n2_; have HB := n3_; clear n0_ n1_ n2_ n3_; (try clear hb); (try clear hb2); (try clear hk); (try clear hi); (try clear ho0)))
          (try simp only [Act.put, List.setIfInBounds_toArray, List.set_cons_zero, List.set_cons_succ])
          go_cut [32] (fun v32 wc => ∃ (kq : Nat) (x32_11 : Bool), v32 = .bool x32_11 ∧ Aside0 (smaltoref03_Bar.j1 kq l1 l2 x7_1 x8_1 t190 x32_11 a0_0 a0_1 a0_2 a0_3 a0_4 = some r) ∧ Aside0 (kq ≤ k1) ∧ Aside0 (Kd.R (Kd.int .i64) 3 wc w.heap.size (fun k_ => some k_ ≠ (v191 : Value).ownBlock) u7 x7_1) ∧ Aside0 (Kd.R (Kd.int .i64) 3 wc w.heap.size (fun k_ => some k_ ≠ (u7 : Value).ownBlock) v191 t190) ∧ Aside0 (wc.heap[gb186]? = some (.cells #[.int .i64 a0_0, .int .i64 a0_1, .int .i64 a0_2, .int .i64 a0_3, .int .i64 a0_4] 23 (0, 0))) ∧ Aside0 (Below w.heap.size w wc))
          case first =>
            have H := HC12.out
            clear HC12
            by_cases c14 : (x7_1.length : Int) > 0
            · rw [if_pos c14] at H
              have c14b0 : decide (0 < (x7_1.length : Int)) = true := decide_eq_true c14
              have c14b1 : decide (0 < x7_1.length) = true := decide_eq_true (by omega)
              clear c14
              (first | rw [c14b0] | (simp only [i64_w, i32_w]; rw [c14b0]) | skip)
              replace H := Option.bind_eq_some_iff.mp H
              obtain ⟨t193, A150, H⟩ := H
              replace H : (smaltoref03_Bar.j1 k1 l1 l2 x7_1 x8_1 t190 (!t193) a0_0 a0_1 a0_2 a0_3 a0_4) = some r := H
              have A15 := Aside0.mk A150
              clear A150
              have H' := Aside0.mk H
              clear H
              obtain ⟨Ao16, co16, eo16⟩ := Kd.R_slice HO_7.out
              subst eo16
              obtain ⟨Ao17, co17, eo17⟩ := Kd.R_slice HO192.out
              subst eo17
              go_wp2_with (first | (go_at_call 72; (with_reducible refine (smaltoref03_Few.calls k1 _ _ t190 _ _ x7_1 t193 _ ?side1 ?side2 ?side3 ?side4 A15.out).mono ?_); (case side1 => repeat (first | exact (Kd.R_reads' HO192.out).2.2 | (with_reducible refine Kd.C_alloc ?_ _) | (with_reducible refine Kd.C_drewN ?_ _) | (with_reducible refine Kd.C_drew ?_))); (case side2 => exact (Kd.R_reads' HO192.out).2.1); (case side3 => repeat (first | exact (Kd.R_reads' HO_7.out).2.2 | (with_reducible refine Kd.C_alloc ?_ _) | (with_reducible refine Kd.C_drewN ?_ _) | (with_reducible refine Kd.C_drew ?_))); (case side4 => exact (Kd.R_reads' HO_7.out).2.1); rintro e w' ⟨rfl, ⟨nd, rfl⟩⟩))
              go_meet
              case rel => exact ⟨_, (!t193), (by first | rfl | (simp; done) | (simp [*]; done)), H', ⟨by have := HK1.out; first | omega | exact Nat.le_refl _⟩, ⟨by (with_reducible repeat (first | apply Kd.R_alloc | apply Kd.R_drewN | apply Kd.R_drew)); exact Kd.R_mono HO_7.out (fun _ hk => hk.2)⟩, ⟨by (with_reducible repeat (first | apply Kd.R_alloc | apply Kd.R_drewN | apply Kd.R_drew)); exact Kd.R_mono HO192.out (fun _ hk => hk.2)⟩, ⟨by (with_reducible repeat (first | refine blk_drewN ?_ _ | refine blk_drew ?_ | refine blk_alloc ?_ _)); exact BK186.out⟩, ⟨by repeat (first | (with_reducible first | exact HB.out | apply below_alloc | apply pw_below_drewN | apply below_drew1 | refine below_set ?_ GE186.out) | exact HB.out)⟩⟩
            · rw [if_neg c14] at H
              have c14b0 : decide (0 < (x7_1.length : Int)) = false := decide_eq_false c14
              have c14b1 : decide (0 < x7_1.length) = false := decide_eq_false (by omega)
              clear c14
              (first | rw [c14b0] | (simp only [i64_w, i32_w]; rw [c14b0]) | skip)
              have H' := Aside0.mk H
              clear H
              obtain ⟨Ao18, co18, eo18⟩ := Kd.R_slice HO_7.out
              subst eo18
              go_wp2
              go_meet
              case rel => exact ⟨_, (false), (by first | rfl | (simp; done) | (simp [*]; done)), H', ⟨by have := HK1.out; first | omega | exact Nat.le_refl _⟩, ⟨by (with_reducible repeat (first | apply Kd.R_alloc | apply Kd.R_drewN | apply Kd.R_drew)); exact Kd.R_mono HO_7.out (fun _ hk => hk.2)⟩, ⟨by (with_reducible repeat (first | apply Kd.R_alloc | apply Kd.R_drewN | apply Kd.R_drew)); exact Kd.R_mono HO192.out (fun _ hk => hk.2)⟩, ⟨by (with_reducible repeat (first | refine blk_drewN ?_ _ | refine blk_drew ?_ | refine blk_alloc ?_ _)); exact BK186.out⟩, ⟨by repeat (first | (with_reducible first | exact HB.out | apply below_alloc | apply pw_below_drewN | apply below_drew1 | refine below_set ?_ GE186.out) | exact HB.out)⟩⟩
          case rest =>
            clear HC12
            try clear c1
            try clear c2
            try clear p2
            try clear p6
            try clear c7
            try clear c8
            try clear c8b0
            try clear c8b1
            try clear c10
            try clear c10b0
            try clear c14
            try clear c14b0
            try clear c14b1
            try clear p2
            obtain ⟨kq, x32_11, rfl, HA, HJ11, HO_7, HO_9, BK186, HB⟩ := hcut
            cases kq with
            | zero => exact absurd HA.out (by simp [smaltoref03_Bar.j1])
            | succ kj11 =>
              have H := HA.out
              clear HA
              simp only [smaltoref03_Bar.j1] at H
              by_cases c19 : x32_11 = true
              · subst c19
                have H1 : (smaltoref03_Bar.l0 kj11 l1 l2 x7_1 (wrap64 (x8_1 + 1)) a0_0 a0_1 a0_2 a0_3 a0_4) = some r := by rw [if_pos rfl] at H; exact H
                clear H
                have H := H1
                clear H1
                have H' := Aside0.mk H
                clear H
                go_wp2
                go_roundg kj11
                case measure => have := HK1.out; have := HJ11.out; omega
                case rel => exact ⟨(x7_1), (wrap64 (x8_1 + 1)), (by first | rfl | (simp; done) | (simp [*]; done)), H', ⟨by have := HK1.out; have := HJ11.out; omega⟩, ⟨by (with_reducible repeat (first | apply Kd.R_alloc | apply Kd.R_drewN | apply Kd.R_drew)); exact Kd.R_mono HO_7.out (fun _ hk => trivial)⟩, ⟨by (with_reducible repeat (first | refine blk_drewN ?_ _ | refine blk_drew ?_ | refine blk_alloc ?_ _)); exact BK186.out⟩, ⟨by repeat (first | (with_reducible first | exact HB.out | apply below_alloc | apply pw_below_drewN | apply below_drew1 | refine below_set ?_ GE186.out) | exact HB.out)⟩⟩
              · replace c19 := Bool.eq_false_iff.mpr c19
                subst c19
                have H1 : ((smaltoref03_Goes.f kj11 a0_0 a0_1 a0_2 a0_3 a0_4 l1 t190).bind fun bt194 => (if bt194.1 = true then (smaltoref03_Bar.l0 kj11 l1 l2 x7_1 (wrap64 (x8_1 + 1)) a0_0 a0_1 a0_2 a0_3 a0_4) else (smaltoref03_Bar.l0 kj11 l1 l2 t190 (wrap64 (x8_1 + 1)) a0_0 a0_1 a0_2 a0_3 a0_4))) = some r := by rw [if_neg (show ¬ (false = true) by decide)] at H; exact H
                clear H
                have H := H1
                clear H1
                replace H := Option.bind_eq_some_iff.mp H
                obtain ⟨⟨t194, t195⟩, A200, H⟩ := H
                replace H : (if t194 = true then (smaltoref03_Bar.l0 kj11 l1 l2 x7_1 (wrap64 (x8_1 + 1)) a0_0 a0_1 a0_2 a0_3 a0_4) else (smaltoref03_Bar.l0 kj11 l1 l2 t190 (wrap64 (x8_1 + 1)) a0_0 a0_1 a0_2 a0_3 a0_4)) = some r := H
                have A20 := Aside0.mk A200
                clear A200
                by_cases c21 : t194 = true
                · subst c21
                  have H1 : (smaltoref03_Bar.l0 kj11 l1 l2 x7_1 (wrap64 (x8_1 + 1)) a0_0 a0_1 a0_2 a0_3 a0_4) = some r := by rw [if_pos rfl] at H; exact H
                  clear H
                  have H := H1
                  clear H1
                  have H' := Aside0.mk H
                  clear H
                  have hcz22_0 : wc.cell? ⟨gb186, 0, none⟩ = some (.int .i64 a0_0) := (blk_cell BK186.out 0).trans rfl
                  have hcz22_1 : wc.cell? ⟨gb186, 1, none⟩ = some (.int .i64 a0_1) := (blk_cell BK186.out 1).trans rfl
                  have hcz22_2 : wc.cell? ⟨gb186, 2, none⟩ = some (.int .i64 a0_2) := (blk_cell BK186.out 2).trans rfl
                  have hcz22_3 : wc.cell? ⟨gb186, 3, none⟩ = some (.int .i64 a0_3) := (blk_cell BK186.out 3).trans rfl
                  have hcz22_4 : wc.cell? ⟨gb186, 4, none⟩ = some (.int .i64 a0_4) := (blk_cell BK186.out 4).trans rfl
                  have hfz22_0 := blk_frozen BK186.out 0
                  have hfz22_1 := blk_frozen BK186.out 1
                  have hfz22_2 := blk_frozen BK186.out 2
                  have hfz22_3 := blk_frozen BK186.out 3
                  have hfz22_4 := blk_frozen BK186.out 4
                  obtain ⟨Ao23, co23, eo23⟩ := Kd.R_slice HO_9.out
                  subst eo23
                  go_wp2_with (first | ((with_reducible refine gate_callee (f := 24) rfl ?_); refine goesL_ (some 37) rfl rfl Tryd.func24 (by kernel_rfl) rfl #[.agg #[.int .i64 a0_0, .int .i64 a0_1, .int .i64 a0_2, .int .i64 a0_3, .int .i64 a0_4], .slice A1 l1.length c1, .slice Ao23 t190.length co23] rfl (by (try simp only [List.map_toArray, List.map_cons, List.map_nil]); first | done | rfl | (simp only [List.length_drop, List.length_take]; rfl)) ?_; (with_reducible refine (smaltoref03_Goes.calls kj11 a0_0 a0_1 a0_2 a0_3 a0_4 _ _ l1 _ _ t190 true t195 _ ?side1 ?side2 ?side3 ?side4 A20.out).mono ?_); (case side1 => repeat (first | exact (Kd.C_below HR1.out HB.out) | (with_reducible refine Kd.C_alloc ?_ _) | (with_reducible refine Kd.C_drewN ?_ _) | (with_reducible refine Kd.C_drew ?_))); (case side2 => exact HC1.out); (case side3 => repeat (first | exact (Kd.R_reads' HO_9.out).2.2 | (with_reducible refine Kd.C_alloc ?_ _) | (with_reducible refine Kd.C_drewN ?_ _) | (with_reducible refine Kd.C_drew ?_))); (case side4 => exact (Kd.R_reads' HO_9.out).2.1); rintro e w24 ⟨rfl, hb⟩; refine ⟨_, rfl, ?_⟩; have n0_ := Aside0.mk (Kd.R_below (by (with_reducible repeat (first | apply Kd.R_alloc | apply Kd.R_drewN | apply Kd.R_drew)); exact HO_7.out) hb); have n1_ := Aside0.mk (Kd.R_below (by (with_reducible repeat (first | apply Kd.R_alloc | apply Kd.R_drewN | apply Kd.R_drew)); exact HO_9.out) hb); have n2_ := Aside0.mk (blk_below (g := gb186) (o := .cells #[.int .i64 a0_0, .int .i64 a0_1, .int .i64 a0_2, .int .i64 a0_3, .int .i64 a0_4] 23 (0, 0)) (by (with_reducible repeat (first | refine blk_drewN ?_ _ | refine blk_drew ?_ | refine blk_alloc ?_ _)); exact BK186.out) hb); have n3_ := Aside0.mk (below_step (by repeat (first | (with_reducible first | exact HB.out | apply below_alloc | apply pw_below_drewN | apply below_drew1 | refine below_set ?_ GE186.out) | exact HB.out)) hb); clear HO_7; clear HO_9; clear BK186; clear HB; have HO_7 := n0_; have HO_9 := n1_; have BK186 := n2_; have HB := n3_; clear n0_ n1_ n2_ n3_; (try clear hb); (try clear hb2); (try clear hk); (try clear hi)))
                  go_roundg kj11
                  case measure => have := HK1.out; have := HJ11.out; omega
                  case rel => exact ⟨(x7_1), (wrap64 (x8_1 + 1)), (by first | rfl | (simp; done) | (simp [*]; done)), H', ⟨by have := HK1.out; have := HJ11.out; omega⟩, ⟨by (with_reducible repeat (first | apply Kd.R_alloc | apply Kd.R_drewN | apply Kd.R_drew)); exact Kd.R_mono HO_7.out (fun _ hk => trivial)⟩, ⟨by (with_reducible repeat (first | refine blk_drewN ?_ _ | refine blk_drew ?_ | refine blk_alloc ?_ _)); exact BK186.out⟩, ⟨by repeat (first | (with_reducible first | exact HB.out | apply below_alloc | apply pw_below_drewN | apply below_drew1 | refine below_set ?_ GE186.out) | exact HB.out)⟩⟩
                · replace c21 := Bool.eq_false_iff.mpr c21
                  subst c21
                  have H1 : (smaltoref03_Bar.l0 kj11 l1 l2 t190 (wrap64 (x8_1 + 1)) a0_0 a0_1 a0_2 a0_3 a0_4) = some r := by rw [if_neg (show ¬ (false = true) by decide)] at H; exact H
                  clear H
                  have H := H1
                  clear H1
                  have H' := Aside0.mk H
                  clear H
                  have hcz25_0 : wc.cell? ⟨gb186, 0, none⟩ = some (.int .i64 a0_0) := (blk_cell BK186.out 0).trans rfl
                  have hcz25_1 : wc.cell? ⟨gb186, 1, none⟩ = some (.int .i64 a0_1) := (blk_cell BK186.out 1).trans rfl
                  have hcz25_2 : wc.cell? ⟨gb186, 2, none⟩ = some (.int .i64 a0_2) := (blk_cell BK186.out 2).trans rfl
                  have hcz25_3 : wc.cell? ⟨gb186, 3, none⟩ = some (.int .i64 a0_3) := (blk_cell BK186.out 3).trans rfl
                  have hcz25_4 : wc.cell? ⟨gb186, 4, none⟩ = some (.int .i64 a0_4) := (blk_cell BK186.out 4).trans rfl
                  have hfz25_0 := blk_frozen BK186.out 0
                  have hfz25_1 := blk_frozen BK186.out 1
                  have hfz25_2 := blk_frozen BK186.out 2
                  have hfz25_3 := blk_frozen BK186.out 3
                  have hfz25_4 := blk_frozen BK186.out 4
                  obtain ⟨Ao26, co26, eo26⟩ := Kd.R_slice HO_9.out
                  subst eo26
                  go_wp2_with (first | ((with_reducible refine gate_callee (f := 24) rfl ?_); refine goesL_ (some 37) rfl rfl Tryd.func24 (by kernel_rfl) rfl #[.agg #[.int .i64 a0_0, .int .i64 a0_1, .int .i64 a0_2, .int .i64 a0_3, .int .i64 a0_4], .slice A1 l1.length c1, .slice Ao26 t190.length co26] rfl (by (try simp only [List.map_toArray, List.map_cons, List.map_nil]); first | done | rfl | (simp only [List.length_drop, List.length_take]; rfl)) ?_; (with_reducible refine (smaltoref03_Goes.calls kj11 a0_0 a0_1 a0_2 a0_3 a0_4 _ _ l1 _ _ t190 false t195 _ ?side1 ?side2 ?side3 ?side4 A20.out).mono ?_); (case side1 => repeat (first | exact (Kd.C_below HR1.out HB.out) | (with_reducible refine Kd.C_alloc ?_ _) | (with_reducible refine Kd.C_drewN ?_ _) | (with_reducible refine Kd.C_drew ?_))); (case side2 => exact HC1.out); (case side3 => repeat (first | exact (Kd.R_reads' HO_9.out).2.2 | (with_reducible refine Kd.C_alloc ?_ _) | (with_reducible refine Kd.C_drewN ?_ _) | (with_reducible refine Kd.C_drew ?_))); (case side4 => exact (Kd.R_reads' HO_9.out).2.1); rintro e w27 ⟨rfl, hb⟩; refine ⟨_, rfl, ?_⟩; have n0_ := Aside0.mk (Kd.R_below (by (with_reducible repeat (first | apply Kd.R_alloc | apply Kd.R_drewN | apply Kd.R_drew)); exact HO_7.out) hb); have n1_ := Aside0.mk (Kd.R_below (by (with_reducible repeat (first | apply Kd.R_alloc | apply Kd.R_drewN | apply Kd.R_drew)); exact HO_9.out) hb); have n2_ := Aside0.mk (blk_below (g := gb186) (o := .cells #[.int .i64 a0_0, .int .i64 a0_1, .int .i64 a0_2, .int .i64 a0_3, .int .i64 a0_4] 23 (0, 0)) (by (with_reducible repeat (first | refine blk_drewN ?_ _ | refine blk_drew ?_ | refine blk_alloc ?_ _)); exact BK186.out) hb); have n3_ := Aside0.mk (below_step (by repeat (first | (with_reducible first | exact HB.out | apply below_alloc | apply pw_below_drewN | apply below_drew1 | refine below_set ?_ GE186.out) | exact HB.out)) hb); clear HO_7; clear HO_9; clear BK186; clear HB; have HO_7 := n0_; have HO_9 := n1_; have BK186 := n2_; have HB := n3_; clear n0_ n1_ n2_ n3_; (try clear hb); (try clear hb2); (try clear hk); (try clear hi)))
                  go_roundg kj11
                  case measure => have := HK1.out; have := HJ11.out; omega
                  case rel => exact ⟨(t190), (wrap64 (x8_1 + 1)), (by first | rfl | (simp; done) | (simp [*]; done)), H', ⟨by have := HK1.out; have := HJ11.out; omega⟩, ⟨by (with_reducible repeat (first | apply Kd.R_alloc | apply Kd.R_drewN | apply Kd.R_drew)); exact Kd.R_mono HO_9.out (fun _ hk => trivial)⟩, ⟨by (with_reducible repeat (first | refine blk_drewN ?_ _ | refine blk_drew ?_ | refine blk_alloc ?_ _)); exact BK186.out⟩, ⟨by repeat (first | (with_reducible first | exact HB.out | apply below_alloc | apply pw_below_drewN | apply below_drew1 | refine below_set ?_ GE186.out) | exact HB.out)⟩⟩
        · rw [if_neg c10] at H
          have c10b0 : decide (x8_1 < (ji9)) = false := decide_eq_false c10
          clear c10
          obtain rfl := Option.some.inj H
          go_wp2
          go_ret
          exact ⟨_, by first | rfl | (simp [errW_none, errW_some] <;> rfl) | (simp only [← hji7, ← hji9]; first | rfl | (simp [errW_none, errW_some] <;> rfl)) | (simp [*, errW_none, errW_some] <;> rfl), by (with_reducible repeat (first | apply Kd.R_alloc | apply Kd.R_drewN | apply Kd.R_drew)); exact HO_7.out, by repeat (first | (with_reducible first | exact HB.out | apply below_alloc | apply pw_below_drewN | apply below_drew1 | refine below_set ?_ GE186.out) | exact HB.out)⟩
      · rw [if_neg c8] at H
        exact absurd H (by simp)
end Go.Proofs.YtbijamlgcebgeaaDoor.Q

-- part KA
namespace Go.Proofs.YtbijamlgcebgeaaDoor.Hand
open Go.RowKit Go.Shelf Go.Sort Go.Proofs.YtbijamlgcebgeaaDoorW.PrintWords Go.Proofs.YtbijamlgcebgeaaDoorW.PrintMore Go.Proofs.YtbijamlgcebgeaaDoor.Q
/-- A set goes, in the reference as in the program. -/
theorem goes_set {F : Furn} (hF : F.Ok) {t : Nat} (hi : ∀ i ∈ bitsOf t, i < F.l.length) (k : Nat) (hk : 100 ≤ k) :
    ∃ r2, smaltoref03_Goes.f k F.bars F.length F.gap F.load F.near F.l (ilist t) = some (goesB F t, r2) := by
  have hls : (bitsOf t).map Int.ofNat = ilist t := rfl
  obtain ⟨X, hX⟩ := bars_facts hF hls hi (load_short hls)
  have hheat := heat_same (l := F.l) hls
  have hnear : refNearK F.l (ilist t) F.near (ilist t).length = alikeB F.l F.near t := near_same hF.near.1 (fun x hx => (hF.signs x hx).2.1) hls hi
  have hw := weight_same (l := F.l) hls
  have hv : goesV F.l (ilist t) = true := by
    unfold goesV
    simp only [Bool.and_eq_true, decide_eq_true_eq, List.all_eq_true, List.mem_range]
    exact ⟨⟨by have := load_short hls; omega, load_in hls hi⟩, fun x hx => ⟨(hF.signs x hx).2.1, (hF.signs x hx).2.2.1⟩⟩
  have key : ∀ (r1 : List Int) (r2 : Bool), smaltoref03_Bars.f 100 F.bars F.length F.gap F.load F.near F.l (ilist t) [] = some (r1, r2) → (optL (barsB F (bitsOf t) F.empty)).2 = r2 → ∃ q, smaltoref03_Goes.f k F.bars F.length F.gap F.load F.near F.l (ilist t) = some (goesB F t, q) := by
    intro r1 r2 h1 h2
    refine ⟨(refGoesR F.load F.near F.l (ilist t) r2).2, at_rounds (g := fun k => smaltoref03_Goes.f k F.bars F.length F.gap F.load F.near F.l (ilist t)) (smaltoref03_Goes.mono _ _ _ _ _ _ _) hk ?_⟩
    show smaltoref03_Goes.f 100 F.bars F.length F.gap F.load F.near F.l (ilist t) = _
    unfold smaltoref03_Goes.f
    rw [if_pos hv, h1]
    simp only [Option.bind_some, Option.some.injEq]
    refine Prod.ext ?_ rfl
    show (refGoesR F.load F.near F.l (ilist t) r2).1 = goesB F t
    unfold goesB highW fitsB refGoesR refHeatR
    rw [h2, hheat, hnear, hw]
    show _ = (decide (sumB (fun x => x.f2.f1) F.l (bitsOf t) ≤ F.load) && (!(decide ((heatB F.l (bitsOf t)).2 < (heatB F.l (bitsOf t)).1) || !alikeB F.l F.near t) && r2))
    by_cases h2 : (heatB F.l (bitsOf t)).2 < (heatB F.l (bitsOf t)).1
    · rw [if_pos h2]
      cases alikeB F.l F.near t <;> simp [h2]
    · rw [if_neg h2]
      cases alikeB F.l F.near t <;> cases r2 <;> simp [h2]
      intro _; omega
  cases hq : barsB F (bitsOf t) F.empty with
  | none => rw [hq] at hX; exact key _ _ hX (by rw [hq]; rfl)
  | some m => rw [hq] at hX; exact key _ _ hX (by rw [hq]; rfl)
theorem bit_is : ∀ s : Nat, s < 64 → ∀ i : Nat, i < 6 → (Go.bits .and .i64 (shr .i64 (s : Int) (IntKind.u64.wrap (i : Int))) 1 = 1 ↔ s.testBit i = true) ∧ 0 ≤ IntKind.u64.wrap (i : Int) := by decide +kernel
/-- The elements of a list that a set names. -/
def pickL (l : List Int) (s : Nat) : List Int := ((List.range l.length).filter fun i => s.testBit i).map fun (i : Nat) => rd l i
theorem Numbers_l0 (l : List Int) (hl : l.length ≤ 6) (s : Nat) (hs : s < 64) : ∀ (n i k : Nat) (acc : List Int), i + n = l.length → n < k → acc.length ≤ i → smaltoref03_Numbers.l0 k l s acc i = some (acc ++ ((List.range' i n).filter fun i => s.testBit i).map fun (i : Nat) => rd l i) := by
  intro n
  induction n with
  | zero =>
    intro i k acc h hk ha
    obtain ⟨k, rfl⟩ : ∃ j, k = j + 1 := ⟨k - 1, by omega⟩
    unfold smaltoref03_Numbers.l0
    rw [if_neg (by omega)]
    simp
  | succ n ih =>
    intro i k acc h hk ha
    obtain ⟨k, rfl⟩ : ∃ j, k = j + 1 := ⟨k - 1, by omega⟩
    obtain ⟨hb, hw⟩ := bit_is s hs i (by omega)
    unfold smaltoref03_Numbers.l0
    rw [if_pos (by omega), if_pos hw, w64 (by omega), List.range'_succ, List.filter_cons]
    by_cases ht : s.testBit i = true
    · rw [if_pos (hb.2 ht), if_pos (by omega), if_pos (by omega), if_pos ht]
      have := ih (i + 1) k (acc ++ [rd l i]) (by omega) (by omega) (by simp; omega)
      rw [show ((i + 1 : Nat) : Int) = (i : Int) + 1 by omega] at this
      rw [this]
      simp
    · rw [if_neg (fun h => ht (hb.1 h)), if_neg ht]
      have := ih (i + 1) k acc (by omega) (by omega) (by omega)
      rw [show ((i + 1 : Nat) : Int) = (i : Int) + 1 by omega] at this
      exact this
theorem Numbers_eq (l : List Int) (hl : l.length ≤ 6) (s : Nat) (hs : s < 64) (k : Nat) (hk : 7 ≤ k) : smaltoref03_Numbers.f k l s = some (pickL l s) := by
  unfold smaltoref03_Numbers.f
  have := Numbers_l0 l hl s hs l.length 0 k [] (by omega) (by omega) (by simp)
  simp only [show ((0 : Nat) : Int) = 0 from rfl] at this
  rw [this]
  simp [pickL, List.range_eq_range']
/-- The numbers of all signs. -/
def allL (n : Nat) : List Int := (List.range n).map Int.ofNat
theorem pick_all (n : Nat) (hn : n ≤ 6) (s : Nat) (hs : s < 2 ^ n) : pickL (allL n) s = ilist s := by
  have hb := bitsOf_below hs
  unfold pickL ilist allL
  rw [List.length_map, List.length_range]
  have h1 : (List.range n).filter (fun i => s.testBit i) = bitsOf s := by
    unfold bitsOf
    have h6 : List.range 6 = List.range n ++ List.range' n (6 - n) := by
      rw [List.range_eq_range', List.range_eq_range', show (6 : Nat) = n + (6 - n) by omega, ← List.range'_append_1]
      simp
    rw [h6, List.filter_append]
    have h7 : (List.range' n (6 - n)).filter (fun i => s.testBit i) = [] := by
      rw [List.filter_eq_nil_iff]
      intro i hi
      rw [List.mem_range'_1] at hi
      intro ht
      have := hb i (mem_bitsOf.2 ⟨by omega, ht⟩)
      omega
    rw [h7, List.append_nil]
  rw [h1]
  apply List.map_congr_left
  intro i hi
  rw [rd_get (by simpa using hb i hi)]
  simp
/-- How lists are ordered. -/
def ordI : List Int → List Int → Int
  | x :: xs, y :: ys => if x = y then ordI xs ys else x - y
  | xs, ys => (xs.length : Int) - ys.length
theorem ordI_end (xs ys : List Int) (h : xs = [] ∨ ys = []) : ordI xs ys = (xs.length : Int) - ys.length := by
  cases xs with
  | nil => rfl
  | cons x xs => cases ys with
    | nil => rfl
    | cons y ys => rcases h with h | h <;> cases h
theorem Order_gen (a b : List Int) (ha : a.length ≤ 1000) (hb : b.length ≤ 1000) (ha2 : ∀ x ∈ a, -1000 ≤ x ∧ x ≤ 1000) (hb2 : ∀ x ∈ b, -1000 ≤ x ∧ x ≤ 1000) : ∀ n i k : Nat, i + n = a.length → i ≤ b.length → 2 * n + 1 < k → smaltoref03_Order.l0 k a b i = some (ordI (a.drop i) (b.drop i)) := by
  intro n
  induction n with
  | zero =>
    intro i k h hib hk
    obtain ⟨k, rfl⟩ : ∃ j, k = j + 2 := ⟨k - 2, by omega⟩
    rw [smaltoref03_Order.l0, if_neg (by omega), smaltoref03_Order.j1, if_neg (by simp), w64 (by omega), ordI_end _ _ (.inl (List.drop_eq_nil_of_le (by omega)))]
    rw [List.length_drop, List.length_drop]
    congr 1
    omega
  | succ n ih =>
    intro i k h hib hk
    obtain ⟨k, rfl⟩ : ∃ j, k = j + 2 := ⟨k - 2, by omega⟩
    have h1 : i < a.length := by omega
    rw [smaltoref03_Order.l0, if_pos (by omega), smaltoref03_Order.j1]
    by_cases h2 : i < b.length
    · rw [if_pos (by simp; omega), if_pos (by omega), if_pos (by omega), if_pos (by omega), List.drop_eq_getElem_cons h1, List.drop_eq_getElem_cons h2, ordI, rd_get h1, rd_get h2, w64 (x := (i : Int) + 1) (by omega)]
      have e1 := ha2 _ (List.getElem_mem h1)
      have e2 := hb2 _ (List.getElem_mem h2)
      rw [w64 (x := a[i] - b[i]) (by omega)]
      have := ih (i + 1) k (by omega) (by omega) (by omega)
      rw [show ((i + 1 : Nat) : Int) = (i : Int) + 1 by omega] at this
      rw [this]
      split <;> rfl
    · rw [if_neg (by simp; omega), w64 (by omega), ordI_end _ _ (.inr (List.drop_eq_nil_of_le (by omega)))]
      rw [List.length_drop, List.length_drop]
      congr 1
      omega
theorem Order_eq (a b : List Int) (ha : a.length ≤ 1000) (hb : b.length ≤ 1000) (ha2 : ∀ x ∈ a, -1000 ≤ x ∧ x ≤ 1000) (hb2 : ∀ x ∈ b, -1000 ≤ x ∧ x ≤ 1000) (k : Nat) (hk : 2 * a.length + 2 ≤ k) : smaltoref03_Order.f k a b = some (ordI a b) := by
  have := Order_gen a b ha hb ha2 hb2 a.length 0 k (by omega) (by omega) (by omega)
  simpa [smaltoref03_Order.f] using this
theorem ord_lex : ∀ a b : List Nat, a.length = b.length → (ordI (a.map Int.ofNat) (b.map Int.ofNat) < 0 ↔ lexLt a b = true)
  | [], [], _ => by simp [ordI, lexLt]
  | [], _ :: _, h => by simp at h
  | _ :: _, [], h => by simp at h
  | x :: a, y :: b, h => by
    simp only [List.map_cons, ordI, lexLt]
    by_cases hxy : x = y
    · rw [if_pos (by rw [hxy]), if_pos hxy]
      exact ord_lex a b (by simpa using h)
    · rw [if_neg (fun he => hxy (by simpa using Int.ofNat.inj he)), if_neg hxy]
      simp
      omega
theorem ilist_bd (s : Nat) : ∀ x ∈ ilist s, -1000 ≤ x ∧ x ≤ 1000 := by
  intro x hx
  obtain ⟨i, hi, rfl⟩ := List.mem_map.1 hx
  have := (mem_bitsOf.1 hi).1
  simp only [Int.ofNat_eq_natCast]
  omega
theorem ilist_len (s : Nat) : (ilist s).length = lenB s ∧ lenB s ≤ 6 := by
  refine ⟨by simp [ilist, lenB], ?_⟩
  unfold lenB bitsOf
  exact Nat.le_trans (List.length_filter_le _ _) (by simp)
theorem Order_set (s t : Nat) (k : Nat) (hk : 14 ≤ k) : ∃ o, smaltoref03_Order.f k (ilist s) (ilist t) = some o ∧ (lenB s = lenB t → (o < 0 ↔ lexLt (bitsOf s) (bitsOf t) = true)) := by
  have h1 := ilist_len s
  have h2 := ilist_len t
  exact ⟨_, Order_eq _ _ (by omega) (by omega) (ilist_bd s) (ilist_bd t) k (by omega), fun h => ord_lex _ _ h⟩
end Go.Proofs.YtbijamlgcebgeaaDoor.Hand

-- part QG
namespace Go.Proofs.YtbijamlgcebgeaaDoor.Q
open Go.RowKit Go.Proofs.YtbijamlgcebgeaaDoorW.PrintWords Go.Proofs.YtbijamlgcebgeaaDoorW.PrintLast Go.Proofs.YtbijamlgcebgeaaDoorW.PrintMore
attribute [local go_sem] max2_int min2_int max_two min_two max_three min_three max_four min_four
def smaltoref03_Has.l0 : Nat → List Int → Int → Int → Option (Bool)
  | 0, _, _, _ => none
  | k + 1, x0, x1, x5 => if x5 < (x0.length : Int) then (if 0 ≤ x5 then (if (rd x0 x5) = x1 then (some true) else (smaltoref03_Has.l0 k x0 x1 (wrap64 (x5 + 1)))) else (none)) else (some false)
def smaltoref03_Has.f (k : Nat) (l0 : List Int) (a1 : Int) : Option (Bool) := smaltoref03_Has.l0 k l0 a1 0
theorem smaltoref03_Has.mono_l : ∀ k, (∀ y0 y1 y2, LeO (smaltoref03_Has.l0 k y0 y1 y2) (smaltoref03_Has.l0 (k + 1) y0 y1 y2))
  | 0 => fun _ _ _ r h => by simp [smaltoref03_Has.l0] at h
  | k + 1 => by
    have ih0 := smaltoref03_Has.mono_l k
    · intro y0 y1 y2
      unfold smaltoref03_Has.l0
      repeat' first
      | (with_reducible exact ih0 _ _ _)
      | (with_reducible exact LeO.refl _)
      | (with_reducible exact LeO.none _)
      | (with_reducible refine LeO.ite ?_ ?_)
      | (with_reducible refine LeO.bind ?_ (fun _ => ?_))
      | exact ih0 _ _ _
      | exact LeO.none _
      | refine LeO.ite ?_ ?_
      | refine LeO.bind ?_ (fun _ => ?_)
theorem smaltoref03_Has.mono : ∀ a0 a1 k, LeO (smaltoref03_Has.f k a0 a1) (smaltoref03_Has.f (k + 1) a0 a1) := by
  intro a0 a1 k
  have ih0 := smaltoref03_Has.mono_l k
  unfold smaltoref03_Has.f
  repeat' first
      | (with_reducible exact ih0 _ _ _)
      | (with_reducible exact LeO.refl _)
      | (with_reducible exact LeO.none _)
      | (with_reducible refine LeO.ite ?_ ?_)
      | (with_reducible refine LeO.bind ?_ (fun _ => ?_))
      | exact ih0 _ _ _
      | exact LeO.none _
      | refine LeO.ite ?_ ?_
      | refine LeO.bind ?_ (fun _ => ?_)
set_option maxHeartbeats 8000000 in
set_option maxRecDepth 100000 in
theorem smaltoref03_Has.calls (k : Nat) (A0 : Option Addr) (c0 : Nat) (l0 : List Int) (a1 : Int) (r : Bool) (w : World) (hr0 : Kd.C (Kd.int .i64) w A0 l0.length l0) (hc0 : l0.length ≤ c0) (h : smaltoref03_Has.f k l0 a1 = some r) :
    Calls Tryd.prog 73 #[.slice A0 l0.length c0, .int .i64 a1] w fun e w' => e = .returned (.bool r) ∧ Drawn0 w w' := by
  have HR0 := Aside0.mk hr0
  have HC0 := Aside0.mk hc0
  clear hr0 hc0
  have H : (smaltoref03_Has.l0 k l0 a1 0) = some r := h
  clear h
  have H' := Aside0.mk H
  clear H
  go_enter Tryd.func73, Tryd.ntmps73
  go_wp2
  go_loopg [5] k (fun kq v5 w' => ∃ (x5_1 : Int), v5 = .int .i64 x5_1 ∧ Aside0 (smaltoref03_Has.l0 kq l0 a1 x5_1 = some r) ∧ Aside0 (kq ≤ k) ∧ Drawn0 w w')
  case atStart => exact ⟨(0), (by first | rfl | (simp; done) | (simp [*]; done)), H', ⟨Nat.le_refl _⟩, by repeat (first | exact Drawn0.refl _ | apply Drawn0.step)⟩
  case round =>
    clear H'
    try clear p2
    obtain ⟨x5_1, rfl, HA, HK1, ⟨m1, rfl⟩⟩ := hrel
    cases gk with
    | zero => exact absurd HA.out (by simp [smaltoref03_Has.l0])
    | succ k1 =>
      have H := HA.out
      clear HA
      simp only [smaltoref03_Has.l0] at H
      by_cases c3 : x5_1 < (l0.length : Int)
      · rw [if_pos c3] at H
        have c3b0 : decide (x5_1 < (l0.length : Int)) = true := decide_eq_true c3
        clear c3
        by_cases c4 : 0 ≤ x5_1
        · rw [if_pos c4] at H
          have c4b0 : decide (0 ≤ x5_1) = true := decide_eq_true c4
          clear c4
          by_cases c5 : (rd l0 x5_1) = a1
          · rw [if_pos c5] at H
            have c5b0 : ((rd l0 x5_1) == a1) = true := beq_iff_eq.mpr c5
            have c5b1 : ((rd l0 x5_1) != a1) = false := bne_eq_false_iff_eq.mpr c5
            clear c5
            obtain rfl := Option.some.inj H
            have p196 : 0 ≤ (x5_1 : Int) := of_decide_eq_true (by first | (with_reducible assumption) | assumption)
            have q196 : x5_1 < (l0.length : Int) := of_decide_eq_true (by first | (with_reducible assumption) | assumption)
            obtain ⟨ad196, e196, hx196_0⟩ := Kd.at_int HR0.out x5_1 p196 q196
            cases e196
            replace p196 := eq_true p196
            replace q196 := eq_true q196
            go_wp2
            go_ret
            exact ⟨by first | rfl | (simp; done) | (simp [*]; done), by repeat (first | exact Drawn0.refl _ | apply Drawn0.step)⟩
          · rw [if_neg c5] at H
            have c5b0 : ((rd l0 x5_1) == a1) = false := beq_eq_false_iff_ne.mpr c5
            have c5b1 : ((rd l0 x5_1) != a1) = true := bne_iff_ne.mpr c5
            have H' := Aside0.mk H
            clear H
            have p196 : 0 ≤ (x5_1 : Int) := of_decide_eq_true (by first | (with_reducible assumption) | assumption)
            have q196 : x5_1 < (l0.length : Int) := of_decide_eq_true (by first | (with_reducible assumption) | assumption)
            obtain ⟨ad196, e196, hx196_0⟩ := Kd.at_int HR0.out x5_1 p196 q196
            cases e196
            replace p196 := eq_true p196
            replace q196 := eq_true q196
            go_wp2
            go_roundg k1
            case measure => have := HK1.out; omega
            case rel => exact ⟨(wrap64 (x5_1 + 1)), (by first | rfl | (simp; done) | (simp [*]; done)), H', ⟨by have := HK1.out; omega⟩, by repeat (first | exact Drawn0.refl _ | apply Drawn0.step)⟩
        · rw [if_neg c4] at H
          exact absurd H (by simp)
      · rw [if_neg c3] at H
        have c3b0 : decide (x5_1 < (l0.length : Int)) = false := decide_eq_false c3
        clear c3
        obtain rfl := Option.some.inj H
        go_wp2
        go_ret
        exact ⟨by first | rfl | (simp; done) | (simp [*]; done), by repeat (first | exact Drawn0.refl _ | apply Drawn0.step)⟩
def smaltoref03_With.l0 : Nat → List (S74) → List Int → Int → List Int → Int → Option (List Int)
  | 0, _, _, _, _, _ => none
  | k + 1, x0, x1, x2, x7, x8 => if x8 < (x0.length : Int) then (if x8 = x2 then (if x7.length < 17592186044416 then (smaltoref03_With.l0 k x0 x1 x2 (x7 ++ [x8]) (wrap64 (x8 + 1))) else (none)) else ((smaltoref03_Has.f k x1 x8).bind fun t203 => (if t203 = true then (if x7.length < 17592186044416 then (smaltoref03_With.l0 k x0 x1 x2 (x7 ++ [x8]) (wrap64 (x8 + 1))) else (none)) else (smaltoref03_With.l0 k x0 x1 x2 x7 (wrap64 (x8 + 1)))))) else (some x7)
def smaltoref03_With.f (k : Nat) (l0 : List (S74)) (l1 : List Int) (a2 : Int) : Option (List Int) := smaltoref03_With.l0 k l0 l1 a2 (([] : List Int)) 0
theorem smaltoref03_With.mono_l : ∀ k, (∀ y0 y1 y2 y3 y4, LeO (smaltoref03_With.l0 k y0 y1 y2 y3 y4) (smaltoref03_With.l0 (k + 1) y0 y1 y2 y3 y4))
  | 0 => fun _ _ _ _ _ r h => by simp [smaltoref03_With.l0] at h
  | k + 1 => by
    have ih0 := smaltoref03_With.mono_l k
    · intro y0 y1 y2 y3 y4
      unfold smaltoref03_With.l0
      repeat' first
      | (with_reducible exact ih0 _ _ _ _ _)
      | (with_reducible exact smaltoref03_Has.mono _ _ _)
      | (with_reducible exact LeO.refl _)
      | (with_reducible exact LeO.none _)
      | (with_reducible refine LeO.ite ?_ ?_)
      | (with_reducible refine LeO.bind ?_ (fun _ => ?_))
      | exact ih0 _ _ _ _ _
      | exact smaltoref03_Has.mono _ _ _
      | exact LeO.none _
      | refine LeO.ite ?_ ?_
      | refine LeO.bind ?_ (fun _ => ?_)
theorem smaltoref03_With.mono : ∀ a0 a1 a2 k, LeO (smaltoref03_With.f k a0 a1 a2) (smaltoref03_With.f (k + 1) a0 a1 a2) := by
  intro a0 a1 a2 k
  have ih0 := smaltoref03_With.mono_l k
  unfold smaltoref03_With.f
  repeat' first
      | (with_reducible exact ih0 _ _ _ _ _)
      | (with_reducible exact smaltoref03_Has.mono _ _ _)
      | (with_reducible exact LeO.refl _)
      | (with_reducible exact LeO.none _)
      | (with_reducible refine LeO.ite ?_ ?_)
      | (with_reducible refine LeO.bind ?_ (fun _ => ?_))
      | exact ih0 _ _ _ _ _
      | exact smaltoref03_Has.mono _ _ _
      | exact LeO.none _
      | refine LeO.ite ?_ ?_
      | refine LeO.bind ?_ (fun _ => ?_)
set_option maxHeartbeats 8000000 in
set_option maxRecDepth 100000 in
theorem smaltoref03_With.calls (k : Nat) (A0 : Option Addr) (c0 : Nat) (l0 : List (S74)) (A1 : Option Addr) (c1 : Nat) (l1 : List Int) (a2 : Int) (r : List Int) (w : World) (hr0 : Kd.C k74 w A0 l0.length l0) (hc0 : l0.length ≤ c0) (hr1 : Kd.C (Kd.int .i64) w A1 l1.length l1) (hc1 : l1.length ≤ c1) (h : smaltoref03_With.f k l0 l1 a2 = some r) :
    Calls Tryd.prog 74 #[.slice A0 l0.length c0, .slice A1 l1.length c1, .int .i64 a2] w fun e w' => ∃ v0_ : Value, e = .returned (v0_) ∧ Kd.R (Kd.int .i64) 3 w' w.heap.size (fun _ => True) v0_ r ∧ Below w.heap.size w w' := by
  have HR0 := Aside0.mk hr0
  have HC0 := Aside0.mk hc0
  clear hr0 hc0
  have HR1 := Aside0.mk hr1
  have HC1 := Aside0.mk hc1
  clear hr1 hc1
  have HB := Aside0.mk (Below.refl w.heap.size w)
  have H : (smaltoref03_With.l0 k l0 l1 a2 (([] : List Int)) 0) = some r := h
  clear h
  obtain ⟨y197, hy197⟩ : ∃ y_ : List Int, y_ = (([] : List Int)) := ⟨_, rfl⟩
  replace H : (smaltoref03_With.l0 k l0 l1 a2 y197 0) = some r := by first | (rw [hy197]; with_reducible exact H) | (have H2_ := (Option.bind_some _ _).symm.trans H; rw [hy197]; with_reducible exact H2_) | (have H2_ := (Option.bind_some _ _).symm.trans H; with_reducible exact H2_) | with_reducible exact H | (rw [hy197]; exact H) | exact H
  have Ny197 := Aside0.mk hy197
  clear hy197
  have H' := Aside0.mk H
  clear H
  go_enter Tryd.func74, Tryd.ntmps74
  go_wp2_with (first | ((with_reducible refine gate_dst (N := 9) rfl ?_); refine Kd.R_lit (Kd.int .i64) _ 3 ?hg (N := 9) ?hd (xs := ([] : List Int)) (inner := []) (ok := fun _ => True) (okp := fun _ => True) ?hr ?hp (fun _ hk => hk) trivial (Below.refl _ _) (Nat.le_refl _) (by simp) ?_; (case hd => rfl); (case hg => rfl); (case hr => first | (go_simp; done) | (go_simp; rfl)); (case hp => exact (Reps.none _ _)); intro v198 w4 ho5 hb hg_ hnew_; clear hg_ hnew_; (first | rw [← Ny197.out] at ho5 | (simp only [Int.reduceToNat] at ho5; rw [← Ny197.out] at ho5)); have n0_ := Aside0.mk (Kd.R_lower ho5 (below_size (by repeat (first | (with_reducible first | exact HB.out | apply below_alloc | apply pw_below_drewN | apply below_drew1) | exact HB.out)))); have n1_ := Aside0.mk (below_step (by repeat (first | (with_reducible first | exact HB.out | apply below_alloc | apply pw_below_drewN | apply below_drew1) | exact HB.out)) hb); clear HB; have HO199 := n0_; have HB := n1_; clear n0_ n1_; clear hb ho5))
  go_loopg [7, 8] k (fun kq v7 v8 w' => ∃ (x7_1 : List Int) (x8_1 : Int), v8 = .int .i64 x8_1 ∧ Aside0 (smaltoref03_With.l0 kq l0 l1 a2 x7_1 x8_1 = some r) ∧ Aside0 (kq ≤ k) ∧ Aside0 (Kd.R (Kd.int .i64) 3 w' w.heap.size (fun _ => True) v7 x7_1) ∧ Aside0 (Below w.heap.size w w'))
  case atStart => exact ⟨(y197), (0), (by first | rfl | (simp; done) | (simp [*]; done)), H', ⟨Nat.le_refl _⟩, ⟨by (with_reducible repeat (first | apply Kd.R_alloc | apply Kd.R_drewN | apply Kd.R_drew)); exact HO199.out⟩, ⟨by repeat (first | (with_reducible first | exact HB.out | apply below_alloc | apply pw_below_drewN | apply below_drew1) | exact HB.out)⟩⟩
  case round =>
    clear H'
    try clear c1
    try clear p2
    obtain ⟨x7_1, x8_1, rfl, HA, HK1, HO_7, HB⟩ := hrel
    cases gk with
    | zero => exact absurd HA.out (by simp [smaltoref03_With.l0])
    | succ k1 =>
      have H := HA.out
      clear HA
      simp only [smaltoref03_With.l0] at H
      by_cases c6 : x8_1 < (l0.length : Int)
      · rw [if_pos c6] at H
        have c6b0 : decide (x8_1 < (l0.length : Int)) = true := decide_eq_true c6
        clear c6
        by_cases c7 : x8_1 = a2
        · rw [if_pos c7] at H
          have c7b0 : (x8_1 == a2) = true := beq_iff_eq.mpr c7
          have c7b1 : (x8_1 != a2) = false := bne_eq_false_iff_eq.mpr c7
          clear c7
          by_cases c8 : x7_1.length < 17592186044416
          · rw [if_pos c8] at H
            have LMc8 := Aside0.mk c8
            clear c8
            obtain ⟨y200, hy200⟩ : ∃ y_ : List Int, y_ = (x7_1 ++ [x8_1]) := ⟨_, rfl⟩
            replace H : (smaltoref03_With.l0 k1 l0 l1 a2 y200 (wrap64 (x8_1 + 1))) = some r := by first | (rw [hy200]; with_reducible exact H) | (have H2_ := (Option.bind_some _ _).symm.trans H; rw [hy200]; with_reducible exact H2_) | (have H2_ := (Option.bind_some _ _).symm.trans H; with_reducible exact H2_) | with_reducible exact H | (rw [hy200]; exact H) | exact H
            have Ny200 := Aside0.mk hy200
            clear hy200
            have H' := Aside0.mk H
            clear H
            go_wp2_with (first | ((with_reducible refine gate_builtin (b := .append) (xs := #[.tmp 24, .tmp 26]) rfl ?_); at_builtin; refine Kd.R_append (Kd.int .i64) (w0 := w) w.heap.size rfl (.tmp 24) (.tmp 26) 25 3 (.int .i64 0) 8 rfl Tryd.underlying25 info3 rfl (by decide) (by omega) u7 x7_1 x8_1 [.int .i64 x8_1] (fun _ => True) (fun _ => False) rfl rfl ?aP (fun _ hk => hk.elim) ?aF ?aO ?aB ?aS ?aL ?_; (case aP => exact rfl); (case aB => exact (by repeat (first | (with_reducible first | exact HB.out | apply below_alloc | apply pw_below_drewN | apply below_drew1) | exact HB.out))); (case aF => exact (fun _ _ => trivial)); (case aO => exact (by (with_reducible repeat (first | apply Kd.R_alloc | apply Kd.R_drewN | apply Kd.R_drew)); exact HO_7.out)); (case aS => exact (below_size (by repeat (first | (with_reducible first | exact HB.out | apply below_alloc | apply pw_below_drewN | apply below_drew1) | exact HB.out)))); (case aL => have := LMc8.out; omega); intro v201 w9 ho hb hg hat; rw [← Ny200.out] at ho; have n0_ := Aside0.mk (hb); have n1_ := Aside0.mk (ho); clear HB; clear HO_7; have HB := n0_; have HO202 := n1_; clear n0_ n1_; clear ho hb hg hat))
            go_roundg k1
            case measure => have := HK1.out; omega
            case rel => exact ⟨(y200), (wrap64 (x8_1 + 1)), (by first | rfl | (simp; done) | (simp [*]; done)), H', ⟨by have := HK1.out; omega⟩, ⟨by (with_reducible repeat (first | apply Kd.R_alloc | apply Kd.R_drewN | apply Kd.R_drew)); exact HO202.out⟩, ⟨by repeat (first | (with_reducible first | exact HB.out | apply below_alloc | apply pw_below_drewN | apply below_drew1) | exact HB.out)⟩⟩
          · rw [if_neg c8] at H
            exact absurd H (by simp)
        · rw [if_neg c7] at H
          have c7b0 : (x8_1 == a2) = false := beq_eq_false_iff_ne.mpr c7
          have c7b1 : (x8_1 != a2) = true := bne_iff_ne.mpr c7
          replace H := Option.bind_eq_some_iff.mp H
          obtain ⟨t203, A100, H⟩ := H
          replace H : (if t203 = true then (if x7_1.length < 17592186044416 then (smaltoref03_With.l0 k1 l0 l1 a2 (x7_1 ++ [x8_1]) (wrap64 (x8_1 + 1))) else (none)) else (smaltoref03_With.l0 k1 l0 l1 a2 x7_1 (wrap64 (x8_1 + 1)))) = some r := H
          have A10 := Aside0.mk A100
          clear A100
          by_cases c11 : t203 = true
          · subst c11
            have H1 : (if x7_1.length < 17592186044416 then (smaltoref03_With.l0 k1 l0 l1 a2 (x7_1 ++ [x8_1]) (wrap64 (x8_1 + 1))) else (none)) = some r := by rw [if_pos rfl] at H; exact H
            clear H
            have H := H1
            clear H1
            by_cases c12 : x7_1.length < 17592186044416
            · rw [if_pos c12] at H
              have LMc12 := Aside0.mk c12
              clear c12
              obtain ⟨y204, hy204⟩ : ∃ y_ : List Int, y_ = (x7_1 ++ [x8_1]) := ⟨_, rfl⟩
              replace H : (smaltoref03_With.l0 k1 l0 l1 a2 y204 (wrap64 (x8_1 + 1))) = some r := by first | (rw [hy204]; with_reducible exact H) | (have H2_ := (Option.bind_some _ _).symm.trans H; rw [hy204]; with_reducible exact H2_) | (have H2_ := (Option.bind_some _ _).symm.trans H; with_reducible exact H2_) | with_reducible exact H | (rw [hy204]; exact H) | exact H
              have Ny204 := Aside0.mk hy204
              clear hy204
              have H' := Aside0.mk H
              clear H
              go_wp2_with (first | (go_at_call 73; (with_reducible refine (smaltoref03_Has.calls k1 _ _ l1 x8_1 true _ ?side1 ?side2 A10.out).mono ?_); (case side1 => repeat (first | exact (Kd.C_below HR1.out HB.out) | (with_reducible refine Kd.C_alloc ?_ _) | (with_reducible refine Kd.C_drewN ?_ _) | (with_reducible refine Kd.C_drew ?_))); (case side2 => exact HC1.out); rintro e w' ⟨rfl, ⟨nd, rfl⟩⟩) | ((with_reducible refine gate_builtin (b := .append) (xs := #[.tmp 24, .tmp 26]) rfl ?_); at_builtin; refine Kd.R_append (Kd.int .i64) (w0 := w) w.heap.size rfl (.tmp 24) (.tmp 26) 25 3 (.int .i64 0) 8 rfl Tryd.underlying25 info3 rfl (by decide) (by omega) u7 x7_1 x8_1 [.int .i64 x8_1] (fun _ => True) (fun _ => False) rfl rfl ?aP (fun _ hk => hk.elim) ?aF ?aO ?aB ?aS ?aL ?_; (case aP => exact rfl); (case aB => exact (by repeat (first | (with_reducible first | exact HB.out | apply below_alloc | apply pw_below_drewN | apply below_drew1) | exact HB.out))); (case aF => exact (fun _ _ => trivial)); (case aO => exact (by (with_reducible repeat (first | apply Kd.R_alloc | apply Kd.R_drewN | apply Kd.R_drew)); exact HO_7.out)); (case aS => exact (below_size (by repeat (first | (with_reducible first | exact HB.out | apply below_alloc | apply pw_below_drewN | apply below_drew1) | exact HB.out)))); (case aL => have := LMc12.out; omega); intro v205 w13 ho hb hg hat; rw [← Ny204.out] at ho; have n0_ := Aside0.mk (hb); have n1_ := Aside0.mk (ho); clear HB; clear HO_7; have HB := n0_; have HO206 := n1_; clear n0_ n1_; clear ho hb hg hat))
              go_roundg k1
              case measure => have := HK1.out; omega
              case rel => exact ⟨(y204), (wrap64 (x8_1 + 1)), (by first | rfl | (simp; done) | (simp [*]; done)), H', ⟨by have := HK1.out; omega⟩, ⟨by (with_reducible repeat (first | apply Kd.R_alloc | apply Kd.R_drewN | apply Kd.R_drew)); exact HO206.out⟩, ⟨by repeat (first | (with_reducible first | exact HB.out | apply below_alloc | apply pw_below_drewN | apply below_drew1) | exact HB.out)⟩⟩
            · rw [if_neg c12] at H
              exact absurd H (by simp)
          · replace c11 := Bool.eq_false_iff.mpr c11
            subst c11
            have H1 : (smaltoref03_With.l0 k1 l0 l1 a2 x7_1 (wrap64 (x8_1 + 1))) = some r := by rw [if_neg (show ¬ (false = true) by decide)] at H; exact H
            clear H
            have H := H1
            clear H1
            have H' := Aside0.mk H
            clear H
            go_wp2_with (first | (go_at_call 73; (with_reducible refine (smaltoref03_Has.calls k1 _ _ l1 x8_1 false _ ?side1 ?side2 A10.out).mono ?_); (case side1 => repeat (first | exact (Kd.C_below HR1.out HB.out) | (with_reducible refine Kd.C_alloc ?_ _) | (with_reducible refine Kd.C_drewN ?_ _) | (with_reducible refine Kd.C_drew ?_))); (case side2 => exact HC1.out); rintro e w' ⟨rfl, ⟨nd, rfl⟩⟩))
            go_roundg k1
            case measure => have := HK1.out; omega
            case rel => exact ⟨(x7_1), (wrap64 (x8_1 + 1)), (by first | rfl | (simp; done) | (simp [*]; done)), H', ⟨by have := HK1.out; omega⟩, ⟨by (with_reducible repeat (first | apply Kd.R_alloc | apply Kd.R_drewN | apply Kd.R_drew)); exact HO_7.out⟩, ⟨by repeat (first | (with_reducible first | exact HB.out | apply below_alloc | apply pw_below_drewN | apply below_drew1) | exact HB.out)⟩⟩
      · rw [if_neg c6] at H
        have c6b0 : decide (x8_1 < (l0.length : Int)) = false := decide_eq_false c6
        clear c6
        obtain rfl := Option.some.inj H
        go_wp2
        go_ret
        exact ⟨_, by first | rfl | (simp [errW_none, errW_some] <;> rfl) | (simp [*, errW_none, errW_some] <;> rfl), by (with_reducible repeat (first | apply Kd.R_alloc | apply Kd.R_drewN | apply Kd.R_drew)); exact HO_7.out, by repeat (first | (with_reducible first | exact HB.out | apply below_alloc | apply pw_below_drewN | apply below_drew1) | exact HB.out)⟩
def smaltoref03_Still.l0 : Nat → List (S74) → List Int → List Int → Int → Int → Int → Int → Int → Int → Option (List Int)
  | 0, _, _, _, _, _, _, _, _, _ => none
  | k + 1, x1, x2, x7, x8, x208000, x208001, x208002, x208003, x208004 => if x8 < (x1.length : Int) then ((smaltoref03_Has.f k x2 x8).bind fun t211 => (if t211 = true then (smaltoref03_Still.l0 k x1 x2 x7 (wrap64 (x8 + 1)) x208000 x208001 x208002 x208003 x208004) else ((smaltoref03_With.f k x1 x2 x8).bind fun t212 => ((smaltoref03_Goes.f k x208000 x208001 x208002 x208003 x208004 x1 t212).bind fun bt215 => (if bt215.1 = true then (if x7.length < 17592186044416 then (smaltoref03_Still.l0 k x1 x2 (x7 ++ [x8]) (wrap64 (x8 + 1)) x208000 x208001 x208002 x208003 x208004) else (none)) else (smaltoref03_Still.l0 k x1 x2 x7 (wrap64 (x8 + 1)) x208000 x208001 x208002 x208003 x208004)))))) else (some x7)
def smaltoref03_Still.f (k : Nat) (a0_0 : Int) (a0_1 : Int) (a0_2 : Int) (a0_3 : Int) (a0_4 : Int) (l1 : List (S74)) (l2 : List Int) : Option (List Int) := smaltoref03_Still.l0 k l1 l2 (([] : List Int)) 0 a0_0 a0_1 a0_2 a0_3 a0_4
theorem smaltoref03_Still.mono_l : ∀ k, (∀ y0 y1 y2 y3 y4 y5 y6 y7 y8, LeO (smaltoref03_Still.l0 k y0 y1 y2 y3 y4 y5 y6 y7 y8) (smaltoref03_Still.l0 (k + 1) y0 y1 y2 y3 y4 y5 y6 y7 y8))
  | 0 => fun _ _ _ _ _ _ _ _ _ r h => by simp [smaltoref03_Still.l0] at h
  | k + 1 => by
    have ih0 := smaltoref03_Still.mono_l k
    · intro y0 y1 y2 y3 y4 y5 y6 y7 y8
      unfold smaltoref03_Still.l0
      repeat' first
      | (with_reducible exact ih0 _ _ _ _ _ _ _ _ _)
      | (with_reducible exact smaltoref03_Goes.mono _ _ _ _ _ _ _ _)
      | (with_reducible exact smaltoref03_Has.mono _ _ _)
      | (with_reducible exact smaltoref03_With.mono _ _ _ _)
      | (with_reducible exact LeO.refl _)
      | (with_reducible exact LeO.none _)
      | (with_reducible refine LeO.ite ?_ ?_)
      | (with_reducible refine LeO.bind ?_ (fun _ => ?_))
      | exact ih0 _ _ _ _ _ _ _ _ _
      | exact smaltoref03_Goes.mono _ _ _ _ _ _ _ _
      | exact smaltoref03_Has.mono _ _ _
      | exact smaltoref03_With.mono _ _ _ _
      | exact LeO.none _
      | refine LeO.ite ?_ ?_
      | refine LeO.bind ?_ (fun _ => ?_)
theorem smaltoref03_Still.mono : ∀ a0 a1 a2 a3 a4 a5 a6 k, LeO (smaltoref03_Still.f k a0 a1 a2 a3 a4 a5 a6) (smaltoref03_Still.f (k + 1) a0 a1 a2 a3 a4 a5 a6) := by
  intro a0 a1 a2 a3 a4 a5 a6 k
  have ih0 := smaltoref03_Still.mono_l k
  unfold smaltoref03_Still.f
  repeat' first
      | (with_reducible exact ih0 _ _ _ _ _ _ _ _ _)
      | (with_reducible exact smaltoref03_Goes.mono _ _ _ _ _ _ _ _)
      | (with_reducible exact smaltoref03_Has.mono _ _ _)
      | (with_reducible exact smaltoref03_With.mono _ _ _ _)
      | (with_reducible exact LeO.refl _)
      | (with_reducible exact LeO.none _)
      | (with_reducible refine LeO.ite ?_ ?_)
      | (with_reducible refine LeO.bind ?_ (fun _ => ?_))
      | exact ih0 _ _ _ _ _ _ _ _ _
      | exact smaltoref03_Goes.mono _ _ _ _ _ _ _ _
      | exact smaltoref03_Has.mono _ _ _
      | exact smaltoref03_With.mono _ _ _ _
      | exact LeO.none _
      | refine LeO.ite ?_ ?_
      | refine LeO.bind ?_ (fun _ => ?_)
def smaltoref03_Still.T6 : Bool × List (List Nat × List Nat) := (true, [([], []), ([], []), ([], []), ([], []), ([], []), ([2, 3, 4], [2, 3, 4]), ([0, 1, 5, 5], [0, 1, 5]), ([6], [6]), ([7], [7]), ([7], [7]), ([8, 6, 0, 1, 2, 3, 4, 5, 6, 7, 8], [8]), ([9, 10, 0, 1, 2, 3, 4, 5, 6, 7, 8, 9, 10], [9])])
def smaltoref03_Still.B6 : List Nat := [0, 0, 0, 0, 0, 28, 63, 127, 255, 255, 511, 2047]
theorem smaltoref03_Still.tab6 : rtab .any (opsOf Tryd.f30 6) = smaltoref03_Still.T6 := by kernel_rfl
theorem smaltoref03_Still.bits6 : waitsOk smaltoref03_Still.T6.2 smaltoref03_Still.B6 = true := by kernel_rfl
set_option maxHeartbeats 8000000 in
set_option maxRecDepth 100000 in
theorem smaltoref03_Still.calls (k : Nat) (a0_0 : Int) (a0_1 : Int) (a0_2 : Int) (a0_3 : Int) (a0_4 : Int) (A1 : Option Addr) (c1 : Nat) (l1 : List (S74)) (A2 : Option Addr) (c2 : Nat) (l2 : List Int) (r : List Int) (w : World) (hr1 : Kd.C k74 w A1 l1.length l1) (hc1 : l1.length ≤ c1) (hr2 : Kd.C (Kd.int .i64) w A2 l2.length l2) (hc2 : l2.length ≤ c2) (h : smaltoref03_Still.f k a0_0 a0_1 a0_2 a0_3 a0_4 l1 l2 = some r) :
    Calls Tryd.prog 30 #[.agg #[.int .i64 a0_0, .int .i64 a0_1, .int .i64 a0_2, .int .i64 a0_3, .int .i64 a0_4], .slice A1 l1.length c1, .slice A2 l2.length c2] w fun e w' => ∃ v0_ : Value, e = .returned (v0_) ∧ Kd.R (Kd.int .i64) 3 w' w.heap.size (fun _ => True) v0_ r ∧ Below w.heap.size w w' := by
  have hu23 := Tryd.underlying23
  have HR1 := Aside0.mk hr1
  have HC1 := Aside0.mk hc1
  clear hr1 hc1
  have HR2 := Aside0.mk hr2
  have HC2 := Aside0.mk hc2
  clear hr2 hc2
  have HB := Aside0.mk (Below.refl w.heap.size w)
  have H : (smaltoref03_Still.l0 k l1 l2 (([] : List Int)) 0 a0_0 a0_1 a0_2 a0_3 a0_4) = some r := h
  clear h
  obtain ⟨y208, hy208⟩ : ∃ y_ : List Int, y_ = (([] : List Int)) := ⟨_, rfl⟩
  replace H : (smaltoref03_Still.l0 k l1 l2 y208 0 a0_0 a0_1 a0_2 a0_3 a0_4) = some r := by first | (rw [hy208]; with_reducible exact H) | (have H2_ := (Option.bind_some _ _).symm.trans H; rw [hy208]; with_reducible exact H2_) | (have H2_ := (Option.bind_some _ _).symm.trans H; with_reducible exact H2_) | with_reducible exact H | (rw [hy208]; exact H) | exact H
  have Ny208 := Aside0.mk hy208
  clear hy208
  have H' := Aside0.mk H
  clear H
  go_enter Tryd.func30, Tryd.ntmps30
  go_wp2_with (first | ((with_reducible refine gate_dst (N := 3) rfl ?_); refine box_event ?hg (N := 3) ?hd (cs := #[.int .i64 a0_0, .int .i64 a0_1, .int .i64 a0_2, .int .i64 a0_3, .int .i64 a0_4]) (t := 23) ?hr ?_; (case hd => rfl); (case hg => rfl); (case hr => first | (go_simp; done) | (go_simp; rfl)); intro gb207 hg w4 hbox hb; have n0_ := Aside0.mk (below_step (by repeat (first | (with_reducible first | exact HB.out | apply below_alloc | apply pw_below_drewN | apply below_drew1) | exact HB.out)) hb); have n1_ := Aside0.mk (hbox); have n2_ := Aside0.mk ((by rw [hg]; exact (below_size (by repeat (first | (with_reducible first | exact HB.out | apply below_alloc | apply pw_below_drewN | apply below_drew1) | exact HB.out))) : w.heap.size ≤ gb207)); have n3_ := Aside0.mk ((by rw [hg]; exact (below_size (by repeat (first | (with_reducible first | exact HB.out | apply below_alloc | apply pw_below_drewN | apply below_drew1) | exact HB.out))) : w.heap.size ≤ gb207)); clear HB; have HB := n0_; have BK207 := n1_; have GW207 := n2_; have GE207 := n3_; clear n0_ n1_ n2_ n3_; clear hb hbox hg) | ((with_reducible refine gate_dst (N := 11) rfl ?_); refine Kd.R_lit (Kd.int .i64) _ 3 ?hg (N := 11) ?hd (xs := ([] : List Int)) (inner := []) (ok := fun _ => True) (okp := fun _ => True) ?hr ?hp (fun _ hk => hk) trivial (Below.refl _ _) (Nat.le_refl _) (by simp) ?_; (case hd => rfl); (case hg => rfl); (case hr => first | (go_simp; done) | (go_simp; rfl)); (case hp => exact (Reps.none _ _)); intro v209 w5 ho6 hb hg_ hnew_; clear hg_ hnew_; (first | rw [← Ny208.out] at ho6 | (simp only [Int.reduceToNat] at ho6; rw [← Ny208.out] at ho6)); have n0_ := Aside0.mk (Kd.R_lower ho6 (below_size (by repeat (first | (with_reducible first | exact HB.out | apply below_alloc | apply pw_below_drewN | apply below_drew1 | refine below_set ?_ GE207.out) | exact HB.out)))); have n1_ := Aside0.mk (blk_below (g := gb207) (o := .cells #[.int .i64 a0_0, .int .i64 a0_1, .int .i64 a0_2, .int .i64 a0_3, .int .i64 a0_4] 23 (0, 0)) (by (with_reducible repeat (first | refine blk_drewN ?_ _ | refine blk_drew ?_ | refine blk_alloc ?_ _)); exact BK207.out) hb); have n2_ := Aside0.mk (below_step (by repeat (first | (with_reducible first | exact HB.out | apply below_alloc | apply pw_below_drewN | apply below_drew1 | refine below_set ?_ GE207.out) | exact HB.out)) hb); clear BK207; clear HB; have HO210 := n0_; have BK207 := n1_; have HB := n2_; clear n0_ n1_ n2_; clear hb ho6))
  go_loopg [7, 8] k (fun kq v7 v8 w' => ∃ (x7_1 : List Int) (x8_1 : Int), v8 = .int .i64 x8_1 ∧ Aside0 (smaltoref03_Still.l0 kq l1 l2 x7_1 x8_1 a0_0 a0_1 a0_2 a0_3 a0_4 = some r) ∧ Aside0 (kq ≤ k) ∧ Aside0 (Kd.R (Kd.int .i64) 3 w' w.heap.size (fun _ => True) v7 x7_1) ∧ Aside0 (w'.heap[gb207]? = some (.cells #[.int .i64 a0_0, .int .i64 a0_1, .int .i64 a0_2, .int .i64 a0_3, .int .i64 a0_4] 23 (0, 0))) ∧ Aside0 (Below w.heap.size w w'))
  case atStart => exact ⟨(y208), (0), (by first | rfl | (simp; done) | (simp [*]; done)), H', ⟨Nat.le_refl _⟩, ⟨by (with_reducible repeat (first | apply Kd.R_alloc | apply Kd.R_drewN | apply Kd.R_drew)); exact HO210.out⟩, ⟨by (with_reducible repeat (first | refine blk_drewN ?_ _ | refine blk_drew ?_ | refine blk_alloc ?_ _)); exact BK207.out⟩, ⟨by repeat (first | (with_reducible first | exact HB.out | apply below_alloc | apply pw_below_drewN | apply below_drew1 | refine below_set ?_ GE207.out) | exact HB.out)⟩⟩
  case round =>
    clear H'
    try clear c1
    try clear c2
    try clear p2
    try clear c3
    obtain ⟨x7_1, x8_1, rfl, HA, HK1, HO_7, BK207, HB⟩ := hrel
    cases gk with
    | zero => exact absurd HA.out (by simp [smaltoref03_Still.l0])
    | succ k1 =>
      have H := HA.out
      clear HA
      simp only [smaltoref03_Still.l0] at H
      by_cases c7 : x8_1 < (l1.length : Int)
      · rw [if_pos c7] at H
        have c7b0 : decide (x8_1 < (l1.length : Int)) = true := decide_eq_true c7
        clear c7
        replace H := Option.bind_eq_some_iff.mp H
        obtain ⟨t211, A80, H⟩ := H
        replace H : (if t211 = true then (smaltoref03_Still.l0 k1 l1 l2 x7_1 (wrap64 (x8_1 + 1)) a0_0 a0_1 a0_2 a0_3 a0_4) else ((smaltoref03_With.f k1 l1 l2 x8_1).bind fun t212 => ((smaltoref03_Goes.f k1 a0_0 a0_1 a0_2 a0_3 a0_4 l1 t212).bind fun bt215 => (if bt215.1 = true then (if x7_1.length < 17592186044416 then (smaltoref03_Still.l0 k1 l1 l2 (x7_1 ++ [x8_1]) (wrap64 (x8_1 + 1)) a0_0 a0_1 a0_2 a0_3 a0_4) else (none)) else (smaltoref03_Still.l0 k1 l1 l2 x7_1 (wrap64 (x8_1 + 1)) a0_0 a0_1 a0_2 a0_3 a0_4))))) = some r := H
        have A8 := Aside0.mk A80
        clear A80
        by_cases c9 : t211 = true
        · subst c9
          have H1 : (smaltoref03_Still.l0 k1 l1 l2 x7_1 (wrap64 (x8_1 + 1)) a0_0 a0_1 a0_2 a0_3 a0_4) = some r := by rw [if_pos rfl] at H; exact H
          clear H
          have H := H1
          clear H1
          have H' := Aside0.mk H
          clear H
          go_wp2_with (first | ((with_reducible refine gate_callee (f := 73) rfl ?_); refine goesL_ (some 20) rfl rfl Tryd.func73 (by kernel_rfl) rfl #[.slice A2 l2.length c2, .int .i64 x8_1] rfl (by (try simp only [List.map_toArray, List.map_cons, List.map_nil]); first | done | rfl | (simp only [List.length_drop, List.length_take]; rfl)) ?_; (with_reducible refine (smaltoref03_Has.calls k1 _ _ l2 x8_1 true _ ?side1 ?side2 A8.out).mono ?_); (case side1 => repeat (first | exact (Kd.C_below HR2.out HB.out) | (with_reducible refine Kd.C_alloc ?_ _) | (with_reducible refine Kd.C_drewN ?_ _) | (with_reducible refine Kd.C_drew ?_))); (case side2 => exact HC2.out); rintro e w' ⟨rfl, ⟨nd, rfl⟩⟩; refine ⟨_, rfl, ?_⟩))
          go_roundg k1
          case measure => have := HK1.out; omega
          case rel => exact ⟨(x7_1), (wrap64 (x8_1 + 1)), (by first | rfl | (simp; done) | (simp [*]; done)), H', ⟨by have := HK1.out; omega⟩, ⟨by (with_reducible repeat (first | apply Kd.R_alloc | apply Kd.R_drewN | apply Kd.R_drew)); exact HO_7.out⟩, ⟨by (with_reducible repeat (first | refine blk_drewN ?_ _ | refine blk_drew ?_ | refine blk_alloc ?_ _)); exact BK207.out⟩, ⟨by repeat (first | (with_reducible first | exact HB.out | apply below_alloc | apply pw_below_drewN | apply below_drew1 | refine below_set ?_ GE207.out) | exact HB.out)⟩⟩
        · replace c9 := Bool.eq_false_iff.mpr c9
          subst c9
          have H1 : ((smaltoref03_With.f k1 l1 l2 x8_1).bind fun t212 => ((smaltoref03_Goes.f k1 a0_0 a0_1 a0_2 a0_3 a0_4 l1 t212).bind fun bt215 => (if bt215.1 = true then (if x7_1.length < 17592186044416 then (smaltoref03_Still.l0 k1 l1 l2 (x7_1 ++ [x8_1]) (wrap64 (x8_1 + 1)) a0_0 a0_1 a0_2 a0_3 a0_4) else (none)) else (smaltoref03_Still.l0 k1 l1 l2 x7_1 (wrap64 (x8_1 + 1)) a0_0 a0_1 a0_2 a0_3 a0_4)))) = some r := by rw [if_neg (show ¬ (false = true) by decide)] at H; exact H
          clear H
          have H := H1
          clear H1
          replace H := Option.bind_eq_some_iff.mp H
          obtain ⟨t212, A100, H⟩ := H
          replace H : ((smaltoref03_Goes.f k1 a0_0 a0_1 a0_2 a0_3 a0_4 l1 t212).bind fun bt215 => (if bt215.1 = true then (if x7_1.length < 17592186044416 then (smaltoref03_Still.l0 k1 l1 l2 (x7_1 ++ [x8_1]) (wrap64 (x8_1 + 1)) a0_0 a0_1 a0_2 a0_3 a0_4) else (none)) else (smaltoref03_Still.l0 k1 l1 l2 x7_1 (wrap64 (x8_1 + 1)) a0_0 a0_1 a0_2 a0_3 a0_4))) = some r := H
          have A10 := Aside0.mk A100
          clear A100
          replace H := Option.bind_eq_some_iff.mp H
          obtain ⟨⟨t215, t216⟩, A110, H⟩ := H
          replace H : (if t215 = true then (if x7_1.length < 17592186044416 then (smaltoref03_Still.l0 k1 l1 l2 (x7_1 ++ [x8_1]) (wrap64 (x8_1 + 1)) a0_0 a0_1 a0_2 a0_3 a0_4) else (none)) else (smaltoref03_Still.l0 k1 l1 l2 x7_1 (wrap64 (x8_1 + 1)) a0_0 a0_1 a0_2 a0_3 a0_4)) = some r := H
          have A11 := Aside0.mk A110
          clear A110
          by_cases c12 : t215 = true
          · subst c12
            have H1 : (if x7_1.length < 17592186044416 then (smaltoref03_Still.l0 k1 l1 l2 (x7_1 ++ [x8_1]) (wrap64 (x8_1 + 1)) a0_0 a0_1 a0_2 a0_3 a0_4) else (none)) = some r := by rw [if_pos rfl] at H; exact H
            clear H
            have H := H1
            clear H1
            by_cases c13 : x7_1.length < 17592186044416
            · rw [if_pos c13] at H
              have LMc13 := Aside0.mk c13
              clear c13
              obtain ⟨y217, hy217⟩ : ∃ y_ : List Int, y_ = (x7_1 ++ [x8_1]) := ⟨_, rfl⟩
              replace H : (smaltoref03_Still.l0 k1 l1 l2 y217 (wrap64 (x8_1 + 1)) a0_0 a0_1 a0_2 a0_3 a0_4) = some r := by first | (rw [hy217]; with_reducible exact H) | (have H2_ := (Option.bind_some _ _).symm.trans H; rw [hy217]; with_reducible exact H2_) | (have H2_ := (Option.bind_some _ _).symm.trans H; with_reducible exact H2_) | with_reducible exact H | (rw [hy217]; exact H) | exact H
              have Ny217 := Aside0.mk hy217
              clear hy217
              have H' := Aside0.mk H
              clear H
              try go_wp2_with (first | ((with_reducible refine gate_callee (f := 73) rfl ?_); refine goesL_ (some 20) rfl rfl Tryd.func73 (by kernel_rfl) rfl #[.slice A2 l2.length c2, .int .i64 x8_1] rfl (by (try simp only [List.map_toArray, List.map_cons, List.map_nil]); first | done | rfl | (simp only [List.length_drop, List.length_take]; rfl)) ?_; (with_reducible refine (smaltoref03_Has.calls k1 _ _ l2 x8_1 false _ ?side1 ?side2 A8.out).mono ?_); (case side1 => repeat (first | exact (Kd.C_below HR2.out HB.out) | (with_reducible refine Kd.C_alloc ?_ _) | (with_reducible refine Kd.C_drewN ?_ _) | (with_reducible refine Kd.C_drew ?_))); (case side2 => exact HC2.out); rintro e w' ⟨rfl, ⟨nd, rfl⟩⟩; refine ⟨_, rfl, ?_⟩))
              (try (rw [drewN_self wr]; generalize hq_ : World.drewN wr _ = wr; have n0_ : Aside0 (Kd.R (Kd.int .i64) 3 wr w.heap.size (fun _ => True) u7 x7_1) := ⟨by rw [← hq_]; exact (by (with_reducible repeat (first | apply Kd.R_alloc | apply Kd.R_drewN | apply Kd.R_drew)); exact HO_7.out)⟩; have n1_ : Aside0 (wr.heap[gb207]? = some (.cells #[.int .i64 a0_0, .int .i64 a0_1, .int .i64 a0_2, .int .i64 a0_3, .int .i64 a0_4] 23 (0, 0))) := ⟨by rw [← hq_]; exact (by (with_reducible repeat (first | refine blk_drewN ?_ _ | refine blk_drew ?_ | refine blk_alloc ?_ _)); exact BK207.out)⟩; have n2_ : Aside0 (Below w.heap.size w wr) := ⟨by rw [← hq_]; exact (by repeat (first | (with_reducible first | exact HB.out | apply below_alloc | apply pw_below_drewN | apply below_drew1 | refine below_set ?_ GE207.out) | exact HB.out))⟩; clear HO_7 BK207 HB hq_; have HO_7 := n0_; have BK207 := n1_; have HB := n2_; clear n0_ n1_ n2_))
              have n0_ := Aside0.mk (Kd.R_drew HO_7.out)
              have n1_ := Aside0.mk (blk_drew BK207.out)
              have n2_ := Aside0.mk (below_drew1 HB.out)
              clear HO_7
              clear BK207
              clear HB
              have HO_7 := n0_
              have BK207 := n1_
              have HB := n2_
              clear n0_ n1_ n2_
              refine start_ (n := 12) (S := fun w' => w'.cell? ⟨gb207, 0, none⟩ = some (.int .i64 a0_0) ∧ w'.cell? ⟨gb207, 1, none⟩ = some (.int .i64 a0_1) ∧ w'.cell? ⟨gb207, 2, none⟩ = some (.int .i64 a0_2) ∧ w'.cell? ⟨gb207, 3, none⟩ = some (.int .i64 a0_3) ∧ w'.cell? ⟨gb207, 4, none⟩ = some (.int .i64 a0_4)) (ds := []) #[false, false, false, false, false, false, false, false, false, false, false, false] (by kernel_rfl) rfl rfl ⟨(blk_cell BK207.out 0).trans rfl, (blk_cell BK207.out 1).trans rfl, (blk_cell BK207.out 2).trans rfl, (blk_cell BK207.out 3).trans rfl, (blk_cell BK207.out 4).trans rfl⟩ (fun hHeld => ?_); refine with_tabW smaltoref03_Still.tab6 smaltoref03_Still.bits6 (fun HT_ HW_ => ?_)
              generalize wr.drew = w14 at HO_7 BK207 HB hHeld ⊢
              refine pure_ (i := 1) (N := some 23) (v := ?_) (a' := ?_) #[false, true, false, false, false, false, false, false, false, false, false, false] rfl rfl (any_of HT_.out (by kernel_rfl)) (fun _ _ _ h => h) (Or.inl ⟨by rfl, ?_⟩) ?_ ?_
              rotate_left
              · intro w'
                go_simp
                with_reducible rfl
              rotate_left
              · simp only [Act.put, List.setIfInBounds_toArray, List.set_cons_zero, List.set_cons_succ, i64_w, i32_w]
                rfl
              refine pure_ (i := 2) (N := some 24) (v := ?_) (a' := ?_) #[false, true, true, false, false, false, false, false, false, false, false, false] rfl rfl (any_of HT_.out (by kernel_rfl)) (fun _ _ _ h => h) (Or.inl ⟨by rfl, ?_⟩) ?_ ?_
              rotate_left
              · intro w'
                go_simp
                with_reducible rfl
              rotate_left
              · simp only [Act.put, List.setIfInBounds_toArray, List.set_cons_zero, List.set_cons_succ, i64_w, i32_w]
                rfl
              refine pure_ (i := 3) (N := some 25) (v := ?_) (a' := ?_) #[false, true, true, true, false, false, false, false, false, false, false, false] rfl rfl (any_of HT_.out (by kernel_rfl)) (fun _ _ _ h => h) (Or.inl ⟨by rfl, ?_⟩) ?_ ?_
              rotate_left
              · intro w'
                go_simp
                with_reducible rfl
              rotate_left
              · simp only [Act.put, List.setIfInBounds_toArray, List.set_cons_zero, List.set_cons_succ, i64_w, i32_w]
                rfl
              refine pure_ (i := 4) (N := some 26) (v := ?_) (a' := ?_) #[false, true, true, true, true, false, false, false, false, false, false, false] rfl rfl (any_of HT_.out (by kernel_rfl)) (fun _ _ _ h => h) (Or.inl ⟨by rfl, ?_⟩) ?_ ?_
              rotate_left
              · intro w'
                go_simp
                with_reducible rfl
              rotate_left
              · simp only [Act.put, List.setIfInBounds_toArray, List.set_cons_zero, List.set_cons_succ, i64_w, i32_w]
                rfl
              refine take_ (i := 0) (N := some 22) (v := ?_) (a' := ?_) #[true, true, true, true, true, false, false, false, false, false, false, false] rfl rfl (take_ofW HT_.out HW_.out (by kernel_rfl)) (fun _ _ _ h => h) (Or.inl ⟨by rfl, ?_⟩) hHeld ?_ ?_
              rotate_left
              · rintro w' ⟨s0, s1, s2, s3, s4⟩
                go_simp
                with_reducible rfl
              rotate_left
              · simp only [Act.put, List.setIfInBounds_toArray, List.set_cons_zero, List.set_cons_succ, i64_w, i32_w]
                rfl
              refine one_ (i := 5) (N := some 27) #[true, true, true, true, true, true, false, false, false, false, false, false] rfl rfl (one_of HT_.out (by kernel_rfl)) (by decide) (fun K hK => ?_)
              refine goes_ Tryd.func74 (by kernel_rfl) rfl #[.slice A1 l1.length c1, .slice A2 l2.length c2, .int .i64 x8_1] (by rfl) rfl rfl (by (try simp only [List.map_toArray, List.map_cons, List.map_nil]); first | done | rfl | (simp only [List.length_drop, List.length_take]; rfl)) ?_
              with_reducible refine (smaltoref03_With.calls k1 _ _ l1 _ _ l2 x8_1 t212 _ ?side1 ?side2 ?side3 ?side4 A10.out).mono ?_
              (case side1 => repeat (first | exact (Kd.C_below HR1.out HB.out) | (with_reducible refine Kd.C_alloc ?_ _) | (with_reducible refine Kd.C_drewN ?_ _) | (with_reducible refine Kd.C_drew ?_)))
              (case side2 => exact HC1.out)
              (case side3 => repeat (first | exact (Kd.C_below HR2.out HB.out) | (with_reducible refine Kd.C_alloc ?_ _) | (with_reducible refine Kd.C_drewN ?_ _) | (with_reducible refine Kd.C_drew ?_)))
              (case side4 => exact HC2.out)
              rintro e w15 ⟨v213, rfl, ho0, hb⟩
              refine ⟨_, rfl, ?_⟩
              have n0_ := Aside0.mk (Kd.R_elder' (by (with_reducible repeat (first | apply Kd.R_alloc | apply Kd.R_drewN | apply Kd.R_drew)); exact HO_7.out) (Kd.R_base ho0) hb)
              have n1_ := Aside0.mk (Kd.R_lower (Kd.R_new' ho0 (Kd.R_lt (by (with_reducible repeat (first | apply Kd.R_alloc | apply Kd.R_drewN | apply Kd.R_drew)); exact HO_7.out))) (below_size (by repeat (first | (with_reducible first | exact HB.out | apply below_alloc | apply pw_below_drewN | apply below_drew1 | refine below_set ?_ GE207.out) | exact HB.out))))
              have n2_ := Aside0.mk (blk_below (g := gb207) (o := .cells #[.int .i64 a0_0, .int .i64 a0_1, .int .i64 a0_2, .int .i64 a0_3, .int .i64 a0_4] 23 (0, 0)) (by (with_reducible repeat (first | refine blk_drewN ?_ _ | refine blk_drew ?_ | refine blk_alloc ?_ _)); exact BK207.out) hb)
              have n3_ := Aside0.mk (below_step (by repeat (first | (with_reducible first | exact HB.out | apply below_alloc | apply pw_below_drewN | apply below_drew1 | refine below_set ?_ GE207.out) | exact HB.out)) hb)
              clear HO_7
              clear BK207
              clear HB
              have HO_7 := n0_
              have HO214 := n1_
              have BK207 := n2_
              have HB := n3_
              clear n0_ n1_ n2_ n3_
              (try clear hb)
              (try clear hb2)
              (try clear hk)
              (try clear hi)
              (try clear ho0)
              obtain ⟨Ao16, co16, eo16⟩ := Kd.R_slice HO214.out
              (first | subst eo16 | (injection eo16 with f1_ f2_ f3_; have f4_ := f1_.symm; have f5_ := f3_.symm; clear f1_ f2_ f3_; subst f4_; subst f5_))
              refine hK.out _ _ ⟨(blk_cell BK207.out 0).trans rfl, (blk_cell BK207.out 1).trans rfl, (blk_cell BK207.out 2).trans rfl, (blk_cell BK207.out 3).trans rfl, (blk_cell BK207.out 4).trans rfl⟩ (fun hHeld => ?_)
              clear hK K
              refine norm_ (a' := ?_) ?_ ?_
              rotate_left
              · show Act.put _ (some 27) _ = _
                simp only [Act.put, List.setIfInBounds_toArray, List.set_cons_zero, List.set_cons_succ, i64_w, i32_w]
                rfl
              refine one_ (i := 6) (N := some 28) #[true, true, true, true, true, true, true, false, false, false, false, false] rfl rfl (one_of HT_.out (by kernel_rfl)) (by decide) (fun K hK => ?_)
              refine goes_ Tryd.func24 (by kernel_rfl) rfl #[.agg #[.int .i64 a0_0, .int .i64 a0_1, .int .i64 a0_2, .int .i64 a0_3, .int .i64 a0_4], .slice A1 l1.length c1, .slice Ao16 t212.length co16] (by rfl) rfl rfl (by (try simp only [List.map_toArray, List.map_cons, List.map_nil]); first | done | rfl | (simp only [List.length_drop, List.length_take]; rfl)) ?_
              with_reducible refine (smaltoref03_Goes.calls k1 a0_0 a0_1 a0_2 a0_3 a0_4 _ _ l1 _ _ t212 true t216 _ ?side1 ?side2 ?side3 ?side4 A11.out).mono ?_
              (case side1 => repeat (first | exact (Kd.C_below HR1.out HB.out) | (with_reducible refine Kd.C_alloc ?_ _) | (with_reducible refine Kd.C_drewN ?_ _) | (with_reducible refine Kd.C_drew ?_)))
              (case side2 => exact HC1.out)
              (case side3 => repeat (first | exact (Kd.R_reads' HO214.out).2.2 | (with_reducible refine Kd.C_alloc ?_ _) | (with_reducible refine Kd.C_drewN ?_ _) | (with_reducible refine Kd.C_drew ?_)))
              (case side4 => exact (Kd.R_reads' HO214.out).2.1)
              rintro e w17 ⟨rfl, hb⟩
              refine ⟨_, rfl, ?_⟩
              have n0_ := Aside0.mk (Kd.R_below (by (with_reducible repeat (first | apply Kd.R_alloc | apply Kd.R_drewN | apply Kd.R_drew)); exact HO_7.out) hb)
              have n1_ := Aside0.mk (Kd.R_below (by (with_reducible repeat (first | apply Kd.R_alloc | apply Kd.R_drewN | apply Kd.R_drew)); exact HO214.out) hb)
              have n2_ := Aside0.mk (blk_below (g := gb207) (o := .cells #[.int .i64 a0_0, .int .i64 a0_1, .int .i64 a0_2, .int .i64 a0_3, .int .i64 a0_4] 23 (0, 0)) (by (with_reducible repeat (first | refine blk_drewN ?_ _ | refine blk_drew ?_ | refine blk_alloc ?_ _)); exact BK207.out) hb)
              have n3_ := Aside0.mk (below_step (by repeat (first | (with_reducible first | exact HB.out | apply below_alloc | apply pw_below_drewN | apply below_drew1 | refine below_set ?_ GE207.out) | exact HB.out)) hb)
              clear HO_7
              clear HO214
              clear BK207
              clear HB
              have HO_7 := n0_
              have HO214 := n1_
              have BK207 := n2_
              have HB := n3_
              clear n0_ n1_ n2_ n3_
              (try clear hb)
              (try clear hb2)
              (try clear hk)
              (try clear hi)
              refine hK.out _ _ ⟨(blk_cell BK207.out 0).trans rfl, (blk_cell BK207.out 1).trans rfl, (blk_cell BK207.out 2).trans rfl, (blk_cell BK207.out 3).trans rfl, (blk_cell BK207.out 4).trans rfl⟩ (fun hHeld => ?_)
              clear hK K
              refine norm_ (a' := ?_) ?_ ?_
              rotate_left
              · show Act.put _ (some 28) _ = _
                simp only [Act.put, List.setIfInBounds_toArray, List.set_cons_zero, List.set_cons_succ, i64_w, i32_w]
                rfl
              refine pure_ (i := 7) (N := some 21) (v := ?_) (a' := ?_) #[true, true, true, true, true, true, true, true, false, false, false, false] rfl rfl (any_of HT_.out (by kernel_rfl)) (fun _ _ _ h => h) (Or.inl ⟨by rfl, ?_⟩) ?_ ?_
              rotate_left
              · intro w'
                go_simp
                with_reducible rfl
              rotate_left
              · simp only [Act.put, List.setIfInBounds_toArray, List.set_cons_zero, List.set_cons_succ, i64_w, i32_w]
                rfl
              refine pure_ (i := 8) (N := some 29) (v := ?_) (a' := ?_) #[true, true, true, true, true, true, true, true, true, false, false, false] rfl rfl (any_of HT_.out (by kernel_rfl)) (fun _ _ _ h => h) (Or.inl ⟨by rfl, ?_⟩) ?_ ?_
              rotate_left
              · intro w'
                go_simp
                with_reducible rfl
              rotate_left
              · simp only [Act.put, List.setIfInBounds_toArray, List.set_cons_zero, List.set_cons_succ, i64_w, i32_w]
                rfl
              refine pure_ (i := 9) (N := some 30) (v := ?_) (a' := ?_) #[true, true, true, true, true, true, true, true, true, true, false, false] rfl rfl (any_of HT_.out (by kernel_rfl)) (fun _ _ _ h => h) (Or.inl ⟨by rfl, ?_⟩) ?_ ?_
              rotate_left
              · intro w'
                go_simp
                with_reducible rfl
              rotate_left
              · simp only [Act.put, List.setIfInBounds_toArray, List.set_cons_zero, List.set_cons_succ, i64_w, i32_w]
                rfl
              refine pure_ (i := 10) (N := some 9) (v := ?_) (a' := ?_) #[true, true, true, true, true, true, true, true, true, true, true, false] rfl rfl (any_of HT_.out (by kernel_rfl)) (fun _ _ _ h => h) (Or.inl ⟨by rfl, ?_⟩) ?_ ?_
              rotate_left
              · intro w'
                go_simp
                with_reducible rfl
              rotate_left
              · simp only [Act.put, List.setIfInBounds_toArray, List.set_cons_zero, List.set_cons_succ, i64_w, i32_w]
                rfl
              refine pure_ (i := 11) (N := some 10) (v := ?_) (a' := ?_) #[true, true, true, true, true, true, true, true, true, true, true, true] rfl rfl (any_of HT_.out (by kernel_rfl)) (fun _ _ _ h => h) (Or.inl ⟨by rfl, ?_⟩) ?_ ?_
              rotate_left
              · intro w'
                go_simp
                with_reducible rfl
              rotate_left
              · simp only [Act.put, List.setIfInBounds_toArray, List.set_cons_zero, List.set_cons_succ, i64_w, i32_w]
                rfl
              refine done_ (done_of HT_.out (by kernel_rfl)) ?_
              try go_wp2_with (first | ((with_reducible refine gate_builtin (b := .append) (xs := #[.tmp 32, .tmp 34]) rfl ?_); at_builtin; refine Kd.R_append (Kd.int .i64) (w0 := w) w.heap.size rfl (.tmp 32) (.tmp 34) 25 3 (.int .i64 0) 8 rfl Tryd.underlying25 info3 rfl (by decide) (by omega) u7 x7_1 x8_1 [.int .i64 x8_1] (fun k_ => some k_ ≠ (.slice Ao16 t212.length co16 : Value).ownBlock) (fun _ => False) rfl rfl ?aP (fun _ hk => hk.elim) ?aF ?aO ?aB ?aS ?aL ?_; (case aP => exact rfl); (case aB => exact (by repeat (first | (with_reducible first | exact HB.out | apply below_alloc | apply pw_below_drewN | apply below_drew1 | refine below_set ?_ GE207.out) | exact HB.out))); (case aF => exact (fun k_ hk => Kd.fresh' (Kd.R_lt (by (with_reducible repeat (first | apply Kd.R_alloc | apply Kd.R_drewN | apply Kd.R_drew)); exact HO214.out)) k_ hk)); (case aO => exact (by (with_reducible repeat (first | apply Kd.R_alloc | apply Kd.R_drewN | apply Kd.R_drew)); exact Kd.R_mono HO_7.out (fun _ hk => hk.2))); (case aS => exact (below_size (by repeat (first | (with_reducible first | exact HB.out | apply below_alloc | apply pw_below_drewN | apply below_drew1 | refine below_set ?_ GE207.out) | exact HB.out)))); (case aL => have := LMc13.out; omega); intro v218 w18 ho hb hg hat; rw [← Ny217.out] at ho; have n0_ := Aside0.mk (blk_grown (g := gb207) (o := .cells #[.int .i64 a0_0, .int .i64 a0_1, .int .i64 a0_2, .int .i64 a0_3, .int .i64 a0_4] 23 (0, 0)) (by (with_reducible repeat (first | refine blk_drewN ?_ _ | refine blk_drew ?_ | refine blk_alloc ?_ _)); exact BK207.out) hg (Kd.R_ne HO_7.out BK207.out (by decide))); have n1_ := Aside0.mk (Kd.R_after (ok := (fun _ => True)) (by (with_reducible repeat (first | apply Kd.R_alloc | apply Kd.R_drewN | apply Kd.R_drew)); exact HO214.out) hg hat); have n2_ := Aside0.mk (hb); have n3_ := Aside0.mk (ho); clear BK207; clear HO214; clear HB; clear HO_7; have BK207 := n0_; have HO214 := n1_; have HB := n2_; have HO219 := n3_; clear n0_ n1_ n2_ n3_; clear ho hb hg hat))
              go_roundg k1
              case measure => have := HK1.out; omega
              case rel => exact ⟨(y217), (wrap64 (x8_1 + 1)), (by first | rfl | (simp; done) | (simp [*]; done)), H', ⟨by have := HK1.out; omega⟩, ⟨by (with_reducible repeat (first | apply Kd.R_alloc | apply Kd.R_drewN | apply Kd.R_drew)); exact Kd.R_mono HO219.out (fun _ hk => trivial)⟩, ⟨by (with_reducible repeat (first | refine blk_drewN ?_ _ | refine blk_drew ?_ | refine blk_alloc ?_ _)); exact BK207.out⟩, ⟨by repeat (first | (with_reducible first | exact HB.out | apply below_alloc | apply pw_below_drewN | apply below_drew1 | refine below_set ?_ GE207.out) | exact HB.out)⟩⟩
            · rw [if_neg c13] at H
              exact absurd H (by simp)
          · replace c12 := Bool.eq_false_iff.mpr c12
            subst c12
            have H1 : (smaltoref03_Still.l0 k1 l1 l2 x7_1 (wrap64 (x8_1 + 1)) a0_0 a0_1 a0_2 a0_3 a0_4) = some r := by rw [if_neg (show ¬ (false = true) by decide)] at H; exact H
            clear H
            have H := H1
            clear H1
            have H' := Aside0.mk H
            clear H
            try go_wp2_with (first | ((with_reducible refine gate_callee (f := 73) rfl ?_); refine goesL_ (some 20) rfl rfl Tryd.func73 (by kernel_rfl) rfl #[.slice A2 l2.length c2, .int .i64 x8_1] rfl (by (try simp only [List.map_toArray, List.map_cons, List.map_nil]); first | done | rfl | (simp only [List.length_drop, List.length_take]; rfl)) ?_; (with_reducible refine (smaltoref03_Has.calls k1 _ _ l2 x8_1 false _ ?side1 ?side2 A8.out).mono ?_); (case side1 => repeat (first | exact (Kd.C_below HR2.out HB.out) | (with_reducible refine Kd.C_alloc ?_ _) | (with_reducible refine Kd.C_drewN ?_ _) | (with_reducible refine Kd.C_drew ?_))); (case side2 => exact HC2.out); rintro e w' ⟨rfl, ⟨nd, rfl⟩⟩; refine ⟨_, rfl, ?_⟩))
            (try (rw [drewN_self wr]; generalize hq_ : World.drewN wr _ = wr; have n0_ : Aside0 (Kd.R (Kd.int .i64) 3 wr w.heap.size (fun _ => True) u7 x7_1) := ⟨by rw [← hq_]; exact (by (with_reducible repeat (first | apply Kd.R_alloc | apply Kd.R_drewN | apply Kd.R_drew)); exact HO_7.out)⟩; have n1_ : Aside0 (wr.heap[gb207]? = some (.cells #[.int .i64 a0_0, .int .i64 a0_1, .int .i64 a0_2, .int .i64 a0_3, .int .i64 a0_4] 23 (0, 0))) := ⟨by rw [← hq_]; exact (by (with_reducible repeat (first | refine blk_drewN ?_ _ | refine blk_drew ?_ | refine blk_alloc ?_ _)); exact BK207.out)⟩; have n2_ : Aside0 (Below w.heap.size w wr) := ⟨by rw [← hq_]; exact (by repeat (first | (with_reducible first | exact HB.out | apply below_alloc | apply pw_below_drewN | apply below_drew1 | refine below_set ?_ GE207.out) | exact HB.out))⟩; clear HO_7 BK207 HB hq_; have HO_7 := n0_; have BK207 := n1_; have HB := n2_; clear n0_ n1_ n2_))
            have n0_ := Aside0.mk (Kd.R_drew HO_7.out)
            have n1_ := Aside0.mk (blk_drew BK207.out)
            have n2_ := Aside0.mk (below_drew1 HB.out)
            clear HO_7
            clear BK207
            clear HB
            have HO_7 := n0_
            have BK207 := n1_
            have HB := n2_
            clear n0_ n1_ n2_
            refine start_ (n := 12) (S := fun w' => w'.cell? ⟨gb207, 0, none⟩ = some (.int .i64 a0_0) ∧ w'.cell? ⟨gb207, 1, none⟩ = some (.int .i64 a0_1) ∧ w'.cell? ⟨gb207, 2, none⟩ = some (.int .i64 a0_2) ∧ w'.cell? ⟨gb207, 3, none⟩ = some (.int .i64 a0_3) ∧ w'.cell? ⟨gb207, 4, none⟩ = some (.int .i64 a0_4)) (ds := []) #[false, false, false, false, false, false, false, false, false, false, false, false] (by kernel_rfl) rfl rfl ⟨(blk_cell BK207.out 0).trans rfl, (blk_cell BK207.out 1).trans rfl, (blk_cell BK207.out 2).trans rfl, (blk_cell BK207.out 3).trans rfl, (blk_cell BK207.out 4).trans rfl⟩ (fun hHeld => ?_); refine with_tabW smaltoref03_Still.tab6 smaltoref03_Still.bits6 (fun HT_ HW_ => ?_)
            generalize wr.drew = w19 at HO_7 BK207 HB hHeld ⊢
            refine pure_ (i := 1) (N := some 23) (v := ?_) (a' := ?_) #[false, true, false, false, false, false, false, false, false, false, false, false] rfl rfl (any_of HT_.out (by kernel_rfl)) (fun _ _ _ h => h) (Or.inl ⟨by rfl, ?_⟩) ?_ ?_
            rotate_left
            · intro w'
              go_simp
              with_reducible rfl
            rotate_left
            · simp only [Act.put, List.setIfInBounds_toArray, List.set_cons_zero, List.set_cons_succ, i64_w, i32_w]
              rfl
            refine pure_ (i := 2) (N := some 24) (v := ?_) (a' := ?_) #[false, true, true, false, false, false, false, false, false, false, false, false] rfl rfl (any_of HT_.out (by kernel_rfl)) (fun _ _ _ h => h) (Or.inl ⟨by rfl, ?_⟩) ?_ ?_
            rotate_left
            · intro w'
              go_simp
              with_reducible rfl
            rotate_left
            · simp only [Act.put, List.setIfInBounds_toArray, List.set_cons_zero, List.set_cons_succ, i64_w, i32_w]
              rfl
            refine pure_ (i := 3) (N := some 25) (v := ?_) (a' := ?_) #[false, true, true, true, false, false, false, false, false, false, false, false] rfl rfl (any_of HT_.out (by kernel_rfl)) (fun _ _ _ h => h) (Or.inl ⟨by rfl, ?_⟩) ?_ ?_
            rotate_left
            · intro w'
              go_simp
              with_reducible rfl
            rotate_left
            · simp only [Act.put, List.setIfInBounds_toArray, List.set_cons_zero, List.set_cons_succ, i64_w, i32_w]
              rfl
            refine pure_ (i := 4) (N := some 26) (v := ?_) (a' := ?_) #[false, true, true, true, true, false, false, false, false, false, false, false] rfl rfl (any_of HT_.out (by kernel_rfl)) (fun _ _ _ h => h) (Or.inl ⟨by rfl, ?_⟩) ?_ ?_
            rotate_left
            · intro w'
              go_simp
              with_reducible rfl
            rotate_left
            · simp only [Act.put, List.setIfInBounds_toArray, List.set_cons_zero, List.set_cons_succ, i64_w, i32_w]
              rfl
            refine take_ (i := 0) (N := some 22) (v := ?_) (a' := ?_) #[true, true, true, true, true, false, false, false, false, false, false, false] rfl rfl (take_ofW HT_.out HW_.out (by kernel_rfl)) (fun _ _ _ h => h) (Or.inl ⟨by rfl, ?_⟩) hHeld ?_ ?_
            rotate_left
            · rintro w' ⟨s0, s1, s2, s3, s4⟩
              go_simp
              with_reducible rfl
            rotate_left
            · simp only [Act.put, List.setIfInBounds_toArray, List.set_cons_zero, List.set_cons_succ, i64_w, i32_w]
              rfl
            refine one_ (i := 5) (N := some 27) #[true, true, true, true, true, true, false, false, false, false, false, false] rfl rfl (one_of HT_.out (by kernel_rfl)) (by decide) (fun K hK => ?_)
            refine goes_ Tryd.func74 (by kernel_rfl) rfl #[.slice A1 l1.length c1, .slice A2 l2.length c2, .int .i64 x8_1] (by rfl) rfl rfl (by (try simp only [List.map_toArray, List.map_cons, List.map_nil]); first | done | rfl | (simp only [List.length_drop, List.length_take]; rfl)) ?_
            with_reducible refine (smaltoref03_With.calls k1 _ _ l1 _ _ l2 x8_1 t212 _ ?side1 ?side2 ?side3 ?side4 A10.out).mono ?_
            (case side1 => repeat (first | exact (Kd.C_below HR1.out HB.out) | (with_reducible refine Kd.C_alloc ?_ _) | (with_reducible refine Kd.C_drewN ?_ _) | (with_reducible refine Kd.C_drew ?_)))
            (case side2 => exact HC1.out)
            (case side3 => repeat (first | exact (Kd.C_below HR2.out HB.out) | (with_reducible refine Kd.C_alloc ?_ _) | (with_reducible refine Kd.C_drewN ?_ _) | (with_reducible refine Kd.C_drew ?_)))
            (case side4 => exact HC2.out)
            rintro e w20 ⟨v213, rfl, ho0, hb⟩
            refine ⟨_, rfl, ?_⟩
            have n0_ := Aside0.mk (Kd.R_elder' (by (with_reducible repeat (first | apply Kd.R_alloc | apply Kd.R_drewN | apply Kd.R_drew)); exact HO_7.out) (Kd.R_base ho0) hb)
            have n1_ := Aside0.mk (Kd.R_lower (Kd.R_new' ho0 (Kd.R_lt (by (with_reducible repeat (first | apply Kd.R_alloc | apply Kd.R_drewN | apply Kd.R_drew)); exact HO_7.out))) (below_size (by repeat (first | (with_reducible first | exact HB.out | apply below_alloc | apply pw_below_drewN | apply below_drew1 | refine below_set ?_ GE207.out) | exact HB.out))))
            have n2_ := Aside0.mk (blk_below (g := gb207) (o := .cells #[.int .i64 a0_0, .int .i64 a0_1, .int .i64 a0_2, .int .i64 a0_3, .int .i64 a0_4] 23 (0, 0)) (by (with_reducible repeat (first | refine blk_drewN ?_ _ | refine blk_drew ?_ | refine blk_alloc ?_ _)); exact BK207.out) hb)
            have n3_ := Aside0.mk (below_step (by repeat (first | (with_reducible first | exact HB.out | apply below_alloc | apply pw_below_drewN | apply below_drew1 | refine below_set ?_ GE207.out) | exact HB.out)) hb)
            clear HO_7
            clear BK207
            clear HB
            have HO_7 := n0_
            have HO214 := n1_
            have BK207 := n2_
            have HB := n3_
            clear n0_ n1_ n2_ n3_
            (try clear hb)
            (try clear hb2)
            (try clear hk)
            (try clear hi)
            (try clear ho0)
            obtain ⟨Ao21, co21, eo21⟩ := Kd.R_slice HO214.out
            (first | subst eo21 | (injection eo21 with f1_ f2_ f3_; have f4_ := f1_.symm; have f5_ := f3_.symm; clear f1_ f2_ f3_; subst f4_; subst f5_))
            refine hK.out _ _ ⟨(blk_cell BK207.out 0).trans rfl, (blk_cell BK207.out 1).trans rfl, (blk_cell BK207.out 2).trans rfl, (blk_cell BK207.out 3).trans rfl, (blk_cell BK207.out 4).trans rfl⟩ (fun hHeld => ?_)
            clear hK K
            refine norm_ (a' := ?_) ?_ ?_
            rotate_left
            · show Act.put _ (some 27) _ = _
              simp only [Act.put, List.setIfInBounds_toArray, List.set_cons_zero, List.set_cons_succ, i64_w, i32_w]
              rfl
            refine one_ (i := 6) (N := some 28) #[true, true, true, true, true, true, true, false, false, false, false, false] rfl rfl (one_of HT_.out (by kernel_rfl)) (by decide) (fun K hK => ?_)
            refine goes_ Tryd.func24 (by kernel_rfl) rfl #[.agg #[.int .i64 a0_0, .int .i64 a0_1, .int .i64 a0_2, .int .i64 a0_3, .int .i64 a0_4], .slice A1 l1.length c1, .slice Ao21 t212.length co21] (by rfl) rfl rfl (by (try simp only [List.map_toArray, List.map_cons, List.map_nil]); first | done | rfl | (simp only [List.length_drop, List.length_take]; rfl)) ?_
            with_reducible refine (smaltoref03_Goes.calls k1 a0_0 a0_1 a0_2 a0_3 a0_4 _ _ l1 _ _ t212 false t216 _ ?side1 ?side2 ?side3 ?side4 A11.out).mono ?_
            (case side1 => repeat (first | exact (Kd.C_below HR1.out HB.out) | (with_reducible refine Kd.C_alloc ?_ _) | (with_reducible refine Kd.C_drewN ?_ _) | (with_reducible refine Kd.C_drew ?_)))
            (case side2 => exact HC1.out)
            (case side3 => repeat (first | exact (Kd.R_reads' HO214.out).2.2 | (with_reducible refine Kd.C_alloc ?_ _) | (with_reducible refine Kd.C_drewN ?_ _) | (with_reducible refine Kd.C_drew ?_)))
            (case side4 => exact (Kd.R_reads' HO214.out).2.1)
            rintro e w22 ⟨rfl, hb⟩
            refine ⟨_, rfl, ?_⟩
            have n0_ := Aside0.mk (Kd.R_below (by (with_reducible repeat (first | apply Kd.R_alloc | apply Kd.R_drewN | apply Kd.R_drew)); exact HO_7.out) hb)
            have n1_ := Aside0.mk (Kd.R_below (by (with_reducible repeat (first | apply Kd.R_alloc | apply Kd.R_drewN | apply Kd.R_drew)); exact HO214.out) hb)
            have n2_ := Aside0.mk (blk_below (g := gb207) (o := .cells #[.int .i64 a0_0, .int .i64 a0_1, .int .i64 a0_2, .int .i64 a0_3, .int .i64 a0_4] 23 (0, 0)) (by (with_reducible repeat (first | refine blk_drewN ?_ _ | refine blk_drew ?_ | refine blk_alloc ?_ _)); exact BK207.out) hb)
            have n3_ := Aside0.mk (below_step (by repeat (first | (with_reducible first | exact HB.out | apply below_alloc | apply pw_below_drewN | apply below_drew1 | refine below_set ?_ GE207.out) | exact HB.out)) hb)
            clear HO_7
            clear HO214
            clear BK207
            clear HB
            have HO_7 := n0_
            have HO214 := n1_
            have BK207 := n2_
            have HB := n3_
            clear n0_ n1_ n2_ n3_
            (try clear hb)
            (try clear hb2)
            (try clear hk)
            (try clear hi)
            refine hK.out _ _ ⟨(blk_cell BK207.out 0).trans rfl, (blk_cell BK207.out 1).trans rfl, (blk_cell BK207.out 2).trans rfl, (blk_cell BK207.out 3).trans rfl, (blk_cell BK207.out 4).trans rfl⟩ (fun hHeld => ?_)
            clear hK K
            refine norm_ (a' := ?_) ?_ ?_
            rotate_left
            · show Act.put _ (some 28) _ = _
              simp only [Act.put, List.setIfInBounds_toArray, List.set_cons_zero, List.set_cons_succ, i64_w, i32_w]
              rfl
            refine pure_ (i := 7) (N := some 21) (v := ?_) (a' := ?_) #[true, true, true, true, true, true, true, true, false, false, false, false] rfl rfl (any_of HT_.out (by kernel_rfl)) (fun _ _ _ h => h) (Or.inl ⟨by rfl, ?_⟩) ?_ ?_
            rotate_left
            · intro w'
              go_simp
              with_reducible rfl
            rotate_left
            · simp only [Act.put, List.setIfInBounds_toArray, List.set_cons_zero, List.set_cons_succ, i64_w, i32_w]
              rfl
            refine pure_ (i := 8) (N := some 29) (v := ?_) (a' := ?_) #[true, true, true, true, true, true, true, true, true, false, false, false] rfl rfl (any_of HT_.out (by kernel_rfl)) (fun _ _ _ h => h) (Or.inl ⟨by rfl, ?_⟩) ?_ ?_
            rotate_left
            · intro w'
              go_simp
              with_reducible rfl
            rotate_left
            · simp only [Act.put, List.setIfInBounds_toArray, List.set_cons_zero, List.set_cons_succ, i64_w, i32_w]
              rfl
            refine pure_ (i := 9) (N := some 30) (v := ?_) (a' := ?_) #[true, true, true, true, true, true, true, true, true, true, false, false] rfl rfl (any_of HT_.out (by kernel_rfl)) (fun _ _ _ h => h) (Or.inl ⟨by rfl, ?_⟩) ?_ ?_
            rotate_left
            · intro w'
              go_simp
              with_reducible rfl
            rotate_left
            · simp only [Act.put, List.setIfInBounds_toArray, List.set_cons_zero, List.set_cons_succ, i64_w, i32_w]
              rfl
            refine pure_ (i := 10) (N := some 9) (v := ?_) (a' := ?_) #[true, true, true, true, true, true, true, true, true, true, true, false] rfl rfl (any_of HT_.out (by kernel_rfl)) (fun _ _ _ h => h) (Or.inl ⟨by rfl, ?_⟩) ?_ ?_
            rotate_left
            · intro w'
              go_simp
              with_reducible rfl
            rotate_left
            · simp only [Act.put, List.setIfInBounds_toArray, List.set_cons_zero, List.set_cons_succ, i64_w, i32_w]
              rfl
            refine pure_ (i := 11) (N := some 10) (v := ?_) (a' := ?_) #[true, true, true, true, true, true, true, true, true, true, true, true] rfl rfl (any_of HT_.out (by kernel_rfl)) (fun _ _ _ h => h) (Or.inl ⟨by rfl, ?_⟩) ?_ ?_
            rotate_left
            · intro w'
              go_simp
              with_reducible rfl
            rotate_left
            · simp only [Act.put, List.setIfInBounds_toArray, List.set_cons_zero, List.set_cons_succ, i64_w, i32_w]
              rfl
            refine done_ (done_of HT_.out (by kernel_rfl)) ?_
            try go_wp2
            go_roundg k1
            case measure => have := HK1.out; omega
            case rel => exact ⟨(x7_1), (wrap64 (x8_1 + 1)), (by first | rfl | (simp; done) | (simp [*]; done)), H', ⟨by have := HK1.out; omega⟩, ⟨by (with_reducible repeat (first | apply Kd.R_alloc | apply Kd.R_drewN | apply Kd.R_drew)); exact Kd.R_mono HO_7.out (fun _ hk => trivial)⟩, ⟨by (with_reducible repeat (first | refine blk_drewN ?_ _ | refine blk_drew ?_ | refine blk_alloc ?_ _)); exact BK207.out⟩, ⟨by repeat (first | (with_reducible first | exact HB.out | apply below_alloc | apply pw_below_drewN | apply below_drew1 | refine below_set ?_ GE207.out) | exact HB.out)⟩⟩
      · rw [if_neg c7] at H
        have c7b0 : decide (x8_1 < (l1.length : Int)) = false := decide_eq_false c7
        clear c7
        obtain rfl := Option.some.inj H
        go_wp2
        go_ret
        exact ⟨_, by first | rfl | (simp [errW_none, errW_some] <;> rfl) | (simp [*, errW_none, errW_some] <;> rfl), by (with_reducible repeat (first | apply Kd.R_alloc | apply Kd.R_drewN | apply Kd.R_drew)); exact HO_7.out, by repeat (first | (with_reducible first | exact HB.out | apply below_alloc | apply pw_below_drewN | apply below_drew1 | refine below_set ?_ GE207.out) | exact HB.out)⟩
end Go.Proofs.YtbijamlgcebgeaaDoor.Q

-- part LA
namespace Go.Proofs.YtbijamlgcebgeaaDoor.Hand
open Go.RowKit Go.Shelf Go.Sort Go.Proofs.YtbijamlgcebgeaaDoorW.PrintWords Go.Proofs.YtbijamlgcebgeaaDoorW.PrintMore Go.Proofs.YtbijamlgcebgeaaDoor.Q
theorem sum_sub (f : Nat → Int) (hf : ∀ i, 0 ≤ f i) : ∀ {is js : List Nat}, is.Sublist js → ∀ a b : Int, a ≤ b → (is.map f).foldl (· + ·) a ≤ (js.map f).foldl (· + ·) b := by
  intro is js h
  induction h with
  | slnil => intro a b h; exact h
  | cons i _ ih => intro a b h; exact ih a (b + f i) (by have := hf i; omega)
  | cons_cons i _ ih => intro a b h; exact ih (a + f i) (b + f i) (by omega)
theorem heat_sub (l : List S74) : ∀ {is js : List Nat}, is.Sublist js → ∀ a b : Int × Int, a.1 ≤ b.1 → b.2 ≤ a.2 →
    (is.foldl (fun h i => (mx h.1 (l.getD i z74).f3.f0, mn h.2 (l.getD i z74).f3.f1)) a).1 ≤ (js.foldl (fun h i => (mx h.1 (l.getD i z74).f3.f0, mn h.2 (l.getD i z74).f3.f1)) b).1 ∧
    (js.foldl (fun h i => (mx h.1 (l.getD i z74).f3.f0, mn h.2 (l.getD i z74).f3.f1)) b).2 ≤ (is.foldl (fun h i => (mx h.1 (l.getD i z74).f3.f0, mn h.2 (l.getD i z74).f3.f1)) a).2 := by
  intro is js h
  induction h with
  | slnil => intro a b h1 h2; exact ⟨h1, h2⟩
  | cons i _ ih =>
    intro a b h1 h2
    refine ih a _ ?_ ?_
    · show a.1 ≤ mx b.1 _; unfold mx; split <;> omega
    · show mn b.2 _ ≤ a.2; unfold mn; split <;> omega
  | cons_cons i _ ih =>
    intro a b h1 h2
    refine ih _ _ ?_ ?_
    · show mx a.1 _ ≤ mx b.1 _; unfold mx; split <;> split <;> omega
    · show mn b.2 _ ≤ mn a.2 _; unfold mn; split <;> split <;> omega
theorem high_sub (l : List S74) : ∀ {is js : List Nat}, is.Sublist js → ∀ a b : Int × Int, b.1 ≤ a.1 → a.2 ≤ b.2 →
    (js.foldl (fun h i => (mn h.1 (l.getD i z74).f1, mx h.2 (l.getD i z74).f1)) b).1 ≤ (is.foldl (fun h i => (mn h.1 (l.getD i z74).f1, mx h.2 (l.getD i z74).f1)) a).1 ∧
    (is.foldl (fun h i => (mn h.1 (l.getD i z74).f1, mx h.2 (l.getD i z74).f1)) a).2 ≤ (js.foldl (fun h i => (mn h.1 (l.getD i z74).f1, mx h.2 (l.getD i z74).f1)) b).2 := by
  intro is js h
  induction h with
  | slnil => intro a b h1 h2; exact ⟨h1, h2⟩
  | cons i _ ih =>
    intro a b h1 h2
    refine ih a _ ?_ ?_
    · show mn b.1 _ ≤ a.1; unfold mn; split <;> omega
    · show a.2 ≤ mx b.2 _; unfold mx; split <;> omega
  | cons_cons i _ ih =>
    intro a b h1 h2
    refine ih _ _ ?_ ?_
    · show mn b.1 _ ≤ mn a.1 _; unfold mn; split <;> split <;> omega
    · show mx a.2 _ ≤ mx b.2 _; unfold mx; split <;> split <;> omega
/-- Room that is nowhere less. -/
def RoomLe (n : Nat) (r s : Room) : Prop := ∀ i, i < n → r.get i ≤ s.get i
theorem barsTry_isSome {g : Room → Option (List Int)} {c : Int} {free : Room} : ∀ (d k : Nat), (barsTry g c free d k).isSome = true ↔ ∃ x, k ≤ x ∧ x < k + d ∧ 0 ≤ free.get x - c ∧ (g (free.put x (free.get x - c))).isSome = true := by
  intro d
  induction d with
  | zero => intro k; simp [barsTry]; omega
  | succ d ih =>
    intro k
    unfold barsTry
    split
    · rename_i hneg
      rw [ih]
      constructor
      · rintro ⟨x, h1, h2, h3, h4⟩; exact ⟨x, by omega, by omega, h3, h4⟩
      · rintro ⟨x, h1, h2, h3, h4⟩
        have : x ≠ k := by rintro rfl; omega
        exact ⟨x, by omega, by omega, h3, h4⟩
    · rename_i hneg
      split
      · rename_i l hl
        simp only [Option.isSome_some, true_iff]
        exact ⟨k, Nat.le_refl _, by omega, by omega, by rw [hl]; rfl⟩
      · rename_i hl
        rw [ih]
        constructor
        · rintro ⟨x, h1, h2, h3, h4⟩; exact ⟨x, by omega, by omega, h3, h4⟩
        · rintro ⟨x, h1, h2, h3, h4⟩
          have : x ≠ k := by rintro rfl; rw [hl] at h4; cases h4
          exact ⟨x, by omega, by omega, h3, h4⟩
theorem bars_sub (F : Furn) (hb : F.bars.toNat ≤ 3) (hc : ∀ i, 0 ≤ (rd_T74 F.l (i : Nat)).f0 + F.gap) : ∀ {is js : List Nat}, is.Sublist js → ∀ r s : Room, RoomLe F.bars.toNat s r → (barsB F js s).isSome = true → (barsB F is r).isSome = true := by
  intro is js h
  induction h with
  | slnil => intro r s _ _; rfl
  | cons i hs ih =>
    intro r s hle h
    unfold barsB at h
    obtain ⟨x, h1, h2, h3, h4⟩ := (barsTry_isSome _ _).1 h
    refine ih r _ ?_ h4
    intro y hy
    rw [Room.get_put _ _ _ (by omega) _ (by omega)]
    have hc' := hc i
    have := hle y hy
    split
    · rename_i hxy; subst hxy; omega
    · exact this
  | cons_cons i hs ih =>
    intro r s hle h
    unfold barsB at h ⊢
    obtain ⟨x, h1, h2, h3, h4⟩ := (barsTry_isSome _ _).1 h
    refine (barsTry_isSome _ _).2 ⟨x, h1, h2, by have := hle x (by omega); omega, ?_⟩
    refine ih _ _ ?_ h4
    intro y hy
    rw [Room.get_put _ _ _ (by omega) _ (by omega), Room.get_put _ _ _ (by omega) _ (by omega)]
    have h5 := hle y hy
    have h6 := hle x (by omega)
    split <;> omega
theorem bits_sub {p s : Nat} (h : p &&& s = p) : (bitsOf p).Sublist (bitsOf s) := by
  unfold bitsOf
  have e : (List.range 6).filter (fun i => p.testBit i) = ((List.range 6).filter (fun i => s.testBit i)).filter (fun i => p.testBit i) := by
    rw [List.filter_filter]
    congr 1
    funext i
    rw [← h, Nat.testBit_and]
    cases p.testBit i <;> cases s.testBit i <;> rfl
  rw [e]
  exact List.filter_sublist
theorem goesB_sub {F : Furn} (hF : F.Ok) {p s : Nat} (h : p &&& s = p) (hi : ∀ i ∈ bitsOf s, i < F.l.length) (hg : goesB F s = true) : goesB F p = true := by
  have hsub := bits_sub h
  unfold goesB highW fitsB at *
  simp only [Bool.and_eq_true, decide_eq_true_eq, Bool.not_eq_true', Bool.or_eq_false_iff, decide_eq_false_iff_not] at hg ⊢
  obtain ⟨h1, ⟨h2, h3⟩, h4⟩ := hg
  have hat : ∀ i : Nat, 0 ≤ (F.l.getD i z74).f2.f1 ∧ 0 ≤ (F.l.getD i z74).f0 := by
    intro i
    rw [List.getD_eq_getElem?_getD]
    by_cases hil : i < F.l.length
    · rw [List.getElem?_eq_getElem hil]
      have := hF.signs _ (List.getElem_mem hil)
      show 0 ≤ (F.l[i]).f2.f1 ∧ 0 ≤ (F.l[i]).f0
      omega
    · rw [List.getElem?_eq_none (by omega)]
      exact ⟨by decide, by decide⟩
  refine ⟨?_, ⟨?_, ?_⟩, ?_⟩
  · have := sum_sub (fun i => (F.l.getD i z74).f2.f1) (fun i => (hat i).1) hsub 0 0 (Int.le_refl _)
    exact Int.le_trans this h1
  · have := heat_sub F.l hsub (0, 1000) (0, 1000) (Int.le_refl _) (Int.le_refl _)
    unfold heatB at h2 ⊢
    omega
  · have := high_sub F.l hsub (100, 0) (100, 0) (Int.le_refl _) (Int.le_refl _)
    unfold alikeB highB at h3 ⊢
    simp only [Bool.not_eq_false', decide_eq_true_eq] at h3 ⊢
    omega
  · have hb := hF.bars
    have hgp := hF.gap
    have := bars_sub F (by omega) (fun i => by have := (hat i).2; unfold rd_T74; simp only [Int.toNat_natCast]; omega) hsub F.empty F.empty (fun _ _ => Int.le_refl _)
    cases hq : barsB F (bitsOf s) F.empty with
    | none => rw [hq] at h4; cases h4
    | some m =>
      have := this (by rw [hq]; rfl)
      cases hq2 : barsB F (bitsOf p) F.empty with
      | none => rw [hq2] at this; cases this
      | some m2 => rfl
end Go.Proofs.YtbijamlgcebgeaaDoor.Hand

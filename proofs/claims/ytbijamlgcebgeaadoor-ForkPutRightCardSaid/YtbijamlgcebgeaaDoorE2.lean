/- What the laws about the fork share: words about rows and regions, the walks of the package fork and of the references, and what they compute. Part 2 of 4. -/
import Derived.Test.YtbijamlgcebgeaaDoorE1
import Derived.Test.YtbijamlgcebgeaaDoorProg
import Derived.WalkKit
import Derived.KernelRfl
import Derived.Deep.QuietTactic
import Derived.BigQuiet
import Derived.Lib.Hide
import Derived.Deep.LoopGhost
import Derived.Below
import Derived.Deep.Draws
import Derived.Deep.AppendLies
import Derived.Maps.AppendAt
import Derived.OwnWalk
import Derived.Laws.BytesArg
import Derived.Laws.MakeOwn
import Derived.Laws.OwnMore
import Derived.Deep.OwnRows
import Derived.Tactics
import Derived.Lib.ConvBytes
import Derived.Laws.Slices
import Derived.RowKit3
import Derived.WideLaws
import Derived.Deep.DeepCutAuto
import Derived.Deep.CutBlock
import Derived.Deep.RegionHeld3
import Derived.Laws.Rows
import Derived.Lib.AppendStr
import Derived.ArgAppend
import Derived.Laws.IdiomCopy
import Derived.OrdersHeld
import Derived.Laws.BitsLemmas
import Derived.RowKit
import Derived.RangeFuncNested
import Derived.RangeFuncBound
import Derived.RangeFuncCalls
import Derived.RangeFuncLeaves
import Derived.Shelf.Abstract
import Derived.OwnWalkIn
import Derived.TacticsInMore
import Derived.LoopNIn
import Derived.LoopIn
import Derived.Shelf.Spec.TrailingZeros
import Derived.StillTailTactics
import Derived.Lib.QuietBelow
set_option linter.unusedVariables false
set_option linter.unusedSimpArgs false
-- part HA
namespace Go.Proofs.YtbijamlgcebgeaaDoor.Hand
open Go.RowKit Go.Proofs.YtbijamlgcebgeaaDoorW.PrintWords
theorem ret_bool {a b : Bool} (h : a = b) : Ending.returned (.bool a) = .returned (.bool b) := by rw [h]
theorem ret_int {k : IntKind} {a b : Int} (h : a = b) : Ending.returned (.int k a) = .returned (.int k b) := by rw [h]
def outB (a b n : Int) : Bool := decide (n < a) || decide (b < n)
theorem within1_calls (n a b : Int) (ba bb : Nat) (w : World) (ha : w.cell? ⟨ba, 0, none⟩ = some (.int .i64 a)) (hb : w.cell? ⟨bb, 0, none⟩ = some (.int .i64 b)) :
    Calls Tryd.prog 87 #[.int .i64 n, .pointer (some ⟨ba, 0, none⟩), .pointer (some ⟨bb, 0, none⟩)] w fun e w' => e = .returned (.bool (outB a b n)) ∧ w = w' := by
  go_enter Tryd.func87, Tryd.ntmps87
  by_cases h : n < a
  · have h1 : decide (n < a) = true := decide_eq_true h
    go_wp2
    go_ret
    exact ⟨ret_bool (by simp [outB, h]), rfl⟩
  · have h1 : decide (n < a) = false := decide_eq_false h
    go_wp2
    go_ret
    exact ⟨ret_bool (by simp only [outB, h1, Bool.false_or]), rfl⟩
def findI (p : Int → Bool) : List Int → Int → Int
  | [], _ => -1
  | x :: xs, i => if p x then i else findI p xs (i + 1)
theorem findI_drop (p : Int → Bool) (xs : List Int) (k : Nat) (h : k < xs.length) : findI p (xs.drop k) k = if p (rd xs k) then (k : Int) else findI p (xs.drop (k + 1)) ((k + 1 : Nat) : Int) := by
  rw [List.drop_eq_getElem_cons h]
  simp only [findI]
  rw [show rd xs (k : Int) = xs[k] from by simp [rd, List.getD_eq_getElem?_getD, List.getElem?_eq_getElem h]]
  rfl
theorem indexI_calls (xs : List Int) (A : Option Addr) (c : Nat) (a b : Int) (ba bb : Nat) (w : World) (hr : Kd.C (Kd.int .i64) w A xs.length xs)
    (ha : w.cell? ⟨ba, 0, none⟩ = some (.int .i64 a)) (hb : w.cell? ⟨bb, 0, none⟩ = some (.int .i64 b)) :
    Calls Tryd.prog 96 #[.slice A xs.length c, .func (.func 87) #[] #[.pointer (some ⟨ba, 0, none⟩), .pointer (some ⟨bb, 0, none⟩)]] w fun e w' => e = .returned (.int .i64 (findI (outB a b) xs 0)) ∧ Below w.heap.size w w' := by
  have hm := hr.2.1
  go_enter Tryd.func96, Tryd.ntmps96
  go_wp2
  go_loopw [5, 8] (fun v i w' => ∃ k : Nat, k ≤ xs.length ∧ i = .int .i64 k ∧ Hid (findI (outB a b) xs 0 = findI (outB a b) (xs.drop k) k) ∧ w = w') (fun _ i _ => xs.length - (intOf i).toNat)
  case atStart => exact ⟨0, Nat.zero_le _, rfl, rfl, rfl⟩
  case round =>
    obtain ⟨k, hk, rfl, hf, rfl⟩ := hrel
    by_cases hlt : k < xs.length
    · obtain ⟨ad, e, hc⟩ := Kd.at_int hr k (by omega) (by omega)
      subst e
      rw [Int.toNat_natCast] at hc
      have hd := Lib.hid (findI_drop (outB a b) xs k hlt)
      by_cases hp : outB a b (rd xs k) = true
      · go_wp2_with (go_at_call 87; refine (within1_calls _ _ _ _ _ _ ha hb).mono ?_; rintro e w' ⟨rfl, rfl⟩)
        go_ret
        exact ⟨ret_int (by rw [hf.out, hd.out, if_pos hp]), Below.refl _ _⟩
      · replace hp := Bool.eq_false_iff.mpr hp
        go_wp2_with (go_at_call 87; refine (within1_calls _ _ _ _ _ _ ha hb).mono ?_; rintro e w' ⟨rfl, rfl⟩)
        go_roundw
        case rel => exact ⟨k + 1, by omega, by go_num, Lib.hid (by rw [hf.out, hd.out, hp]; rfl), trivial⟩
        case measure => simp [intOf]; omega
    · go_wp2
      go_ret
      exact ⟨ret_int (by rw [hf.out, List.drop_eq_nil_of_le (by omega)]; rfl), Below.refl _ _⟩
theorem findI_iff (p : Int → Bool) (xs : List Int) : ∀ i : Int, 0 ≤ i → (0 ≤ findI p xs i ↔ xs.any p = true) := by
  induction xs with
  | nil => intro i _; simp [findI]
  | cons x xs ih =>
    intro i hi
    unfold findI
    rw [List.any_cons]
    by_cases hp : p x = true
    · rw [if_pos hp, hp]
      simp [hi]
    · rw [if_neg hp, Bool.eq_false_iff.mpr hp, Bool.false_or]
      exact ih (i + 1) (by omega)
theorem findI_any (p : Int → Bool) (xs : List Int) : decide (0 ≤ findI p xs 0) = xs.any p := by
  rw [Bool.eq_iff_iff, decide_eq_true_iff]
  exact findI_iff p xs 0 (Int.le_refl 0)
theorem containsI_calls (xs : List Int) (A : Option Addr) (c : Nat) (a b : Int) (ba bb : Nat) (w : World) (hr : Kd.C (Kd.int .i64) w A xs.length xs)
    (ha : w.cell? ⟨ba, 0, none⟩ = some (.int .i64 a)) (hb : w.cell? ⟨bb, 0, none⟩ = some (.int .i64 b)) :
    Calls Tryd.prog 86 #[.slice A xs.length c, .func (.func 87) #[] #[.pointer (some ⟨ba, 0, none⟩), .pointer (some ⟨bb, 0, none⟩)]] w fun e w' => e = .returned (.bool (xs.any (outB a b))) ∧ Below w.heap.size w w' := by
  have hq := Lib.hid (findI_any (outB a b) xs)
  go_enter Tryd.func86, Tryd.ntmps86
  go_wp2_with (go_at_call 96; refine (indexI_calls xs A c a b ba bb _ hr ha hb).mono ?_; rintro e w' ⟨rfl, hbl⟩)
  go_ret
  exact ⟨ret_bool hq.out, hbl⟩
/-- 'within(a, b, l...)'. -/
def allIn (a b : Int) (xs : List Int) : Bool := !(xs.any (outB a b))
theorem within_calls (a b : Int) (xs : List Int) (A : Option Addr) (c : Nat) (w : World) (hr : Kd.C (Kd.int .i64) w A xs.length xs) :
    Calls Tryd.prog 53 #[.int .i64 a, .int .i64 b, .slice A xs.length c] w fun e w' => e = .returned (.bool (allIn a b xs)) ∧ Below w.heap.size w w' := by
  go_enter Tryd.func53, Tryd.ntmps53
  go_wp2_with (go_at_call 86; refine (containsI_calls xs A c a b w.heap.size (w.heap.size + 1) _ ?h1 ?h2 ?h3).mono ?_; (case h1 => exact Kd.C_below (Kd.C_below hr ((Below.refl _ _).alloc (Nat.le_refl _) _)) ((Below.refl _ _).alloc (Nat.le_refl _) _)); (case h2 => go_simp); (case h3 => go_simp); rintro e w' ⟨rfl, hbl⟩)
  go_ret
  exact ⟨rfl, ((((Below.refl _ _).alloc (Nat.le_refl _) _).alloc (by simp) _).trans (hbl.mono (by simp; omega)))⟩
end Go.Proofs.YtbijamlgcebgeaaDoor.Hand

-- part Q0
namespace Go.Proofs.YtbijamlgcebgeaaDoor.Q
open Go.RowKit Go.Proofs.YtbijamlgcebgeaaDoorW.PrintWords Go.Proofs.YtbijamlgcebgeaaDoorW.PrintLast Go.Proofs.YtbijamlgcebgeaaDoorW.PrintMore
attribute [local go_sem] max2_int min2_int max_two min_two max_three min_three max_four min_four   -- for this text's walks alone
def errW : Option Int → Value
  | none => .nilIface
  | some c => .iface 0 (.int .i64 c)
theorem errW_none : errW none = .nilIface := rfl
theorem errW_some (c : Int) : errW (some c) = .iface 0 (.int .i64 c) := rfl
theorem info3 : (Tryd.prog.info? 3).map (fun i => (i.zero, i.size, i.bytes)) = some (some (.int .i64 0), 1, 8) := by kernel_rfl
theorem info74 : (Tryd.prog.info? 74).map (fun i => (i.zero, i.size, i.bytes)) = some (some (.agg #[(.int .i64 0), (.int .i64 0), (.int .i64 0), (.int .i64 0), (.int .i64 0), (.int .i64 0)]), 6, 48) := by kernel_rfl
structure S36 where
  f0 : Int
  f1 : Int
def z36 : S36 := ⟨(0 : Int), (0 : Int)⟩
def k36 : Kd S36 := Kd.iso (Kd.pair (Kd.int .i64) (Kd.int .i64)) (fun x : S36 => (x.f0, x.f1))
theorem k36_open {w : World} {x : S36} {cs : List Value} (h : k36.K w x cs) : cs = [.int .i64 x.f0, .int .i64 x.f1] := by
  obtain ⟨_, _, rfl, rfl, rfl⟩ := h
  exact rfl
theorem k36_mk (w : World) (x : S36)  : k36.K w x [.int .i64 x.f0, .int .i64 x.f1] := ⟨[.int .i64 x.f0], [.int .i64 x.f1], rfl, rfl, rfl⟩
theorem k36_mkM (w : World) (base : Nat) (ok : Nat → Prop) (x : S36)  : k36.M w base ok x [.int .i64 x.f0, .int .i64 x.f1] := ⟨[.int .i64 x.f0], [.int .i64 x.f1], rfl, rfl, rfl⟩
structure S74 where
  f0 : Int
  f1 : Int
  f2 : S36
  f3 : S36
def z74 : S74 := ⟨(0 : Int), (0 : Int), z36, z36⟩
def k74 : Kd S74 := Kd.iso (Kd.pair (Kd.int .i64) (Kd.pair (Kd.int .i64) (Kd.pair k36 k36))) (fun x : S74 => (x.f0, x.f1, x.f2, x.f3))
theorem k74_open {w : World} {x : S74} {cs : List Value} (h : k74.K w x cs) : cs = [.int .i64 x.f0, .int .i64 x.f1, .int .i64 x.f2.f0, .int .i64 x.f2.f1, .int .i64 x.f3.f0, .int .i64 x.f3.f1] := by
  obtain ⟨_, _, rfl, rfl, ⟨_, _, rfl, rfl, ⟨_, _, rfl, s2, s4⟩⟩⟩ := h
  obtain rfl := k36_open s2
  obtain rfl := k36_open s4
  exact rfl
theorem k74_mk (w : World) (x : S74)  : k74.K w x [.int .i64 x.f0, .int .i64 x.f1, .int .i64 x.f2.f0, .int .i64 x.f2.f1, .int .i64 x.f3.f0, .int .i64 x.f3.f1] := ⟨[.int .i64 x.f0], [.int .i64 x.f1, .int .i64 x.f2.f0, .int .i64 x.f2.f1, .int .i64 x.f3.f0, .int .i64 x.f3.f1], rfl, rfl, ⟨[.int .i64 x.f1], [.int .i64 x.f2.f0, .int .i64 x.f2.f1, .int .i64 x.f3.f0, .int .i64 x.f3.f1], rfl, rfl, ⟨[.int .i64 x.f2.f0, .int .i64 x.f2.f1], [.int .i64 x.f3.f0, .int .i64 x.f3.f1], rfl, (k36_mk w x.f2 ), (k36_mk w x.f3 )⟩⟩⟩
theorem k74_mkM (w : World) (base : Nat) (ok : Nat → Prop) (x : S74)  : k74.M w base ok x [.int .i64 x.f0, .int .i64 x.f1, .int .i64 x.f2.f0, .int .i64 x.f2.f1, .int .i64 x.f3.f0, .int .i64 x.f3.f1] := ⟨[.int .i64 x.f0], [.int .i64 x.f1, .int .i64 x.f2.f0, .int .i64 x.f2.f1, .int .i64 x.f3.f0, .int .i64 x.f3.f1], rfl, rfl, ⟨[.int .i64 x.f1], [.int .i64 x.f2.f0, .int .i64 x.f2.f1, .int .i64 x.f3.f0, .int .i64 x.f3.f1], rfl, rfl, ⟨[.int .i64 x.f2.f0, .int .i64 x.f2.f1], [.int .i64 x.f3.f0, .int .i64 x.f3.f1], rfl, (k36_mkM w base ok x.f2 ), (k36_mkM w base ok x.f3 )⟩⟩⟩
def rd_T74 (xs : List S74) (i : Int) : S74 := xs.getD i.toNat z74
theorem at_T74 {w : World} {A : Option Addr} {n : Nat} {xs : List S74} (h : Kd.C k74 w A n xs) (i : Int) (h0 : 0 ≤ i) (h1 : i < n) : ∃ ad , A = some ad ∧ w.cell? (ad.add (i.toNat * 6)) = some (.int .i64 (rd_T74 xs i).f0) ∧ w.cell? ⟨(ad.add (i.toNat * 6)).block, (ad.add (i.toNat * 6)).off + 1, none⟩ = some (.int .i64 (rd_T74 xs i).f1) ∧ w.cell? ⟨(ad.add (i.toNat * 6)).block, (ad.add (i.toNat * 6)).off + 2, none⟩ = some (.int .i64 (rd_T74 xs i).f2.f0) ∧ w.cell? ⟨(ad.add (i.toNat * 6)).block, (ad.add (i.toNat * 6)).off + 3, none⟩ = some (.int .i64 (rd_T74 xs i).f2.f1) ∧ w.cell? ⟨(ad.add (i.toNat * 6)).block, (ad.add (i.toNat * 6)).off + 4, none⟩ = some (.int .i64 (rd_T74 xs i).f3.f0) ∧ w.cell? ⟨(ad.add (i.toNat * 6)).block, (ad.add (i.toNat * 6)).off + 5, none⟩ = some (.int .i64 (rd_T74 xs i).f3.f1) := by
  obtain ⟨ad, c, e, _, hK, hc0⟩ := Kd.C_get h z74 i h0 h1
  have hc : ∀ j u, c[j]? = some u → w.cell? (ad.add (i.toNat * 6 + j)) = some u := hc0
  obtain rfl := k74_open hK
  exact ⟨ad, e, hc 0 _ rfl, by rw [← add_field _ _ 1 (by omega)]; exact hc 1 _ rfl, by rw [← add_field _ _ 2 (by omega)]; exact hc 2 _ rfl, by rw [← add_field _ _ 3 (by omega)]; exact hc 3 _ rfl, by rw [← add_field _ _ 4 (by omega)]; exact hc 4 _ rfl, by rw [← add_field _ _ 5 (by omega)]; exact hc 5 _ rfl⟩
end Go.Proofs.YtbijamlgcebgeaaDoor.Q

-- part HB
namespace Go.Proofs.YtbijamlgcebgeaaDoor.Hand
open Go.RowKit Go.Proofs.YtbijamlgcebgeaaDoorW.PrintWords Go.Proofs.YtbijamlgcebgeaaDoor.Q
theorem C_new1 (W : World) (x : Int) (e : TypeId) (n : Nat) (hn : W.heap.size = n) : Kd.C (Kd.int .i64) (W.alloc (.cells #[.int .i64 x] e)) (some ⟨n, 0, none⟩) 1 [x] := by
  subst hn
  refine ⟨rfl, by omega, fun _ => ⟨_, rfl, ?_⟩⟩
  intro j p hp
  obtain rfl : j = 0 := by
    rcases Nat.eq_zero_or_pos j with h | h
    · exact h
    · simp [show ¬ j = 0 by omega] at hp
  obtain rfl : x = p := by simpa using hp
  refine ⟨[.int .i64 x], rfl, rfl, ?_⟩
  intro i u hu
  obtain rfl : i = 0 := by
    rcases Nat.eq_zero_or_pos i with h | h
    · exact h
    · simp [show ¬ i = 0 by omega] at hu
  obtain rfl : .int .i64 x = u := by simpa using hu
  go_simp
theorem C_new2 (W : World) (x y : Int) (e : TypeId) (n : Nat) (hn : W.heap.size = n) : Kd.C (Kd.int .i64) (W.alloc (.cells #[.int .i64 x, .int .i64 y] e)) (some ⟨n, 0, none⟩) 2 [x, y] := by
  subst hn
  refine ⟨rfl, by omega, fun _ => ⟨_, rfl, ?_⟩⟩
  intro j p hp
  have hj : j < 2 := by
    have := (List.getElem?_eq_some_iff.1 hp).1
    simpa using this
  match j, hj with
  | 0, _ =>
    obtain rfl : x = p := by simpa using hp
    refine ⟨[.int .i64 x], rfl, rfl, ?_⟩
    intro i u hu
    obtain rfl : i = 0 := by
      rcases Nat.eq_zero_or_pos i with h | h
      · exact h
      · simp [show ¬ i = 0 by omega] at hu
    obtain rfl : .int .i64 x = u := by simpa using hu
    go_simp
  | 1, _ =>
    obtain rfl : y = p := by simpa using hp
    refine ⟨[.int .i64 y], rfl, rfl, ?_⟩
    intro i u hu
    obtain rfl : i = 0 := by
      rcases Nat.eq_zero_or_pos i with h | h
      · exact h
      · simp [show ¬ i = 0 by omega] at hu
    obtain rfl : .int .i64 y = u := by simpa using hu
    show _ = _
    go_simp
    rfl
/-- A block of cells. -/
def Box (w : World) (b : Nat) (vs : Array Value) (t : TypeId) : Prop := w.heap[b]? = some (.cells vs t (0, 0))
theorem Box.lt {w : World} {b : Nat} {vs : Array Value} {t : TypeId} (h : Box w b vs t) : b < w.heap.size := lt_of_block h
theorem Box.cell {w : World} {b : Nat} {vs : Array Value} {t : TypeId} (h : Box w b vs t) (i : Nat) {v : Value} (hv : vs[i]? = some v) : w.cell? ⟨b, i, none⟩ = some v := by
  unfold Box at h
  simp [World.cell?, h, hv]
theorem Box.frozen {w : World} {b : Nat} {vs : Array Value} {t : TypeId} (h : Box w b vs t) (i : Nat) : w.frozen? ⟨b, i, none⟩ = false := by
  unfold Box at h
  simp [World.frozen?, h]
theorem Box.new (w : World) (vs : Array Value) (t : TypeId) : Box (w.alloc (.cells vs t)) w.heap.size vs t := World.alloc_heap_new w _
theorem Box.new' {w : World} (vs : Array Value) (t : TypeId) (n : Nat) (h : w.heap.size = n) : Box (w.alloc (.cells vs t)) n vs t := by subst h; exact World.alloc_heap_new w _
theorem Box.below {w w' : World} {b B : Nat} {vs : Array Value} {t : TypeId} (h : Box w b vs t) (hb : Below B w w') (hB : b < B) : Box w' b vs t := (hb.block b hB).trans h
theorem Box.alloc {w : World} {b : Nat} {vs : Array Value} {t : TypeId} (h : Box w b vs t) (o : Obj) : Box (w.alloc o) b vs t := (Below.heap_alloc w o b h.lt).trans h
theorem Box.step {w w' : World} {b : Nat} {vs : Array Value} {t : TypeId} (h : Box w b vs t) (hb : Below w.heap.size w w') : Box w' b vs t := h.below hb h.lt
theorem isSpan_calls (lo hi a b : Int) (w : World) :
    Calls Tryd.prog 89 #[.agg #[.int .i64 lo, .int .i64 hi], .int .i64 a, .int .i64 b] w fun e w' => e = .returned (.bool (decide (lo ≤ hi) && allIn a b [lo, hi])) ∧ Below w.heap.size w w' := by
  go_enter Tryd.func89, Tryd.ntmps89
  by_cases h : lo ≤ hi
  · have h1 : decide (lo ≤ hi) = true := decide_eq_true h
    go_wp2_with (go_at_call 53; refine (within_calls a b [lo, hi] _ 2 _ ?h1).mono ?_; (case h1 => exact C_new2 _ _ _ _ _ (by simp)); rintro e w' ⟨rfl, hb⟩)
    go_ret
    exact ⟨ret_bool (by simp [h1]), (((Below.refl _ _).alloc (Nat.le_refl _) _).alloc (by simp) _).trans (hb.mono (by simp; omega))⟩
  · have h1 : decide (lo ≤ hi) = false := decide_eq_false h
    go_wp2
    go_ret
    exact ⟨ret_bool (by simp), (Below.refl _ _).alloc (Nat.le_refl _) _⟩
def signB (x : S74) : Bool := allIn 1 200 [x.f0] && allIn 1 100 [x.f1] && (decide (x.f2.f0 ≤ x.f2.f1) && allIn 1 500 [x.f2.f0, x.f2.f1]) && (decide (x.f3.f0 ≤ x.f3.f1) && allIn 0 1000 [x.f3.f0, x.f3.f1])
abbrev vS74 (x : S74) : Value := .agg #[.int .i64 x.f0, .int .i64 x.f1, .int .i64 x.f2.f0, .int .i64 x.f2.f1, .int .i64 x.f3.f0, .int .i64 x.f3.f1]
theorem isSign_calls (x : S74) (w : World) :
    Calls Tryd.prog 56 #[vS74 x] w fun e w' => e = .returned (.bool (signB x)) ∧ Below w.heap.size w w' := by
  obtain ⟨c1, b1⟩ : ∃ c, allIn 1 200 [x.f0] = c := ⟨_, rfl⟩
  obtain ⟨c2, b2⟩ : ∃ c, allIn 1 100 [x.f1] = c := ⟨_, rfl⟩
  obtain ⟨c3, b3⟩ : ∃ c, (decide (x.f2.f0 ≤ x.f2.f1) && allIn 1 500 [x.f2.f0, x.f2.f1]) = c := ⟨_, rfl⟩
  obtain ⟨c4, b4⟩ : ∃ c, (decide (x.f3.f0 ≤ x.f3.f1) && allIn 0 1000 [x.f3.f0, x.f3.f1]) = c := ⟨_, rfl⟩
  have hs : signB x = (c1 && c2 && c3 && c4) := by rw [← b1, ← b2, ← b3, ← b4]; rfl
  rw [hs]
  clear hs
  cases c1
  · go_enter Tryd.func56, Tryd.ntmps56
    go_wp2_with fail
    refine (within_calls 1 200 [x.f0] _ 1 _ (C_new1 _ _ _ _ (by simp))).mono ?_
    rintro e w1 ⟨rfl, hb1⟩
    rw [b1]
    have bx1 : Box w1 w.heap.size _ 74 := ((Box.new w _ _).alloc _).step hb1
    have k1 := bx1.cell 1 rfl
    have hz1 : w.heap.size + 2 ≤ w1.heap.size := by have := hb1.size; simp at this; omega
    have hB1 : Below w.heap.size w w1 := (((Below.refl _ _).alloc (Nat.le_refl _) _).alloc (by simp) _).trans (hb1.mono (by simp; omega))
    clear hb1
    go_wp2
    go_ret
    exact ⟨ret_bool (by simp), hB1⟩
  · cases c2
    · go_enter Tryd.func56, Tryd.ntmps56
      go_wp2_with fail
      refine (within_calls 1 200 [x.f0] _ 1 _ (C_new1 _ _ _ _ (by simp))).mono ?_
      rintro e w1 ⟨rfl, hb1⟩
      rw [b1]
      have bx1 : Box w1 w.heap.size _ 74 := ((Box.new w _ _).alloc _).step hb1
      have k1 := bx1.cell 1 rfl
      have hz1 : w.heap.size + 2 ≤ w1.heap.size := by have := hb1.size; simp at this; omega
      have hB1 : Below w.heap.size w w1 := (((Below.refl _ _).alloc (Nat.le_refl _) _).alloc (by simp) _).trans (hb1.mono (by simp; omega))
      clear hb1
      go_wp2_with fail
      refine (within_calls 1 100 [x.f1] _ 1 _ (C_new1 _ _ _ _ rfl)).mono ?_
      rintro e w2 ⟨rfl, hb2⟩
      rw [b2]
      have bx2 := (bx1.alloc _).step hb2
      have k2 := bx2.cell 2 rfl
      have k3 := bx2.cell 3 rfl
      clear k1 bx1
      have hz2 : w1.heap.size + 1 ≤ w2.heap.size := by have := hb2.size; simp at this; omega
      have hB2 : Below w.heap.size w w2 := hB1.trans (((Below.refl _ _).alloc (by omega) _).trans (hb2.mono (by simp; omega)))
      clear hb2 hB1
      go_wp2
      go_ret
      exact ⟨ret_bool (by simp), hB2⟩
    · cases c3
      · go_enter Tryd.func56, Tryd.ntmps56
        go_wp2_with fail
        refine (within_calls 1 200 [x.f0] _ 1 _ (C_new1 _ _ _ _ (by simp))).mono ?_
        rintro e w1 ⟨rfl, hb1⟩
        rw [b1]
        have bx1 : Box w1 w.heap.size _ 74 := ((Box.new w _ _).alloc _).step hb1
        have k1 := bx1.cell 1 rfl
        have hz1 : w.heap.size + 2 ≤ w1.heap.size := by have := hb1.size; simp at this; omega
        have hB1 : Below w.heap.size w w1 := (((Below.refl _ _).alloc (Nat.le_refl _) _).alloc (by simp) _).trans (hb1.mono (by simp; omega))
        clear hb1
        go_wp2_with fail
        refine (within_calls 1 100 [x.f1] _ 1 _ (C_new1 _ _ _ _ rfl)).mono ?_
        rintro e w2 ⟨rfl, hb2⟩
        rw [b2]
        have bx2 := (bx1.alloc _).step hb2
        have k2 := bx2.cell 2 rfl
        have k3 := bx2.cell 3 rfl
        clear k1 bx1
        have hz2 : w1.heap.size + 1 ≤ w2.heap.size := by have := hb2.size; simp at this; omega
        have hB2 : Below w.heap.size w w2 := hB1.trans (((Below.refl _ _).alloc (by omega) _).trans (hb2.mono (by simp; omega)))
        clear hb2 hB1
        go_wp2_with fail
        refine (isSpan_calls x.f2.f0 x.f2.f1 1 500 _).mono ?_
        rintro e w3 ⟨rfl, hb3⟩
        rw [b3]
        have bx3 := bx2.step hb3
        have k4 := bx3.cell 4 rfl
        have k5 := bx3.cell 5 rfl
        clear k2 k3 bx2
        have hz3 : w2.heap.size ≤ w3.heap.size := by have := hb3.size; simpa using this
        have hB3 : Below w.heap.size w w3 := hB2.trans (hb3.mono (by omega))
        clear hb3 hB2
        go_wp2
        go_ret
        exact ⟨ret_bool (by simp), hB3⟩
      · cases c4
        · go_enter Tryd.func56, Tryd.ntmps56
          go_wp2_with fail
          refine (within_calls 1 200 [x.f0] _ 1 _ (C_new1 _ _ _ _ (by simp))).mono ?_
          rintro e w1 ⟨rfl, hb1⟩
          rw [b1]
          have bx1 : Box w1 w.heap.size _ 74 := ((Box.new w _ _).alloc _).step hb1
          have k1 := bx1.cell 1 rfl
          have hz1 : w.heap.size + 2 ≤ w1.heap.size := by have := hb1.size; simp at this; omega
          have hB1 : Below w.heap.size w w1 := (((Below.refl _ _).alloc (Nat.le_refl _) _).alloc (by simp) _).trans (hb1.mono (by simp; omega))
          clear hb1
          go_wp2_with fail
          refine (within_calls 1 100 [x.f1] _ 1 _ (C_new1 _ _ _ _ rfl)).mono ?_
          rintro e w2 ⟨rfl, hb2⟩
          rw [b2]
          have bx2 := (bx1.alloc _).step hb2
          have k2 := bx2.cell 2 rfl
          have k3 := bx2.cell 3 rfl
          clear k1 bx1
          have hz2 : w1.heap.size + 1 ≤ w2.heap.size := by have := hb2.size; simp at this; omega
          have hB2 : Below w.heap.size w w2 := hB1.trans (((Below.refl _ _).alloc (by omega) _).trans (hb2.mono (by simp; omega)))
          clear hb2 hB1
          go_wp2_with fail
          refine (isSpan_calls x.f2.f0 x.f2.f1 1 500 _).mono ?_
          rintro e w3 ⟨rfl, hb3⟩
          rw [b3]
          have bx3 := bx2.step hb3
          have k4 := bx3.cell 4 rfl
          have k5 := bx3.cell 5 rfl
          clear k2 k3 bx2
          have hz3 : w2.heap.size ≤ w3.heap.size := by have := hb3.size; simpa using this
          have hB3 : Below w.heap.size w w3 := hB2.trans (hb3.mono (by omega))
          clear hb3 hB2
          go_wp2_with fail
          refine (isSpan_calls x.f3.f0 x.f3.f1 0 1000 _).mono ?_
          rintro e w4 ⟨rfl, hb4⟩
          rw [b4]
          have hB4 : Below w.heap.size w w4 := hB3.trans (hb4.mono (by omega))
          clear hb4 hB3
          go_wp2
          go_ret
          exact ⟨ret_bool (by simp), hB4⟩
        · go_enter Tryd.func56, Tryd.ntmps56
          go_wp2_with fail
          refine (within_calls 1 200 [x.f0] _ 1 _ (C_new1 _ _ _ _ (by simp))).mono ?_
          rintro e w1 ⟨rfl, hb1⟩
          rw [b1]
          have bx1 : Box w1 w.heap.size _ 74 := ((Box.new w _ _).alloc _).step hb1
          have k1 := bx1.cell 1 rfl
          have hz1 : w.heap.size + 2 ≤ w1.heap.size := by have := hb1.size; simp at this; omega
          have hB1 : Below w.heap.size w w1 := (((Below.refl _ _).alloc (Nat.le_refl _) _).alloc (by simp) _).trans (hb1.mono (by simp; omega))
          clear hb1
          go_wp2_with fail
          refine (within_calls 1 100 [x.f1] _ 1 _ (C_new1 _ _ _ _ rfl)).mono ?_
          rintro e w2 ⟨rfl, hb2⟩
          rw [b2]
          have bx2 := (bx1.alloc _).step hb2
          have k2 := bx2.cell 2 rfl
          have k3 := bx2.cell 3 rfl
          clear k1 bx1
          have hz2 : w1.heap.size + 1 ≤ w2.heap.size := by have := hb2.size; simp at this; omega
          have hB2 : Below w.heap.size w w2 := hB1.trans (((Below.refl _ _).alloc (by omega) _).trans (hb2.mono (by simp; omega)))
          clear hb2 hB1
          go_wp2_with fail
          refine (isSpan_calls x.f2.f0 x.f2.f1 1 500 _).mono ?_
          rintro e w3 ⟨rfl, hb3⟩
          rw [b3]
          have bx3 := bx2.step hb3
          have k4 := bx3.cell 4 rfl
          have k5 := bx3.cell 5 rfl
          clear k2 k3 bx2
          have hz3 : w2.heap.size ≤ w3.heap.size := by have := hb3.size; simpa using this
          have hB3 : Below w.heap.size w w3 := hB2.trans (hb3.mono (by omega))
          clear hb3 hB2
          go_wp2_with fail
          refine (isSpan_calls x.f3.f0 x.f3.f1 0 1000 _).mono ?_
          rintro e w4 ⟨rfl, hb4⟩
          rw [b4]
          have hB4 : Below w.heap.size w w4 := hB3.trans (hb4.mono (by omega))
          clear hb4 hB3
          go_wp2
          go_ret
          exact ⟨ret_bool (by simp), hB4⟩
end Go.Proofs.YtbijamlgcebgeaaDoor.Hand

-- part HD
namespace Go.Proofs.YtbijamlgcebgeaaDoor.Hand
open Go.RowKit Go.Proofs.YtbijamlgcebgeaaDoorW.PrintWords Go.Proofs.YtbijamlgcebgeaaDoor.Q
/-- The table of the library's. -/
def TabW (w : World) : Prop := 2 ≤ w.heap.size ∧ TabAt 1 Lib.deBruijn64tab w
theorem TabW.below {w w' : World} (h : TabW w) (hb : Below w.heap.size w w') : TabW w' :=
  ⟨Nat.le_trans h.1 hb.size, fun j hj => (hb.cell (p := ⟨1, j, none⟩) (show 1 < _ from h.1)).trans (h.2 j hj)⟩
theorem TabW.alloc {w : World} (h : TabW w) (o : Obj) : TabW (w.alloc o) := h.below ((Below.refl _ _).alloc (Nat.le_refl _) _)
theorem tz64_core (x k idx : Nat) (w : World) (hx0 : ((x : Int) == 0) = false)
    (key : IntKind.u64.wrap (bits BinOp.and IntKind.u64 (x : Int) (IntKind.u64.wrap (-(x : Int))) * 285870213051353865) / 288230376151711744 = (idx : Int))
    (hi : idx < 64) (hk : k < 64) (hcell : w.cell? ⟨1, idx, none⟩ = some (.int .u8 k)) :
    Calls Tryd.prog 98 #[.int .u64 x] w fun e w' => e = .returned (.int .i64 k) ∧ w = w' := by
  go_enter Tryd.func98, Tryd.ntmps98
  go_wp2_with (simp only [key])
  go_ret
  exact ⟨rfl, rfl⟩
theorem tz64_calls (x : Nat) (hx : x < 18446744073709551616) (hx0 : x ≠ 0) (w : World) (hT : TabW w) :
    Calls Tryd.prog 98 #[.int .u64 x] w fun e w' => e = .returned (.int .i64 (Lib.ctz 64 x)) ∧ w = w' := by
  obtain ⟨hlow, hk⟩ := Lib.lowest_bit 64 x hx0 hx
  obtain ⟨hi, htab⟩ := Lib.deBruijn64_at _ hk
  have hcell := hT.2 _ hi
  rw [htab] at hcell
  exact tz64_core x _ _ w (by simp; omega) (tz64_key x _ hx hx0 hlow) hi hk hcell
theorem tz_calls (x : Nat) (hx : x < 18446744073709551616) (hx0 : x ≠ 0) (w : World) (hT : TabW w) :
    Calls Tryd.prog 92 #[.int .u64 x] w fun e w' => e = .returned (.int .i64 (Lib.ctz 64 x)) ∧ w = w' := by
  go_enter Tryd.func92, Tryd.ntmps92
  go_wp2_with (go_at_call 98; refine (tz64_calls x hx hx0 _ hT).mono ?_; rintro e w' ⟨rfl, rfl⟩)
  go_ret
  exact ⟨rfl, rfl⟩
/-- The signs of a set, ascending. -/
def bitsOf (s : Nat) : List Nat := (List.range 6).filter fun i => s.testBit i
theorem oc64_calls (s : Nat) (hs : s < 64) (w : World) :
    Calls Tryd.prog 100 #[.int .u64 s] w fun e w' => e = .returned (.int .i64 ((bitsOf s).length : Nat)) ∧ w = w' := by
  go_enter Tryd.func100, Tryd.ntmps100
  go_wp2
  go_ret
  refine ⟨ret_int ?_, rfl⟩
  clear w
  revert hs
  revert s
  decide +kernel
/-- How many signs. -/
def lenB (s : Nat) : Nat := (bitsOf s).length
theorem oc_calls (s : Nat) (hs : s < 64) (w : World) :
    Calls Tryd.prog 93 #[.int .u64 s] w fun e w' => e = .returned (.int .i64 (lenB s)) ∧ w = w' := by
  go_enter Tryd.func93, Tryd.ntmps93
  go_wp2_with (go_at_call 100; refine (oc64_calls s hs _).mono ?_; rintro e w' ⟨rfl, rfl⟩)
  go_ret
  exact ⟨rfl, rfl⟩
theorem len_calls (s : Nat) (hs : s < 64) (w : World) :
    Calls Tryd.prog 82 #[.int .u64 s] w fun e w' => e = .returned (.int .i64 (lenB s)) ∧ w = w' := by
  go_enter Tryd.func82, Tryd.ntmps82
  go_wp2_with (go_at_call 93; refine (oc_calls s hs _).mono ?_; rintro e w' ⟨rfl, rfl⟩)
  go_ret
  exact ⟨rfl, rfl⟩
theorem has_calls (s i : Nat) (hs : s < 64) (hi : i < 6) (w : World) :
    Calls Tryd.prog 68 #[.int .u64 s, .int .i64 i] w fun e w' => e = .returned (.bool (s.testBit i)) ∧ w = w' := by
  go_enter Tryd.func68, Tryd.ntmps68
  go_wp2
  go_ret
  refine ⟨ret_bool ?_, rfl⟩
  clear w
  revert hi
  revert i
  revert hs
  revert s
  decide +kernel
def lexLt : List Nat → List Nat → Bool
  | [], [] => false
  | [], _ :: _ => true
  | _ :: _, [] => false
  | a :: l, b :: m => if a = b then lexLt l m else decide (a < b)
/-- Whether a set is smaller: fewer signs, or as many and a smaller list. -/
def befB (s t : Nat) : Bool := if lenB s = lenB t then lexLt (bitsOf s) (bitsOf t) else decide (lenB s < lenB t)
theorem first_bit : ∀ s, s < 64 → ∀ t, t < 64 → lenB s = lenB t → (bits .and .u64 (s : Int) (bits .and .u64 (bits .xor .u64 (s : Int) (t : Int)) (IntKind.u64.wrap (-(bits .xor .u64 (s : Int) (t : Int))))) != 0) = lexLt (bitsOf s) (bitsOf t) := by decide +kernel
theorem isBefore_calls (s t : Nat) (hs : s < 64) (ht : t < 64) (w : World) :
    Calls Tryd.prog 69 #[.int .u64 s, .int .u64 t] w fun e w' => e = .returned (.bool (befB s t)) ∧ w = w' := by
  by_cases h : lenB s = lenB t
  · have hb := Lib.hid (first_bit s hs t ht h)
    have hf : befB s t = lexLt (bitsOf s) (bitsOf t) := if_pos h
    rw [hf]
    have h1 : ((lenB s : Int) != (lenB t : Int)) = false := by simp [h]
    clear hf h
    go_enter Tryd.func69, Tryd.ntmps69
    go_wp2_with fail
    refine (len_calls s hs _).mono ?_
    rintro e w' ⟨rfl, rfl⟩
    go_wp2_with fail
    refine (len_calls t ht _).mono ?_
    rintro e w' ⟨rfl, rfl⟩
    go_wp2
    go_ret
    exact ⟨ret_bool hb.out, rfl⟩
  · have hf : befB s t = decide (lenB s < lenB t) := if_neg h
    rw [hf]
    have h1 : ((lenB s : Int) != (lenB t : Int)) = true := by simp; omega
    clear hf h
    go_enter Tryd.func69, Tryd.ntmps69
    go_wp2_with fail
    refine (len_calls s hs _).mono ?_
    rintro e w' ⟨rfl, rfl⟩
    go_wp2_with fail
    refine (len_calls t ht _).mono ?_
    rintro e w' ⟨rfl, rfl⟩
    go_wp2_with fail
    refine (len_calls s hs _).mono ?_
    rintro e w' ⟨rfl, rfl⟩
    go_wp2_with fail
    refine (len_calls t ht _).mono ?_
    rintro e w' ⟨rfl, rfl⟩
    go_wp2
    go_ret
    exact ⟨ret_bool (by simp), rfl⟩
end Go.Proofs.YtbijamlgcebgeaaDoor.Hand

-- part HE
namespace Go.Proofs.YtbijamlgcebgeaaDoor.Hand
open Go.RowKit Go.Proofs.YtbijamlgcebgeaaDoorW.PrintWords Go.Proofs.YtbijamlgcebgeaaDoor.Q
abbrev FW : Fence := Fence.wide
/-- A loop's record, or the block for the rounds' deferred calls. -/
def bookObj : Obj → Bool
  | .loop _ => true
  | .deferred _ => true
  | _ => false
/-- Nothing but book-keeping from B on has turned. -/
structure Inert (B : Nat) (W W' : World) : Prop where
  os : W'.os = W.os
  tape : W'.tape = W.tape
  output : W'.output = W.output
  size : W.heap.size ≤ W'.heap.size
  keep : ∀ (k : Nat) (o : Obj), W.heap[k]? = some o → (k < B ∨ bookObj o = false) → W'.heap[k]? = some o
theorem Inert.alloc (B : Nat) (W : World) (o : Obj) : Inert B W (W.alloc o) :=
  ⟨rfl, rfl, rfl, by simp, fun k o' h _ => (Below.heap_alloc W o k (lt_of_block h)).trans h⟩
theorem Inert.putObj {B l : Nat} {W : World} {o o' : Obj} (hl : W.heap[l]? = some o) (hB : B ≤ l) (hb : bookObj o = true) : Inert B W (W.putObj l o') := by
  refine ⟨rfl, rfl, rfl, by simp, fun k p h hk => ?_⟩
  by_cases e : k = l
  · subst e
    rw [hl] at h
    cases h
    rcases hk with hk | hk
    · omega
    · rw [hb] at hk
      cases hk
  · exact (World.putObj_heap_other e).trans h
theorem Inert.box {B b : Nat} {W W' : World} {vs : Array Value} {t : TypeId} (h : Box W b vs t) (hi : Inert B W W') : Box W' b vs t := hi.keep b _ h (.inr rfl)
theorem Inert.below {B n₀ : Nat} {w W W' : World} (h : Below n₀ w W) (hB : n₀ ≤ B) (hn : n₀ ≤ w.heap.size) (hi : Inert B W W') : Below n₀ w W' :=
  ⟨hi.os.trans h.os, hi.tape.trans h.tape, hi.output.trans h.output, Nat.le_trans h.size hi.size, fun k hk => by
    have hlt : k < W.heap.size := by have := h.size; omega
    rw [hi.keep k _ (Array.getElem?_eq_getElem hlt) (.inl (by omega)), ← Array.getElem?_eq_getElem hlt]
    exact h.block k hk⟩
theorem Inert.cell {B : Nat} {W W' : World} (hi : Inert B W W') {a : Addr} {v : Value} (h : W.cell? a = some v) : W'.cell? a = some v := by
  have hlt := World.block_lt_of_cell? W a h
  have h1 := hi.keep a.block _ (Array.getElem?_eq_getElem hlt)
  rw [← h]
  refine World.cell?_of_block ?_
  rw [h1, ← Array.getElem?_eq_getElem hlt]
  right
  have h2 : W.heap[a.block]? = some W.heap[a.block] := Array.getElem?_eq_getElem hlt
  unfold World.cell? at h
  rw [h2] at h
  generalize W.heap[a.block] = o at h
  cases o <;> simp [bookObj] at h ⊢
theorem Inert.tab {B : Nat} {W W' : World} (hi : Inert B W W') (h : TabW W) : TabW W' :=
  ⟨Nat.le_trans h.1 hi.size, fun j hj => hi.cell (h.2 j hj)⟩
/-- The records of loops lie as they lay. -/
def KeepBk (W W' : World) : Prop := ∀ (k : Nat) (o : Obj), W.heap[k]? = some o → bookObj o = true → W'.heap[k]? = some o
theorem KeepBk.refl (W : World) : KeepBk W W := fun _ _ h _ => h
theorem KeepBk.trans {A B C : World} (h : KeepBk A B) (k : KeepBk B C) : KeepBk A C := fun i o hi ho => k i o (h i o hi ho) ho
theorem KeepBk.of_below {W W' : World} (h : Below W.heap.size W W') : KeepBk W W' := fun k o hk _ => (h.block k (lt_of_block hk)).trans hk
theorem KeepBk.alloc (W : World) (o : Obj) : KeepBk W (W.alloc o) := fun k o' hk _ => (Below.heap_alloc W o k (lt_of_block hk)).trans hk
theorem KeepBk.setCell (W : World) (a : Addr) (v : Value) : KeepBk W (W.setCell a v) := fun k o hk ho => by
  by_cases e : k = a.block
  · subst e
    have hlt := lt_of_block hk
    have hk' : W.heap[a.block] = o := by simpa [Array.getElem?_eq_getElem hlt] using hk
    show (W.heap.modify a.block _)[a.block]? = _
    rw [Array.getElem?_eq_getElem (by simpa using hlt), Array.getElem_modify_self, hk']
    cases o <;> simp [bookObj] at ho ⊢
  · exact (Below.heap_setCell W a v k e).trans hk
theorem KeepBk.drew (W : World) : KeepBk W W.drew := fun _ _ h _ => h
theorem KeepBk.drewN (W : World) (n : Nat) : KeepBk W (W.drewN n) := fun _ _ h _ => h
/-- A function that is ranged over: what it yields, in order. -/
def Iter {α : Type} (P : Program) (g : Nat) (first lb : Array Value) (Enc : α → Array Value → World → Prop) (Inv : World → Prop) (St : World → World → Prop) (xs : List α) : Prop :=
  ∀ (l : Nat) (J Jx : List α → World → Prop) (W : World), Inv W →
    (∀ pre A B, J pre A → St A B → J pre B) → (∀ pre A B, Jx pre A → St A B → Jx pre B) →
    (∀ pre x args W1, J pre W1 → Inv W1 → pre ++ [x] <+: xs → Enc x args W1 → YieldAt FW 0 P l args W1 fun e W' =>
      (e = .returned (.bool true) ∧ J (pre ++ [x]) W' ∧ Inv W') ∨ (e = .returned (.bool false) ∧ Jx (pre ++ [x]) W')) →
    J [] W →
    CallsIn FW 0 P g (first ++ #[.func (.yield l) #[] #[]] ++ lb) W fun e W' => (∃ v, e = .returned v) ∧ ((J xs W' ∧ Inv W') ∨ (∃ pre, pre <+: xs ∧ Jx pre W'))
/-- How a round's body may be left. -/
def rPost {α : Type} (Inv : World → Prop) (I : List α → World → Prop) (Ix : Code → List α → World → Prop) (xs : List α) (W : World) : Exit → Act → World → Prop
  | .normal, _, W' => KeepBk W W' ∧ Inv W' ∧ I xs W'
  | .ret, _, W' => KeepBk W W' ∧ Ix .ret xs W'
  | .exit id, _, W' => KeepBk W W' ∧ Ix (.exit id) xs W'
  | .goto t, _, W' => KeepBk W W' ∧ Ix (.goto t) xs W'
  | .panic _, _, _ => False
  | .outgrown, _, _ => False
theorem wpIn_range {α : Type} {P : Program} {g : Operand} {ps : Array Tmp} {assign body : Code} {Q : Exit → Act → World → Prop} {a : Act} {w : World}
    {gf : Nat} {first lb : Array Value} (hg : a.eval g = .func (.func gf) first lb) (eg : ∀ args w, (callFunc gf args).run P w = .ok (.enter gf args) w)
    {Enc : α → Array Value → World → Prop} {Inv : World → Prop} {St : World → World → Prop} {xs : List α} (hit : Iter P gf first lb Enc Inv St xs)
    (hps : ∀ x args W, Enc x args W → args.size = ps.size) (hInv : ∀ A B, Inv A → Inert w.heap.size A B → Inv B) (hSt : ∀ A B, St A B → KeepBk A B)
    (I : List α → World → Prop) (Ix : Code → List α → World → Prop) (hI : ∀ pre A B, I pre A → Inert w.heap.size A B → I pre B) (hIs : ∀ pre A B, I pre A → St A B → I pre B)
    (hIx : ∀ c pre A B, Ix c pre A → Inert w.heap.size A B → Ix c pre B) (hIxs : ∀ c pre A B, Ix c pre A → St A B → Ix c pre B) (h0 : I [] w) (hi0 : Inv w)
    (Ax : α → Act → World → Prop) (hAx : ∀ x a' A B, Ax x a' A → Inert w.heap.size A B → Ax x a' B)
    (hassign : ∀ (l : Nat) (pre : List α) (x : α) (args : Array Value) (W : World) (K : Act → World → Prop), I pre W → Inv W → pre ++ [x] <+: xs → Enc x args W →
      (∀ a' W', KeepBk W W' → I pre W' → Inv W' → Ax x a' W' → K a' W') →
      assign.wpIn (FW.inRound l) 0 P (Exit.then K (fun _ _ _ => False)) { tmps := (ps.zip args).foldl (fun t (p, v) => t.setIfInBounds p v) a.tmps, defers := [] } W)
    (hbody : ∀ (l : Nat) (pre : List α) (x : α) (a' : Act) (W : World), w.heap.size ≤ l → (∃ r, W.heap[l]? = some (.loop r)) → I pre W → Inv W → pre ++ [x] <+: xs → Ax x a' W →
      body.wpIn (FW.inRound l) 0 P (rPost Inv I Ix (pre ++ [x]) W) a' W)
    (hdone : ∀ (D : Nat) (W : World), w.heap.size ≤ D → I xs W → Inv W → W.heap[D]? = some (.deferred (some [])) → Q .normal { a with defers := { target := .collected D, args := #[] } :: a.defers } W)
    (hstop : ∀ (D : Nat) (c : Code) (pre : List α) (W : World), w.heap.size ≤ D → pre <+: xs → Ix c pre W → W.heap[D]? = some (.deferred (some [])) → c.wpIn FW 0 P Q { a with defers := { target := .collected D, args := #[] } :: a.defers } W) :
    (Code.rangeFunc g ps assign body).wpIn FW 0 P Q a w := by
  refine wpIn_rangeFunc ?_
  intro fn hfn
  obtain ⟨rec, hrec⟩ : ∃ rec : LoopState → Option Code → Loop, rec = fun st pe => { state := st, pending := pe, fn, tmps := a.tmps, params := ps, assign, body, defers := w.heap.size } := ⟨_, rfl⟩
  obtain ⟨W1, hW1⟩ : ∃ W1, (w.alloc (.deferred (some []))).alloc (.loop (rec .ready none)) = W1 := ⟨_, rfl⟩
  have hL1 : W1.heap[w.heap.size + 1]? = some (.loop (rec .ready none)) := by
    rw [← hW1]; have := World.alloc_heap_new (w.alloc (.deferred (some []))) (.loop (rec .ready none)); rwa [World.size_alloc] at this
  have hK1 : W1.heap[w.heap.size]? = some (.deferred (some [])) := by
    rw [← hW1]; exact (Below.heap_alloc _ _ _ (by simp)).trans (World.alloc_heap_new w _)
  have hI1 : I [] W1 := by rw [← hW1]; exact hI _ _ _ (hI _ _ _ h0 (.alloc _ _ _)) (.alloc _ _ _)
  have hV1 : Inv W1 := by rw [← hW1]; exact hInv _ _ (hInv _ _ hi0 (.alloc _ _ _)) (.alloc _ _ _)
  refine ⟨w.heap.size + 1, [{ target := .collected w.heap.size, args := #[] }], W1, { target := .fn (.func gf) lb, args := first ++ #[.func (.yield (w.heap.size + 1)) #[] #[]] }, W1, gf,
    first ++ #[.func (.yield (w.heap.size + 1)) #[] #[]] ++ lb, W1, ?_, ?_, ?_, ?_, fun h => by simp [Fence.wide] at h, ?_⟩
  · rw [← hW1, hrec]; exact run_enterLoop_outer _ _ _ _ _
  · simp only [resolve, hg]
    simp [go_sem]
  · intro f' hf'; trivial
  · simp [invoke, go_sem, eg]
  · refine (hit (w.heap.size + 1)
      (fun pre W => I pre W ∧ W.heap[w.heap.size + 1]? = some (.loop (rec .ready none)) ∧ W.heap[w.heap.size]? = some (.deferred (some [])))
      (fun pre W => ∃ c, Ix c pre W ∧ W.heap[w.heap.size + 1]? = some (.loop (rec .done (some c))) ∧ W.heap[w.heap.size]? = some (.deferred (some [])))
      W1 hV1
      (fun pre A B hs hst => ⟨hIs _ _ _ hs.1 hst, hSt _ _ hst _ _ hs.2.1 rfl, hSt _ _ hst _ _ hs.2.2 rfl⟩)
      (fun pre A B hs hst => by
        obtain ⟨c, hc, hl, hk⟩ := hs
        exact ⟨c, hIxs _ _ _ _ hc hst, hSt _ _ hst _ _ hl rfl, hSt _ _ hst _ _ hk rfl⟩)
      ?_ ⟨hI1, hL1, hK1⟩).mono ?_
    · rintro pre x args W ⟨hi, hl, hk⟩ hv hpre henc
      have hy := run_yield (P := P) (args := args) hl (by rw [hrec]; exact hps x args W henc)
      rw [hrec] at hy
      refine ⟨fn, _, assign, body, hy, roundIn_of_wpIn hfn (hassign _ pre x args W _ hi hv hpre henc ?_)⟩
      clear hy
      intro a' Wa hkfa hia hva hax
      replace hl := hkfa _ _ hl rfl
      replace hk := hkfa _ _ hk rfl
      replace hi := hia
      replace hv := hva
      clear hia hva hkfa henc
      clear W
      obtain ⟨W, rfl⟩ : ∃ W, W = Wa := ⟨_, rfl⟩
      have hlt : w.heap.size + 1 < W.heap.size := lt_of_block hl
      refine ⟨_, run_beginRound hl (by rw [hrec]), ?_⟩
      have hl2 : (W.putObj (w.heap.size + 1) (.loop { rec .ready none with state := .busy })).heap[w.heap.size + 1]? = some (.loop { rec .ready none with state := .busy }) := World.putObj_heap_same hlt
      have hk2 : (W.putObj (w.heap.size + 1) (.loop { rec .ready none with state := .busy })).heap[w.heap.size]? = some (.deferred (some [])) := (World.putObj_heap_other (by omega)).trans hk
      have hin : Inert w.heap.size W (W.putObj (w.heap.size + 1) (.loop { rec .ready none with state := .busy })) := .putObj hl (by omega) rfl
      refine wpIn_mono (hbody _ pre x a' _ (by omega) ⟨_, hl2⟩ (hI _ _ _ hi hin) (hInv _ _ hv hin) hpre (hAx _ _ _ _ hax hin)) ?_
      have fin : ∀ (jump : Option Code) (W3 : World), KeepBk (W.putObj (w.heap.size + 1) (.loop { rec .ready none with state := .busy })) W3 →
          (Instr.endRound (w.heap.size + 1) jump).run P W3 = .ok (.bool jump.isNone) (W3.putObj (w.heap.size + 1) (.loop (rec (if jump.isNone then .ready else .done) jump))) ∧
          W3.heap[w.heap.size + 1]? = some (.loop { rec .ready none with state := .busy }) ∧
          (W3.putObj (w.heap.size + 1) (.loop (rec (if jump.isNone then .ready else .done) jump))).heap[w.heap.size + 1]? = some (.loop (rec (if jump.isNone then .ready else .done) jump)) ∧
          (W3.putObj (w.heap.size + 1) (.loop (rec (if jump.isNone then .ready else .done) jump))).heap[w.heap.size]? = some (.deferred (some [])) := fun jump W3 hk3 => by
        have hl3 := hk3 _ _ hl2 rfl
        have := run_endRound (P := P) jump hl3
        rw [hrec] at this ⊢
        exact ⟨this, by rw [hrec] at hl3; exact hl3, World.putObj_heap_same (lt_of_block hl3), (World.putObj_heap_other (by omega)).trans (hk3 _ _ hk2 rfl)⟩
      rintro e a3 W3 hp
      cases e with
      | normal =>
        obtain ⟨hk3, hv3, hi3⟩ := hp
        obtain ⟨hr, hl3, hl4, hk4⟩ := fin none W3 hk3
        exact ⟨_, _, hr, .inl ⟨rfl, ⟨hI _ _ _ hi3 (.putObj hl3 (Nat.le_succ _) rfl), hl4, hk4⟩, hInv _ _ hv3 (.putObj hl3 (Nat.le_succ _) rfl)⟩⟩
      | ret =>
        obtain ⟨hk3, hi3⟩ := hp
        obtain ⟨hr, hl3, hl4, hk4⟩ := fin (some .ret) W3 hk3
        exact ⟨_, _, hr, .inr ⟨rfl, .ret, hIx _ _ _ _ hi3 (.putObj hl3 (Nat.le_succ _) rfl), hl4, hk4⟩⟩
      | exit id =>
        obtain ⟨hk3, hi3⟩ := hp
        obtain ⟨hr, hl3, hl4, hk4⟩ := fin (some (.exit id)) W3 hk3
        exact ⟨_, _, hr, .inr ⟨rfl, .exit id, hIx _ _ _ _ hi3 (.putObj hl3 (Nat.le_succ _) rfl), hl4, hk4⟩⟩
      | goto t =>
        obtain ⟨hk3, hi3⟩ := hp
        obtain ⟨hr, hl3, hl4, hk4⟩ := fin (some (.goto t)) W3 hk3
        exact ⟨_, _, hr, .inr ⟨rfl, .goto t, hIx _ _ _ _ hi3 (.putObj hl3 (Nat.le_succ _) rfl), hl4, hk4⟩⟩
      | panic ch => exact hp.elim
      | outgrown => exact hp.elim
    · rintro e W2 ⟨⟨v, rfl⟩, (⟨⟨hi, hl, hk⟩, hv⟩ | ⟨pre, hSp, c, hi, hl, hk⟩)⟩
      · exact ⟨none, _, by have := run_endLoop (P := P) hl (by rw [hrec]; simp); rw [hrec] at this; exact this, hdone _ _ (Nat.le_refl _) (hI _ _ _ hi (.putObj hl (Nat.le_succ _) rfl)) (hInv _ _ hv (.putObj hl (Nat.le_succ _) rfl)) ((World.putObj_heap_other (by omega)).trans hk)⟩
      · exact ⟨some c, _, by have := run_endLoop (P := P) hl (by rw [hrec]; simp); rw [hrec] at this; exact this, hstop _ c pre _ (Nat.le_refl _) hSp (hIx _ _ _ _ hi (.putObj hl (Nat.le_succ _) rfl)) ((World.putObj_heap_other (by omega)).trans hk)⟩
end Go.Proofs.YtbijamlgcebgeaaDoor.Hand

-- part HF
namespace Go.Proofs.YtbijamlgcebgeaaDoor.Hand
open Go.RowKit Go.Shelf Go.Proofs.YtbijamlgcebgeaaDoorW.PrintWords Go.Proofs.YtbijamlgcebgeaaDoor.Q
attribute [local go_sem] Oper.semAt_some
theorem bitsOf_step : ∀ s, s < 64 → s ≠ 0 → bitsOf s = Lib.ctz 64 s :: bitsOf (s &&& (s - 1)) ∧ s &&& (s - 1) < s := by decide +kernel
theorem bits_low (s : Nat) (hs : s < 64) (h0 : s ≠ 0) : bits .and .u64 (s : Int) (s - 1) = ((s &&& (s - 1) : Nat) : Int) := by
  rw [show ((s : Int) - 1) = ((s - 1 : Nat) : Int) by omega]
  exact bits_and_u64_nat s _ (by omega) (by omega)
/-- What 'all' yields. -/
def EncI (x : Nat) (args : Array Value) (_ : World) : Prop := args = #[.int .i64 x]
theorem all_iter (s : Nat) (hs : s < 64) : Iter Tryd.prog 90 #[.int .u64 s] #[] EncI TabW Eq (bitsOf s) := by
  intro l J Jx W hT hJs hJxs hY h0
  refine callsIn_of_wp Tryd.func90 rfl trivial ?_
  simp only [Tryd.ntmps90, List.size_toArray, List.length_cons, List.length_nil, Nat.reduceAdd, Nat.reduceSub, Array.replicate_succ, Array.replicate_zero, List.push_toArray, List.append_toArray, List.nil_append, List.cons_append]
  gi_wp2
  gi_loopw [0] (fun v wr => ∃ (r : Nat) (pre : List Nat), v = .int .u64 r ∧ r < 64 ∧ Hid (bitsOf s = pre ++ bitsOf r) ∧ J pre wr ∧ TabW wr) (fun v _ => (intOf v).toNat)
  case atStart => exact ⟨s, [], rfl, hs, rfl, h0, hT⟩
  case round =>
    obtain ⟨r, pre, rfl, hr, hp, hj, hT1⟩ := hrel
    by_cases hz : r = 0
    · subst hz
      gi_wp2
      go_end0
      have e : bitsOf s = pre := by rw [hp.out]; simp [bitsOf]
      exact ⟨⟨_, rfl⟩, .inl (by rw [e]; exact ⟨hj, hT1⟩)⟩
    · obtain ⟨e1, e2⟩ := bitsOf_step r hr hz
      have hpre : pre ++ [Lib.ctz 64 r] <+: bitsOf s := ⟨bitsOf (r &&& (r - 1)), by rw [hp.out, e1]; simp⟩
      obtain ⟨fn, tmps, assign, body, hy, hR⟩ := hY pre (Lib.ctz 64 r) #[.int .i64 (Lib.ctz 64 r)] wr hj hT1 hpre rfl
      have hb := bits_low r hr hz
      have hz1 : ((r : Int) != 0) = true := by simp; omega
      have hz2 : (1 : Int) ≤ r := by omega
      have E := Lib.hid e1
      have Hb := Lib.hid hb
      clear e1 hb
      gi_wp2_with fail
      refine ⟨trivial, rfl, ?_⟩
      refine (callsIn_wide.2 (tz_calls r (by omega) hz _ hT1)).mono ?_
      rintro e w1 ⟨rfl, rfl⟩
      gi_wp2_with fail
      refine ⟨rfl, ?_⟩
      refine hR.mono ?_
      rintro e w1 (⟨rfl, hj1, hT2⟩ | ⟨rfl, hx1⟩)
      · gi_wp2
        go_roundw
        case rel => exact ⟨r &&& (r - 1), pre ++ [Lib.ctz 64 r], by rw [← Hb.out], by omega, Lib.hid (by rw [hp.out, E.out]; simp), hj1, hT2⟩
        case measure => simp [intOf]; rw [Hb.out]; omega
      · gi_wp2
        refine bodyPost_ret (results_none rfl _ _ _) rfl ?_
        exact ⟨⟨_, rfl⟩, .inr ⟨_, hpre, hx1⟩⟩
end Go.Proofs.YtbijamlgcebgeaaDoor.Hand

-- part HR
namespace Go.Proofs.YtbijamlgcebgeaaDoor.Hand
open Go.RowKit
/-- No statement 'defer'. -/
def noDefer (l : List Oper) : Bool := l.all fun o => match o.op with
  | .defer _ => false
  | _ => true
theorem noDefer_at {l : List Oper} (h : noDefer l = true) {o : Oper} (ho : o ∈ l) (c : Call) : o.op ≠ .defer c := fun e => by
  have := List.all_eq_true.1 h o ho
  rw [e] at this
  cases this
theorem opsIn_of_ops {P : Program} {ops : Array Oper} {Q : Exit → Act → World → Prop} (lo : Nat) (hQ : ¬ LetsOut Q) (hd : noDefer ops.toList = true) : ∀ (l : List Nat) (a : Act) (w : World), wpOps P ops Q l a w → wpOpsIn (FW.inRound lo) 0 P ops Q l a w := by
  intro l
  induction l with
  | nil => intro a w h; exact h
  | cons i l ih =>
    intro a w h
    unfold wpOps at h
    unfold wpOpsIn
    cases ho : ops[i]? with
    | none => rw [ho] at h; exact ih _ _ h
    | some o =>
      rw [ho] at h
      dsimp only at h ⊢
      split at h
      · rename_i hw
        rw [if_pos hw]
        rcases h with h | h
        · refine ⟨fun _ _ => trivial, ?_⟩
          unfold Oper.wp at h
          have hmem : o ∈ ops.toList := by
            obtain ⟨hi, e⟩ := Array.getElem?_eq_some_iff.1 ho
            rw [← e]
            simp
          rw [Fence.inRound_round, Oper.semAt_some lo a.eval o (noDefer_at hd hmem)]
          generalize (execOp a.eval o).run P w = r at h ⊢
          cases r with
          | ok x w' =>
            cases x with
            | value v => exact ih _ _ h
            | skip => exact ih _ _ h
            | defer d => exact ih _ _ h
            | enter f args =>
              refine ⟨fun h => by simp [Fence.inRound, Fence.wide] at h, ?_⟩
              refine (CallsIn.inRound lo (callsIn_wide.2 h)).mono ?_
              intro e w'' he
              cases e with
              | returned v => exact ih _ _ he
              | panicked c => exact he
              | outgrown => exact he
            | row row args =>
              refine ⟨fun h => by simp [Fence.inRound, Fence.wide] at h, ?_⟩
              intro c cs _
              obtain ⟨v, w'', r, s⟩ := h c cs
              exact ⟨v, w'', ih _ _ r, (stepsIn_wide (P := P)).2 s⟩
            | _ => exact h.elim
          | halt hl w' =>
            cases hl with
            | panic v => exact h
            | _ => exact h.elim
        · exact (hQ h.2).elim
      · rename_i hw
        rw [if_neg hw]
        exact ⟨fun _ _ => trivial, ih _ _ h⟩
theorem wpIn_region_round {P : Program} {ops : Array Oper} {Q : Exit → Act → World → Prop} {lo id : Nat} {a : Act} {w : World} (hm : P.follows .mixedOrders = true) (hQ : ¬ LetsOut Q) (hd : noDefer ops.toList = true)
    (h : wpAny P .any ops Q ops.size (Array.replicate ops.size false) a { w with drawn := w.drawn + 1 }) : (Code.region id ops true).wpIn (FW.inRound lo) 0 P Q a w :=
  wpIn_region_draw fun t => by
    simp only [Region.schedule, hm, Bool.true_or, if_true]
    exact opsIn_of_ops lo hQ hd _ _ _ (wpAny_sound ops.size t _ a _ h)
/-- Reads, then what may write: one walk in the text's order. -/
theorem wpIn_region_still_tail {P : Program} {id lo : Nat} {Q : Exit → Act → World → Prop} {a : Act} {w : World} {l : List Oper} (n : Nat) (hm : P.follows .mixedOrders = true) (hQ : ¬ LetsOut Q) (hd : noDefer l = true) (hB : Region.lexTailB .any l.toArray n = true)
    (h : wpStill P l.toArray { w with drawn := w.drawn + 1 } (fun a' => wpList P l.toArray Q (l.drop n) a' { w with drawn := w.drawn + 1 }) (l.take n) a) : (Code.region id l.toArray true).wpIn (FW.inRound lo) 0 P Q a w := by
  simp only [Region.lexTailB, Bool.and_eq_true, decide_eq_true_eq] at hB
  obtain ⟨⟨⟨⟨hsel, hn⟩, hs⟩, hc⟩, hlex⟩ := hB
  have hn' : n < l.length := by simpa using hn
  have htl : (l.take n).length = n := by simp; omega
  have hdl : (l.drop n).length = l.toArray.size - n := by simp
  have inv0 : HeadInv .any l.toArray n (Array.replicate l.toArray.size false) :=
    ⟨by simp, fun j oj _ hl => (by rw [getD_replicate_false] at hl; cases hl), fun t _ ht => getD_in (by simpa using ht) (getD_replicate_false _ _)⟩
  have H := wpAnyL_lex (md := .any) (g := l.toArray.size - n) hsel hs hc hn (l.take n) 0 _ a (fun j hj => by
    have hj' : j < n := by rw [htl] at hj; exact hj
    simp [hj']) (by simpa using htl) inv0 (by rw [htl]; exact hlex) h
  refine wpIn_region_round hm hQ (by simpa using hd) ?_
  have := wpAny_of_head (Q' := Q) (g := l.toArray.size - n) (fun listed a' hL => by
    have := wpAny_of_seq (md := .any) (Q' := Q) (l.drop n) n listed a' { w with drawn := w.drawn + 1 } (fun j => by simp [List.getElem?_drop]) (by rw [hdl]; exact hL.1) hL.2
    rwa [hdl] at this) _ _ _ H
  rw [htl, show n + (l.toArray.size - n) = l.toArray.size by omega] at this
  exact this
/-- The end of a call that has ranged over a function. -/
theorem leaveM {P : Program} {fn : Func} {tmps : Array Value} {R : Ending → World → Prop} {D : Nat} {W : World} (v : Value) (hK : W.heap[D]? = some (.deferred (some [])))
    (hres : (results fn tmps).run P (W.putObj D (.deferred none)) = .ok v (W.putObj D (.deferred none))) (hR : R (.returned v) (W.putObj D (.deferred none))) :
    LeavesInM FW 0 P fn tmps R [{ target := .collected D, args := #[] }] .returning W :=
  ⟨by simp, .inl ⟨_, _, rfl, run_takeDeferred hK, v, hres, hR⟩⟩
theorem leaveM_tmp {P : Program} {fn : Func} {tmps : Array Value} {R : Ending → World → Prop} {D : Nat} {W : World} {t : Tmp} (v : Value) (hK : W.heap[D]? = some (.deferred (some [])))
    (h : fn.results = #[.tmp t]) (hv : tmps.getD t undef = v) (hR : R (.returned v) (W.putObj D (.deferred none))) :
    LeavesInM FW 0 P fn tmps R [{ target := .collected D, args := #[] }] .returning W :=
  leaveM v hK (by rw [← hv]; exact results_tmp h _ _ _) hR
theorem Box.set {w : World} {b : Nat} {vs : Array Value} {t : TypeId} (h : Box w b vs t) (i : Nat) (v : Value) : Box (w.setCell ⟨b, i, none⟩ v) b (vs.setIfInBounds i v) t := by
  have hlt := h.lt
  have h' : w.heap[b] = .cells vs t (0, 0) := by
    have := h
    unfold Box at this
    simpa [Array.getElem?_eq_getElem hlt] using this
  show (w.heap.modify b _)[b]? = _
  rw [Array.getElem?_eq_getElem (by simpa using hlt), Array.getElem_modify_self, h']
  rfl
theorem Box.other {w : World} {b b' : Nat} {vs : Array Value} {t : TypeId} (h : Box w b vs t) (hne : b ≠ b') (i : Nat) (v : Value) : Box (w.setCell ⟨b', i, none⟩ v) b vs t := (Below.heap_setCell w ⟨b', i, none⟩ v b hne).trans h
theorem Box.put {w : World} {b D : Nat} {vs : Array Value} {t : TypeId} (h : Box w b vs t) (hK : w.heap[D]? = some (.deferred (some []))) (o : Obj) : Box (w.putObj D o) b vs t := Inert.box h (Inert.putObj (B := 0) hK (Nat.zero_le _) rfl)
theorem Below.put {w W : World} {n₀ D : Nat} {o : Obj} (h : Below n₀ w W) (hD : n₀ ≤ D) : Below n₀ w (W.putObj D o) :=
  ⟨h.os, h.tape, h.output, by simpa using h.size, fun k hk => (World.putObj_heap_other (by omega)).trans (h.block k hk)⟩
theorem TabW.setCell {w : World} (h : TabW w) {b : Nat} (hb : 2 ≤ b) (i : Nat) (v : Value) : TabW (w.setCell ⟨b, i, none⟩ v) :=
  ⟨by simpa [World.setCell] using h.1, fun j hj => (World.cell?_of_block (w := w) (a := ⟨1, j, none⟩) (Below.heap_setCell w ⟨b, i, none⟩ v 1 (by show 1 ≠ b; omega))).trans (h.2 j hj)⟩
theorem TabW.drew {w : World} (h : TabW w) : TabW w.drew := h
theorem TabW.drewN {w : World} (h : TabW w) (n : Nat) : TabW (w.drewN n) := h
theorem Box.drew {w : World} {b : Nat} {vs : Array Value} {t : TypeId} (h : Box w b vs t) : Box w.drew b vs t := h
end Go.Proofs.YtbijamlgcebgeaaDoor.Hand

-- part HG
namespace Go.Proofs.YtbijamlgcebgeaaDoor.Hand
open Go.RowKit Go.Shelf Go.Proofs.YtbijamlgcebgeaaDoorW.PrintWords Go.Proofs.YtbijamlgcebgeaaDoor.Q
attribute [local go_sem] Oper.semAt_some
/-- A fork and its signs. -/
structure Furn where
  bars : Int
  length : Int
  gap : Int
  load : Int
  near : Int
  l : List S74
/-- A furnace in memory: its block B, its map's block M. -/
def Fu (w : World) (B M : Nat) (F : Furn) : Prop :=
  ∃ A c, Box w B #[.int .i64 F.bars, .int .i64 F.length, .int .i64 F.gap, .int .i64 F.load, .int .i64 F.near, .slice A F.l.length c, .map (some M)] 122 ∧ Kd.C k74 w A F.l.length F.l
theorem Fu.below {w w' : World} {B M : Nat} {F : Furn} (h : Fu w B M F) (hb : Below w.heap.size w w') : Fu w' B M F := by
  obtain ⟨A, c, h1, h2⟩ := h
  exact ⟨A, c, h1.step hb, Kd.C_below h2 hb⟩
/-- The sum of what signs weigh. -/
def sumB (f : S74 → Int) (l : List S74) (is : List Nat) : Int := (is.map fun i => f (l.getD i z74)).foldl (· + ·) 0
theorem sumB_snoc (f : S74 → Int) (l : List S74) (is : List Nat) (i : Nat) : sumB f l (is ++ [i]) = sumB f l is + f (l.getD i z74) := by simp [sumB]
/-- A valid furnace. -/
structure Furn.Ok (F : Furn) : Prop where
  bars : 1 ≤ F.bars ∧ F.bars ≤ 3
  length : 1 ≤ F.length ∧ F.length ≤ 200
  gap : 0 ≤ F.gap ∧ F.gap ≤ 20
  load : 1 ≤ F.load ∧ F.load ≤ 2000
  near : 0 ≤ F.near ∧ F.near ≤ 100
  len : F.l.length ≤ 6
  signs : ∀ x ∈ F.l, (1 ≤ x.f0 ∧ x.f0 ≤ 200) ∧ (1 ≤ x.f1 ∧ x.f1 ≤ 100) ∧ (1 ≤ x.f2.f0 ∧ x.f2.f0 ≤ x.f2.f1 ∧ x.f2.f1 ≤ 500) ∧ (0 ≤ x.f3.f0 ∧ x.f3.f0 ≤ x.f3.f1 ∧ x.f3.f1 ≤ 1000)
theorem sumB_bd (f : S74 → Int) (l : List S74) (hb : ∀ x ∈ l, 0 ≤ f x ∧ f x ≤ 500) (is : List Nat) (h : ∀ i ∈ is, i < l.length) : 0 ≤ sumB f l is ∧ sumB f l is ≤ 500 * is.length := by
  have key : ∀ (is : List Nat) (a : Int), (∀ i ∈ is, i < l.length) → a ≤ (is.map fun i => f (l.getD i z74)).foldl (· + ·) a ∧ (is.map fun i => f (l.getD i z74)).foldl (· + ·) a ≤ a + 500 * is.length := by
    intro is
    induction is with
    | nil => intro a _; simp
    | cons i is ih =>
      intro a h
      have hi : i < l.length := h i (by simp)
      have h2 := hb (l.getD i z74) (by rw [List.getD_eq_getElem?_getD, List.getElem?_eq_getElem hi]; exact List.getElem_mem hi)
      have h3 := ih (a + f (l.getD i z74)) (fun j hj => h j (by simp [hj]))
      simp only [List.map_cons, List.foldl_cons, List.length_cons]
      omega
  have := key is 0 h
  unfold sumB
  omega
theorem bitsOf_len (s : Nat) : (bitsOf s).length ≤ 6 := by
  unfold bitsOf
  exact Nat.le_trans (List.length_filter_le _ _) (by simp)
theorem rd_mem {l : List S74} {x : Nat} (h : x < l.length) : rd_T74 l x ∈ l := by
  unfold rd_T74
  rw [Int.toNat_natCast, List.getD_eq_getElem?_getD, List.getElem?_eq_getElem h]
  exact List.getElem_mem h
set_option maxRecDepth 100000 in
set_option maxHeartbeats 2000000 in
theorem weight_calls (F : Furn) (hF : F.Ok) (s : Nat) (hs : s < 64) (hl' : ∀ i ∈ bitsOf s, i < F.l.length) (B M : Nat) (w : World) (hT : TabW w) (hf : Fu w B M F) :
    Calls Tryd.prog 59 #[.pointer (some ⟨B, 0, none⟩), .int .u64 s] w fun e w' => e = .returned (.agg #[.int .i64 (sumB (fun x => x.f2.f0) F.l (bitsOf s)), .int .i64 (sumB (fun x => x.f2.f1) F.l (bitsOf s))]) ∧ Below w.heap.size w w' := by
  refine (callsIn_wide (n := 0)).1 ?_
  refine callsIn_of_wp_marks Tryd.func59 rfl trivial ?_
  simp only [Tryd.ntmps59, List.size_toArray, List.length_cons, List.length_nil, Nat.reduceAdd, Nat.reduceSub, Array.replicate_succ, Array.replicate_zero, List.push_toArray, List.append_toArray, List.nil_append, List.cons_append]
  gi_wp2
  obtain ⟨A, c, hB, hC⟩ := hf
  refine wpIn_range (gf := 90) (first := #[.int .u64 s]) (lb := #[]) rfl (enters_of Tryd.func90 (by kernel_rfl) rfl) (all_iter s hs) (by rintro x args W rfl; rfl) (fun A B h hi => hi.tab h) (fun A B e => by rw [e]; exact KeepBk.refl _)
    (fun pre W => Box W w.heap.size #[.pointer (some ⟨B, 0, none⟩)] 91 ∧ Box W (w.heap.size + 1) #[.int .i64 (sumB (fun x => x.f2.f0) F.l pre), .int .i64 (sumB (fun x => x.f2.f1) F.l pre)] 36 ∧ Below w.heap.size w W)
    (fun _ _ _ => False)
    (fun pre X Y h hi => ⟨hi.box h.1, hi.box h.2.1, Inert.below h.2.2 (by simp; omega) (Nat.le_refl _) hi⟩)
    (fun pre X Y h e => by rw [← e]; exact h) (fun _ _ _ _ h _ => h) (fun _ _ _ _ h _ => h)
    ⟨(Box.new _ _ _).alloc _, Box.new' _ _ _ (by simp), ((Below.refl _ _).alloc (Nat.le_refl _) _).alloc (by simp) _⟩ ((hT.alloc _).alloc _)
    (fun x a' _ => a' = { tmps := #[.pointer (some ⟨B, 0, none⟩), .int .u64 s, .pointer (some ⟨w.heap.size, 0, none⟩), undef, .pointer (some ⟨w.heap.size + 1, 0, none⟩), .int .i64 x, .int .u64 s, .func (.func 90) #[.int .u64 s] #[], .int .i64 x, undef, undef, undef, undef, undef, undef, undef, undef, undef, undef, undef, undef, undef, undef, undef, undef, undef, undef, undef, undef, undef, undef, undef, undef, undef, undef], defers := [] })
    (fun _ _ _ _ h _ => h) ?assign ?body ?done ?stop
  case assign =>
    rintro l pre x args W K hi hv hp rfl hK
    gi_wp2
    exact hK _ _ (KeepBk.refl _) hi hv rfl
  case body =>
    rintro l pre x a' W hl hr ⟨h1, h2, h3⟩ hv hp rfl
    have hx : x < F.l.length := hl' x (by obtain ⟨z, hz⟩ := hp; rw [← hz]; simp)
    obtain ⟨ad, e, g0, g1, g2, g3, g4, g5⟩ := at_T74 (Kd.C_below hC h3) x (by omega) (by omega)
    subst e
    rw [Int.toNat_natCast] at g0 g1 g2 g3 g4 g5
    have hB' := hB.step h3
    have b5 : W.cell? ⟨B, 5, none⟩ = some (.slice (some ad) F.l.length c) := hB'.cell 5 rfl
    have b1 : W.cell? ⟨w.heap.size, 0, none⟩ = some (.pointer (some ⟨B, 0, none⟩)) := h1.cell 0 rfl
    obtain ⟨vl, hvl⟩ : ∃ v, sumB (fun x => x.f2.f0) F.l pre = v := ⟨_, rfl⟩
    obtain ⟨vh, hvh⟩ : ∃ v, sumB (fun x => x.f2.f1) F.l pre = v := ⟨_, rfl⟩
    rw [hvl, hvh] at h2
    have c0 : W.cell? ⟨w.heap.size + 1, 0, none⟩ = some (.int .i64 vl) := h2.cell 0 rfl
    have c1 : W.cell? ⟨w.heap.size + 1, 1, none⟩ = some (.int .i64 vh) := h2.cell 1 rfl
    have Hl := Lib.hid hvl
    have Hh := Lib.hid hvh
    have hpl : pre.length ≤ 6 := by
      obtain ⟨z, hz⟩ := hp
      have := bitsOf_len s
      rw [← hz] at this
      simp at this
      omega
    have hin : ∀ i ∈ pre, i < F.l.length := fun i hi => hl' i (by obtain ⟨z, hz⟩ := hp; rw [← hz]; simp [hi])
    have bl := sumB_bd (fun x => x.f2.f0) F.l (fun x hx => by have := hF.signs x hx; omega) pre hin
    have bh := sumB_bd (fun x => x.f2.f1) F.l (fun x hx => by have := hF.signs x hx; omega) pre hin
    rw [hvl] at bl
    rw [hvh] at bh
    have hsg := (hF.signs _ (rd_mem hx)).2.2.1
    have bl1 : 0 ≤ vl := bl.1
    have bl2 : vl ≤ 3000 := by omega
    have bh1 : 0 ≤ vh := bh.1
    have bh2 : vh ≤ 3000 := by omega
    obtain ⟨hsg1, hsg2, hsg3⟩ := hsg
    clear hvl hvh bl bh hin
    have f0 := h2.frozen 0
    have f1 := h2.frozen 1
    gi_wp2
    refine wpIn_region_still_tail 25 (by kernel_rfl) (fun ⟨_, _, h⟩ => h) rfl (by kernel_rfl) ?_
    simp only [List.take_succ_cons, List.take_zero, List.drop_succ_cons, List.drop_zero]
    repeat still_step
    try refine wpStill_nil ?_
    go_wp2
    refine ⟨(KeepBk.drew W).trans ((KeepBk.setCell _ _ _).trans (KeepBk.setCell _ _ _)), ?_, ?_, ?_, ?_⟩
    · exact (hv.drew.setCell (by have := hT.1; omega) 0 _).setCell (by have := hT.1; omega) 1 _
    · exact ((h1.drew.other (by simp) 0 _).other (by simp) 1 _)
    · have := ((h2.drew.set 0 (.int .i64 (vl + (rd_T74 F.l x).f2.f0))).set 1 (.int .i64 (vh + (rd_T74 F.l x).f2.f1)))
      rw [sumB_snoc, sumB_snoc, Hl.out, Hh.out]
      exact this
    · exact ((h3.drew.setCell (p := ⟨w.heap.size + 1, 0, none⟩) (by simp) _).setCell (p := ⟨w.heap.size + 1, 1, none⟩) (by simp) _)
  case done =>
    rintro D W hD ⟨h1, h2, h3⟩ hv hK
    obtain ⟨vl, hvl⟩ : ∃ v, sumB (fun x => x.f2.f0) F.l (bitsOf s) = v := ⟨_, rfl⟩
    obtain ⟨vh, hvh⟩ : ∃ v, sumB (fun x => x.f2.f1) F.l (bitsOf s) = v := ⟨_, rfl⟩
    rw [hvl, hvh] at h2
    have c0 : W.cell? ⟨w.heap.size + 1, 0, none⟩ = some (.int .i64 vl) := h2.cell 0 rfl
    have c1 : W.cell? ⟨w.heap.size + 1, 1, none⟩ = some (.int .i64 vh) := h2.cell 1 rfl
    have f0 := h2.frozen 0
    have f1 := h2.frozen 1
    have Hl := Lib.hid hvl
    have Hh := Lib.hid hvh
    clear hvl hvh
    gi_wp2
    have hK2 := KeepBk.setCell _ ⟨w.heap.size + 1, 1, none⟩ (.int .i64 vh) _ _ (KeepBk.setCell W ⟨w.heap.size + 1, 0, none⟩ (.int .i64 vl) _ _ hK rfl) rfl
    have hb2 := (((h2.set 0 (.int .i64 vl)).set 1 (.int .i64 vh)).put hK2 (.deferred none))
    refine leaveM (.agg #[.int .i64 vl, .int .i64 vh]) hK2 ?_ ⟨by rw [Hl.out, Hh.out], ?_⟩
    · generalize (((W.setCell { block := w.heap.size + 1, off := 0 } (Value.int IntKind.i64 vl)).setCell { block := w.heap.size + 1, off := 1 } (Value.int IntKind.i64 vh)).putObj D (Obj.deferred none)) = W2 at hb2
      have d0 : W2.cell? ⟨w.heap.size + 1, 0, none⟩ = some (.int .i64 vl) := hb2.cell 0 rfl
      have d1 : W2.cell? ⟨w.heap.size + 1, 1, none⟩ = some (.int .i64 vh) := hb2.cell 1 rfl
      clear hb2 hK2
      simp [results, Tryd.results59, go_sem, d0, d1]
    · exact Below.put ((h3.setCell (p := ⟨w.heap.size + 1, 0, none⟩) (by simp) _).setCell (p := ⟨w.heap.size + 1, 1, none⟩) (by simp) _) (by simp at hD; omega)
  case stop =>
    rintro D c pre W _ _ h _
    exact h.elim
end Go.Proofs.YtbijamlgcebgeaaDoor.Hand

-- part HS
namespace Go.Proofs.YtbijamlgcebgeaaDoor.Hand
open Go.RowKit
section
variable {P : Program} {ops : Array Oper} {md : Region.Mode} {w : World}
end
end Go.Proofs.YtbijamlgcebgeaaDoor.Hand

-- part HH
namespace Go.Proofs.YtbijamlgcebgeaaDoor.Hand
open Go.RowKit Go.Shelf Go.Proofs.YtbijamlgcebgeaaDoorW.PrintWords Go.Proofs.YtbijamlgcebgeaaDoorW.PrintMore Go.Proofs.YtbijamlgcebgeaaDoor.Q
theorem max2_mx (k k' : IntKind) (x y : Int) : Builtin.max2 (.int k x) (.int k' y) = pure (.int k (mx x y)) := max2_int k k' x y
theorem min2_mn (k k' : IntKind) (x y : Int) : Builtin.min2 (.int k x) (.int k' y) = pure (.int k (mn x y)) := min2_int k k' x y
attribute [local go_sem] Oper.semAt_some max2_mx min2_mn max_two min_two
/-- The heats that suit all. -/
def heatB (l : List S74) (is : List Nat) : Int × Int := is.foldl (fun h i => (mx h.1 (l.getD i z74).f3.f0, mn h.2 (l.getD i z74).f3.f1)) (0, 1000)
theorem heatB_snoc (l : List S74) (is : List Nat) (i : Nat) : heatB l (is ++ [i]) = (mx (heatB l is).1 (l.getD i z74).f3.f0, mn (heatB l is).2 (l.getD i z74).f3.f1) := by simp [heatB]
set_option maxRecDepth 100000 in
set_option maxHeartbeats 2000000 in
theorem heat_calls (F : Furn) (hF : F.Ok) (s : Nat) (hs : s < 64) (hl' : ∀ i ∈ bitsOf s, i < F.l.length) (B M : Nat) (w : World) (hT : TabW w) (hf : Fu w B M F) :
    Calls Tryd.prog 63 #[.pointer (some ⟨B, 0, none⟩), .int .u64 s] w fun e w' => e = .returned (.agg #[.int .i64 (heatB F.l (bitsOf s)).1, .int .i64 (heatB F.l (bitsOf s)).2]) ∧ Below w.heap.size w w' := by
  refine (callsIn_wide (n := 0)).1 ?_
  refine callsIn_of_wp_marks Tryd.func63 rfl trivial ?_
  simp only [Tryd.ntmps63, List.size_toArray, List.length_cons, List.length_nil, Nat.reduceAdd, Nat.reduceSub, Array.replicate_succ, Array.replicate_zero, List.push_toArray, List.append_toArray, List.nil_append, List.cons_append]
  gi_wp2
  obtain ⟨A, c, hB, hC⟩ := hf
  refine wpIn_range (gf := 90) (first := #[.int .u64 s]) (lb := #[]) rfl (enters_of Tryd.func90 (by kernel_rfl) rfl) (all_iter s hs) (by rintro x args W rfl; rfl) (fun A B h hi => hi.tab h) (fun A B e => by rw [e]; exact KeepBk.refl _)
    (fun pre W => Box W w.heap.size #[.pointer (some ⟨B, 0, none⟩)] 91 ∧ Box W (w.heap.size + 2) #[.int .i64 (heatB F.l pre).1, .int .i64 (heatB F.l pre).2] 36 ∧ Box W (w.heap.size + 1) #[.int .i64 0, .int .i64 0] 36 ∧ Below w.heap.size w W)
    (fun _ _ _ => False)
    (fun pre X Y h hi => ⟨hi.box h.1, hi.box h.2.1, hi.box h.2.2.1, Inert.below h.2.2.2 (by simp; omega) (Nat.le_refl _) hi⟩)
    (fun pre X Y h e => by rw [← e]; exact h) (fun _ _ _ _ h _ => h) (fun _ _ _ _ h _ => h)
    ⟨((Box.new _ _ _).alloc _).alloc _, Box.new' _ _ _ (by simp), (Box.new' _ _ _ (by simp)).alloc _, (((Below.refl _ _).alloc (Nat.le_refl _) _).alloc (by simp) _).alloc (by simp; omega) _⟩ (((hT.alloc _).alloc _).alloc _)
    (fun x a' _ => a' = { tmps := #[.pointer (some ⟨B, 0, none⟩), .int .u64 s, .pointer (some ⟨w.heap.size, 0, none⟩), undef, .pointer (some ⟨w.heap.size + 1, 0, none⟩), .pointer (some ⟨w.heap.size + 1 + 1, 0, none⟩), .int .i64 x, .agg #[.int .i64 0, .int .i64 1000], .int .u64 s, .func (.func 90) #[.int .u64 s] #[], .int .i64 x, undef, undef, undef, undef, undef, undef, undef, undef, undef, undef, undef, undef, undef, undef, undef, undef, undef, undef, undef, undef, undef, undef, undef, undef, undef, undef], defers := [] })
    (fun _ _ _ _ h _ => h) ?assign ?body ?done ?stop
  case assign =>
    rintro l pre x args W K hi hv hp rfl hK
    gi_wp2
    exact hK _ _ (KeepBk.refl _) hi hv rfl
  case body =>
    rintro l pre x a' W hl hr ⟨h1, h2, h4, h3⟩ hv hp rfl
    have hx : x < F.l.length := hl' x (by obtain ⟨z, hz⟩ := hp; rw [← hz]; simp)
    obtain ⟨ad, e, g0, g1, g2, g3, g4, g5⟩ := at_T74 (Kd.C_below hC h3) x (by omega) (by omega)
    subst e
    rw [Int.toNat_natCast] at g0 g1 g2 g3 g4 g5
    have hB' := hB.step h3
    have b5 : W.cell? ⟨B, 5, none⟩ = some (.slice (some ad) F.l.length c) := hB'.cell 5 rfl
    have b1 : W.cell? ⟨w.heap.size, 0, none⟩ = some (.pointer (some ⟨B, 0, none⟩)) := h1.cell 0 rfl
    obtain ⟨vl, hvl⟩ : ∃ v, (heatB F.l pre).1 = v := ⟨_, rfl⟩
    obtain ⟨vh, hvh⟩ : ∃ v, (heatB F.l pre).2 = v := ⟨_, rfl⟩
    rw [hvl, hvh] at h2
    have c0 : W.cell? ⟨w.heap.size + 1 + 1, 0, none⟩ = some (.int .i64 vl) := h2.cell 0 rfl
    have c1 : W.cell? ⟨w.heap.size + 1 + 1, 1, none⟩ = some (.int .i64 vh) := h2.cell 1 rfl
    have Hl := Lib.hid hvl
    have Hh := Lib.hid hvh
    clear hvl hvh
    have f0 : W.frozen? ⟨w.heap.size + 1 + 1, 0, none⟩ = false := h2.frozen 0
    have f1 : W.frozen? ⟨w.heap.size + 1 + 1, 1, none⟩ = false := h2.frozen 1
    gi_wp2
    refine wpIn_region_still_tail 25 (by kernel_rfl) (fun ⟨_, _, h⟩ => h) rfl (by kernel_rfl) ?_
    simp only [List.take_succ_cons, List.take_zero, List.drop_succ_cons, List.drop_zero]
    repeat still_step
    try refine wpStill_nil ?_
    go_wp2
    refine ⟨(KeepBk.setCell _ _ _).trans ((KeepBk.setCell _ _ _).trans (KeepBk.drew _)), ?_, ?_, ?_, ?_, ?_⟩
    · exact (hv.setCell (by have := hT.1; omega) 0 _).setCell (by have := hT.1; omega) 1 _
    · exact ((h1.other (by omega) 0 _).other (by omega) 1 _)
    · have := ((h2.set 0 (.int .i64 (mx vl (rd_T74 F.l x).f3.f0))).set 1 (.int .i64 (mn vh (rd_T74 F.l x).f3.f1)))
      rw [heatB_snoc, Hl.out, Hh.out]
      exact this
    · exact ((h4.other (by omega) 0 _).other (by omega) 1 _)
    · exact ((h3.setCell (p := ⟨w.heap.size + 1 + 1, 0, none⟩) (by simp; omega) _).setCell (p := ⟨w.heap.size + 1 + 1, 1, none⟩) (by simp; omega) _).drew
  case done =>
    rintro D W hD ⟨h1, h2, h4, h3⟩ hv hK
    obtain ⟨vl, hvl⟩ : ∃ v, (heatB F.l (bitsOf s)).1 = v := ⟨_, rfl⟩
    obtain ⟨vh, hvh⟩ : ∃ v, (heatB F.l (bitsOf s)).2 = v := ⟨_, rfl⟩
    rw [hvl, hvh] at h2
    have c0 : W.cell? ⟨w.heap.size + 1 + 1, 0, none⟩ = some (.int .i64 vl) := h2.cell 0 rfl
    have c1 : W.cell? ⟨w.heap.size + 1 + 1, 1, none⟩ = some (.int .i64 vh) := h2.cell 1 rfl
    have c2 : W.cell? ⟨w.heap.size + 1, 0, none⟩ = some (.int .i64 0) := h4.cell 0 rfl
    have c3 : W.cell? ⟨w.heap.size + 1, 1, none⟩ = some (.int .i64 0) := h4.cell 1 rfl
    have f0 : W.frozen? ⟨w.heap.size + 1, 0, none⟩ = false := h4.frozen 0
    have f1 : W.frozen? ⟨w.heap.size + 1, 1, none⟩ = false := h4.frozen 1
    have Hl := Lib.hid hvl
    have Hh := Lib.hid hvh
    clear hvl hvh
    gi_wp2
    have hK2 := KeepBk.setCell _ ⟨w.heap.size + 1, 1, none⟩ (.int .i64 vh) _ _ (KeepBk.setCell W ⟨w.heap.size + 1, 0, none⟩ (.int .i64 vl) _ _ hK rfl) rfl
    have hb2 := (((h4.set 0 (.int .i64 vl)).set 1 (.int .i64 vh)).put hK2 (.deferred none))
    refine leaveM (.agg #[.int .i64 vl, .int .i64 vh]) hK2 ?_ ⟨by rw [Hl.out, Hh.out], ?_⟩
    · generalize (((W.setCell { block := w.heap.size + 1, off := 0 } (Value.int IntKind.i64 vl)).setCell { block := w.heap.size + 1, off := 1 } (Value.int IntKind.i64 vh)).putObj D (Obj.deferred none)) = W2 at hb2
      have d0 : W2.cell? ⟨w.heap.size + 1, 0, none⟩ = some (.int .i64 vl) := hb2.cell 0 rfl
      have d1 : W2.cell? ⟨w.heap.size + 1, 1, none⟩ = some (.int .i64 vh) := hb2.cell 1 rfl
      clear hb2 hK2
      simp [results, Tryd.results63, go_sem, d0, d1]
    · exact Below.put ((h3.setCell (p := ⟨w.heap.size + 1, 0, none⟩) (by simp) _).setCell (p := ⟨w.heap.size + 1, 1, none⟩) (by simp) _) (by simp at hD; omega)
  case stop =>
    rintro D c pre W _ _ h _
    exact h.elim
end Go.Proofs.YtbijamlgcebgeaaDoor.Hand

-- part HU
namespace Go.Proofs.YtbijamlgcebgeaaDoor.Hand
open Go.RowKit
section
variable {P : Program} {ops : Array Oper} {md : Region.Mode}
/-- What a quiet operation yields. -/
def yieldUpon (w : World) (K : Value → Prop) : Result Next → Prop
  | .ok (.value v) w' => w' = w ∧ K v
  | .ok .skip w' => w' = w ∧ K undef
  | _ => False
theorem yieldUpon_value (w : World) (K : Value → Prop) (v : Value) : yieldUpon w K (.ok (.value v) w) = K v := by simp [yieldUpon]
theorem yieldUpon_skip (w : World) (K : Value → Prop) : yieldUpon w K (.ok .skip w) = K undef := by simp [yieldUpon]
def yieldK (P : Program) (ops : Array Oper) (w : World) (o : Oper) (a : Act) (K : Value → Prop) : Prop :=
  if Region.wanted o (yielded ops a.tmps) then yieldUpon w K ((execOp a.eval o).run P w) else K undef
theorem yieldsAt_of_yieldK {w : World} {o : Oper} {a : Act} {v : Value} (h : ∀ K : Value → Prop, K v → yieldK P ops w o a K) : YieldsAt P ops w o v a := by
  have h := h (· = v) rfl
  unfold yieldK at h
  by_cases hw : Region.wanted o (yielded ops a.tmps) = true
  · rw [if_pos hw] at h
    generalize hr : (execOp a.eval o).run P w = r at h
    cases r with
    | ok n w' =>
      cases n <;> simp only [yieldUpon] at h
      case value u => obtain ⟨rfl, rfl⟩ := h; exact .inl ⟨hw, .inl hr⟩
      case skip => obtain ⟨rfl, h2⟩ := h; exact .inl ⟨hw, .inr (.inl ⟨hr, h2.symm⟩)⟩
    | halt x w' => simp only [yieldUpon] at h
  · rw [if_neg hw] at h
    exact .inr ⟨by simpa using hw, h.symm⟩
def eventK (P : Program) (ops : Array Oper) (w w1 : World) (o : Oper) (a : Act) : Prop :=
  Region.wanted o (yielded ops a.tmps) = true ∧ (execOp a.eval o).run P w = .ok .skip w1
/-- The quiet ones in the text's order; each as long as it may be late. -/
def ssaL (P : Program) (ops : Array Oper) (W : Nat → World) : List (Oper × Nat) → (Act → Prop) → Act → Prop
  | [], Q, a => Q a
  | (o, t) :: l, Q, a => ∃ v, (∀ s, s ≤ t → ∀ K : Value → Prop, K v → yieldK P ops (W s) o a K) ∧ ssaL P ops W l Q (a.put o.dst v)
/-- The acts. -/
def putStep (ops : Array Oper) (v : Nat → Value) (p : Nat → Bool) (a : Act) (i : Nat) : Act := if p i then a.put ((ops[i]?).bind (·.dst)) (v i) else a
def putAll (ops : Array Oper) (v : Nat → Value) (n : Nat) (a : Act) (p : Nat → Bool) : Act := (List.range n).foldl (putStep ops v p) a
def dstAt (ops : Array Oper) (i : Nat) : Option Tmp := (ops[i]?).bind (·.dst)
theorem foldPut_comm {v : Nat → Value} {p : Nat → Bool} {i : Nat} (hd : ∀ j, j ≠ i → ∀ d, dstAt ops i = some d → dstAt ops j ≠ some d) :
    ∀ (L : List Nat) (a : Act), (∀ j ∈ L, j ≠ i) → L.foldl (putStep ops v p) (a.put (dstAt ops i) (v i)) = (L.foldl (putStep ops v p) a).put (dstAt ops i) (v i) := by
  intro L
  induction L with
  | nil => intro a _; rfl
  | cons j L ih =>
    intro a h
    have hj : j ≠ i := h j (by simp)
    simp only [List.foldl_cons]
    rw [← ih _ (fun k hk => h k (by simp [hk]))]
    congr 1
    unfold putStep
    split
    · exact Act.put_comm a (v i) (v j) (fun d hdi => hd j hj d hdi)
    · rfl
theorem foldPut_congr {v : Nat → Value} {p q : Nat → Bool} : ∀ (L : List Nat) (a : Act), (∀ j ∈ L, p j = q j) → L.foldl (putStep ops v p) a = L.foldl (putStep ops v q) a := by
  intro L
  induction L with
  | nil => intro a _; rfl
  | cons j L ih =>
    intro a h
    simp only [List.foldl_cons]
    have : putStep ops v p a j = putStep ops v q a j := by unfold putStep; rw [h j (by simp)]
    rw [this]
    exact ih _ (fun k hk => h k (by simp [hk]))
theorem foldPut_set {v : Nat → Value} {p q : Nat → Bool} {i : Nat} (hd : ∀ j, j ≠ i → ∀ d, dstAt ops i = some d → dstAt ops j ≠ some d) (hp : p i = false) (hq : q i = true) (hpq : ∀ j, j ≠ i → q j = p j) :
    ∀ (L : List Nat) (a : Act), L.Nodup → i ∈ L → L.foldl (putStep ops v q) a = (L.foldl (putStep ops v p) a).put (dstAt ops i) (v i) := by
  intro L
  induction L with
  | nil => intro a _ h; cases h
  | cons j L ih =>
    intro a hn hi
    simp only [List.foldl_cons]
    have hn' := List.nodup_cons.1 hn
    by_cases hj : j = i
    · subst hj
      have h1 : putStep ops v q a j = a.put (dstAt ops j) (v j) := by unfold putStep; rw [hq]; rfl
      have h2 : putStep ops v p a j = a := by unfold putStep; rw [hp]; rfl
      rw [h1, h2, foldPut_comm hd L a (fun k hk e => hn'.1 (e ▸ hk))]
      congr 1
      exact foldPut_congr L a (fun k hk => hpq k (fun e => hn'.1 (e ▸ hk)))
    · have h1 : putStep ops v q a j = putStep ops v p a j := by unfold putStep; rw [hpq j hj]
      rw [h1]
      exact ih _ hn'.2 (by simpa [Ne.symm hj] using hi)
theorem foldPut_at {v : Nat → Value} {p q : Nat → Bool} {t : Nat} : ∀ (L : List Nat) (a b : Act), (∀ j ∈ L, dstAt ops j = some t → p j = q j) → a.tmps[t]? = b.tmps[t]? →
    (L.foldl (putStep ops v p) a).tmps[t]? = (L.foldl (putStep ops v q) b).tmps[t]? := by
  intro L
  induction L with
  | nil => intro a b _ h; exact h
  | cons j L ih =>
    intro a b h hab
    simp only [List.foldl_cons]
    refine ih _ _ (fun k hk => h k (by simp [hk])) ?_
    have key : ∀ (a : Act) (p : Nat → Bool), dstAt ops j ≠ some t → (putStep ops v p a j).tmps[t]? = a.tmps[t]? := by
      intro a p hne
      unfold putStep
      split
      · show (a.put (dstAt ops j) (v j)).tmps[t]? = _
        cases hd : dstAt ops j with
        | none => rfl
        | some d => 
          have : d ≠ t := fun e => hne (by rw [hd, e])
          simp [Act.put, Array.getElem?_setIfInBounds_ne this]
      · rfl
    by_cases hj : dstAt ops j = some t
    · have hpq := h j (by simp) hj
      unfold putStep
      rw [hpq]
      split
      · show (a.put (dstAt ops j) (v j)).tmps[t]? = (b.put (dstAt ops j) (v j)).tmps[t]?
        rw [hj]
        have hsz : t < a.tmps.size ↔ t < b.tmps.size := by
          constructor
          · intro h
            rw [Array.getElem?_eq_getElem h] at hab
            exact (Array.getElem?_eq_some_iff.1 hab.symm).1
          · intro h
            rw [Array.getElem?_eq_getElem h] at hab
            exact (Array.getElem?_eq_some_iff.1 hab).1
        simp [Act.put, Array.getElem?_setIfInBounds, hsz]
      · exact hab
    · rw [key a p hj, key b q hj]
      exact hab
theorem foldPut_other {v : Nat → Value} {p q : Nat → Bool} {x : Operand} (hx : ∀ t, x ≠ .tmp t) : ∀ (L : List Nat) (a b : Act), a.eval x = b.eval x → (L.foldl (putStep ops v p) a).eval x = (L.foldl (putStep ops v q) b).eval x := by
  intro L a b h
  cases x with
  | tmp t => exact absurd rfl (hx t)
  | _ => rfl
theorem ssa_congr {v : Nat → Value} {p q : Nat → Bool} {n : Nat} {a0 : Act} {o : Oper} (hs : ∀ cs b, o.op ≠ .select cs b) (h : ∀ t ∈ o.looksAt ops, ∀ j, j < n → dstAt ops j = some t → p j = q j) :
    execOp (putAll ops v n a0 p).eval o = execOp (putAll ops v n a0 q).eval o ∧ Region.wanted o (yielded ops (putAll ops v n a0 p).tmps) = Region.wanted o (yielded ops (putAll ops v n a0 q).tmps) := by
  have ht : ∀ t ∈ o.looksAt ops, (putAll ops v n a0 p).tmps[t]? = (putAll ops v n a0 q).tmps[t]? := fun t ht =>
    foldPut_at _ _ _ (fun j hj hd => h t ht j (List.mem_range.1 hj) hd) rfl
  constructor
  · refine execOp_congr o hs fun x hx => ?_
    by_cases hxt : ∃ t, x = .tmp t
    · obtain ⟨t, rfl⟩ := hxt
      have := ht t (List.mem_append_left _ (List.mem_filterMap.2 ⟨.tmp t, by simpa using hx, rfl⟩))
      simp only [Act.eval, Array.getD_eq_getD_getElem?, this]
    · exact foldPut_other (fun t e => hxt ⟨t, e⟩) _ _ _ rfl
  · unfold Region.wanted
    cases hg : o.guard with
    | none => rfl
    | some gw =>
      obtain ⟨g, want⟩ := gw
      have hy : yielded ops (putAll ops v n a0 p).tmps g = yielded ops (putAll ops v n a0 q).tmps g := by
        unfold yielded
        cases hgd : (ops[g]?).bind (·.dst) with
        | none => rfl
        | some t =>
          have := ht t (by simp [Oper.looksAt, hg, hgd])
          simp only [Option.bind_some, this]
      simp only [hy]
/-- The check. -/
def ssaB (md : Region.Mode) (ops : Array Oper) (n : Nat) (lims : List Nat) : Bool :=
  Region.noSelect ops && decide (n ≤ ops.size) && (lims.length == n) &&
  ((List.range ops.size).all fun i => (List.range ops.size).all fun j => decide (i = j) || (dstAt ops i == none) || (dstAt ops i != dstAt ops j)) &&
  ((List.range ops.size).all fun i => decide (i < n) || dstAt ops i == none) &&
  ((List.range ops.size).all fun i => (List.range n).all fun j => match dstAt ops j, ops[i]? with
    | some d, some o => !(o.looksAt ops).contains d || Region.waitsFor md ops i j
    | _, _ => true) &&
  ((List.range ops.size).all fun i => match ops[i]? with
    | some o => o.after.toList.all fun e => !Region.binds md e || decide (e.on < i)
    | none => true) &&
  ((List.range ops.size).all fun i => decide (i < n) || decide (ops.size ≤ i + 1) || Region.waitsFor md ops (i + 1) i) &&
  ((List.range n).all fun i => decide (ops.size ≤ n + lims.getD i 0) || Region.waitsFor md ops (n + lims.getD i 0) i)
theorem ssaL_vals (W : Nat → World) {Q : Act → Prop} (a0 : Act) (n : Nat) (lims : List Nat) (hn : n ≤ ops.size) (hl : lims.length = n) : ∀ (m k : Nat) (v : Nat → Value), k + m = n →
    (∀ i, i < k → ∀ o, ops[i]? = some o → ∀ s, s ≤ lims.getD i 0 → YieldsAt P ops (W s) o (v i) (putAll ops v n a0 (fun j => decide (j < i)))) →
    (∀ i j, i ≠ j → ∀ d, dstAt ops i = some d → dstAt ops j ≠ some d) →
    ssaL P ops W (((ops.toList.take n).zip lims).drop k) Q (putAll ops v n a0 (fun j => decide (j < k))) →
    ∃ v : Nat → Value, (∀ i, i < n → ∀ o, ops[i]? = some o → ∀ s, s ≤ lims.getD i 0 → YieldsAt P ops (W s) o (v i) (putAll ops v n a0 (fun j => decide (j < i)))) ∧ Q (putAll ops v n a0 (fun j => decide (j < n))) := by
  intro m
  induction m with
  | zero =>
    intro k v hk h1 hd h2
    obtain rfl : k = n := by omega
    have : ((ops.toList.take k).zip lims).drop k = [] := by
      apply List.drop_eq_nil_of_le
      simp [hl]
      omega
    rw [this] at h2
    exact ⟨v, h1, h2⟩
  | succ m ih =>
    intro k v hk h1 hd h2
    have hkn : k < n := by omega
    have hks : k < ops.size := by omega
    have hz : ((ops.toList.take n).zip lims).drop k = (ops[k], lims.getD k 0) :: ((ops.toList.take n).zip lims).drop (k + 1) := by
      have hlen : k < ((ops.toList.take n).zip lims).length := by simp [hl]; omega
      rw [List.drop_eq_getElem_cons hlen]
      congr 1
      simp [List.getD_eq_getElem?_getD, List.getElem?_eq_getElem (show k < lims.length by omega)]
    rw [hz] at h2
    obtain ⟨x, hx, h2⟩ := h2
    have hd0 : dstAt ops k = (ops[k]).dst := by simp [dstAt, Array.getElem?_eq_getElem hks]
    let v' : Nat → Value := fun j => if j = k then x else v j
    have hv' : ∀ i, i ≤ k → putAll ops v' n a0 (fun j => decide (j < i)) = putAll ops v n a0 (fun j => decide (j < i)) := by
      intro i hi
      unfold putAll
      have : ∀ (L : List Nat) (a : Act), L.foldl (putStep ops v' (fun j => decide (j < i))) a = L.foldl (putStep ops v (fun j => decide (j < i))) a := by
        intro L
        induction L with
        | nil => intro a; rfl
        | cons j L ihL =>
          intro a
          simp only [List.foldl_cons]
          have : putStep ops v' (fun j => decide (j < i)) a j = putStep ops v (fun j => decide (j < i)) a j := by
            unfold putStep
            by_cases hj : j < i
            · have hjk : j ≠ k := by omega
              simp only [hj, decide_true, if_true, v', if_neg hjk]
            · simp [hj]
          rw [this]
          exact ihL _
      exact this _ _
    refine ih (k + 1) v' (by omega) ?_ hd ?_
    · intro i hi o ho s hs
      rw [hv' i (by omega)]
      by_cases hik : i = k
      · subst hik
        have ho' : ops[i] = o := by rw [Array.getElem?_eq_getElem hks] at ho; exact Option.some.inj ho
        have : v' i = x := by simp [v']
        rw [this, ← ho']
        exact yieldsAt_of_yieldK (hx s hs)
      · have : v' i = v i := by simp [v', hik]
        rw [this]
        exact h1 i (by omega) o ho s hs
    · have hset := foldPut_set (ops := ops) (v := v') (p := fun j => decide (j < k)) (q := fun j => decide (j < k + 1)) (i := k) (fun j hj d hdk => hd k j (Ne.symm hj) d hdk) (by simp) (by simp) (fun j hj => by
        by_cases h : j < k
        · simp [h]; omega
        · have : ¬ j < k + 1 := by omega
          simp [h, this]) (List.range n) a0 List.nodup_range (List.mem_range.2 hkn)
      have hvk : v' k = x := by simp [v']
      rw [hvk] at hset
      show ssaL P ops W _ Q (putAll ops v' n a0 (fun j => decide (j < k + 1)))
      have e : putAll ops v' n a0 (fun j => decide (j < k + 1)) = (putAll ops v n a0 (fun j => decide (j < k))).put (ops[k]).dst x := by
        rw [← hv' k (Nat.le_refl _), ← hd0]
        exact hset
      rw [e]
      exact h2
theorem putAll_set {v : Nat → Value} {n : Nat} {a0 : Act} {p q : Nat → Bool} {i : Nat} (hin : i < n) (hd : ∀ j, j ≠ i → ∀ d, dstAt ops i = some d → dstAt ops j ≠ some d) (hp : p i = false) (hq : q i = true) (hpq : ∀ j, j ≠ i → q j = p j) :
    putAll ops v n a0 q = (putAll ops v n a0 p).put (dstAt ops i) (v i) := foldPut_set hd hp hq hpq _ _ List.nodup_range (List.mem_range.2 hin)
theorem countP_lt {p q : Nat → Bool} {i : Nat} (hp : p i = true) (hq : q i = false) (hpq : ∀ j, q j = true → p j = true) : ∀ L : List Nat, L.countP q ≤ L.countP p ∧ (i ∈ L → L.countP q < L.countP p) := by
  intro L
  induction L with
  | nil => exact ⟨Nat.le_refl _, fun h => by cases h⟩
  | cons j L ih =>
    have hle := ih.1
    refine ⟨?_, fun h => ?_⟩
    · simp only [List.countP_cons]
      have : (if q j = true then 1 else 0) ≤ (if p j = true then 1 else 0) := by
        by_cases hj : q j = true
        · simp [hj, hpq j hj]
        · simp [hj]
      omega
    · simp only [List.countP_cons]
      by_cases hj : j = i
      · subst hj
        simp only [hp, hq, if_true]
        simp
        omega
      · have h1 := ih.2 (by simpa [Ne.symm hj] using h)
        have : (if q j = true then 1 else 0) ≤ (if p j = true then 1 else 0) := by
          by_cases hj : q j = true
          · simp [hj, hpq j hj]
          · simp [hj]
        omega
theorem wpAny_ssa {Q : Exit → Act → World → Prop} {a0 : Act} {W : Nat → World} (n : Nat) (lims : List Nat) (hB : ssaB md ops n lims = true)
    (h : ssaL P ops W ((ops.toList.take n).zip lims) (fun aF => (∀ k, n + k < ops.size → ∀ o, ops[n + k]? = some o → eventK P ops (W k) (W (k + 1)) o aF) ∧ Q .normal aF (W (ops.size - n))) a0) :
    wpAny P md ops Q ops.size (Array.replicate ops.size false) a0 (W 0) := by
  simp only [ssaB, Bool.and_eq_true, beq_iff_eq, decide_eq_true_eq] at hB
  obtain ⟨⟨⟨⟨⟨⟨⟨⟨hsel, hn⟩, hl⟩, hdd⟩, hdn⟩, hlook⟩, hback⟩, hchain⟩, hlim⟩ := hB
  have hdd' : ∀ i j, i ≠ j → ∀ d, dstAt ops i = some d → dstAt ops j ≠ some d := by
    intro i j hij d hi hj
    have hi' : i < ops.size := by
      rcases Nat.lt_or_ge i ops.size with h | h
      · exact h
      · simp [dstAt, Array.getElem?_eq_none h] at hi
    have hj' : j < ops.size := by
      rcases Nat.lt_or_ge j ops.size with h | h
      · exact h
      · simp [dstAt, Array.getElem?_eq_none h] at hj
    have := List.all_eq_true.1 (List.all_eq_true.1 hdd i (List.mem_range.2 hi')) j (List.mem_range.2 hj')
    simp [hij, hi, hj] at this
  have a00 : a0 = putAll ops (fun _ => undef) n a0 (fun j => decide (j < 0)) := by
    have : ∀ (L : List Nat) (a : Act), L.foldl (putStep ops (fun _ => undef) (fun j => decide (j < 0))) a = a := by
      intro L
      induction L with
      | nil => intro a; rfl
      | cons j L ih => intro a; exact ih a
    exact (this _ _).symm
  obtain ⟨v, hy, hev, hQ⟩ := ssaL_vals W a0 n lims hn hl n 0 (fun _ => undef) (by omega) (fun i hi => by omega) hdd' (by rw [List.drop_zero]; exact a00 ▸ h)
  have waits : ∀ (i : Nat) (o : Oper), ops[i]? = some o → ∀ t ∈ o.looksAt ops, ∀ j, j < n → dstAt ops j = some t → ∃ e ∈ o.after, Region.binds md e = true ∧ e.on = j := by
    intro i o ho t ht j hj hd
    have hi' : i < ops.size := (Array.getElem?_eq_some_iff.1 ho).1
    have := List.all_eq_true.1 (List.all_eq_true.1 hlook i (List.mem_range.2 hi')) j (List.mem_range.2 hj)
    rw [hd, ho] at this
    have hc : (o.looksAt ops).contains t = true := by simpa using ht
    simp only [hc, Bool.not_true, Bool.false_or] at this
    obtain ⟨o', ho', e, he, hb, hon⟩ := Region.waitsFor_spec this
    have : o' = o := Option.some.inj (ho'.symm.trans ho)
    subst this
    exact ⟨e, he, hb, hon⟩
  have back : ∀ (i : Nat) (o : Oper), ops[i]? = some o → ∀ e ∈ o.after, Region.binds md e = true → e.on < i := by
    intro i o ho e he hb
    have hi' : i < ops.size := (Array.getElem?_eq_some_iff.1 ho).1
    have := List.all_eq_true.1 hback i (List.mem_range.2 hi')
    rw [ho] at this
    have := List.all_eq_true.1 this e (by simpa using he)
    simpa [hb] using this
  -- one step
  have main : ∀ (f : Nat) (listed : Array Bool) (k : Nat), listed.size = ops.size → k ≤ ops.size - n → (∀ t, n + t < ops.size → listed.getD (n + t) true = decide (t < k)) →
      (∀ i, i < n → listed.getD i true = false → k ≤ lims.getD i 0 ∨ ops.size ≤ n + lims.getD i 0) → (List.range ops.size).countP (fun i => !listed.getD i true) ≤ f →
      wpAny P md ops Q f listed (putAll ops v n a0 (fun i => listed.getD i true)) (W k) := by
    have fin : ∀ (listed : Array Bool) (k : Nat), listed.size = ops.size → k ≤ ops.size - n → (∀ t, n + t < ops.size → listed.getD (n + t) true = decide (t < k)) → (∀ i, i < ops.size → listed.getD i true = true) →
        Q .normal (putAll ops v n a0 (fun i => listed.getD i true)) (W k) := by
      intro listed k hs hk hev hall
      have hk' : k = ops.size - n := by
        rcases Nat.lt_or_ge k (ops.size - n) with h | h
        · have h1 := hev k (by omega)
          rw [hall (n + k) (by omega)] at h1
          simp at h1
        · omega
      have : putAll ops v n a0 (fun i => listed.getD i true) = putAll ops v n a0 (fun j => decide (j < n)) := 
        foldPut_congr _ _ (fun j hj => by have := List.mem_range.1 hj; rw [hall j (by omega)]; simp [this])
      rw [this, hk']
      exact hQ
    have allOf : ∀ (listed : Array Bool), listed.size = ops.size → Region.ready md ops listed = [] → ∀ i, i < ops.size → listed.getD i true = true := by
      intro listed hs hr i
      induction i using Nat.strongRecOn with
      | _ i ih =>
        intro hi
        cases hb : listed.getD i true with
        | true => rfl
        | false =>
          have : i ∈ Region.ready md ops listed := mem_ready.2 ⟨hb, ops[i], Array.getElem?_eq_getElem hi, fun e he hbd => by
            have hlt := back i _ (Array.getElem?_eq_getElem hi) e he hbd
            have := ih e.on hlt (by omega)
            have hsz : e.on < listed.size := by omega
            simp only [Array.getD_eq_getD_getElem?, Array.getElem?_eq_getElem hsz, Option.getD_some] at this ⊢
            exact this⟩
          rw [hr] at this
          cases this
    intro f
    induction f with
    | zero =>
      intro listed k hs hk hevl hun hc
      have hall : ∀ i, i < ops.size → listed.getD i true = true := by
        intro i hi
        have h0 : (List.range ops.size).countP (fun i => !listed.getD i true) = 0 := by omega
        have := List.countP_eq_zero.1 h0 i (List.mem_range.2 hi)
        simpa using this
      refine ⟨?_, fin listed k hs hk hevl hall⟩
      cases hr : Region.ready md ops listed with
      | nil => rfl
      | cons i is =>
        have hi : i ∈ Region.ready md ops listed := by rw [hr]; simp
        obtain ⟨h1, o, ho, _⟩ := mem_ready.1 hi
        rw [hall i (Array.getElem?_eq_some_iff.1 ho).1] at h1
        cases h1
    | succ f ih =>
      intro listed k hs hk hevl hun hc
      refine ⟨fun hr => fin listed k hs hk hevl (allOf listed hs hr), fun i hi => ?_⟩
      obtain ⟨hil, o, ho, hafter⟩ := mem_ready.1 hi
      have hio : i < ops.size := (Array.getElem?_eq_some_iff.1 ho).1
      have hc' : (List.range ops.size).countP (fun j => !(listed.setIfInBounds i true).getD j true) ≤ f := by
        have hset : (listed.setIfInBounds i true).getD i true = true := by simp [Array.getD_eq_getD_getElem?, Array.getElem?_setIfInBounds, hs, hio]
        have := (countP_lt (p := fun j => !listed.getD j true) (q := fun j => !(listed.setIfInBounds i true).getD j true) (i := i) (by simp [hil]) (by simp [hset]) (fun j hj => by
          by_cases hji : i = j
          · subst hji; simp [hset] at hj
          · rw [getD_set_ne true hji] at hj; exact hj) (List.range ops.size)).2 (List.mem_range.2 hio)
        omega
      have hset : (listed.setIfInBounds i true).getD i true = true := by simp [Array.getD_eq_getD_getElem?, Array.getElem?_setIfInBounds, hs, hio]
      -- the values are the final ones
      have hsame : ∀ q : Nat → Bool, (∀ j, j < n → listed.getD j true = true → (∃ e ∈ o.after, Region.binds md e = true ∧ e.on = j) → q j = true) → 
          execOp (putAll ops v n a0 (fun i => listed.getD i true)).eval o = execOp (putAll ops v n a0 q).eval o ∧ Region.wanted o (yielded ops (putAll ops v n a0 (fun i => listed.getD i true)).tmps) = Region.wanted o (yielded ops (putAll ops v n a0 q).tmps) := by
        intro q hq
        refine ssa_congr (fun cs b => Region.noSelect_spec hsel i o cs b ho) (fun t ht j hj hd => ?_)
        obtain ⟨e, he, hb, hon⟩ := waits i o ho t ht j hj hd
        have h1 := hafter e he hb
        rw [hon] at h1
        have h2 : listed.getD j true = true := by
          cases hx : listed.getD j true with
          | true => rfl
          | false => rw [getD_both hx] at h1; cases h1
        rw [h2, hq j hj h2 ⟨e, he, hb, hon⟩]
      by_cases hin : i < n
      · have hkl : k ≤ lims.getD i 0 ∨ ops.size ≤ n + lims.getD i 0 := hun i hin hil
        have hkl' : k ≤ lims.getD i 0 := by omega
        have hyi := hy i hin o ho k hkl'
        obtain ⟨e1, e2⟩ := hsame (fun j => decide (j < i)) (fun j hj _ ⟨e, he, hb, hon⟩ => by have := back i o ho e he hb; simp; omega)
        have hyi' := hyi.of_same e1 e2
        refine wpOp_of_stOp (K := fun a' => a' = (putAll ops v n a0 (fun i => listed.getD i true)).put o.dst (v i)) (fun a' ha' => ?_) (hyi'.stOp ho rfl)
        subst ha'
        have hdo : o.dst = dstAt ops i := by simp [dstAt, ho]
        rw [hdo, ← putAll_set (q := fun j => (listed.setIfInBounds i true).getD j true) hin (fun j hj d hdi => hdd' i j (Ne.symm hj) d hdi) hil hset (fun j hj => getD_set_ne true (Ne.symm hj))]
        refine ih _ k (by simpa using hs) hk (fun t ht => ?_) (fun j hj hjl => ?_) hc'
        · rw [getD_set_ne true (by omega)]; exact hevl t ht
        · by_cases hij : i = j
          · subst hij; rw [hset] at hjl; cases hjl
          · rw [getD_set_ne true hij] at hjl; exact hun j hj hjl
      · obtain ⟨t, rfl⟩ : ∃ t, i = n + t := ⟨i - n, by omega⟩
        have h1 := hevl t hio
        rw [hil] at h1
        have htk : k ≤ t := by simpa using h1.symm
        have htk' : t = k := by
          rcases Nat.lt_or_ge k t with h | h
          · have hcn := List.all_eq_true.1 hchain (n + (t - 1)) (List.mem_range.2 (by omega))
            have h3 : n + (t - 1) + 1 = n + t := by omega
            rw [h3] at hcn
            have hz : Region.waitsFor md ops (n + t) (n + (t - 1)) = true := by
              simp only [Bool.or_eq_true, decide_eq_true_eq] at hcn
              rcases hcn with (h' | h') | h'
              · omega
              · omega
              · exact h'
            obtain ⟨o', ho', e, he, hb, hon⟩ := Region.waitsFor_spec hz
            have : o' = o := Option.some.inj (ho'.symm.trans ho)
            subst this
            have h4 := hafter e he hb
            have h5 := hevl (t - 1) (by omega)
            rw [hon] at h4
            have h6 : listed.getD (n + (t - 1)) true = true := by
              cases hx : listed.getD (n + (t - 1)) true with
              | true => rfl
              | false => rw [getD_both hx] at h4; cases h4
            rw [h6] at h5
            have : t - 1 < k := by simpa using h5.symm
            omega
          · omega
        subst htk'
        have hE := hev t hio o ho
        obtain ⟨e1, e2⟩ := hsame (fun j => decide (j < n)) (fun j hj _ _ => by simp [hj])
        obtain ⟨hw, hr⟩ := hE
        have hdn' : o.dst = none := by
          have := List.all_eq_true.1 hdn (n + t) (List.mem_range.2 hio)
          simp only [Bool.or_eq_true, decide_eq_true_eq, beq_iff_eq] at this
          rcases this with h | h
          · omega
          · simpa [dstAt, ho] using h
        unfold wpOp
        simp only [ho]
        rw [if_pos (by rw [e2]; exact hw)]
        refine .inl ?_
        unfold Oper.wp
        rw [e1, hr]
        simp only [Oper.upon, hdn']
        show wpAny P md ops Q f _ (putAll ops v n a0 (fun i => listed.getD i true)) (W (t + 1))
        have hp : putAll ops v n a0 (fun i => listed.getD i true) = putAll ops v n a0 (fun i => (listed.setIfInBounds (n + t) true).getD i true) :=
          foldPut_congr _ _ (fun j hj => by have := List.mem_range.1 hj; rw [getD_set_ne true (by omega)])
        rw [hp]
        refine ih _ (t + 1) (by simpa using hs) (by omega) (fun s hs' => ?_) (fun j hj hjl => ?_) hc'
        · by_cases hst : s = t
          · subst hst; rw [hset]; simp
          · rw [getD_set_ne true (by omega), hevl s hs']
            simp only [decide_eq_decide]
            omega
        · rw [getD_set_ne true (by omega)] at hjl
          have h7 := hun j hj hjl
          have h8 := List.all_eq_true.1 hlim j (List.mem_range.2 hj)
          simp only [Bool.or_eq_true, decide_eq_true_eq] at h8
          rcases h8 with h8 | h8
          · right; exact h8
          · left
            have hne : lims.getD j 0 ≠ t := by
              intro e
              rw [e] at h8
              obtain ⟨o', ho', e', he, hb, hon⟩ := Region.waitsFor_spec h8
              have : o' = o := Option.some.inj (ho'.symm.trans ho)
              subst this
              have h4 := hafter e' he hb
              rw [hon, getD_both hjl] at h4
              cases h4
            rcases h7 with h7 | h7
            · omega
            · obtain ⟨o', ho', _⟩ := Region.waitsFor_spec h8
              have := (Array.getElem?_eq_some_iff.1 ho').1
              omega
  have hmain := main ops.size (Array.replicate ops.size false) 0 (by simp) (Nat.zero_le _) (fun t ht => by simp [Array.getD_eq_getD_getElem?, Array.getElem?_replicate, ht]) (fun i _ _ => .inl (Nat.zero_le _)) (by
    have := List.countP_le_length (p := fun i => !(Array.replicate ops.size false).getD i true) (l := List.range ops.size)
    simpa using this)
  have hstart : putAll ops v n a0 (fun i => (Array.replicate ops.size false).getD i true) = a0 := by
    have : ∀ (L : List Nat) (a : Act), (∀ j ∈ L, j < ops.size) → L.foldl (putStep ops v (fun i => (Array.replicate ops.size false).getD i true)) a = a := by
      intro L
      induction L with
      | nil => intro a _; rfl
      | cons j L ih =>
        intro a h
        simp only [List.foldl_cons]
        have hj := h j (by simp)
        have : putStep ops v (fun i => (Array.replicate ops.size false).getD i true) a j = a := by
          unfold putStep
          simp [Array.getD_eq_getD_getElem?, Array.getElem?_replicate, hj]
        rw [this]
        exact ih _ (fun k hk => h k (by simp [hk]))
    exact this _ _ (fun j hj => by have := List.mem_range.1 hj; omega)
  rw [hstart] at hmain
  exact hmain
end
end Go.Proofs.YtbijamlgcebgeaaDoor.Hand

-- part HV
namespace Go.Proofs.YtbijamlgcebgeaaDoor.Hand
open Go.RowKit
section
variable {P : Program} {ops : Array Oper} {md : Region.Mode}
def ssaUpon (o : Oper) (a : Act) (w : World) (K : Value → Act → Prop) : Result Next → Prop
  | .ok (.value v) w' => w' = w ∧ K v (a.put o.dst v)
  | .ok .skip w' => w' = w ∧ K undef (a.put o.dst undef)
  | _ => False
theorem ssaUpon_value (o : Oper) (a : Act) (w : World) (K : Value → Act → Prop) (v : Value) : ssaUpon o a w K (.ok (.value v) w) = K v (a.put o.dst v) := by simp [ssaUpon]
theorem ssaUpon_skip (o : Oper) (a : Act) (w : World) (K : Value → Act → Prop) : ssaUpon o a w K (.ok .skip w) = K undef (a.put o.dst undef) := by simp [ssaUpon]
theorem ssa_step {W : Nat → World} {o : Oper} {t : Nat} {l : List (Oper × Nat)} {Q : Act → Prop} {a : Act}
    (h : ∀ K : Value → Act → Prop, (∀ v a', (∀ s, 1 ≤ s → s ≤ t → ∀ K2 : Value → Prop, K2 v → yieldK P ops (W s) o a K2) → ssaL P ops W l Q a' → K v a') →
      if Region.wanted o (yielded ops a.tmps) then ssaUpon o a (W 0) K ((execOp a.eval o).run P (W 0)) else K undef (a.put o.dst undef)) : ssaL P ops W ((o, t) :: l) Q a := by
  have key := h (fun v a' => a' = a.put o.dst v → ssaL P ops W ((o, t) :: l) Q a)
  by_cases hw : Region.wanted o (yielded ops a.tmps) = true
  · simp only [hw, if_true] at h
    generalize hr : (execOp a.eval o).run P (W 0) = r at h
    have h' := h (fun v a' => a' = a.put o.dst v → ((r = .ok (.value v) (W 0)) ∨ (r = .ok .skip (W 0) ∧ v = undef)) → ssaL P ops W ((o, t) :: l) Q a) (fun v a' h1 h2 e hv => by
      subst e
      refine ⟨v, fun s hs K hK => ?_, h2⟩
      rcases Nat.eq_zero_or_pos s with rfl | hp
      · unfold yieldK
        rw [if_pos hw, hr]
        rcases hv with hv | ⟨hv, rfl⟩
        · rw [hv]; exact ⟨rfl, hK⟩
        · rw [hv]; exact ⟨rfl, hK⟩
      · exact h1 s hp hs K hK)
    cases r with
    | ok n w' =>
      cases n <;> simp only [ssaUpon] at h'
      case value u => obtain ⟨rfl, h2⟩ := h'; exact h2 trivial (.inl rfl)
      case skip => obtain ⟨rfl, h2⟩ := h'; exact h2 trivial (.inr (by simp))
    | halt x w' => simp only [ssaUpon] at h'
  · have h' := h (fun v a' => a' = a.put o.dst v → v = undef → ssaL P ops W ((o, t) :: l) Q a) (fun v a' h1 h2 e hv => by
      subst e
      refine ⟨v, fun s hs K hK => ?_, h2⟩
      rcases Nat.eq_zero_or_pos s with rfl | hp
      · unfold yieldK
        rw [if_neg hw]
        exact hv ▸ hK
      · exact h1 s hp hs K hK)
    rw [if_neg hw] at h'
    exact h' rfl rfl
/-- Worlds one after the other. -/
def wsF (w0 : World) : List World → Nat → World
  | [], _ => w0
  | _ :: _, 0 => w0
  | w1 :: ws, n + 1 => wsF w1 ws n
theorem wsF_zero (w0 : World) (ws : List World) : wsF w0 ws 0 = w0 := by cases ws <;> rfl
theorem wsF_succ (w0 w1 : World) (ws : List World) (n : Nat) : wsF w0 (w1 :: ws) (n + 1) = wsF w1 ws n := rfl
theorem wsF_one (w0 w1 : World) (ws : List World) : wsF w0 (w1 :: ws) 1 = w1 := by cases ws <;> rfl
def ssaEv (P : Program) (ops : Array Oper) (aF : Act) : List Oper → World → List World → Prop
  | [], _, [] => True
  | o :: es, w, w1 :: ws => eventK P ops w w1 o aF ∧ ssaEv P ops aF es w1 ws
  | _, _, _ => False
theorem ssaEv_at {aF : Act} : ∀ (es : List Oper) (w : World) (ws : List World), ssaEv P ops aF es w ws → es.length = ws.length ∧ ∀ k o, es[k]? = some o → eventK P ops (wsF w ws k) (wsF w ws (k + 1)) o aF
  | [], _, [], _ => ⟨rfl, fun k o h => by simp at h⟩
  | o :: es, w, w1 :: ws, h => by
    obtain ⟨h1, h2⟩ := h
    obtain ⟨h3, h4⟩ := ssaEv_at es w1 ws h2
    refine ⟨by simp [h3], fun k o' hk => ?_⟩
    cases k with
    | zero =>
      obtain rfl : o = o' := by simpa using hk
      rw [wsF_zero, wsF_succ, wsF_zero]
      exact h1
    | succ k => exact h4 k o' (by simpa using hk)
  | [], _, _ :: _, h => h.elim
  | _ :: _, _, [], h => h.elim
theorem wpAny_ssaL {l : List Oper} {Q : Exit → Act → World → Prop} {a0 : Act} {w : World} (n : Nat) (lims : List Nat) (ws : List World) (hB : ssaB md l.toArray n lims = true)
    (h : ssaL P l.toArray (wsF w ws) ((l.take n).zip lims) (fun aF => ssaEv P l.toArray aF (l.drop n) w ws ∧ Q .normal aF (wsF w ws ws.length)) a0) :
    wpAny P md l.toArray Q l.length (Array.replicate l.length false) a0 w := by
  have hn : n ≤ l.length := by
    simp only [ssaB, Bool.and_eq_true, decide_eq_true_eq] at hB
    simpa using hB.1.1.1.1.1.1.1.2
  have key : ∀ (L : List (Oper × Nat)) (Q1 Q2 : Act → Prop) (a : Act), (∀ a, Q1 a → Q2 a) → ssaL P l.toArray (wsF w ws) L Q1 a → ssaL P l.toArray (wsF w ws) L Q2 a := by
    intro L Q1 Q2
    induction L with
    | nil => intro a hq h; exact hq a h
    | cons x L ih =>
      obtain ⟨o, t⟩ := x
      intro a hq ⟨v, h1, h2⟩
      exact ⟨v, h1, ih _ hq h2⟩
  have := wpAny_ssa (md := md) (ops := l.toArray) (W := wsF w ws) (Q := Q) (a0 := a0) n lims hB (key _ (fun aF => ssaEv P l.toArray aF (l.drop n) w ws ∧ Q .normal aF (wsF w ws ws.length)) _ _ (fun aF ⟨h1, h2⟩ => by
    obtain ⟨h3, h4⟩ := ssaEv_at _ _ _ h1
    refine ⟨fun k hk o ho => h4 k o (by simpa [List.getElem?_drop] using ho), ?_⟩
    have e : l.toArray.size - n = ws.length := by simp at h3 ⊢; omega
    rw [e]
    exact h2) (by simpa using h))
  rw [wsF_zero] at this
  simpa using this
theorem wpIn_region_ssa {id lo : Nat} {Q : Exit → Act → World → Prop} {a : Act} {w : World} {l : List Oper} (n : Nat) (lims : List Nat) (ws : List World) (hm : P.follows .mixedOrders = true) (hQ : ¬ LetsOut Q) (hd : noDefer l = true) (hB : ssaB .any l.toArray n lims = true)
    (h : ssaL P l.toArray (wsF w.drew ws) ((l.take n).zip lims) (fun aF => ssaEv P l.toArray aF (l.drop n) w.drew ws ∧ Q .normal aF (wsF w.drew ws ws.length)) a) : (Code.region id l.toArray true).wpIn (FW.inRound lo) 0 P Q a w :=
  wpIn_region_round hm hQ (by simpa using hd) (by simpa using wpAny_ssaL n lims ws hB h)
end
attribute [go_sem] ssaUpon yieldUpon yieldK eventK ssaUpon_value ssaUpon_skip yieldUpon_value yieldUpon_skip
end Go.Proofs.YtbijamlgcebgeaaDoor.Hand

-- part HI
namespace Go.Proofs.YtbijamlgcebgeaaDoor.Hand
open Go.RowKit Go.Shelf Go.Proofs.YtbijamlgcebgeaaDoorW.PrintWords Go.Proofs.YtbijamlgcebgeaaDoorW.PrintMore Go.Proofs.YtbijamlgcebgeaaDoor.Q
attribute [local go_sem] Oper.semAt_some max2_mx min2_mn max_two min_two
/-- The least and the greatest height. -/
def highB (l : List S74) (is : List Nat) : Int × Int := is.foldl (fun h i => (mn h.1 (l.getD i z74).f1, mx h.2 (l.getD i z74).f1)) (100, 0)
theorem highB_snoc (l : List S74) (is : List Nat) (i : Nat) : highB l (is ++ [i]) = (mn (highB l is).1 (l.getD i z74).f1, mx (highB l is).2 (l.getD i z74).f1) := by simp [highB]
theorem highB_bd (l : List S74) (hb : ∀ x ∈ l, 1 ≤ x.f1 ∧ x.f1 ≤ 100) (is : List Nat) (h : ∀ i ∈ is, i < l.length) : 0 ≤ (highB l is).1 ∧ (highB l is).1 ≤ 100 ∧ 0 ≤ (highB l is).2 ∧ (highB l is).2 ≤ 100 := by
  have key : ∀ (is : List Nat) (a : Int × Int), (∀ i ∈ is, i < l.length) → (0 ≤ a.1 ∧ a.1 ≤ 100 ∧ 0 ≤ a.2 ∧ a.2 ≤ 100) → 
      let r := is.foldl (fun h i => (mn h.1 (l.getD i z74).f1, mx h.2 (l.getD i z74).f1)) a
      0 ≤ r.1 ∧ r.1 ≤ 100 ∧ 0 ≤ r.2 ∧ r.2 ≤ 100 := by
    intro is
    induction is with
    | nil => intro a _ h; exact h
    | cons i is ih =>
      intro a h ha
      have hi : i < l.length := h i (by simp)
      have h2 := hb (l.getD i z74) (by rw [List.getD_eq_getElem?_getD, List.getElem?_eq_getElem hi]; exact List.getElem_mem hi)
      refine ih _ (fun j hj => h j (by simp [hj])) ?_
      simp only [mn, mx]
      split <;> split <;> omega
  exact key is (100, 0) h (by simp)
def alikeB (l : List S74) (near : Int) (s : Nat) : Bool := decide ((highB l (bitsOf s)).2 - (highB l (bitsOf s)).1 ≤ near)
set_option maxRecDepth 100000 in
set_option maxHeartbeats 2000000 in
theorem alike_calls (F : Furn) (hF : F.Ok) (s : Nat) (hs : s < 64) (hl' : ∀ i ∈ bitsOf s, i < F.l.length) (B M : Nat) (w : World) (hT : TabW w) (hf : Fu w B M F) :
    Calls Tryd.prog 91 #[.pointer (some ⟨B, 0, none⟩), .int .u64 s] w fun e w' => e = .returned (.bool (alikeB F.l F.near s)) ∧ Below w.heap.size w w' := by
  refine (callsIn_wide (n := 0)).1 ?_
  refine callsIn_of_wp_marks Tryd.func91 rfl trivial ?_
  simp only [Tryd.ntmps91, List.size_toArray, List.length_cons, List.length_nil, Nat.reduceAdd, Nat.reduceSub, Array.replicate_succ, Array.replicate_zero, List.push_toArray, List.append_toArray, List.nil_append, List.cons_append]
  gi_wp2
  obtain ⟨A, c, hB, hC⟩ := hf
  refine wpIn_range (gf := 90) (first := #[.int .u64 s]) (lb := #[]) rfl (enters_of Tryd.func90 (by kernel_rfl) rfl) (all_iter s hs) (by rintro x args W rfl; rfl) (fun A B h hi => hi.tab h) (fun A B e => by rw [e]; exact KeepBk.refl _)
    (fun pre W => Box W w.heap.size #[.pointer (some ⟨B, 0, none⟩)] 91 ∧ Box W (w.heap.size + 1) #[.int .i64 (highB F.l pre).1] 3 ∧ Box W (w.heap.size + 2) #[.int .i64 (highB F.l pre).2] 3 ∧ Below w.heap.size w W)
    (fun _ _ _ => False)
    (fun pre X Y h hi => ⟨hi.box h.1, hi.box h.2.1, hi.box h.2.2.1, Inert.below h.2.2.2 (by simp; omega) (Nat.le_refl _) hi⟩)
    (fun pre X Y h e => by rw [← e]; exact h) (fun _ _ _ _ h _ => h) (fun _ _ _ _ h _ => h)
    ⟨((Box.new _ _ _).alloc _).alloc _, (Box.new' _ _ _ (by simp)).alloc _, Box.new' _ _ _ (by simp), (((Below.refl _ _).alloc (Nat.le_refl _) _).alloc (by simp) _).alloc (by simp; omega) _⟩ (((hT.alloc _).alloc _).alloc _)
    (fun x a' _ => a' = { tmps := #[.pointer (some ⟨B, 0, none⟩), .int .u64 s, .pointer (some ⟨w.heap.size, 0, none⟩), undef, .bool false, .pointer (some ⟨w.heap.size + 1, 0, none⟩), .pointer (some ⟨w.heap.size + 1 + 1, 0, none⟩), .int .i64 x, .int .u64 s, .func (.func 90) #[.int .u64 s] #[], .int .i64 x, undef, undef, undef, undef, undef, undef, undef, undef, undef, undef, undef, undef, undef, undef, undef, undef, undef, undef, undef, undef, undef, undef, undef, undef, undef, undef, undef, undef, undef], defers := [] })
    (fun _ _ _ _ h _ => h) ?assign ?body ?done ?stop
  case assign =>
    rintro l pre x args W K hi hv hp rfl hK
    gi_wp2
    exact hK _ _ (KeepBk.refl _) hi hv rfl
  case body =>
    rintro l pre x a' W hl hr ⟨h1, h2, h4, h3⟩ hv hp rfl
    have hx : x < F.l.length := hl' x (by obtain ⟨z, hz⟩ := hp; rw [← hz]; simp)
    obtain ⟨ad, e, g0, g1, g2, g3, g4, g5⟩ := at_T74 (Kd.C_below hC h3) x (by omega) (by omega)
    subst e
    rw [Int.toNat_natCast] at g0 g1 g2 g3 g4 g5
    have hB' := hB.step h3
    have b5 : W.cell? ⟨B, 5, none⟩ = some (.slice (some ad) F.l.length c) := hB'.cell 5 rfl
    have b1 : W.cell? ⟨w.heap.size, 0, none⟩ = some (.pointer (some ⟨B, 0, none⟩)) := h1.cell 0 rfl
    obtain ⟨vl, hvl⟩ : ∃ v, (highB F.l pre).1 = v := ⟨_, rfl⟩
    obtain ⟨vh, hvh⟩ : ∃ v, (highB F.l pre).2 = v := ⟨_, rfl⟩
    rw [hvl] at h2
    rw [hvh] at h4
    have c0 : W.cell? ⟨w.heap.size + 1, 0, none⟩ = some (.int .i64 vl) := h2.cell 0 rfl
    have c1 : W.cell? ⟨w.heap.size + 1 + 1, 0, none⟩ = some (.int .i64 vh) := h4.cell 0 rfl
    have Hl := Lib.hid hvl
    have Hh := Lib.hid hvh
    clear hvl hvh
    have f0 : W.frozen? ⟨w.heap.size + 1, 0, none⟩ = false := h2.frozen 0
    have f1 : W.frozen? ⟨w.heap.size + 1 + 1, 0, none⟩ = false := h4.frozen 0
    gi_wp2
    refine wpIn_region_ssa 20 [0,0,0,0,0,0,0,0,0,0,1,1,1,1,1,1,1,1,1,1] [W.drew.setCell ⟨w.heap.size + 1, 0, none⟩ (.int .i64 (mn vl (rd_T74 F.l ↑x).f1)), (W.drew.setCell ⟨w.heap.size + 1, 0, none⟩ (.int .i64 (mn vl (rd_T74 F.l ↑x).f1))).setCell ⟨w.heap.size + 1 + 1, 0, none⟩ (.int .i64 (mx vh (rd_T74 F.l ↑x).f1))] (by kernel_rfl) (fun ⟨_, _, h⟩ => h) rfl (by kernel_rfl) ?_
    simp only [List.take_succ_cons, List.take_zero, List.drop_succ_cons, List.drop_zero, List.zip_cons_cons, List.zip_nil_left, List.zip_nil_right]
    iterate 10 (refine ssa_step (fun K hK => ?_); simp only [wsF_zero]; go_simp; refine hK _ _ (fun s h1 h2 => absurd h1 (by omega)) ?_; clear hK K)
    iterate 10 (refine ssa_step (fun K hK => ?_); simp only [wsF_zero]; go_simp; refine hK _ _ (fun s h1 h2 K2 hK2 => ?_) ?_; (focus (have hs := Nat.le_antisymm h2 h1; subst hs; simp only [wsF_one]; go_simp; exact hK2)); clear hK K)
    refine ⟨⟨⟨rfl, ?_⟩, ⟨rfl, ?_⟩, trivial⟩, ?_⟩
    · go_simp
    · go_simp
    simp only [List.length_cons, List.length_nil, wsF_succ, wsF_zero]
    gi_wp2
    have hrd : rd_T74 F.l x = F.l.getD x z74 := by unfold rd_T74; rw [Int.toNat_natCast]
    refine ⟨(KeepBk.drew W).trans ((KeepBk.setCell _ _ _).trans (KeepBk.setCell _ _ _)), ?_, ?_, ?_, ?_, ?_⟩
    · exact (hv.drew.setCell (by have := hT.1; omega) 0 _).setCell (by have := hT.1; omega) 0 _
    · exact ((h1.drew.other (by omega) 0 _).other (by omega) 0 _)
    · have := ((h2.drew.set 0 (.int .i64 (mn vl (rd_T74 F.l x).f1))).other (b' := w.heap.size + 1 + 1) (by omega) 0 (.int .i64 (mx vh (rd_T74 F.l x).f1)))
      rw [highB_snoc, Hl.out, ← hrd]
      exact this
    · have := ((h4.drew.other (b' := w.heap.size + 1) (by omega) 0 (.int .i64 (mn vl (rd_T74 F.l x).f1))).set 0 (.int .i64 (mx vh (rd_T74 F.l x).f1)))
      rw [highB_snoc, Hh.out, ← hrd]
      exact this
    · exact ((h3.drew.setCell (p := ⟨w.heap.size + 1, 0, none⟩) (by simp) _).setCell (p := ⟨w.heap.size + 1 + 1, 0, none⟩) (by simp; omega) _)
  case done =>
    rintro D W hD ⟨h1, h2, h4, h3⟩ hv hK
    have c0 : W.cell? ⟨w.heap.size + 1, 0, none⟩ = some (.int .i64 (highB F.l (bitsOf s)).1) := h2.cell 0 rfl
    have c1 : W.cell? ⟨w.heap.size + 1 + 1, 0, none⟩ = some (.int .i64 (highB F.l (bitsOf s)).2) := h4.cell 0 rfl
    have b4 : W.cell? ⟨B, 4, none⟩ = some (.int .i64 F.near) := (hB.step h3).cell 4 rfl
    have b1 : W.cell? ⟨w.heap.size, 0, none⟩ = some (.pointer (some ⟨B, 0, none⟩)) := h1.cell 0 rfl
    have bd := highB_bd F.l (fun x hx => (hF.signs x hx).2.1) (bitsOf s) hl'
    have hal := Lib.hid (show alikeB F.l F.near s = decide ((highB F.l (bitsOf s)).2 - (highB F.l (bitsOf s)).1 ≤ F.near) from rfl)
    generalize (highB F.l (bitsOf s)).1 = vl at *
    generalize (highB F.l (bitsOf s)).2 = vh at *
    obtain ⟨d1, d2, d3, d4⟩ := bd
    gi_wp2
    refine wpIn_wide.2 ?_
    go_quiet (fail)
    gi_wp2
    refine leaveM_tmp (W := W.drewN nq) (.bool (decide (vh - vl ≤ F.near))) hK rfl rfl ⟨by rw [hal.out], ?_⟩
    exact Below.put (pw_below_drewN h3 nq) (by simp at hD; omega)
  case stop =>
    rintro D c pre W _ _ h _
    exact h.elim
end Go.Proofs.YtbijamlgcebgeaaDoor.Hand

-- part HJ
namespace Go.Proofs.YtbijamlgcebgeaaDoor.Hand
open Go.RowKit Go.Shelf Go.Proofs.YtbijamlgcebgeaaDoorW.PrintWords Go.Proofs.YtbijamlgcebgeaaDoor.Q
/-- The room of three bars. -/
structure Room where
  a : Int
  b : Int
  c : Int
def Room.vs (r : Room) : Array Value := #[.int .i64 r.a, .int .i64 r.b, .int .i64 r.c]
def Room.get (r : Room) (i : Nat) : Int := if i = 0 then r.a else if i = 1 then r.b else r.c
def Room.put (r : Room) (i : Nat) (v : Int) : Room := if i = 0 then { r with a := v } else if i = 1 then { r with b := v } else { r with c := v }
theorem Room.vs_get (r : Room) (i : Nat) (h : i < 3) : r.vs[i]? = some (.int .i64 (r.get i)) := by
  match i, h with
  | 0, _ => rfl
  | 1, _ => rfl
  | 2, _ => rfl
theorem Room.vs_put (r : Room) (i : Nat) (h : i < 3) (v : Int) : r.vs.setIfInBounds i (.int .i64 v) = (r.put i v).vs := by
  match i, h with
  | 0, _ => rfl
  | 1, _ => rfl
  | 2, _ => rfl
/-- Each of the first bars is so long. -/
def roomK (n : Int) (k : Nat) : Room := ⟨if 0 < k then n else 0, if 1 < k then n else 0, if 2 < k then n else 0⟩
theorem roomK_put (n : Int) (k : Nat) (h : k < 3) : (roomK n k).put k n = roomK n (k + 1) := by
  match k, h with
  | 0, _ => rfl
  | 1, _ => rfl
  | 2, _ => rfl
def Furn.empty (F : Furn) : Room := roomK (F.length + F.gap) F.bars.toNat
set_option maxRecDepth 100000 in
set_option maxHeartbeats 2000000 in
theorem empty_calls (F : Furn) (hF : F.Ok) (B M : Nat) (w : World) (hf : Fu w B M F) :
    Calls Tryd.prog 62 #[.pointer (some ⟨B, 0, none⟩)] w fun e w' => e = .returned (.agg F.empty.vs) ∧ Below w.heap.size w w' := by
  obtain ⟨A, c, hB, hC⟩ := hf
  obtain ⟨n, hn⟩ : ∃ n : Nat, F.bars = n := ⟨F.bars.toNat, by have := hF.bars; omega⟩
  have hn3 : n ≤ 3 := by have := hF.bars; omega
  obtain ⟨L, hL⟩ : ∃ L, F.length = L := ⟨_, rfl⟩
  obtain ⟨G, hG⟩ : ∃ G, F.gap = G := ⟨_, rfl⟩
  have l1 := hF.length
  have g1 := hF.gap
  have he := Lib.hid (show F.empty = roomK (L + G) n from by unfold Furn.empty; rw [hn, hL, hG]; rfl)
  rw [hn, hL, hG] at hB
  rw [hL] at l1
  rw [hG] at g1
  obtain ⟨l1, l2⟩ := l1
  obtain ⟨g1, g2⟩ := g1
  clear hn hL hG
  have b0 : w.cell? ⟨B, 0, none⟩ = some (.int .i64 n) := hB.cell 0 rfl
  have hBl := hB.lt
  go_enter Tryd.func62, Tryd.ntmps62
  go_wp2
  go_loopw [3, 9] (fun v i W => ∃ k : Nat, k ≤ n ∧ i = .int .i64 k ∧ Box W w.heap.size (roomK (L + G) k).vs 100 ∧ Below w.heap.size w W) (fun _ i _ => n - (intOf i).toNat)
  case atStart => exact ⟨0, Nat.zero_le _, rfl, Box.new _ _ _, (Below.refl _ _).alloc (Nat.le_refl _) _⟩
  case round =>
    obtain ⟨k, hk, rfl, hb, hbl⟩ := hrel
    by_cases hlt : k < n
    · have hB' := hB.step hbl
      have b1 : wr.cell? ⟨B, 1, none⟩ = some (.int .i64 L) := hB'.cell 1 rfl
      have b2 : wr.cell? ⟨B, 2, none⟩ = some (.int .i64 G) := hB'.cell 2 rfl
      have c0 : wr.cell? ⟨w.heap.size, k, none⟩ = some (.int .i64 ((roomK (L + G) k).get k)) := hb.cell k (Room.vs_get _ _ (by omega))
      have f0 : wr.frozen? ⟨w.heap.size, k, none⟩ = false := hb.frozen k
      have hk3 : (k : Int) < 3 := by omega
      go_wp2
      go_still_tail 13, (by kernel_rfl)
      go_wp2
      go_roundw
      case rel =>
        refine ⟨k + 1, by omega, by go_num, ?_, ?_⟩
        · rw [← roomK_put _ k (by omega), ← Room.vs_put _ _ (by omega)]
          exact hb.set k _
        · exact (hbl.setCell (p := ⟨w.heap.size, k, none⟩) (Nat.le_refl _) _).drew
      case measure => simp [intOf]; omega
    · have c0 : wr.cell? ⟨w.heap.size, 0, none⟩ = some (.int .i64 (roomK (L + G) k).a) := hb.cell 0 rfl
      have c1 : wr.cell? ⟨w.heap.size, 1, none⟩ = some (.int .i64 (roomK (L + G) k).b) := hb.cell 1 rfl
      have c2 : wr.cell? ⟨w.heap.size, 2, none⟩ = some (.int .i64 (roomK (L + G) k).c) := hb.cell 2 rfl
      have f0 : wr.frozen? ⟨w.heap.size, 0, none⟩ = false := hb.frozen 0
      have f1 : wr.frozen? ⟨w.heap.size, 1, none⟩ = false := hb.frozen 1
      have f2 : wr.frozen? ⟨w.heap.size, 2, none⟩ = false := hb.frozen 2
      go_wp2
      obtain rfl : k = n := by omega
      have hb2 := ((hb.set 0 (.int .i64 (roomK (L + G) k).a)).set 1 (.int .i64 (roomK (L + G) k).b)).set 2 (.int .i64 (roomK (L + G) k).c)
      have hl2 := ((hbl.setCell (p := ⟨w.heap.size, 0, none⟩) (Nat.le_refl _) (.int .i64 (roomK (L + G) k).a)).setCell (p := ⟨w.heap.size, 1, none⟩) (Nat.le_refl _) (.int .i64 (roomK (L + G) k).b)).setCell (p := ⟨w.heap.size, 2, none⟩) (Nat.le_refl _) (.int .i64 (roomK (L + G) k).c)
      refine bodyPost_ret (v := .agg (roomK (L + G) k).vs) ?_ rfl ⟨by rw [he.out], hl2⟩
      clear hl2
      generalize (((wr.setCell { block := w.heap.size, off := 0 } (Value.int IntKind.i64 (roomK (L + G) k).a)).setCell { block := w.heap.size, off := 1 } (Value.int IntKind.i64 (roomK (L + G) k).b)).setCell { block := w.heap.size, off := 2 } (Value.int IntKind.i64 (roomK (L + G) k).c)) = W2 at hb2
      have d0 : W2.cell? ⟨w.heap.size, 0, none⟩ = some (.int .i64 (roomK (L + G) k).a) := hb2.cell 0 rfl
      have d1 : W2.cell? ⟨w.heap.size, 1, none⟩ = some (.int .i64 (roomK (L + G) k).b) := hb2.cell 1 rfl
      have d2 : W2.cell? ⟨w.heap.size, 2, none⟩ = some (.int .i64 (roomK (L + G) k).c) := hb2.cell 2 rfl
      clear hb2
      simp [results, Tryd.results62, go_sem, d0, d1, d2, Room.vs]
end Go.Proofs.YtbijamlgcebgeaaDoor.Hand

-- part HK
namespace Go.Proofs.YtbijamlgcebgeaaDoor.Hand
open Go.RowKit Go.Shelf Go.Proofs.YtbijamlgcebgeaaDoorW.PrintWords Go.Proofs.YtbijamlgcebgeaaDoorW.PrintMore Go.Proofs.YtbijamlgcebgeaaDoor.Q
/-- The bars from k on are tried for a sign that takes c. -/
def barsTry (g : Room → Option (List Int)) (c : Int) (free : Room) : Nat → Nat → Option (List Int)
  | 0, _ => none
  | d + 1, k => if free.get k - c < 0 then barsTry g c free d (k + 1) else match g (free.put k (free.get k - c)) with
    | some l => some ((k : Int) :: l)
    | none => barsTry g c free d (k + 1)
theorem barsTry_neg {g : Room → Option (List Int)} {c : Int} {free : Room} {d k : Nat} (h : free.get k - c < 0) : barsTry g c free (d + 1) k = barsTry g c free d (k + 1) := if_pos h
theorem barsTry_some {g : Room → Option (List Int)} {c : Int} {free : Room} {d k : Nat} {l : List Int} (h : ¬ free.get k - c < 0) (hg : g (free.put k (free.get k - c)) = some l) : barsTry g c free (d + 1) k = some ((k : Int) :: l) := by
  show (if free.get k - c < 0 then _ else _) = _
  rw [if_neg h, hg]
theorem barsTry_none {g : Room → Option (List Int)} {c : Int} {free : Room} {d k : Nat} (h : ¬ free.get k - c < 0) (hg : g (free.put k (free.get k - c)) = none) : barsTry g c free (d + 1) k = barsTry g c free d (k + 1) := by
  show (if free.get k - c < 0 then _ else _) = _
  rw [if_neg h, hg]
/-- The smallest list of bars. -/
def barsB (F : Furn) : List Nat → Room → Option (List Int)
  | [], _ => some []
  | i :: is, free => barsTry (barsB F is) ((rd_T74 F.l i).f0 + F.gap) free F.bars.toNat 0
def optL (o : Option (List Int)) : List Int × Bool := match o with
  | some l => (l, true)
  | none => ([], false)
def Room.Ok (r : Room) : Prop := (0 ≤ r.a ∧ r.a ≤ 220) ∧ (0 ≤ r.b ∧ r.b ≤ 220) ∧ (0 ≤ r.c ∧ r.c ≤ 220)
theorem Room.Ok.get {r : Room} (h : r.Ok) (i : Nat) : 0 ≤ r.get i ∧ r.get i ≤ 220 := by
  obtain ⟨h1, h2, h3⟩ := h
  unfold Room.get
  split
  · exact h1
  · split
    · exact h2
    · exact h3
theorem Room.Ok.put {r : Room} (h : r.Ok) (i : Nat) (v : Int) (hv : 0 ≤ v ∧ v ≤ 220) : (r.put i v).Ok := by
  obtain ⟨h1, h2, h3⟩ := h
  unfold Room.put
  split
  · exact ⟨hv, h2, h3⟩
  · split
    · exact ⟨h1, hv, h3⟩
    · exact ⟨h1, h2, hv⟩
theorem barsB_len (F : Furn) : ∀ (is : List Nat) (free : Room) (l : List Int), barsB F is free = some l → l.length = is.length := by
  intro is
  induction is with
  | nil => intro free l h; simp [barsB] at h; subst h; rfl
  | cons i is ih =>
    intro free l h
    have key : ∀ d k l, barsTry (barsB F is) ((rd_T74 F.l i).f0 + F.gap) free d k = some l → l.length = is.length + 1 := by
      intro d
      induction d with
      | zero => intro k l h; cases h
      | succ d ihd =>
        intro k l h
        unfold barsTry at h
        split at h
        · exact ihd _ _ h
        · split at h
          · rename_i m hm
            cases h
            simp [ih _ _ hm]
          · exact ihd _ _ h
    exact key _ _ _ h
theorem R_lit1 (W : World) (x : Int) (base n : Nat) (hn : W.heap.size = n) (hb : base ≤ n) : Kd.R (Kd.int .i64) 3 (W.alloc (.cells #[.int .i64 x] 3)) base (fun _ => True) (.slice (some ⟨n, 0, none⟩) 1 1) [x] := by
  subst hn
  refine ⟨fun _ _ => trivial, [.int .i64 x], ?_, ?_⟩
  · exact World.ownsRow_lit (base := base) (e := 3) (size := 1) W #[.int .i64 x] 1 hb (by simp [maxLen]) (by simp)
  · exact Reps.snoc (Reps.none _ _) (p := x) (c := [.int .i64 x]) rfl rfl
set_option maxRecDepth 100000 in
set_option maxHeartbeats 1000000 in
theorem bars_calls (F : Furn) (hF : F.Ok) (s : Nat) : ∀ (hs : s < 64) (hl' : ∀ i ∈ bitsOf s, i < F.l.length) (free : Room) (hfr : free.Ok) (B M : Nat) (w : World) (hT : TabW w) (hf : Fu w B M F),
    Calls Tryd.prog 61 #[.pointer (some ⟨B, 0, none⟩), .int .u64 s, .agg free.vs] w fun e w' => ∃ v0, e = .returned (.tuple #[v0, .bool (optL (barsB F (bitsOf s) free)).2]) ∧ Kd.R (Kd.int .i64) 3 w' w.heap.size (fun _ => True) v0 (optL (barsB F (bitsOf s) free)).1 ∧ Below w.heap.size w w' := by
  induction s using Nat.strongRecOn with
  | _ s ih =>
  intro hs hl' free hfr B M w hT hf
  by_cases h0 : s = 0
  · subst h0
    have he : bitsOf 0 = [] := by simp [bitsOf]
    rw [he]
    go_enter Tryd.func61, Tryd.ntmps61
    go_wp2
    go_ret2
    exact ⟨_, rfl, Kd.R_nil _ _ _ _ _, (Below.refl _ _).alloc (Nat.le_refl _) _⟩
  · obtain ⟨e1, e2⟩ := bitsOf_step s hs h0
    obtain ⟨i0, hi⟩ : ∃ i, Lib.ctz 64 s = i := ⟨_, rfl⟩
    obtain ⟨s', hs'⟩ : ∃ s', s &&& (s - 1) = s' := ⟨_, rfl⟩
    have hb := bits_low s hs h0
    rw [hs'] at e1 e2 hb
    rw [hi] at e1
    have hil : i0 < F.l.length := hl' i0 (by rw [e1]; simp)
    have hl2 : ∀ j ∈ bitsOf s', j < F.l.length := fun j hj => hl' j (by rw [e1]; simp [hj])
    rw [e1]
    have ih' := ih s' e2 (by omega) hl2
    clear ih hs' hl'
    have E1 := Lib.hid e1
    have Hi := Lib.hid hi
    have Hb := Lib.hid hb
    clear e1 hi hb
    have hz1 : ((s : Int) == 0) = false := by simp; omega
    have hz2 : (1 : Int) ≤ s := by omega
    obtain ⟨A, c, hB, hC⟩ := hf
    obtain ⟨n, hn⟩ : ∃ n : Nat, F.bars = n := ⟨F.bars.toNat, by have := hF.bars; omega⟩
    have hn3 : n ≤ 3 := by have := hF.bars; omega
    have hsp := Lib.hid (show barsB F (i0 :: bitsOf s') free = barsTry (barsB F (bitsOf s')) ((rd_T74 F.l i0).f0 + F.gap) free n 0 from by show barsTry _ _ _ F.bars.toNat 0 = _; rw [hn]; rfl)
    obtain ⟨G, hG⟩ : ∃ G, F.gap = G := ⟨_, rfl⟩
    have g1 := hF.gap
    have fu : Hid (∀ W, Below w.heap.size w W → Fu W B M F) := Lib.hid fun W h => ⟨A, c, hB.step h, Kd.C_below hC h⟩
    rw [hn, hG] at hB
    rw [hG] at g1 hsp
    obtain ⟨g1, g2⟩ := g1
    have hsg := (hF.signs _ (rd_mem hil)).1
    obtain ⟨q1, q2⟩ := hsg
    clear hn hG
    have b0 : w.cell? ⟨B, 0, none⟩ = some (.int .i64 n) := hB.cell 0 rfl
    have hBl := hB.lt
    go_enter Tryd.func61, Tryd.ntmps61
    go_wp2_with fail
    refine (tz_calls s (by omega) h0 _ (hT.alloc _)).mono ?_
    rintro e w1 ⟨rfl, rfl⟩
    rw [Hi.out]
    go_wp2
    go_loopw [22] (fun i W => ∃ k : Nat, k ≤ n ∧ i = .int .i64 k ∧ Hid (barsB F (i0 :: bitsOf s') free = barsTry (barsB F (bitsOf s')) ((rd_T74 F.l i0).f0 + G) free (n - k) k) ∧ Box W w.heap.size free.vs 100 ∧ Below w.heap.size w W ∧ TabW W) (fun i _ => n - (intOf i).toNat)
    case atStart => exact ⟨0, Nat.zero_le _, rfl, hsp, Box.new _ _ _, (Below.refl _ _).alloc (Nat.le_refl _) _, hT.alloc _⟩
    case round =>
      obtain ⟨k, hk, rfl, hrec, hbx, hbl, hT1⟩ := hrel
      by_cases hlt : k < n
      · have hB' := hB.step hbl
        obtain ⟨ad, e, y0, y1, y2, y3, y4, y5⟩ := at_T74 (Kd.C_below hC hbl) i0 (by omega) (by omega)
        subst e
        rw [Int.toNat_natCast] at y0
        clear y1 y2 y3 y4 y5
        have b5 : wr.cell? ⟨B, 5, none⟩ = some (.slice (some ad) F.l.length c) := hB'.cell 5 rfl
        have b2 : wr.cell? ⟨B, 2, none⟩ = some (.int .i64 G) := hB'.cell 2 rfl
        have hBl2 := hB'.lt
        have c0 : wr.cell? ⟨w.heap.size, 0, none⟩ = some (.int .i64 free.a) := hbx.cell 0 rfl
        have c1 : wr.cell? ⟨w.heap.size, 1, none⟩ = some (.int .i64 free.b) := hbx.cell 1 rfl
        have c2 : wr.cell? ⟨w.heap.size, 2, none⟩ = some (.int .i64 free.c) := hbx.cell 2 rfl
        have hbxl := hbx.lt
        have hk3 : (k : Int) < 3 := by omega
        go_wp2
        obtain ⟨W1, hW1⟩ : ∃ W1, wr.alloc (Obj.cells free.vs 100) = W1 := ⟨_, rfl⟩
        rw [show wr.alloc (Obj.cells #[Value.int IntKind.i64 free.a, Value.int IntKind.i64 free.b, Value.int IntKind.i64 free.c] 100) = W1 from hW1]
        have hn1 : Box W1 wr.heap.size free.vs 100 := by rw [← hW1]; exact Box.new _ _ _
        have hbx1 : Box W1 w.heap.size free.vs 100 := by rw [← hW1]; exact hbx.alloc _
        have hbl1 : Below w.heap.size w W1 := by rw [← hW1]; exact hbl.alloc hbl.size _
        have hT2 : TabW W1 := by rw [← hW1]; exact hT1.alloc _
        have hB1 := hB.step hbl1
        obtain ⟨ad', e', y0', y1, y2, y3, y4, y5⟩ := at_T74 (Kd.C_below hC hbl1) i0 (by omega) (by omega)
        cases e'
        rw [Int.toNat_natCast] at y0'
        clear y1 y2 y3 y4 y5
        have hwr : w.heap.size ≤ wr.heap.size := hbl.size
        have hwl : w.heap.size < wr.heap.size := hbx.lt
        generalize wr.heap.size = N at *
        clear hW1 b5 b2 hBl2 c0 c1 c2 hbxl y0 hbl hT1 hbx hB'
        clear wr
        obtain ⟨x, hx⟩ : ∃ x, free.get k = x := ⟨_, rfl⟩
        obtain ⟨x1, x2⟩ := hfr.get k
        rw [hx] at x1 x2
        obtain ⟨y, hy⟩ : ∃ y, (rd_T74 F.l i0).f0 = y := ⟨_, rfl⟩
        rw [hy] at y0' q1 q2 hrec
        have b5 : W1.cell? ⟨B, 5, none⟩ = some (.slice (some ad) F.l.length c) := hB1.cell 5 rfl
        have b2 : W1.cell? ⟨B, 2, none⟩ = some (.int .i64 G) := hB1.cell 2 rfl
        have c0 : W1.cell? ⟨N, k, none⟩ = some (.int .i64 x) := by rw [← hx]; exact hn1.cell k (Room.vs_get _ _ (by omega))
        have f0 : W1.frozen? ⟨N, k, none⟩ = false := hn1.frozen k
        have Hx := Lib.hid hx
        have Hy := Lib.hid hy
        clear hx hy
        go_still_tail 19, (by kernel_rfl)
        go_upto_if 48 with (fail)
        obtain ⟨d, hd⟩ : ∃ d, x - (y + G) = d := ⟨_, rfl⟩
        rw [hd]
        obtain ⟨W2, hW2⟩ : ∃ W2, (W1.setCell ⟨N, k, none⟩ (.int .i64 d)).drew = W2 := ⟨_, rfl⟩
        rw [hW2]
        have hn2 : Box W2 N (free.put k d).vs 100 := by
          rw [← hW2, ← Room.vs_put _ _ (by omega)]
          exact hn1.set k _
        have hne : w.heap.size ≠ N := by omega
        have hbx2 : Box W2 w.heap.size free.vs 100 := by rw [← hW2]; exact hbx1.other hne k _
        have hbl2 : Below w.heap.size w W2 := by rw [← hW2]; exact (hbl1.setCell (p := ⟨N, k, none⟩) hwr _).drew
        have hT3 : TabW W2 := by rw [← hW2]; exact (hT2.setCell (by have := hT.1; omega) k _).drew
        clear hW2 hT2 hbl1 hbx1 hn1 hB1 y0' b5 b2 c0 f0
        have hrec2 := Lib.hid (show barsB F (i0 :: bitsOf s') free = barsTry (barsB F (bitsOf s')) (y + G) free ((n - (k + 1)) + 1) k from by rw [hrec.out]; congr 1; omega)
        clear hrec
        by_cases hneg : d < 0
        · have h1 : decide (d < 0) = true := decide_eq_true hneg
          go_wp2
          go_roundw
          case rel => exact ⟨k + 1, by omega, by go_num, Lib.hid (by rw [Hy.out, hrec2.out, barsTry_neg (by rw [Hx.out, hd]; exact hneg)]), hbx2, hbl2, hT3⟩
          case measure => simp [intOf]; omega
        · have h1 : decide (d < 0) = false := decide_eq_false hneg
          have d0 : W2.cell? ⟨N, 0, none⟩ = some (.int .i64 (free.put k d).a) := hn2.cell 0 rfl
          have d1 : W2.cell? ⟨N, 1, none⟩ = some (.int .i64 (free.put k d).b) := hn2.cell 1 rfl
          have d2 : W2.cell? ⟨N, 2, none⟩ = some (.int .i64 (free.put k d).c) := hn2.cell 2 rfl
          have hok : (free.put k d).Ok := hfr.put k d (by omega)
          obtain ⟨r, hr⟩ : ∃ r, barsB F (bitsOf s') (free.put k d) = r := ⟨_, rfl⟩
          have ihc := ih' (free.put k d) hok B M W2 hT3 (fu.out W2 hbl2)
          rw [hr] at ihc
          have Ihc := Lib.hid ihc
          have Hr := Lib.hid hr
          have Hd := Lib.hid hd
          clear ihc ih' hr hd
          go_wp2_with fail
          rw [Hb.out]
          refine Ihc.out.mono ?_
          rintro e w3 ⟨v0, rfl, hR, hb3⟩
          have hbl3 : Below w.heap.size w w3 := hbl2.trans (hb3.mono hbl2.size)
          have hbx3 := hbx2.step hb3
          have hT4 := hT3.below hb3
          cases r with
          | none =>
            go_wp2
            go_roundw
            case rel => exact ⟨k + 1, by omega, by go_num, Lib.hid (by rw [Hy.out, hrec2.out, barsTry_none (by rw [Hx.out, Hd.out]; omega) (by rw [Hx.out, Hd.out]; exact Hr.out)]), hbx3, hbl3, hT4⟩
            case measure => simp [intOf]; omega
          | some l =>
            obtain ⟨A2, c2, rfl, hlc, hC2⟩ := Kd.R_reads hR
            have hll := barsB_len _ _ _ _ Hr.out
            replace hR : Kd.C (Kd.int .i64) w3 A2 l.length l := hC2
            have h6 : l.length ≤ 6 := by rw [hll]; exact bitsOf_len s'
            clear hC2
            change _ ≤ c2 at hlc
            go_wp2_with (at_builtin; refine Kd.R_append_rows (Kd.int .i64) (w0 := w) w.heap.size rfl (.tmp 61) (.tmp 62) 25 3 (.int .i64 0) 8 rfl Tryd.underlying25 info3 rfl (by decide) (by omega) (.slice (some ⟨w3.heap.size, 0, none⟩) 1 1) [(k : Int)] l A2 l.length c2 (fun _ => True) (fun _ => False) rfl rfl (R_lit1 _ _ _ _ rfl hbl3.size) (Kd.C_alloc hR _) (fun _ _ h => h) (fun _ h => h.elim) (fun _ _ => trivial) (hbl3.alloc hbl3.size _) (by have := hbl3.size; simp; omega) (by simp; omega) ?_; intro v5 w5 ho5 hb5 hg5 hat5)
            go_ret2
            have hfin : barsB F (i0 :: bitsOf s') free = some ((k : Int) :: l) := by rw [← Hy.out] at hrec2; rw [hrec2.out]; exact barsTry_some (by rw [Hx.out, Hy.out, Hd.out]; omega) (by rw [Hx.out, Hy.out, Hd.out]; exact Hr.out)
            rw [hfin]
            exact ⟨v5, rfl, ho5, hb5⟩
      · go_wp2
        go_ret2
        have hfin : barsB F (i0 :: bitsOf s') free = none := by
          rw [hrec.out, show n - k = 0 by omega]
          rfl
        rw [hfin]
        exact ⟨_, rfl, Kd.R_nil _ _ _ _ _, hbl⟩
end Go.Proofs.YtbijamlgcebgeaaDoor.Hand

-- part HL
namespace Go.Proofs.YtbijamlgcebgeaaDoor.Hand
open Go.RowKit Go.Shelf Go.Proofs.YtbijamlgcebgeaaDoorW.PrintWords Go.Proofs.YtbijamlgcebgeaaDoorW.PrintMore Go.Proofs.YtbijamlgcebgeaaDoor.Q
theorem Furn.Ok.empty {F : Furn} (h : F.Ok) : F.empty.Ok := by
  have h1 := h.length
  have h2 := h.gap
  unfold Furn.empty roomK Room.Ok
  refine ⟨?_, ?_, ?_⟩ <;> (dsimp only; split <;> omega)
def fitsB (F : Furn) (s : Nat) : Bool := !(decide ((heatB F.l (bitsOf s)).2 < (heatB F.l (bitsOf s)).1) || !alikeB F.l F.near s) && (optL (barsB F (bitsOf s) F.empty)).2
set_option maxRecDepth 100000 in
set_option maxHeartbeats 1000000 in
theorem fits_calls (F : Furn) (hF : F.Ok) (s : Nat) (hs : s < 64) (hl' : ∀ i ∈ bitsOf s, i < F.l.length) (B M : Nat) (w : World) (hT : TabW w) (hf : Fu w B M F) :
    Calls Tryd.prog 60 #[.pointer (some ⟨B, 0, none⟩), .int .u64 s] w fun e w' => e = .returned (.bool (fitsB F s)) ∧ Below w.heap.size w w' := by
  obtain ⟨lo, hlo⟩ : ∃ v, (heatB F.l (bitsOf s)).1 = v := ⟨_, rfl⟩
  obtain ⟨hi, hhi⟩ : ∃ v, (heatB F.l (bitsOf s)).2 = v := ⟨_, rfl⟩
  obtain ⟨al, hal⟩ : ∃ v, alikeB F.l F.near s = v := ⟨_, rfl⟩
  have hr := Lib.hid (show fitsB F s = (!(decide (hi < lo) || !al) && (optL (barsB F (bitsOf s) F.empty)).2) from by unfold fitsB; rw [hlo, hhi, hal])
  have Hlo := Lib.hid hlo
  have Hhi := Lib.hid hhi
  have Hal := Lib.hid hal
  clear hlo hhi hal
  rw [hr.out]
  clear hr
  by_cases hh : hi < lo
  · have h1 : decide (hi < lo) = true := decide_eq_true hh
    go_enter Tryd.func60, Tryd.ntmps60
    go_wp2_with fail
    refine (heat_calls F hF s hs hl' B M _ hT hf).mono ?_
    rintro e w1 ⟨rfl, hb1⟩
    rw [Hlo.out, Hhi.out]
    go_wp2
    go_ret
    exact ⟨ret_bool (by simp; intro h; omega), hb1.alloc hb1.size _⟩
  · have h1 : decide (hi < lo) = false := decide_eq_false hh
    cases al
    all_goals
      go_enter Tryd.func60, Tryd.ntmps60
      go_wp2_with fail
      refine (heat_calls F hF s hs hl' B M _ hT hf).mono ?_
      rintro e w1 ⟨rfl, hb1⟩
      rw [Hlo.out, Hhi.out]
      have hbx1 := hb1.alloc hb1.size (.cells #[.int .i64 lo, .int .i64 hi] 36)
      have hw1 := ((Below.refl w.heap.size w1).alloc hb1.size (.cells #[.int .i64 lo, .int .i64 hi] 36))
      go_wp2_with fail
      refine (alike_calls F hF s hs hl' B M _ ((hT.below hb1).alloc _) ((hf.below hb1).below ((Below.refl _ _).alloc (Nat.le_refl _) _))).mono ?_
      rintro e w2 ⟨rfl, hb2⟩
      rw [Hal.out]
      have hB2 : Below w.heap.size w w2 := hbx1.trans (hb2.mono (by have := hb1.size; simp; omega))
    · go_wp2
      go_ret
      exact ⟨ret_bool (by simp), hB2⟩
    · go_wp2_with fail
      refine (empty_calls F hF B M _ (hf.below hB2)).mono ?_
      rintro e w3 ⟨rfl, hb3⟩
      have hB3 : Below w.heap.size w w3 := hB2.trans (hb3.mono hB2.size)
      go_wp2_with fail
      refine (bars_calls F hF s hs hl' F.empty hF.empty B M _ (hT.below hB3) (hf.below hB3)).mono ?_
      rintro e w4 ⟨v0, rfl, hR, hb4⟩
      have hB4 : Below w.heap.size w w4 := hB3.trans (hb4.mono hB3.size)
      clear hR
      go_wp2
      go_ret
      exact ⟨ret_bool (by simp; intro _; omega), hB4⟩
end Go.Proofs.YtbijamlgcebgeaaDoor.Hand

-- part HM
namespace Go.Proofs.YtbijamlgcebgeaaDoor.Hand
open Go.RowKit Go.Shelf Go.Sort Go.Proofs.YtbijamlgcebgeaaDoorW.PrintWords Go.Proofs.YtbijamlgcebgeaaDoorW.PrintMore Go.Proofs.YtbijamlgcebgeaaDoor.Q
def highW (F : Furn) (s : Nat) : Int := sumB (fun x => x.f2.f1) F.l (bitsOf s)
/-- Whether signs surely go on the fork. -/
def goesB (F : Furn) (s : Nat) : Bool := decide (highW F s ≤ F.load) && fitsB F s
/-- The map holds what is so. -/
def Memo (w : World) (M : Nat) (F : Furn) : Prop :=
  ∃ (es : Array MapEntry) (clock : Nat), w.heap[M]? = some (.map es clock) ∧ ∀ e ∈ es.toList, ∃ s : Nat, s < 64 ∧ e.key = .int .u64 s ∧ e.val = .bool (goesB F s)
theorem findNow_ok (F : Furn) (k : Nat) : ∀ (l : List MapEntry) (i : Nat), (∀ e ∈ l, ∃ s : Nat, s < 64 ∧ e.key = .int .u64 s ∧ e.val = .bool (goesB F s)) →
    (Instr.findNow (.int .u64) (.int .u64 k) l i = some none) ∨ ∃ j, i ≤ j ∧ j < i + l.length ∧ Instr.findNow (.int .u64) (.int .u64 k) l i = some (some (j, .bool (goesB F k))) ∧ ∃ e, l[j - i]? = some e ∧ e.key = .int .u64 k := by
  intro l
  induction l with
  | nil => intro i _; exact .inl rfl
  | cons e l ih =>
    intro i h
    obtain ⟨s, hs, hk, hv⟩ := h e (by simp)
    by_cases he : k = s
    · subst he
      refine .inr ⟨i, Nat.le_refl _, by simp, ?_, e, by simp, hk⟩
      simp [Instr.findNow, Instr.sameNow, hk, hv]
    · have hne : ((k : Int) == (s : Int)) = false := by simp; omega
      have hstep : Instr.findNow (.int .u64) (.int .u64 k) (e :: l) i = Instr.findNow (.int .u64) (.int .u64 k) l (i + 1) := by
        simp [Instr.findNow, Instr.sameNow, hk, hne]
      rw [hstep]
      rcases ih (i + 1) (fun e' he' => h e' (by simp [he'])) with h1 | ⟨j, h1, h2, h3, e', h4, h5⟩
      · exact .inl h1
      · exact .inr ⟨j, by omega, by simp; omega, h3, e', by rw [show j - i = (j - (i + 1)) + 1 by omega]; simpa using h4, h5⟩
theorem zero4 (w : World) : (zeroValue 4).run Tryd.prog w = .ok (.bool false) w := by kernel_rfl
theorem checkKey_run (b : Bool) (k : Int) (w : World) : (Instr.checkKey b 10000 93 (.int .u64 k)).run Tryd.prog w = .ok () w := by
  have hk : Tryd.prog.underlying 93 = some (.int .u64) := Tryd.underlying93
  show (Instr.checkKey b (9999 + 1) 93 (.int .u64 k)).run Tryd.prog w = _
  unfold Instr.checkKey
  simp [go_sem, run_underlying hk]
theorem findKey_run {l : List MapEntry} {k : Int} {r : Option (Nat × Value)} (h : Instr.findNow (.int .u64) (.int .u64 k) l 0 = some r) (w : World) : (Instr.findKey 93 (.int .u64 k) l).run Tryd.prog w = .ok r w := by
  have hk : Tryd.prog.underlying 93 = some (.int .u64) := Tryd.underlying93
  unfold Instr.findKey
  simp [go_sem, run_underlying hk, h]
theorem lookup_run {w : World} {M : Nat} {F : Furn} (h : Memo w M F) (s : Nat) : ∃ b ok : Bool, (Instr.lookup 120 (.map (some M)) (.int .u64 s) true).run Tryd.prog w = .ok (.tuple #[.bool b, .bool ok]) w ∧ (ok = true → b = goesB F s) := by
  obtain ⟨es, clock, hM, hes⟩ := h
  have hu : Tryd.prog.underlying 120 = some (.map 93 4) := Tryd.underlying120
  have hg : (getObj M).run Tryd.prog w = .ok (.map es clock) w := by simp [getObj, Sem.run, hM]
  rcases findNow_ok F s es.toList 0 hes with h1 | ⟨j, _, _, h1, _⟩
  · refine ⟨false, false, ?_, fun h => by cases h⟩
    unfold Instr.lookup
    simp [go_sem, run_underlying hu, hg, checkKey_run, findKey_run h1, zero4]
  · refine ⟨goesB F s, true, ?_, fun _ => rfl⟩
    unfold Instr.lookup
    simp [go_sem, run_underlying hu, hg, checkKey_run, findKey_run h1, zero4]
/-- What may turn: the map alone. -/
structure Kp (M : Nat) (w w' : World) : Prop where
  os : w'.os = w.os
  tape : w'.tape = w.tape
  output : w'.output = w.output
  size : w.heap.size ≤ w'.heap.size
  block : ∀ k, k < w.heap.size → k ≠ M → w'.heap[k]? = w.heap[k]?
theorem keepKey_run {k : Int} {w : World} (old : Value) (h : old = .int .u64 k) : (Instr.keyThatStays old (.int .u64 k)).run Tryd.prog w = .ok (.int .u64 k) w := by
  subst h
  unfold Instr.keyThatStays
  have : Instr.sameBits 10000 (.int .u64 k) (.int .u64 k) = true := by
    show Instr.sameBits (9999 + 1) (.int .u64 k) (.int .u64 k) = true
    unfold Instr.sameBits
    simp
  simp [this, go_sem]
theorem update_run {w : World} {M : Nat} {F : Furn} (h : Memo w M F) (s : Nat) (hs : s < 64) : ∃ w', (Instr.mapUpdate 120 (.map (some M)) (.int .u64 s) (.bool (goesB F s))).run Tryd.prog w = .ok () w' ∧ Memo w' M F ∧ Kp M w w' := by
  obtain ⟨es, clock, hM, hes⟩ := h
  have hu : Tryd.prog.underlying 120 = some (.map 93 4) := Tryd.underlying120
  have hg : (getObj M).run Tryd.prog w = .ok (.map es clock) w := by simp [getObj, Sem.run, hM]
  have hlt := lt_of_block hM
  have hset : ∀ o : Obj, (setObj M o).run Tryd.prog w = .ok () (w.putObj M o) := fun o => by
    simp [setObj, Sem.run, World.putObj, hM]
  rcases findNow_ok F s es.toList 0 hes with h1 | ⟨j, _, _, h1, e, h2, h3⟩
  · refine ⟨w.putObj M (.map (es.push { key := .int .u64 s, val := .bool (goesB F s), born := clock }) (clock + 1)), ?_, ?_, ?_⟩
    · unfold Instr.mapUpdate
      simp [go_sem, run_underlying hu, hg, checkKey_run, findKey_run h1, hset]
    · refine ⟨_, _, World.putObj_heap_same hlt, fun e he => ?_⟩
      simp only [Array.toList_push, List.mem_append, List.mem_singleton] at he
      rcases he with he | rfl
      · exact hes e he
      · exact ⟨s, hs, rfl, rfl⟩
    · exact ⟨rfl, rfl, rfl, by simp, fun k hk hne => World.putObj_heap_other hne⟩
  · have h2' : es[j]? = some e := by simpa using h2
    refine ⟨w.putObj M (.map (es.modify j fun e => { e with key := .int .u64 s, val := .bool (goesB F s) }) clock), ?_, ?_, ?_⟩
    · unfold Instr.mapUpdate
      simp [go_sem, run_underlying hu, hg, checkKey_run, findKey_run h1, hset, h2', h3, keepKey_run]
    · refine ⟨_, _, World.putObj_heap_same hlt, fun e' he => ?_⟩
      obtain ⟨i, hi, hie⟩ := List.getElem_of_mem he
      simp only [Array.getElem_toList, Array.getElem_modify] at hie
      split at hie
      · rw [← hie]
        exact ⟨s, hs, rfl, rfl⟩
      · rw [← hie]
        exact hes _ (by simp)
    · exact ⟨rfl, rfl, rfl, by simp, fun k hk hne => World.putObj_heap_other hne⟩
theorem Kp.refl (M : Nat) (w : World) : Kp M w w := ⟨rfl, rfl, rfl, Nat.le_refl _, fun _ _ _ => rfl⟩
theorem Kp.trans {M : Nat} {a b c : World} (h : Kp M a b) (k : Kp M b c) : Kp M a c :=
  ⟨k.os.trans h.os, k.tape.trans h.tape, k.output.trans h.output, Nat.le_trans h.size k.size, fun i hi hn => (k.block i (Nat.lt_of_lt_of_le hi h.size) hn).trans (h.block i hi hn)⟩
theorem Kp.of_below {M : Nat} {a b : World} (h : Below a.heap.size a b) : Kp M a b := ⟨h.os, h.tape, h.output, h.size, fun k hk _ => h.block k hk⟩
theorem Kp.box {M : Nat} {w w' : World} (h : Kp M w w') {b : Nat} {vs : Array Value} {t : TypeId} (hb : Box w b vs t) (hn : b ≠ M) : Box w' b vs t := (h.block b hb.lt hn).trans hb
theorem Kp.cell {M : Nat} {w w' : World} (h : Kp M w w') {a : Addr} {v : Value} (hc : w.cell? a = some v) (hm : ∃ es clock, w.heap[M]? = some (.map es clock)) : w'.cell? a = some v := by
  have hlt := World.block_lt_of_cell? w a hc
  have hne : a.block ≠ M := fun e => by
    obtain ⟨es, clock, hm⟩ := hm
    unfold World.cell? at hc
    rw [e, hm] at hc
    cases hc
  exact (World.cell?_of_block (w := w) (h.block a.block hlt hne)).trans hc
theorem Memo.isMap {w : World} {M : Nat} {F : Furn} (h : Memo w M F) : ∃ es clock, w.heap[M]? = some (.map es clock) := let ⟨es, c, h, _⟩ := h; ⟨es, c, h⟩
theorem Memo.below {w w' : World} {M : Nat} {F : Furn} (h : Memo w M F) (hb : Below w.heap.size w w') : Memo w' M F := by
  obtain ⟨es, c, h1, h2⟩ := h
  exact ⟨es, c, (hb.block M (lt_of_block h1)).trans h1, h2⟩
theorem Kp.tab {M : Nat} {w w' : World} {F : Furn} (h : Kp M w w') (hm : Memo w M F) (hT : TabW w) : TabW w' := ⟨Nat.le_trans hT.1 h.size, fun j hj => h.cell (hT.2 j hj) hm.isMap⟩
theorem ReadsRow.of_cells {α : Type} {R R' : α → List Value → Prop} {size : Nat} {w w' : World} {A : Option Addr} {n : Nat} {ps : List α} (h : ReadsRow R size w A n ps) (hc : ∀ a v, w.cell? a = some v → w'.cell? a = some v) (hR : ∀ p c, R p c → R' p c) : ReadsRow R' size w' A n ps := by
  obtain ⟨h1, h2, h3⟩ := h
  refine ⟨h1, h2, fun hn => ?_⟩
  obtain ⟨ad, e, h4⟩ := h3 hn
  refine ⟨ad, e, fun j p hp => ?_⟩
  obtain ⟨c, hs, hr, hcell⟩ := h4 j p hp
  exact ⟨c, hs, hR _ _ hr, fun i u hu => hc _ _ (hcell i u hu)⟩
theorem k74_any {w w' : World} {x : S74} {cs : List Value} (h : k74.K w x cs) : k74.K w' x cs := by
  obtain rfl := k74_open h
  exact k74_mk w' x
theorem Kp.signs {M : Nat} {w w' : World} {F : Furn} (h : Kp M w w') (hm : Memo w M F) {A : Option Addr} {n : Nat} {l : List S74} (hC : Kd.C k74 w A n l) : Kd.C k74 w' A n l :=
  ReadsRow.of_cells hC (fun _ _ hc => h.cell hc hm.isMap) (fun _ _ => k74_any)
theorem Kp.fu {M B : Nat} {w w' : World} {F : Furn} (h : Kp M w w') (hm : Memo w M F) (hf : Fu w B M F) : Fu w' B M F := by
  obtain ⟨A, c, h1, h2⟩ := hf
  refine ⟨A, c, h.box h1 (fun e => ?_), h.signs hm h2⟩
  obtain ⟨es, clock, hM⟩ := hm.isMap
  unfold Box at h1
  rw [e, hM] at h1
  cases h1
end Go.Proofs.YtbijamlgcebgeaaDoor.Hand

-- part HN
namespace Go.Proofs.YtbijamlgcebgeaaDoor.Hand
open Go.RowKit Go.Shelf Go.Sort Go.Proofs.YtbijamlgcebgeaaDoorW.PrintWords Go.Proofs.YtbijamlgcebgeaaDoorW.PrintMore Go.Proofs.YtbijamlgcebgeaaDoor.Q
set_option maxRecDepth 100000 in
set_option maxHeartbeats 1000000 in
theorem goes_calls (F : Furn) (hF : F.Ok) (s : Nat) (hs : s < 64) (hl' : ∀ i ∈ bitsOf s, i < F.l.length) (B M : Nat) (w : World) (hT : TabW w) (hf : Fu w B M F) (hm : Memo w M F) :
    Calls Tryd.prog 58 #[.pointer (some ⟨B, 0, none⟩), .int .u64 s] w fun e w' => e = .returned (.bool (goesB F s)) ∧ Memo w' M F ∧ Kp M w w' := by
  obtain ⟨b, ok, hrun, hok⟩ := lookup_run hm s
  have b6 : w.cell? ⟨B, 6, none⟩ = some (.map (some M)) := by obtain ⟨A, c, hB, _⟩ := hf; exact hB.cell 6 rfl
  have Hok := Lib.hid hok
  clear hok
  cases ok with
  | true =>
    obtain rfl : b = goesB F s := Hok.out rfl
    generalize goesB F s = g at *
    go_enter Tryd.func58, Tryd.ntmps58
    go_wp2
    go_ret
    exact ⟨rfl, hm, Kp.refl _ _⟩
  | false =>
    clear Hok
    have b3 : w.cell? ⟨B, 3, none⟩ = some (.int .i64 F.load) := by obtain ⟨A, c, hB, _⟩ := hf; exact hB.cell 3 rfl
    have c3 := fun (d : Nat) (os : Array Obj) => cell_regrown b3 d os
    have hfld : ∀ (x y : Int) (W : World), (Instr.field 36 (.agg #[.int .i64 x, .int .i64 y]) 1).run Tryd.prog W = .ok (.int .i64 y) W := fun _ _ _ => by rfl
    have hg : Hid (goesB F s = (decide (highW F s ≤ F.load) && fitsB F s)) := Lib.hid rfl
    by_cases hw : highW F s ≤ F.load
    · have hd : decide (sumB (fun x => x.f2.f1) F.l (bitsOf s) ≤ F.load) = true := decide_eq_true hw
      have Hd := Lib.hid hd
      have hg2 : Hid (goesB F s = fitsB F s) := Lib.hid (by rw [hg.out, show decide (highW F s ≤ F.load) = true from Hd.out, Bool.true_and])
      clear Hd hg hw
      go_enter Tryd.func58, Tryd.ntmps58
      go_wp2
      refine wp_region_quiet_below (by kernel_rfl) (by kernel_rfl) ?_
      repeat (quiet_step ((first | (go_at_call 59; exact Calls.regrown_of (weight_calls F hF s hs hl' B M _ (hT.below (below_regrown _ _ _)) (hf.below (below_regrown _ _ _)))) | (go_at_call 60; exact Calls.regrown_of (fits_calls F hF s hs hl' B M _ (hT.below (below_regrown _ _ _)) (hf.below (below_regrown _ _ _)))))))
      refine wpQuiet_nil ?_
      rintro W2 ⟨p, rfl⟩
      have hb2 := below_regrown w p.d p.os
      clear c3 hfld hd
      generalize grow (redrawn w p.d) p.os = W2 at *
      have hm2 := hm.below hb2
      obtain ⟨W3, hrun3, hm3, hk3⟩ := update_run hm2 s hs
      rw [hg2.out] at hrun3
      have d6 : W2.cell? ⟨B, 6, none⟩ = some (.map (some M)) := by obtain ⟨A, c, hB, _⟩ := hf.below hb2; exact hB.cell 6 rfl
      clear hrun b6
      go_wp2
      go_ret
      exact ⟨ret_bool hg2.out.symm, hm3, (Kp.of_below hb2).trans hk3⟩
    · have hd : decide (sumB (fun x => x.f2.f1) F.l (bitsOf s) ≤ F.load) = false := decide_eq_false hw
      have Hd := Lib.hid hd
      have hg2 : Hid (goesB F s = false) := Lib.hid (by rw [hg.out, show decide (highW F s ≤ F.load) = false from Hd.out, Bool.false_and])
      clear Hd hg hw
      go_enter Tryd.func58, Tryd.ntmps58
      go_wp2
      refine wp_region_quiet_below (by kernel_rfl) (by kernel_rfl) ?_
      repeat (quiet_step ((first | (go_at_call 59; exact Calls.regrown_of (weight_calls F hF s hs hl' B M _ (hT.below (below_regrown _ _ _)) (hf.below (below_regrown _ _ _)))) | (go_at_call 60; exact Calls.regrown_of (fits_calls F hF s hs hl' B M _ (hT.below (below_regrown _ _ _)) (hf.below (below_regrown _ _ _)))))))
      refine wpQuiet_nil ?_
      rintro W2 ⟨p, rfl⟩
      have hb2 := below_regrown w p.d p.os
      clear c3 hfld hd
      generalize grow (redrawn w p.d) p.os = W2 at *
      have hm2 := hm.below hb2
      obtain ⟨W3, hrun3, hm3, hk3⟩ := update_run hm2 s hs
      rw [hg2.out] at hrun3
      have d6 : W2.cell? ⟨B, 6, none⟩ = some (.map (some M)) := by obtain ⟨A, c, hB, _⟩ := hf.below hb2; exact hB.cell 6 rfl
      clear hrun b6
      go_wp2
      go_ret
      exact ⟨ret_bool hg2.out.symm, hm3, (Kp.of_below hb2).trans hk3⟩
end Go.Proofs.YtbijamlgcebgeaaDoor.Hand

-- part HC
namespace Go.Proofs.YtbijamlgcebgeaaDoor.Hand
open Go.RowKit Go.Proofs.YtbijamlgcebgeaaDoorW.PrintWords Go.Proofs.YtbijamlgcebgeaaDoor.Q
theorem check1_calls (x : S74) (w : World) :
    Calls Tryd.prog 55 #[vS74 x] w fun e w' => e = .returned (.bool (!signB x)) ∧ Below w.heap.size w w' := by
  go_enter Tryd.func55, Tryd.ntmps55
  go_wp2_with (go_at_call 56; refine (isSign_calls x _).mono ?_; rintro e w1 ⟨rfl, hb1⟩)
  go_ret
  exact ⟨ret_bool rfl, ((Below.refl _ _).alloc (Nat.le_refl _) _).trans (hb1.mono (by simp))⟩
def findS (p : S74 → Bool) : List S74 → Int → Int
  | [], _ => -1
  | x :: xs, i => if p x then i else findS p xs (i + 1)
theorem findS_drop (p : S74 → Bool) (xs : List S74) (k : Nat) (h : k < xs.length) : findS p (xs.drop k) k = if p (rd_T74 xs k) then (k : Int) else findS p (xs.drop (k + 1)) ((k + 1 : Nat) : Int) := by
  rw [List.drop_eq_getElem_cons h]
  simp only [findS]
  rw [show rd_T74 xs (k : Int) = xs[k] from by simp [rd_T74, List.getD_eq_getElem?_getD, List.getElem?_eq_getElem h]]
  rfl
theorem findS_iff (p : S74 → Bool) (xs : List S74) : ∀ i : Int, 0 ≤ i → (0 ≤ findS p xs i ↔ xs.any p = true) := by
  induction xs with
  | nil => intro i _; simp [findS]
  | cons x xs ih =>
    intro i hi
    unfold findS
    rw [List.any_cons]
    by_cases hp : p x = true
    · rw [if_pos hp, hp]
      simp [hi]
    · rw [if_neg hp, Bool.eq_false_iff.mpr hp, Bool.false_or]
      exact ih (i + 1) (by omega)
theorem findS_any (p : S74 → Bool) (xs : List S74) : decide (0 ≤ findS p xs 0) = xs.any p := by
  rw [Bool.eq_iff_iff, decide_eq_true_iff]
  exact findS_iff p xs 0 (Int.le_refl 0)
theorem indexS_calls (xs : List S74) (A : Option Addr) (c : Nat) (w : World) (hr : Kd.C k74 w A xs.length xs) :
    Calls Tryd.prog 88 #[.slice A xs.length c, .func (.func 55) #[] #[]] w fun e w' => e = .returned (.int .i64 (findS (fun x => !signB x) xs 0)) ∧ Below w.heap.size w w' := by
  have hm := hr.2.1
  go_enter Tryd.func88, Tryd.ntmps88
  go_wp2
  go_loopw [5, 8] (fun v i w' => ∃ k : Nat, k ≤ xs.length ∧ i = .int .i64 k ∧ Hid (findS (fun x => !signB x) xs 0 = findS (fun x => !signB x) (xs.drop k) k) ∧ Below w.heap.size w w') (fun _ i _ => xs.length - (intOf i).toNat)
  case atStart => exact ⟨0, Nat.zero_le _, rfl, rfl, Below.refl _ _⟩
  case round =>
    obtain ⟨k, hk, rfl, hf, hB⟩ := hrel
    by_cases hlt : k < xs.length
    · obtain ⟨ad, e, h0, h1, h2, h3, h4, h5⟩ := at_T74 (Kd.C_below hr hB) k (by omega) (by omega)
      subst e
      rw [Int.toNat_natCast] at h0 h1 h2 h3 h4 h5
      have hd := Lib.hid (findS_drop (fun x => !signB x) xs k hlt)
      obtain ⟨s, hs⟩ : ∃ s, signB (rd_T74 xs k) = s := ⟨_, rfl⟩
      have Hs := Lib.hid hs
      clear hs
      cases s
      all_goals
        go_wp2_with fail
        refine (check1_calls (rd_T74 xs k) _).mono ?_
        rintro e w1 ⟨rfl, hb1⟩
        rw [Hs.out]
        have hB1 : Below w.heap.size w w1 := hB.trans (hb1.mono hB.size)
        go_wp2
      · go_ret
        exact ⟨ret_int (by rw [hf.out, hd.out, Hs.out]; rfl), hB1⟩
      · go_roundw
        case rel => exact ⟨k + 1, by omega, by go_num, Lib.hid (by rw [hf.out, hd.out, Hs.out]; rfl), hB1⟩
        case measure => simp [intOf]; omega
    · go_wp2
      go_ret
      exact ⟨ret_int (by rw [hf.out, List.drop_eq_nil_of_le (by omega)]; rfl), hB⟩
theorem containsS_calls (xs : List S74) (A : Option Addr) (c : Nat) (w : World) (hr : Kd.C k74 w A xs.length xs) :
    Calls Tryd.prog 54 #[.slice A xs.length c, .func (.func 55) #[] #[]] w fun e w' => e = .returned (.bool (xs.any (fun x => !signB x))) ∧ Below w.heap.size w w' := by
  have hq := Lib.hid (findS_any (fun x => !signB x) xs)
  go_enter Tryd.func54, Tryd.ntmps54
  go_wp2_with (go_at_call 88; refine (indexS_calls xs A c _ hr).mono ?_; rintro e w' ⟨rfl, hbl⟩)
  go_ret
  exact ⟨ret_bool hq.out, hbl⟩
def rulesB (a b c d e : Int) : Bool := allIn 1 3 [a] && allIn 1 200 [b] && allIn 0 20 [c] && allIn 1 2000 [d] && allIn 0 100 [e]
def checkF (a b c d e : Int) (l : List S74) : Int :=
  if rulesB a b c d e = true then (if 6 < l.length then 5 else if l.any (fun x => !signB x) = true then 2 else 0) else 4
set_option maxHeartbeats 4000000 in
theorem check_calls (a b c d e : Int) (l : List S74) (A : Option Addr) (cp : Nat) (w : World) (hr : Kd.C k74 w A l.length l) :
    Calls Tryd.prog 16 #[.agg #[.int .i64 a, .int .i64 b, .int .i64 c, .int .i64 d, .int .i64 e], .slice A l.length cp] w fun e_ w' => e_ = .returned (.int .i64 (checkF a b c d e l)) ∧ Below w.heap.size w w' := by
  obtain ⟨c1, b1⟩ : ∃ c_, allIn 1 3 [a] = c_ := ⟨_, rfl⟩
  obtain ⟨c2, b2⟩ : ∃ c_, allIn 1 200 [b] = c_ := ⟨_, rfl⟩
  obtain ⟨c3, b3⟩ : ∃ c_, allIn 0 20 [c] = c_ := ⟨_, rfl⟩
  obtain ⟨c4, b4⟩ : ∃ c_, allIn 1 2000 [d] = c_ := ⟨_, rfl⟩
  obtain ⟨c5, b5⟩ : ∃ c_, allIn 0 100 [e] = c_ := ⟨_, rfl⟩
  have hs : checkF a b c d e l = if (c1 && c2 && c3 && c4 && c5) = true then (if 6 < l.length then 5 else if l.any (fun x => !signB x) = true then 2 else 0) else 4 := by rw [← b1, ← b2, ← b3, ← b4, ← b5]; rfl
  rw [hs]
  clear hs
  cases c1
  · go_enter Tryd.func16, Tryd.ntmps16
    go_wp2_with fail
    refine (within_calls 1 3 [a] _ 1 _ (C_new1 _ _ _ _ (by simp))).mono ?_
    rintro e_ w1 ⟨rfl, hb1⟩
    rw [b1]
    have bx1 : Box w1 w.heap.size _ 23 := ((Box.new w _ _).alloc _).step hb1
    have hB1 : Below w.heap.size w w1 := (((Below.refl _ _).alloc (Nat.le_refl _) _).alloc (by simp) _).trans (hb1.mono (by simp; omega))
    clear hb1
    have k1 := bx1.cell 1 rfl
    go_wp2
    go_ret
    exact ⟨ret_int (by simp), hB1⟩
  · cases c2
    · go_enter Tryd.func16, Tryd.ntmps16
      go_wp2_with fail
      refine (within_calls 1 3 [a] _ 1 _ (C_new1 _ _ _ _ (by simp))).mono ?_
      rintro e_ w1 ⟨rfl, hb1⟩
      rw [b1]
      have bx1 : Box w1 w.heap.size _ 23 := ((Box.new w _ _).alloc _).step hb1
      have hB1 : Below w.heap.size w w1 := (((Below.refl _ _).alloc (Nat.le_refl _) _).alloc (by simp) _).trans (hb1.mono (by simp; omega))
      clear hb1
      have k1 := bx1.cell 1 rfl
      go_wp2_with fail
      refine (within_calls 1 200 [b] _ 1 _ (C_new1 _ _ _ _ rfl)).mono ?_
      rintro e_ w2 ⟨rfl, hb2⟩
      rw [b2]
      have bx2 := (bx1.alloc _).step hb2
      have hB2 : Below w.heap.size w w2 := hB1.trans (((Below.refl _ _).alloc hB1.size _).trans (hb2.mono (by have := hB1.size; simp; omega)))
      clear k1 bx1 hB1
      clear hb2
      have k2 := bx2.cell 2 rfl
      go_wp2
      go_ret
      exact ⟨ret_int (by simp), hB2⟩
    · cases c3
      · go_enter Tryd.func16, Tryd.ntmps16
        go_wp2_with fail
        refine (within_calls 1 3 [a] _ 1 _ (C_new1 _ _ _ _ (by simp))).mono ?_
        rintro e_ w1 ⟨rfl, hb1⟩
        rw [b1]
        have bx1 : Box w1 w.heap.size _ 23 := ((Box.new w _ _).alloc _).step hb1
        have hB1 : Below w.heap.size w w1 := (((Below.refl _ _).alloc (Nat.le_refl _) _).alloc (by simp) _).trans (hb1.mono (by simp; omega))
        clear hb1
        have k1 := bx1.cell 1 rfl
        go_wp2_with fail
        refine (within_calls 1 200 [b] _ 1 _ (C_new1 _ _ _ _ rfl)).mono ?_
        rintro e_ w2 ⟨rfl, hb2⟩
        rw [b2]
        have bx2 := (bx1.alloc _).step hb2
        have hB2 : Below w.heap.size w w2 := hB1.trans (((Below.refl _ _).alloc hB1.size _).trans (hb2.mono (by have := hB1.size; simp; omega)))
        clear k1 bx1 hB1
        clear hb2
        have k2 := bx2.cell 2 rfl
        go_wp2_with fail
        refine (within_calls 0 20 [c] _ 1 _ (C_new1 _ _ _ _ rfl)).mono ?_
        rintro e_ w3 ⟨rfl, hb3⟩
        rw [b3]
        have bx3 := (bx2.alloc _).step hb3
        have hB3 : Below w.heap.size w w3 := hB2.trans (((Below.refl _ _).alloc hB2.size _).trans (hb3.mono (by have := hB2.size; simp; omega)))
        clear k2 bx2 hB2
        clear hb3
        have k3 := bx3.cell 3 rfl
        go_wp2
        go_ret
        exact ⟨ret_int (by simp), hB3⟩
      · cases c4
        · go_enter Tryd.func16, Tryd.ntmps16
          go_wp2_with fail
          refine (within_calls 1 3 [a] _ 1 _ (C_new1 _ _ _ _ (by simp))).mono ?_
          rintro e_ w1 ⟨rfl, hb1⟩
          rw [b1]
          have bx1 : Box w1 w.heap.size _ 23 := ((Box.new w _ _).alloc _).step hb1
          have hB1 : Below w.heap.size w w1 := (((Below.refl _ _).alloc (Nat.le_refl _) _).alloc (by simp) _).trans (hb1.mono (by simp; omega))
          clear hb1
          have k1 := bx1.cell 1 rfl
          go_wp2_with fail
          refine (within_calls 1 200 [b] _ 1 _ (C_new1 _ _ _ _ rfl)).mono ?_
          rintro e_ w2 ⟨rfl, hb2⟩
          rw [b2]
          have bx2 := (bx1.alloc _).step hb2
          have hB2 : Below w.heap.size w w2 := hB1.trans (((Below.refl _ _).alloc hB1.size _).trans (hb2.mono (by have := hB1.size; simp; omega)))
          clear k1 bx1 hB1
          clear hb2
          have k2 := bx2.cell 2 rfl
          go_wp2_with fail
          refine (within_calls 0 20 [c] _ 1 _ (C_new1 _ _ _ _ rfl)).mono ?_
          rintro e_ w3 ⟨rfl, hb3⟩
          rw [b3]
          have bx3 := (bx2.alloc _).step hb3
          have hB3 : Below w.heap.size w w3 := hB2.trans (((Below.refl _ _).alloc hB2.size _).trans (hb3.mono (by have := hB2.size; simp; omega)))
          clear k2 bx2 hB2
          clear hb3
          have k3 := bx3.cell 3 rfl
          go_wp2_with fail
          refine (within_calls 1 2000 [d] _ 1 _ (C_new1 _ _ _ _ rfl)).mono ?_
          rintro e_ w4 ⟨rfl, hb4⟩
          rw [b4]
          have bx4 := (bx3.alloc _).step hb4
          have hB4 : Below w.heap.size w w4 := hB3.trans (((Below.refl _ _).alloc hB3.size _).trans (hb4.mono (by have := hB3.size; simp; omega)))
          clear k3 bx3 hB3
          clear hb4
          have k4 := bx4.cell 4 rfl
          go_wp2
          go_ret
          exact ⟨ret_int (by simp), hB4⟩
        · cases c5
          · go_enter Tryd.func16, Tryd.ntmps16
            go_wp2_with fail
            refine (within_calls 1 3 [a] _ 1 _ (C_new1 _ _ _ _ (by simp))).mono ?_
            rintro e_ w1 ⟨rfl, hb1⟩
            rw [b1]
            have bx1 : Box w1 w.heap.size _ 23 := ((Box.new w _ _).alloc _).step hb1
            have hB1 : Below w.heap.size w w1 := (((Below.refl _ _).alloc (Nat.le_refl _) _).alloc (by simp) _).trans (hb1.mono (by simp; omega))
            clear hb1
            have k1 := bx1.cell 1 rfl
            go_wp2_with fail
            refine (within_calls 1 200 [b] _ 1 _ (C_new1 _ _ _ _ rfl)).mono ?_
            rintro e_ w2 ⟨rfl, hb2⟩
            rw [b2]
            have bx2 := (bx1.alloc _).step hb2
            have hB2 : Below w.heap.size w w2 := hB1.trans (((Below.refl _ _).alloc hB1.size _).trans (hb2.mono (by have := hB1.size; simp; omega)))
            clear k1 bx1 hB1
            clear hb2
            have k2 := bx2.cell 2 rfl
            go_wp2_with fail
            refine (within_calls 0 20 [c] _ 1 _ (C_new1 _ _ _ _ rfl)).mono ?_
            rintro e_ w3 ⟨rfl, hb3⟩
            rw [b3]
            have bx3 := (bx2.alloc _).step hb3
            have hB3 : Below w.heap.size w w3 := hB2.trans (((Below.refl _ _).alloc hB2.size _).trans (hb3.mono (by have := hB2.size; simp; omega)))
            clear k2 bx2 hB2
            clear hb3
            have k3 := bx3.cell 3 rfl
            go_wp2_with fail
            refine (within_calls 1 2000 [d] _ 1 _ (C_new1 _ _ _ _ rfl)).mono ?_
            rintro e_ w4 ⟨rfl, hb4⟩
            rw [b4]
            have bx4 := (bx3.alloc _).step hb4
            have hB4 : Below w.heap.size w w4 := hB3.trans (((Below.refl _ _).alloc hB3.size _).trans (hb4.mono (by have := hB3.size; simp; omega)))
            clear k3 bx3 hB3
            clear hb4
            have k4 := bx4.cell 4 rfl
            go_wp2_with fail
            refine (within_calls 0 100 [e] _ 1 _ (C_new1 _ _ _ _ rfl)).mono ?_
            rintro e_ w5 ⟨rfl, hb5⟩
            rw [b5]
            have bx5 := (bx4.alloc _).step hb5
            have hB5 : Below w.heap.size w w5 := hB4.trans (((Below.refl _ _).alloc hB4.size _).trans (hb5.mono (by have := hB4.size; simp; omega)))
            clear k4 bx4 hB4
            clear hb5
            go_wp2
            go_ret
            exact ⟨ret_int (by simp), hB5⟩
          · by_cases hl : 6 < l.length
            · have hl1 : decide (6 < l.length) = true := decide_eq_true hl
              go_enter Tryd.func16, Tryd.ntmps16
              go_wp2_with fail
              refine (within_calls 1 3 [a] _ 1 _ (C_new1 _ _ _ _ (by simp))).mono ?_
              rintro e_ w1 ⟨rfl, hb1⟩
              rw [b1]
              have bx1 : Box w1 w.heap.size _ 23 := ((Box.new w _ _).alloc _).step hb1
              have hB1 : Below w.heap.size w w1 := (((Below.refl _ _).alloc (Nat.le_refl _) _).alloc (by simp) _).trans (hb1.mono (by simp; omega))
              clear hb1
              have k1 := bx1.cell 1 rfl
              go_wp2_with fail
              refine (within_calls 1 200 [b] _ 1 _ (C_new1 _ _ _ _ rfl)).mono ?_
              rintro e_ w2 ⟨rfl, hb2⟩
              rw [b2]
              have bx2 := (bx1.alloc _).step hb2
              have hB2 : Below w.heap.size w w2 := hB1.trans (((Below.refl _ _).alloc hB1.size _).trans (hb2.mono (by have := hB1.size; simp; omega)))
              clear k1 bx1 hB1
              clear hb2
              have k2 := bx2.cell 2 rfl
              go_wp2_with fail
              refine (within_calls 0 20 [c] _ 1 _ (C_new1 _ _ _ _ rfl)).mono ?_
              rintro e_ w3 ⟨rfl, hb3⟩
              rw [b3]
              have bx3 := (bx2.alloc _).step hb3
              have hB3 : Below w.heap.size w w3 := hB2.trans (((Below.refl _ _).alloc hB2.size _).trans (hb3.mono (by have := hB2.size; simp; omega)))
              clear k2 bx2 hB2
              clear hb3
              have k3 := bx3.cell 3 rfl
              go_wp2_with fail
              refine (within_calls 1 2000 [d] _ 1 _ (C_new1 _ _ _ _ rfl)).mono ?_
              rintro e_ w4 ⟨rfl, hb4⟩
              rw [b4]
              have bx4 := (bx3.alloc _).step hb4
              have hB4 : Below w.heap.size w w4 := hB3.trans (((Below.refl _ _).alloc hB3.size _).trans (hb4.mono (by have := hB3.size; simp; omega)))
              clear k3 bx3 hB3
              clear hb4
              have k4 := bx4.cell 4 rfl
              go_wp2_with fail
              refine (within_calls 0 100 [e] _ 1 _ (C_new1 _ _ _ _ rfl)).mono ?_
              rintro e_ w5 ⟨rfl, hb5⟩
              rw [b5]
              have bx5 := (bx4.alloc _).step hb5
              have hB5 : Below w.heap.size w w5 := hB4.trans (((Below.refl _ _).alloc hB4.size _).trans (hb5.mono (by have := hB4.size; simp; omega)))
              clear k4 bx4 hB4
              clear hb5
              go_wp2
              go_ret
              exact ⟨ret_int (by simp [hl]), hB5⟩
            · have hl1 : decide (6 < l.length) = false := decide_eq_false hl
              obtain ⟨s, hsg⟩ : ∃ s, l.any (fun x => !signB x) = s := ⟨_, rfl⟩
              have Hs := Lib.hid hsg
              rw [hsg]
              clear hsg
              cases s
              all_goals
                go_enter Tryd.func16, Tryd.ntmps16
                go_wp2_with fail
                refine (within_calls 1 3 [a] _ 1 _ (C_new1 _ _ _ _ (by simp))).mono ?_
                rintro e_ w1 ⟨rfl, hb1⟩
                rw [b1]
                have bx1 : Box w1 w.heap.size _ 23 := ((Box.new w _ _).alloc _).step hb1
                have hB1 : Below w.heap.size w w1 := (((Below.refl _ _).alloc (Nat.le_refl _) _).alloc (by simp) _).trans (hb1.mono (by simp; omega))
                clear hb1
                have k1 := bx1.cell 1 rfl
                go_wp2_with fail
                refine (within_calls 1 200 [b] _ 1 _ (C_new1 _ _ _ _ rfl)).mono ?_
                rintro e_ w2 ⟨rfl, hb2⟩
                rw [b2]
                have bx2 := (bx1.alloc _).step hb2
                have hB2 : Below w.heap.size w w2 := hB1.trans (((Below.refl _ _).alloc hB1.size _).trans (hb2.mono (by have := hB1.size; simp; omega)))
                clear k1 bx1 hB1
                clear hb2
                have k2 := bx2.cell 2 rfl
                go_wp2_with fail
                refine (within_calls 0 20 [c] _ 1 _ (C_new1 _ _ _ _ rfl)).mono ?_
                rintro e_ w3 ⟨rfl, hb3⟩
                rw [b3]
                have bx3 := (bx2.alloc _).step hb3
                have hB3 : Below w.heap.size w w3 := hB2.trans (((Below.refl _ _).alloc hB2.size _).trans (hb3.mono (by have := hB2.size; simp; omega)))
                clear k2 bx2 hB2
                clear hb3
                have k3 := bx3.cell 3 rfl
                go_wp2_with fail
                refine (within_calls 1 2000 [d] _ 1 _ (C_new1 _ _ _ _ rfl)).mono ?_
                rintro e_ w4 ⟨rfl, hb4⟩
                rw [b4]
                have bx4 := (bx3.alloc _).step hb4
                have hB4 : Below w.heap.size w w4 := hB3.trans (((Below.refl _ _).alloc hB3.size _).trans (hb4.mono (by have := hB3.size; simp; omega)))
                clear k3 bx3 hB3
                clear hb4
                have k4 := bx4.cell 4 rfl
                go_wp2_with fail
                refine (within_calls 0 100 [e] _ 1 _ (C_new1 _ _ _ _ rfl)).mono ?_
                rintro e_ w5 ⟨rfl, hb5⟩
                rw [b5]
                have bx5 := (bx4.alloc _).step hb5
                have hB5 : Below w.heap.size w w5 := hB4.trans (((Below.refl _ _).alloc hB4.size _).trans (hb5.mono (by have := hB4.size; simp; omega)))
                clear k4 bx4 hB4
                clear hb5
                go_wp2_with fail
                refine (containsS_calls l A cp _ (Kd.C_below hr hB5)).mono ?_
                rintro e_ w6 ⟨rfl, hb6⟩
                rw [Hs.out]
                have hB6 : Below w.heap.size w w6 := hB5.trans (hb6.mono hB5.size)
                go_wp2
                go_ret
                exact ⟨ret_int (by simp [hl]), hB6⟩
end Go.Proofs.YtbijamlgcebgeaaDoor.Hand

-- part HO
namespace Go.Proofs.YtbijamlgcebgeaaDoor.Hand
open Go.RowKit Go.Shelf Go.Sort Go.Proofs.YtbijamlgcebgeaaDoorW.PrintWords Go.Proofs.YtbijamlgcebgeaaDoorW.PrintMore Go.Proofs.YtbijamlgcebgeaaDoor.Q
theorem allIn_one (a b x : Int) : allIn a b [x] = (decide (a ≤ x) && decide (x ≤ b)) := by
  rw [Bool.eq_iff_iff]
  simp [allIn, outB]
theorem allIn_two (a b x y : Int) : allIn a b [x, y] = (decide (a ≤ x) && decide (x ≤ b) && (decide (a ≤ y) && decide (y ≤ b))) := by
  rw [Bool.eq_iff_iff]
  simp [allIn, outB]
def mkF (a b c d e : Int) (l : List S74) : Furn := ⟨a, b, c, d, e, l⟩
theorem check_ok {a b c d e : Int} {l : List S74} (h : checkF a b c d e l = 0) : (mkF a b c d e l).Ok := by
  unfold checkF at h
  split at h
  · rename_i hr
    split at h
    · cases h
    · rename_i hl
      split at h
      · cases h
      · rename_i hs
        unfold rulesB at hr
        simp only [allIn_one, Bool.and_eq_true, decide_eq_true_eq] at hr
        refine ⟨?_, ?_, ?_, ?_, ?_, by show l.length ≤ 6; omega, ?_⟩
        · show 1 ≤ a ∧ a ≤ 3; omega
        · show 1 ≤ b ∧ b ≤ 200; omega
        · show 0 ≤ c ∧ c ≤ 20; omega
        · show 1 ≤ d ∧ d ≤ 2000; omega
        · show 0 ≤ e ∧ e ≤ 100; omega
        · intro x hx
          have hx' : signB x = true := by
            have := hs
            simp only [List.any_eq_true, not_exists, not_and] at this
            have h2 := this x hx
            simpa using h2
          unfold signB at hx'
          simp only [allIn_one, allIn_two, Bool.and_eq_true, decide_eq_true_eq] at hx'
          omega
  · cases h
/-- The signs of a load that has its form: how far it goes well, the set so far. -/
def setL (n : Nat) (load : List Int) : Nat → Nat → Nat → Option Nat
  | 0, _, s => some s
  | d + 1, k, s => if allIn 0 ((n : Int) - 1) [rd load k] = true then (if 0 < k ∧ rd load k ≤ rd load ((k : Int) - 1) then none else setL n load d (k + 1) (s ||| 2 ^ (rd load k).toNat)) else none
theorem or_bits : ∀ s : Nat, s < 64 → ∀ i : Nat, i < 6 → bits .or .u64 (s : Int) ((2 ^ i : Nat) : Int) = ((s ||| 2 ^ i : Nat) : Int) ∧ s ||| 2 ^ i < 64 := by decide +kernel
theorem or_bits2 : ∀ s : Nat, s < 64 → ∀ i : Nat, i < 6 → bits .or .u64 (s : Int) (IntKind.u64.wrap (2 ^ i)) = ((s ||| 2 ^ i : Nat) : Int) := by decide +kernel
set_option maxRecDepth 100000 in
set_option maxHeartbeats 1000000 in
theorem newF_err (a b c d e : Int) (l : List S74) (load : List Int) (A1 A2 : Option Addr) (c1 c2 : Nat) (w : World) (hr1 : Kd.C k74 w A1 l.length l) (hr2 : Kd.C (Kd.int .i64) w A2 load.length load) (he : checkF a b c d e l ≠ 0) :
    Calls Tryd.prog 57 #[.agg #[.int .i64 a, .int .i64 b, .int .i64 c, .int .i64 d, .int .i64 e], .slice A1 l.length c1, .slice A2 load.length c2] w fun e_ w' => e_ = .returned (.tuple #[.pointer none, .int .u64 0, .int .i64 (checkF a b c d e l)]) ∧ Below w.heap.size w w' := by
  have h1 : (checkF a b c d e l != 0) = true := by simp [he]
  go_enter Tryd.func57, Tryd.ntmps57
  go_wp2_with fail
  refine (check_calls a b c d e l A1 c1 _ (Kd.C_alloc hr1 _)).mono ?_
  rintro e_ w1 ⟨rfl, hb1⟩
  have hB1 : Below w.heap.size w w1 := ((Below.refl _ _).alloc (Nat.le_refl _) _).trans (hb1.mono (by simp))
  obtain ⟨ck, hck⟩ : ∃ ck, checkF a b c d e l = ck := ⟨_, rfl⟩
  rw [hck] at h1 ⊢
  have Hck := Lib.hid hck
  clear hck he
  go_wp2
  go_ret3
  exact ⟨by rw [Hck.out]; rfl, hB1⟩
theorem makeMap_run (w : World) : (Instr.makeMap 120 none).run Tryd.prog w = .ok (.map (some w.heap.size)) (w.alloc (.map #[] 0)) := by rfl
/-- The furnace that was made. -/
def Made (w w' : World) (F : Furn) (v : Value) (s : Nat) : Prop :=
  ∃ B M, v = .pointer (some ⟨B, 0, none⟩) ∧ w.heap.size ≤ B ∧ w.heap.size ≤ M ∧ Fu w' B M F ∧ Memo w' M F ∧ Below w.heap.size w w'
def NewPost (w : World) (F : Furn) (r : Option Nat) (e_ : Ending) (w' : World) : Prop :=
  match r with
  | none => e_ = .returned (.tuple #[.pointer none, .int .u64 0, .int .i64 4]) ∧ Below w.heap.size w w'
  | some s => ∃ v, e_ = .returned (.tuple #[v, .int .u64 s, .int .i64 0]) ∧ s < 64 ∧ Made w w' F v s
set_option maxRecDepth 100000 in
set_option maxHeartbeats 1000000 in
theorem newF_ok (a b c d e : Int) (l : List S74) (load : List Int) (A1 A2 : Option Addr) (c1 c2 : Nat) (w : World) (hr1 : Kd.C k74 w A1 l.length l) (hr2 : Kd.C (Kd.int .i64) w A2 load.length load) (he : checkF a b c d e l = 0) :
    Calls Tryd.prog 57 #[.agg #[.int .i64 a, .int .i64 b, .int .i64 c, .int .i64 d, .int .i64 e], .slice A1 l.length c1, .slice A2 load.length c2] w (NewPost w (mkF a b c d e l) (setL l.length load load.length 0 0)) := by
  have hF := check_ok he
  have hlen : l.length ≤ 6 := hF.len
  have hmx := makeMap_run
  have hm2 := hr2.2.1
  go_enter Tryd.func57, Tryd.ntmps57
  go_wp2_with fail
  refine (check_calls a b c d e l A1 c1 _ (Kd.C_alloc hr1 _)).mono ?_
  rintro e_ w1 ⟨rfl, hb1⟩
  rw [he]
  have bx1 : Box w1 w.heap.size #[.int .i64 a, .int .i64 b, .int .i64 c, .int .i64 d, .int .i64 e] 23 := (Box.new w _ _).step hb1
  have k0 : w1.cell? ⟨w.heap.size, 0, none⟩ = some (.int .i64 a) := bx1.cell 0 rfl
  have k1 : w1.cell? ⟨w.heap.size, 1, none⟩ = some (.int .i64 b) := bx1.cell 1 rfl
  have k2 : w1.cell? ⟨w.heap.size, 2, none⟩ = some (.int .i64 c) := bx1.cell 2 rfl
  have k3 : w1.cell? ⟨w.heap.size, 3, none⟩ = some (.int .i64 d) := bx1.cell 3 rfl
  have k4 : w1.cell? ⟨w.heap.size, 4, none⟩ = some (.int .i64 e) := bx1.cell 4 rfl
  have hB1 : Below w.heap.size w w1 := ((Below.refl _ _).alloc (Nat.le_refl _) _).trans (hb1.mono (by simp))
  clear hb1 bx1
  have k23 : Kd.C k74 w1 A1 l.length l := Kd.C_below hr1 hB1
  go_wp2
  obtain ⟨W0, hW0⟩ : ∃ W0, (w1.alloc (Obj.map #[] 0)).alloc (Obj.cells #[Value.int IntKind.i64 a, Value.int IntKind.i64 b, Value.int IntKind.i64 c, Value.int IntKind.i64 d, Value.int IntKind.i64 e, Value.slice A1 l.length c1, Value.map (some w1.heap.size)] 122) = W0 := ⟨_, rfl⟩
  rw [hW0]
  have hfu : Fu W0 (w1.heap.size + 1) w1.heap.size (mkF a b c d e l) := by
    rw [← hW0]
    exact ⟨A1, c1, Box.new' _ _ _ (by simp), Kd.C_alloc (Kd.C_alloc k23 _) _⟩
  have hme : Memo W0 w1.heap.size (mkF a b c d e l) := by
    rw [← hW0]
    refine ⟨#[], 0, (Below.heap_alloc _ _ _ (by simp)).trans (World.alloc_heap_new w1 _), fun e he => by simp at he⟩
  have hBW : Below w.heap.size w W0 := by rw [← hW0]; exact (hB1.alloc hB1.size _).alloc (by have := hB1.size; simp; omega) _
  have hsz := hB1.size
  generalize w1.heap.size = M at *
  clear hW0 k23 k0 k1 k2 k3 k4 hmx hB1 hr1
  clear w1
  go_loopw [6, 7, 25] (fun p v i W => ∃ (k s : Nat), k ≤ load.length ∧ p = .pointer (some ⟨M + 1, 0, none⟩) ∧ v = .int .u64 s ∧ i = .int .i64 k ∧ s < 64 ∧ Hid (setL l.length load load.length 0 0 = setL l.length load (load.length - k) k s) ∧ Fu W (M + 1) M (mkF a b c d e l) ∧ Memo W M (mkF a b c d e l) ∧ Below w.heap.size w W) (fun _ _ i _ => load.length - (intOf i).toNat)
  case atStart => exact ⟨0, 0, Nat.zero_le _, rfl, rfl, rfl, by omega, rfl, hfu, hme, hBW⟩
  case round =>
    clear hfu hme hBW
    obtain ⟨k, s, hk, rfl, rfl, rfl, hs, hrec, hfu, hme, hbl⟩ := hrel
    by_cases hlt : k < load.length
    · obtain ⟨ad, e', y0⟩ := Kd.at_int (Kd.C_below hr2 hbl) k (by omega) (by omega)
      subst e'
      rw [Int.toNat_natCast] at y0
      obtain ⟨x, hx⟩ : ∃ x, rd load k = x := ⟨_, rfl⟩
      rw [hx] at y0
      have hrec2 := Lib.hid (show setL l.length load load.length 0 0 = if allIn 0 ((l.length : Int) - 1) [x] = true then (if 0 < k ∧ x ≤ rd load ((k : Int) - 1) then none else setL l.length load (load.length - (k + 1)) (k + 1) (s ||| 2 ^ x.toNat)) else none from by
        rw [hrec.out, show load.length - k = (load.length - (k + 1)) + 1 by omega]
        show (if allIn 0 ((l.length : Int) - 1) [rd load k] = true then _ else _) = _
        rw [hx])
      clear hrec
      obtain ⟨g, hg⟩ : ∃ g, allIn 0 ((l.length : Int) - 1) [x] = g := ⟨_, rfl⟩
      have Hx := Lib.hid hx
      have Hg := Lib.hid hg
      clear hx hg
      cases g
      · go_wp2_with fail
        refine (within_calls 0 ((l.length : Int) - 1) [x] _ 1 _ (C_new1 _ _ _ _ rfl)).mono ?_
        rintro e_ w2 ⟨rfl, hb2⟩
        rw [Hg.out]
        go_wp2
        go_ret3
        rw [hrec2.out, if_neg (by rw [Hg.out]; simp)]
        exact ⟨rfl, hbl.trans (((Below.refl _ _).alloc hbl.size _).trans (hb2.mono (by have := hbl.size; simp; omega)))⟩
      · have hxr : 0 ≤ x ∧ x ≤ (l.length : Int) - 1 := by
          have := Hg.out
          rw [allIn_one] at this
          simpa using this
        obtain ⟨xn, rfl⟩ : ∃ n : Nat, x = n := ⟨x.toNat, by omega⟩
        have hx6 : xn < 6 := by omega
        by_cases h0 : k = 0
        · have h01 : decide (0 < k) = false := by simp; omega
          have hrec3 := Lib.hid (show setL l.length load load.length 0 0 = setL l.length load (load.length - (k + 1)) (k + 1) (s ||| 2 ^ xn) from by rw [hrec2.out, if_pos Hg.out, if_neg (by omega), Int.toNat_natCast])
          clear hrec2 h0
          go_wp2_with fail
          refine (within_calls 0 ((l.length : Int) - 1) [(xn : Int)] _ 1 _ (C_new1 _ _ _ _ rfl)).mono ?_
          rintro e_ w2 ⟨rfl, hb2⟩
          rw [Hg.out]
          have hbl2 : Below w.heap.size w w2 := hbl.trans (((Below.refl _ _).alloc hbl.size _).trans (hb2.mono (by have := hbl.size; simp; omega)))
          have hb3 : Below wr.heap.size wr w2 := ((Below.refl _ _).alloc (Nat.le_refl _) _).trans (hb2.mono (by simp))
          go_wp2
          go_roundw
          case rel => exact ⟨k + 1, s ||| 2 ^ xn, by omega, rfl, by rw [or_bits2 s hs xn hx6], by go_num, (or_bits s hs xn hx6).2, hrec3, hfu.below hb3, hme.below hb3, hbl2⟩
          case measure => simp [intOf]; omega
        · have h01 : decide (0 < k) = true := by simp; omega
          obtain ⟨z, hz⟩ : ∃ z, rd load ((k : Int) - 1) = z := ⟨_, rfl⟩
          rw [hz] at hrec2
          by_cases hle : (xn : Int) ≤ z
          · have h02 : decide ((xn : Int) ≤ z) = true := decide_eq_true hle
            have hrec3 := Lib.hid (show setL l.length load load.length 0 0 = none from by rw [hrec2.out, if_pos Hg.out, if_pos ⟨by omega, hle⟩])
            have Hz := Lib.hid hz
            clear hrec2 hz
            go_wp2_with fail
            refine (within_calls 0 ((l.length : Int) - 1) [(xn : Int)] _ 1 _ (C_new1 _ _ _ _ rfl)).mono ?_
            rintro e_ w2 ⟨rfl, hb2⟩
            rw [Hg.out]
            have hbl2 : Below w.heap.size w w2 := hbl.trans (((Below.refl _ _).alloc hbl.size _).trans (hb2.mono (by have := hbl.size; simp; omega)))
            obtain ⟨ad', e', y1⟩ := Kd.at_int (Kd.C_below hr2 hbl2) ((k : Int) - 1) (by omega) (by omega)
            cases e'
            rw [Hz.out, show ((k : Int) - 1).toNat = k - 1 by omega] at y1
            go_wp2
            go_ret3
            rw [hrec3.out]
            exact ⟨rfl, hbl2⟩
          · have h02 : decide ((xn : Int) ≤ z) = false := decide_eq_false hle
            have hrec3 := Lib.hid (show setL l.length load load.length 0 0 = setL l.length load (load.length - (k + 1)) (k + 1) (s ||| 2 ^ xn) from by rw [hrec2.out, if_pos Hg.out, if_neg (fun h => hle h.2), Int.toNat_natCast])
            have Hz := Lib.hid hz
            clear hrec2 hz
            go_wp2_with fail
            refine (within_calls 0 ((l.length : Int) - 1) [(xn : Int)] _ 1 _ (C_new1 _ _ _ _ rfl)).mono ?_
            rintro e_ w2 ⟨rfl, hb2⟩
            rw [Hg.out]
            have hbl2 : Below w.heap.size w w2 := hbl.trans (((Below.refl _ _).alloc hbl.size _).trans (hb2.mono (by have := hbl.size; simp; omega)))
            obtain ⟨ad', e', y1⟩ := Kd.at_int (Kd.C_below hr2 hbl2) ((k : Int) - 1) (by omega) (by omega)
            cases e'
            rw [Hz.out, show ((k : Int) - 1).toNat = k - 1 by omega] at y1
            have hb3 : Below wr.heap.size wr w2 := ((Below.refl _ _).alloc (Nat.le_refl _) _).trans (hb2.mono (by simp))
            go_wp2
            go_roundw
            case rel => exact ⟨k + 1, s ||| 2 ^ xn, by omega, rfl, by rw [or_bits2 s hs xn hx6], by go_num, (or_bits s hs xn hx6).2, hrec3, hfu.below hb3, hme.below hb3, hbl2⟩
            case measure => simp [intOf]; omega
    · go_wp2
      go_ret3
      rw [hrec.out, show load.length - k = 0 by omega]
      exact ⟨_, rfl, hs, M + 1, M, rfl, by omega, by omega, hfu, hme, hbl⟩
end Go.Proofs.YtbijamlgcebgeaaDoor.Hand

-- part HP
namespace Go.Proofs.YtbijamlgcebgeaaDoor.Hand
open Go.RowKit Go.Shelf Go.Sort Go.Proofs.YtbijamlgcebgeaaDoorW.PrintWords Go.Proofs.YtbijamlgcebgeaaDoorW.PrintMore Go.Proofs.YtbijamlgcebgeaaDoor.Q
/-- What newFurnace answers: an error, or a set. -/
def newR (a b c d e : Int) (l : List S74) (load : List Int) : Except Int Nat :=
  if checkF a b c d e l = 0 then (match setL l.length load load.length 0 0 with
    | none => .error 4
    | some s => .ok s) else .error (checkF a b c d e l)
def NewP (w : World) (F : Furn) (r : Except Int Nat) (e_ : Ending) (w' : World) : Prop :=
  match r with
  | .error x => e_ = .returned (.tuple #[.pointer none, .int .u64 0, .int .i64 x]) ∧ Below w.heap.size w w'
  | .ok s => ∃ v, e_ = .returned (.tuple #[v, .int .u64 s, .int .i64 0]) ∧ s < 64 ∧ Made w w' F v s
theorem newR_err {a b c d e : Int} {l : List S74} {load : List Int} {x : Int} (h : newR a b c d e l load = .error x) : x ≠ 0 := by
  unfold newR at h
  split at h
  · split at h
    · cases h; omega
    · cases h
  · cases h; assumption
theorem newR_ok {a b c d e : Int} {l : List S74} {load : List Int} {s : Nat} (h : newR a b c d e l load = .ok s) : checkF a b c d e l = 0 ∧ setL l.length load load.length 0 0 = some s := by
  unfold newR at h
  split at h
  · split at h
    · cases h
    · rename_i h1 _ _ h2
      cases h
      exact ⟨h1, h2⟩
  · cases h
theorem new_calls (a b c d e : Int) (l : List S74) (load : List Int) (A1 A2 : Option Addr) (c1 c2 : Nat) (w : World) (hr1 : Kd.C k74 w A1 l.length l) (hr2 : Kd.C (Kd.int .i64) w A2 load.length load) :
    Calls Tryd.prog 57 #[.agg #[.int .i64 a, .int .i64 b, .int .i64 c, .int .i64 d, .int .i64 e], .slice A1 l.length c1, .slice A2 load.length c2] w (NewP w (mkF a b c d e l) (newR a b c d e l load)) := by
  unfold newR
  split
  · rename_i h
    refine (newF_ok a b c d e l load A1 A2 c1 c2 w hr1 hr2 h).mono fun e_ w' hp => ?_
    unfold NewPost at hp
    split <;> simp_all [NewP]
  · rename_i h
    exact newF_err a b c d e l load A1 A2 c1 c2 w hr1 hr2 h
theorem mem_bitsOf {s i : Nat} : i ∈ bitsOf s ↔ i < 6 ∧ s.testBit i = true := by simp [bitsOf]
theorem setL_bits {n : Nat} {load : List Int} (hn : n ≤ 6) : ∀ (d k s0 s : Nat), setL n load d k s0 = some s → (∀ i ∈ bitsOf s0, i < n) → ∀ i ∈ bitsOf s, i < n := by
  intro d
  induction d with
  | zero => intro k s0 s h h0; cases h; exact h0
  | succ d ih =>
    intro k s0 s h h0
    unfold setL at h
    split at h
    · rename_i ha
      split at h
      · cases h
      · refine ih _ _ _ h ?_
        rw [allIn_one] at ha
        simp only [Bool.and_eq_true, decide_eq_true_eq] at ha
        intro i hi
        rw [mem_bitsOf, Nat.testBit_or, Bool.or_eq_true] at hi
        rcases hi.2 with h1 | h1
        · exact h0 i (mem_bitsOf.2 ⟨hi.1, h1⟩)
        · rw [Nat.testBit_two_pow] at h1
          have : (rd load k).toNat = i := by simpa using h1
          omega
    · cases h
theorem newR_bits {a b c d e : Int} {l : List S74} {load : List Int} {s : Nat} (h : newR a b c d e l load = .ok s) : ∀ i ∈ bitsOf s, i < l.length :=
  setL_bits (check_ok (newR_ok h).1).len _ _ _ _ (newR_ok h).2 (by simp [bitsOf])
/-- A world that the furnace's calls may leave. -/
structure KW (M : Nat) (F : Furn) (w : World) where
  W : World
  k : Kp M w W
  m : Memo W M F
theorem KW.start {M : Nat} {F : Furn} {w : World} (h : Memo w M F) : ∃ p : KW M F w, ({ w with drawn := w.drawn + 1 } : World) = p.W := ⟨⟨w.drew, ⟨rfl, rfl, rfl, Nat.le_refl _, fun _ _ _ => rfl⟩, h⟩, rfl⟩
theorem KW.calls_below {M : Nat} {F : Furn} {w : World} {p : KW M F w} {f : FuncId} {args : Array Value} {v : Value} (h : Calls Tryd.prog f args p.W fun e w' => e = .returned v ∧ Below p.W.heap.size p.W w') :
    Calls Tryd.prog f args p.W fun e w' => e = .returned v ∧ ∃ q : KW M F w, w' = q.W := h.mono fun e w' ⟨he, hb⟩ => ⟨he, ⟨w', p.k.trans (.of_below hb), p.m.below hb⟩, rfl⟩
theorem KW.calls_kp {M : Nat} {F : Furn} {w : World} {p : KW M F w} {f : FuncId} {args : Array Value} {v : Value} (h : Calls Tryd.prog f args p.W fun e w' => e = .returned v ∧ Memo w' M F ∧ Kp M p.W w') :
    Calls Tryd.prog f args p.W fun e w' => e = .returned v ∧ ∃ q : KW M F w, w' = q.W := h.mono fun e w' ⟨he, hm, hk⟩ => ⟨he, ⟨w', p.k.trans hk, hm⟩, rfl⟩
theorem wp_region_kw {M : Nat} {F : Furn} {id : Nat} {Q : Exit → Act → World → Prop} {a : Act} {w : World} {l : List Oper} (h0 : Memo w M F) (hm : Tryd.prog.follows .mixedOrders = true) (hB : Region.lexB .any l.toArray = true)
    (h : wpQuiet Tryd.prog l.toArray (fun w' => ∃ p : KW M F w, w' = p.W) (fun a' => ∀ w', (∃ p : KW M F w, w' = p.W) → Q .normal a' w') l a) : (Code.region id l.toArray true).wp Tryd.prog Q a w :=
  wp_region_quiet (C := fun w' => ∃ p : KW M F w, w' = p.W) hm hB (KW.start h0) (by simpa using h)
theorem Below.kp {n M : Nat} {w w1 W : World} (h : Below n w w1) (k : Kp M w1 W) (hM : n ≤ M) (hn : n ≤ w1.heap.size) : Below n w W :=
  ⟨k.os.trans h.os, k.tape.trans h.tape, k.output.trans h.output, Nat.le_trans h.size k.size, fun i hi => (k.block i (by omega) (by omega)).trans (h.block i hi)⟩
/-- What Goes returns. -/
def goesR (a b c d e : Int) (l : List S74) (load : List Int) : Bool × Bool × Int :=
  match newR a b c d e l load with
  | .error x => (false, false, x)
  | .ok s => (goesB (mkF a b c d e l) s, decide (sumB (fun x => x.f2.f0) l (bitsOf s) ≤ d) && fitsB (mkF a b c d e l) s, 0)
set_option maxRecDepth 100000 in
set_option maxHeartbeats 1000000 in
theorem goes_exp (a b c d e : Int) (l : List S74) (load : List Int) (A1 A2 : Option Addr) (c1 c2 : Nat) (w : World) (hT : TabW w) (hr1 : Kd.C k74 w A1 l.length l) (hr2 : Kd.C (Kd.int .i64) w A2 load.length load) :
    Calls Tryd.prog 17 #[.agg #[.int .i64 a, .int .i64 b, .int .i64 c, .int .i64 d, .int .i64 e], .slice A1 l.length c1, .slice A2 load.length c2] w fun e_ w' => e_ = .returned (.tuple #[.bool (goesR a b c d e l load).1, .bool (goesR a b c d e l load).2.1, .int .i64 (goesR a b c d e l load).2.2]) ∧ Below w.heap.size w w' := by
  obtain ⟨r, hr⟩ : ∃ r, newR a b c d e l load = r := ⟨_, rfl⟩
  have hbox := Box.new w #[.int .i64 a, .int .i64 b, .int .i64 c, .int .i64 d, .int .i64 e] 23
  have hnew := new_calls a b c d e l load A1 A2 c1 c2 (w.alloc (.cells #[.int .i64 a, .int .i64 b, .int .i64 c, .int .i64 d, .int .i64 e] 23)) (Kd.C_alloc hr1 _) (Kd.C_alloc hr2 _)
  rw [hr] at hnew
  have Hnew := Lib.hid hnew
  clear hnew
  cases r with
  | error x =>
    have hx := newR_err hr
    have h1 : (x != 0) = true := by simp [hx]
    have hg : Hid (goesR a b c d e l load = (false, false, x)) := Lib.hid (by unfold goesR; rw [hr])
    rw [hg.out]
    clear hg hr hx
    go_enter Tryd.func17, Tryd.ntmps17
    go_wp2_with fail
    refine Hnew.out.mono ?_
    rintro e_ w1 ⟨rfl, hb1⟩
    go_wp2
    go_ret3
    exact ⟨rfl, ((Below.refl _ _).alloc (Nat.le_refl _) _).trans (hb1.mono (by simp))⟩
  | ok s =>
    have hbits := newR_bits hr
    have hF := check_ok (newR_ok hr).1
    have hg : Hid (goesR a b c d e l load = (goesB (mkF a b c d e l) s, decide (sumB (fun x => x.f2.f0) l (bitsOf s) ≤ d) && fitsB (mkF a b c d e l) s, 0)) := Lib.hid (by unfold goesR; rw [hr])
    rw [hg.out]
    clear hg hr
    go_enter Tryd.func17, Tryd.ntmps17
    go_wp2_with fail
    refine Hnew.out.mono ?_
    rintro e_ w1 ⟨v, rfl, hs, B, M, rfl, hB, hM, hfu, hme, hb1⟩
    have bx := hbox.step hb1
    have hB1 : Below w.heap.size w w1 := ((Below.refl _ _).alloc (Nat.le_refl _) _).trans (hb1.mono (by simp))
    have hT1 : TabW w1 := (hT.alloc _).below hb1
    have b3 : w1.cell? ⟨w.heap.size, 3, none⟩ = some (.int .i64 d) := bx.cell 3 rfl
    have c3 : ∀ p : KW M (mkF a b c d e l) w1, p.W.cell? ⟨w.heap.size, 3, none⟩ = some (.int .i64 d) := fun p => p.k.cell b3 hme.isMap
    have hne : Nonempty (KW M (mkF a b c d e l) w1) := ⟨⟨w1, Kp.refl _ _, hme⟩⟩
    have hfld : ∀ (x y : Int) (W : World), (Instr.field 36 (.agg #[.int .i64 x, .int .i64 y]) 0).run Tryd.prog W = .ok (.int .i64 x) W := fun _ _ _ => by rfl
    obtain ⟨g, hg⟩ : ∃ g, decide (sumB (fun x => x.f2.f0) l (bitsOf s) ≤ d) = g := ⟨_, rfl⟩
    have hg2 : decide (sumB (fun x => x.f2.f0) (mkF a b c d e l).l (bitsOf s) ≤ d) = g := hg
    have HG := Lib.hid hg
    clear hg
    cases g
    all_goals
      go_wp2
      refine wp_region_kw hme (by kernel_rfl) (by kernel_rfl) ?_
      repeat (quiet_step ((first | (go_at_call 58; exact KW.calls_kp (goes_calls _ hF s hs hbits B M _ (KW.k ‹_› |>.tab hme hT1) (KW.k ‹_› |>.fu hme hfu) (KW.m ‹_›))) | (go_at_call 59; exact KW.calls_below (weight_calls _ hF s hs hbits B M _ (KW.k ‹_› |>.tab hme hT1) (KW.k ‹_› |>.fu hme hfu))) | (go_at_call 60; exact KW.calls_below (fits_calls _ hF s hs hbits B M _ (KW.k ‹_› |>.tab hme hT1) (KW.k ‹_› |>.fu hme hfu))))))
      refine wpQuiet_nil ?_
      rintro W2 ⟨p, rfl⟩
      go_wp2
      go_ret3
      exact ⟨by rw [HG.out]; rfl, Below.kp hB1 p.k (by simp at hM; omega) hB1.size⟩
/-- What Bars returns. -/
def barsR (a b c d e : Int) (l : List S74) (load : List Int) : List Int × Int :=
  match newR a b c d e l load with
  | .error x => ([], x)
  | .ok s => match barsB (mkF a b c d e l) (bitsOf s) (mkF a b c d e l).empty with
    | none => ([], 7)
    | some m => (m, 0)
set_option maxRecDepth 100000 in
set_option maxHeartbeats 1000000 in
theorem bars_exp (a b c d e : Int) (l : List S74) (load : List Int) (A1 A2 : Option Addr) (c1 c2 : Nat) (w : World) (hT : TabW w) (hr1 : Kd.C k74 w A1 l.length l) (hr2 : Kd.C (Kd.int .i64) w A2 load.length load) :
    Calls Tryd.prog 18 #[.agg #[.int .i64 a, .int .i64 b, .int .i64 c, .int .i64 d, .int .i64 e], .slice A1 l.length c1, .slice A2 load.length c2] w fun e_ w' => ∃ v0_ : Value, e_ = .returned (.tuple #[v0_, .int .i64 (barsR a b c d e l load).2]) ∧ Kd.R (Kd.int .i64) 3 w' w.heap.size (fun _ => True) v0_ (barsR a b c d e l load).1 ∧ Below w.heap.size w w' := by
  obtain ⟨r, hr⟩ : ∃ r, newR a b c d e l load = r := ⟨_, rfl⟩
  have hnew := new_calls a b c d e l load A1 A2 c1 c2 (w.alloc (.cells #[.int .i64 a, .int .i64 b, .int .i64 c, .int .i64 d, .int .i64 e] 23)) (Kd.C_alloc hr1 _) (Kd.C_alloc hr2 _)
  rw [hr] at hnew
  have Hnew := Lib.hid hnew
  clear hnew
  cases r with
  | error x =>
    have hx := newR_err hr
    have h1 : (x != 0) = true := by simp [hx]
    have hg : Hid (barsR a b c d e l load = ([], x)) := Lib.hid (by unfold barsR; rw [hr])
    rw [hg.out]
    clear hg hr hx
    go_enter Tryd.func18, Tryd.ntmps18
    go_wp2_with fail
    refine Hnew.out.mono ?_
    rintro e_ w1 ⟨rfl, hb1⟩
    go_wp2
    go_ret2
    exact ⟨_, rfl, Kd.R_nil _ _ _ _ _, ((Below.refl _ _).alloc (Nat.le_refl _) _).trans (hb1.mono (by simp))⟩
  | ok s =>
    have hbits := newR_bits hr
    have hF := check_ok (newR_ok hr).1
    obtain ⟨q, hq⟩ : ∃ q, barsB (mkF a b c d e l) (bitsOf s) (mkF a b c d e l).empty = q := ⟨_, rfl⟩
    have Hq := Lib.hid hq
    cases q with
    | none =>
      have hg : Hid (barsR a b c d e l load = ([], 7)) := Lib.hid (by unfold barsR; rw [hr]; dsimp only; rw [hq])
      rw [hg.out]
      clear hg hr hq
      go_enter Tryd.func18, Tryd.ntmps18
      go_wp2_with fail
      refine Hnew.out.mono ?_
      rintro e_ w1 ⟨v, rfl, hs, B, M, rfl, hB, hM, hfu, hme, hb1⟩
      have hB1 : Below w.heap.size w w1 := ((Below.refl _ _).alloc (Nat.le_refl _) _).trans (hb1.mono (by simp))
      have hT1 : TabW w1 := (hT.alloc _).below hb1
      go_wp2_with fail
      refine (empty_calls _ hF B M _ hfu).mono ?_
      rintro e_ w2 ⟨rfl, hb2⟩
      have hB2 : Below w.heap.size w w2 := hB1.trans (hb2.mono hB1.size)
      go_wp2_with fail
      refine (bars_calls _ hF s hs hbits _ hF.empty B M _ (hT1.below hb2) (hfu.below hb2)).mono ?_
      rintro e_ w3 ⟨v0, rfl, hR, hb3⟩
      rw [Hq.out]
      have hB3 : Below w.heap.size w w3 := hB2.trans (hb3.mono hB2.size)
      clear hR
      go_wp2
      go_ret2
      exact ⟨_, rfl, Kd.R_nil _ _ _ _ _, hB3⟩
    | some m =>
      have hg : Hid (barsR a b c d e l load = (m, 0)) := Lib.hid (by unfold barsR; rw [hr]; dsimp only; rw [hq])
      rw [hg.out]
      clear hg hr hq
      go_enter Tryd.func18, Tryd.ntmps18
      go_wp2_with fail
      refine Hnew.out.mono ?_
      rintro e_ w1 ⟨v, rfl, hs, B, M, rfl, hB, hM, hfu, hme, hb1⟩
      have hB1 : Below w.heap.size w w1 := ((Below.refl _ _).alloc (Nat.le_refl _) _).trans (hb1.mono (by simp))
      have hT1 : TabW w1 := (hT.alloc _).below hb1
      go_wp2_with fail
      refine (empty_calls _ hF B M _ hfu).mono ?_
      rintro e_ w2 ⟨rfl, hb2⟩
      have hB2 : Below w.heap.size w w2 := hB1.trans (hb2.mono hB1.size)
      go_wp2_with fail
      refine (bars_calls _ hF s hs hbits _ hF.empty B M _ (hT1.below hb2) (hfu.below hb2)).mono ?_
      rintro e_ w3 ⟨v0, rfl, hR, hb3⟩
      rw [Hq.out] at hR ⊢
      have hB3 : Below w.heap.size w w3 := hB2.trans (hb3.mono hB2.size)
      have HR := Lib.hid hR
      clear hR
      go_wp2
      go_ret2
      exact ⟨_, rfl, Kd.R_lower HR.out hB2.size, hB3⟩
/-- What Heat returns. -/
def heatR (a b c d e : Int) (l : List S74) (load : List Int) : Int × Int × Int :=
  match newR a b c d e l load with
  | .error x => (0, 0, x)
  | .ok s => if (heatB l (bitsOf s)).2 < (heatB l (bitsOf s)).1 then (0, 0, 7) else ((heatB l (bitsOf s)).1, (heatB l (bitsOf s)).2, 0)
theorem results19 {v : Value} {t : Array Value} {W : World} {b : Nat} {p q : Int} (h0 : t.getD 6 undef = .pointer (some ⟨b, 0, none⟩)) (hb : Box W b #[.int .i64 p, .int .i64 q] 36) (hv : .tuple #[.agg #[.int .i64 p, .int .i64 q], t.getD 7 undef] = v) : (results Tryd.f19 t).run Tryd.prog W = .ok v W := by
  have d0 : W.cell? ⟨b, 0, none⟩ = some (.int .i64 p) := hb.cell 0 rfl
  have d1 : W.cell? ⟨b, 1, none⟩ = some (.int .i64 q) := hb.cell 1 rfl
  rw [← hv]
  simp only [Array.getD_eq_getD_getElem?] at h0
  simp [results, Tryd.results19, go_sem, h0, d0, d1]
end Go.Proofs.YtbijamlgcebgeaaDoor.Hand

-- part Q1
namespace Go.Proofs.YtbijamlgcebgeaaDoor.Q
open Go.RowKit Go.Proofs.YtbijamlgcebgeaaDoorW.PrintWords Go.Proofs.YtbijamlgcebgeaaDoorW.PrintLast Go.Proofs.YtbijamlgcebgeaaDoorW.PrintMore
attribute [local go_sem] max2_int min2_int max_two min_two max_three min_three max_four min_four   -- for this text's walks alone
theorem eqA36 (d : Nat) (w : World) (x0 y0 : Int) (x1 y1 : Int) :
    (Op.equalIn (d + 2) 36 (.agg #[.int .i64 x0, .int .i64 x1]) (.agg #[.int .i64 y0, .int .i64 y1])).run Tryd.prog w = .ok (x0 == y0 && (x1 == y1)) w := by
  refine eqA_of Tryd.underlying36 (by kernel_rfl) ?_
  refine eqf_cons (by rfl) (by go_simp; rfl) (by go_simp; rfl) (by go_simp) ?_
  exact eqf_last (by rfl) (by go_simp; rfl) (by go_simp; rfl) (by go_simp)
theorem eqA74 (d : Nat) (w : World) (x0 y0 : Int) (x1 y1 : Int) (x2 y2 : Int) (x3 y3 : Int) (x4 y4 : Int) (x5 y5 : Int) :
    (Op.equalIn (d + 3) 74 (.agg #[.int .i64 x0, .int .i64 x1, .int .i64 x2, .int .i64 x3, .int .i64 x4, .int .i64 x5]) (.agg #[.int .i64 y0, .int .i64 y1, .int .i64 y2, .int .i64 y3, .int .i64 y4, .int .i64 y5])).run Tryd.prog w = .ok (x0 == y0 && (x1 == y1 && ((x2 == y2 && (x3 == y3)) && ((x4 == y4 && (x5 == y5)))))) w := by
  refine eqA_of Tryd.underlying74 (by kernel_rfl) ?_
  refine eqf_cons (by rfl) (by go_simp; rfl) (by go_simp; rfl) (by go_simp) ?_
  refine eqf_cons (by rfl) (by go_simp; rfl) (by go_simp; rfl) (by go_simp) ?_
  refine eqf_cons (by rfl) (by go_simp) (by go_simp) (eqA36 (d + 0) w _ _ _ _) ?_
  exact eqf_last (by rfl) (by go_simp) (by go_simp) (eqA36 (d + 0) w _ _ _ _)
end Go.Proofs.YtbijamlgcebgeaaDoor.Q

-- part Q2
namespace Go.Proofs.YtbijamlgcebgeaaDoor.Q
open Go.RowKit Go.Proofs.YtbijamlgcebgeaaDoorW.PrintWords Go.Proofs.YtbijamlgcebgeaaDoorW.PrintLast Go.Proofs.YtbijamlgcebgeaaDoorW.PrintMore
attribute [local go_sem] max2_int min2_int max_two min_two max_three min_three max_four min_four   -- for this text's walks alone
attribute [local go_sem high] eqA74
mutual
def smaltoref03_Order.l0 : Nat → List Int → List Int → Int → Option (Int)
  | 0, _, _, _ => none
  | k + 1, x0, x1, x5 => if x5 < (x0.length : Int) then (smaltoref03_Order.j1 k x0 x1 x5 (decide (x5 < (x1.length : Int)))) else (smaltoref03_Order.j1 k x0 x1 x5 false)
def smaltoref03_Order.j1 : Nat → List Int → List Int → Int → Bool → Option (Int)
  | 0, _, _, _, _ => none
  | k + 1, x0, x1, x5, x15 => if x15 = true then (if 0 ≤ x5 then (if x5 < (x0.length : Int) then (if x5 < (x1.length : Int) then (if (rd x0 x5) = (rd x1 x5) then (smaltoref03_Order.l0 k x0 x1 (wrap64 (x5 + 1))) else (some (wrap64 ((rd x0 x5) - (rd x1 x5))))) else (none)) else (none)) else (none)) else (some (wrap64 ((x0.length : Int) - (x1.length : Int))))
end
def smaltoref03_Order.f (k : Nat) (l0 : List Int) (l1 : List Int) : Option (Int) := smaltoref03_Order.l0 k l0 l1 0
theorem smaltoref03_Order.mono_l : ∀ k, (∀ y0 y1 y2, LeO (smaltoref03_Order.l0 k y0 y1 y2) (smaltoref03_Order.l0 (k + 1) y0 y1 y2)) ∧ (∀ y0 y1 y2 y3, LeO (smaltoref03_Order.j1 k y0 y1 y2 y3) (smaltoref03_Order.j1 (k + 1) y0 y1 y2 y3))
  | 0 => ⟨fun _ _ _ r h => by simp [smaltoref03_Order.l0] at h, fun _ _ _ _ r h => by simp [smaltoref03_Order.j1] at h⟩
  | k + 1 => by
    obtain ⟨ih0, ih1⟩ := smaltoref03_Order.mono_l k
    refine ⟨?_, ?_⟩
    · intro y0 y1 y2
      unfold smaltoref03_Order.l0
      repeat' first
      | (with_reducible exact ih0 _ _ _)
      | (with_reducible exact ih1 _ _ _ _)
      | (with_reducible exact LeO.refl _)
      | (with_reducible exact LeO.none _)
      | (with_reducible refine LeO.ite ?_ ?_)
      | (with_reducible refine LeO.bind ?_ (fun _ => ?_))
      | exact ih0 _ _ _
      | exact ih1 _ _ _ _
      | exact LeO.none _
      | refine LeO.ite ?_ ?_
      | refine LeO.bind ?_ (fun _ => ?_)
    · intro y0 y1 y2 y3
      unfold smaltoref03_Order.j1
      repeat' first
      | (with_reducible exact ih0 _ _ _)
      | (with_reducible exact ih1 _ _ _ _)
      | (with_reducible exact LeO.refl _)
      | (with_reducible exact LeO.none _)
      | (with_reducible refine LeO.ite ?_ ?_)
      | (with_reducible refine LeO.bind ?_ (fun _ => ?_))
      | exact ih0 _ _ _
      | exact ih1 _ _ _ _
      | exact LeO.none _
      | refine LeO.ite ?_ ?_
      | refine LeO.bind ?_ (fun _ => ?_)
theorem smaltoref03_Order.mono : ∀ a0 a1 k, LeO (smaltoref03_Order.f k a0 a1) (smaltoref03_Order.f (k + 1) a0 a1) := by
  intro a0 a1 k
  obtain ⟨ih0, ih1⟩ := smaltoref03_Order.mono_l k
  unfold smaltoref03_Order.f
  repeat' first
      | (with_reducible exact ih0 _ _ _)
      | (with_reducible exact ih1 _ _ _ _)
      | (with_reducible exact LeO.refl _)
      | (with_reducible exact LeO.none _)
      | (with_reducible refine LeO.ite ?_ ?_)
      | (with_reducible refine LeO.bind ?_ (fun _ => ?_))
      | exact ih0 _ _ _
      | exact ih1 _ _ _ _
      | exact LeO.none _
      | refine LeO.ite ?_ ?_
      | refine LeO.bind ?_ (fun _ => ?_)
set_option maxHeartbeats 8000000 in
set_option maxRecDepth 100000 in
theorem smaltoref03_Order.calls (k : Nat) (A0 : Option Addr) (c0 : Nat) (l0 : List Int) (A1 : Option Addr) (c1 : Nat) (l1 : List Int) (r : Int) (w : World) (hr0 : Kd.C (Kd.int .i64) w A0 l0.length l0) (hc0 : l0.length ≤ c0) (hr1 : Kd.C (Kd.int .i64) w A1 l1.length l1) (hc1 : l1.length ≤ c1) (h : smaltoref03_Order.f k l0 l1 = some r) :
    Calls Tryd.prog 64 #[.slice A0 l0.length c0, .slice A1 l1.length c1] w fun e w' => e = .returned (.int .i64 r) ∧ Drawn0 w w' := by
  have HR0 := Aside0.mk hr0
  have HC0 := Aside0.mk hc0
  clear hr0 hc0
  have HR1 := Aside0.mk hr1
  have HC1 := Aside0.mk hc1
  clear hr1 hc1
  have H : (smaltoref03_Order.l0 k l0 l1 0) = some r := h
  clear h
  have H' := Aside0.mk H
  clear H
  go_enter Tryd.func64, Tryd.ntmps64
  go_wp2
  repeat (go_quiet (fail); try go_wp2)
  go_loopg [5] k (fun kq v5 w' => ∃ (x5_1 : Int), v5 = .int .i64 x5_1 ∧ Aside0 (smaltoref03_Order.l0 kq l0 l1 x5_1 = some r) ∧ Aside0 (kq ≤ k) ∧ Drawn0 w w')
  case atStart => exact ⟨(0), (by first | rfl | (simp; done) | (simp [*]; done)), H', ⟨Nat.le_refl _⟩, by repeat (first | exact Drawn0.refl _ | apply Drawn0.step)⟩
  case round =>
    clear H'
    try clear c1
    try clear p2
    obtain ⟨x5_1, rfl, HA, HK1, ⟨m1, rfl⟩⟩ := hrel
    cases gk with
    | zero => exact absurd HA.out (by simp [smaltoref03_Order.l0])
    | succ k1 =>
      have H := HA.out
      clear HA
      simp only [smaltoref03_Order.l0] at H
      have HC3 := Aside0.mk H
      clear H
      go_upto_region 2 with (fail)
      repeat (go_quiet (fail); go_upto_region 2 with (fail))
      go_cut [15] (fun v15 wc => ∃ (kq : Nat) (x15_2 : Bool), v15 = .bool x15_2 ∧ Aside0 (smaltoref03_Order.j1 kq l0 l1 x5_1 x15_2 = some r) ∧ Aside0 (kq ≤ k1) ∧ Drawn0 w wc)
      case first =>
        have H := HC3.out
        clear HC3
        by_cases c4 : x5_1 < (l0.length : Int)
        · rw [if_pos c4] at H
          have c4b0 : decide (x5_1 < (l0.length : Int)) = true := decide_eq_true c4
          clear c4
          (first | rw [c4b0] | (simp only [i64_w, i32_w]; rw [c4b0]) | skip)
          have H' := Aside0.mk H
          clear H
          go_wp2
          repeat (go_quiet (fail); try go_wp2)
          go_meet
          case rel => exact ⟨_, (decide (x5_1 < (l1.length : Int))), (by first | rfl | (simp; done) | (simp [*]; done)), H', ⟨by have := HK1.out; first | omega | exact Nat.le_refl _⟩, by repeat (first | exact Drawn0.refl _ | apply Drawn0.step)⟩
        · rw [if_neg c4] at H
          have c4b0 : decide (x5_1 < (l0.length : Int)) = false := decide_eq_false c4
          clear c4
          (first | rw [c4b0] | (simp only [i64_w, i32_w]; rw [c4b0]) | skip)
          have H' := Aside0.mk H
          clear H
          go_wp2
          repeat (go_quiet (fail); try go_wp2)
          go_meet
          case rel => exact ⟨_, (false), (by first | rfl | (simp; done) | (simp [*]; done)), H', ⟨by have := HK1.out; first | omega | exact Nat.le_refl _⟩, by repeat (first | exact Drawn0.refl _ | apply Drawn0.step)⟩
      case rest =>
        clear HC3
        try clear c1
        try clear p2
        try clear c4
        try clear c4b0
        try clear p2
        obtain ⟨kq, x15_2, rfl, HA, HJ2, ⟨mc2, rfl⟩⟩ := hcut
        cases kq with
        | zero => exact absurd HA.out (by simp [smaltoref03_Order.j1])
        | succ kj2 =>
          have H := HA.out
          clear HA
          simp only [smaltoref03_Order.j1] at H
          by_cases c5 : x15_2 = true
          · subst c5
            have H1 : (if 0 ≤ x5_1 then (if x5_1 < (l0.length : Int) then (if x5_1 < (l1.length : Int) then (if (rd l0 x5_1) = (rd l1 x5_1) then (smaltoref03_Order.l0 kj2 l0 l1 (wrap64 (x5_1 + 1))) else (some (wrap64 ((rd l0 x5_1) - (rd l1 x5_1))))) else (none)) else (none)) else (none)) = some r := by rw [if_pos rfl] at H; exact H
            clear H
            have H := H1
            clear H1
            by_cases c6 : 0 ≤ x5_1
            · rw [if_pos c6] at H
              have c6b0 : decide (0 ≤ x5_1) = true := decide_eq_true c6
              clear c6
              by_cases c7 : x5_1 < (l0.length : Int)
              · rw [if_pos c7] at H
                have c7b0 : decide (x5_1 < (l0.length : Int)) = true := decide_eq_true c7
                clear c7
                by_cases c8 : x5_1 < (l1.length : Int)
                · rw [if_pos c8] at H
                  have c8b0 : decide (x5_1 < (l1.length : Int)) = true := decide_eq_true c8
                  clear c8
                  by_cases c9 : (rd l0 x5_1) = (rd l1 x5_1)
                  · rw [if_pos c9] at H
                    have c9b0 : ((rd l0 x5_1) == (rd l1 x5_1)) = true := beq_iff_eq.mpr c9
                    have c9b1 : ((rd l0 x5_1) != (rd l1 x5_1)) = false := bne_eq_false_iff_eq.mpr c9
                    clear c9
                    have H' := Aside0.mk H
                    clear H
                    have p109 : 0 ≤ (x5_1 : Int) := of_decide_eq_true (by first | (with_reducible assumption) | assumption)
                    have q109 : x5_1 < (l0.length : Int) := of_decide_eq_true (by first | (with_reducible assumption) | assumption)
                    obtain ⟨ad109, e109, hx109_0⟩ := Kd.at_int HR0.out x5_1 p109 q109
                    cases e109
                    replace p109 := eq_true p109
                    replace q109 := eq_true q109
                    have p110 : 0 ≤ (x5_1 : Int) := of_decide_eq_true (by first | (with_reducible assumption) | assumption)
                    have q110 : x5_1 < (l1.length : Int) := of_decide_eq_true (by first | (with_reducible assumption) | assumption)
                    obtain ⟨ad110, e110, hx110_0⟩ := Kd.at_int HR1.out x5_1 p110 q110
                    cases e110
                    replace p110 := eq_true p110
                    replace q110 := eq_true q110
                    go_wp2
                    repeat (go_quiet (fail); try go_wp2)
                    go_roundg kj2
                    case measure => have := HK1.out; have := HJ2.out; omega
                    case rel => exact ⟨(wrap64 (x5_1 + 1)), (by first | rfl | (simp; done) | (simp [*]; done)), H', ⟨by have := HK1.out; have := HJ2.out; omega⟩, by repeat (first | exact Drawn0.refl _ | apply Drawn0.step)⟩
                  · rw [if_neg c9] at H
                    have c9b0 : ((rd l0 x5_1) == (rd l1 x5_1)) = false := beq_eq_false_iff_ne.mpr c9
                    have c9b1 : ((rd l0 x5_1) != (rd l1 x5_1)) = true := bne_iff_ne.mpr c9
                    obtain rfl := Option.some.inj H
                    have p109 : 0 ≤ (x5_1 : Int) := of_decide_eq_true (by first | (with_reducible assumption) | assumption)
                    have q109 : x5_1 < (l0.length : Int) := of_decide_eq_true (by first | (with_reducible assumption) | assumption)
                    obtain ⟨ad109, e109, hx109_0⟩ := Kd.at_int HR0.out x5_1 p109 q109
                    cases e109
                    replace p109 := eq_true p109
                    replace q109 := eq_true q109
                    have p110 : 0 ≤ (x5_1 : Int) := of_decide_eq_true (by first | (with_reducible assumption) | assumption)
                    have q110 : x5_1 < (l1.length : Int) := of_decide_eq_true (by first | (with_reducible assumption) | assumption)
                    obtain ⟨ad110, e110, hx110_0⟩ := Kd.at_int HR1.out x5_1 p110 q110
                    cases e110
                    replace p110 := eq_true p110
                    replace q110 := eq_true q110
                    have p111 : 0 ≤ (x5_1 : Int) := of_decide_eq_true (by first | (with_reducible assumption) | assumption)
                    have q111 : x5_1 < (l0.length : Int) := of_decide_eq_true (by first | (with_reducible assumption) | assumption)
                    obtain ⟨ad111, e111, hx111_0⟩ := Kd.at_int HR0.out x5_1 p111 q111
                    obtain rfl : ad109 = ad111 := (by injection e111)
                    replace p111 := eq_true p111
                    replace q111 := eq_true q111
                    have p112 : 0 ≤ (x5_1 : Int) := of_decide_eq_true (by first | (with_reducible assumption) | assumption)
                    have q112 : x5_1 < (l1.length : Int) := of_decide_eq_true (by first | (with_reducible assumption) | assumption)
                    obtain ⟨ad112, e112, hx112_0⟩ := Kd.at_int HR1.out x5_1 p112 q112
                    obtain rfl : ad110 = ad112 := (by injection e112)
                    replace p112 := eq_true p112
                    replace q112 := eq_true q112
                    go_wp2
                    repeat (go_quiet (fail); try go_wp2)
                    go_ret
                    exact ⟨by first | rfl | (simp; done) | (simp [*]; done), by repeat (first | exact Drawn0.refl _ | apply Drawn0.step)⟩
                · rw [if_neg c8] at H
                  exact absurd H (by simp)
              · rw [if_neg c7] at H
                exact absurd H (by simp)
            · rw [if_neg c6] at H
              exact absurd H (by simp)
          · replace c5 := Bool.eq_false_iff.mpr c5
            subst c5
            have H1 : (some (wrap64 ((l0.length : Int) - (l1.length : Int)))) = some r := by rw [if_neg (show ¬ (false = true) by decide)] at H; exact H
            clear H
            have H := H1
            clear H1
            obtain rfl := Option.some.inj H
            go_wp2
            repeat (go_quiet (fail); try go_wp2)
            go_ret
            exact ⟨by first | rfl | (simp; done) | (simp [*]; done), by repeat (first | exact Drawn0.refl _ | apply Drawn0.step)⟩
def smaltoref03_Ints.f (k : Nat) (l0 : List Int) (l1 : List Int) : Option (Bool) := (smaltoref03_Order.f k l0 l1).bind fun t113 => (some (t113 == 0))
theorem smaltoref03_Ints.mono : ∀ a0 a1 k, LeO (smaltoref03_Ints.f k a0 a1) (smaltoref03_Ints.f (k + 1) a0 a1) := by
  intro a0 a1 k
  unfold smaltoref03_Ints.f
  repeat' first
      | (with_reducible exact smaltoref03_Order.mono _ _ _)
      | (with_reducible exact LeO.refl _)
      | (with_reducible exact LeO.none _)
      | (with_reducible refine LeO.ite ?_ ?_)
      | (with_reducible refine LeO.bind ?_ (fun _ => ?_))
      | exact smaltoref03_Order.mono _ _ _
      | exact LeO.none _
      | refine LeO.ite ?_ ?_
      | refine LeO.bind ?_ (fun _ => ?_)
set_option maxHeartbeats 8000000 in
set_option maxRecDepth 100000 in
theorem smaltoref03_Ints.calls (k : Nat) (A0 : Option Addr) (c0 : Nat) (l0 : List Int) (A1 : Option Addr) (c1 : Nat) (l1 : List Int) (r : Bool) (w : World) (hr0 : Kd.C (Kd.int .i64) w A0 l0.length l0) (hc0 : l0.length ≤ c0) (hr1 : Kd.C (Kd.int .i64) w A1 l1.length l1) (hc1 : l1.length ≤ c1) (h : smaltoref03_Ints.f k l0 l1 = some r) :
    Calls Tryd.prog 21 #[.slice A0 l0.length c0, .slice A1 l1.length c1] w fun e w' => e = .returned (.bool r) ∧ Drawn0 w w' := by
  have HR0 := Aside0.mk hr0
  have HC0 := Aside0.mk hc0
  clear hr0 hc0
  have HR1 := Aside0.mk hr1
  have HC1 := Aside0.mk hc1
  clear hr1 hc1
  have H : ((smaltoref03_Order.f k l0 l1).bind fun t113 => (some (t113 == 0))) = some r := h
  clear h
  replace H := Option.bind_eq_some_iff.mp H
  obtain ⟨t113, A30, H⟩ := H
  replace H : (some (t113 == 0)) = some r := H
  have A3 := Aside0.mk A30
  clear A30
  obtain rfl := Option.some.inj H
  go_enter Tryd.func21, Tryd.ntmps21
  go_wp2_with (first | ((with_reducible refine gate_callee (f := 64) rfl ?_); refine goesL_ (some 7) rfl rfl Tryd.func64 (by kernel_rfl) rfl #[.slice A0 l0.length c0, .slice A1 l1.length c1] rfl (by (try simp only [List.map_toArray, List.map_cons, List.map_nil]); first | done | rfl | (simp only [List.length_drop, List.length_take]; rfl)) ?_; (with_reducible refine (smaltoref03_Order.calls k _ _ l0 _ _ l1 t113 _ ?side1 ?side2 ?side3 ?side4 A3.out).mono ?_); (case side1 => repeat (first | exact HR0.out | (with_reducible refine Kd.C_alloc ?_ _) | (with_reducible refine Kd.C_drewN ?_ _) | (with_reducible refine Kd.C_drew ?_))); (case side2 => exact HC0.out); (case side3 => repeat (first | exact HR1.out | (with_reducible refine Kd.C_alloc ?_ _) | (with_reducible refine Kd.C_drewN ?_ _) | (with_reducible refine Kd.C_drew ?_))); (case side4 => exact HC1.out); rintro e w' ⟨rfl, ⟨nd, rfl⟩⟩; refine ⟨_, rfl, ?_⟩))
  go_ret
  exact ⟨by first | rfl | (simp; done) | (simp [*]; done), by repeat (first | exact Drawn0.refl _ | apply Drawn0.step)⟩
def smaltolaw03_span.f (a0 : Int) (a1 : Int) : Option (Int × Int) := some (a0, a1)
set_option maxHeartbeats 8000000 in
set_option maxRecDepth 100000 in
theorem smaltolaw03_span.calls (a0 : Int) (a1 : Int) (r1 : Int) (r2 : Int) (w : World) (h : smaltolaw03_span.f a0 a1 = some (r1, r2)) :
    Calls Tryd.prog 44 #[.int .i64 a0, .int .i64 a1] w fun e w' => e = .returned (.agg #[.int .i64 r1, .int .i64 r2]) ∧ Below w.heap.size w w' := by
  have hu36 := Tryd.underlying36
  have HB := Aside0.mk (Below.refl w.heap.size w)
  have H : (some (a0, a1)) = some (r1, r2) := h
  clear h
  simp only [Option.some.injEq, Prod.mk.injEq] at H
  obtain ⟨rfl, rfl⟩ := H
  go_enter Tryd.func44, Tryd.ntmps44
  go_wp2_with (first | ((with_reducible refine gate_dst (N := 4) rfl ?_); refine box_event ?hg (N := 4) ?hd (cs := #[.int .i64 0, .int .i64 0]) (t := 36) ?hr ?_; (case hd => rfl); (case hg => rfl); (case hr => first | (go_simp; done) | (go_simp; rfl)); intro gb120 hg w3 hbox hb; have n0_ := Aside0.mk (below_step (by repeat (first | (with_reducible first | exact HB.out | apply below_alloc | apply pw_below_drewN | apply below_drew1) | exact HB.out)) hb); have n1_ := Aside0.mk (hbox); have n2_ := Aside0.mk ((by rw [hg]; exact (below_size (by repeat (first | (with_reducible first | exact HB.out | apply below_alloc | apply pw_below_drewN | apply below_drew1) | exact HB.out))) : w.heap.size ≤ gb120)); have n3_ := Aside0.mk ((by rw [hg]; exact (below_size (by repeat (first | (with_reducible first | exact HB.out | apply below_alloc | apply pw_below_drewN | apply below_drew1) | exact HB.out))) : w.heap.size ≤ gb120)); clear HB; have HB := n0_; have BK120 := n1_; have GW120 := n2_; have GE120 := n3_; clear n0_ n1_ n2_ n3_; clear hb hbox hg; have hcz4_0 : w3.cell? ⟨gb120, 0, none⟩ = some (.int .i64 0) := (blk_cell BK120.out 0).trans rfl; have hcz4_1 : w3.cell? ⟨gb120, 1, none⟩ = some (.int .i64 0) := (blk_cell BK120.out 1).trans rfl; have hfz4_0 := blk_frozen BK120.out 0; have hfz4_1 := blk_frozen BK120.out 1))
  refine bodyPost_ret (results_cell_row rfl _ _ gb120 36 #[.int .i64 a0, .int .i64 a1] (0, 0) _ rfl (by (with_reducible repeat (first | refine blk_drewN ?_ _ | refine blk_drew ?_ | refine blk_alloc ?_ _)); refine blk_put (cs := #[.int .i64 a0, .int .i64 0]) ?_ 1 _ rfl; (with_reducible repeat (first | refine blk_drewN ?_ _ | refine blk_drew ?_ | refine blk_alloc ?_ _)); refine blk_put (cs := #[.int .i64 0, .int .i64 0]) ?_ 0 _ rfl; (with_reducible repeat (first | refine blk_drewN ?_ _ | refine blk_drew ?_ | refine blk_alloc ?_ _)); exact BK120.out) Tryd.underlying36 rfl (by kernel_rfl)) rfl ?_
  exact ⟨by first | rfl | (simp [errW_none, errW_some] <;> rfl) | (simp [*, errW_none, errW_some] <;> rfl), by repeat (first | (with_reducible first | exact HB.out | apply below_alloc | apply pw_below_drewN | apply below_drew1 | refine below_set ?_ GE120.out) | exact HB.out)⟩
def smaltolaw03_bars.f (a0 : Int) : Option (Int × Int × Int × Int × Int) := some (2, 40, 2, a0, 10)
set_option maxHeartbeats 8000000 in
set_option maxRecDepth 100000 in
theorem smaltolaw03_bars.calls (a0 : Int) (r1 : Int) (r2 : Int) (r3 : Int) (r4 : Int) (r5 : Int) (w : World) (h : smaltolaw03_bars.f a0 = some (r1, r2, r3, r4, r5)) :
    Calls Tryd.prog 50 #[.int .i64 a0] w fun e w' => e = .returned (.agg #[.int .i64 r1, .int .i64 r2, .int .i64 r3, .int .i64 r4, .int .i64 r5]) ∧ Below w.heap.size w w' := by
  have hu23 := Tryd.underlying23
  have HB := Aside0.mk (Below.refl w.heap.size w)
  have H : (some (2, 40, 2, a0, 10)) = some (r1, r2, r3, r4, r5) := h
  clear h
  simp only [Option.some.injEq, Prod.mk.injEq] at H
  obtain ⟨rfl, rfl, rfl, rfl, rfl⟩ := H
  go_enter Tryd.func50, Tryd.ntmps50
  go_wp2_with (first | ((with_reducible refine gate_dst (N := 2) rfl ?_); refine box_event ?hg (N := 2) ?hd (cs := #[.int .i64 0, .int .i64 0, .int .i64 0, .int .i64 0, .int .i64 0]) (t := 23) ?hr ?_; (case hd => rfl); (case hg => rfl); (case hr => first | (go_simp; done) | (go_simp; rfl)); intro gb121 hg w2 hbox hb; have n0_ := Aside0.mk (below_step (by repeat (first | (with_reducible first | exact HB.out | apply below_alloc | apply pw_below_drewN | apply below_drew1) | exact HB.out)) hb); have n1_ := Aside0.mk (hbox); have n2_ := Aside0.mk ((by rw [hg]; exact (below_size (by repeat (first | (with_reducible first | exact HB.out | apply below_alloc | apply pw_below_drewN | apply below_drew1) | exact HB.out))) : w.heap.size ≤ gb121)); have n3_ := Aside0.mk ((by rw [hg]; exact (below_size (by repeat (first | (with_reducible first | exact HB.out | apply below_alloc | apply pw_below_drewN | apply below_drew1) | exact HB.out))) : w.heap.size ≤ gb121)); clear HB; have HB := n0_; have BK121 := n1_; have GW121 := n2_; have GE121 := n3_; clear n0_ n1_ n2_ n3_; clear hb hbox hg; have hcz3_0 : w2.cell? ⟨gb121, 0, none⟩ = some (.int .i64 0) := (blk_cell BK121.out 0).trans rfl; have hcz3_1 : w2.cell? ⟨gb121, 1, none⟩ = some (.int .i64 0) := (blk_cell BK121.out 1).trans rfl; have hcz3_2 : w2.cell? ⟨gb121, 2, none⟩ = some (.int .i64 0) := (blk_cell BK121.out 2).trans rfl; have hcz3_3 : w2.cell? ⟨gb121, 3, none⟩ = some (.int .i64 0) := (blk_cell BK121.out 3).trans rfl; have hcz3_4 : w2.cell? ⟨gb121, 4, none⟩ = some (.int .i64 0) := (blk_cell BK121.out 4).trans rfl; have hfz3_0 := blk_frozen BK121.out 0; have hfz3_1 := blk_frozen BK121.out 1; have hfz3_2 := blk_frozen BK121.out 2; have hfz3_3 := blk_frozen BK121.out 3; have hfz3_4 := blk_frozen BK121.out 4))
  refine bodyPost_ret (results_cell_row rfl _ _ gb121 23 #[.int .i64 2, .int .i64 40, .int .i64 2, .int .i64 a0, .int .i64 10] (0, 0) _ rfl (by (with_reducible repeat (first | refine blk_drewN ?_ _ | refine blk_drew ?_ | refine blk_alloc ?_ _)); refine blk_put (cs := #[.int .i64 2, .int .i64 40, .int .i64 2, .int .i64 a0, .int .i64 0]) ?_ 4 _ rfl; (with_reducible repeat (first | refine blk_drewN ?_ _ | refine blk_drew ?_ | refine blk_alloc ?_ _)); refine blk_put (cs := #[.int .i64 2, .int .i64 40, .int .i64 2, .int .i64 0, .int .i64 0]) ?_ 3 _ rfl; (with_reducible repeat (first | refine blk_drewN ?_ _ | refine blk_drew ?_ | refine blk_alloc ?_ _)); refine blk_put (cs := #[.int .i64 2, .int .i64 40, .int .i64 0, .int .i64 0, .int .i64 0]) ?_ 2 _ rfl; (with_reducible repeat (first | refine blk_drewN ?_ _ | refine blk_drew ?_ | refine blk_alloc ?_ _)); refine blk_put (cs := #[.int .i64 2, .int .i64 0, .int .i64 0, .int .i64 0, .int .i64 0]) ?_ 1 _ rfl; (with_reducible repeat (first | refine blk_drewN ?_ _ | refine blk_drew ?_ | refine blk_alloc ?_ _)); refine blk_put (cs := #[.int .i64 0, .int .i64 0, .int .i64 0, .int .i64 0, .int .i64 0]) ?_ 0 _ rfl; (with_reducible repeat (first | refine blk_drewN ?_ _ | refine blk_drew ?_ | refine blk_alloc ?_ _)); exact BK121.out) Tryd.underlying23 rfl (by kernel_rfl)) rfl ?_
  exact ⟨by first | rfl | (simp [errW_none, errW_some] <;> rfl) | (simp [*, errW_none, errW_some] <;> rfl), by repeat (first | (with_reducible first | exact HB.out | apply below_alloc | apply pw_below_drewN | apply below_drew1 | refine below_set ?_ GE121.out) | exact HB.out)⟩
def smaltolaw03_sign.f (a0 : Int) (a1 : Int) (a2_0 : Int) (a2_1 : Int) (a3_0 : Int) (a3_1 : Int) : Option (Int × Int × Int × Int × Int × Int) := some (a0, a1, a2_0, a2_1, a3_0, a3_1)
set_option maxHeartbeats 8000000 in
set_option maxRecDepth 100000 in
theorem smaltolaw03_sign.calls (a0 : Int) (a1 : Int) (a2_0 : Int) (a2_1 : Int) (a3_0 : Int) (a3_1 : Int) (r1 : Int) (r2 : Int) (r3 : Int) (r4 : Int) (r5 : Int) (r6 : Int) (w : World) (h : smaltolaw03_sign.f a0 a1 a2_0 a2_1 a3_0 a3_1 = some (r1, r2, r3, r4, r5, r6)) :
    Calls Tryd.prog 52 #[.int .i64 a0, .int .i64 a1, .agg #[.int .i64 a2_0, .int .i64 a2_1], .agg #[.int .i64 a3_0, .int .i64 a3_1]] w fun e w' => e = .returned (.agg #[.int .i64 r1, .int .i64 r2, .int .i64 r3, .int .i64 r4, .int .i64 r5, .int .i64 r6]) ∧ Below w.heap.size w w' := by
  have hu36 := Tryd.underlying36
  have hu74 := Tryd.underlying74
  have HB := Aside0.mk (Below.refl w.heap.size w)
  have H : (some (a0, a1, a2_0, a2_1, a3_0, a3_1)) = some (r1, r2, r3, r4, r5, r6) := h
  clear h
  simp only [Option.some.injEq, Prod.mk.injEq] at H
  obtain ⟨rfl, rfl, rfl, rfl, rfl, rfl⟩ := H
  go_enter Tryd.func52, Tryd.ntmps52
  go_wp2_with (first | ((with_reducible refine gate_dst (N := 6) rfl ?_); refine box_event ?hg (N := 6) ?hd (cs := #[.int .i64 a2_0, .int .i64 a2_1]) (t := 36) ?hr ?_; (case hd => rfl); (case hg => rfl); (case hr => first | (go_simp; done) | (go_simp; rfl)); intro gb122 hg w5 hbox hb; have n0_ := Aside0.mk (below_step (by repeat (first | (with_reducible first | exact HB.out | apply below_alloc | apply pw_below_drewN | apply below_drew1) | exact HB.out)) hb); have n1_ := Aside0.mk (hbox); have n2_ := Aside0.mk ((by rw [hg]; exact (below_size (by repeat (first | (with_reducible first | exact HB.out | apply below_alloc | apply pw_below_drewN | apply below_drew1) | exact HB.out))) : w.heap.size ≤ gb122)); have n3_ := Aside0.mk ((by rw [hg]; exact (below_size (by repeat (first | (with_reducible first | exact HB.out | apply below_alloc | apply pw_below_drewN | apply below_drew1) | exact HB.out))) : w.heap.size ≤ gb122)); clear HB; have HB := n0_; have BK122 := n1_; have GW122 := n2_; have GE122 := n3_; clear n0_ n1_ n2_ n3_; clear hb hbox hg) | ((with_reducible refine gate_dst (N := 7) rfl ?_); refine box_event ?hg (N := 7) ?hd (cs := #[.int .i64 a3_0, .int .i64 a3_1]) (t := 36) ?hr ?_; (case hd => rfl); (case hg => rfl); (case hr => first | (go_simp; done) | (go_simp; rfl)); intro gb123 hg w6 hbox hb; have n0_ := Aside0.mk (blk_below (g := gb122) (o := .cells #[.int .i64 a2_0, .int .i64 a2_1] 36 (0, 0)) (by (with_reducible repeat (first | refine blk_drewN ?_ _ | refine blk_drew ?_ | refine blk_alloc ?_ _)); exact BK122.out) hb); have n1_ := Aside0.mk (below_step (by repeat (first | (with_reducible first | exact HB.out | apply below_alloc | apply pw_below_drewN | apply below_drew1 | refine below_set ?_ GE122.out) | exact HB.out)) hb); have n2_ := Aside0.mk (hbox); have n3_ := Aside0.mk ((by rw [hg]; exact (below_size (by repeat (first | (with_reducible first | exact HB.out | apply below_alloc | apply pw_below_drewN | apply below_drew1 | refine below_set ?_ GE122.out) | exact HB.out))) : w.heap.size ≤ gb123)); have n4_ := Aside0.mk ((by rw [hg]; exact (below_size (by repeat (first | (with_reducible first | exact HB.out | apply below_alloc | apply pw_below_drewN | apply below_drew1 | refine below_set ?_ GE122.out) | exact HB.out))) : w.heap.size ≤ gb123)); have n5_ := Aside0.mk ((by rw [hg]; exact Nat.ne_of_lt (blk_lt (g := gb122) (o := .cells #[.int .i64 a2_0, .int .i64 a2_1] 36 (0, 0)) (by (with_reducible repeat (first | refine blk_drewN ?_ _ | refine blk_drew ?_ | refine blk_alloc ?_ _)); exact BK122.out)) : gb122 ≠ gb123)); have n6_ := Aside0.mk ((by rw [hg]; exact Nat.ne_of_gt (blk_lt (g := gb122) (o := .cells #[.int .i64 a2_0, .int .i64 a2_1] 36 (0, 0)) (by (with_reducible repeat (first | refine blk_drewN ?_ _ | refine blk_drew ?_ | refine blk_alloc ?_ _)); exact BK122.out)) : gb123 ≠ gb122)); clear BK122; clear HB; have BK122 := n0_; have HB := n1_; have BK123 := n2_; have GW123 := n3_; have GE123 := n4_; have NB122_123 := n5_; have NB123_122 := n6_; clear n0_ n1_ n2_ n3_ n4_ n5_ n6_; clear hb hbox hg) | ((with_reducible refine gate_dst (N := 8) rfl ?_); refine box_event ?hg (N := 8) ?hd (cs := #[.int .i64 0, .int .i64 0, .int .i64 0, .int .i64 0, .int .i64 0, .int .i64 0]) (t := 74) ?hr ?_; (case hd => rfl); (case hg => rfl); (case hr => first | (go_simp; done) | (go_simp; rfl)); intro gb124 hg w7 hbox hb; have n0_ := Aside0.mk (blk_below (g := gb122) (o := .cells #[.int .i64 a2_0, .int .i64 a2_1] 36 (0, 0)) (by (with_reducible repeat (first | refine blk_drewN ?_ _ | refine blk_drew ?_ | refine blk_alloc ?_ _)); exact BK122.out) hb); have n1_ := Aside0.mk (blk_below (g := gb123) (o := .cells #[.int .i64 a3_0, .int .i64 a3_1] 36 (0, 0)) (by (with_reducible repeat (first | refine blk_drewN ?_ _ | refine blk_drew ?_ | refine blk_alloc ?_ _)); exact BK123.out) hb); have n2_ := Aside0.mk (below_step (by repeat (first | (with_reducible first | exact HB.out | apply below_alloc | apply pw_below_drewN | apply below_drew1 | refine below_set ?_ GE122.out | refine below_set ?_ GE123.out) | exact HB.out)) hb); have n3_ := Aside0.mk (hbox); have n4_ := Aside0.mk ((by rw [hg]; exact (below_size (by repeat (first | (with_reducible first | exact HB.out | apply below_alloc | apply pw_below_drewN | apply below_drew1 | refine below_set ?_ GE122.out | refine below_set ?_ GE123.out) | exact HB.out))) : w.heap.size ≤ gb124)); have n5_ := Aside0.mk ((by rw [hg]; exact (below_size (by repeat (first | (with_reducible first | exact HB.out | apply below_alloc | apply pw_below_drewN | apply below_drew1 | refine below_set ?_ GE122.out | refine below_set ?_ GE123.out) | exact HB.out))) : w.heap.size ≤ gb124)); have n6_ := Aside0.mk ((by rw [hg]; exact Nat.ne_of_lt (blk_lt (g := gb122) (o := .cells #[.int .i64 a2_0, .int .i64 a2_1] 36 (0, 0)) (by (with_reducible repeat (first | refine blk_drewN ?_ _ | refine blk_drew ?_ | refine blk_alloc ?_ _)); exact BK122.out)) : gb122 ≠ gb124)); have n7_ := Aside0.mk ((by rw [hg]; exact Nat.ne_of_gt (blk_lt (g := gb122) (o := .cells #[.int .i64 a2_0, .int .i64 a2_1] 36 (0, 0)) (by (with_reducible repeat (first | refine blk_drewN ?_ _ | refine blk_drew ?_ | refine blk_alloc ?_ _)); exact BK122.out)) : gb124 ≠ gb122)); have n8_ := Aside0.mk ((by rw [hg]; exact Nat.ne_of_lt (blk_lt (g := gb123) (o := .cells #[.int .i64 a3_0, .int .i64 a3_1] 36 (0, 0)) (by (with_reducible repeat (first | refine blk_drewN ?_ _ | refine blk_drew ?_ | refine blk_alloc ?_ _)); exact BK123.out)) : gb123 ≠ gb124)); have n9_ := Aside0.mk ((by rw [hg]; exact Nat.ne_of_gt (blk_lt (g := gb123) (o := .cells #[.int .i64 a3_0, .int .i64 a3_1] 36 (0, 0)) (by (with_reducible repeat (first | refine blk_drewN ?_ _ | refine blk_drew ?_ | refine blk_alloc ?_ _)); exact BK123.out)) : gb124 ≠ gb123)); clear BK122; clear BK123; clear HB; have BK122 := n0_; have BK123 := n1_; have HB := n2_; have BK124 := n3_; have GW124 := n4_; have GE124 := n5_; have NB122_124 := n6_; have NB124_122 := n7_; have NB123_124 := n8_; have NB124_123 := n9_; clear n0_ n1_ n2_ n3_ n4_ n5_ n6_ n7_ n8_ n9_; clear hb hbox hg; have hnb8 := NB122_123.out; have hnc8 := NB123_122.out; have hnb9 := NB122_124.out; have hnc9 := NB124_122.out; have hcz10_0 : w7.cell? ⟨gb122, 0, none⟩ = some (.int .i64 a2_0) := (blk_cell BK122.out 0).trans rfl; have hcz10_1 : w7.cell? ⟨gb122, 1, none⟩ = some (.int .i64 a2_1) := (blk_cell BK122.out 1).trans rfl; have hfz10_0 := blk_frozen BK122.out 0; have hfz10_1 := blk_frozen BK122.out 1; have hnb11 := NB123_124.out; have hnc11 := NB124_123.out; have hcz12_0 : w7.cell? ⟨gb123, 0, none⟩ = some (.int .i64 a3_0) := (blk_cell BK123.out 0).trans rfl; have hcz12_1 : w7.cell? ⟨gb123, 1, none⟩ = some (.int .i64 a3_1) := (blk_cell BK123.out 1).trans rfl; have hfz12_0 := blk_frozen BK123.out 0; have hfz12_1 := blk_frozen BK123.out 1; have hcz13_0 : w7.cell? ⟨gb124, 0, none⟩ = some (.int .i64 0) := (blk_cell BK124.out 0).trans rfl; have hcz13_1 : w7.cell? ⟨gb124, 1, none⟩ = some (.int .i64 0) := (blk_cell BK124.out 1).trans rfl; have hcz13_2 : w7.cell? ⟨gb124, 2, none⟩ = some (.int .i64 0) := (blk_cell BK124.out 2).trans rfl; have hcz13_3 : w7.cell? ⟨gb124, 3, none⟩ = some (.int .i64 0) := (blk_cell BK124.out 3).trans rfl; have hcz13_4 : w7.cell? ⟨gb124, 4, none⟩ = some (.int .i64 0) := (blk_cell BK124.out 4).trans rfl; have hcz13_5 : w7.cell? ⟨gb124, 5, none⟩ = some (.int .i64 0) := (blk_cell BK124.out 5).trans rfl; have hfz13_0 := blk_frozen BK124.out 0; have hfz13_1 := blk_frozen BK124.out 1; have hfz13_2 := blk_frozen BK124.out 2; have hfz13_3 := blk_frozen BK124.out 3; have hfz13_4 := blk_frozen BK124.out 4; have hfz13_5 := blk_frozen BK124.out 5))
  refine bodyPost_ret (results_cell_row rfl _ _ gb124 74 #[.int .i64 a0, .int .i64 a1, .int .i64 a2_0, .int .i64 a2_1, .int .i64 a3_0, .int .i64 a3_1] (0, 0) _ rfl (by (with_reducible repeat (first | refine blk_drewN ?_ _ | refine blk_drew ?_ | refine blk_alloc ?_ _)); refine blk_put (cs := #[.int .i64 a0, .int .i64 a1, .int .i64 a2_0, .int .i64 a2_1, .int .i64 a3_0, .int .i64 0]) ?_ 5 _ rfl; (with_reducible repeat (first | refine blk_drewN ?_ _ | refine blk_drew ?_ | refine blk_alloc ?_ _)); refine blk_put (cs := #[.int .i64 a0, .int .i64 a1, .int .i64 a2_0, .int .i64 a2_1, .int .i64 0, .int .i64 0]) ?_ 4 _ rfl; (with_reducible repeat (first | refine blk_drewN ?_ _ | refine blk_drew ?_ | refine blk_alloc ?_ _)); refine blk_put (cs := #[.int .i64 a0, .int .i64 a1, .int .i64 a2_0, .int .i64 0, .int .i64 0, .int .i64 0]) ?_ 3 _ rfl; (with_reducible repeat (first | refine blk_drewN ?_ _ | refine blk_drew ?_ | refine blk_alloc ?_ _)); refine blk_put (cs := #[.int .i64 a0, .int .i64 a1, .int .i64 0, .int .i64 0, .int .i64 0, .int .i64 0]) ?_ 2 _ rfl; (with_reducible repeat (first | refine blk_drewN ?_ _ | refine blk_drew ?_ | refine blk_alloc ?_ _)); refine blk_put (cs := #[.int .i64 a0, .int .i64 0, .int .i64 0, .int .i64 0, .int .i64 0, .int .i64 0]) ?_ 1 _ rfl; (with_reducible repeat (first | refine blk_drewN ?_ _ | refine blk_drew ?_ | refine blk_alloc ?_ _)); refine blk_put (cs := #[.int .i64 0, .int .i64 0, .int .i64 0, .int .i64 0, .int .i64 0, .int .i64 0]) ?_ 0 _ rfl; (with_reducible repeat (first | refine blk_drewN ?_ _ | refine blk_drew ?_ | refine blk_alloc ?_ _)); exact BK124.out) Tryd.underlying74 rfl (by kernel_rfl)) rfl ?_
  exact ⟨by first | rfl | (simp [errW_none, errW_some] <;> rfl) | (simp [*, errW_none, errW_some] <;> rfl), by repeat (first | (with_reducible first | exact HB.out | apply below_alloc | apply pw_below_drewN | apply below_drew1 | refine below_set ?_ GE122.out | refine below_set ?_ GE123.out | refine below_set ?_ GE124.out) | exact HB.out)⟩
def smaltolaw03_ints.f (l0 : List Int) : Option (List Int) := (some (([] : List Int) : List Int)).bind fun y184 => (if y184.length + l0.length < 17592186044416 then (some (y184 ++ l0)) else (none))
set_option maxHeartbeats 8000000 in
set_option maxRecDepth 100000 in
theorem smaltolaw03_ints.calls (A0 : Option Addr) (c0 : Nat) (l0 : List Int) (r : List Int) (w : World) (hr0 : Kd.C (Kd.int .i64) w A0 l0.length l0) (hc0 : l0.length ≤ c0) (h : smaltolaw03_ints.f l0 = some r) :
    Calls Tryd.prog 15 #[.slice A0 l0.length c0] w fun e w' => ∃ v0_ : Value, e = .returned (v0_) ∧ Kd.R (Kd.int .i64) 3 w' w.heap.size (fun _ => True) v0_ r ∧ Below w.heap.size w w' := by
  have HR0 := Aside0.mk hr0
  have HC0 := Aside0.mk hc0
  clear hr0 hc0
  have HB := Aside0.mk (Below.refl w.heap.size w)
  have H : ((some (([] : List Int) : List Int)).bind fun y184 => (if y184.length + l0.length < 17592186044416 then (some (y184 ++ l0)) else (none))) = some r := h
  clear h
  obtain ⟨y184, hy184⟩ : ∃ y_ : List Int, y_ = (([] : List Int)) := ⟨_, rfl⟩
  replace H : (if y184.length + l0.length < 17592186044416 then (some (y184 ++ l0)) else (none)) = some r := by first | (rw [hy184]; with_reducible exact H) | (have H2_ := (Option.bind_some _ _).symm.trans H; rw [hy184]; with_reducible exact H2_) | (have H2_ := (Option.bind_some _ _).symm.trans H; with_reducible exact H2_) | with_reducible exact H | (rw [hy184]; exact H) | exact H
  have Ny184 := Aside0.mk hy184
  clear hy184
  by_cases c2 : y184.length + l0.length < 17592186044416
  · rw [if_pos c2] at H
    have LMc2 := Aside0.mk c2
    clear c2
    obtain ⟨y187, hy187⟩ : ∃ y_ : List Int, y_ = (y184 ++ l0) := ⟨_, rfl⟩
    replace H : (some y187) = some r := by first | (rw [hy187]; with_reducible exact H) | (have H2_ := (Option.bind_some _ _).symm.trans H; rw [hy187]; with_reducible exact H2_) | (have H2_ := (Option.bind_some _ _).symm.trans H; with_reducible exact H2_) | with_reducible exact H | (rw [hy187]; exact H) | exact H
    have Ny187 := Aside0.mk hy187
    clear hy187
    obtain rfl := Option.some.inj H
    go_enter Tryd.func15, Tryd.ntmps15
    go_wp2_with (first | ((with_reducible refine gate_dst (N := 3) rfl ?_); refine Kd.R_lit (Kd.int .i64) _ 3 ?hg (N := 3) ?hd (xs := ([] : List Int)) (inner := []) (ok := fun _ => True) (okp := fun _ => True) ?hr ?hp (fun _ hk => hk) trivial (Below.refl _ _) (Nat.le_refl _) (by simp) ?_; (case hd => rfl); (case hg => rfl); (case hr => first | (go_simp; done) | (go_simp; rfl)); (case hp => exact (Reps.none _ _)); intro v185 w3 ho4 hb hg_ hnew_; clear hg_ hnew_; (first | rw [← Ny184.out] at ho4 | (simp only [Int.reduceToNat] at ho4; rw [← Ny184.out] at ho4)); have n0_ := Aside0.mk (Kd.R_lower ho4 (below_size (by repeat (first | (with_reducible first | exact HB.out | apply below_alloc | apply pw_below_drewN | apply below_drew1) | exact HB.out)))); have n1_ := Aside0.mk (below_step (by repeat (first | (with_reducible first | exact HB.out | apply below_alloc | apply pw_below_drewN | apply below_drew1) | exact HB.out)) hb); clear HB; have HO186 := n0_; have HB := n1_; clear n0_ n1_; clear hb ho4) | ((with_reducible refine gate_builtin (b := .append) (xs := #[.tmp 3, .tmp 4]) rfl ?_); at_builtin; refine Kd.R_append_rows (Kd.int .i64) (w0 := w) w.heap.size rfl (.tmp 3) (.tmp 4) 25 3 (.int .i64 0) 8 rfl Tryd.underlying25 info3 rfl (by decide) (by omega) v185 y184 l0 _ _ _ (fun _ => True) (fun _ => False) rfl rfl ?aO ?aR (fun _ _ h => h) (fun _ h => h.elim) ?aF ?aB ?aS ?aL ?_; (case aR => repeat (first | exact (Kd.C_below HR0.out HB.out) | (with_reducible refine Kd.C_alloc ?_ _) | (with_reducible refine Kd.C_drewN ?_ _) | (with_reducible refine Kd.C_drew ?_))); (case aB => exact (by repeat (first | (with_reducible first | exact HB.out | apply below_alloc | apply pw_below_drewN | apply below_drew1) | exact HB.out))); (case aF => exact (fun _ _ => trivial)); (case aO => exact (by (with_reducible repeat (first | apply Kd.R_alloc | apply Kd.R_drewN | apply Kd.R_drew)); exact HO186.out)); (case aS => exact (below_size (by repeat (first | (with_reducible first | exact HB.out | apply below_alloc | apply pw_below_drewN | apply below_drew1) | exact HB.out)))); (case aL => have := LMc2.out; omega); intro v188 w5 ho hb hg hat; rw [← Ny187.out] at ho; have n0_ := Aside0.mk (hb); have n1_ := Aside0.mk (ho); clear HB; clear HO186; have HB := n0_; have HO189 := n1_; clear n0_ n1_; clear ho hb hg hat))
    go_ret
    exact ⟨_, by first | rfl | (simp [errW_none, errW_some] <;> rfl) | (simp [*, errW_none, errW_some] <;> rfl), by (with_reducible repeat (first | apply Kd.R_alloc | apply Kd.R_drewN | apply Kd.R_drew)); exact HO189.out, by repeat (first | (with_reducible first | exact HB.out | apply below_alloc | apply pw_below_drewN | apply below_drew1) | exact HB.out)⟩
  · rw [if_neg c2] at H
    exact absurd H (by simp)
end Go.Proofs.YtbijamlgcebgeaaDoor.Q

-- part Q3
namespace Go.Proofs.YtbijamlgcebgeaaDoor.Q
open Go.RowKit Go.Proofs.YtbijamlgcebgeaaDoorW.PrintWords Go.Proofs.YtbijamlgcebgeaaDoorW.PrintLast Go.Proofs.YtbijamlgcebgeaaDoorW.PrintMore
attribute [local go_sem] max2_int min2_int max_two min_two max_three min_three max_four min_four   -- for this text's walks alone
end Go.Proofs.YtbijamlgcebgeaaDoor.Q

-- part JA
namespace Go.Proofs.YtbijamlgcebgeaaDoor.Hand
open Go.RowKit Go.Shelf Go.Sort Go.Proofs.YtbijamlgcebgeaaDoorW.PrintWords Go.Proofs.YtbijamlgcebgeaaDoorW.PrintMore Go.Proofs.YtbijamlgcebgeaaDoor.Q
theorem w64 {x : Int} (h : -9223372036854775808 ≤ x ∧ x < 9223372036854775808) : wrap64 x = x := by
  unfold wrap64; omega
theorem rd_get {l : List Int} {i : Nat} (h : i < l.length) : rd l (i : Int) = l[i] := by
  simp [rd, List.getD_eq_getElem?_getD, h]
/-- A load that has its form is the list of its set. -/
theorem bits_snoc : ∀ s : Nat, s < 64 → ∀ x : Nat, x < 6 → s < 2 ^ x → bitsOf (s ||| 2 ^ x) = bitsOf s ++ [x] ∧ s ||| 2 ^ x < 2 ^ (x + 1) := by decide +kernel
theorem setL_list {n : Nat} {load : List Int} (hn : n ≤ 6) : ∀ (d k s0 s : Nat), k + d = load.length → setL n load d k s0 = some s → (bitsOf s0).map Int.ofNat = load.take k → (∀ x : Nat, 0 < k → rd load ((k : Int) - 1) = x → s0 < 2 ^ (x + 1)) → (k = 0 → s0 = 0) → (0 < k → 0 ≤ rd load ((k : Int) - 1)) → s0 < 64 →
    (bitsOf s).map Int.ofNat = load ∧ s < 64 := by
  intro d
  induction d with
  | zero =>
    intro k s0 s hk h h1 h2 h3 h5 h4
    cases h
    rw [h1, List.take_of_length_le (by omega)]
    exact ⟨rfl, h4⟩
  | succ d ih =>
    intro k s0 s hk h h1 h2 h3 h5 h4
    unfold setL at h
    have hi : k < load.length := by omega
    split at h
    · rename_i ha
      split at h
      · cases h
      · rename_i hb
        rw [allIn_one] at ha
        simp only [Bool.and_eq_true, decide_eq_true_eq] at ha
        obtain ⟨x, hx⟩ : ∃ x : Nat, rd load k = x := ⟨(rd load k).toNat, by omega⟩
        rw [hx] at h ha
        simp only [Int.toNat_natCast] at h
        have hlt : s0 < 2 ^ x := by
          by_cases hk0 : k = 0
          · rw [h3 hk0]; exact Nat.two_pow_pos x
          · obtain ⟨y, hy⟩ : ∃ y : Nat, rd load ((k : Int) - 1) = y := ⟨(rd load ((k : Int) - 1)).toNat, by have := h5 (by omega); omega⟩
            have hyx : y < x := by
              have : ¬ (rd load k ≤ rd load ((k : Int) - 1)) := fun hc => hb ⟨by omega, hc⟩
              omega
            exact Nat.lt_of_lt_of_le (h2 y (by omega) hy) (Nat.pow_le_pow_right (by omega) (by omega))
        obtain ⟨q1, q2⟩ := bits_snoc s0 h4 x (by omega) hlt
        refine ih (k + 1) _ s (by omega) h ?_ ?_ (by omega) ?_ ?_
        · rw [q1, List.map_append, h1, List.take_succ_eq_append_getElem hi]
          have := rd_get hi
          rw [hx] at this
          simp [← this]
        · intro x' _ hx'
          rw [show ((k + 1 : Nat) : Int) - 1 = k by omega, hx] at hx'
          obtain rfl : x = x' := by omega
          exact q2
        · intro _
          rw [show ((k + 1 : Nat) : Int) - 1 = k by omega, hx]
          omega
        · have : 2 ^ (x + 1) ≤ 2 ^ 6 := Nat.pow_le_pow_right (by omega) (by omega)
          omega
    · cases h
theorem newR_list {a b c d e : Int} {l : List S74} {load : List Int} {s : Nat} (h : newR a b c d e l load = .ok s) : (bitsOf s).map Int.ofNat = load ∧ s < 64 :=
  setL_list (check_ok (newR_ok h).1).len _ _ _ _ (by omega) (newR_ok h).2 (by simp [bitsOf]) (by omega) (by simp) (by omega) (by omega)
end Go.Proofs.YtbijamlgcebgeaaDoor.Hand

-- part HT
namespace Go.Proofs.YtbijamlgcebgeaaDoor.Hand
open Go.RowKit Go.Shelf Go.Sort Go.Proofs.YtbijamlgcebgeaaDoorW.PrintWords Go.Proofs.YtbijamlgcebgeaaDoorW.PrintMore Go.Proofs.YtbijamlgcebgeaaDoor.Q
set_option maxRecDepth 100000 in
set_option maxHeartbeats 1000000 in
theorem heat_exp (a b c d e : Int) (l : List S74) (load : List Int) (A1 A2 : Option Addr) (c1 c2 : Nat) (w : World) (hT : TabW w) (hr1 : Kd.C k74 w A1 l.length l) (hr2 : Kd.C (Kd.int .i64) w A2 load.length load) :
    Calls Tryd.prog 19 #[.agg #[.int .i64 a, .int .i64 b, .int .i64 c, .int .i64 d, .int .i64 e], .slice A1 l.length c1, .slice A2 load.length c2] w fun e_ w' => e_ = .returned (.tuple #[.agg #[.int .i64 (heatR a b c d e l load).1, .int .i64 (heatR a b c d e l load).2.1], .int .i64 (heatR a b c d e l load).2.2]) ∧ Below w.heap.size w w' := by
  obtain ⟨r, hr⟩ : ∃ r, newR a b c d e l load = r := ⟨_, rfl⟩
  have hnew := new_calls a b c d e l load A1 A2 c1 c2 ((w.alloc (.cells #[.int .i64 a, .int .i64 b, .int .i64 c, .int .i64 d, .int .i64 e] 23)).alloc (.cells #[.int .i64 0, .int .i64 0] 36)) (Kd.C_alloc (Kd.C_alloc hr1 _) _) (Kd.C_alloc (Kd.C_alloc hr2 _) _)
  rw [hr] at hnew
  have Hnew := Lib.hid hnew
  clear hnew
  have hbox : Box ((w.alloc (.cells #[.int .i64 a, .int .i64 b, .int .i64 c, .int .i64 d, .int .i64 e] 23)).alloc (.cells #[.int .i64 0, .int .i64 0] 36)) (w.heap.size + 1) #[.int .i64 0, .int .i64 0] 36 := Box.new' _ _ _ (by simp)
  have hbl0 : Below w.heap.size w ((w.alloc (.cells #[.int .i64 a, .int .i64 b, .int .i64 c, .int .i64 d, .int .i64 e] 23)).alloc (.cells #[.int .i64 0, .int .i64 0] 36)) := ((Below.refl _ _).alloc (Nat.le_refl _) _).alloc (by simp) _
  cases r with
  | error x =>
    have hx := newR_err hr
    have h1 : (x != 0) = true := by simp [hx]
    have hg : Hid (heatR a b c d e l load = (0, 0, x)) := Lib.hid (by unfold heatR; rw [hr])
    rw [hg.out]
    clear hg hr hx
    go_enter Tryd.func19, Tryd.ntmps19
    go_wp2_with fail
    refine Hnew.out.mono ?_
    rintro e_ w1 ⟨rfl, hb1⟩
    have hB1 := hbl0.trans (hb1.mono hbl0.size)
    have bx := hbox.step hb1
    have c0 : w1.cell? ⟨w.heap.size + 1, 0, none⟩ = some (.int .i64 0) := bx.cell 0 rfl
    have c1 : w1.cell? ⟨w.heap.size + 1, 1, none⟩ = some (.int .i64 0) := bx.cell 1 rfl
    have f0 : w1.frozen? ⟨w.heap.size + 1, 0, none⟩ = false := bx.frozen 0
    have f1 : w1.frozen? ⟨w.heap.size + 1, 1, none⟩ = false := bx.frozen 1
    go_wp2
    exact bodyPost_ret (v := .tuple #[.agg #[.int .i64 0, .int .i64 0], .int .i64 x]) (results19 rfl ((bx.set 0 (.int .i64 0)).set 1 (.int .i64 0)) rfl) rfl ⟨rfl, (hB1.setCell (p := ⟨w.heap.size + 1, 0, none⟩) (by simp) _).setCell (p := ⟨w.heap.size + 1, 1, none⟩) (by simp) _⟩
  | ok s =>
    have hbits := newR_bits hr
    have hF := check_ok (newR_ok hr).1
    obtain ⟨lo, hlo⟩ : ∃ v, (heatB l (bitsOf s)).1 = v := ⟨_, rfl⟩
    obtain ⟨hi, hhi⟩ : ∃ v, (heatB l (bitsOf s)).2 = v := ⟨_, rfl⟩
    have hg : Hid (heatR a b c d e l load = if hi < lo then (0, 0, 7) else (lo, hi, 0)) := Lib.hid (by unfold heatR; rw [hr]; dsimp only; rw [hlo, hhi])
    have Hlo := Lib.hid hlo
    have Hhi := Lib.hid hhi
    clear hlo hhi hr
    by_cases hh : hi < lo
    · have hd : decide (hi < lo) = true := decide_eq_true hh
      rw [hg.out, if_pos hh]
      clear hg
      go_enter Tryd.func19, Tryd.ntmps19
      go_wp2_with fail
      refine Hnew.out.mono ?_
      rintro e_ w1 ⟨v, rfl, hs, B, M, rfl, hB, hM, hfu, hme, hb1⟩
      have hB1 := hbl0.trans (hb1.mono hbl0.size)
      have bx := hbox.step hb1
      have hT1 := ((hT.alloc _).alloc _).below hb1
      go_wp2_with fail
      refine (heat_calls _ hF s hs hbits B M _ hT1 hfu).mono ?_
      rintro e_ w2 ⟨rfl, hb2⟩
      rw [show (heatB (mkF a b c d e l).l (bitsOf s)).1 = lo from Hlo.out, show (heatB (mkF a b c d e l).l (bitsOf s)).2 = hi from Hhi.out]
      have hB2 := hB1.trans (hb2.mono hB1.size)
      have bx2 := bx.step hb2
      have c0 : w2.cell? ⟨w.heap.size + 1, 0, none⟩ = some (.int .i64 0) := bx2.cell 0 rfl
      have c1 : w2.cell? ⟨w.heap.size + 1, 1, none⟩ = some (.int .i64 0) := bx2.cell 1 rfl
      have f0 : w2.frozen? ⟨w.heap.size + 1, 0, none⟩ = false := bx2.frozen 0
      have f1 : w2.frozen? ⟨w.heap.size + 1, 1, none⟩ = false := bx2.frozen 1
      have hlt2 := bx2.lt
      go_wp2
      exact bodyPost_ret (v := .tuple #[.agg #[.int .i64 0, .int .i64 0], .int .i64 7]) (results19 rfl (((bx2.set 0 (.int .i64 0)).set 1 (.int .i64 0)).alloc _) rfl) rfl ⟨rfl, ((hB2.setCell (p := ⟨w.heap.size + 1, 0, none⟩) (by simp) _).setCell (p := ⟨w.heap.size + 1, 1, none⟩) (by simp) _).alloc (by simp [World.setCell]; exact hB2.size) _⟩
    · have hd : decide (hi < lo) = false := decide_eq_false hh
      rw [hg.out, if_neg hh]
      clear hg
      go_enter Tryd.func19, Tryd.ntmps19
      go_wp2_with fail
      refine Hnew.out.mono ?_
      rintro e_ w1 ⟨v, rfl, hs, B, M, rfl, hB, hM, hfu, hme, hb1⟩
      have hB1 := hbl0.trans (hb1.mono hbl0.size)
      have bx := hbox.step hb1
      have hT1 := ((hT.alloc _).alloc _).below hb1
      go_wp2_with fail
      refine (heat_calls _ hF s hs hbits B M _ hT1 hfu).mono ?_
      rintro e_ w2 ⟨rfl, hb2⟩
      rw [show (heatB (mkF a b c d e l).l (bitsOf s)).1 = lo from Hlo.out, show (heatB (mkF a b c d e l).l (bitsOf s)).2 = hi from Hhi.out]
      have hB2 := hB1.trans (hb2.mono hB1.size)
      have bx2 := bx.step hb2
      have c0 : w2.cell? ⟨w.heap.size + 1, 0, none⟩ = some (.int .i64 0) := bx2.cell 0 rfl
      have c1 : w2.cell? ⟨w.heap.size + 1, 1, none⟩ = some (.int .i64 0) := bx2.cell 1 rfl
      have f0 : w2.frozen? ⟨w.heap.size + 1, 0, none⟩ = false := bx2.frozen 0
      have f1 : w2.frozen? ⟨w.heap.size + 1, 1, none⟩ = false := bx2.frozen 1
      have hlt2 := bx2.lt
      go_wp2
      exact bodyPost_ret (v := .tuple #[.agg #[.int .i64 lo, .int .i64 hi], .int .i64 0]) (results19 rfl (((bx2.set 0 (.int .i64 lo)).set 1 (.int .i64 hi)).alloc _) rfl) rfl ⟨rfl, ((hB2.setCell (p := ⟨w.heap.size + 1, 0, none⟩) (by simp) _).setCell (p := ⟨w.heap.size + 1, 1, none⟩) (by simp) _).alloc (by simp [World.setCell]; exact hB2.size) _⟩
end Go.Proofs.YtbijamlgcebgeaaDoor.Hand

-- part HW
namespace Go.Proofs.YtbijamlgcebgeaaDoor.Hand
open Go.RowKit Go.Shelf Go.Sort Go.Proofs.YtbijamlgcebgeaaDoorW.PrintWords Go.Proofs.YtbijamlgcebgeaaDoorW.PrintMore Go.Proofs.YtbijamlgcebgeaaDoor.Q
attribute [local go_sem] Oper.semAt_some
/-- A list of integers of the call's own. -/
def OwnI (W : World) (n₀ : Nat) (v : Value) (xs : List Int) : Prop := W.ownsRow n₀ 3 1 v xs.length (xs.map (Value.int .i64))
theorem OwnI.R {W : World} {n₀ : Nat} {v : Value} {xs : List Int} (h : OwnI W n₀ v xs) : Kd.R (Kd.int .i64) 3 W n₀ (fun _ => True) v xs := by
  refine ⟨fun _ _ => trivial, _, h, by show _ = _ * 1; simp, fun j p hj => ?_⟩
  have : ((xs.map (Value.int .i64)).drop (j * 1)).take 1 = [Value.int .i64 p] := by
    have hl : j < xs.length := (List.getElem?_eq_some_iff.1 hj).1
    have he : xs[j] = p := (List.getElem?_eq_some_iff.1 hj).2
    rw [Nat.mul_one, List.drop_eq_getElem_cons (by simpa using hl)]
    simp [he]
  exact this
def ilist (s : Nat) : List Int := (bitsOf s).map Int.ofNat
theorem OwnI.keep {W W' : World} {n₀ : Nat} {v : Value} {xs : List Int} (h : OwnI W n₀ v xs) (hk : ∀ (k : Nat) (o : Obj), W.heap[k]? = some o → bookObj o = false → W'.heap[k]? = some o) : OwnI W' n₀ v xs := by
  refine ⟨h.1, ?_⟩
  rcases h.2 with h | ⟨g, cap, cur, hv, hb, hg, r⟩
  · exact .inl h
  · exact .inr ⟨g, cap, cur, hv, hb, hk g _ hg rfl, r⟩
theorem OwnI.inert {B : Nat} {W W' : World} {n₀ : Nat} {v : Value} {xs : List Int} (h : OwnI W n₀ v xs) (hi : Inert B W W') : OwnI W' n₀ v xs := h.keep fun k o hk hb => hi.keep k o hk (.inr hb)
theorem OwnI.ne {W : World} {n₀ : Nat} {v : Value} {xs : List Int} (h : OwnI W n₀ v xs) {b : Nat} {vs : Array Value} {t : TypeId} (hb : Box W b vs t) (ht : t ≠ 3) : some b ≠ v.ownBlock := by
  intro e
  rcases h.2 with ⟨rfl, _⟩ | ⟨g, cap, cur, rfl, _, hg, _⟩
  · cases e
  · have : b = g := by simpa [Value.ownBlock] using e
    subst this
    unfold Box at hb
    rw [hb] at hg
    cases hg
    exact ht rfl
theorem OwnI.far {W : World} {n₀ : Nat} {v : Value} {xs : List Int} (h : OwnI W n₀ v xs) {b : Nat} {vs : Array Value} {t : TypeId} (hb : Box W b vs t) (ht : t ≠ 3) (i : Nat) (u : Value) : OwnI (W.setCell ⟨b, i, none⟩ u) n₀ v xs := by
  have hne := h.ne hb ht
  refine ⟨h.1, ?_⟩
  rcases h.2 with h | ⟨g, cap, cur, rfl, hb, hg, r⟩
  · exact .inl h
  · refine .inr ⟨g, cap, cur, rfl, hb, ?_, r⟩
    have : g ≠ b := fun e => hne (by simp [Value.ownBlock, e])
    exact (Below.heap_setCell W ⟨b, i, none⟩ u g this).trans hg
theorem KeepBk.grown {W W' : World} {n₀ : Nat} {v : Value} {xs : List Int} (h : OwnI W n₀ v xs) (hg : W.grownBy W' v.ownBlock) : KeepBk W W' := fun k o hk ho => by
  refine (hg.block k (lt_of_block hk) (fun e => ?_)).trans hk
  rcases h.2 with ⟨rfl, _⟩ | ⟨g, cap, cur, rfl, _, hg', _⟩
  · cases e
  · have : k = g := by simpa [Value.ownBlock] using e
    subst this
    rw [hk] at hg'
    cases hg'
    cases ho
theorem Box.grown {W W' : World} {n₀ : Nat} {v : Value} {xs : List Int} (h : OwnI W n₀ v xs) (hg : W.grownBy W' v.ownBlock) {b : Nat} {vs : Array Value} {t : TypeId} (hb : Box W b vs t) (ht : t ≠ 3) : Box W' b vs t :=
  (hg.block b hb.lt (h.ne hb ht)).trans hb
theorem OwnI.below {W W' w : World} {n₀ : Nat} {v : Value} {xs : List Int} (h : OwnI W n₀ v xs) (hg : W.grownBy W' v.ownBlock) (hb : Below n₀ w W) (hn : n₀ ≤ W.heap.size) : Below n₀ w W' := by
  refine ⟨hg.os.trans hb.os, hg.tape.trans hb.tape, hg.output.trans hb.output, Nat.le_trans hb.size hg.size, fun k hk => ?_⟩
  refine (hg.block k (by omega) (fun e => ?_)).trans (hb.block k hk)
  rcases h.2 with ⟨rfl, _⟩ | ⟨g, cap, cur, rfl, hbg, _⟩
  · cases e
  · have : k = g := by simpa [Value.ownBlock] using e
    omega
theorem OwnI.slice {W : World} {n₀ : Nat} {v : Value} {xs : List Int} (h : OwnI W n₀ v xs) : ∃ A c, v = .slice A xs.length c := by
  rcases h.2 with ⟨rfl, h0⟩ | ⟨g, cap, cur, rfl, _⟩
  · exact ⟨none, 0, by rw [h0]⟩
  · exact ⟨_, _, rfl⟩
set_option maxRecDepth 100000 in
set_option maxHeartbeats 2000000 in
theorem list_calls (s : Nat) (hs : s < 64) (w : World) (hT : TabW w) :
    Calls Tryd.prog 70 #[.int .u64 s] w fun e w' => ∃ v0, e = .returned v0 ∧ Kd.R (Kd.int .i64) 3 w' w.heap.size (fun _ => True) v0 (ilist s) ∧ Below w.heap.size w w' := by
  refine (callsIn_wide (n := 0)).1 ?_
  refine callsIn_of_wp_marks Tryd.func70 rfl trivial ?_
  simp only [Tryd.ntmps70, List.size_toArray, List.length_cons, List.length_nil, Nat.reduceAdd, Nat.reduceSub, Array.replicate_succ, Array.replicate_zero, List.push_toArray, List.append_toArray, List.nil_append, List.cons_append]
  gi_wp2
  refine wpIn_range (gf := 90) (first := #[.int .u64 s]) (lb := #[]) rfl (enters_of Tryd.func90 (by kernel_rfl) rfl) (all_iter s hs) (by rintro x args W rfl; rfl) (fun A B h hi => hi.tab h) (fun A B e => by rw [e]; exact KeepBk.refl _)
    (fun pre W => ∃ v, Box W w.heap.size #[v] 25 ∧ OwnI W w.heap.size v (pre.map Int.ofNat) ∧ Below w.heap.size w W)
    (fun _ _ _ => False)
    (fun pre X Y ⟨v, h1, h2, h3⟩ hi => ⟨v, hi.box h1, h2.inert hi, Inert.below h3 (by simp) (Nat.le_refl _) hi⟩)
    (fun pre X Y h e => by rw [← e]; exact h) (fun _ _ _ _ h _ => h) (fun _ _ _ _ h _ => h)
    ⟨.slice none 0 0, Box.new _ _ _, World.ownsRow_nil _ _ _ _, (Below.refl _ _).alloc (Nat.le_refl _) _⟩ (hT.alloc _)
    (fun x a' _ => ∃ b1 b2, a' = { tmps := #[.int .u64 s, b1, .pointer (some ⟨w.heap.size, 0, none⟩), .int .i64 x, .int .u64 s, .func (.func 90) #[.int .u64 s] #[], .int .i64 x, b2, undef, undef, undef, undef], defers := [] })
    (fun _ _ _ _ h _ => h) ?assign ?body ?done ?stop
  case assign =>
    rintro l pre x args W K hi hv hp rfl hK
    gi_wp2
    exact hK _ _ (KeepBk.refl _) hi hv ⟨_, _, rfl⟩
  case body =>
    rintro l pre x a' W hl hr ⟨v, h1, h2, h3⟩ hv hp ⟨b1, b2, rfl⟩
    obtain ⟨A, c, rfl⟩ := h2.slice
    have c0 : W.cell? ⟨w.heap.size, 0, none⟩ = some (.slice A (pre.map Int.ofNat).length c) := h1.cell 0 rfl
    have f0 : W.frozen? ⟨w.heap.size, 0, none⟩ = false := h1.frozen 0
    have hpl : pre.length < 6 := by
      obtain ⟨z, hz⟩ := hp
      have := bitsOf_len s
      rw [← hz] at this
      simp at this
      omega
    obtain ⟨n, hn⟩ : ∃ n, (pre.map Int.ofNat).length = n := ⟨_, rfl⟩
    have hn6 : n < 6 := by rw [← hn]; simpa using hpl
    have h2' : W.ownsRow w.heap.size 3 1 (.slice A n c) n ((pre.map Int.ofNat).map (Value.int .i64)) := by rw [← hn]; exact h2
    rw [hn] at c0 h1 h2
    clear hn hpl
    obtain ⟨i3, hi3, hz3⟩ := Option.map_eq_some_iff.1 info3
    simp only [Prod.mk.injEq] at hz3
    obtain ⟨hz0, hz1, hz2⟩ := hz3
    gi_wp2_with (gi_at_builtin; refine wpListIn_append_own _ rfl _ _ 25 rfl w.heap.size 3 i3 (.int .i64 0) 1 8 Tryd.underlying25 hi3 hz0 hz1 hz2 rfl (by decide) _ _ _ rfl (World.ownsRow.alloc h2' _) ⟨W.heap.size, 0, none⟩ 1 1 [.int .i64 x] rfl rfl ?c1 ?c2 ?c3 ?c4 ?c5 ?_)
    case c1 =>
      intro j u hj
      match j, hj with
      | 0, hj => simp at hj; subst hj; simp [Addr.add]
    case c2 => intro u hu; simp at hu; subst hu; rfl
    case c3 => unfold maxLen; omega
    case c4 => omega
    case c5 => have := h3.size; simp; omega
    intro v1 W1 hown hgrow _
    have hownI : OwnI W1 w.heap.size v1 ((pre ++ [x]).map Int.ofNat) := by
      have hl : ((pre ++ [x]).map Int.ofNat).length = n + 1 := by
        have := h2'.1
        simp at this ⊢
        exact this
      unfold OwnI
      rw [hl]
      simpa using hown
    have h2a : OwnI (W.alloc (.cells #[.int .i64 x] 3)) w.heap.size (.slice A n c) (pre.map Int.ofNat) := World.ownsRow.alloc h2 _
    have kb : KeepBk W W1 := (KeepBk.alloc _ _).trans (KeepBk.grown h2a hgrow)
    have hb1 : Box W1 w.heap.size #[.slice A n c] 25 := Box.grown h2a hgrow (h1.alloc _) (by decide)
    have hb3 : Below w.heap.size w W1 := OwnI.below h2a hgrow (h3.alloc h3.size _) (by have := h3.size; simp; omega)
    have htab : TabW W1 := hT.below hb3
    obtain ⟨A1, c1, rfl⟩ := hownI.slice
    obtain ⟨m, hm⟩ : ∃ m, ((pre ++ [x]).map Int.ofNat).length = m := ⟨_, rfl⟩
    rw [hm] at hownI
    have f1 : W1.frozen? ⟨w.heap.size, 0, none⟩ = false := hb1.frozen 0
    have c1' : W1.cell? ⟨w.heap.size, 0, none⟩ = some (.slice A n c) := hb1.cell 0 rfl
    rw [hm]
    have hwl := hT.1
    clear hown hgrow h2a h2' h2 h1 c0 f0 hz0 hz1 hz2 hi3 hm
    gi_wp2
    refine ⟨kb.trans (KeepBk.setCell _ _ _), htab.setCell (by omega) 0 _, _, hb1.set 0 _, hownI.far hb1 (by decide) 0 _, hb3.setCell (by simp) _⟩
  case done =>
    rintro D W hD ⟨v, h1, h2, h3⟩ hv hK
    obtain ⟨A, c, rfl⟩ := h2.slice
    have c0 : W.cell? ⟨w.heap.size, 0, none⟩ = some (.slice A ((bitsOf s).map Int.ofNat).length c) := h1.cell 0 rfl
    have f0 : W.frozen? ⟨w.heap.size, 0, none⟩ = false := h1.frozen 0
    obtain ⟨m, hm⟩ : ∃ m, ((bitsOf s).map Int.ofNat).length = m := ⟨_, rfl⟩
    rw [hm] at h1 h2 c0
    have hR : Hid ((bitsOf s).map Int.ofNat = ilist s) := Lib.hid rfl
    clear hm
    gi_wp2
    have hK2 := KeepBk.setCell _ ⟨w.heap.size, 0, none⟩ (.slice A m c) _ _ hK rfl
    have hb2 := ((h1.set 0 (.slice A m c)).put hK2 (.deferred none))
    have ho2 := (h2.far h1 (by decide) 0 (.slice A m c)).inert (Inert.putObj (B := 0) (o' := .deferred none) hK2 (Nat.zero_le _) rfl)
    refine leaveM (.slice A m c) hK2 ?_ ⟨_, rfl, hR.out ▸ ho2.R, ?_⟩
    · generalize (W.setCell { block := w.heap.size, off := 0 } (Value.slice A m c)).putObj D (Obj.deferred none) = W2 at hb2
      have d0 : W2.cell? ⟨w.heap.size, 0, none⟩ = some (.slice A m c) := hb2.cell 0 rfl
      clear hb2 hK2 ho2
      simp [results, Tryd.results70, go_sem, d0]
    · exact Below.put (h3.setCell (p := ⟨w.heap.size, 0, none⟩) (by simp) _) (by simp at hD; omega)
  case stop =>
    rintro D c pre W _ _ h _
    exact h.elim
end Go.Proofs.YtbijamlgcebgeaaDoor.Hand

-- part HX
namespace Go.Proofs.YtbijamlgcebgeaaDoor.Hand
open Go.RowKit Go.Shelf Go.Sort Go.Proofs.YtbijamlgcebgeaaDoorW.PrintWords Go.Proofs.YtbijamlgcebgeaaDoorW.PrintMore Go.Proofs.YtbijamlgcebgeaaDoor.Q
/-- A furnace made in w: what its calls leave. -/
structure Kq (M : Nat) (F : Furn) (w W : World) : Prop where
  k : Kp M w W
  m : Memo W M F
theorem Kq.start {M : Nat} {F : Furn} {w : World} (h : Memo w M F) : Kq M F w w := ⟨.refl _ _, h⟩
theorem Kq.kp {M : Nat} {F : Furn} {w W W' : World} (h : Kq M F w W) (k : Kp M W W') (hm : Memo W' M F) : Kq M F w W' := ⟨h.k.trans k, hm⟩
theorem Kq.step {M : Nat} {F : Furn} {w W W' : World} (h : Kq M F w W) (hb : Below W.heap.size W W') : Kq M F w W' := h.kp (.of_below hb) (h.m.below hb)
theorem Kq.alloc {M : Nat} {F : Furn} {w W : World} (h : Kq M F w W) (o : Obj) : Kq M F w (W.alloc o) := h.step ((Below.refl _ _).alloc (Nat.le_refl _) _)
theorem OwnI.kp {W W' : World} {n₀ M : Nat} {v : Value} {xs : List Int} {F : Furn} (h : OwnI W n₀ v xs) (hm : Memo W M F) (k : Kp M W W') : OwnI W' n₀ v xs := by
  refine ⟨h.1, ?_⟩
  rcases h.2 with h | ⟨g, cap, cur, hv, hb, hg, r⟩
  · exact .inl h
  · refine .inr ⟨g, cap, cur, hv, hb, (k.block g (lt_of_block hg) (fun e => ?_)).trans hg, r⟩
    obtain ⟨es, c, hM⟩ := hm.isMap
    rw [e, hM] at hg
    cases hg
theorem OwnI.nil (W : World) (n₀ : Nat) : OwnI W n₀ (.slice none 0 0) [] := World.ownsRow_nil _ _ _ _
theorem OwnI.below' {W W' : World} {n₀ : Nat} {v : Value} {xs : List Int} (h : OwnI W n₀ v xs) (hb : Below W.heap.size W W') : OwnI W' n₀ v xs := by
  refine ⟨h.1, ?_⟩
  rcases h.2 with h | ⟨g, cap, cur, hv, hbg, hg, r⟩
  · exact .inl h
  · exact .inr ⟨g, cap, cur, hv, hbg, (hb.block g (lt_of_block hg)).trans hg, r⟩
/-- The row of what is known is another block. -/
theorem Kq.grown {M : Nat} {F : Furn} {w W W' : World} (h : Kq M F w W) (hM : M < w.heap.size) {v : Value} {xs : List Int} (ho : OwnI W w.heap.size v xs) (hg : W.grownBy W' v.ownBlock) : Kq M F w W' := by
  have hne : ∀ k, k < w.heap.size → some k ≠ v.ownBlock := fun k hk e => by
    rcases ho.2 with ⟨rfl, _⟩ | ⟨g, cap, cur, rfl, hbg, _⟩
    · cases e
    · have : k = g := by simpa [Value.ownBlock] using e
      omega
  obtain ⟨es, cl, h3, h4⟩ := h.m
  exact ⟨⟨hg.os.trans h.k.os, hg.tape.trans h.k.tape, hg.output.trans h.k.output, Nat.le_trans h.k.size hg.size, fun k hk hkM => (hg.block k (Nat.lt_of_lt_of_le hk h.k.size) (hne k hk)).trans (h.k.block k hk hkM)⟩,
    es, cl, (hg.block M (lt_of_block h3) (hne M hM)).trans h3, h4⟩
theorem OwnI.lower {W : World} {n m : Nat} {v : Value} {xs : List Int} (h : OwnI W n v xs) (hm : m ≤ n) : OwnI W m v xs := by
  refine ⟨h.1, ?_⟩
  rcases h.2 with h | ⟨g, cap, cur, hv, hbg, r⟩
  · exact .inl h
  · exact .inr ⟨g, cap, cur, hv, by omega, r⟩
/-- The signs below k that still go. -/
def stillL (F : Furn) (s k : Nat) : List Nat := (List.range k).filter fun i => !s.testBit i && goesB F (s ||| 2 ^ i)
theorem stillL_succ (F : Furn) (s k : Nat) : stillL F s (k + 1) = stillL F s k ++ (if (!s.testBit k && goesB F (s ||| 2 ^ k)) = true then [k] else []) := by
  unfold stillL
  rw [List.range_succ, List.filter_append]
  congr 1
  by_cases h : (!s.testBit k && goesB F (s ||| 2 ^ k)) = true
  · simp [h]
  · simp only [List.filter_cons, List.filter_nil, h]
/-- What Still returns. -/
def stillR (a b c d e : Int) (l : List S74) (load : List Int) : List Int × Int :=
  match newR a b c d e l load with
  | .error x => ([], x)
  | .ok s => ((stillL (mkF a b c d e l) s l.length).map Int.ofNat, 0)
set_option maxRecDepth 100000 in
set_option maxHeartbeats 1000000 in
theorem still_exp (a b c d e : Int) (l : List S74) (load : List Int) (A1 A2 : Option Addr) (c1 c2 : Nat) (w : World) (hT : TabW w) (hr1 : Kd.C k74 w A1 l.length l) (hr2 : Kd.C (Kd.int .i64) w A2 load.length load) :
    Calls Tryd.prog 27 #[.agg #[.int .i64 a, .int .i64 b, .int .i64 c, .int .i64 d, .int .i64 e], .slice A1 l.length c1, .slice A2 load.length c2] w fun e_ w' => ∃ v0_ : Value, e_ = .returned (.tuple #[v0_, .int .i64 (stillR a b c d e l load).2]) ∧ Kd.R (Kd.int .i64) 3 w' w.heap.size (fun _ => True) v0_ (stillR a b c d e l load).1 ∧ Below w.heap.size w w' := by
  obtain ⟨r, hr⟩ : ∃ r, newR a b c d e l load = r := ⟨_, rfl⟩
  have hnew := new_calls a b c d e l load A1 A2 c1 c2 (w.alloc (.cells #[.int .i64 a, .int .i64 b, .int .i64 c, .int .i64 d, .int .i64 e] 23)) (Kd.C_alloc hr1 _) (Kd.C_alloc hr2 _)
  rw [hr] at hnew
  have Hnew := Lib.hid hnew
  clear hnew
  cases r with
  | error x =>
    have hx := newR_err hr
    have h1 : (x != 0) = true := by simp [hx]
    have hg : Hid (stillR a b c d e l load = ([], x)) := Lib.hid (by unfold stillR; rw [hr])
    rw [hg.out]
    clear hg hr hx
    go_enter Tryd.func27, Tryd.ntmps27
    go_wp2_with fail
    refine Hnew.out.mono ?_
    rintro e_ w1 ⟨rfl, hb1⟩
    go_wp2
    go_ret2
    exact ⟨_, rfl, Kd.R_nil _ _ _ _ _, ((Below.refl _ _).alloc (Nat.le_refl _) _).trans (hb1.mono (by simp))⟩
  | ok s =>
    have hbits := newR_bits hr
    have hF := check_ok (newR_ok hr).1
    obtain ⟨n, hn⟩ : ∃ n, l.length = n := ⟨_, rfl⟩
    have hn6 : n ≤ 6 := by rw [← hn]; exact hF.len
    have hg : Hid (stillR a b c d e l load = ((stillL (mkF a b c d e l) s n).map Int.ofNat, 0)) := Lib.hid (by unfold stillR; rw [hr, hn])
    have hFl : Hid ((mkF a b c d e l).l.length = n) := Lib.hid hn
    rw [hg.out]
    rw [hn] at Hnew hbits ⊢
    clear hg hr hn hr1 hr2
    generalize mkF a b c d e l = F at *
    go_enter Tryd.func27, Tryd.ntmps27
    go_wp2_with fail
    refine Hnew.out.mono ?_
    rintro e_ w1 ⟨v, rfl, hs, B, M, rfl, hB, hM, hfu, hme, hb1⟩
    have hB1 : Below w.heap.size w w1 := ((Below.refl _ _).alloc (Nat.le_refl _) _).trans (hb1.mono (by simp))
    have hT1 : TabW w1 := (hT.alloc _).below hb1
    have hMw : M < w1.heap.size := by obtain ⟨es, cl, h, _⟩ := hme; exact lt_of_block h
    have hMw0 : w.heap.size ≤ M := by simp at hM; omega
    clear Hnew hb1 hB hM
    go_wp2
    go_loopw [6, 24] (fun v i W => ∃ k : Nat, k ≤ n ∧ i = .int .i64 k ∧ OwnI W w1.heap.size v ((stillL F s k).map Int.ofNat) ∧ Kq M F w1 W) (fun _ i _ => n - (intOf i).toNat)
    case atStart => exact ⟨0, Nat.zero_le _, rfl, OwnI.nil _ _, Kq.start hme⟩
    case round =>
      obtain ⟨k, hk, rfl, hown, hq⟩ := hrel
      by_cases hlt : k < n
      · have hk6 : k < 6 := by omega
        have hsucc := Lib.hid (stillL_succ F s k)
        have hTr := hq.k.tab hme hT1
        have hfr := hq.k.fu hme hfu
        cases hb : s.testBit k with
        | true =>
          go_wp2_with fail
          refine (has_calls s k hs hk6 _).mono ?_
          rintro e_ w3 ⟨rfl, rfl⟩
          rw [hb]
          go_wp2
          go_roundw
          case rel => exact ⟨k + 1, by omega, by go_num, by rw [hsucc.out, hb]; simpa using hown, hq⟩
          case measure => simp [intOf]; omega
        | false =>
          obtain ⟨hs2, hsb⟩ := or_bits s hs k hk6
          have hbits2 : ∀ i ∈ bitsOf (s ||| 2 ^ k), i < F.l.length := by
            intro i hi
            rw [mem_bitsOf, Nat.testBit_or, Bool.or_eq_true] at hi
            rcases hi.2 with h1 | h1
            · rw [hFl.out]
              exact hbits i (mem_bitsOf.2 ⟨hi.1, h1⟩)
            · rw [Nat.testBit_two_pow] at h1
              have : k = i := by simpa using h1
              rw [hFl.out]
              omega
          have hob := Lib.hid (or_bits2 s hs k hk6)
          clear hs2
          go_wp2_with fail
          refine (has_calls s k hs hk6 _).mono ?_
          rintro e_ w3 ⟨rfl, rfl⟩
          rw [hb]
          go_wp2_with fail
          rw [hob.out]
          refine (goes_calls F hF (s ||| 2 ^ k) hsb hbits2 B M _ hTr hfr hq.m).mono ?_
          rintro e_ w3 ⟨rfl, hm3, hk3⟩
          have hq3 := hq.kp hk3 hm3
          have hown3 := hown.kp hq.m hk3
          clear hTr hfr hm3 hk3 hq hown hbits2 hob
          obtain ⟨g, hg⟩ : ∃ g, goesB F (s ||| 2 ^ k) = g := ⟨_, rfl⟩
          rw [hg]
          have Hg := Lib.hid hg
          clear hg
          cases g with
          | false =>
            go_wp2
            go_roundw
            case rel => exact ⟨k + 1, by omega, by go_num, by rw [hsucc.out, hb, Hg.out]; simpa using hown3, hq3⟩
            case measure => simp [intOf]; omega
          | true =>
            obtain ⟨A, c, rfl⟩ := hown3.slice
            obtain ⟨m, hm⟩ : ∃ m, ((stillL F s k).map Int.ofNat).length = m := ⟨_, rfl⟩
            have hm6 : m ≤ 6 := by
              rw [← hm, List.length_map]
              have := List.length_filter_le (fun i => !s.testBit i && goesB F (s ||| 2 ^ i)) (List.range k)
              simp at this
              unfold stillL
              omega
            have ho' : w3.ownsRow w1.heap.size 3 1 (.slice A m c) m (((stillL F s k).map Int.ofNat).map (Value.int .i64)) := by rw [← hm]; exact hown3
            rw [hm] at hown3
            rw [hm]
            clear hm
            obtain ⟨i3, hi3, hz3⟩ := Option.map_eq_some_iff.1 info3
            simp only [Prod.mk.injEq] at hz3
            obtain ⟨hz0, hz1, hz2⟩ := hz3
            go_wp2_with (at_builtin; refine wpList_append_own _ rfl _ _ 25 rfl w1.heap.size 3 i3 (.int .i64 0) 1 8 Tryd.underlying25 hi3 hz0 hz1 hz2 rfl (by decide) _ _ _ rfl (World.ownsRow.alloc ho' _) ⟨w3.heap.size, 0, none⟩ 1 1 [.int .i64 k] rfl rfl ?c1 ?c2 ?c3 ?c4 ?c5 ?_)
            case c1 =>
              intro j u hj
              match j, hj with
              | 0, hj => simp at hj; subst hj; simp [Addr.add]
            case c2 => intro u hu; simp at hu; subst hu; rfl
            case c3 => unfold maxLen; omega
            case c4 => omega
            case c5 => have := hq3.k.size; simp; omega
            intro v1 w4 hown4 hgrow _
            have hl4 : ((stillL F s (k + 1)).map Int.ofNat).length = m + 1 := by
              have := ho'.1
              rw [hsucc.out, hb, Hg.out]
              simp at this ⊢
              exact this
            have hownI : OwnI w4 w1.heap.size v1 ((stillL F s (k + 1)).map Int.ofNat) := by
              unfold OwnI
              rw [hl4, hsucc.out, hb, Hg.out]
              simpa using hown4
            have h2a : OwnI (w3.alloc (.cells #[.int .i64 k] 3)) w1.heap.size (.slice A m c) ((stillL F s k).map Int.ofNat) := World.ownsRow.alloc hown3 _
            have hq4 := (hq3.alloc _).grown hMw h2a hgrow
            clear hown4 hgrow h2a ho' hown3 hi3 hz0 hz1 hz2 hl4 hsucc Hg
            go_wp2
            go_roundw
            case rel => exact ⟨k + 1, by omega, by go_num, hownI, hq4⟩
            case measure => simp [intOf]; omega
      · go_wp2
        go_ret2
        obtain rfl : k = n := by omega
        exact ⟨_, rfl, Kd.R_lower hown.R hB1.size, Below.kp hB1 hq.k hMw0 hB1.size⟩
end Go.Proofs.YtbijamlgcebgeaaDoor.Hand

-- part HY
namespace Go.Proofs.YtbijamlgcebgeaaDoor.Hand
open Go.RowKit Go.Shelf Go.Sort Go.Proofs.YtbijamlgcebgeaaDoorW.PrintWords Go.Proofs.YtbijamlgcebgeaaDoorW.PrintMore Go.Proofs.YtbijamlgcebgeaaDoor.Q
def barStep (F : Furn) (s best p : Nat) : Nat := if ((p &&& s == p) && befB p best && !goesB F p) = true then p else best
def barBest (F : Furn) (s k : Nat) : Nat := (List.range k).foldl (barStep F s) s
theorem barBest_succ (F : Furn) (s k : Nat) : barBest F s (k + 1) = barStep F s (barBest F s k) k := by simp [barBest, List.range_succ]
theorem andNot_bits : ∀ p : Nat, p < 64 → ∀ s : Nat, s < 64 → (bits .andNot .u64 (p : Int) (s : Int) == 0) = (p &&& s == p) := by decide +kernel
/-- What Bar returns. -/
def barR (a b c d e : Int) (l : List S74) (load : List Int) : List Int × Int :=
  match newR a b c d e l load with
  | .error x => ([], x)
  | .ok s => if goesB (mkF a b c d e l) s = true then ([], 6) else (ilist (barBest (mkF a b c d e l) s (s + 1)), 0)
set_option maxRecDepth 100000 in
set_option maxHeartbeats 1000000 in
theorem bar_exp (a b c d e : Int) (l : List S74) (load : List Int) (A1 A2 : Option Addr) (c1 c2 : Nat) (w : World) (hT : TabW w) (hr1 : Kd.C k74 w A1 l.length l) (hr2 : Kd.C (Kd.int .i64) w A2 load.length load) :
    Calls Tryd.prog 28 #[.agg #[.int .i64 a, .int .i64 b, .int .i64 c, .int .i64 d, .int .i64 e], .slice A1 l.length c1, .slice A2 load.length c2] w fun e_ w' => ∃ v0_ : Value, e_ = .returned (.tuple #[v0_, .int .i64 (barR a b c d e l load).2]) ∧ Kd.R (Kd.int .i64) 3 w' w.heap.size (fun _ => True) v0_ (barR a b c d e l load).1 ∧ Below w.heap.size w w' := by
  obtain ⟨r, hr⟩ : ∃ r, newR a b c d e l load = r := ⟨_, rfl⟩
  have hnew := new_calls a b c d e l load A1 A2 c1 c2 (w.alloc (.cells #[.int .i64 a, .int .i64 b, .int .i64 c, .int .i64 d, .int .i64 e] 23)) (Kd.C_alloc hr1 _) (Kd.C_alloc hr2 _)
  rw [hr] at hnew
  have Hnew := Lib.hid hnew
  clear hnew
  cases r with
  | error x =>
    have hx := newR_err hr
    have h1 : (x != 0) = true := by simp [hx]
    have hg : Hid (barR a b c d e l load = ([], x)) := Lib.hid (by unfold barR; rw [hr])
    rw [hg.out]
    clear hg hr hx
    go_enter Tryd.func28, Tryd.ntmps28
    go_wp2_with fail
    refine Hnew.out.mono ?_
    rintro e_ w1 ⟨rfl, hb1⟩
    go_wp2
    go_ret2
    exact ⟨_, rfl, Kd.R_nil _ _ _ _ _, ((Below.refl _ _).alloc (Nat.le_refl _) _).trans (hb1.mono (by simp))⟩
  | ok s =>
    have hbits := newR_bits hr
    have hF := check_ok (newR_ok hr).1
    have hg : Hid (barR a b c d e l load = if goesB (mkF a b c d e l) s = true then ([], 6) else (ilist (barBest (mkF a b c d e l) s (s + 1)), 0)) := Lib.hid (by unfold barR; rw [hr])
    have hbits' : ∀ i ∈ bitsOf s, i < (mkF a b c d e l).l.length := hbits
    clear hr hr1 hr2 hbits
    generalize mkF a b c d e l = F at *
    obtain ⟨q, hq⟩ : ∃ q, barR a b c d e l load = q := ⟨_, rfl⟩
    rw [hq] at hg ⊢
    clear hq
    obtain ⟨q1, q2⟩ := q
    go_enter Tryd.func28, Tryd.ntmps28
    go_wp2_with fail
    refine Hnew.out.mono ?_
    rintro e_ w1 ⟨v, rfl, hs, B, M, rfl, hB, hM, hfu, hme, hb1⟩
    have hB1 : Below w.heap.size w w1 := ((Below.refl _ _).alloc (Nat.le_refl _) _).trans (hb1.mono (by simp))
    have hT1 : TabW w1 := (hT.alloc _).below hb1
    have hMw0 : w.heap.size ≤ M := by simp at hM; omega
    clear Hnew hb1 hB hM
    go_wp2_with fail
    refine (goes_calls F hF s hs hbits' B M _ hT1 hfu hme).mono ?_
    rintro e_ w2 ⟨rfl, hm2, hk2⟩
    have hq2 : Kq M F w1 w2 := ⟨hk2, hm2⟩
    obtain ⟨g, hgo⟩ : ∃ g, goesB F s = g := ⟨_, rfl⟩
    have hq3 := hg.out
    rw [hgo] at hq3
    rw [hgo]
    clear hgo hg
    cases g with
    | true =>
      obtain ⟨rfl, rfl⟩ : q1 = [] ∧ q2 = 6 := by simpa using hq3
      clear hq3
      go_wp2
      go_ret2
      exact ⟨_, rfl, Kd.R_nil _ _ _ _ _, Below.kp hB1 hq2.k hMw0 hB1.size⟩
    | false =>
      clear hm2 hk2
      obtain ⟨hq4, rfl⟩ : q1 = ilist (barBest F s (s + 1)) ∧ q2 = 0 := by simpa using hq3
      have Hq := Lib.hid hq4
      clear hq3 hq4
      go_wp2
      go_loopw [11, 32] (fun v i W => ∃ k best : Nat, k ≤ s + 1 ∧ i = .int .u64 k ∧ v = .int .u64 best ∧ best < 64 ∧ Hid (barBest F s k = best) ∧ Kq M F w1 W) (fun _ i _ => s + 1 - (intOf i).toNat)
      case atStart => exact ⟨0, s, Nat.zero_le _, rfl, rfl, hs, Lib.hid rfl, hq2⟩
      case round =>
        obtain ⟨k, best, hk, rfl, rfl, hbl, hbest, hq⟩ := hrel
        by_cases hlt : k < s + 1
        · have hk6 : k < 64 := by omega
          have hsucc := Lib.hid (barBest_succ F s k)
          have hTr := hq.k.tab hme hT1
          have hfr := hq.k.fu hme hfu
          have han := andNot_bits k hk6 s hs
          obtain ⟨b1, hb1⟩ : ∃ b1, (k &&& s == k) = b1 := ⟨_, rfl⟩
          rw [hb1] at han
          have Hb1 := Lib.hid hb1
          cases b1 with
          | false =>
            clear hb1
            go_wp2
            go_roundw
            case rel => exact ⟨k + 1, best, by omega, by go_num, rfl, hbl, Lib.hid (by rw [hsucc.out, hbest.out]; unfold barStep; rw [Hb1.out]; simp), hq⟩
            case measure => simp [intOf]; omega
          | true =>
            have hsub : ∀ i ∈ bitsOf k, i < F.l.length := by
              intro i hi
              rw [mem_bitsOf] at hi
              refine hbits' i (mem_bitsOf.2 ⟨hi.1, ?_⟩)
              have h1 : k &&& s = k := by simpa using hb1
              have h2 := hi.2
              rw [← h1, Nat.testBit_and, Bool.and_eq_true] at h2
              exact h2.2
            clear hb1
            go_wp2_with fail
            refine (isBefore_calls k best hk6 hbl _).mono ?_
            rintro e_ w3 ⟨rfl, rfl⟩
            obtain ⟨b2, hb2⟩ : ∃ b2, befB k best = b2 := ⟨_, rfl⟩
            rw [hb2]
            have Hb2 := Lib.hid hb2
            clear hb2
            cases b2 with
            | false =>
              go_wp2
              go_roundw
              case rel => exact ⟨k + 1, best, by omega, by go_num, rfl, hbl, Lib.hid (by rw [hsucc.out, hbest.out]; unfold barStep; rw [Hb1.out, Hb2.out]; simp), hq⟩
              case measure => simp [intOf]; omega
            | true =>
              go_wp2_with fail
              refine (goes_calls F hF k hk6 hsub B M _ hTr hfr hq.m).mono ?_
              rintro e_ w3 ⟨rfl, hm3, hk3⟩
              have hq3 := hq.kp hk3 hm3
              clear hTr hfr hm3 hk3 hq hsub han
              obtain ⟨b3, hb3⟩ : ∃ b3, goesB F k = b3 := ⟨_, rfl⟩
              rw [hb3]
              have Hb3 := Lib.hid hb3
              clear hb3
              cases b3 with
              | true =>
                go_wp2
                go_roundw
                case rel => exact ⟨k + 1, best, by omega, by go_num, rfl, hbl, Lib.hid (by rw [hsucc.out, hbest.out]; unfold barStep; rw [Hb1.out, Hb2.out, Hb3.out]; simp), hq3⟩
                case measure => simp [intOf]; omega
              | false =>
                go_wp2
                go_roundw
                case rel => exact ⟨k + 1, k, by omega, by go_num, rfl, hk6, Lib.hid (by rw [hsucc.out, hbest.out]; unfold barStep; rw [Hb1.out, Hb2.out, Hb3.out]; simp), hq3⟩
                case measure => simp [intOf]; omega
        · obtain rfl : k = s + 1 := by omega
          go_wp2_with fail
          refine (list_calls best hbl _ (hq.k.tab hme hT1)).mono ?_
          rintro e_ w3 ⟨v0, rfl, hR, hb3⟩
          have HR := Lib.hid hR
          clear hR
          go_wp2
          go_ret2
          have hB2 : Below w.heap.size w wr := Below.kp hB1 hq.k hMw0 hB1.size
          have e : barBest F s (s + 1) = best := hbest.out
          rw [Hq.out, e]
          exact ⟨_, rfl, Kd.R_lower HR.out hB2.size, hB2.trans (hb3.mono hB2.size)⟩
end Go.Proofs.YtbijamlgcebgeaaDoor.Hand

/- What the laws about the fork share: words about rows and regions, the walks of the package fork and of the references, and what they compute. Part 4 of 4. -/
import Derived.Test.YtbijamlgcebgeaaDoorD3
import Derived.Test.YtbijamlgcebgeaaDoorRows
import Derived.WalkKit
import Derived.ProofKit
import Derived.OpenShut
import Derived.Deep.DeepHandedRow
import Derived.Deep.Slices
import Derived.Lib.LaidTab
import Derived.Stop.LaidErr
import Derived.Below
import Derived.ChangeOld
import Derived.SizedLaws
set_option linter.unusedVariables false
set_option linter.unusedSimpArgs false
-- part QH
namespace Go.Proofs.YtbijamlgcebgeaaDoor.Q
open Go.RowKit Go.Proofs.YtbijamlgcebgeaaDoorW.PrintWords Go.Proofs.YtbijamlgcebgeaaDoorW.PrintLast Go.Proofs.YtbijamlgcebgeaaDoorW.PrintMore
attribute [local go_sem] max2_int min2_int max_two min_two max_three min_three max_four min_four
def smaltolaw03_chosen.l0 : Nat → List (S74) → Int → List Int → Int → Option (List Int)
  | 0, _, _, _, _ => none
  | k + 1, x0, x1, x5, x6 => if x6 < (x0.length : Int) then (if 0 ≤ (IntKind.u64.wrap (x6)) then (if (Go.bits .and .u8 (shr .u8 x1 (IntKind.u64.wrap (x6))) 1) = 1 then (if x5.length < 17592186044416 then (smaltolaw03_chosen.l0 k x0 x1 (x5 ++ [x6]) (wrap64 (x6 + 1))) else (none)) else (smaltolaw03_chosen.l0 k x0 x1 x5 (wrap64 (x6 + 1)))) else (none)) else (some x5)
def smaltolaw03_chosen.f (k : Nat) (l0 : List (S74)) (a1 : Int) : Option (List Int) := smaltolaw03_chosen.l0 k l0 a1 (([] : List Int)) 0
theorem smaltolaw03_chosen.mono_l : ∀ k, (∀ y0 y1 y2 y3, LeO (smaltolaw03_chosen.l0 k y0 y1 y2 y3) (smaltolaw03_chosen.l0 (k + 1) y0 y1 y2 y3))
  | 0 => fun _ _ _ _ r h => by simp [smaltolaw03_chosen.l0] at h
  | k + 1 => by
    have ih0 := smaltolaw03_chosen.mono_l k
    · intro y0 y1 y2 y3
      unfold smaltolaw03_chosen.l0
      repeat' first
      | (with_reducible exact ih0 _ _ _ _)
      | (with_reducible exact LeO.refl _)
      | (with_reducible exact LeO.none _)
      | (with_reducible refine LeO.ite ?_ ?_)
      | (with_reducible refine LeO.bind ?_ (fun _ => ?_))
      | exact ih0 _ _ _ _
      | exact LeO.none _
      | refine LeO.ite ?_ ?_
      | refine LeO.bind ?_ (fun _ => ?_)
theorem smaltolaw03_chosen.mono : ∀ a0 a1 k, LeO (smaltolaw03_chosen.f k a0 a1) (smaltolaw03_chosen.f (k + 1) a0 a1) := by
  intro a0 a1 k
  have ih0 := smaltolaw03_chosen.mono_l k
  unfold smaltolaw03_chosen.f
  repeat' first
      | (with_reducible exact ih0 _ _ _ _)
      | (with_reducible exact LeO.refl _)
      | (with_reducible exact LeO.none _)
      | (with_reducible refine LeO.ite ?_ ?_)
      | (with_reducible refine LeO.bind ?_ (fun _ => ?_))
      | exact ih0 _ _ _ _
      | exact LeO.none _
      | refine LeO.ite ?_ ?_
      | refine LeO.bind ?_ (fun _ => ?_)
set_option maxHeartbeats 8000000 in
set_option maxRecDepth 100000 in
theorem smaltolaw03_chosen.calls (k : Nat) (A0 : Option Addr) (c0 : Nat) (l0 : List (S74)) (a1 : Int) (r : List Int) (w : World) (hr0 : Kd.C k74 w A0 l0.length l0) (hc0 : l0.length ≤ c0) (h : smaltolaw03_chosen.f k l0 a1 = some r) :
    Calls Tryd.prog 42 #[.slice A0 l0.length c0, .int .u8 a1] w fun e w' => ∃ v0_ : Value, e = .returned (v0_) ∧ Kd.R (Kd.int .i64) 3 w' w.heap.size (fun _ => True) v0_ r ∧ Below w.heap.size w w' := by
  have HR0 := Aside0.mk hr0
  have HC0 := Aside0.mk hc0
  clear hr0 hc0
  have HB := Aside0.mk (Below.refl w.heap.size w)
  have H : (smaltolaw03_chosen.l0 k l0 a1 (([] : List Int)) 0) = some r := h
  clear h
  obtain ⟨y338, hy338⟩ : ∃ y_ : List Int, y_ = (([] : List Int)) := ⟨_, rfl⟩
  replace H : (smaltolaw03_chosen.l0 k l0 a1 y338 0) = some r := by first | (rw [hy338]; with_reducible exact H) | (have H2_ := (Option.bind_some _ _).symm.trans H; rw [hy338]; with_reducible exact H2_) | (have H2_ := (Option.bind_some _ _).symm.trans H; with_reducible exact H2_) | with_reducible exact H | (rw [hy338]; exact H) | exact H
  have Ny338 := Aside0.mk hy338
  clear hy338
  have H' := Aside0.mk H
  clear H
  go_enter Tryd.func42, Tryd.ntmps42
  go_wp2_with (first | ((with_reducible refine gate_dst (N := 7) rfl ?_); refine Kd.R_lit (Kd.int .i64) _ 3 ?hg (N := 7) ?hd (xs := ([] : List Int)) (inner := []) (ok := fun _ => True) (okp := fun _ => True) ?hr ?hp (fun _ hk => hk) trivial (Below.refl _ _) (Nat.le_refl _) (by simp) ?_; (case hd => rfl); (case hg => rfl); (case hr => first | (go_simp; done) | (go_simp; rfl)); (case hp => exact (Reps.none _ _)); intro v339 w3 ho4 hb hg_ hnew_; clear hg_ hnew_; (first | rw [← Ny338.out] at ho4 | (simp only [Int.reduceToNat] at ho4; rw [← Ny338.out] at ho4)); have n0_ := Aside0.mk (Kd.R_lower ho4 (below_size (by repeat (first | (with_reducible first | exact HB.out | apply below_alloc | apply pw_below_drewN | apply below_drew1) | exact HB.out)))); have n1_ := Aside0.mk (below_step (by repeat (first | (with_reducible first | exact HB.out | apply below_alloc | apply pw_below_drewN | apply below_drew1) | exact HB.out)) hb); clear HB; have HO340 := n0_; have HB := n1_; clear n0_ n1_; clear hb ho4))
  go_loopg [5, 6] k (fun kq v5 v6 w' => ∃ (x5_1 : List Int) (x6_1 : Int), v6 = .int .i64 x6_1 ∧ Aside0 (smaltolaw03_chosen.l0 kq l0 a1 x5_1 x6_1 = some r) ∧ Aside0 (kq ≤ k) ∧ Aside0 (Kd.R (Kd.int .i64) 3 w' w.heap.size (fun _ => True) v5 x5_1) ∧ Aside0 (Below w.heap.size w w'))
  case atStart => exact ⟨(y338), (0), (by first | rfl | (simp; done) | (simp [*]; done)), H', ⟨Nat.le_refl _⟩, ⟨by (with_reducible repeat (first | apply Kd.R_alloc | apply Kd.R_drewN | apply Kd.R_drew)); exact HO340.out⟩, ⟨by repeat (first | (with_reducible first | exact HB.out | apply below_alloc | apply pw_below_drewN | apply below_drew1) | exact HB.out)⟩⟩
  case round =>
    clear H'
    try clear p2
    try clear c4
    obtain ⟨x5_1, x6_1, rfl, HA, HK1, HO_5, HB⟩ := hrel
    cases gk with
    | zero => exact absurd HA.out (by simp [smaltolaw03_chosen.l0])
    | succ k1 =>
      have H := HA.out
      clear HA
      simp only [smaltolaw03_chosen.l0] at H
      by_cases c5 : x6_1 < (l0.length : Int)
      · rw [if_pos c5] at H
        have c5b0 : decide (x6_1 < (l0.length : Int)) = true := decide_eq_true c5
        clear c5
        obtain ⟨ji6, hji6⟩ : ∃ j_ : Int, (IntKind.u64.wrap (x6_1)) = j_ := ⟨_, rfl⟩
        replace H : (if 0 ≤ (ji6) then (if (Go.bits .and .u8 (shr .u8 a1 (ji6)) 1) = 1 then (if x5_1.length < 17592186044416 then (smaltolaw03_chosen.l0 k1 l0 a1 (x5_1 ++ [x6_1]) (wrap64 (x6_1 + 1))) else (none)) else (smaltolaw03_chosen.l0 k1 l0 a1 x5_1 (wrap64 (x6_1 + 1)))) else (none)) = some r := by first | (rw [hji6] at H; exact H) | (simp only [hji6] at H ⊢; exact H)
        by_cases c7 : 0 ≤ (ji6)
        · rw [if_pos c7] at H
          have c7b0 := eq_true c7
          have c7b1 : decide (0 ≤ (ji6)) = true := decide_eq_true c7
          clear c7
          obtain ⟨ji8, hji8⟩ : ∃ j_ : Int, (shr .u8 a1 (ji6)) = j_ := ⟨_, rfl⟩
          replace H : (if (Go.bits .and .u8 (ji8) 1) = 1 then (if x5_1.length < 17592186044416 then (smaltolaw03_chosen.l0 k1 l0 a1 (x5_1 ++ [x6_1]) (wrap64 (x6_1 + 1))) else (none)) else (smaltolaw03_chosen.l0 k1 l0 a1 x5_1 (wrap64 (x6_1 + 1)))) = some r := by first | (rw [hji8] at H; exact H) | (simp only [hji8] at H ⊢; exact H)
          have hji8_ : (a1 / 2 ^ min (ji6).toNat 8) = ji8 := hji8
          have hji8z : (ji6) ≤ 8 → (a1 / 2 ^ (ji6).toNat) = ji8 := shr_small hji8
          by_cases c9 : (Go.bits .and .u8 (ji8) 1) = 1
          · rw [if_pos c9] at H
            have c9b0 : ((Go.bits .and .u8 (ji8) 1) == 1) = true := beq_iff_eq.mpr c9
            have c9b1 : ((Go.bits .and .u8 (ji8) 1) != 1) = false := bne_eq_false_iff_eq.mpr c9
            clear c9
            by_cases c10 : x5_1.length < 17592186044416
            · rw [if_pos c10] at H
              have LMc10 := Aside0.mk c10
              clear c10
              obtain ⟨y341, hy341⟩ : ∃ y_ : List Int, y_ = (x5_1 ++ [x6_1]) := ⟨_, rfl⟩
              replace H : (smaltolaw03_chosen.l0 k1 l0 a1 y341 (wrap64 (x6_1 + 1))) = some r := by first | (rw [hy341]; with_reducible exact H) | (have H2_ := (Option.bind_some _ _).symm.trans H; rw [hy341]; with_reducible exact H2_) | (have H2_ := (Option.bind_some _ _).symm.trans H; with_reducible exact H2_) | with_reducible exact H | (rw [hy341]; exact H) | exact H
              have Ny341 := Aside0.mk hy341
              clear hy341
              have H' := Aside0.mk H
              clear H
              go_wp2_with (first | ((with_reducible refine gate_builtin (b := .append) (xs := #[.tmp 20, .tmp 22]) rfl ?_); at_builtin; refine Kd.R_append (Kd.int .i64) (w0 := w) w.heap.size rfl (.tmp 20) (.tmp 22) 25 3 (.int .i64 0) 8 rfl Tryd.underlying25 info3 rfl (by decide) (by omega) u5 x5_1 x6_1 [.int .i64 x6_1] (fun _ => True) (fun _ => False) rfl rfl ?aP (fun _ hk => hk.elim) ?aF ?aO ?aB ?aS ?aL ?_; (case aP => exact rfl); (case aB => exact (by repeat (first | (with_reducible first | exact HB.out | apply below_alloc | apply pw_below_drewN | apply below_drew1) | exact HB.out))); (case aF => exact (fun _ _ => trivial)); (case aO => exact (by (with_reducible repeat (first | apply Kd.R_alloc | apply Kd.R_drewN | apply Kd.R_drew)); exact HO_5.out)); (case aS => exact (below_size (by repeat (first | (with_reducible first | exact HB.out | apply below_alloc | apply pw_below_drewN | apply below_drew1) | exact HB.out)))); (case aL => have := LMc10.out; omega); intro v342 w11 ho hb hg hat; rw [← Ny341.out] at ho; have n0_ := Aside0.mk (hb); have n1_ := Aside0.mk (ho); clear HB; clear HO_5; have HB := n0_; have HO343 := n1_; clear n0_ n1_; clear ho hb hg hat))
              go_roundg k1
              case measure => have := HK1.out; omega
              case rel => exact ⟨(y341), (wrap64 (x6_1 + 1)), (by first | rfl | (simp; done) | (simp [*]; done)), H', ⟨by have := HK1.out; omega⟩, ⟨by (with_reducible repeat (first | apply Kd.R_alloc | apply Kd.R_drewN | apply Kd.R_drew)); exact HO343.out⟩, ⟨by repeat (first | (with_reducible first | exact HB.out | apply below_alloc | apply pw_below_drewN | apply below_drew1) | exact HB.out)⟩⟩
            · rw [if_neg c10] at H
              exact absurd H (by simp)
          · rw [if_neg c9] at H
            have c9b0 : ((Go.bits .and .u8 (ji8) 1) == 1) = false := beq_eq_false_iff_ne.mpr c9
            have c9b1 : ((Go.bits .and .u8 (ji8) 1) != 1) = true := bne_iff_ne.mpr c9
            have H' := Aside0.mk H
            clear H
            go_wp2
            go_roundg k1
            case measure => have := HK1.out; omega
            case rel => exact ⟨(x5_1), (wrap64 (x6_1 + 1)), (by first | rfl | (simp; done) | (simp [*]; done)), H', ⟨by have := HK1.out; omega⟩, ⟨by (with_reducible repeat (first | apply Kd.R_alloc | apply Kd.R_drewN | apply Kd.R_drew)); exact HO_5.out⟩, ⟨by repeat (first | (with_reducible first | exact HB.out | apply below_alloc | apply pw_below_drewN | apply below_drew1) | exact HB.out)⟩⟩
        · rw [if_neg c7] at H
          exact absurd H (by simp)
      · rw [if_neg c5] at H
        have c5b0 : decide (x6_1 < (l0.length : Int)) = false := decide_eq_false c5
        clear c5
        obtain rfl := Option.some.inj H
        go_wp2
        go_ret
        exact ⟨_, by first | rfl | (simp [errW_none, errW_some] <;> rfl) | (simp [*, errW_none, errW_some] <;> rfl), by (with_reducible repeat (first | apply Kd.R_alloc | apply Kd.R_drewN | apply Kd.R_drew)); exact HO_5.out, by repeat (first | (with_reducible first | exact HB.out | apply below_alloc | apply pw_below_drewN | apply below_drew1) | exact HB.out)⟩
def smaltolaw03_own.f (l0 : List (S74)) : Option ((List (S74))) := (some (([] : List (S74)) : List (S74))).bind fun y344 => (if y344.length + l0.length < 2932031007402 then (some (y344 ++ l0)) else (none))
set_option maxHeartbeats 8000000 in
set_option maxRecDepth 100000 in
theorem smaltolaw03_own.calls (A0 : Option Addr) (c0 : Nat) (l0 : List (S74)) (r : List (S74)) (w : World) (hr0 : Kd.C k74 w A0 l0.length l0) (hc0 : l0.length ≤ c0) (h : smaltolaw03_own.f l0 = some r) :
    Calls Tryd.prog 43 #[.slice A0 l0.length c0] w fun e w' => ∃ v0_ : Value, e = .returned (v0_) ∧ Kd.R k74 74 w' w.heap.size (fun _ => True) v0_ r ∧ Below w.heap.size w w' := by
  have HR0 := Aside0.mk hr0
  have HC0 := Aside0.mk hc0
  clear hr0 hc0
  have HB := Aside0.mk (Below.refl w.heap.size w)
  have H : ((some (([] : List (S74)) : List (S74))).bind fun y344 => (if y344.length + l0.length < 2932031007402 then (some (y344 ++ l0)) else (none))) = some r := h
  clear h
  obtain ⟨y344, hy344⟩ : ∃ y_ : List (S74), y_ = (([] : List (S74))) := ⟨_, rfl⟩
  replace H : (if y344.length + l0.length < 2932031007402 then (some (y344 ++ l0)) else (none)) = some r := by first | (rw [hy344]; with_reducible exact H) | (have H2_ := (Option.bind_some _ _).symm.trans H; rw [hy344]; with_reducible exact H2_) | (have H2_ := (Option.bind_some _ _).symm.trans H; with_reducible exact H2_) | with_reducible exact H | (rw [hy344]; exact H) | exact H
  have Ny344 := Aside0.mk hy344
  clear hy344
  by_cases c2 : y344.length + l0.length < 2932031007402
  · rw [if_pos c2] at H
    have LMc2 := Aside0.mk c2
    clear c2
    obtain ⟨y347, hy347⟩ : ∃ y_ : List (S74), y_ = (y344 ++ l0) := ⟨_, rfl⟩
    replace H : (some y347) = some r := by first | (rw [hy347]; with_reducible exact H) | (have H2_ := (Option.bind_some _ _).symm.trans H; rw [hy347]; with_reducible exact H2_) | (have H2_ := (Option.bind_some _ _).symm.trans H; with_reducible exact H2_) | with_reducible exact H | (rw [hy347]; exact H) | exact H
    have Ny347 := Aside0.mk hy347
    clear hy347
    obtain rfl := Option.some.inj H
    go_enter Tryd.func43, Tryd.ntmps43
    go_wp2_with (first | ((with_reducible refine gate_dst (N := 3) rfl ?_); refine Kd.R_lit k74 _ 74 ?hg (N := 3) ?hd (xs := ([] : List (S74))) (inner := []) (ok := fun _ => True) (okp := fun _ => True) ?hr ?hp (fun _ hk => hk) trivial (Below.refl _ _) (Nat.le_refl _) (by simp) ?_; (case hd => rfl); (case hg => rfl); (case hr => first | (go_simp; done) | (go_simp; rfl)); (case hp => exact (Reps.none _ _)); intro v345 w3 ho4 hb hg_ hnew_; clear hg_ hnew_; (first | rw [← Ny344.out] at ho4 | (simp only [Int.reduceToNat] at ho4; rw [← Ny344.out] at ho4)); have n0_ := Aside0.mk (Kd.R_lower ho4 (below_size (by repeat (first | (with_reducible first | exact HB.out | apply below_alloc | apply pw_below_drewN | apply below_drew1) | exact HB.out)))); have n1_ := Aside0.mk (below_step (by repeat (first | (with_reducible first | exact HB.out | apply below_alloc | apply pw_below_drewN | apply below_drew1) | exact HB.out)) hb); clear HB; have HO346 := n0_; have HB := n1_; clear n0_ n1_; clear hb ho4) | ((with_reducible refine gate_builtin (b := .append) (xs := #[.tmp 3, .tmp 4]) rfl ?_); at_builtin; refine Kd.R_append_rows k74 (w0 := w) w.heap.size rfl (.tmp 3) (.tmp 4) 24 74 (.agg #[(.int .i64 0), (.int .i64 0), (.int .i64 0), (.int .i64 0), (.int .i64 0), (.int .i64 0)]) 48 rfl Tryd.underlying24 info74 rfl (by decide) (by omega) v345 y344 l0 _ _ _ (fun _ => True) (fun _ => False) rfl rfl ?aO ?aR (fun _ _ h => h) (fun _ h => h.elim) ?aF ?aB ?aS ?aL ?_; (case aR => repeat (first | exact (Kd.C_below HR0.out HB.out) | (with_reducible refine Kd.C_alloc ?_ _) | (with_reducible refine Kd.C_drewN ?_ _) | (with_reducible refine Kd.C_drew ?_))); (case aB => exact (by repeat (first | (with_reducible first | exact HB.out | apply below_alloc | apply pw_below_drewN | apply below_drew1) | exact HB.out))); (case aF => exact (fun _ _ => trivial)); (case aO => exact (by (with_reducible repeat (first | apply Kd.R_alloc | apply Kd.R_drewN | apply Kd.R_drew)); exact HO346.out)); (case aS => exact (below_size (by repeat (first | (with_reducible first | exact HB.out | apply below_alloc | apply pw_below_drewN | apply below_drew1) | exact HB.out)))); (case aL => have := LMc2.out; omega); intro v348 w5 ho hb hg hat; rw [← Ny347.out] at ho; have n0_ := Aside0.mk (hb); have n1_ := Aside0.mk (ho); clear HB; clear HO346; have HB := n0_; have HO349 := n1_; clear n0_ n1_; clear ho hb hg hat))
    go_ret
    exact ⟨_, by first | rfl | (simp [errW_none, errW_some] <;> rfl) | (simp [*, errW_none, errW_some] <;> rfl), by (with_reducible repeat (first | apply Kd.R_alloc | apply Kd.R_drewN | apply Kd.R_drew)); exact HO349.out, by repeat (first | (with_reducible first | exact HB.out | apply below_alloc | apply pw_below_drewN | apply below_drew1) | exact HB.out)⟩
  · rw [if_neg c2] at H
    exact absurd H (by simp)
end Go.Proofs.YtbijamlgcebgeaaDoor.Q

-- part RA
namespace Go.Proofs.YtbijamlgcebgeaaDoor.Hand
open Go.RowKit Go.Shelf Go.Sort Go.Proofs.YtbijamlgcebgeaaDoorW.PrintWords Go.Proofs.YtbijamlgcebgeaaDoorW.PrintMore Go.Proofs.YtbijamlgcebgeaaDoor.Q
/-- Boxes, signs and lists that stand in memory, and what has been since a world. -/
structure FS (w : World) (B : List (Nat × Array Value × Nat)) (S : List (Option Addr × List S74)) (L : List (Option Addr × List Int)) (W : World) : Prop where
  tab : TabW W
  boxes : ∀ p ∈ B, Box W p.1 p.2.1 p.2.2
  signs : ∀ p ∈ S, Kd.C k74 W p.1 p.2.length p.2
  held : Held L W
  below : Below w.heap.size w W
namespace FS
variable {w W W' : World} {B : List (Nat × Array Value × Nat)} {S : List (Option Addr × List S74)} {L : List (Option Addr × List Int)}
theorem step (h : FS w B S L W) (hb : Below W.heap.size W W') : FS w B S L W' :=
  ⟨h.tab.below hb, fun p hp => (h.boxes p hp).step hb, fun p hp => Kd.C_below (h.signs p hp) hb, fun p hp => Kd.C_below (h.held p hp) hb, h.below.trans (hb.mono h.below.size)⟩
theorem alloc (h : FS w B S L W) (o : Obj) : FS w B S L (W.alloc o) := h.step ((Below.refl _ _).alloc (Nat.le_refl _) _)
theorem drew (h : FS w B S L W) : FS w B S L W.drew := h.step ((Below.refl _ _).drew)
theorem drewN (h : FS w B S L W) (n : Nat) : FS w B S L (W.drewN n) := h.step (pw_below_drewN (Below.refl _ _) n)
theorem box (h : FS w B S L W) {b : Nat} {vs : Array Value} {t : Nat} (hm : (b, vs, t) ∈ B) : Box W b vs t := h.boxes _ hm
theorem sign (h : FS w B S L W) {A : Option Addr} {xs : List S74} (hm : (A, xs) ∈ S) : Kd.C k74 W A xs.length xs := h.signs _ hm
theorem list (h : FS w B S L W) {A : Option Addr} {xs : List Int} (hm : (A, xs) ∈ L) : Kd.C (Kd.int .i64) W A xs.length xs := h.held _ hm
end FS
/-- The rules of a fork as they lie in a box. -/
def rv (F : Furn) : Array Value := #[.int .i64 F.bars, .int .i64 F.length, .int .i64 F.gap, .int .i64 F.load, .int .i64 F.near]
structure RC (b : Nat) (F : Furn) (w' : World) : Prop where
  r0 : w'.cell? ⟨b, 0, none⟩ = some (.int .i64 F.bars)
  r1 : w'.cell? ⟨b, 1, none⟩ = some (.int .i64 F.length)
  r2 : w'.cell? ⟨b, 2, none⟩ = some (.int .i64 F.gap)
  r3 : w'.cell? ⟨b, 3, none⟩ = some (.int .i64 F.load)
  r4 : w'.cell? ⟨b, 4, none⟩ = some (.int .i64 F.near)
theorem RC.of {b : Nat} {F : Furn} {W : World} (h : Box W b (rv F) 23) : RC b F W := ⟨h.cell 0 rfl, h.cell 1 rfl, h.cell 2 rfl, h.cell 3 rfl, h.cell 4 rfl⟩
/-- The signs whose bits a byte has. -/
def chosenL (n by_ : Nat) : List Int := ((List.range n).filter fun i => by_.testBit i).map Int.ofNat
theorem bit_at (by_ i : Nat) (hi : i < 6) (hb : by_ < 256) : Go.bits .and .u8 (shr .u8 (by_ : Int) (IntKind.u64.wrap (i : Int))) 1 = if by_.testBit i then 1 else 0 := by
  have h : ∀ b < 256, ∀ i < 6, Go.bits .and .u8 (shr .u8 ((b : Nat) : Int) (IntKind.u64.wrap ((i : Nat) : Int))) 1 = if Nat.testBit b i then 1 else 0 := by decide +kernel
  exact h by_ hb i hi
theorem u64_nonneg (x : Int) : 0 ≤ IntKind.u64.wrap x := by
  simp only [IntKind.wrap]
  exact Int.emod_nonneg _ (by decide)
theorem chosen_eq (l : List S74) (by_ : Nat) (hb : by_ < 256) (hl : l.length ≤ 6) : smaltolaw03_chosen.f 10 l by_ = some (chosenL l.length by_) := by
  have key : ∀ d (k : Nat), k + d = l.length → ∀ q, d < q → smaltolaw03_chosen.l0 q l by_ (chosenL k by_) k = some (chosenL l.length by_) := by
    intro d
    induction d with
    | zero =>
      intro k hk q hq
      obtain ⟨q, rfl⟩ : ∃ p, q = p + 1 := ⟨q - 1, by omega⟩
      have hk' : k = l.length := by omega
      subst hk'
      unfold smaltolaw03_chosen.l0
      rw [if_neg (by omega)]
    | succ d ih =>
      intro k hk q hq
      obtain ⟨q, rfl⟩ : ∃ p, q = p + 1 := ⟨q - 1, by omega⟩
      unfold smaltolaw03_chosen.l0
      have hw : wrap64 ((k : Int) + 1) = ((k + 1 : Nat) : Int) := by unfold wrap64; omega
      have hlen : (chosenL k by_).length ≤ 6 := by
        unfold chosenL
        rw [List.length_map]
        exact Nat.le_trans (List.length_filter_le _ _) (by simp; omega)
      have hs : chosenL (k + 1) by_ = if by_.testBit k then chosenL k by_ ++ [(k : Int)] else chosenL k by_ := by
        unfold chosenL
        rw [List.range_succ, List.filter_append, List.map_append]
        cases h : by_.testBit k <;> simp [h]
      have hi := ih (k + 1) (by omega) q (by omega)
      rw [if_pos (by omega), if_pos (u64_nonneg _), bit_at by_ k (by omega) hb, hw]
      cases h : by_.testBit k
      · rw [hs, h] at hi
        simpa [h] using hi
      · rw [hs, h] at hi
        rw [if_pos rfl, if_pos rfl, if_pos (by omega)]
        exact hi
  have h0 := key l.length 0 (by omega) 10 (by omega)
  exact h0
theorem chosenL_len (n by_ : Nat) : (chosenL n by_).length ≤ n := by
  unfold chosenL
  rw [List.length_map]
  exact Nat.le_trans (List.length_filter_le _ _) (by simp)
end Go.Proofs.YtbijamlgcebgeaaDoor.Hand

-- part RS
namespace Go.Proofs.YtbijamlgcebgeaaDoor.Hand
open Go.RowKit Go.Shelf Go.Sort Go.Proofs.YtbijamlgcebgeaaDoorW.PrintWords Go.Proofs.YtbijamlgcebgeaaDoorW.PrintMore Go.Proofs.YtbijamlgcebgeaaDoor.Q
attribute [local go_sem high] eqA36
def gR (F : Furn) (l : List S74) (load : List Int) : Bool × Bool × Int := goesR F.bars F.length F.gap F.load F.near l load
structure HC (b : Nat) (lo hi : Int) (w' : World) : Prop where
  lo : w'.cell? ⟨b, 0, none⟩ = some (.int .i64 lo)
  hi : w'.cell? ⟨b, 1, none⟩ = some (.int .i64 hi)
theorem HC.of {b : Nat} {lo hi : Int} {W : World} (h : Box W b #[.int .i64 lo, .int .i64 hi] 36) : HC b lo hi W := ⟨h.cell 0 rfl, h.cell 1 rfl⟩
/-- What a Rack makes. -/
def madeF (x : B5) (xs : List B5) : Furn := ⟨((1 + x.a % 3 : Nat) : Int), ((30 + x.b % 100 : Nat) : Int), ((x.c % 8 : Nat) : Int), ((40 + x.d : Nat) : Int), ((x.e % 40 : Nat) : Int), madeL xs⟩
theorem madeF_ok (x : B5) (hx : x.Ok) (xs : List B5) (hxs : ∀ v ∈ xs, v.Ok) : (madeF x xs).Ok := by
  obtain ⟨h1, h2, h3, h4, h5⟩ := hx
  refine ⟨⟨?_, ?_⟩, ⟨?_, ?_⟩, ⟨?_, ?_⟩, ⟨?_, ?_⟩, ⟨?_, ?_⟩, ?_, ?_⟩
  all_goals try (unfold madeF; simp only; omega)
  · unfold madeF madeL
    simp
    omega
  · intro y hy
    unfold madeF madeL at hy
    obtain ⟨v, hv, rfl⟩ := List.mem_map.1 hy
    obtain ⟨q1, q2, q3, q4, q5⟩ := hxs v (List.mem_of_mem_take hv)
    unfold madeS
    simp only
    omega
end Go.Proofs.YtbijamlgcebgeaaDoor.Hand

-- part RP
namespace Go.Proofs.YtbijamlgcebgeaaDoor.Hand
open Go.RowKit Go.Shelf Go.Sort Go.Proofs.YtbijamlgcebgeaaDoorW.PrintWords Go.Proofs.YtbijamlgcebgeaaDoorW.PrintMore Go.Proofs.YtbijamlgcebgeaaDoor.Q
theorem setL_some (n : Nat) (load : List Int) (hv : ∀ j : Nat, j < load.length → 0 ≤ rd load j ∧ rd load j < n) (ha : ∀ j : Nat, 0 < j → j < load.length → rd load ((j : Int) - 1) < rd load j) :
    ∀ (d k s : Nat), k + d = load.length → ∃ r, setL n load d k s = some r := by
  intro d
  induction d with
  | zero => intro k s _; exact ⟨s, rfl⟩
  | succ d ih =>
    intro k s hk
    have h1 := hv k (by omega)
    unfold setL
    rw [if_pos (by rw [allIn_one]; simp only [Bool.and_eq_true, decide_eq_true_eq]; omega), if_neg (by rintro ⟨h2, h3⟩; have := ha k h2 (by omega); omega)]
    exact ih _ _ (by omega)
theorem ok_check {a b c d e : Int} {l : List S74} (h : (mkF a b c d e l).Ok) : checkF a b c d e l = 0 := by
  obtain ⟨h1, h2, h3, h4, h5, h6, h7⟩ := h
  simp only [mkF] at h1 h2 h3 h4 h5 h6 h7
  unfold checkF
  rw [if_pos (by unfold rulesB; simp only [allIn_one, Bool.and_eq_true, decide_eq_true_eq]; omega), if_neg (by omega), if_neg (by
    simp only [List.any_eq_true, not_exists, not_and]
    intro x hx
    have h8 := h7 x hx
    have : signB x = true := by
      unfold signB
      simp only [allIn_one, allIn_two, Bool.and_eq_true, decide_eq_true_eq]
      omega
    simp [this])]
theorem newR_some {a b c d e : Int} {l : List S74} {load : List Int} (h : (mkF a b c d e l).Ok) (hv : ∀ j : Nat, j < load.length → 0 ≤ rd load j ∧ rd load j < l.length) (ha : ∀ j : Nat, 0 < j → j < load.length → rd load ((j : Int) - 1) < rd load j) :
    ∃ s, newR a b c d e l load = .ok s := by
  obtain ⟨r, hr⟩ := setL_some l.length load hv ha load.length 0 0 (by omega)
  refine ⟨r, ?_⟩
  unfold newR
  rw [if_pos (ok_check h), hr]
end Go.Proofs.YtbijamlgcebgeaaDoor.Hand

-- part RQ
namespace Go.Proofs.YtbijamlgcebgeaaDoor.Hand
open Go.RowKit Go.Shelf Go.Sort Go.Proofs.YtbijamlgcebgeaaDoorW.PrintWords Go.Proofs.YtbijamlgcebgeaaDoorW.PrintMore Go.Proofs.YtbijamlgcebgeaaDoor.Q
theorem chosenL_pair (n by_ : Nat) : (chosenL n by_).Pairwise (· < ·) := by
  unfold chosenL
  rw [List.pairwise_map]
  refine List.Pairwise.imp (fun {a b} h => ?_) (List.pairwise_lt_range.filter _)
  exact Int.ofNat_lt.2 h
theorem chosenL_mem (n by_ : Nat) : ∀ x ∈ chosenL n by_, 0 ≤ x ∧ x < n := by
  intro y hm
  unfold chosenL at hm
  obtain ⟨i, hi, rfl⟩ := List.mem_map.1 hm
  have := List.mem_range.1 (List.mem_filter.1 hi).1
  simp only [Int.ofNat_eq_natCast]
  omega
/-- A valid fork takes a load that ascends. -/
theorem new_pair {F : Furn} (hF : F.Ok) {load : List Int} (hp : load.Pairwise (· < ·)) (hm : ∀ x ∈ load, 0 ≤ x ∧ x < F.l.length) :
    ∃ s, newR F.bars F.length F.gap F.load F.near F.l load = .ok s ∧ (bitsOf s).map Int.ofNat = load ∧ s < 64 := by
  obtain ⟨s, hs⟩ := newR_some (a := F.bars) (b := F.length) (c := F.gap) (d := F.load) (e := F.near) (l := F.l) (load := load) hF (fun j hj => by rw [rd_get hj]; exact hm _ (List.getElem_mem _)) (fun j h0 hj => by
    rw [show ((j : Int) - 1) = ((j - 1 : Nat) : Int) by omega, rd_get hj, rd_get (show j - 1 < load.length by omega)]
    exact List.pairwise_iff_getElem.1 hp (j - 1) j (by omega) hj (by omega))
  exact ⟨s, hs, newR_list hs⟩
end Go.Proofs.YtbijamlgcebgeaaDoor.Hand

-- part RU
namespace Go.Proofs.YtbijamlgcebgeaaDoor.Hand
open Go.RowKit Go.Shelf Go.Sort Go.Proofs.YtbijamlgcebgeaaDoorW.PrintWords Go.Proofs.YtbijamlgcebgeaaDoorW.PrintMore Go.Proofs.YtbijamlgcebgeaaDoor.Q
theorem and_of_sub {p s : Nat} (hp : p < 64) (h : ((bitsOf p).map Int.ofNat).Sublist ((bitsOf s).map Int.ofNat)) : p &&& s = p := by
  apply Nat.eq_of_testBit_eq
  intro i
  rw [Nat.testBit_and]
  cases hpi : p.testBit i
  · rfl
  · have hi : i < 6 := by
      rcases Nat.lt_or_ge i 6 with h | h
      · exact h
      · have : p.testBit i = false := Nat.testBit_lt_two_pow (Nat.lt_of_lt_of_le hp (Nat.pow_le_pow_right (by omega) h : 2 ^ 6 ≤ 2 ^ i))
        rw [this] at hpi
        cases hpi
    have hm : Int.ofNat i ∈ (bitsOf p).map Int.ofNat := List.mem_map.2 ⟨i, List.mem_filter.2 ⟨List.mem_range.2 hi, hpi⟩, rfl⟩
    obtain ⟨j, hj, hji⟩ := List.mem_map.1 (h.subset hm)
    obtain rfl : j = i := Int.ofNat.inj hji
    rw [(List.mem_filter.1 hj).2]
    rfl
theorem set_inj {p s : Nat} (hp : p < 64) (hs : s < 64) (h : (bitsOf p).map Int.ofNat = (bitsOf s).map Int.ofNat) : p = s := by
  have h1 := and_of_sub (s := s) hp (by rw [h]; exact List.Sublist.refl _)
  have h2 := and_of_sub (s := p) hs (by rw [h]; exact List.Sublist.refl _)
  rw [Nat.and_comm] at h2
  exact h1.symm.trans h2
end Go.Proofs.YtbijamlgcebgeaaDoor.Hand

-- part PA
namespace Go.Proofs.YtbijamlgcebgeaaDoor.Hand
open Go.RowKit Go.Shelf Go.Sort Go.Proofs.YtbijamlgcebgeaaDoorW.PrintWords Go.Proofs.YtbijamlgcebgeaaDoorW.PrintMore Go.Proofs.YtbijamlgcebgeaaDoor.Q
/-- Whether the signs of a list of places go. -/
def goesI (F : Furn) (is : List Nat) : Bool := decide (sumB (fun x => x.f2.f1) F.l is ≤ F.load) && (!(decide ((heatB F.l is).2 < (heatB F.l is).1) || !decide ((highB F.l is).2 - (highB F.l is).1 ≤ F.near)) && (optL (barsB F is F.empty)).2)
theorem goesB_I (F : Furn) (s : Nat) : goesB F s = goesI F (bitsOf s) := rfl
theorem goesI_iff (F : Furn) (is : List Nat) : goesI F is = true ↔ sumB (fun x => x.f2.f1) F.l is ≤ F.load ∧ (heatB F.l is).1 ≤ (heatB F.l is).2 ∧ (highB F.l is).2 - (highB F.l is).1 ≤ F.near ∧ (barsB F is F.empty).isSome = true := by
  unfold goesI
  have : (optL (barsB F is F.empty)).2 = (barsB F is F.empty).isSome := by cases barsB F is F.empty <;> rfl
  rw [this]
  simp only [Bool.and_eq_true, decide_eq_true_eq, Bool.not_eq_true', Bool.or_eq_false_iff, decide_eq_false_iff_not, Bool.not_eq_false']
  constructor
  · rintro ⟨a, ⟨b, c⟩, d⟩; exact ⟨a, by omega, c, d⟩
  · rintro ⟨a, b, c, d⟩; exact ⟨a, ⟨by omega, c⟩, d⟩
theorem val_pos {F : Furn} (hF : F.Ok) (i : Nat) : 0 ≤ (F.l.getD i z74).f2.f1 ∧ 0 ≤ (F.l.getD i z74).f0 := by
  rw [List.getD_eq_getElem?_getD]
  by_cases hil : i < F.l.length
  · rw [List.getElem?_eq_getElem hil]
    have := hF.signs _ (List.getElem_mem hil)
    show 0 ≤ (F.l[i]).f2.f1 ∧ 0 ≤ (F.l[i]).f0
    omega
  · rw [List.getElem?_eq_none (by omega)]
    exact ⟨by decide, by decide⟩
theorem goesI_sub {F : Furn} (hF : F.Ok) {is js : List Nat} (hsub : is.Sublist js) (hg : goesI F js = true) : goesI F is = true := by
  rw [goesI_iff] at hg ⊢
  obtain ⟨h1, h2, h3, h4⟩ := hg
  have hat := val_pos hF
  have hb := hF.bars
  have hgp := hF.gap
  refine ⟨?_, ?_, ?_, ?_⟩
  · exact Int.le_trans (sum_sub (fun i => (F.l.getD i z74).f2.f1) (fun i => (hat i).1) hsub 0 0 (Int.le_refl _)) h1
  · have := heat_sub F.l hsub (0, 1000) (0, 1000) (Int.le_refl _) (Int.le_refl _)
    unfold heatB at h2 ⊢
    omega
  · have := high_sub F.l hsub (100, 0) (100, 0) (Int.le_refl _) (Int.le_refl _)
    unfold highB at h3 ⊢
    omega
  · exact bars_sub F (by omega) (fun i => by have := (hat i).2; unfold rd_T74; simp only [Int.toNat_natCast]; omega) hsub F.empty F.empty (fun _ _ => Int.le_refl _) h4
theorem barsB_congr {F G : Furn} (h1 : F.bars = G.bars) (h3 : F.gap = G.gap) : ∀ (is js : List Nat), (is.map fun i => F.l.getD i z74) = (js.map fun i => G.l.getD i z74) → barsB F is = barsB G js := by
  intro is
  induction is with
  | nil =>
    intro js h
    cases js with
    | nil => rfl
    | cons j js => simp at h
  | cons i is ih =>
    intro js h
    cases js with
    | nil => simp at h
    | cons j js =>
      simp only [List.map_cons, List.cons.injEq] at h
      funext r
      have hr : rd_T74 F.l ((i : Nat) : Int) = rd_T74 G.l ((j : Nat) : Int) := by
        unfold rd_T74
        rw [Int.toNat_natCast, Int.toNat_natCast]
        exact h.1
      unfold barsB
      rw [ih js h.2, h1, h3, hr]
theorem goesI_congr {F G : Furn} (h1 : F.bars = G.bars) (h2 : F.length = G.length) (h3 : F.gap = G.gap) (h4 : F.load = G.load) (h5 : F.near = G.near) {is js : List Nat} (h : (is.map fun i => F.l.getD i z74) = (js.map fun i => G.l.getD i z74)) : goesI F is = goesI G js := by
  have hs : sumB (fun x => x.f2.f1) F.l is = sumB (fun x => x.f2.f1) G.l js := by
    unfold sumB
    have e : ∀ (H : Furn) (ks : List Nat), (ks.map fun i => (H.l.getD i z74).f2.f1) = (ks.map fun i => H.l.getD i z74).map fun x => x.f2.f1 := fun H ks => by rw [List.map_map]; rfl
    rw [e F, e G, h]
  have hh : heatB F.l is = heatB G.l js := by
    unfold heatB
    have e : ∀ (H : Furn) (ks : List Nat) (z : Int × Int), ks.foldl (fun h i => (mx h.1 (H.l.getD i z74).f3.f0, mn h.2 (H.l.getD i z74).f3.f1)) z = (ks.map fun i => H.l.getD i z74).foldl (fun h x => (mx h.1 x.f3.f0, mn h.2 x.f3.f1)) z := fun H ks z => by rw [List.foldl_map]
    rw [e F, e G, h]
  have hi : highB F.l is = highB G.l js := by
    unfold highB
    have e : ∀ (H : Furn) (ks : List Nat) (z : Int × Int), ks.foldl (fun h i => (mn h.1 (H.l.getD i z74).f1, mx h.2 (H.l.getD i z74).f1)) z = (ks.map fun i => H.l.getD i z74).foldl (fun h x => (mn h.1 x.f1, mx h.2 x.f1)) z := fun H ks z => by rw [List.foldl_map]
    rw [e F, e G, h]
  have he : F.empty = G.empty := by unfold Furn.empty; rw [h1, h2, h3]
  unfold goesI
  rw [hs, hh, hi, he, barsB_congr h1 h3 is js h, h4, h5]
theorem goesI_nil {F : Furn} (hF : F.Ok) : goesI F [] = true := goes_none hF
theorem asc_ext : ∀ {xs ys : List Nat}, xs.Pairwise (· < ·) → ys.Pairwise (· < ·) → (∀ a, a ∈ xs ↔ a ∈ ys) → xs = ys := by
  intro xs
  induction xs with
  | nil =>
    intro ys _ _ h
    cases ys with
    | nil => rfl
    | cons y ys => exact absurd ((h y).2 (by simp)) (by simp)
  | cons x xs ih =>
    intro ys hx hy h
    cases ys with
    | nil => exact absurd ((h x).1 (by simp)) (by simp)
    | cons y ys =>
      obtain ⟨hx1, hx2⟩ := List.pairwise_cons.1 hx
      obtain ⟨hy1, hy2⟩ := List.pairwise_cons.1 hy
      have e : x = y := by
        rcases List.mem_cons.1 ((h x).1 (by simp)) with h1 | h1
        · exact h1
        · rcases List.mem_cons.1 ((h y).2 (by simp)) with h2 | h2
          · exact h2.symm
          · have := hx1 y h2; have := hy1 x h1; omega
      subst e
      rw [ih hx2 hy2 (fun a => by
        constructor
        · intro ha
          rcases List.mem_cons.1 ((h a).1 (by simp [ha])) with h1 | h1
          · have := hx1 a ha; omega
          · exact h1
        · intro ha
          rcases List.mem_cons.1 ((h a).2 (by simp [ha])) with h1 | h1
          · have := hy1 a ha; omega
          · exact h1)]
theorem asc_sub {xs ys : List Nat} (hx : xs.Pairwise (· < ·)) (hy : ys.Pairwise (· < ·)) (h : ∀ a ∈ xs, a ∈ ys) : xs.Sublist ys := by
  have : xs = ys.filter fun a => decide (a ∈ xs) := asc_ext hx (hy.filter _) (fun a => by
    rw [List.mem_filter, decide_eq_true_eq]
    exact ⟨fun ha => ⟨h a ha, ha⟩, fun ha => ha.2⟩)
  rw [this]
  exact List.filter_sublist
/-- The places at which a list has a number. -/
def idx (x : List Int) (j : Int) : List Nat := (List.range x.length).filter fun (i : Nat) => decide (rd x i = j)
theorem idx_asc (x : List Int) (j : Int) : (idx x j).Pairwise (· < ·) := List.pairwise_lt_range.filter _
theorem idx_mem {x : List Int} {j : Int} {i : Nat} : i ∈ idx x j ↔ i < x.length ∧ rd x i = j := by
  unfold idx
  rw [List.mem_filter, List.mem_range, decide_eq_true_eq]
theorem bits_asc (s : Nat) : (bitsOf s).Pairwise (· < ·) := List.pairwise_lt_range.filter _
theorem bits_mem {s i : Nat} (hs : s < 64) : i ∈ bitsOf s ↔ s.testBit i = true := by
  unfold bitsOf
  rw [List.mem_filter, List.mem_range]
  refine ⟨fun h => h.2, fun h => ⟨?_, h⟩⟩
  rcases Nat.lt_or_ge i 6 with h6 | h6
  · exact h6
  · have : s.testBit i = false := Nat.testBit_lt_two_pow (Nat.lt_of_lt_of_le hs (Nat.pow_le_pow_right (by omega) h6 : 2 ^ 6 ≤ 2 ^ i))
    rw [this] at h
    cases h
theorem setK_bit (l : List Int) (j : Int) (i : Nat) : ∀ k, (setK l j k).testBit i = true ↔ i < k ∧ rd l i = j := by
  intro k
  induction k with
  | zero => simp [setK]
  | succ k ih =>
    rw [setK_succ]
    split
    · rename_i h
      rw [Nat.testBit_or, Bool.or_eq_true, ih, Nat.testBit_two_pow, decide_eq_true_eq]
      constructor
      · rintro (⟨a, b⟩ | rfl)
        · exact ⟨by omega, b⟩
        · exact ⟨by omega, h⟩
      · rintro ⟨a, b⟩
        rcases Nat.lt_succ_iff_lt_or_eq.1 a with c | c
        · exact .inl ⟨c, b⟩
        · exact .inr c.symm
    · rename_i h
      rw [ih]
      constructor
      · rintro ⟨a, b⟩; exact ⟨by omega, b⟩
      · rintro ⟨a, b⟩
        rcases Nat.lt_succ_iff_lt_or_eq.1 a with c | c
        · exact ⟨c, b⟩
        · subst c; exact absurd b h
theorem bits_idx {x : List Int} (h : x.length ≤ 6) (j : Int) : bitsOf (setN x j) = idx x j := by
  refine asc_ext (bits_asc _) (idx_asc _ _) (fun a => ?_)
  have hlt : setN x j < 64 := Nat.lt_of_lt_of_le (setN_lt x j) (Nat.pow_le_pow_right (by omega) h : 2 ^ x.length ≤ 2 ^ 6)
  rw [bits_mem hlt, idx_mem]
  exact setK_bit x j a x.length
theorem mem_allLs (m : Nat) : ∀ (n : Nat) (x : List Int), x.length = n → (∀ y ∈ x, 0 ≤ y ∧ y < m) → x ∈ allLs m n := by
  intro n
  induction n with
  | zero => intro x h _; rw [List.length_eq_zero_iff.1 h]; simp [allLs]
  | succ n ih =>
    intro x h hy
    cases x with
    | nil => simp at h
    | cons y x =>
      have h0 := hy y (by simp)
      rw [allLs_first, List.mem_flatMap]
      exact ⟨y.toNat, List.mem_range.2 (by omega), List.mem_map.2 ⟨x, ih x (by simpa using h) (fun z hz => hy z (by simp [hz])), by rw [Int.toNat_of_nonneg h0.1]⟩⟩
/-- Loads with numbers below m in which all signs can be fired. -/
structure Good (F : Furn) (m : Nat) (x : List Int) : Prop where
  len : x.length = F.l.length
  rng : ∀ y ∈ x, 0 ≤ y ∧ y < m
  goes : ∀ j : Int, goesI F (idx x j) = true
theorem idx_none {x : List Int} {m : Nat} (h : ∀ y ∈ x, 0 ≤ y ∧ y < (m : Int)) {j : Int} (hj : j < 0 ∨ (m : Int) ≤ j) : idx x j = [] := by
  rw [List.eq_nil_iff_forall_not_mem]
  intro i hi
  obtain ⟨h1, h2⟩ := idx_mem.1 hi
  rw [rd_get h1] at h2
  have := h _ (List.getElem_mem h1)
  omega
theorem lists_good {F : Furn} (hF : F.Ok) {m : Nat} (hm : m ≤ 6) {x : List Int} : x ∈ listsL F m ↔ Good F m x := by
  have hl := hF.len
  rw [listsL_eq hF hm, List.mem_filter]
  constructor
  · rintro ⟨h1, h2⟩
    obtain ⟨h3, h4⟩ := allLs_mem _ _ _ h1
    refine ⟨h3, h4, fun j => ?_⟩
    by_cases hj : 0 ≤ j ∧ j < m
    · unfold firedB at h2
      rw [List.all_eq_true] at h2
      have := h2 j.toNat (List.mem_range.2 (by omega))
      rw [Int.toNat_of_nonneg hj.1, goesB_I, bits_idx (by omega)] at this
      exact this
    · rw [idx_none h4 (by omega)]
      exact goesI_nil hF
  · rintro ⟨h1, h2, h3⟩
    refine ⟨mem_allLs _ _ _ h1 h2, ?_⟩
    unfold firedB
    rw [List.all_eq_true]
    intro j _
    rw [goesB_I, bits_idx (by omega)]
    exact h3 _
theorem fewest_some {F : Furn} (hF : F.Ok) (h : (fewestB F).2.2 = true) : Good F (fewestB F).2.1 (fewestB F).1 ∧ (fewestB F).2.1 ≤ F.l.length ∧ (listsL F (fewestB F).2.1).head? = some (fewestB F).1 ∧ ∀ m, m < (fewestB F).2.1 → ∀ x, ¬ Good F m x := by
  have hl := hF.len
  unfold fewestB at h ⊢
  cases hq : fewestO F (F.l.length + 1) with
  | none => rw [hq] at h; cases h
  | some p =>
    obtain ⟨L, m⟩ := p
    dsimp only
    have key : ∀ k, fewestO F k = some (L, m) → m < k ∧ (listsL F m).head? = some L ∧ ∀ m', m' < m → listsL F m' = [] := by
      intro k
      induction k with
      | zero => intro h; simp [fewestO] at h
      | succ k ih =>
        intro h
        cases hk : fewestO F k with
        | some p =>
          rw [fewestO_le F (Nat.le_succ k) hk] at h
          rw [h] at hk
          obtain ⟨h1, h2, h3⟩ := ih hk
          exact ⟨by omega, h2, h3⟩
        | none =>
          rw [fewestO_succ F k hk] at h
          obtain ⟨L', hL', he⟩ := Option.map_eq_some_iff.1 h
          simp only [Prod.mk.injEq] at he
          obtain ⟨rfl, rfl⟩ := he
          refine ⟨by omega, hL', fun m' hm' => ?_⟩
          unfold fewestO at hk
          rw [List.findSome?_eq_none_iff] at hk
          have := hk m' (List.mem_range.2 hm')
          cases hh : listsL F m' with
          | nil => rfl
          | cons y ys => rw [hh] at this; cases this
    obtain ⟨h1, h2, h3⟩ := key _ hq
    refine ⟨(lists_good hF (by omega)).1 (List.mem_of_head? h2), by omega, h2, fun m' hm' x hx => ?_⟩
    have := (lists_good hF (by omega)).2 hx
    rw [h3 m' hm'] at this
    cases this
def lessF (F : Furn) (i : Nat) : Furn := ⟨F.bars, F.length, F.gap, F.load, F.near, F.l.eraseIdx i⟩
def skip (i k : Nat) : Nat := if k < i then k else k + 1
theorem skip_lt {i a b : Nat} (h : a < b) : skip i a < skip i b := by unfold skip; split <;> split <;> omega
theorem skip_ne (i a : Nat) : skip i a ≠ i := by unfold skip; split <;> omega
theorem less_ok {F : Furn} (hF : F.Ok) (i : Nat) : (lessF F i).Ok :=
  ⟨hF.bars, hF.length, hF.gap, hF.load, hF.near, Nat.le_trans (List.length_eraseIdx_le _ _) hF.len, fun x hx => hF.signs x (List.mem_of_mem_eraseIdx hx)⟩
theorem less_getD (F : Furn) (i k : Nat) : (lessF F i).l.getD k z74 = F.l.getD (skip i k) z74 := by
  show (F.l.eraseIdx i).getD k z74 = _
  rw [List.getD_eq_getElem?_getD, List.getD_eq_getElem?_getD, List.getElem?_eraseIdx]
  unfold skip
  split <;> rfl
theorem less_goes (F : Furn) (i : Nat) (is : List Nat) : goesI (lessF F i) is = goesI F (is.map (skip i)) :=
  goesI_congr (F := lessF F i) (G := F) rfl rfl rfl rfl rfl (by
    rw [List.map_map]
    exact List.map_congr_left (fun k _ => less_getD F i k))
theorem less_idx (x : List Int) (i : Nat) (j : Int) : (idx (x.eraseIdx i) j).map (skip i) = (idx x j).filter fun a => decide (a ≠ i) := by
  refine asc_ext ?_ ((idx_asc _ _).filter _) (fun a => ?_)
  · rw [List.pairwise_map]
    exact (idx_asc _ _).imp (fun h => skip_lt h)
  · rw [List.mem_filter, decide_eq_true_eq, List.mem_map, idx_mem]
    have hat : ∀ k : Nat, rd (x.eraseIdx i) k = rd x (skip i k : Nat) := by
      intro k
      unfold rd
      rw [Int.toNat_natCast, Int.toNat_natCast, List.getD_eq_getElem?_getD, List.getD_eq_getElem?_getD, List.getElem?_eraseIdx]
      unfold skip
      split <;> rfl
    by_cases hi : i < x.length
    · have hlen := List.length_eraseIdx_of_lt hi
      constructor
      · rintro ⟨k, hk, rfl⟩
        obtain ⟨h1, h2⟩ := idx_mem.1 hk
        rw [hat] at h2
        refine ⟨⟨?_, h2⟩, skip_ne _ _⟩
        unfold skip
        split <;> omega
      · rintro ⟨⟨h1, h2⟩, h3⟩
        by_cases hlt : a < i
        · have e : skip i a = a := by unfold skip; rw [if_pos hlt]
          exact ⟨a, idx_mem.2 ⟨by omega, by rw [hat, e]; exact h2⟩, e⟩
        · have e : skip i (a - 1) = a := by unfold skip; rw [if_neg (by omega)]; omega
          exact ⟨a - 1, idx_mem.2 ⟨by omega, by rw [hat, e]; exact h2⟩, e⟩
    · rw [List.eraseIdx_of_length_le (by omega)]
      constructor
      · rintro ⟨k, hk, rfl⟩
        obtain ⟨h1, h2⟩ := idx_mem.1 hk
        have e : skip i k = k := by unfold skip; rw [if_pos (by omega)]
        rw [e]
        exact ⟨⟨h1, h2⟩, by omega⟩
      · rintro ⟨⟨h1, h2⟩, h3⟩
        have e : skip i a = a := by unfold skip; rw [if_pos (by omega)]
        exact ⟨a, idx_mem.2 ⟨h1, h2⟩, e⟩
theorem less_good {F : Furn} (hF : F.Ok) {m : Nat} {x : List Int} (h : Good F m x) (i : Nat) (hi : i < F.l.length) : Good (lessF F i) m (x.eraseIdx i) := by
  refine ⟨?_, fun y hy => h.rng y (List.mem_of_mem_eraseIdx hy), fun j => ?_⟩
  · rw [List.length_eraseIdx_of_lt (by rw [h.len]; exact hi)]
    show _ = (F.l.eraseIdx i).length
    rw [List.length_eraseIdx_of_lt hi, h.len]
  · rw [less_goes, less_idx]
    exact goesI_sub hF List.filter_sublist (h.goes j)
/-- A sign more, in a load of its own. -/
theorem more_good {F : Furn} (hF : F.Ok) {m : Nat} {x : List Int} (i : Nat) (hi : i < F.l.length) (h : Good (lessF F i) m x) (h1 : goesI F [i] = true) : Good F (m + 1) (x.take i ++ ((m : Nat) : Int) :: x.drop i) := by
  have hlen : x.length + 1 = F.l.length := by
    have := h.len
    have h2 : (lessF F i).l.length = F.l.length - 1 := List.length_eraseIdx_of_lt hi
    omega
  have hil : i ≤ x.length := by omega
  obtain ⟨y, hy⟩ : ∃ y, x.take i ++ ((m : Nat) : Int) :: x.drop i = y := ⟨_, rfl⟩
  rw [hy]
  have hyl : y.length = F.l.length := by rw [← hy]; simp; omega
  have hye : y.eraseIdx i = x := by
    rw [← hy, List.eraseIdx_append_of_length_le (by simp; omega)]
    have : i - (x.take i).length = 0 := by simp; omega
    rw [this]
    simp
  have hyi : rd y i = (m : Int) := by
    rw [rd_get (by omega)]
    subst hy
    rw [List.getElem_append_right (by simp; omega)]
    simp [show i - min i x.length = 0 by omega]
  refine ⟨hyl, fun z hz => ?_, fun j => ?_⟩
  · rw [← hy] at hz
    rcases List.mem_append.1 hz with hz | hz
    · have := h.rng z (List.mem_of_mem_take hz); omega
    · rcases List.mem_cons.1 hz with rfl | hz
      · omega
      · have := h.rng z (List.mem_of_mem_drop hz); omega
  · have hless := less_idx y i j
    rw [hye] at hless
    by_cases hj : j = m
    · have e : idx y j = [i] := by
        refine asc_ext (idx_asc _ _) (by simp) (fun a => ?_)
        rw [List.mem_singleton]
        constructor
        · intro ha
          rcases Classical.em (a = i) with h2 | h2
          · exact h2
          · have : a ∈ (idx y j).filter fun a => decide (a ≠ i) := List.mem_filter.2 ⟨ha, by simpa using h2⟩
            rw [← hless, idx_none h.rng (by omega)] at this
            cases this
        · rintro rfl
          exact idx_mem.2 ⟨by omega, by rw [hyi, hj]⟩
      rw [e]
      exact h1
    · have e : (idx y j).filter (fun a => decide (a ≠ i)) = idx y j := by
        rw [List.filter_eq_self]
        intro a ha
        rw [decide_eq_true_eq]
        rintro rfl
        have := (idx_mem.1 ha).2
        rw [hyi] at this
        exact hj this.symm
      rw [e] at hless
      rw [← hless, ← less_goes]
      exact h.goes j
theorem single_good {F : Furn} (hF : F.Ok) {m : Nat} {x : List Int} (h : Good F m x) (i : Nat) (hi : i < F.l.length) : goesI F [i] = true := by
  refine goesI_sub hF (asc_sub (by simp) (idx_asc x (rd x i)) ?_) (h.goes (rd x i))
  intro a ha
  obtain rfl := List.mem_singleton.1 ha
  exact idx_mem.2 ⟨by rw [h.len]; exact hi, rfl⟩
def countI (x : List Int) : Int := x.foldl (fun n y => mx n (y + 1)) 0
theorem countI_le (x : List Int) : ∀ (a m : Int), x.foldl (fun n y => mx n (y + 1)) a ≤ m ↔ a ≤ m ∧ ∀ y ∈ x, y + 1 ≤ m := by
  induction x with
  | nil => intro a m; simp
  | cons y x ih =>
    intro a m
    rw [List.foldl_cons, ih]
    have hm : mx a (y + 1) ≤ m ↔ a ≤ m ∧ y + 1 ≤ m := by unfold mx; split <;> omega
    rw [hm]
    simp only [List.mem_cons, forall_eq_or_imp]
    constructor
    · rintro ⟨⟨h1, h2⟩, h3⟩; exact ⟨h1, h2, h3⟩
    · rintro ⟨h1, h2, h3⟩; exact ⟨⟨h1, h2⟩, h3⟩
theorem countI_pos (x : List Int) : 0 ≤ countI x := by
  have := (countI_le x 0 (countI x)).1 (Int.le_refl _)
  exact this.1
theorem countI_lt (x : List Int) : ∀ y ∈ x, y < countI x := by
  have := (countI_le x 0 (countI x)).1 (Int.le_refl _)
  intro y hy
  have := this.2 y hy
  omega
/-- The fewest loads have no gap at the end: their count is the number. -/
theorem count_few {F : Furn} {m : Nat} {x : List Int} (h : Good F m x) (hmin : ∀ m', m' < m → ∀ x, ¬ Good F m' x) : countI x = m := by
  have h1 : countI x ≤ m := (countI_le x 0 m).2 ⟨by omega, fun y hy => by have := h.rng y hy; omega⟩
  have h0 := countI_pos x
  rcases Int.lt_or_eq_of_le h1 with h2 | h2
  · exact absurd (Good.mk h.len (fun y hy => ⟨(h.rng y hy).1, by have := countI_lt x y hy; omega⟩) h.goes : Good F (countI x).toNat x) (hmin _ (by omega) x)
  · exact h2
end Go.Proofs.YtbijamlgcebgeaaDoor.Hand

-- part QI
namespace Go.Proofs.YtbijamlgcebgeaaDoor.Q
open Go.RowKit Go.Proofs.YtbijamlgcebgeaaDoorW.PrintWords Go.Proofs.YtbijamlgcebgeaaDoorW.PrintLast Go.Proofs.YtbijamlgcebgeaaDoorW.PrintMore
attribute [local go_sem] max2_int min2_int max_two min_two max_three min_three max_four min_four
def smaltolaw03_up.l0 : Nat → List Int → Int → Int → Option (Bool)
  | 0, _, _, _ => none
  | k + 1, x0, x1, x5 => if x5 < (x0.length : Int) then (if 0 ≤ x5 then (if (rd x0 x5) < 0 then (some false) else (if (rd x0 x5) ≥ x1 then (some false) else (if x5 > 0 then (if 0 ≤ (wrap64 (x5 - 1)) then (if (wrap64 (x5 - 1)) < (x0.length : Int) then (if (rd x0 x5) ≤ (rd x0 (wrap64 (x5 - 1))) then (some false) else (smaltolaw03_up.l0 k x0 x1 (wrap64 (x5 + 1)))) else (none)) else (none)) else (smaltolaw03_up.l0 k x0 x1 (wrap64 (x5 + 1)))))) else (none)) else (some true)
def smaltolaw03_up.f (k : Nat) (l0 : List Int) (a1 : Int) : Option (Bool) := smaltolaw03_up.l0 k l0 a1 0
theorem smaltolaw03_up.mono_l : ∀ k, (∀ y0 y1 y2, LeO (smaltolaw03_up.l0 k y0 y1 y2) (smaltolaw03_up.l0 (k + 1) y0 y1 y2))
  | 0 => fun _ _ _ r h => by simp [smaltolaw03_up.l0] at h
  | k + 1 => by
    have ih0 := smaltolaw03_up.mono_l k
    · intro y0 y1 y2
      unfold smaltolaw03_up.l0
      repeat' first
      | (with_reducible exact ih0 _ _ _)
      | (with_reducible exact LeO.refl _)
      | (with_reducible exact LeO.none _)
      | (with_reducible refine LeO.ite ?_ ?_)
      | (with_reducible refine LeO.bind ?_ (fun _ => ?_))
      | exact ih0 _ _ _
      | exact LeO.none _
      | refine LeO.ite ?_ ?_
      | refine LeO.bind ?_ (fun _ => ?_)
theorem smaltolaw03_up.mono : ∀ a0 a1 k, LeO (smaltolaw03_up.f k a0 a1) (smaltolaw03_up.f (k + 1) a0 a1) := by
  intro a0 a1 k
  have ih0 := smaltolaw03_up.mono_l k
  unfold smaltolaw03_up.f
  repeat' first
      | (with_reducible exact ih0 _ _ _)
      | (with_reducible exact LeO.refl _)
      | (with_reducible exact LeO.none _)
      | (with_reducible refine LeO.ite ?_ ?_)
      | (with_reducible refine LeO.bind ?_ (fun _ => ?_))
      | exact ih0 _ _ _
      | exact LeO.none _
      | refine LeO.ite ?_ ?_
      | refine LeO.bind ?_ (fun _ => ?_)
set_option maxHeartbeats 8000000 in
set_option maxRecDepth 100000 in
theorem smaltolaw03_up.calls (k : Nat) (A0 : Option Addr) (c0 : Nat) (l0 : List Int) (a1 : Int) (r : Bool) (w : World) (hr0 : Kd.C (Kd.int .i64) w A0 l0.length l0) (hc0 : l0.length ≤ c0) (h : smaltolaw03_up.f k l0 a1 = some r) :
    Calls Tryd.prog 46 #[.slice A0 l0.length c0, .int .i64 a1] w fun e w' => e = .returned (.bool r) ∧ Drawn0 w w' := by
  have HR0 := Aside0.mk hr0
  have HC0 := Aside0.mk hc0
  clear hr0 hc0
  have H : (smaltolaw03_up.l0 k l0 a1 0) = some r := h
  clear h
  have H' := Aside0.mk H
  clear H
  go_enter Tryd.func46, Tryd.ntmps46
  go_wp2
  repeat (go_quiet (fail); try go_wp2)
  go_loopg [5] k (fun kq v5 w' => ∃ (x5_1 : Int), v5 = .int .i64 x5_1 ∧ Aside0 (smaltolaw03_up.l0 kq l0 a1 x5_1 = some r) ∧ Aside0 (kq ≤ k) ∧ Drawn0 w w')
  case atStart => exact ⟨(0), (by first | rfl | (simp; done) | (simp [*]; done)), H', ⟨Nat.le_refl _⟩, by repeat (first | exact Drawn0.refl _ | apply Drawn0.step)⟩
  case round =>
    clear H'
    try clear p2
    obtain ⟨x5_1, rfl, HA, HK1, ⟨m1, rfl⟩⟩ := hrel
    cases gk with
    | zero => exact absurd HA.out (by simp [smaltolaw03_up.l0])
    | succ k1 =>
      have H := HA.out
      clear HA
      simp only [smaltolaw03_up.l0] at H
      by_cases c3 : x5_1 < (l0.length : Int)
      · rw [if_pos c3] at H
        have c3b0 : decide (x5_1 < (l0.length : Int)) = true := decide_eq_true c3
        clear c3
        by_cases c4 : 0 ≤ x5_1
        · rw [if_pos c4] at H
          have c4b0 : decide (0 ≤ x5_1) = true := decide_eq_true c4
          clear c4
          by_cases c5 : (rd l0 x5_1) < 0
          · rw [if_pos c5] at H
            have c5b0 : decide ((rd l0 x5_1) < 0) = true := decide_eq_true c5
            clear c5
            obtain rfl := Option.some.inj H
            have p351 : 0 ≤ (x5_1 : Int) := of_decide_eq_true (by first | (with_reducible assumption) | assumption)
            have q351 : x5_1 < (l0.length : Int) := of_decide_eq_true (by first | (with_reducible assumption) | assumption)
            obtain ⟨ad351, e351, hx351_0⟩ := Kd.at_int HR0.out x5_1 p351 q351
            cases e351
            replace p351 := eq_true p351
            replace q351 := eq_true q351
            go_wp2
            repeat (go_quiet (fail); try go_wp2)
            go_ret
            exact ⟨by first | rfl | (simp; done) | (simp [*]; done), by repeat (first | exact Drawn0.refl _ | apply Drawn0.step)⟩
          · rw [if_neg c5] at H
            have c5b0 : decide ((rd l0 x5_1) < 0) = false := decide_eq_false c5
            clear c5
            by_cases c6 : (rd l0 x5_1) ≥ a1
            · rw [if_pos c6] at H
              have c6b0 : decide (a1 ≤ (rd l0 x5_1)) = true := decide_eq_true c6
              clear c6
              obtain rfl := Option.some.inj H
              have p351 : 0 ≤ (x5_1 : Int) := of_decide_eq_true (by first | (with_reducible assumption) | assumption)
              have q351 : x5_1 < (l0.length : Int) := of_decide_eq_true (by first | (with_reducible assumption) | assumption)
              obtain ⟨ad351, e351, hx351_0⟩ := Kd.at_int HR0.out x5_1 p351 q351
              cases e351
              replace p351 := eq_true p351
              replace q351 := eq_true q351
              have p352 : 0 ≤ (x5_1 : Int) := of_decide_eq_true (by first | (with_reducible assumption) | assumption)
              have q352 : x5_1 < (l0.length : Int) := of_decide_eq_true (by first | (with_reducible assumption) | assumption)
              obtain ⟨ad352, e352, hx352_0⟩ := Kd.at_int HR0.out x5_1 p352 q352
              obtain rfl : ad351 = ad352 := (by injection e352)
              replace p352 := eq_true p352
              replace q352 := eq_true q352
              go_wp2
              repeat (go_quiet (fail); try go_wp2)
              go_ret
              exact ⟨by first | rfl | (simp; done) | (simp [*]; done), by repeat (first | exact Drawn0.refl _ | apply Drawn0.step)⟩
            · rw [if_neg c6] at H
              have c6b0 : decide (a1 ≤ (rd l0 x5_1)) = false := decide_eq_false c6
              clear c6
              by_cases c7 : x5_1 > 0
              · rw [if_pos c7] at H
                have c7b0 : decide (0 < x5_1) = true := decide_eq_true c7
                clear c7
                obtain ⟨ji8, hji8⟩ : ∃ j_ : Int, (wrap64 (x5_1 - 1)) = j_ := ⟨_, rfl⟩
                replace H : (if 0 ≤ (ji8) then (if (ji8) < (l0.length : Int) then (if (rd l0 x5_1) ≤ (rd l0 (ji8)) then (some false) else (smaltolaw03_up.l0 k1 l0 a1 (wrap64 (x5_1 + 1)))) else (none)) else (none)) = some r := by first | (rw [hji8] at H; exact H) | (simp only [hji8] at H ⊢; exact H)
                have hji8w : (IntKind.i64.wrap (x5_1 - 1)) = ji8 := (i64_w _).trans hji8
                by_cases c9 : 0 ≤ (ji8)
                · rw [if_pos c9] at H
                  have c9b0 : decide (0 ≤ (ji8)) = true := decide_eq_true c9
                  clear c9
                  by_cases c10 : (ji8) < (l0.length : Int)
                  · rw [if_pos c10] at H
                    have c10b0 : decide ((ji8) < (l0.length : Int)) = true := decide_eq_true c10
                    clear c10
                    by_cases c11 : (rd l0 x5_1) ≤ (rd l0 (ji8))
                    · rw [if_pos c11] at H
                      have c11b0 : decide ((rd l0 x5_1) ≤ (rd l0 (ji8))) = true := decide_eq_true c11
                      clear c11
                      obtain rfl := Option.some.inj H
                      have p351 : 0 ≤ (x5_1 : Int) := of_decide_eq_true (by first | (with_reducible assumption) | assumption)
                      have q351 : x5_1 < (l0.length : Int) := of_decide_eq_true (by first | (with_reducible assumption) | assumption)
                      obtain ⟨ad351, e351, hx351_0⟩ := Kd.at_int HR0.out x5_1 p351 q351
                      cases e351
                      replace p351 := eq_true p351
                      replace q351 := eq_true q351
                      have p352 : 0 ≤ (x5_1 : Int) := of_decide_eq_true (by first | (with_reducible assumption) | assumption)
                      have q352 : x5_1 < (l0.length : Int) := of_decide_eq_true (by first | (with_reducible assumption) | assumption)
                      obtain ⟨ad352, e352, hx352_0⟩ := Kd.at_int HR0.out x5_1 p352 q352
                      obtain rfl : ad351 = ad352 := (by injection e352)
                      replace p352 := eq_true p352
                      replace q352 := eq_true q352
                      have p353 : 0 ≤ (x5_1 : Int) := of_decide_eq_true (by first | (with_reducible assumption) | assumption)
                      have q353 : x5_1 < (l0.length : Int) := of_decide_eq_true (by first | (with_reducible assumption) | assumption)
                      obtain ⟨ad353, e353, hx353_0⟩ := Kd.at_int HR0.out x5_1 p353 q353
                      obtain rfl : ad351 = ad353 := (by injection e353)
                      replace p353 := eq_true p353
                      replace q353 := eq_true q353
                      have p354 : 0 ≤ ((ji8) : Int) := of_decide_eq_true (by first | (with_reducible assumption) | assumption)
                      have q354 : (ji8) < (l0.length : Int) := of_decide_eq_true (by first | (with_reducible assumption) | assumption)
                      obtain ⟨ad354, e354, hx354_0⟩ := Kd.at_int HR0.out (ji8) p354 q354
                      obtain rfl : ad351 = ad354 := (by injection e354)
                      replace p354 := eq_true p354
                      replace q354 := eq_true q354
                      go_wp2
                      repeat (go_quiet (fail); try go_wp2)
                      go_ret
                      exact ⟨by first | rfl | (simp; done) | (simp only [← hji8] <;> (first | rfl | simp)) | (simp [*]; done), by repeat (first | exact Drawn0.refl _ | apply Drawn0.step)⟩
                    · rw [if_neg c11] at H
                      have c11b0 : decide ((rd l0 x5_1) ≤ (rd l0 (ji8))) = false := decide_eq_false c11
                      clear c11
                      have H' := Aside0.mk H
                      clear H
                      have p351 : 0 ≤ (x5_1 : Int) := of_decide_eq_true (by first | (with_reducible assumption) | assumption)
                      have q351 : x5_1 < (l0.length : Int) := of_decide_eq_true (by first | (with_reducible assumption) | assumption)
                      obtain ⟨ad351, e351, hx351_0⟩ := Kd.at_int HR0.out x5_1 p351 q351
                      cases e351
                      replace p351 := eq_true p351
                      replace q351 := eq_true q351
                      have p352 : 0 ≤ (x5_1 : Int) := of_decide_eq_true (by first | (with_reducible assumption) | assumption)
                      have q352 : x5_1 < (l0.length : Int) := of_decide_eq_true (by first | (with_reducible assumption) | assumption)
                      obtain ⟨ad352, e352, hx352_0⟩ := Kd.at_int HR0.out x5_1 p352 q352
                      obtain rfl : ad351 = ad352 := (by injection e352)
                      replace p352 := eq_true p352
                      replace q352 := eq_true q352
                      have p353 : 0 ≤ (x5_1 : Int) := of_decide_eq_true (by first | (with_reducible assumption) | assumption)
                      have q353 : x5_1 < (l0.length : Int) := of_decide_eq_true (by first | (with_reducible assumption) | assumption)
                      obtain ⟨ad353, e353, hx353_0⟩ := Kd.at_int HR0.out x5_1 p353 q353
                      obtain rfl : ad351 = ad353 := (by injection e353)
                      replace p353 := eq_true p353
                      replace q353 := eq_true q353
                      have p354 : 0 ≤ ((ji8) : Int) := of_decide_eq_true (by first | (with_reducible assumption) | assumption)
                      have q354 : (ji8) < (l0.length : Int) := of_decide_eq_true (by first | (with_reducible assumption) | assumption)
                      obtain ⟨ad354, e354, hx354_0⟩ := Kd.at_int HR0.out (ji8) p354 q354
                      obtain rfl : ad351 = ad354 := (by injection e354)
                      replace p354 := eq_true p354
                      replace q354 := eq_true q354
                      go_wp2
                      repeat (go_quiet (fail); try go_wp2)
                      go_roundg k1
                      case measure => have := HK1.out; omega
                      case rel => exact ⟨(wrap64 (x5_1 + 1)), (by first | rfl | (simp; done) | (simp [*]; done)), H', ⟨by have := HK1.out; omega⟩, by repeat (first | exact Drawn0.refl _ | apply Drawn0.step)⟩
                  · rw [if_neg c10] at H
                    exact absurd H (by simp)
                · rw [if_neg c9] at H
                  exact absurd H (by simp)
              · rw [if_neg c7] at H
                have c7b0 : decide (0 < x5_1) = false := decide_eq_false c7
                clear c7
                have H' := Aside0.mk H
                clear H
                have p351 : 0 ≤ (x5_1 : Int) := of_decide_eq_true (by first | (with_reducible assumption) | assumption)
                have q351 : x5_1 < (l0.length : Int) := of_decide_eq_true (by first | (with_reducible assumption) | assumption)
                obtain ⟨ad351, e351, hx351_0⟩ := Kd.at_int HR0.out x5_1 p351 q351
                cases e351
                replace p351 := eq_true p351
                replace q351 := eq_true q351
                have p352 : 0 ≤ (x5_1 : Int) := of_decide_eq_true (by first | (with_reducible assumption) | assumption)
                have q352 : x5_1 < (l0.length : Int) := of_decide_eq_true (by first | (with_reducible assumption) | assumption)
                obtain ⟨ad352, e352, hx352_0⟩ := Kd.at_int HR0.out x5_1 p352 q352
                obtain rfl : ad351 = ad352 := (by injection e352)
                replace p352 := eq_true p352
                replace q352 := eq_true q352
                go_wp2
                repeat (go_quiet (fail); try go_wp2)
                go_roundg k1
                case measure => have := HK1.out; omega
                case rel => exact ⟨(wrap64 (x5_1 + 1)), (by first | rfl | (simp; done) | (simp [*]; done)), H', ⟨by have := HK1.out; omega⟩, by repeat (first | exact Drawn0.refl _ | apply Drawn0.step)⟩
        · rw [if_neg c4] at H
          exact absurd H (by simp)
      · rw [if_neg c3] at H
        have c3b0 : decide (x5_1 < (l0.length : Int)) = false := decide_eq_false c3
        clear c3
        obtain rfl := Option.some.inj H
        go_wp2
        repeat (go_quiet (fail); try go_wp2)
        go_ret
        exact ⟨by first | rfl | (simp; done) | (simp [*]; done), by repeat (first | exact Drawn0.refl _ | apply Drawn0.step)⟩
end Go.Proofs.YtbijamlgcebgeaaDoor.Q

-- part QJ
namespace Go.Proofs.YtbijamlgcebgeaaDoor.Q
open Go.RowKit Go.Proofs.YtbijamlgcebgeaaDoorW.PrintWords Go.Proofs.YtbijamlgcebgeaaDoorW.PrintLast Go.Proofs.YtbijamlgcebgeaaDoorW.PrintMore
attribute [local go_sem] max2_int min2_int max_two min_two max_three min_three max_four min_four
def smaltolaw03_has.l0 : Nat → List Int → Int → Int → Option (Bool)
  | 0, _, _, _ => none
  | k + 1, x0, x1, x5 => if x5 < (x0.length : Int) then (if 0 ≤ x5 then (if (rd x0 x5) = x1 then (some true) else (smaltolaw03_has.l0 k x0 x1 (wrap64 (x5 + 1)))) else (none)) else (some false)
def smaltolaw03_has.f (k : Nat) (l0 : List Int) (a1 : Int) : Option (Bool) := smaltolaw03_has.l0 k l0 a1 0
theorem smaltolaw03_has.mono_l : ∀ k, (∀ y0 y1 y2, LeO (smaltolaw03_has.l0 k y0 y1 y2) (smaltolaw03_has.l0 (k + 1) y0 y1 y2))
  | 0 => fun _ _ _ r h => by simp [smaltolaw03_has.l0] at h
  | k + 1 => by
    have ih0 := smaltolaw03_has.mono_l k
    · intro y0 y1 y2
      unfold smaltolaw03_has.l0
      repeat' first
      | (with_reducible exact ih0 _ _ _)
      | (with_reducible exact LeO.refl _)
      | (with_reducible exact LeO.none _)
      | (with_reducible refine LeO.ite ?_ ?_)
      | (with_reducible refine LeO.bind ?_ (fun _ => ?_))
      | exact ih0 _ _ _
      | exact LeO.none _
      | refine LeO.ite ?_ ?_
      | refine LeO.bind ?_ (fun _ => ?_)
theorem smaltolaw03_has.mono : ∀ a0 a1 k, LeO (smaltolaw03_has.f k a0 a1) (smaltolaw03_has.f (k + 1) a0 a1) := by
  intro a0 a1 k
  have ih0 := smaltolaw03_has.mono_l k
  unfold smaltolaw03_has.f
  repeat' first
      | (with_reducible exact ih0 _ _ _)
      | (with_reducible exact LeO.refl _)
      | (with_reducible exact LeO.none _)
      | (with_reducible refine LeO.ite ?_ ?_)
      | (with_reducible refine LeO.bind ?_ (fun _ => ?_))
      | exact ih0 _ _ _
      | exact LeO.none _
      | refine LeO.ite ?_ ?_
      | refine LeO.bind ?_ (fun _ => ?_)
set_option maxHeartbeats 8000000 in
set_option maxRecDepth 100000 in
theorem smaltolaw03_has.calls (k : Nat) (A0 : Option Addr) (c0 : Nat) (l0 : List Int) (a1 : Int) (r : Bool) (w : World) (hr0 : Kd.C (Kd.int .i64) w A0 l0.length l0) (hc0 : l0.length ≤ c0) (h : smaltolaw03_has.f k l0 a1 = some r) :
    Calls Tryd.prog 48 #[.slice A0 l0.length c0, .int .i64 a1] w fun e w' => e = .returned (.bool r) ∧ Drawn0 w w' := by
  have HR0 := Aside0.mk hr0
  have HC0 := Aside0.mk hc0
  clear hr0 hc0
  have H : (smaltolaw03_has.l0 k l0 a1 0) = some r := h
  clear h
  have H' := Aside0.mk H
  clear H
  go_enter Tryd.func48, Tryd.ntmps48
  go_wp2
  go_loopg [5] k (fun kq v5 w' => ∃ (x5_1 : Int), v5 = .int .i64 x5_1 ∧ Aside0 (smaltolaw03_has.l0 kq l0 a1 x5_1 = some r) ∧ Aside0 (kq ≤ k) ∧ Drawn0 w w')
  case atStart => exact ⟨(0), (by first | rfl | (simp; done) | (simp [*]; done)), H', ⟨Nat.le_refl _⟩, by repeat (first | exact Drawn0.refl _ | apply Drawn0.step)⟩
  case round =>
    clear H'
    try clear p2
    obtain ⟨x5_1, rfl, HA, HK1, ⟨m1, rfl⟩⟩ := hrel
    cases gk with
    | zero => exact absurd HA.out (by simp [smaltolaw03_has.l0])
    | succ k1 =>
      have H := HA.out
      clear HA
      simp only [smaltolaw03_has.l0] at H
      by_cases c3 : x5_1 < (l0.length : Int)
      · rw [if_pos c3] at H
        have c3b0 : decide (x5_1 < (l0.length : Int)) = true := decide_eq_true c3
        clear c3
        by_cases c4 : 0 ≤ x5_1
        · rw [if_pos c4] at H
          have c4b0 : decide (0 ≤ x5_1) = true := decide_eq_true c4
          clear c4
          by_cases c5 : (rd l0 x5_1) = a1
          · rw [if_pos c5] at H
            have c5b0 : ((rd l0 x5_1) == a1) = true := beq_iff_eq.mpr c5
            have c5b1 : ((rd l0 x5_1) != a1) = false := bne_eq_false_iff_eq.mpr c5
            clear c5
            obtain rfl := Option.some.inj H
            have p362 : 0 ≤ (x5_1 : Int) := of_decide_eq_true (by first | (with_reducible assumption) | assumption)
            have q362 : x5_1 < (l0.length : Int) := of_decide_eq_true (by first | (with_reducible assumption) | assumption)
            obtain ⟨ad362, e362, hx362_0⟩ := Kd.at_int HR0.out x5_1 p362 q362
            cases e362
            replace p362 := eq_true p362
            replace q362 := eq_true q362
            go_wp2
            go_ret
            exact ⟨by first | rfl | (simp; done) | (simp [*]; done), by repeat (first | exact Drawn0.refl _ | apply Drawn0.step)⟩
          · rw [if_neg c5] at H
            have c5b0 : ((rd l0 x5_1) == a1) = false := beq_eq_false_iff_ne.mpr c5
            have c5b1 : ((rd l0 x5_1) != a1) = true := bne_iff_ne.mpr c5
            have H' := Aside0.mk H
            clear H
            have p362 : 0 ≤ (x5_1 : Int) := of_decide_eq_true (by first | (with_reducible assumption) | assumption)
            have q362 : x5_1 < (l0.length : Int) := of_decide_eq_true (by first | (with_reducible assumption) | assumption)
            obtain ⟨ad362, e362, hx362_0⟩ := Kd.at_int HR0.out x5_1 p362 q362
            cases e362
            replace p362 := eq_true p362
            replace q362 := eq_true q362
            go_wp2
            go_roundg k1
            case measure => have := HK1.out; omega
            case rel => exact ⟨(wrap64 (x5_1 + 1)), (by first | rfl | (simp; done) | (simp [*]; done)), H', ⟨by have := HK1.out; omega⟩, by repeat (first | exact Drawn0.refl _ | apply Drawn0.step)⟩
        · rw [if_neg c4] at H
          exact absurd H (by simp)
      · rw [if_neg c3] at H
        have c3b0 : decide (x5_1 < (l0.length : Int)) = false := decide_eq_false c3
        clear c3
        obtain rfl := Option.some.inj H
        go_wp2
        go_ret
        exact ⟨by first | rfl | (simp; done) | (simp [*]; done), by repeat (first | exact Drawn0.refl _ | apply Drawn0.step)⟩
def smaltolaw03_count.l0 : Nat → List Int → Int → Int → Option (Int)
  | 0, _, _, _ => none
  | k + 1, x0, x3, x4 => if x4 < (x0.length : Int) then (if 0 ≤ x4 then (smaltolaw03_count.l0 k x0 (mx x3 (wrap64 ((rd x0 x4) + 1))) (wrap64 (x4 + 1))) else (none)) else (some x3)
def smaltolaw03_count.f (k : Nat) (l0 : List Int) : Option (Int) := smaltolaw03_count.l0 k l0 0 0
theorem smaltolaw03_count.mono_l : ∀ k, (∀ y0 y1 y2, LeO (smaltolaw03_count.l0 k y0 y1 y2) (smaltolaw03_count.l0 (k + 1) y0 y1 y2))
  | 0 => fun _ _ _ r h => by simp [smaltolaw03_count.l0] at h
  | k + 1 => by
    have ih0 := smaltolaw03_count.mono_l k
    · intro y0 y1 y2
      unfold smaltolaw03_count.l0
      repeat' first
      | (with_reducible exact ih0 _ _ _)
      | (with_reducible exact LeO.refl _)
      | (with_reducible exact LeO.none _)
      | (with_reducible refine LeO.ite ?_ ?_)
      | (with_reducible refine LeO.bind ?_ (fun _ => ?_))
      | exact ih0 _ _ _
      | exact LeO.none _
      | refine LeO.ite ?_ ?_
      | refine LeO.bind ?_ (fun _ => ?_)
theorem smaltolaw03_count.mono : ∀ a0 k, LeO (smaltolaw03_count.f k a0) (smaltolaw03_count.f (k + 1) a0) := by
  intro a0 k
  have ih0 := smaltolaw03_count.mono_l k
  unfold smaltolaw03_count.f
  repeat' first
      | (with_reducible exact ih0 _ _ _)
      | (with_reducible exact LeO.refl _)
      | (with_reducible exact LeO.none _)
      | (with_reducible refine LeO.ite ?_ ?_)
      | (with_reducible refine LeO.bind ?_ (fun _ => ?_))
      | exact ih0 _ _ _
      | exact LeO.none _
      | refine LeO.ite ?_ ?_
      | refine LeO.bind ?_ (fun _ => ?_)
set_option maxHeartbeats 8000000 in
set_option maxRecDepth 100000 in
theorem smaltolaw03_count.calls (k : Nat) (A0 : Option Addr) (c0 : Nat) (l0 : List Int) (r : Int) (w : World) (hr0 : Kd.C (Kd.int .i64) w A0 l0.length l0) (hc0 : l0.length ≤ c0) (h : smaltolaw03_count.f k l0 = some r) :
    Calls Tryd.prog 49 #[.slice A0 l0.length c0] w fun e w' => e = .returned (.int .i64 r) ∧ Below w.heap.size w w' := by
  have HR0 := Aside0.mk hr0
  have HC0 := Aside0.mk hc0
  clear hr0 hc0
  have HB := Aside0.mk (Below.refl w.heap.size w)
  have H : (smaltolaw03_count.l0 k l0 0 0) = some r := h
  clear h
  have H' := Aside0.mk H
  clear H
  go_enter Tryd.func49, Tryd.ntmps49
  go_wp2
  go_loopg [3, 4] k (fun kq v3 v4 w' => ∃ (x3_1 : Int) (x4_1 : Int), v3 = .int .i64 x3_1 ∧ v4 = .int .i64 x4_1 ∧ Aside0 (smaltolaw03_count.l0 kq l0 x3_1 x4_1 = some r) ∧ Aside0 (kq ≤ k) ∧ Aside0 (Below w.heap.size w w'))
  case atStart => exact ⟨(0), (0), (by first | rfl | (simp; done) | (simp [*]; done)), (by first | rfl | (simp; done) | (simp [*]; done)), H', ⟨Nat.le_refl _⟩, ⟨by repeat (first | (with_reducible first | exact HB.out | apply below_alloc | apply pw_below_drewN | apply below_drew1) | exact HB.out)⟩⟩
  case round =>
    clear H'
    obtain ⟨x3_1, x4_1, rfl, rfl, HA, HK1, HB⟩ := hrel
    cases gk with
    | zero => exact absurd HA.out (by simp [smaltolaw03_count.l0])
    | succ k1 =>
      have H := HA.out
      clear HA
      simp only [smaltolaw03_count.l0] at H
      by_cases c2 : x4_1 < (l0.length : Int)
      · rw [if_pos c2] at H
        have c2b0 : decide (x4_1 < (l0.length : Int)) = true := decide_eq_true c2
        clear c2
        by_cases c3 : 0 ≤ x4_1
        · rw [if_pos c3] at H
          have c3b0 : decide (0 ≤ x4_1) = true := decide_eq_true c3
          clear c3
          obtain ⟨ji4, hji4⟩ : ∃ j_ : Int, (mx x3_1 (wrap64 ((rd l0 x4_1) + 1))) = j_ := ⟨_, rfl⟩
          replace H : (smaltolaw03_count.l0 k1 l0 ji4 (wrap64 (x4_1 + 1))) = some r := by first | (rw [hji4] at H; exact H) | (simp only [hji4] at H ⊢; exact H)
          have hji4_ : (if x3_1 < (wrap64 ((rd l0 x4_1) + 1)) then (wrap64 ((rd l0 x4_1) + 1)) else x3_1) = ji4 := hji4
          have H' := Aside0.mk H
          clear H
          have p363 : 0 ≤ (x4_1 : Int) := of_decide_eq_true (by first | (with_reducible assumption) | assumption)
          have q363 : x4_1 < (l0.length : Int) := of_decide_eq_true (by first | (with_reducible assumption) | assumption)
          obtain ⟨ad363, e363, hx363_0⟩ := Kd.at_int HR0.out x4_1 p363 q363
          cases e363
          replace hx363_0 := (HB.out.cell (World.block_lt_of_cell? w _ hx363_0)).trans hx363_0
          replace p363 := eq_true p363
          replace q363 := eq_true q363
          go_wp2
          go_roundg k1
          case measure => have := HK1.out; omega
          case rel => exact ⟨(ji4), (wrap64 (x4_1 + 1)), (by first | rfl | (simp; done) | (simp only [← hji4] <;> (first | rfl | simp)) | (simp [*]; done)), (by first | rfl | (simp; done) | (simp [*]; done)), H', ⟨by have := HK1.out; omega⟩, ⟨by repeat (first | (with_reducible first | exact HB.out | apply below_alloc | apply pw_below_drewN | apply below_drew1) | exact HB.out)⟩⟩
        · rw [if_neg c3] at H
          exact absurd H (by simp)
      · rw [if_neg c2] at H
        have c2b0 : decide (x4_1 < (l0.length : Int)) = false := decide_eq_false c2
        clear c2
        obtain rfl := Option.some.inj H
        go_wp2
        go_ret
        exact ⟨by first | rfl | (simp [errW_none, errW_some] <;> rfl) | (simp [*, errW_none, errW_some] <;> rfl), by repeat (first | (with_reducible first | exact HB.out | apply below_alloc | apply pw_below_drewN | apply below_drew1) | exact HB.out)⟩
end Go.Proofs.YtbijamlgcebgeaaDoor.Q

-- part QK
namespace Go.Proofs.YtbijamlgcebgeaaDoor.Q
open Go.RowKit Go.Proofs.YtbijamlgcebgeaaDoorW.PrintWords Go.Proofs.YtbijamlgcebgeaaDoorW.PrintLast Go.Proofs.YtbijamlgcebgeaaDoorW.PrintMore Go.Proofs.YtbijamlgcebgeaaDoor.Hand
structure S63 where
  f0 : Int
  f1 : Int
  f2 : Int
  f3 : Int
  f4 : Int
def z63 : S63 := ⟨(0 : Int), (0 : Int), (0 : Int), (0 : Int), (0 : Int)⟩
def k63 : Kd S63 := Kd.iso (Kd.pair (Kd.int .u8) (Kd.pair (Kd.int .u8) (Kd.pair (Kd.int .u8) (Kd.pair (Kd.int .u8) (Kd.int .u8))))) (fun x : S63 => (x.f0, x.f1, x.f2, x.f3, x.f4))
theorem k63_open {w : World} {x : S63} {cs : List Value} (h : k63.K w x cs) : cs = [.int .u8 x.f0, .int .u8 x.f1, .int .u8 x.f2, .int .u8 x.f3, .int .u8 x.f4] := by
  obtain ⟨_, _, rfl, rfl, ⟨_, _, rfl, rfl, ⟨_, _, rfl, rfl, ⟨_, _, rfl, rfl, rfl⟩⟩⟩⟩ := h
  exact rfl
theorem k63_mk (w : World) (x : S63)  : k63.K w x [.int .u8 x.f0, .int .u8 x.f1, .int .u8 x.f2, .int .u8 x.f3, .int .u8 x.f4] := ⟨[.int .u8 x.f0], [.int .u8 x.f1, .int .u8 x.f2, .int .u8 x.f3, .int .u8 x.f4], rfl, rfl, ⟨[.int .u8 x.f1], [.int .u8 x.f2, .int .u8 x.f3, .int .u8 x.f4], rfl, rfl, ⟨[.int .u8 x.f2], [.int .u8 x.f3, .int .u8 x.f4], rfl, rfl, ⟨[.int .u8 x.f3], [.int .u8 x.f4], rfl, rfl, rfl⟩⟩⟩⟩
def fork_Bar.f (a0_0 : Int) (a0_1 : Int) (a0_2 : Int) (a0_3 : Int) (a0_4 : Int) (l1 : List (S74)) (l2 : List Int) : Option (List Int × Int) := some (barR a0_0 a0_1 a0_2 a0_3 a0_4 l1 l2)
theorem fork_Bar.calls (a0_0 : Int) (a0_1 : Int) (a0_2 : Int) (a0_3 : Int) (a0_4 : Int) (A1 : Option Addr) (c1 : Nat) (l1 : List (S74)) (A2 : Option Addr) (c2 : Nat) (l2 : List Int) (r1 : List Int) (r2 : Int) (w : World) (hT : TabW w) (hr1 : Kd.C k74 w A1 l1.length l1) (hc1 : l1.length ≤ c1) (hr2 : Kd.C (Kd.int .i64) w A2 l2.length l2) (hc2 : l2.length ≤ c2) (h : fork_Bar.f a0_0 a0_1 a0_2 a0_3 a0_4 l1 l2 = some (r1, r2)) :
    Calls Tryd.prog 28 #[.agg #[.int .i64 a0_0, .int .i64 a0_1, .int .i64 a0_2, .int .i64 a0_3, .int .i64 a0_4], .slice A1 l1.length c1, .slice A2 l2.length c2] w fun e w' => ∃ v0_ : Value, e = .returned (.tuple #[v0_, .int .i64 r2]) ∧ Kd.R (Kd.int .i64) 3 w' w.heap.size (fun _ => True) v0_ r1 ∧ Below w.heap.size w w' := by
  have hx := bar_exp a0_0 a0_1 a0_2 a0_3 a0_4 l1 l2 A1 A2 c1 c2 w hT hr1 hr2
  simp only [fork_Bar.f, Option.some.injEq] at h
  rw [h] at hx
  exact hx
def fork_Loads.f (a0_0 : Int) (a0_1 : Int) (a0_2 : Int) (a0_3 : Int) (a0_4 : Int) (l1 : List (S74)) : Option (List Int × Int) := some (loadsR a0_0 a0_1 a0_2 a0_3 a0_4 l1)
theorem fork_Loads.calls (a0_0 : Int) (a0_1 : Int) (a0_2 : Int) (a0_3 : Int) (a0_4 : Int) (A1 : Option Addr) (c1 : Nat) (l1 : List (S74)) (r1 : List Int) (r2 : Int) (w : World) (hT : TabW w) (hr1 : Kd.C k74 w A1 l1.length l1) (hc1 : l1.length ≤ c1) (h : fork_Loads.f a0_0 a0_1 a0_2 a0_3 a0_4 l1 = some (r1, r2)) :
    Calls Tryd.prog 31 #[.agg #[.int .i64 a0_0, .int .i64 a0_1, .int .i64 a0_2, .int .i64 a0_3, .int .i64 a0_4], .slice A1 l1.length c1] w fun e w' => ∃ v0_ : Value, e = .returned (.tuple #[v0_, .int .i64 r2]) ∧ Kd.R (Kd.int .i64) 3 w' w.heap.size (fun _ => True) v0_ r1 ∧ Below w.heap.size w w' := by
  have hx := loads_exp a0_0 a0_1 a0_2 a0_3 a0_4 l1 A1 c1 w hT hr1
  simp only [fork_Loads.f, Option.some.injEq] at h
  rw [h] at hx
  exact hx
def fork_Dear.f (a0_0 : Int) (a0_1 : Int) (a0_2 : Int) (a0_3 : Int) (a0_4 : Int) (l1 : List (S74)) : Option (List Int × Int) := some (dearR a0_0 a0_1 a0_2 a0_3 a0_4 l1)
theorem fork_Dear.calls (a0_0 : Int) (a0_1 : Int) (a0_2 : Int) (a0_3 : Int) (a0_4 : Int) (A1 : Option Addr) (c1 : Nat) (l1 : List (S74)) (r1 : List Int) (r2 : Int) (w : World) (hT : TabW w) (hr1 : Kd.C k74 w A1 l1.length l1) (hc1 : l1.length ≤ c1) (h : fork_Dear.f a0_0 a0_1 a0_2 a0_3 a0_4 l1 = some (r1, r2)) :
    Calls Tryd.prog 32 #[.agg #[.int .i64 a0_0, .int .i64 a0_1, .int .i64 a0_2, .int .i64 a0_3, .int .i64 a0_4], .slice A1 l1.length c1] w fun e w' => ∃ v0_ : Value, e = .returned (.tuple #[v0_, .int .i64 r2]) ∧ Kd.R (Kd.int .i64) 3 w' w.heap.size (fun _ => True) v0_ r1 ∧ Below w.heap.size w w' := by
  have hx := dear_exp a0_0 a0_1 a0_2 a0_3 a0_4 l1 A1 c1 w hT hr1
  simp only [fork_Dear.f, Option.some.injEq] at h
  rw [h] at hx
  exact hx
def goesC.f (a0_0 : Int) (a0_1 : Int) (a0_2 : Int) (a0_3 : Int) (a0_4 : Int) (l1 : List (S74)) (l2 : List Int) : Option (Bool × Bool) := if (goesR a0_0 a0_1 a0_2 a0_3 a0_4 l1 l2).2.2 = 0 then some ((goesR a0_0 a0_1 a0_2 a0_3 a0_4 l1 l2).1, (goesR a0_0 a0_1 a0_2 a0_3 a0_4 l1 l2).2.1) else none
theorem goesC.calls (a0_0 : Int) (a0_1 : Int) (a0_2 : Int) (a0_3 : Int) (a0_4 : Int) (A1 : Option Addr) (c1 : Nat) (l1 : List (S74)) (A2 : Option Addr) (c2 : Nat) (l2 : List Int) (r1 : Bool) (r2 : Bool) (w : World) (hT : TabW w) (hr1 : Kd.C k74 w A1 l1.length l1) (hc1 : l1.length ≤ c1) (hr2 : Kd.C (Kd.int .i64) w A2 l2.length l2) (hc2 : l2.length ≤ c2) (h : goesC.f a0_0 a0_1 a0_2 a0_3 a0_4 l1 l2 = some (r1, r2)) :
    Calls Tryd.prog 17 #[.agg #[.int .i64 a0_0, .int .i64 a0_1, .int .i64 a0_2, .int .i64 a0_3, .int .i64 a0_4], .slice A1 l1.length c1, .slice A2 l2.length c2] w fun e w' => e = .returned (.tuple #[.bool r1, .bool r2, .int .i64 0]) ∧ Below w.heap.size w w' := by
  have hx := goes_exp a0_0 a0_1 a0_2 a0_3 a0_4 l1 l2 A1 A2 c1 c2 w hT hr1 hr2
  unfold goesC.f at h
  split at h
  · rename_i h0
    simp only [Option.some.injEq, Prod.mk.injEq] at h
    rw [h0, h.1, h.2] at hx
    exact hx
  · cases h
def stillC.f (a0_0 : Int) (a0_1 : Int) (a0_2 : Int) (a0_3 : Int) (a0_4 : Int) (l1 : List (S74)) (l2 : List Int) : Option (List Int) := if (stillR a0_0 a0_1 a0_2 a0_3 a0_4 l1 l2).2 = 0 then some (stillR a0_0 a0_1 a0_2 a0_3 a0_4 l1 l2).1 else none
theorem stillC.calls (a0_0 : Int) (a0_1 : Int) (a0_2 : Int) (a0_3 : Int) (a0_4 : Int) (A1 : Option Addr) (c1 : Nat) (l1 : List (S74)) (A2 : Option Addr) (c2 : Nat) (l2 : List Int) (r1 : List Int) (w : World) (hT : TabW w) (hr1 : Kd.C k74 w A1 l1.length l1) (hc1 : l1.length ≤ c1) (hr2 : Kd.C (Kd.int .i64) w A2 l2.length l2) (hc2 : l2.length ≤ c2) (h : stillC.f a0_0 a0_1 a0_2 a0_3 a0_4 l1 l2 = some r1) :
    Calls Tryd.prog 27 #[.agg #[.int .i64 a0_0, .int .i64 a0_1, .int .i64 a0_2, .int .i64 a0_3, .int .i64 a0_4], .slice A1 l1.length c1, .slice A2 l2.length c2] w fun e w' => ∃ v0_ : Value, e = .returned (.tuple #[v0_, .int .i64 0]) ∧ Kd.R (Kd.int .i64) 3 w' w.heap.size (fun _ => True) v0_ r1 ∧ Below w.heap.size w w' := by
  have hx := still_exp a0_0 a0_1 a0_2 a0_3 a0_4 l1 l2 A1 A2 c1 c2 w hT hr1 hr2
  unfold stillC.f at h
  split at h
  · rename_i h0
    simp only [Option.some.injEq] at h
    rw [h0, h] at hx
    exact hx
  · cases h
def apartC.f (a0_0 : Int) (a0_1 : Int) (a0_2 : Int) (a0_3 : Int) (a0_4 : Int) (l1 : List (S74)) : Option (List Int) := if (apartR a0_0 a0_1 a0_2 a0_3 a0_4 l1).2 = 0 then some (apartR a0_0 a0_1 a0_2 a0_3 a0_4 l1).1 else none
theorem apartC.calls (a0_0 : Int) (a0_1 : Int) (a0_2 : Int) (a0_3 : Int) (a0_4 : Int) (A1 : Option Addr) (c1 : Nat) (l1 : List (S74)) (r1 : List Int) (w : World) (hT : TabW w) (hr1 : Kd.C k74 w A1 l1.length l1) (hc1 : l1.length ≤ c1) (h : apartC.f a0_0 a0_1 a0_2 a0_3 a0_4 l1 = some r1) :
    Calls Tryd.prog 36 #[.agg #[.int .i64 a0_0, .int .i64 a0_1, .int .i64 a0_2, .int .i64 a0_3, .int .i64 a0_4], .slice A1 l1.length c1] w fun e w' => ∃ v0_ : Value, e = .returned (.tuple #[v0_, .int .i64 0]) ∧ Kd.R (Kd.int .i64) 3 w' w.heap.size (fun _ => True) v0_ r1 ∧ Below w.heap.size w w' := by
  have hx := apart_exp a0_0 a0_1 a0_2 a0_3 a0_4 l1 A1 c1 w hT hr1
  unfold apartC.f at h
  split at h
  · rename_i h0
    simp only [Option.some.injEq] at h
    rw [h0, h] at hx
    exact hx
  · cases h
def knownC.f : Option Unit := some ()
theorem knownC.calls (w : World) (hT : TabW w) (h : knownC.f = some ()) : Calls Tryd.prog 13 #[] w fun e w' => e = .returned (.bool true) ∧ Below w.heap.size w w' := known_calls w hT
def upC.f (k : Nat) (l0 : List Int) (a1 : Int) : Option Unit := if smaltolaw03_up.f k l0 a1 = some true then some () else none
theorem upC.mono : ∀ a0 a1 k, LeO (upC.f k a0 a1) (upC.f (k + 1) a0 a1) := by
  intro a0 a1 k r h
  unfold upC.f at h ⊢
  split at h
  · rename_i h0
    exact (if_pos (smaltolaw03_up.mono a0 a1 k _ h0)).trans h
  · cases h
theorem upC.calls (k : Nat) (A0 : Option Addr) (c0 : Nat) (l0 : List Int) (a1 : Int) (w : World) (hr0 : Kd.C (Kd.int .i64) w A0 l0.length l0) (hc0 : l0.length ≤ c0) (h : upC.f k l0 a1 = some ()) :
    Calls Tryd.prog 46 #[.slice A0 l0.length c0, .int .i64 a1] w fun e w' => e = .returned (.bool true) ∧ Drawn0 w w' := by
  unfold upC.f at h
  split at h
  · rename_i h0
    exact smaltolaw03_up.calls k A0 c0 l0 a1 true w hr0 hc0 h0
  · cases h
/-- A byte. -/
def byteB (a : Int) : Bool := decide (0 ≤ a) && decide (a < 256)
def okB5 (x : S63) : Bool := byteB x.f0 && byteB x.f1 && byteB x.f2 && byteB x.f3 && byteB x.f4
def b5 (x : S63) : B5 := ⟨x.f0.toNat, x.f1.toNat, x.f2.toNat, x.f3.toNat, x.f4.toNat⟩
theorem byteB_iff (a : Int) : byteB a = true ↔ 0 ≤ a ∧ a < 256 := by unfold byteB; simp
theorem byteB_ok {a : Int} (h : byteB a = true) : a.toNat < 256 ∧ ((a.toNat : Nat) : Int) = a := by rw [byteB_iff] at h; omega
theorem b5_ok {x : S63} (h : okB5 x = true) : (b5 x).Ok ∧ [.int .u8 x.f0, .int .u8 x.f1, .int .u8 x.f2, .int .u8 x.f3, .int .u8 x.f4] = (b5 x).cs := by
  unfold okB5 at h
  simp only [Bool.and_eq_true] at h
  obtain ⟨⟨⟨⟨h0, h1⟩, h2⟩, h3⟩, h4⟩ := h
  have e0 := byteB_ok h0
  have e1 := byteB_ok h1
  have e2 := byteB_ok h2
  have e3 := byteB_ok h3
  have e4 := byteB_ok h4
  refine ⟨⟨e0.1, e1.1, e2.1, e3.1, e4.1⟩, ?_⟩
  unfold B5.cs b5
  simp only [e0.2, e1.2, e2.2, e3.2, e4.2]
theorem readsB5 {w : World} {A : Option Addr} {l : List (S63)} (hr : Kd.C k63 w A l.length l) (hok : ∀ x ∈ l, okB5 x = true) : B5C w A l.length (l.map b5) := by
  obtain ⟨hl, hm, hc⟩ := hr
  refine ⟨by simp, hm, fun hn => ?_⟩
  obtain ⟨ad, e, hcell⟩ := hc hn
  refine ⟨ad, e, fun j p hj => ?_⟩
  rw [List.getElem?_map] at hj
  obtain ⟨y, hy, rfl⟩ := Option.map_eq_some_iff.1 hj
  obtain ⟨c, hs, hK, hu⟩ := hcell j y hy
  exact ⟨c, hs, (k63_open hK).trans (b5_ok (hok y (List.mem_of_getElem? hy))).2, hu⟩
def smaltolaw03_Rack_made.f (a0_0 : Int) (a0_1 : Int) (a0_2 : Int) (a0_3 : Int) (a0_4 : Int) (l0_5 : List (S63)) : Option (Int × Int × Int × Int × Int × List S74) :=
  if (okB5 ⟨a0_0, a0_1, a0_2, a0_3, a0_4⟩ && l0_5.all okB5) = true then some (((1 + a0_0.toNat % 3 : Nat) : Int), ((30 + a0_1.toNat % 100 : Nat) : Int), ((a0_2.toNat % 8 : Nat) : Int), ((40 + a0_3.toNat : Nat) : Int), ((a0_4.toNat % 40 : Nat) : Int), madeL (l0_5.map b5)) else none
theorem smaltolaw03_Rack_made.calls (a0_0 : Int) (a0_1 : Int) (a0_2 : Int) (a0_3 : Int) (a0_4 : Int) (A0_5 : Option Addr) (c0_5 : Nat) (l0_5 : List (S63)) (r1 : Int) (r2 : Int) (r3 : Int) (r4 : Int) (r5 : Int) (r6 : List S74) (w : World) (hr0_5 : Kd.C k63 w A0_5 l0_5.length l0_5) (hc0_5 : l0_5.length ≤ c0_5) (h : smaltolaw03_Rack_made.f a0_0 a0_1 a0_2 a0_3 a0_4 l0_5 = some (r1, r2, r3, r4, r5, r6)) :
    Calls Tryd.prog 41 #[.agg #[.int .u8 a0_0, .int .u8 a0_1, .int .u8 a0_2, .int .u8 a0_3, .int .u8 a0_4, .slice A0_5 l0_5.length c0_5]] w fun e w' => ∃ v5_ : Value, e = .returned (.tuple #[.agg #[.int .i64 r1, .int .i64 r2, .int .i64 r3, .int .i64 r4, .int .i64 r5], v5_]) ∧ Kd.R k74 74 w' w.heap.size (fun _ => True) v5_ r6 ∧ Below w.heap.size w w' := by
  unfold smaltolaw03_Rack_made.f at h
  split at h
  · rename_i hok
    simp only [Bool.and_eq_true, List.all_eq_true] at hok
    obtain ⟨h0, h1⟩ := hok
    simp only [Option.some.injEq, Prod.mk.injEq] at h
    obtain ⟨rfl, rfl, rfl, rfl, rfl, rfl⟩ := h
    obtain ⟨hx, hcs⟩ := b5_ok h0
    have hr : B5C w A0_5 (l0_5.map b5).length (l0_5.map b5) := by
      rw [List.length_map]
      exact readsB5 hr0_5 h1
    have hm := made_calls (b5 ⟨a0_0, a0_1, a0_2, a0_3, a0_4⟩) hx (l0_5.map b5) (fun v hv => by obtain ⟨y, hy, rfl⟩ := List.mem_map.1 hv; exact (b5_ok (h1 y hy)).1) A0_5 c0_5 (by rw [List.length_map]; exact hc0_5) w hr
    unfold B5.cs at hcs
    simp only [List.cons.injEq, and_true] at hcs
    obtain ⟨q0, q1, q2, q3, q4⟩ := hcs
    rw [← q0, ← q1, ← q2, ← q3, ← q4, List.length_map] at hm
    exact hm
  · cases h
end Go.Proofs.YtbijamlgcebgeaaDoor.Q

-- part PB
namespace Go.Proofs.YtbijamlgcebgeaaDoor.Hand
open Go.RowKit Go.Shelf Go.Sort Go.Proofs.YtbijamlgcebgeaaDoorW.PrintWords Go.Proofs.YtbijamlgcebgeaaDoorW.PrintMore Go.Proofs.YtbijamlgcebgeaaDoor.Q
/-- As a rewriting that leaves a proof: the kernel never compares what stands on both sides. -/
theorem bs {α β : Type} (a : α) (f : α → Option β) : (some a).bind f = f a := by
  have h : ∀ o : Option α, o = some a → o.bind f = f a := by intro o ho; subst ho; rfl
  exact h _ rfl
theorem own_f {l : List S74} (h : l.length ≤ 1000) : smaltolaw03_own.f l = some l := by
  simp only [smaltolaw03_own.f, Option.bind_some, List.nil_append, List.length_nil]
  rw [if_pos (by omega)]
theorem ints_f {l : List Int} (h : l.length ≤ 1000) : smaltolaw03_ints.f l = some l := by
  simp only [smaltolaw03_ints.f, Option.bind_some, List.nil_append, List.length_nil]
  rw [if_pos (by omega)]
theorem fold_take {x : List Int} {i : Nat} (hi : i < x.length) (f : Int → Int → Int) (a : Int) : (x.take (i + 1)).foldl f a = f ((x.take i).foldl f a) (rd x i) := by
  rw [List.take_succ_eq_append_getElem hi, List.foldl_append, rd_get hi]
  rfl
theorem count_f {x : List Int} (hl : x.length ≤ 1000) (hb : ∀ y ∈ x, 0 ≤ y ∧ y ≤ 1000) (k : Nat) (hk : x.length < k) : smaltolaw03_count.f k x = some (countI x) := by
  have key : ∀ d (i : Nat), i + d = x.length → ∀ q, d < q → smaltolaw03_count.l0 q x ((x.take i).foldl (fun n y => mx n (y + 1)) 0) i = some (countI x) := by
    intro d
    induction d with
    | zero =>
      intro i hi q hq
      obtain ⟨q, rfl⟩ : ∃ p, q = p + 1 := ⟨q - 1, by omega⟩
      rw [smaltolaw03_count.l0, if_neg (by omega), List.take_of_length_le (by omega)]
      rfl
    | succ d ih =>
      intro i hi q hq
      obtain ⟨q, rfl⟩ : ∃ p, q = p + 1 := ⟨q - 1, by omega⟩
      have hil : i < x.length := by omega
      have := ih (i + 1) (by omega) q (by omega)
      rw [fold_take hil, show ((i + 1 : Nat) : Int) = (i : Int) + 1 by omega] at this
      have hb' := hb _ (List.getElem_mem hil)
      rw [← rd_get hil] at hb'
      rw [smaltolaw03_count.l0, if_pos (by omega), if_pos (by omega), w64 (x := rd x i + 1) (by omega), w64 (x := (i : Int) + 1) (by omega)]
      exact this
  have h0 := key x.length 0 (by omega) k hk
  exact h0
theorem has_f {x : List Int} (hl : x.length ≤ 1000) (v : Int) (k : Nat) (hk : x.length < k) : smaltolaw03_has.f k x v = some (decide (v ∈ x)) := by
  have key : ∀ d (i : Nat), i + d = x.length → ∀ q, d < q → smaltolaw03_has.l0 q x v i = some (decide (v ∈ x.drop i)) := by
    intro d
    induction d with
    | zero =>
      intro i hi q hq
      obtain ⟨q, rfl⟩ : ∃ p, q = p + 1 := ⟨q - 1, by omega⟩
      rw [smaltolaw03_has.l0, if_neg (by omega), List.drop_of_length_le (by omega)]
      simp
    | succ d ih =>
      intro i hi q hq
      obtain ⟨q, rfl⟩ : ∃ p, q = p + 1 := ⟨q - 1, by omega⟩
      have hil : i < x.length := by omega
      have := ih (i + 1) (by omega) q (by omega)
      rw [show ((i + 1 : Nat) : Int) = (i : Int) + 1 by omega] at this
      rw [smaltolaw03_has.l0, if_pos (by omega), if_pos (by omega), w64 (x := (i : Int) + 1) (by omega), this, List.drop_eq_getElem_cons hil, rd_get hil]
      by_cases h : x[i] = v
      · rw [if_pos h]; simp [h]
      · rw [if_neg h]
        have : ¬ v = x[i] := fun e => h e.symm
        simp only [List.mem_cons, this, false_or]
  exact key x.length 0 (by omega) k hk
theorem up_f {x : List Int} (hl : x.length ≤ 1000) (n : Int) (hp : x.Pairwise (· < ·)) (hm : ∀ y ∈ x, 0 ≤ y ∧ y < n) (k : Nat) (hk : x.length < k) : upC.f k x n = some () := by
  have key : ∀ d (i : Nat), i + d = x.length → ∀ q, d < q → smaltolaw03_up.l0 q x n i = some true := by
    intro d
    induction d with
    | zero =>
      intro i hi q hq
      obtain ⟨q, rfl⟩ : ∃ p, q = p + 1 := ⟨q - 1, by omega⟩
      rw [smaltolaw03_up.l0, if_neg (by omega)]
    | succ d ih =>
      intro i hi q hq
      obtain ⟨q, rfl⟩ : ∃ p, q = p + 1 := ⟨q - 1, by omega⟩
      have hil : i < x.length := by omega
      have := ih (i + 1) (by omega) q (by omega)
      rw [show ((i + 1 : Nat) : Int) = (i : Int) + 1 by omega] at this
      have h1 := hm _ (List.getElem_mem hil)
      rw [← rd_get hil] at h1
      rw [smaltolaw03_up.l0, if_pos (by omega), if_pos (by omega), if_neg (by omega), if_neg (by omega), w64 (x := (i : Int) + 1) (by omega), this]
      by_cases h0 : i = 0
      · rw [if_neg (by omega)]
      · rw [if_pos (by omega), w64 (x := (i : Int) - 1) (by omega), if_pos (by omega), if_pos (by omega), if_neg]
        rw [show ((i : Int) - 1) = ((i - 1 : Nat) : Int) by omega, rd_get hil, rd_get (show i - 1 < x.length by omega)]
        have := List.pairwise_iff_getElem.1 hp (i - 1) i (by omega) hil (by omega)
        omega
  have h0 := key x.length 0 (by omega) k hk
  exact if_pos h0
/-- Whether the signs of an ascending list go, as the program tells it. -/
theorem goes_places {F : Furn} (hF : F.Ok) {is : List Nat} (ha : is.Pairwise (· < ·)) (hi : ∀ i ∈ is, i < F.l.length) : ∃ p, gR F F.l (is.map Int.ofNat) = (goesI F is, p, 0) := by
  obtain ⟨s, h1, h2, h3⟩ := new_pair hF (load := is.map Int.ofNat) (by
    rw [List.pairwise_map]
    exact ha.imp (fun h => Int.ofNat_lt.2 h)) (fun x hx => by
    obtain ⟨i, hi', rfl⟩ := List.mem_map.1 hx
    have := hi i hi'
    simp only [Int.ofNat_eq_natCast]
    omega)
  have e : bitsOf s = is := List.map_inj_right (f := Int.ofNat) (fun a b h => Int.ofNat.inj h) |>.1 h2
  refine ⟨decide (sumB (fun x => x.f2.f0) F.l (bitsOf s) ≤ F.load) && fitsB F s, ?_⟩
  unfold gR goesR
  rw [h1, ← e]
  rfl
theorem goesC_f {F : Furn} (hF : F.Ok) {is : List Nat} (ha : is.Pairwise (· < ·)) (hi : ∀ i ∈ is, i < F.l.length) : ∃ p, goesC.f F.bars F.length F.gap F.load F.near F.l (is.map Int.ofNat) = some (goesI F is, p) := by
  obtain ⟨p, hp⟩ := goes_places hF ha hi
  refine ⟨p, ?_⟩
  unfold gR at hp
  unfold goesC.f
  rw [hp]
  simp
theorem new_nil {F : Furn} (hF : F.Ok) : ∃ s, newR F.bars F.length F.gap F.load F.near F.l [] = .ok s := by
  obtain ⟨s, h, _⟩ := new_pair hF (load := []) (by simp) (by simp)
  exact ⟨s, h⟩
theorem loads_f {F : Furn} (hF : F.Ok) : fork_Loads.f F.bars F.length F.gap F.load F.near F.l = some (if (fewestB F).2.2 = true then ((fewestB F).1, 0) else ([], 7)) := by
  obtain ⟨s, hs⟩ := new_nil hF
  unfold fork_Loads.f loadsR
  rw [hs]
  rfl
theorem made_f {a0 a1 a2 a3 a4 : Int} {l : List S63} (h0 : okB5 ⟨a0, a1, a2, a3, a4⟩ = true) (h1 : ∀ x ∈ l, okB5 x = true) :
    ∃ F : Furn, F.Ok ∧ smaltolaw03_Rack_made.f a0 a1 a2 a3 a4 l = some (F.bars, F.length, F.gap, F.load, F.near, F.l) ∧ F.load ≤ 295 ∧ F.length ≤ 129 ∧ F.near ≤ 39 := by
  refine ⟨madeF (b5 ⟨a0, a1, a2, a3, a4⟩) (l.map b5), madeF_ok _ (b5_ok h0).1 _ (fun v hv => by obtain ⟨y, hy, rfl⟩ := List.mem_map.1 hv; exact (b5_ok (h1 y hy)).1), ?_, ?_⟩
  · unfold smaltolaw03_Rack_made.f
    rw [if_pos (by simp only [Bool.and_eq_true, List.all_eq_true]; exact ⟨h0, h1⟩)]
    rfl
  · have := (b5_ok h0).1
    obtain ⟨q1, q2, q3, q4, q5⟩ := this
    unfold madeF
    simp only
    omega
theorem few_less {F : Furn} (hF : F.Ok) (h : (fewestB F).2.2 = true) {i : Nat} (hi : i < F.l.length) : (fewestB (lessF F i)).2.2 = true ∧ (fewestB (lessF F i)).2.1 ≤ (fewestB F).2.1 ∧ (fewestB F).2.1 ≤ (fewestB (lessF F i)).2.1 + 1 := by
  have h1 : (fewestB (lessF F i)).2.2 = true := rest_ok (a := F.bars) (b := F.length) (c := F.gap) (d := F.load) (e := F.near) (l := F.l) (ok_check hF) h i hi
  obtain ⟨g1, _, _, g2⟩ := fewest_some hF h
  obtain ⟨k1, _, _, k2⟩ := fewest_some (less_ok hF i) h1
  refine ⟨h1, ?_, ?_⟩
  · rcases Nat.lt_or_ge (fewestB F).2.1 (fewestB (lessF F i)).2.1 with h2 | h2
    · exact absurd (less_good hF g1 i hi) (k2 _ h2 _)
    · exact h2
  · rcases Nat.lt_or_ge ((fewestB (lessF F i)).2.1 + 1) (fewestB F).2.1 with h2 | h2
    · exact absurd (more_good hF i hi k1 (single_good hF g1 i hi)) (g2 _ h2 _)
    · exact h2
theorem few_count {F : Furn} (hF : F.Ok) (h : (fewestB F).2.2 = true) : countI (fewestB F).1 = (fewestB F).2.1 := by
  obtain ⟨g1, _, _, g2⟩ := fewest_some hF h
  exact count_few g1 g2
end Go.Proofs.YtbijamlgcebgeaaDoor.Hand

-- part JF
namespace Go.Proofs.YtbijamlgcebgeaaDoor.Hand
open Go.ChangeShapes Go.WideShapes Go.ChangeAt Go.RowKit Go.Deep Go.Proofs.YtbijamlgcebgeaaDoorW.PrintWords Go.Proofs.YtbijamlgcebgeaaDoor.Q
theorem own : ownKnob Tryd.prog.godebug = none := by kernel_rfl
theorem laidOut : laidOutB Tryd.prog = true := by kernel_rfl
theorem g64 : Tryd.prog.globalNamed "math/bits.deBruijn64tab" = some 1 := by kernel_rfl
section
variable {H : Type} {enc : TypeId × Value → H} {w : World} {base : Nat} {spare : Nat → Bool} {held : Bool}
end
set_option maxRecDepth 100000 in
/-- What the rows list gives: the table. -/
theorem tabW_of {W : World} (h : laidMetH Tryd.prog Rows.forkGoesRow.laid W) : TabW W := by
  have h2 : Lib.TabIs Tryd.prog W "math/bits.deBruijn64tab" .u8 (Lib.deBruijn64tab.map fun (n : Nat) => (n : Int)) :=
    Lib.tabIs_of_head (rest := []) (g := 1) (t := Tryd.prog.globals[1]!.type) (n := 64) (e := 5) g64 (by kernel_rfl) (by kernel_rfl) (by kernel_rfl) (by kernel_rfl) (by kernel_rfl) (laidMet.tail h)
  have hc : ∀ j, j < Lib.deBruijn64tab.length → W.cell? ⟨1, j, none⟩ = some (.int .u8 (Lib.deBruijn64tab.getD j 0)) := by
    intro j hj
    have := h2.cell g64 j (by simpa using hj)
    rw [this]
    simp [List.getD_eq_getElem?_getD, List.getElem?_eq_getElem hj]
  exact ⟨World.block_lt_of_cell? W ⟨1, 0, none⟩ (hc 0 (by decide)), hc⟩
end Go.Proofs.YtbijamlgcebgeaaDoor.Hand

-- part JH
namespace Go.Proofs.YtbijamlgcebgeaaDoor.Hand
open Go.ChangeShapes Go.WideShapes Go.ChangeAt Go.RowKit Go.Deep Go.Proofs.YtbijamlgcebgeaaDoorW.PrintWords Go.Proofs.YtbijamlgcebgeaaDoor.Q
theorem cells5 : Tryd.prog.cellsOf 5 = 1 := by kernel_rfl
theorem cells63 : Tryd.prog.cellsOf 63 = 5 := by kernel_rfl
theorem cells66 : Tryd.prog.cellsOf 66 = 6 := by kernel_rfl
theorem wf_byte {n : Int} (h : (Lit.int .u8 n).wf = true) : byteB n = true := by
  rw [byteB_iff]
  have h1 : IntKind.u8.min = 0 := by decide
  have h2 : IntKind.u8.max = 255 := by decide
  simp [Lit.wf, h1, h2] at h
  omega
section
variable {H : Type} {enc : TypeId × Value → H} {w : World} {base : Nat} {spare : Nat → Bool} {held : Bool}
theorem elByte {n : Nat} {c : Value} {x : DataW H × List MemPlace} (h : DataW.trod enc Tryd.prog w base spare held n 5 [c] = some x) : ∃ y : Int, c = .int .u8 y ∧ byteB y = true := by
  obtain ⟨y, e, _, hw⟩ := DataW.trod_int Tryd.underlying5 h
  simp only [List.cons.injEq, and_true] at e
  exact ⟨y, e, wf_byte hw⟩
set_option maxRecDepth 100000 in
theorem el63 {n : Nat} {cs : List Value} {x : DataW H × List MemPlace} (h : DataW.trod enc Tryd.prog w base spare held n 63 cs = some x) : ∃ y : S63, cs = [.int .u8 y.f0, .int .u8 y.f1, .int .u8 y.f2, .int .u8 y.f3, .int .u8 y.f4] ∧ okB5 y = true := by
  obtain ⟨xs, m, rfl, rfl, hl, hx, hf⟩ := DataW.trod_array Tryd.underlying63 h
  rw [cells63] at hl
  rw [cells5] at hf
  match cs, hl with
  | [c0, c1, c2, c3, c4], _ =>
    match xs, hx with
    | [y0, y1, y2, y3, y4], _ =>
      obtain ⟨i0, e0, b0⟩ := elByte (show DataW.trod enc Tryd.prog w base spare held m 5 [c0] = some y0 from hf 0 (by decide))
      obtain ⟨i1, e1, b1⟩ := elByte (show DataW.trod enc Tryd.prog w base spare held m 5 [c1] = some y1 from hf 1 (by decide))
      obtain ⟨i2, e2, b2⟩ := elByte (show DataW.trod enc Tryd.prog w base spare held m 5 [c2] = some y2 from hf 2 (by decide))
      obtain ⟨i3, e3, b3⟩ := elByte (show DataW.trod enc Tryd.prog w base spare held m 5 [c3] = some y3 from hf 3 (by decide))
      obtain ⟨i4, e4, b4⟩ := elByte (show DataW.trod enc Tryd.prog w base spare held m 5 [c4] = some y4 from hf 4 (by decide))
      refine ⟨⟨i0, i1, i2, i3, i4⟩, by rw [e0, e1, e2, e3, e4], ?_⟩
      unfold okB5
      simp only [b0, b1, b2, b3, b4, Bool.and_self]
set_option maxRecDepth 100000 in
theorem el64 {fuel : Nat} {c0 : Value} {x : DataW H × List MemPlace} (hf : DataW.trod enc Tryd.prog w base spare held fuel 64 [c0] = some x) :
    ∃ (A : Option Addr) (l : List S63) (c : Nat), c0 = .slice A l.length c ∧ l.length ≤ c ∧ (∀ x ∈ l, okB5 x = true) ∧ Kd.C k63 w A l.length l := by
  rcases open_slice Tryd.underlying64 hf with ⟨hcs, _⟩ | ⟨a, n, c, m, k, D, Pl, hcs, _, hl, hm, hmm, _, hi⟩
  · simp only [List.cons.injEq, and_true] at hcs
    exact ⟨none, [], 0, hcs, Nat.le_refl _, (by simp), rfl, by simp, fun h => absurd h (by simp)⟩
  · simp only [List.cons.injEq, and_true] at hcs
    have hlm : n ≤ m := by rw [hmm]; split <;> omega
    have hel : ∀ i, i < n → ∃ y : S63, okB5 y = true ∧ ∀ j u, [Value.int .u8 y.f0, .int .u8 y.f1, .int .u8 y.f2, .int .u8 y.f3, .int .u8 y.f4][j]? = some u → w.cell? (a.add (i * 5 + j)) = some u := by
      intro i hin
      obtain ⟨cs', hc, ht⟩ := hi i (by omega)
      rw [cells63] at hc
      obtain ⟨y, rfl, hok⟩ := el63 ht
      refine ⟨y, hok, fun j u hj => ?_⟩
      obtain ⟨_, _, hat⟩ := World.cells?_some hc
      obtain ⟨hjl, hju⟩ := List.getElem?_eq_some_iff.1 hj
      have := hat j (by simpa using hjl)
      rw [← Go.Deep.add_add, this]
      exact hj
    obtain ⟨f, hf⟩ : ∃ f : Nat → S63, ∀ i, i < n → okB5 (f i) = true ∧ ∀ j u, [Value.int .u8 (f i).f0, .int .u8 (f i).f1, .int .u8 (f i).f2, .int .u8 (f i).f3, .int .u8 (f i).f4][j]? = some u → w.cell? (a.add (i * 5 + j)) = some u :=
      haveI : Inhabited S63 := ⟨z63⟩
      choose_lt (p := fun i (y : S63) => okB5 y = true ∧ ∀ j u, [Value.int .u8 y.f0, .int .u8 y.f1, .int .u8 y.f2, .int .u8 y.f3, .int .u8 y.f4][j]? = some u → w.cell? (a.add (i * 5 + j)) = some u) hel
    refine ⟨some a, (List.range n).map f, c, by rw [hcs]; simp, by simpa using hl, fun y hy => ?_, ?_⟩
    · obtain ⟨i, hi, rfl⟩ := List.mem_map.1 hy
      exact (hf i (List.mem_range.1 hi)).1
    rw [show ((List.range n).map f).length = n by simp]
    refine ⟨by simp, by simp [maxLen] at hm; omega, fun _ => ⟨a, rfl, fun j p hj => ?_⟩⟩
    obtain ⟨hjl, hp⟩ := List.getElem?_eq_some_iff.1 hj
    simp at hjl hp
    subst hp
    exact ⟨_, rfl, k63_mk w (f j), (hf j hjl).2⟩
set_option maxRecDepth 100000 in
theorem open66 {b0 : Nat} {v : Value} {d : DataW H} {p : List MemPlace} (hv : Value.okWide Tryd.prog w .any b0 66 v) (h : DataW.Trod enc Tryd.prog w base spare held 66 v d p) :
    ∃ (y : S63) (A : Option Addr) (l : List S63) (c : Nat), v = .agg #[.int .u8 y.f0, .int .u8 y.f1, .int .u8 y.f2, .int .u8 y.f3, .int .u8 y.f4, .slice A l.length c] ∧ okB5 y = true ∧ (∀ x ∈ l, okB5 x = true) ∧ l.length ≤ c ∧ Kd.C k63 w A l.length l := by
  obtain ⟨cs, rfl, hsz⟩ := okWide_struct Tryd.underlying66 hv
  rw [cells66] at hsz
  obtain ⟨fuel, hf⟩ := h
  obtain ⟨xs, m, rfl, _, hl, hx, hf⟩ := DataW.trod_struct Tryd.underlying66 hf
  obtain ⟨l⟩ := cs
  match l, hsz with
  | [c0, c1, c2, c3, c4, c5], _ =>
    have h0 := hf 0 _ rfl
    have h1 := hf 1 _ rfl
    match xs, hx with
    | [y0, y1], _ =>
      obtain ⟨y, e, hok⟩ := el63 (show DataW.trod enc Tryd.prog w base spare held m 63 [c0, c1, c2, c3, c4] = some y0 from h0)
      obtain ⟨A, l, c, e2, hc, hall, hC⟩ := el64 (show DataW.trod enc Tryd.prog w base spare held m 64 [c5] = some y1 from h1)
      simp only [List.cons.injEq, and_true] at e
      obtain ⟨e0, e1, e3, e4, e5⟩ := e
      exact ⟨y, A, l, c, by rw [e0, e1, e3, e4, e5, e2], hok, hall, hc, hC⟩
set_option maxRecDepth 100000 in
theorem openByte {b0 : Nat} {v : Value} {d : DataW H} {p : List MemPlace} (hv : Value.okWide Tryd.prog w .any b0 5 v) (h : DataW.Trod enc Tryd.prog w base spare held 5 v d p) : ∃ a : Int, v = .int .u8 a ∧ byteB a = true := by
  obtain ⟨a, e, _, _, hw⟩ := open_int Tryd.underlying5 hv h
  exact ⟨a, e, wf_byte hw⟩
end
end Go.Proofs.YtbijamlgcebgeaaDoor.Hand

/- What the laws about the fork share: words about rows and regions, the walks of the package fork and of the references, and what they compute. Part 3 of 4. -/
import Derived.Test.YtbijamlgcebgeaaDoorE2
import Derived.RangeFuncNested
import Derived.OrdersIn
import Derived.TacticsIn
import Derived.OwnWalkIn
import Derived.BigFrameIn
set_option linter.unusedVariables false
set_option linter.unusedSimpArgs false
-- part HZ
namespace Go.Proofs.YtbijamlgcebgeaaDoor.Hand
open Go.RowKit Go.Proofs.YtbijamlgcebgeaaDoorW.PrintWords Go.Proofs.YtbijamlgcebgeaaDoor.Q
/-- What lies from B on lies as it lay. -/
structure FrB (B : Nat) (W W' : World) : Prop where
  size : W.heap.size ≤ W'.heap.size
  keep : ∀ (k : Nat) (o : Obj), W.heap[k]? = some o → B ≤ k → bookObj o = false → W'.heap[k]? = some o
theorem FrB.refl (B : Nat) (W : World) : FrB B W W := ⟨Nat.le_refl _, fun _ _ h _ _ => h⟩
theorem FrB.trans {B : Nat} {X Y Z : World} (h : FrB B X Y) (k : FrB B Y Z) : FrB B X Z := ⟨Nat.le_trans h.size k.size, fun i o hi hB ho => k.keep i o (h.keep i o hi hB ho) hB ho⟩
theorem FrB.putObj {B l : Nat} {W : World} {o : Obj} (hl : W.heap[l]? = some o) (hb : bookObj o = true) (o' : Obj) : FrB B W (W.putObj l o') := by
  refine ⟨by simp, fun k p hk _ hp => ?_⟩
  by_cases e : k = l
  · subst e
    rw [hl] at hk
    cases hk
    rw [hb] at hp
    cases hp
  · exact (World.putObj_heap_other e).trans hk
/-- A function that is ranged over, which keeps memory of its own from B on. -/
def IterF {α : Type} (P : Program) (g : Nat) (first lb : Array Value) (Enc : α → Array Value → World → Prop) (Inv : World → Prop) (St : World → World → Prop) (xs : List α) : Prop :=
  ∀ (l : Nat) (J Jx : List α → World → Prop) (B : Nat) (W : World), B ≤ W.heap.size → Inv W →
    (∀ pre A B, J pre A → St A B → J pre B) → (∀ pre A B, Jx pre A → St A B → Jx pre B) →
    (∀ pre x args W1, J pre W1 → Inv W1 → pre ++ [x] <+: xs → Enc x args W1 → YieldAt FW 0 P l args W1 fun e W' =>
      (e = .returned (.bool true) ∧ J (pre ++ [x]) W' ∧ Inv W' ∧ FrB B W1 W') ∨ (e = .returned (.bool false) ∧ Jx (pre ++ [x]) W')) →
    J [] W →
    CallsIn FW 0 P g (first ++ #[.func (.yield l) #[] #[]] ++ lb) W fun e W' => (∃ v, e = .returned v) ∧ ((J xs W' ∧ Inv W') ∨ (∃ pre, pre <+: xs ∧ Jx pre W'))
def rPostF {α : Type} (B : Nat) (Inv : World → Prop) (I : List α → World → Prop) (Ix : Code → List α → World → Prop) (xs : List α) (W : World) : Exit → Act → World → Prop
  | .normal, _, W' => KeepBk W W' ∧ FrB B W W' ∧ Inv W' ∧ I xs W'
  | .ret, _, W' => KeepBk W W' ∧ Ix .ret xs W'
  | .exit id, _, W' => KeepBk W W' ∧ Ix (.exit id) xs W'
  | .goto t, _, W' => KeepBk W W' ∧ Ix (.goto t) xs W'
  | .panic _, _, _ => False
  | .outgrown, _, _ => False
theorem wpIn_rangeF {α : Type} {P : Program} {g : Operand} {ps : Array Tmp} {assign body : Code} {Q : Exit → Act → World → Prop} {a : Act} {w : World}
    {gf : Nat} {first lb : Array Value} (hg : a.eval g = .func (.func gf) first lb) (eg : ∀ args w, (callFunc gf args).run P w = .ok (.enter gf args) w)
    {Enc : α → Array Value → World → Prop} {Inv : World → Prop} {St : World → World → Prop} {xs : List α} (hit : IterF P gf first lb Enc Inv St xs)
    (hps : ∀ x args W, Enc x args W → args.size = ps.size) (hInv : ∀ A B, Inv A → Inert w.heap.size A B → Inv B) (hSt : ∀ A B, St A B → KeepBk A B)
    (I : List α → World → Prop) (Ix : Code → List α → World → Prop) (hI : ∀ pre A B, I pre A → Inert w.heap.size A B → I pre B) (hIs : ∀ pre A B, I pre A → St A B → I pre B)
    (hIx : ∀ c pre A B, Ix c pre A → Inert w.heap.size A B → Ix c pre B) (hIxs : ∀ c pre A B, Ix c pre A → St A B → Ix c pre B) (h0 : I [] w) (hi0 : Inv w)
    (Ax : α → Act → World → Prop) (hAx : ∀ x a' A B, Ax x a' A → Inert w.heap.size A B → Ax x a' B)
    (hassign : ∀ (l : Nat) (pre : List α) (x : α) (args : Array Value) (W : World) (K : Act → World → Prop), I pre W → Inv W → pre ++ [x] <+: xs → Enc x args W →
      (∀ a' W', KeepBk W W' → FrB w.heap.size W W' → I pre W' → Inv W' → Ax x a' W' → K a' W') →
      assign.wpIn (FW.inRound l) 0 P (Exit.then K (fun _ _ _ => False)) { tmps := (ps.zip args).foldl (fun t (p, v) => t.setIfInBounds p v) a.tmps, defers := [] } W)
    (hbody : ∀ (l : Nat) (pre : List α) (x : α) (a' : Act) (W : World), w.heap.size ≤ l → (∃ r, W.heap[l]? = some (.loop r)) → I pre W → Inv W → pre ++ [x] <+: xs → Ax x a' W →
      body.wpIn (FW.inRound l) 0 P (rPostF w.heap.size Inv I Ix (pre ++ [x]) W) a' W)
    (hdone : ∀ (D : Nat) (W : World), w.heap.size ≤ D → I xs W → Inv W → W.heap[D]? = some (.deferred (some [])) → Q .normal { a with defers := { target := .collected D, args := #[] } :: a.defers } W)
    (hstop : ∀ (D : Nat) (c : Code) (pre : List α) (W : World), w.heap.size ≤ D → pre <+: xs → Ix c pre W → W.heap[D]? = some (.deferred (some [])) → c.wpIn FW 0 P Q { a with defers := { target := .collected D, args := #[] } :: a.defers } W) :
    (Code.rangeFunc g ps assign body).wpIn FW 0 P Q a w := by
  refine wpIn_rangeFunc ?_
  intro fn hfn
  obtain ⟨rec, hrec⟩ : ∃ rec : LoopState → Option Code → Loop, rec = fun st pe => { state := st, pending := pe, fn, tmps := a.tmps, params := ps, assign, body, defers := w.heap.size } := ⟨_, rfl⟩
  obtain ⟨W1, hW1⟩ : ∃ W1, (w.alloc (.deferred (some []))).alloc (.loop (rec .ready none)) = W1 := ⟨_, rfl⟩
  have hL1 : W1.heap[w.heap.size + 1]? = some (.loop (rec .ready none)) := by
    rw [← hW1]; have := World.alloc_heap_new (w.alloc (.deferred (some []))) (.loop (rec .ready none)); rwa [World.size_alloc] at this
  have hK1 : W1.heap[w.heap.size]? = some (.deferred (some [])) := by
    rw [← hW1]; exact (Below.heap_alloc _ _ _ (by simp)).trans (World.alloc_heap_new w _)
  have hI1 : I [] W1 := by rw [← hW1]; exact hI _ _ _ (hI _ _ _ h0 (.alloc _ _ _)) (.alloc _ _ _)
  have hV1 : Inv W1 := by rw [← hW1]; exact hInv _ _ (hInv _ _ hi0 (.alloc _ _ _)) (.alloc _ _ _)
  refine ⟨w.heap.size + 1, [{ target := .collected w.heap.size, args := #[] }], W1, { target := .fn (.func gf) lb, args := first ++ #[.func (.yield (w.heap.size + 1)) #[] #[]] }, W1, gf,
    first ++ #[.func (.yield (w.heap.size + 1)) #[] #[]] ++ lb, W1, ?_, ?_, ?_, ?_, fun h => by simp [Fence.wide] at h, ?_⟩
  · rw [← hW1, hrec]; exact run_enterLoop_outer _ _ _ _ _
  · simp only [resolve, hg]
    simp [go_sem]
  · intro f' hf'; trivial
  · simp [invoke, go_sem, eg]
  · refine (hit (w.heap.size + 1)
      (fun pre W => I pre W ∧ W.heap[w.heap.size + 1]? = some (.loop (rec .ready none)) ∧ W.heap[w.heap.size]? = some (.deferred (some [])))
      (fun pre W => ∃ c, Ix c pre W ∧ W.heap[w.heap.size + 1]? = some (.loop (rec .done (some c))) ∧ W.heap[w.heap.size]? = some (.deferred (some [])))
      w.heap.size W1 (by rw [← hW1]; simp; omega) hV1
      (fun pre A B hs hst => ⟨hIs _ _ _ hs.1 hst, hSt _ _ hst _ _ hs.2.1 rfl, hSt _ _ hst _ _ hs.2.2 rfl⟩)
      (fun pre A B hs hst => by
        obtain ⟨c, hc, hl, hk⟩ := hs
        exact ⟨c, hIxs _ _ _ _ hc hst, hSt _ _ hst _ _ hl rfl, hSt _ _ hst _ _ hk rfl⟩)
      ?_ ⟨hI1, hL1, hK1⟩).mono ?_
    · rintro pre x args W ⟨hi, hl, hk⟩ hv hpre henc
      have hy := run_yield (P := P) (args := args) hl (by rw [hrec]; exact hps x args W henc)
      rw [hrec] at hy
      refine ⟨fn, _, assign, body, hy, roundIn_of_wpIn hfn (hassign _ pre x args W _ hi hv hpre henc ?_)⟩
      clear hy
      intro a' Wa hkfa hfra hia hva hax
      replace hl := hkfa _ _ hl rfl
      replace hk := hkfa _ _ hk rfl
      replace hi := hia
      replace hv := hva
      clear hia hva hkfa henc
      obtain ⟨W0, hW0⟩ : ∃ W0, W0 = W := ⟨_, rfl⟩
      rw [← hW0] at hfra
      rw [← hW0]
      clear hW0 W
      obtain ⟨W, rfl⟩ : ∃ W, W = Wa := ⟨_, rfl⟩
      have hlt : w.heap.size + 1 < W.heap.size := lt_of_block hl
      refine ⟨_, run_beginRound hl (by rw [hrec]), ?_⟩
      have hl2 : (W.putObj (w.heap.size + 1) (.loop { rec .ready none with state := .busy })).heap[w.heap.size + 1]? = some (.loop { rec .ready none with state := .busy }) := World.putObj_heap_same hlt
      have hk2 : (W.putObj (w.heap.size + 1) (.loop { rec .ready none with state := .busy })).heap[w.heap.size]? = some (.deferred (some [])) := (World.putObj_heap_other (by omega)).trans hk
      have hin : Inert w.heap.size W (W.putObj (w.heap.size + 1) (.loop { rec .ready none with state := .busy })) := .putObj hl (by omega) rfl
      refine wpIn_mono (hbody _ pre x a' _ (by omega) ⟨_, hl2⟩ (hI _ _ _ hi hin) (hInv _ _ hv hin) hpre (hAx _ _ _ _ hax hin)) ?_
      have fin : ∀ (jump : Option Code) (W3 : World), KeepBk (W.putObj (w.heap.size + 1) (.loop { rec .ready none with state := .busy })) W3 →
          (Instr.endRound (w.heap.size + 1) jump).run P W3 = .ok (.bool jump.isNone) (W3.putObj (w.heap.size + 1) (.loop (rec (if jump.isNone then .ready else .done) jump))) ∧
          W3.heap[w.heap.size + 1]? = some (.loop { rec .ready none with state := .busy }) ∧
          (W3.putObj (w.heap.size + 1) (.loop (rec (if jump.isNone then .ready else .done) jump))).heap[w.heap.size + 1]? = some (.loop (rec (if jump.isNone then .ready else .done) jump)) ∧
          (W3.putObj (w.heap.size + 1) (.loop (rec (if jump.isNone then .ready else .done) jump))).heap[w.heap.size]? = some (.deferred (some [])) := fun jump W3 hk3 => by
        have hl3 := hk3 _ _ hl2 rfl
        have := run_endRound (P := P) jump hl3
        rw [hrec] at this ⊢
        exact ⟨this, by rw [hrec] at hl3; exact hl3, World.putObj_heap_same (lt_of_block hl3), (World.putObj_heap_other (by omega)).trans (hk3 _ _ hk2 rfl)⟩
      rintro e a3 W3 hp
      cases e with
      | normal =>
        obtain ⟨hk3, hf3, hv3, hi3⟩ := hp
        obtain ⟨hr, hl3, hl4, hk4⟩ := fin none W3 hk3
        exact ⟨_, _, hr, .inl ⟨rfl, ⟨hI _ _ _ hi3 (.putObj hl3 (Nat.le_succ _) rfl), hl4, hk4⟩, hInv _ _ hv3 (.putObj hl3 (Nat.le_succ _) rfl), hfra.trans ((FrB.putObj hl rfl _).trans (hf3.trans (FrB.putObj hl3 rfl _)))⟩⟩
      | ret =>
        obtain ⟨hk3, hi3⟩ := hp
        obtain ⟨hr, hl3, hl4, hk4⟩ := fin (some .ret) W3 hk3
        exact ⟨_, _, hr, .inr ⟨rfl, .ret, hIx _ _ _ _ hi3 (.putObj hl3 (Nat.le_succ _) rfl), hl4, hk4⟩⟩
      | exit id =>
        obtain ⟨hk3, hi3⟩ := hp
        obtain ⟨hr, hl3, hl4, hk4⟩ := fin (some (.exit id)) W3 hk3
        exact ⟨_, _, hr, .inr ⟨rfl, .exit id, hIx _ _ _ _ hi3 (.putObj hl3 (Nat.le_succ _) rfl), hl4, hk4⟩⟩
      | goto t =>
        obtain ⟨hk3, hi3⟩ := hp
        obtain ⟨hr, hl3, hl4, hk4⟩ := fin (some (.goto t)) W3 hk3
        exact ⟨_, _, hr, .inr ⟨rfl, .goto t, hIx _ _ _ _ hi3 (.putObj hl3 (Nat.le_succ _) rfl), hl4, hk4⟩⟩
      | panic ch => exact hp.elim
      | outgrown => exact hp.elim
    · rintro e W2 ⟨⟨v, rfl⟩, (⟨⟨hi, hl, hk⟩, hv⟩ | ⟨pre, hSp, c, hi, hl, hk⟩)⟩
      · exact ⟨none, _, by have := run_endLoop (P := P) hl (by rw [hrec]; simp); rw [hrec] at this; exact this, hdone _ _ (Nat.le_refl _) (hI _ _ _ hi (.putObj hl (Nat.le_succ _) rfl)) (hInv _ _ hv (.putObj hl (Nat.le_succ _) rfl)) ((World.putObj_heap_other (by omega)).trans hk)⟩
      · exact ⟨some c, _, by have := run_endLoop (P := P) hl (by rw [hrec]; simp); rw [hrec] at this; exact this, hstop _ c pre _ (Nat.le_refl _) hSp (hIx _ _ _ _ hi (.putObj hl (Nat.le_succ _) rfl)) ((World.putObj_heap_other (by omega)).trans hk)⟩
theorem wpIn_rangeN {α : Type} {P : Program} {g : Operand} {ps : Array Tmp} {assign body : Code} {Q : Exit → Act → World → Prop} {a : Act} {w : World} {lo : Nat} {r₀ : Loop} (hl₀ : w.heap[lo]? = some (.loop r₀))
    {gf : Nat} {first lb : Array Value} (hg : a.eval g = .func (.func gf) first lb) (eg : ∀ args w, (callFunc gf args).run P w = .ok (.enter gf args) w)
    {Enc : α → Array Value → World → Prop} {Inv : World → Prop} {St : World → World → Prop} {xs : List α} (hit : Iter P gf first lb Enc Inv St xs)
    (hps : ∀ x args W, Enc x args W → args.size = ps.size) (hInv : ∀ A B, Inv A → Inert w.heap.size A B → Inv B) (hSt : ∀ A B, St A B → KeepBk A B)
    (I : List α → World → Prop) (Ix : Code → List α → World → Prop) (hI : ∀ pre A B, I pre A → Inert w.heap.size A B → I pre B) (hIs : ∀ pre A B, I pre A → St A B → I pre B)
    (hIx : ∀ c pre A B, Ix c pre A → Inert w.heap.size A B → Ix c pre B) (hIxs : ∀ c pre A B, Ix c pre A → St A B → Ix c pre B) (h0 : I [] w) (hi0 : Inv w)
    (Ax : α → Act → World → Prop) (hAx : ∀ x a' A B, Ax x a' A → Inert w.heap.size A B → Ax x a' B)
    (hassign : ∀ (l : Nat) (pre : List α) (x : α) (args : Array Value) (W : World) (K : Act → World → Prop), I pre W → Inv W → pre ++ [x] <+: xs → Enc x args W →
      (∀ a' W', KeepBk W W' → I pre W' → Inv W' → Ax x a' W' → K a' W') →
      assign.wpIn (FW.inRound l) 0 P (Exit.then K (fun _ _ _ => False)) { tmps := (ps.zip args).foldl (fun t (p, v) => t.setIfInBounds p v) a.tmps, defers := [] } W)
    (hbody : ∀ (l : Nat) (pre : List α) (x : α) (a' : Act) (W : World), w.heap.size ≤ l → (∃ r, W.heap[l]? = some (.loop r)) → I pre W → Inv W → pre ++ [x] <+: xs → Ax x a' W →
      body.wpIn (FW.inRound l) 0 P (rPost Inv I Ix (pre ++ [x]) W) a' W)
    (hdone : ∀ (W : World), I xs W → Inv W → Q .normal a W)
    (hstop : ∀ (c : Code) (pre : List α) (W : World), pre <+: xs → Ix c pre W → c.wpIn (FW.inRound lo) 0 P Q a W) :
    (Code.rangeFunc g ps assign body).wpIn (FW.inRound lo) 0 P Q a w := by
  refine wpIn_rangeFunc ?_
  intro fn hfn
  obtain ⟨rec, hrec⟩ : ∃ rec : LoopState → Option Code → Loop, rec = fun st pe => { state := st, pending := pe, fn, tmps := a.tmps, params := ps, assign, body, defers := r₀.defers } := ⟨_, rfl⟩
  obtain ⟨W1, hW1⟩ : ∃ W1, w.alloc (.loop (rec .ready none)) = W1 := ⟨_, rfl⟩
  have hL1 : W1.heap[w.heap.size]? = some (.loop (rec .ready none)) := by rw [← hW1]; exact World.alloc_heap_new w _
  have hI1 : I [] W1 := by rw [← hW1]; exact hI _ _ _ h0 (.alloc _ _ _)
  have hV1 : Inv W1 := by rw [← hW1]; exact hInv _ _ hi0 (.alloc _ _ _)
  refine ⟨w.heap.size, [], W1, { target := .fn (.func gf) lb, args := first ++ #[.func (.yield (w.heap.size)) #[] #[]] }, W1, gf,
    first ++ #[.func (.yield (w.heap.size)) #[] #[]] ++ lb, W1, ?_, ?_, ?_, ?_, fun h => by simp [Fence.wide, Fence.inRound] at h, ?_⟩
  · rw [← hW1, hrec]; exact run_enterLoop_inner hl₀ _ _ _ _ _
  · simp only [resolve, hg]
    simp [go_sem]
  · intro f' hf'; trivial
  · simp [invoke, go_sem, eg]
  · refine (hit (w.heap.size)
      (fun pre W => I pre W ∧ W.heap[w.heap.size]? = some (.loop (rec .ready none)))
      (fun pre W => ∃ c, Ix c pre W ∧ W.heap[w.heap.size]? = some (.loop (rec .done (some c))))
      W1 hV1
      (fun pre A B hs hst => ⟨hIs _ _ _ hs.1 hst, hSt _ _ hst _ _ hs.2 rfl⟩)
      (fun pre A B hs hst => by
        obtain ⟨c, hc, hl⟩ := hs
        exact ⟨c, hIxs _ _ _ _ hc hst, hSt _ _ hst _ _ hl rfl⟩)
      ?_ ⟨hI1, hL1⟩).mono ?_
    · rintro pre x args W ⟨hi, hl⟩ hv hpre henc
      have hy := run_yield (P := P) (args := args) hl (by rw [hrec]; exact hps x args W henc)
      rw [hrec] at hy
      refine ⟨fn, _, assign, body, hy, roundIn_of_wpIn hfn (hassign _ pre x args W _ hi hv hpre henc ?_)⟩
      clear hy
      intro a' Wa hkfa hia hva hax
      replace hl := hkfa _ _ hl rfl
      replace hi := hia
      replace hv := hva
      clear hia hva hkfa henc
      clear W
      obtain ⟨W, rfl⟩ : ∃ W, W = Wa := ⟨_, rfl⟩
      have hlt : w.heap.size < W.heap.size := lt_of_block hl
      refine ⟨_, run_beginRound hl (by rw [hrec]), ?_⟩
      have hl2 : (W.putObj (w.heap.size) (.loop { rec .ready none with state := .busy })).heap[w.heap.size]? = some (.loop { rec .ready none with state := .busy }) := World.putObj_heap_same hlt
      have hin : Inert w.heap.size W (W.putObj (w.heap.size) (.loop { rec .ready none with state := .busy })) := .putObj hl (by omega) rfl
      refine wpIn_mono (hbody _ pre x a' _ (by omega) ⟨_, hl2⟩ (hI _ _ _ hi hin) (hInv _ _ hv hin) hpre (hAx _ _ _ _ hax hin)) ?_
      have fin : ∀ (jump : Option Code) (W3 : World), KeepBk (W.putObj (w.heap.size) (.loop { rec .ready none with state := .busy })) W3 →
          (Instr.endRound (w.heap.size) jump).run P W3 = .ok (.bool jump.isNone) (W3.putObj (w.heap.size) (.loop (rec (if jump.isNone then .ready else .done) jump))) ∧
          W3.heap[w.heap.size]? = some (.loop { rec .ready none with state := .busy }) ∧
          (W3.putObj (w.heap.size) (.loop (rec (if jump.isNone then .ready else .done) jump))).heap[w.heap.size]? = some (.loop (rec (if jump.isNone then .ready else .done) jump)) := fun jump W3 hk3 => by
        have hl3 := hk3 _ _ hl2 rfl
        have := run_endRound (P := P) jump hl3
        rw [hrec] at this ⊢
        exact ⟨this, by rw [hrec] at hl3; exact hl3, World.putObj_heap_same (lt_of_block hl3)⟩
      rintro e a3 W3 hp
      cases e with
      | normal =>
        obtain ⟨hk3, hv3, hi3⟩ := hp
        obtain ⟨hr, hl3, hl4⟩ := fin none W3 hk3
        exact ⟨_, _, hr, .inl ⟨rfl, ⟨hI _ _ _ hi3 (.putObj hl3 (Nat.le_refl _) rfl), hl4⟩, hInv _ _ hv3 (.putObj hl3 (Nat.le_refl _) rfl)⟩⟩
      | ret =>
        obtain ⟨hk3, hi3⟩ := hp
        obtain ⟨hr, hl3, hl4⟩ := fin (some .ret) W3 hk3
        exact ⟨_, _, hr, .inr ⟨rfl, .ret, hIx _ _ _ _ hi3 (.putObj hl3 (Nat.le_refl _) rfl), hl4⟩⟩
      | exit id =>
        obtain ⟨hk3, hi3⟩ := hp
        obtain ⟨hr, hl3, hl4⟩ := fin (some (.exit id)) W3 hk3
        exact ⟨_, _, hr, .inr ⟨rfl, .exit id, hIx _ _ _ _ hi3 (.putObj hl3 (Nat.le_refl _) rfl), hl4⟩⟩
      | goto t =>
        obtain ⟨hk3, hi3⟩ := hp
        obtain ⟨hr, hl3, hl4⟩ := fin (some (.goto t)) W3 hk3
        exact ⟨_, _, hr, .inr ⟨rfl, .goto t, hIx _ _ _ _ hi3 (.putObj hl3 (Nat.le_refl _) rfl), hl4⟩⟩
      | panic ch => exact hp.elim
      | outgrown => exact hp.elim
    · rintro e W2 ⟨⟨v, rfl⟩, (⟨⟨hi, hl⟩, hv⟩ | ⟨pre, hSp, c, hi, hl⟩)⟩
      · exact ⟨none, _, by have := run_endLoop (P := P) hl (by rw [hrec]; simp); rw [hrec] at this; exact this, hdone _ (hI _ _ _ hi (.putObj hl (Nat.le_refl _) rfl)) (hInv _ _ hv (.putObj hl (Nat.le_refl _) rfl))⟩
      · exact ⟨some c, _, by have := run_endLoop (P := P) hl (by rw [hrec]; simp); rw [hrec] at this; exact this, hstop c pre _ hSp (hIx _ _ _ _ hi (.putObj hl (Nat.le_refl _) rfl))⟩
end Go.Proofs.YtbijamlgcebgeaaDoor.Hand

-- part IA
namespace Go.Proofs.YtbijamlgcebgeaaDoor.Hand
open Go.RowKit Go.Shelf Go.Sort Go.Proofs.YtbijamlgcebgeaaDoorW.PrintWords Go.Proofs.YtbijamlgcebgeaaDoorW.PrintMore Go.Proofs.YtbijamlgcebgeaaDoor.Q
attribute [local go_sem] Oper.semAt_some
theorem wpIn_region_kw_round {M : Nat} {F : Furn} {id lo : Nat} {Q : Exit → Act → World → Prop} {a : Act} {w : World} {l : List Oper} (h0 : Memo w M F) (hm : Tryd.prog.follows .mixedOrders = true) (hQ : ¬ LetsOut Q) (hd : noDefer l = true) (hB : Region.lexB .any l.toArray = true)
    (h : wpQuiet Tryd.prog l.toArray (fun w' => ∃ p : KW M F w, w' = p.W) (fun a' => ∀ w', (∃ p : KW M F w, w' = p.W) → Q .normal a' w') l a) : (Code.region id l.toArray true).wpIn (FW.inRound lo) 0 Tryd.prog Q a w := by
  simp only [Region.lexB, Bool.and_eq_true] at hB
  refine wpIn_region_round hm hQ (by simpa using hd) (wpAny_of_quiet (C := fun w' => ∃ p : KW M F w, w' = p.W) (Q := fun a' => ∀ w', (∃ p : KW M F w, w' = p.W) → Q .normal a' w') (fun _ w' hw' h => h w' hw') _ _ _ _ (KW.start h0) ?_)
  have := wpAnyQ_lex (C := fun w' => ∃ p : KW M F w, w' = p.W) (md := .any) hB.1 l 0 (Array.replicate l.toArray.size false) a (by simp) (by simpa using hB.2) h
  simpa using this
theorem Kq.inert {M : Nat} {F : Furn} {w W W' : World} {B : Nat} (h : Kq M F w W) (hi : Inert B W W') (hB : w.heap.size ≤ B) : Kq M F w W' := by
  obtain ⟨es, c, h1, h2⟩ := h.m
  refine ⟨⟨hi.os.trans h.k.os, hi.tape.trans h.k.tape, hi.output.trans h.k.output, Nat.le_trans h.k.size hi.size, fun k hk hkM => ?_⟩, es, c, hi.keep M _ h1 (.inr rfl), h2⟩
  have hlt : k < W.heap.size := Nat.lt_of_lt_of_le hk h.k.size
  rw [hi.keep k _ (Array.getElem?_eq_getElem hlt) (.inl (by omega)), ← Array.getElem?_eq_getElem hlt]
  exact h.k.block k hk hkM
theorem Kp.boxm {M : Nat} {F : Furn} {X Y : World} (hm : Memo X M F) (k : Kp M X Y) {b : Nat} {vs : Array Value} {t : TypeId} (h : Box X b vs t) : Box Y b vs t := k.box h (fun e => by
  obtain ⟨es, c, hM⟩ := hm.isMap
  unfold Box at h
  rw [e, hM] at h
  cases h)
theorem Kq.drew {M : Nat} {F : Furn} {w W : World} (h : Kq M F w W) : Kq M F w W.drew := ⟨⟨h.k.os, h.k.tape, h.k.output, h.k.size, h.k.block⟩, h.m⟩
theorem Kq.setCell {M : Nat} {F : Furn} {w W : World} (h : Kq M F w W) {b : Nat} (hb : w.heap.size ≤ b) {vs : Array Value} {t : TypeId} (hbx : Box W b vs t) (i : Nat) (v : Value) : Kq M F w (W.setCell ⟨b, i, none⟩ v) := by
  obtain ⟨es, c, h1, h2⟩ := h.m
  have hne : M ≠ b := fun e => by
    unfold Box at hbx
    rw [← e, h1] at hbx
    cases hbx
  refine ⟨⟨h.k.os, h.k.tape, h.k.output, by have := h.k.size; simpa [World.setCell] using this, fun k hk hkM => ?_⟩, es, c, (Below.heap_setCell W ⟨b, i, none⟩ v M hne).trans h1, h2⟩
  exact (Below.heap_setCell W ⟨b, i, none⟩ v k (by show k ≠ b; omega)).trans (h.k.block k hk hkM)
theorem KeepBk.inert {B : Nat} {W X Y : World} (h : KeepBk W X) (hi : Inert B X Y) (hB : W.heap.size ≤ B) : KeepBk W Y := fun k o hk ho => hi.keep k o (h k o hk ho) (.inl (by have := lt_of_block hk; omega))
theorem KeepBk.kp {M : Nat} {F : Furn} {X Y : World} (hm : Memo X M F) (k : Kp M X Y) : KeepBk X Y := fun i o hi ho => (k.block i (lt_of_block hi) (fun e => by
  obtain ⟨es, c, hM⟩ := hm.isMap
  rw [e, hM] at hi
  cases hi
  cases ho)).trans hi
theorem goes_callsV (F : Furn) (hF : F.Ok) (s : Nat) (hs : s < 64) (hl' : ∀ i ∈ bitsOf s, i < F.l.length) (B M : Nat) (v : Int) (hv : v = s) (w : World) (hT : TabW w) (hf : Fu w B M F) (hm : Memo w M F) :
    Calls Tryd.prog 58 #[.pointer (some ⟨B, 0, none⟩), .int .u64 v] w fun e w' => e = .returned (.bool (goesB F s)) ∧ Memo w' M F ∧ Kp M w w' := by
  subst hv
  exact goes_calls F hF s hs hl' B M w hT hf hm
def hiB (s a : Nat) : Nat := s >>> (a + 1) <<< (a + 1)
def apart1 (F : Furn) (a : Nat) (bs : List Nat) : Bool := bs.all fun b => !goesB F (2 ^ a ||| 2 ^ b)
def apartB (F : Furn) (s : Nat) : Bool := (bitsOf s).all fun a => apart1 F a (bitsOf (hiB s a))
theorem hi_bits : ∀ s : Nat, s < 64 → ∀ a : Nat, a < 6 → hiB s a < 64 ∧ bits .andNot .u64 (s : Int) (IntKind.u64.wrap (((2 ^ (a + 1) : Nat) : Int) - 1)) = ((hiB s a : Nat) : Int) ∧ (bitsOf (hiB s a)).all (fun b => (bitsOf s).contains b) = true := by decide +kernel
theorem shl_run (x : Nat) (hx : x < 6) (W : World) : (Op.shift .shl .u64 1 .i64 (IntKind.i64.wrap ((x : Int) + 1))).run Tryd.prog W = .ok (.int .u64 ((2 ^ (x + 1) : Nat) : Int)) W := by
  match x, hx with
  | 0, _ => rfl
  | 1, _ => rfl
  | 2, _ => rfl
  | 3, _ => rfl
  | 4, _ => rfl
  | 5, _ => rfl
theorem pow_bd : ∀ x : Nat, x < 6 → 2 ≤ ((2 ^ (x + 1) : Nat) : Int) ∧ ((2 ^ (x + 1) : Nat) : Int) ≤ 64 := by decide
theorem two_bits : ∀ a : Nat, a < 6 → ∀ b : Nat, b < 6 → 2 ^ a ||| 2 ^ b < 64 ∧ bits .or .u64 (IntKind.u64.wrap (2 ^ a)) (IntKind.u64.wrap (2 ^ b)) = ((2 ^ a ||| 2 ^ b : Nat) : Int) ∧ (bitsOf (2 ^ a ||| 2 ^ b)).all (fun c => c == a || c == b) = true := by decide +kernel
set_option maxRecDepth 100000 in
set_option maxHeartbeats 2000000 in
theorem apart_calls (F : Furn) (hF : F.Ok) (s : Nat) (hs : s < 64) (hl' : ∀ i ∈ bitsOf s, i < F.l.length) (B M : Nat) (w : World) (hT : TabW w) (hf : Fu w B M F) (hm : Memo w M F) :
    Calls Tryd.prog 83 #[.pointer (some ⟨B, 0, none⟩), .int .u64 s] w fun e w' => e = .returned (.bool (apartB F s)) ∧ Memo w' M F ∧ Kp M w w' := by
  refine (callsIn_wide (n := 0)).1 ?_
  refine callsIn_of_wp_marks Tryd.func83 rfl trivial ?_
  simp only [Tryd.ntmps83, List.size_toArray, List.length_cons, List.length_nil, Nat.reduceAdd, Nat.reduceSub, Array.replicate_succ, Array.replicate_zero, List.push_toArray, List.append_toArray, List.nil_append, List.cons_append]
  gi_wp2
  refine wpIn_range (gf := 90) (first := #[.int .u64 s]) (lb := #[]) rfl (enters_of Tryd.func90 (by kernel_rfl) rfl) (all_iter s hs) (by rintro x args W rfl; rfl) (fun A B h hi => hi.tab h) (fun A B e => by rw [e]; exact KeepBk.refl _)
    (fun pre W => Box W w.heap.size #[.pointer (some ⟨B, 0, none⟩)] 91 ∧ Box W (w.heap.size + 1) #[.int .u64 s] 93 ∧ Box W (w.heap.size + 2) #[.bool false] 4 ∧ Kq M F w W ∧ Hid (pre.all (fun a => apart1 F a (bitsOf (hiB s a))) = true))
    (fun c _ W => c = .ret ∧ Box W (w.heap.size + 2) #[.bool false] 4 ∧ Kq M F w W ∧ Hid (apartB F s = false))
    (fun pre X Y ⟨h1, h2, h3, h4, h5⟩ hi => ⟨hi.box h1, hi.box h2, hi.box h3, h4.inert hi (by simp; omega), h5⟩)
    (fun pre X Y h e => by rw [← e]; exact h) (fun c pre X Y ⟨h1, h3, h4, h5⟩ hi => ⟨h1, hi.box h3, h4.inert hi (by simp; omega), h5⟩) (fun _ _ X Y h e => by rw [← e]; exact h)
    ⟨((Box.new _ _ _).alloc _).alloc _, (Box.new' _ _ _ (by simp)).alloc _, Box.new' _ _ _ (by simp), (((Kq.start hm).alloc _).alloc _).alloc _, Lib.hid rfl⟩ (((hT.alloc _).alloc _).alloc _)
    (fun x a' W => ∃ bx, w.heap.size + 2 < bx ∧ Box W bx #[.int .i64 x] 3 ∧ a' = { tmps := #[.pointer (some ⟨B, 0, none⟩), .int .u64 s, .pointer (some ⟨w.heap.size, 0, none⟩), .pointer (some ⟨w.heap.size + 1, 0, none⟩), .pointer (some ⟨w.heap.size + 2, 0, none⟩), .pointer (some ⟨bx, 0, none⟩), undef, .int .u64 s, .func (.func 90) #[.int .u64 s] #[], .int .i64 x, undef, undef, undef, undef, undef, undef, undef, undef, undef, undef, undef, undef, undef, undef, undef], defers := [] })
    (fun x a' X Y ⟨bx, h1, h2, h3⟩ hi => ⟨bx, h1, hi.box h2, h3⟩) ?assign ?body ?done ?stop
  case assign =>
    rintro l pre x args W K ⟨h1, h2, h3, h4, h5⟩ hv hp rfl hK
    gi_wp2
    exact hK _ _ (KeepBk.alloc _ _) ⟨h1.alloc _, h2.alloc _, h3.alloc _, h4.alloc _, h5⟩ (hv.alloc _) ⟨_, h3.lt, Box.new _ _ _, rfl⟩
  case body =>
    rintro l pre x a' W hl ⟨r₀, hr⟩ ⟨o1, o2, o3, o4, o5⟩ hv hp ⟨bx, hbx, hbox, rfl⟩
    have hxs : x ∈ bitsOf s := by obtain ⟨z, hz⟩ := hp; rw [← hz]; simp
    have hx6 : x < 6 := (mem_bitsOf.1 hxs).1
    obtain ⟨hh1, hh2, hh3⟩ := hi_bits s hs x hx6
    have c0 : W.cell? ⟨w.heap.size + 1, 0, none⟩ = some (.int .u64 s) := o2.cell 0 rfl
    have c1 : W.cell? ⟨bx, 0, none⟩ = some (.int .i64 x) := hbox.cell 0 rfl
    obtain ⟨p1, p2⟩ := pow_bd x hx6
    have hsh := shl_run x hx6
    obtain ⟨p, hpp⟩ : ∃ p : Int, ((2 ^ (x + 1) : Nat) : Int) = p := ⟨_, rfl⟩
    rw [hpp] at hsh p1 p2
    gi_wp2
    refine wpIn_region_still_tail 6 (by kernel_rfl) (fun ⟨_, _, h⟩ => h) rfl (by kernel_rfl) ?_
    simp only [List.take_succ_cons, List.take_zero, List.drop_succ_cons, List.drop_zero]
    repeat still_step
    rw [hpp] at hh2
    rw [hh2]
    refine wpStill_nil ?_
    go_wp2
    have hbits : ∀ b ∈ bitsOf (hiB s x), b ∈ bitsOf s := fun b hb => by simpa using List.all_eq_true.1 hh3 b hb
    have hxl : x < F.l.length := hl' x hxs
    clear c0 c1 hh2 hh3 hsh hpp
    gi_wp2
    refine wpIn_rangeN (r₀ := r₀) (w := W.drew) hr (gf := 90) (first := #[.int .u64 (hiB s x)]) (lb := #[]) rfl (enters_of Tryd.func90 (by kernel_rfl) rfl) (all_iter (hiB s x) hh1) (by rintro x args W rfl; rfl) (fun A B h hi => hi.tab h) (fun A B e => by rw [e]; exact KeepBk.refl _)
      (fun pre' X => Box X w.heap.size #[.pointer (some ⟨B, 0, none⟩)] 91 ∧ Box X (w.heap.size + 1) #[.int .u64 s] 93 ∧ Box X (w.heap.size + 2) #[.bool false] 4 ∧ Box X bx #[.int .i64 x] 3 ∧ Kq M F w X ∧ KeepBk W X ∧ Hid (apart1 F x pre' = true))
      (fun c _ X => c = .ret ∧ Box X (w.heap.size + 2) #[.bool false] 4 ∧ Kq M F w X ∧ KeepBk W X ∧ Hid (apartB F s = false))
      (fun pre' X Y ⟨h1, h2, h3, hb, h4, h6, h5⟩ hi => ⟨hi.box h1, hi.box h2, hi.box h3, hi.box hb, h4.inert hi o4.k.size, h6.inert hi (Nat.le_refl _), h5⟩)
      (fun pre' X Y h e => by rw [← e]; exact h) (fun c pre' X Y ⟨h1, h3, h4, h6, h5⟩ hi => ⟨h1, hi.box h3, h4.inert hi o4.k.size, h6.inert hi (Nat.le_refl _), h5⟩) (fun _ _ X Y h e => by rw [← e]; exact h)
      ⟨o1, o2, o3, hbox, o4.drew, KeepBk.drew W, Lib.hid rfl⟩ hv
      (fun y a' X => ∃ v10 v11 v12 v13 v14 v15 v16 v17, a' = { tmps := #[.pointer (some ⟨B, 0, none⟩), .int .u64 s, .pointer (some ⟨w.heap.size, 0, none⟩), .pointer (some ⟨w.heap.size + 1, 0, none⟩), .pointer (some ⟨w.heap.size + 2, 0, none⟩), .pointer (some ⟨bx, 0, none⟩), .int .i64 y, .int .u64 s, .func (.func 90) #[.int .u64 s] #[], .int .i64 x, v10, v11, v12, v13, v14, v15, v16, v17, undef, undef, undef, undef, undef, undef, undef], defers := [] })
      (fun y a' X Y h hi => h) ?assign2 ?body2 ?done2 ?stop2
    case assign2 =>
      rintro l2 pre2 y args X K ⟨h1, h2, h3, hb, h4, h6, h5⟩ hv hp rfl hK
      gi_wp2
      exact hK _ _ (KeepBk.refl _) ⟨h1, h2, h3, hb, h4, h6, h5⟩ hv ⟨_, _, _, _, _, _, _, _, rfl⟩
    case body2 =>
      rintro l2 pre2 y a' X hl2 hr2 ⟨h1, h2, h3, hb, h4, h6, h5⟩ hv2 hp2 ⟨v10, v11, v12, v13, v14, v15, v16, v17, rfl⟩
      have hys : y ∈ bitsOf (hiB s x) := by obtain ⟨z, hz⟩ := hp2; rw [← hz]; simp
      have hy6 : y < 6 := (mem_bitsOf.1 hys).1
      have hyl : y < F.l.length := hl' y (hbits y hys)
      obtain ⟨t1, t2, t3⟩ := two_bits x hx6 y hy6
      have htl : ∀ i ∈ bitsOf (2 ^ x ||| 2 ^ y), i < F.l.length := fun i hi => by
        have := List.all_eq_true.1 t3 i hi
        simp only [Bool.or_eq_true, beq_iff_eq] at this
        rcases this with rfl | rfl
        · exact hxl
        · exact hyl
      have hf2 : Fu X B M F := h4.k.fu hm hf
      have c0 : ∀ q : KW M F X, q.W.cell? ⟨w.heap.size, 0, none⟩ = some (.pointer (some ⟨B, 0, none⟩)) := fun q => q.k.cell (h1.cell 0 rfl) h4.m.isMap
      have c1 : ∀ q : KW M F X, q.W.cell? ⟨bx, 0, none⟩ = some (.int .i64 x) := fun q => q.k.cell (hb.cell 0 rfl) h4.m.isMap
      have hne : Nonempty (KW M F X) := ⟨⟨X, Kp.refl _ _, h4.m⟩⟩
      have hgo : Hid (∀ W', Kp M X W' → Memo W' M F → Calls Tryd.prog 58 #[.pointer (some ⟨B, 0, none⟩), .int .u64 (bits .or .u64 (IntKind.u64.wrap (2 ^ x)) (IntKind.u64.wrap (2 ^ y)))] W' fun e w' => e = .returned (.bool (goesB F (2 ^ x ||| 2 ^ y))) ∧ Memo w' M F ∧ Kp M W' w') :=
        Lib.hid (fun W' k m => goes_callsV F hF _ t1 htl B M _ t2 _ (k.tab h4.m hv2) (k.fu h4.m hf2) m)
      obtain ⟨g, hg⟩ : ∃ g, goesB F (2 ^ x ||| 2 ^ y) = g := ⟨_, rfl⟩
      rw [hg] at hgo
      have Hg := Lib.hid hg
      clear hg t1 t2 t3 htl
      gi_wp2
      refine wpIn_region_kw_round h4.m (by kernel_rfl) (fun ⟨_, _, h⟩ => h) rfl (by kernel_rfl) ?_
      repeat (quiet_step ((go_at_call 58; exact KW.calls_kp (hgo.out _ (KW.k ‹_›) (KW.m ‹_›)))))
      refine wpQuiet_nil ?_
      rintro X2 ⟨p, rfl⟩
      have hq := h4.kp p.k p.m
      have k1 := p.k.boxm h4.m h1
      have k2 := p.k.boxm h4.m h2
      have k3 := p.k.boxm h4.m h3
      have k4 := p.k.boxm h4.m hb
      have kt := p.k.tab h4.m hv2
      have kk := KeepBk.kp h4.m p.k
      have f3 : p.W.frozen? ⟨w.heap.size + 2, 0, none⟩ = false := k3.frozen 0
      have c3 : p.W.cell? ⟨w.heap.size + 2, 0, none⟩ = some (.bool false) := k3.cell 0 rfl
      cases g with
      | false =>
        clear c0 c1 hgo hne
        gi_wp2
        refine ⟨kk, kt, k1, k2, k3, k4, hq, h6.trans kk, Lib.hid ?_⟩
        unfold apart1
        rw [List.all_append, Bool.and_eq_true]
        exact ⟨h5.out, by simp [Hg.out]⟩
      | true =>
        clear c0 c1 hgo hne
        have hfin : Hid (apartB F s = false) := Lib.hid (by
          unfold apartB
          rw [List.all_eq_false]
          refine ⟨x, hxs, ?_⟩
          unfold apart1
          rw [Bool.not_eq_true, List.all_eq_false]
          exact ⟨y, hys, by simp [Hg.out]⟩)
        have hset := k3.set 0 (.bool false)
        have hqs := hq.setCell (b := w.heap.size + 2) (by omega) k3 0 (.bool false)
        gi_wp2
        exact ⟨kk.trans (KeepBk.setCell _ _ _), rfl, hset, hqs, h6.trans (kk.trans (KeepBk.setCell _ _ _)), hfin⟩
    case done2 =>
      rintro X ⟨h1, h2, h3, hb, h4, h6, h5⟩ hv2
      gi_wp2
      exact ⟨h6, hv2, h1, h2, h3, h4, Lib.hid (by rw [List.all_append, Bool.and_eq_true]; exact ⟨o5.out, by simp [h5.out]⟩)⟩
    case stop2 =>
      rintro c pre2 X hp2 ⟨rfl, h3, h4, h6, h5⟩
      gi_wp2
      exact ⟨h6, rfl, h3, h4, h5⟩
  case done =>
    rintro D W hD ⟨h1, h2, h3, h4, h5⟩ hv hK
    have c2 : W.cell? ⟨w.heap.size + 1 + 1, 0, none⟩ = some (.bool false) := h3.cell 0 rfl
    have f2 : W.frozen? ⟨w.heap.size + 1 + 1, 0, none⟩ = false := h3.frozen 0
    gi_wp2
    have hK2 := KeepBk.setCell _ ⟨w.heap.size + 1 + 1, 0, none⟩ (.bool true) _ _ hK rfl
    have hb2 := ((h3.set 0 (.bool true)).put hK2 (.deferred none))
    have hq2 := (h4.setCell (b := w.heap.size + 2) (by omega) h3 0 (.bool true)).inert (Inert.putObj (B := w.heap.size) (o' := .deferred none) hK2 (by simp at hD; omega) rfl) (Nat.le_refl _)
    refine leaveM (.bool true) hK2 ?_ ⟨ret_bool h5.out.symm, hq2.m, hq2.k⟩
    generalize (W.setCell { block := w.heap.size + 1 + 1, off := 0 } (Value.bool true)).putObj D (Obj.deferred none) = W2 at hb2
    have d0 : W2.cell? ⟨w.heap.size + 1 + 1, 0, none⟩ = some (.bool true) := hb2.cell 0 rfl
    clear hb2 hK2 hq2
    simp [results, Tryd.results83, go_sem, d0]
  case stop =>
    rintro D c pre W hD _ ⟨rfl, h3, h4, h5⟩ hK
    have c2 : W.cell? ⟨w.heap.size + 1 + 1, 0, none⟩ = some (.bool false) := h3.cell 0 rfl
    gi_wp2
    have hb2 := (h3.put hK (.deferred none))
    have hq2 := h4.inert (Inert.putObj (B := w.heap.size) (o' := .deferred none) hK (by simp at hD; omega) rfl) (Nat.le_refl _)
    refine leaveM (.bool false) hK ?_ ⟨ret_bool h5.out.symm, hq2.m, hq2.k⟩
    generalize W.putObj D (Obj.deferred none) = W2 at hb2
    have d0 : W2.cell? ⟨w.heap.size + 1 + 1, 0, none⟩ = some (.bool false) := hb2.cell 0 rfl
    clear hb2 hK hq2
    simp [results, Tryd.results83, go_sem, d0]
end Go.Proofs.YtbijamlgcebgeaaDoor.Hand

-- part IB
namespace Go.Proofs.YtbijamlgcebgeaaDoor.Hand
open Go.RowKit Go.Shelf Go.Sort Go.Proofs.YtbijamlgcebgeaaDoorW.PrintWords Go.Proofs.YtbijamlgcebgeaaDoorW.PrintMore Go.Proofs.YtbijamlgcebgeaaDoor.Q
theorem newR_nil (a b c d e : Int) (l : List S74) : newR a b c d e l [] = if checkF a b c d e l = 0 then .ok 0 else .error (checkF a b c d e l) := by
  unfold newR
  rfl
theorem new0_calls (a b c d e : Int) (l : List S74) (A1 : Option Addr) (c1 : Nat) (w : World) (hr1 : Kd.C k74 w A1 l.length l) :
    Calls Tryd.prog 57 #[.agg #[.int .i64 a, .int .i64 b, .int .i64 c, .int .i64 d, .int .i64 e], .slice A1 l.length c1, .slice none 0 0] w (NewP w (mkF a b c d e l) (newR a b c d e l [])) :=
  new_calls a b c d e l [] A1 none c1 0 w hr1 ⟨rfl, by decide, fun h => by cases h⟩
def apartStep (F : Furn) (best s : Nat) : Nat := if (decide (lenB s < lenB best) || (decide (lenB s = lenB best) && !befB s best)) = true then best else if apartB F s = true then s else best
def apartBest (F : Furn) (k : Nat) : Nat := (List.range k).foldl (apartStep F) 0
theorem apartBest_succ (F : Furn) (k : Nat) : apartBest F (k + 1) = apartStep F (apartBest F k) k := by simp [apartBest, List.range_succ]
/-- What Apart returns. -/
def apartR (a b c d e : Int) (l : List S74) : List Int × Int :=
  match newR a b c d e l [] with
  | .error x => ([], x)
  | .ok _ => (ilist (apartBest (mkF a b c d e l) (2 ^ l.length)), 0)
theorem bitsOf_below {s n : Nat} (h : s < 2 ^ n) : ∀ i ∈ bitsOf s, i < n := fun i hi => by
  rw [mem_bitsOf] at hi
  have := Nat.ge_two_pow_of_testBit hi.2
  have h2 : 2 ^ i < 2 ^ n := by omega
  exact (Nat.pow_lt_pow_iff_right (by decide)).1 h2
theorem wrap_pow : ∀ n : Nat, n ≤ 6 → IntKind.u64.wrap (2 ^ n) = ((2 ^ n : Nat) : Int) ∧ 2 ^ n ≤ 64 := by
  intro n hn
  match n, hn with
  | 0, _ => exact ⟨rfl, by decide⟩
  | 1, _ => exact ⟨rfl, by decide⟩
  | 2, _ => exact ⟨rfl, by decide⟩
  | 3, _ => exact ⟨rfl, by decide⟩
  | 4, _ => exact ⟨rfl, by decide⟩
  | 5, _ => exact ⟨rfl, by decide⟩
  | 6, _ => exact ⟨rfl, by decide⟩
set_option maxRecDepth 100000 in
set_option maxHeartbeats 1000000 in
theorem apart_exp (a b c d e : Int) (l : List S74) (A1 : Option Addr) (c1 : Nat) (w : World) (hT : TabW w) (hr1 : Kd.C k74 w A1 l.length l) :
    Calls Tryd.prog 36 #[.agg #[.int .i64 a, .int .i64 b, .int .i64 c, .int .i64 d, .int .i64 e], .slice A1 l.length c1] w fun e_ w' => ∃ v0_ : Value, e_ = .returned (.tuple #[v0_, .int .i64 (apartR a b c d e l).2]) ∧ Kd.R (Kd.int .i64) 3 w' w.heap.size (fun _ => True) v0_ (apartR a b c d e l).1 ∧ Below w.heap.size w w' := by
  obtain ⟨r, hr⟩ : ∃ r, newR a b c d e l [] = r := ⟨_, rfl⟩
  have hnew := new0_calls a b c d e l A1 c1 (w.alloc (.cells #[.int .i64 a, .int .i64 b, .int .i64 c, .int .i64 d, .int .i64 e] 23)) (Kd.C_alloc hr1 _)
  rw [hr] at hnew
  have Hnew := Lib.hid hnew
  clear hnew
  cases r with
  | error x =>
    have hx := newR_err hr
    have h1 : (x != 0) = true := by simp [hx]
    have hg : Hid (apartR a b c d e l = ([], x)) := Lib.hid (by unfold apartR; rw [hr])
    rw [hg.out]
    clear hg hr hx
    go_enter Tryd.func36, Tryd.ntmps36
    go_wp2_with fail
    refine Hnew.out.mono ?_
    rintro e_ w1 ⟨rfl, hb1⟩
    go_wp2
    go_ret2
    exact ⟨_, rfl, Kd.R_nil _ _ _ _ _, ((Below.refl _ _).alloc (Nat.le_refl _) _).trans (hb1.mono (by simp))⟩
  | ok s =>
    have hF := check_ok (newR_ok hr).1
    have hg : Hid (apartR a b c d e l = (ilist (apartBest (mkF a b c d e l) (2 ^ l.length)), 0)) := Lib.hid (by unfold apartR; rw [hr])
    have hn6 : (mkF a b c d e l).l.length ≤ 6 := hF.len
    have hFl : Hid ((mkF a b c d e l).l.length = l.length) := Lib.hid rfl
    have hn6' : l.length ≤ 6 := hF.len
    clear hr hr1 hn6
    generalize mkF a b c d e l = F at *
    generalize l.length = n at *
    obtain ⟨q, hq⟩ : ∃ q, apartR a b c d e l = q := ⟨_, rfl⟩
    rw [hq] at hg ⊢
    clear hq
    obtain ⟨q1, q2⟩ := q
    obtain ⟨hq4, rfl⟩ : q1 = ilist (apartBest F (2 ^ n)) ∧ q2 = 0 := by simpa using hg.out
    have Hq := Lib.hid hq4
    clear hq4 hg
    obtain ⟨hw1, hw2⟩ := wrap_pow n hn6'
    go_enter Tryd.func36, Tryd.ntmps36
    go_wp2_with fail
    refine Hnew.out.mono ?_
    rintro e_ w1 ⟨v, rfl, hs, B, M, rfl, hB, hM, hfu, hme, hb1⟩
    have hB1 : Below w.heap.size w w1 := ((Below.refl _ _).alloc (Nat.le_refl _) _).trans (hb1.mono (by simp))
    have hT1 : TabW w1 := (hT.alloc _).below hb1
    have hMw0 : w.heap.size ≤ M := by simp at hM; omega
    clear Hnew hb1 hB hM
    go_wp2
    rw [show ((2 : Int) ^ n) = ((2 ^ n : Nat) : Int) by simp]
    obtain ⟨N, hN⟩ : ∃ N, 2 ^ n = N := ⟨_, rfl⟩
    rw [hN] at hw2 Hq ⊢
    have HN := Lib.hid hN
    clear hN hw1
    go_loopw [9, 24] (fun v i W => ∃ k best : Nat, k ≤ N ∧ i = .int .u64 k ∧ v = .int .u64 best ∧ best < 64 ∧ Hid (apartBest F k = best) ∧ Kq M F w1 W) (fun _ i _ => N - (intOf i).toNat)
    case atStart => exact ⟨0, 0, Nat.zero_le _, rfl, rfl, by decide, Lib.hid rfl, Kq.start hme⟩
    case round =>
      obtain ⟨k, best, hk, rfl, rfl, hbl, hbest, hq⟩ := hrel
      by_cases hlt : k < N
      · have hk6 : k < 64 := by omega
        have hsucc := Lib.hid (apartBest_succ F k)
        have hTr := hq.k.tab hme hT1
        have hfr := hq.k.fu hme hfu
        have hbits : ∀ i ∈ bitsOf k, i < F.l.length := fun i hi => by
          have := bitsOf_below (n := n) (by rw [HN.out]; exact hlt) i hi
          rw [hFl.out]
          exact this
        have hcond : Hid ((decide (lenB k < lenB best) || (decide (lenB k = lenB best) && !befB k best)) = (decide (lenB k < lenB best) || (decide (lenB k = lenB best) && !befB k best))) := Lib.hid rfl
        obtain ⟨p, hp⟩ : ∃ p, lenB k = p := ⟨_, rfl⟩
        obtain ⟨r, hr⟩ : ∃ r, lenB best = r := ⟨_, rfl⟩
        have Hp := Lib.hid hp
        have Hr := Lib.hid hr
        have lk := len_calls k hk6
        have lb := len_calls best hbl
        rw [hp] at lk
        rw [hr] at lb
        have Lk := Lib.hid lk
        have Lb := Lib.hid lb
        clear lk lb hp hr hcond
        rcases Nat.lt_trichotomy p r with hlt2 | heq | hgt
        · have hc : Hid ((decide (lenB k < lenB best) || (decide (lenB k = lenB best) && !befB k best)) = true) := Lib.hid (by rw [Hp.out, Hr.out]; simp [hlt2])
          go_wp2_with fail
          refine (Lk.out _).mono ?_
          rintro e_ w3 ⟨rfl, rfl⟩
          go_wp2_with fail
          refine (Lb.out _).mono ?_
          rintro e_ w3 ⟨rfl, rfl⟩
          go_wp2
          go_roundw
          case rel => exact ⟨k + 1, best, by omega, by go_num, rfl, hbl, Lib.hid (by rw [hsucc.out, hbest.out]; unfold apartStep; rw [hc.out]; rfl), hq⟩
          case measure => simp [intOf]; omega
        · subst heq
          go_wp2_with fail
          refine (Lk.out _).mono ?_
          rintro e_ w3 ⟨rfl, rfl⟩
          go_wp2_with fail
          refine (Lb.out _).mono ?_
          rintro e_ w3 ⟨rfl, rfl⟩
          go_wp2_with fail
          refine (Lk.out _).mono ?_
          rintro e_ w3 ⟨rfl, rfl⟩
          go_wp2_with fail
          refine (Lb.out _).mono ?_
          rintro e_ w3 ⟨rfl, rfl⟩
          go_wp2_with fail
          refine (isBefore_calls k best hk6 hbl _).mono ?_
          rintro e_ w3 ⟨rfl, rfl⟩
          obtain ⟨b2, hb2⟩ : ∃ b2, befB k best = b2 := ⟨_, rfl⟩
          have hc : Hid ((decide (lenB k < lenB best) || (decide (lenB k = lenB best) && !befB k best)) = !b2) := Lib.hid (by rw [Hp.out, Hr.out, hb2]; simp)
          rw [hb2]
          clear hb2
          cases b2 with
          | false =>
            go_wp2
            go_roundw
            case rel => exact ⟨k + 1, best, by omega, by go_num, rfl, hbl, Lib.hid (by rw [hsucc.out, hbest.out]; unfold apartStep; rw [hc.out]; rfl), hq⟩
            case measure => simp [intOf]; omega
          | true =>
            go_wp2_with fail
            refine (apart_calls F hF k hk6 hbits B M _ hTr hfr hq.m).mono ?_
            rintro e_ w3 ⟨rfl, hm3, hk3⟩
            have hq3 := hq.kp hk3 hm3
            clear hTr hfr hm3 hk3 hq hbits
            obtain ⟨b3, hb3⟩ : ∃ b3, apartB F k = b3 := ⟨_, rfl⟩
            rw [hb3]
            have Hb3 := Lib.hid hb3
            clear hb3
            cases b3 with
            | true =>
              go_wp2
              go_roundw
              case rel => exact ⟨k + 1, k, by omega, by go_num, rfl, hk6, Lib.hid (by rw [hsucc.out, hbest.out]; unfold apartStep; rw [hc.out, Hb3.out]; rfl), hq3⟩
              case measure => simp [intOf]; omega
            | false =>
              go_wp2
              go_roundw
              case rel => exact ⟨k + 1, best, by omega, by go_num, rfl, hbl, Lib.hid (by rw [hsucc.out, hbest.out]; unfold apartStep; rw [hc.out, Hb3.out]; rfl), hq3⟩
              case measure => simp [intOf]; omega
        · have hc : Hid ((decide (lenB k < lenB best) || (decide (lenB k = lenB best) && !befB k best)) = false) := Lib.hid (by rw [Hp.out, Hr.out]; simp; omega)
          have hne : ((p : Int) == (r : Int)) = false := by simp; omega
          go_wp2_with fail
          refine (Lk.out _).mono ?_
          rintro e_ w3 ⟨rfl, rfl⟩
          go_wp2_with fail
          refine (Lb.out _).mono ?_
          rintro e_ w3 ⟨rfl, rfl⟩
          go_wp2_with fail
          refine (Lk.out _).mono ?_
          rintro e_ w3 ⟨rfl, rfl⟩
          go_wp2_with fail
          refine (Lb.out _).mono ?_
          rintro e_ w3 ⟨rfl, rfl⟩
          go_wp2_with fail
          refine (apart_calls F hF k hk6 hbits B M _ hTr hfr hq.m).mono ?_
          rintro e_ w3 ⟨rfl, hm3, hk3⟩
          have hq3 := hq.kp hk3 hm3
          clear hTr hfr hm3 hk3 hq hbits
          obtain ⟨b3, hb3⟩ : ∃ b3, apartB F k = b3 := ⟨_, rfl⟩
          rw [hb3]
          have Hb3 := Lib.hid hb3
          clear hb3
          cases b3 with
          | true =>
            go_wp2
            go_roundw
            case rel => exact ⟨k + 1, k, by omega, by go_num, rfl, hk6, Lib.hid (by rw [hsucc.out, hbest.out]; unfold apartStep; rw [hc.out, Hb3.out]; rfl), hq3⟩
            case measure => simp [intOf]; omega
          | false =>
            go_wp2
            go_roundw
            case rel => exact ⟨k + 1, best, by omega, by go_num, rfl, hbl, Lib.hid (by rw [hsucc.out, hbest.out]; unfold apartStep; rw [hc.out, Hb3.out]; rfl), hq3⟩
            case measure => simp [intOf]; omega
      · obtain rfl : k = N := by omega
        go_wp2_with fail
        refine (list_calls best hbl _ (hq.k.tab hme hT1)).mono ?_
        rintro e_ w3 ⟨v0, rfl, hR, hb3⟩
        have HR := Lib.hid hR
        clear hR
        go_wp2
        go_ret2
        have hB2 : Below w.heap.size w wr := Below.kp hB1 hq.k hMw0 hB1.size
        rw [Hq.out, hbest.out]
        exact ⟨_, rfl, Kd.R_lower HR.out hB2.size, hB2.trans (hb3.mono hB2.size)⟩
end Go.Proofs.YtbijamlgcebgeaaDoor.Hand

-- part IC
namespace Go.Proofs.YtbijamlgcebgeaaDoor.Hand
open Go.RowKit
section
variable {F : Fence} {m : Nat} {P : Program} {ops : Array Oper} {Q : Exit → Act → World → Prop} {md : Region.Mode} {C : World → Prop}
/-- It yields this in every world of the class, and is about to make no call. -/
def YieldsC (P : Program) (ops : Array Oper) (C : World → Prop) (o : Oper) (v : Value) (a : Act) : Prop :=
  ((Region.wanted o (yielded ops a.tmps) = true ∧ ∀ w, C w → (execOp a.eval o).run P w = .ok (.value v) w) ∨ (Region.wanted o (yielded ops a.tmps) = false ∧ v = undef)) ∧ ∀ w, o.about P w a.eval = none
theorem YieldsC.wpOpIn {i : Nat} {o : Oper} {v : Value} {a : Act} (hro : F.round = none) (hi : ops[i]? = some o) (hy : YieldsC P ops C o v a)
    {K : Act → World → Prop} {w : World} (hw : C w) (h : K (a.put o.dst v) w) : wpOpIn F m P ops Q i K a w := by
  unfold Go.wpOpIn
  simp only [hi]
  have hab : ∀ f, o.about P w a.eval = some f → F.fn f := fun f hf => by rw [hy.2 w] at hf; cases hf
  rcases hy.1 with ⟨hw', hv⟩ | ⟨hw', rfl⟩
  · simp only [hw', if_true, Oper.wpIn, hro, Oper.semAt_none, hv w hw, Oper.uponIn]; exact ⟨hab, h⟩
  · simp only [hw', Bool.false_eq_true, if_false]; exact ⟨hab, h⟩
theorem YieldsC.of_same {o : Oper} {v : Value} {a a' : Act} (hy : YieldsC P ops C o v a) (he : execOp a'.eval o = execOp a.eval o)
    (hw : Region.wanted o (yielded ops a'.tmps) = Region.wanted o (yielded ops a.tmps)) (hb : ∀ w, o.about P w a'.eval = o.about P w a.eval) : YieldsC P ops C o v a' := by
  unfold YieldsC at *
  rw [he, hw]
  exact ⟨hy.1, fun w => by rw [hb w]; exact hy.2 w⟩
theorem wpOpIn_putC {j : Nat} {oi oj : Oper} {v : Value} (hro : F.round = none) (hj : ops[j]? = some oj) (hap : oi.apart ops oj = true)
    (hsi : ∀ cs b, oi.op ≠ .select cs b) (hsj : ∀ cs b, oj.op ≠ .select cs b)
    (hQ : ∀ c a w, Q (.panic c) (a.put oi.dst v) w → Q (.panic c) a w) {K : Act → World → Prop} {a : Act} {w : World}
    (hy : YieldsC P ops C oi v a) (h : wpOpIn F m P ops Q j K (a.put oi.dst v) w) :
    wpOpIn F m P ops Q j (fun a' w' => YieldsC P ops C oi v a' ∧ K (a'.put oi.dst v) w') a w := by
  obtain ⟨h1, h2, h3⟩ := Oper.apart_spec hap
  have keep : ∀ (a : Act), YieldsC P ops C oi v a → ∀ u, YieldsC P ops C oi v (a.put oj.dst u) := fun a hy u =>
    hy.of_same (execOp_put oi hsi a oj.dst u h3) (wanted_put oi a oj.dst u h3) (fun w => about_put oi w a oj.dst u h3)
  have keepD : ∀ d, YieldsC P ops C oi v { a with defers := d :: a.defers } := fun d => hy.of_same rfl rfl (fun _ => rfl)
  unfold wpOpIn at *
  simp only [hj] at *
  rw [wanted_put oj a oi.dst v h1, about_put oj w a oi.dst v h1] at h
  split
  · rename_i hw
    simp only [hw, if_true] at h
    unfold Oper.wpIn at *
    rw [about_put oj w a oi.dst v h1] at h
    refine ⟨h.1, ?_⟩
    have h := h.2
    rw [hro, Oper.semAt_none, execOp_put oj hsj a oi.dst v h1] at h
    rw [hro, Oper.semAt_none]
    generalize (execOp a.eval oj).run P w = r at *
    cases r with
    | ok x w' =>
      cases x <;> simp only [Oper.uponIn] at h ⊢
      case value u => exact ⟨keep a hy u, by rw [← Act.put_comm a v u h2]; exact h⟩
      case skip => exact ⟨keep a hy _, by rw [← Act.put_comm a v undef h2]; exact h⟩
      case defer d =>
        refine ⟨keep _ (keepD d) _, ?_⟩
        rw [← Act.put_comm _ v undef h2, ← Act.put_defers]
        exact h
      case enter f args =>
        refine ⟨h.1, CallsIn.mono h.2 fun e w'' he => ?_⟩
        cases e with
        | returned u => exact ⟨keep a hy u, by rw [← Act.put_comm a v u h2]; exact he⟩
        | panicked c => exact hQ _ _ _ he
        | outgrown => exact he
      case row row args => exact ⟨h.1, RowsIn.mono h.2 fun u w'' he => ⟨keep a hy u, by rw [← Act.put_comm a v u h2]; exact he⟩⟩
      case round l f tmps assign body =>
        refine ⟨h.1, RoundIn.mono h.2 fun e w'' he => ?_⟩
        cases e with
        | returned u => exact ⟨keep a hy u, by rw [← Act.put_comm a v u h2]; exact he⟩
        | panicked c => exact hQ _ _ _ he
        | outgrown => exact he
    | halt x w' =>
      cases x <;> simp only [Oper.uponIn] at h ⊢
      case panic u => exact hQ _ _ _ h
  · rename_i hw
    simp only [hw] at h
    exact ⟨h.1, keep a hy _, by rw [← Act.put_comm a v undef h2]; exact h.2⟩
/-- The first n operations, every world on the way of the class. -/
def wpHead (F : Fence) (m : Nat) (P : Program) (md : Region.Mode) (ops : Array Oper) (Q : Exit → Act → World → Prop) (C : World → Prop) (n : Nat) (L : Array Bool → Act → World → Prop) : Nat → Array Bool → Act → World → Prop
  | 0, listed, a, w => L listed a w
  | f + 1, listed, a, w =>
    Region.ready md ops listed ≠ [] ∧ ∀ i ∈ Region.ready md ops listed, i < n ∧ wpOpIn F m P ops Q i (fun a' w' => C w' ∧ wpHead F m P md ops Q C n L f (listed.setIfInBounds i true) a' w') a w
theorem wpAnyIn_of_wpHead {n g : Nat} {L : Array Bool → Act → World → Prop} (hL : ∀ listed a w, L listed a w → wpAnyIn F m P md ops Q g listed a w) :
    ∀ (f : Nat) (listed : Array Bool) (a : Act) (w : World), wpHead F m P md ops Q C n L f listed a w → wpAnyIn F m P md ops Q (f + g) listed a w
  | 0, listed, a, w, h => by rw [Nat.zero_add]; exact hL _ _ _ h
  | f + 1, listed, a, w, h => by
    rw [show f + 1 + g = (f + g) + 1 by omega]
    exact ⟨fun h0 => absurd h0 h.1, fun i hi => wpOpIn_mono (fun a' w' h' => wpAnyIn_of_wpHead hL f _ a' w' h'.2) (h.2 i hi).2⟩
theorem wpHead_first {n i : Nat} {oi : Oper} {v : Value} {L : Array Bool → Act → World → Prop} (hro : F.round = none) (hi : ops[i]? = some oi) (hsel : ∀ (j : Nat) (o : Oper) cs b, ops[j]? = some o → o.op ≠ .select cs b)
    (hs : Region.sinkB md ops n = true) (hc : Region.chainB md ops n = true) (hn : n < ops.size) (hin : i < n) (hQ : ∀ c a w, Q (.panic c) (a.put oi.dst v) w → Q (.panic c) a w)
    (hdone : ∀ listed a w, L listed a w → ∀ j ∈ Region.ready md ops listed, n ≤ j) :
    ∀ (f : Nat) (listed : Array Bool) (a : Act) (w : World), HeadInv md ops n listed →
      (∀ j oj, ops[j]? = some oj → j ≠ i → listed.getD j true = false → (∀ e ∈ oj.after, Region.binds md e = true → e.on ≠ i) → oi.apart ops oj = true) →
      i ∈ Region.ready md ops listed → C w → YieldsC P ops C oi v a →
      wpHead F m P md ops Q C n L f (listed.setIfInBounds i true) (a.put oi.dst v) w → wpHead F m P md ops Q C n L (f + 1) listed a w := by
  intro f
  induction f with
  | zero =>
    intro listed a w inv _ hr hC hy H
    have hun := (mem_ready.1 hr).1
    refine ⟨fun h => (by rw [h] at hr; cases hr), fun j hj => ?_⟩
    have hjn : j < n := by
      rcases Nat.lt_or_ge j n with h | h
      · exact h
      · exact absurd hj (tail_waits hs hc hn inv _ i rfl hin hun j h)
    refine ⟨hjn, ?_⟩
    by_cases hji : j = i
    · subst hji; exact hy.wpOpIn hro hi hC ⟨hC, H⟩
    · have := hdone _ _ _ H j (ready_mono hj hji)
      omega
  | succ f ih =>
    intro listed a w inv hfree hr hC hy H
    have hun := (mem_ready.1 hr).1
    refine ⟨fun h => (by rw [h] at hr; cases hr), fun j hj => ?_⟩
    have hjn : j < n := by
      rcases Nat.lt_or_ge j n with h | h
      · exact h
      · exact absurd hj (tail_waits hs hc hn inv _ i rfl hin hun j h)
    refine ⟨hjn, ?_⟩
    by_cases hji : j = i
    · subst hji; exact hy.wpOpIn hro hi hC ⟨hC, H⟩
    · have h1 := (H.2 j (ready_mono hj hji)).2
      obtain ⟨hjun, oj, hoj, hall⟩ := mem_ready.1 hj
      have hnot : ∀ e ∈ oj.after, Region.binds md e = true → e.on ≠ i := fun e he hb heq => by
        have h1 := hall e he hb
        rw [heq, getD_both hun] at h1
        cases h1
      have h2 := wpOpIn_putC hro hoj (hfree j oj hoj hji hjun hnot) (fun cs b => hsel i oi cs b hi) (fun cs b => hsel j oj cs b hoj) hQ hy h1
      have hfree' : ∀ k ok, ops[k]? = some ok → k ≠ i → (listed.setIfInBounds j true).getD k true = false →
          (∀ e ∈ ok.after, Region.binds md e = true → e.on ≠ i) → oi.apart ops ok = true := fun k ok hk hki hun hno => by
        refine hfree k ok hk hki ?_ hno
        by_cases hjk : j = k
        · subst hjk; exact hjun
        · rw [getD_set_ne true hjk] at hun; exact hun
      refine wpOpIn_mono (fun a' w' h3 => ⟨h3.2.1, ih (listed.setIfInBounds j true) a' w' (inv.set hj hjn) hfree' (ready_mono hr (Ne.symm hji)) h3.2.1 h3.1 ?_⟩) h2
      rw [Array.setIfInBounds_comm _ _ hji]
      exact h3.2.2
/-- The walk, in an order of our own: reads first, each event when it alone is ready. -/
def seqC (F : Fence) (m : Nat) (P : Program) (ops : Array Oper) (Q : Exit → Act → World → Prop) (C : World → Prop) (Lq : Act → World → Prop) : List (Nat × Bool) → Act → World → Prop
  | [], a, w => Lq a w
  | (i, true) :: π, a, w => ∃ o v, ops[i]? = some o ∧ YieldsC P ops C o v a ∧ seqC F m P ops Q C Lq π (a.put o.dst v) w
  | (i, false) :: π, a, w => wpOpIn F m P ops Q i (fun a' w' => C w' ∧ seqC F m P ops Q C Lq π a' w') a w
def headB (md : Region.Mode) (ops : Array Oper) (n g : Nat) : List (Nat × Bool) → Array Bool → Bool
  | [], listed => Region.seqB md ops g n listed
  | (i, true) :: π, listed => decide (i < n) && (Region.ready md ops listed).contains i && Region.free md ops listed i && headB md ops n g π (listed.setIfInBounds i true)
  | (i, false) :: π, listed => decide (i < n) && decide (Region.ready md ops listed = [i]) && headB md ops n g π (listed.setIfInBounds i true)
theorem wpHead_seqC {n g : Nat} {Lq : Act → World → Prop} (hro : F.round = none) (hsel : Region.noSelect ops = true) (hs : Region.sinkB md ops n = true) (hc : Region.chainB md ops n = true) (hn : n < ops.size)
    (hQ : ∀ c a d v w, Q (.panic c) (a.put d v) w → Q (.panic c) a w) :
    ∀ (π : List (Nat × Bool)) (listed : Array Bool) (a : Act) (w : World), HeadInv md ops n listed → headB md ops n g π listed = true → C w → seqC F m P ops Q C Lq π a w →
    wpHead F m P md ops Q C n (fun listed' a' w' => Region.seqB md ops g n listed' = true ∧ Lq a' w') π.length listed a w
  | [], listed, a, w, inv, hB, hC, h => ⟨hB, h⟩
  | (i, true) :: π, listed, a, w, inv, hB, hC, h => by
    obtain ⟨o, v, ho, hy, h⟩ := h
    simp only [headB, Bool.and_eq_true, decide_eq_true_eq] at hB
    obtain ⟨⟨⟨hin, hr⟩, hf⟩, hB'⟩ := hB
    have hr' : i ∈ Region.ready md ops listed := by simpa using hr
    exact wpHead_first hro ho (Region.noSelect_spec hsel) hs hc hn hin (fun c a w => hQ c a _ v w) (fun listed' a' w' hL => seqB_ready hL.1) π.length listed a w inv (Region.free_spec ho hf) hr' hC hy
      (wpHead_seqC hro hsel hs hc hn hQ π _ _ w (inv.set hr' hin) hB' hC h)
  | (i, false) :: π, listed, a, w, inv, hB, hC, h => by
    simp only [headB, Bool.and_eq_true, decide_eq_true_eq] at hB
    obtain ⟨⟨hin, hr⟩, hB'⟩ := hB
    have hr' : i ∈ Region.ready md ops listed := by rw [hr]; simp
    refine ⟨fun h0 => (by rw [h0] at hr; cases hr), fun j hj => ?_⟩
    rw [hr] at hj
    obtain rfl : j = i := by simpa using hj
    exact ⟨hin, wpOpIn_mono (fun a' w' h' => ⟨h'.1, wpHead_seqC hro hsel hs hc hn hQ π _ a' w' (inv.set hr' hin) hB' h'.1 h'.2⟩) h⟩
theorem wpAnyIn_of_seq {Q' : Exit → Act → World → Prop} : ∀ (l : List Oper) (k : Nat) (listed : Array Bool) (a : Act) (w : World), (∀ j, l[j]? = ops[k + j]?) →
    Region.seqB md ops l.length k listed = true → wpListIn F m P ops Q' l a w → wpAnyIn F m P md ops Q' l.length listed a w
  | [], _, _, _, _, _, hB, h => ⟨by simpa [Region.seqB] using hB, h⟩
  | o :: l, k, listed, a, w, hl, hB, h => by
    have h0 : ops[k]? = some o := by simpa using (hl 0).symm
    simp only [List.length_cons, Region.seqB, Bool.and_eq_true, decide_eq_true_eq] at hB
    refine ⟨fun h1 => (by rw [hB.1] at h1; cases h1), fun i hi => ?_⟩
    rw [hB.1] at hi
    have hik : i = k := by simpa using hi
    subst hik
    have hw : wpOpIn F m P ops Q' i (wpListIn F m P ops Q' l) a w := by unfold wpOpIn; simp only [h0]; exact h
    exact wpOpIn_mono (fun a' w' h' => wpAnyIn_of_seq l (i + 1) _ a' w' (fun j => by have := hl (j + 1); simpa [Nat.add_assoc, Nat.add_comm 1 j] using this) hB.2 h') hw
def seqCB (md : Region.Mode) (ops : Array Oper) (n : Nat) (π : List (Nat × Bool)) : Bool :=
  Region.noSelect ops && decide (n < ops.size) && Region.sinkB md ops n && Region.chainB md ops n && headB md ops n (ops.size - n) π (Array.replicate ops.size false) && (π.length == n)
theorem wpIn_region_seqC {id : Nat} {a : Act} {w : World} {l : List Oper} (n : Nat) (π : List (Nat × Bool)) (C : World → Prop) (hro : F.round = none) (hm : P.follows .mixedOrders = true) (hQ : ∀ c a d v w, Q (.panic c) (a.put d v) w → Q (.panic c) a w) (hB : seqCB .any l.toArray n π = true) (hC : C w.drew)
    (h : seqC F m P l.toArray Q C (wpListIn F m P l.toArray Q (l.drop n)) π a w.drew) : (Code.region id l.toArray true).wpIn F m P Q a w := by
  simp only [seqCB, Bool.and_eq_true, decide_eq_true_eq, beq_iff_eq] at hB
  obtain ⟨⟨⟨⟨⟨hsel, hn⟩, hs⟩, hc⟩, hhead⟩, hlen⟩ := hB
  have hn' : n < l.length := by simpa using hn
  have hdl : (l.drop n).length = l.toArray.size - n := by simp
  have inv0 : HeadInv .any l.toArray n (Array.replicate l.toArray.size false) :=
    ⟨by simp, fun j oj _ hl => (by rw [getD_replicate_false] at hl; cases hl), fun t _ ht => getD_in (by simpa using ht) (getD_replicate_false _ _)⟩
  have H := wpHead_seqC (md := .any) (g := l.toArray.size - n) hro hsel hs hc hn hQ π _ a w.drew inv0 hhead hC h
  refine wpIn_region_any hm ?_
  have := wpAnyIn_of_wpHead (Q := Q) (g := l.toArray.size - n) (fun listed a' w' hL => by
    have := wpAnyIn_of_seq (md := .any) (Q' := Q) (l.drop n) n listed a' w' (fun j => by simp [List.getElem?_drop]) (by rw [hdl]; exact hL.1) hL.2
    rwa [hdl] at this) _ _ _ _ H
  rw [hlen, show n + (l.toArray.size - n) = l.toArray.size by omega] at this
  exact this
def valUpon (o : Oper) (a : Act) (w : World) (K : Value → Act → Prop) : Result Next → Prop
  | .ok (.value v) w' => w' = w ∧ K v (a.put o.dst v)
  | _ => False
theorem valUpon_value (o : Oper) (a : Act) (w : World) (K : Value → Act → Prop) (v : Value) : valUpon o a w K (.ok (.value v) w) = K v (a.put o.dst v) := by simp [valUpon]
theorem seqC_quiet {Lq : Act → World → Prop} {i : Nat} {o : Oper} {π : List (Nat × Bool)} {a a' : Act} {w : World} {v : Value} (ho : ops[i]? = some o) (hab : ∀ w, o.about P w a.eval = none) (hC : C w)
    (h : ∀ K : Value → Act → Prop, K v a' → ∀ w', C w' → if Region.wanted o (yielded ops a.tmps) then valUpon o a w' K ((execOp a.eval o).run P w') else K undef (a.put o.dst undef))
    (hn : seqC F m P ops Q C Lq π a' w) : seqC F m P ops Q C Lq ((i, true) :: π) a w := by
  have key := h (fun v'' a'' => v'' = v ∧ a'' = a') ⟨rfl, rfl⟩
  by_cases hw : Region.wanted o (yielded ops a.tmps) = true
  · simp only [hw, if_true] at key
    have hv : ∀ w', C w' → ((execOp a.eval o).run P w' = .ok (.value v) w' ∧ a.put o.dst v = a') := by
      intro w' hw'
      have k := key w' hw'
      generalize (execOp a.eval o).run P w' = r at k
      cases r with
      | ok x w'' =>
        cases x <;> simp only [valUpon] at k
        case value u => obtain ⟨rfl, rfl, k2⟩ := k; exact ⟨rfl, k2⟩
      | halt x w'' => simp only [valUpon] at k
    exact ⟨o, v, ho, ⟨.inl ⟨hw, fun w' hw' => (hv w' hw').1⟩, hab⟩, by rw [(hv w hC).2]; exact hn⟩
  · simp only [hw] at key
    obtain ⟨h1, h2⟩ := key w hC
    exact ⟨o, undef, ho, ⟨.inr ⟨by simpa using hw, rfl⟩, hab⟩, by rw [h2]; exact hn⟩
theorem seqC_event {Lq : Act → World → Prop} {i : Nat} {o : Oper} {π : List (Nat × Bool)} {a : Act} {w : World} (ho : ops[i]? = some o)
    (h : wpListIn F m P ops (Exit.then (fun a' w' => C w' ∧ seqC F m P ops Q C Lq π a' w') Q) [o] a w) : seqC F m P ops Q C Lq ((i, false) :: π) a w := by
  show wpOpIn F m P ops Q i _ a w
  unfold wpOpIn
  simp only [ho]
  unfold wpListIn at h
  split
  · rename_i hw
    rw [if_pos hw] at h
    unfold Oper.wpIn at *
    refine ⟨h.1, ?_⟩
    have h := h.2
    generalize (o.semAt F.round a.eval).run P w = r at *
    cases r with
    | ok x w' =>
      cases x <;> simp only [Oper.uponIn] at h ⊢
      case value u => exact h
      case skip => exact h
      case defer d => exact h
      case enter f args => exact ⟨h.1, CallsIn.mono h.2 fun e w'' he => by cases e <;> exact he⟩
      case row row args => exact ⟨h.1, RowsIn.mono h.2 fun u w'' he => he⟩
      case round l f tmps assign body => exact ⟨h.1, RoundIn.mono h.2 fun e w'' he => by cases e <;> exact he⟩
    | halt x w' =>
      cases x <;> simp only [Oper.uponIn] at h ⊢
      case panic u => exact h
  · rename_i hw
    rw [if_neg hw] at h
    exact h
end
attribute [go_sem] valUpon valUpon_value
end Go.Proofs.YtbijamlgcebgeaaDoor.Hand

-- part ID
namespace Go.Proofs.YtbijamlgcebgeaaDoor.Hand
open Go.RowKit Go.Shelf Go.Sort Go.Proofs.YtbijamlgcebgeaaDoorW.PrintWords Go.Proofs.YtbijamlgcebgeaaDoorW.PrintMore Go.Proofs.YtbijamlgcebgeaaDoor.Q
/-- The set of each load. -/
structure L6 where
  a : Nat
  b : Nat
  c : Nat
  d : Nat
  e : Nat
  f : Nat
def L6.vs (r : L6) : Array Value := #[.int .u64 r.a, .int .u64 r.b, .int .u64 r.c, .int .u64 r.d, .int .u64 r.e, .int .u64 r.f]
def L6.get (r : L6) (i : Nat) : Nat := if i = 0 then r.a else if i = 1 then r.b else if i = 2 then r.c else if i = 3 then r.d else if i = 4 then r.e else r.f
def L6.put (r : L6) (i : Nat) (v : Nat) : L6 := if i = 0 then { r with a := v } else if i = 1 then { r with b := v } else if i = 2 then { r with c := v } else if i = 3 then { r with d := v } else if i = 4 then { r with e := v } else { r with f := v }
theorem L6.vs_get (r : L6) (i : Nat) (h : i < 6) : r.vs[i]? = some (.int .u64 (r.get i)) := by
  match i, h with
  | 0, _ => rfl
  | 1, _ => rfl
  | 2, _ => rfl
  | 3, _ => rfl
  | 4, _ => rfl
  | 5, _ => rfl
theorem L6.vs_put (r : L6) (i : Nat) (h : i < 6) (v : Nat) : r.vs.setIfInBounds i (.int .u64 v) = (r.put i v).vs := by
  match i, h with
  | 0, _ => rfl
  | 1, _ => rfl
  | 2, _ => rfl
  | 3, _ => rfl
  | 4, _ => rfl
  | 5, _ => rfl
/-- All sets are of the first n signs. -/
def L6.Ok (r : L6) (n : Nat) : Prop := ∀ i, r.get i < 2 ^ n
theorem L6.get_put (r : L6) (i j v : Nat) (hi : i < 6) : (r.put i v).get j = if j = i ∨ (5 ≤ i ∧ 5 ≤ j) then v else r.get j := by
  unfold L6.put L6.get
  by_cases hj : j < 6
  · match i, hi, j, hj with
    | 0, _, 0, _ => rfl
    | 0, _, 1, _ => rfl
    | 0, _, 2, _ => rfl
    | 0, _, 3, _ => rfl
    | 0, _, 4, _ => rfl
    | 0, _, 5, _ => rfl
    | 1, _, 0, _ => rfl
    | 1, _, 1, _ => rfl
    | 1, _, 2, _ => rfl
    | 1, _, 3, _ => rfl
    | 1, _, 4, _ => rfl
    | 1, _, 5, _ => rfl
    | 2, _, 0, _ => rfl
    | 2, _, 1, _ => rfl
    | 2, _, 2, _ => rfl
    | 2, _, 3, _ => rfl
    | 2, _, 4, _ => rfl
    | 2, _, 5, _ => rfl
    | 3, _, 0, _ => rfl
    | 3, _, 1, _ => rfl
    | 3, _, 2, _ => rfl
    | 3, _, 3, _ => rfl
    | 3, _, 4, _ => rfl
    | 3, _, 5, _ => rfl
    | 4, _, 0, _ => rfl
    | 4, _, 1, _ => rfl
    | 4, _, 2, _ => rfl
    | 4, _, 3, _ => rfl
    | 4, _, 4, _ => rfl
    | 4, _, 5, _ => rfl
    | 5, _, 0, _ => rfl
    | 5, _, 1, _ => rfl
    | 5, _, 2, _ => rfl
    | 5, _, 3, _ => rfl
    | 5, _, 4, _ => rfl
    | 5, _, 5, _ => rfl
  · have h0 : j ≠ 0 := by omega
    have h1 : j ≠ 1 := by omega
    have h2 : j ≠ 2 := by omega
    have h3 : j ≠ 3 := by omega
    have h4 : j ≠ 4 := by omega
    simp only [h0, h1, h2, h3, h4, if_false]
    match i, hi with
    | 0, _ => simp; omega
    | 1, _ => simp; omega
    | 2, _ => simp; omega
    | 3, _ => simp; omega
    | 4, _ => simp; omega
    | 5, _ => simp; omega
/-- The lists that begin with l, with sets x. -/
def genL (F : Furn) (m : Nat) : Nat → List Int → L6 → List (List Int)
  | 0, l, _ => [l]
  | d + 1, l, x => (List.range m).flatMap fun j => if goesB F (x.get j ||| 2 ^ l.length) = true then genL F m d (l ++ [(j : Int)]) (x.put j (x.get j ||| 2 ^ l.length)) else []
def genK (F : Furn) (m d : Nat) (l : List Int) (x : L6) (k : Nat) : List (List Int) := (List.range k).flatMap fun j => if goesB F (x.get j ||| 2 ^ l.length) = true then genL F m d (l ++ [(j : Int)]) (x.put j (x.get j ||| 2 ^ l.length)) else []
theorem genL_succ (F : Furn) (m d : Nat) (l : List Int) (x : L6) : genL F m (d + 1) l x = genK F m d l x m := rfl
theorem genK_succ (F : Furn) (m d : Nat) (l : List Int) (x : L6) (k : Nat) : genK F m d l x (k + 1) = genK F m d l x k ++ (if goesB F (x.get k ||| 2 ^ l.length) = true then genL F m d (l ++ [(k : Int)]) (x.put k (x.get k ||| 2 ^ l.length)) else []) := by
  simp [genK, List.range_succ]
theorem genK_prefix (F : Furn) (m d : Nat) (l : List Int) (x : L6) {k m' : Nat} (h : k ≤ m') : genK F m d l x k <+: genK F m d l x m' := by
  induction m' with
  | zero => have : k = 0 := by omega
            subst this; exact List.prefix_refl _
  | succ m' ih =>
    by_cases e : k = m' + 1
    · subst e; exact List.prefix_refl _
    · rw [genK_succ]
      exact (ih (by omega)).trans (List.prefix_append _ _)
theorem L6.Ok.put {x : L6} {n : Nat} (h : x.Ok n) (k : Nat) (hk : k < 6) : (x.put k (x.get k ||| 2 ^ n)).Ok (n + 1) := by
  intro i
  have h1 : x.get k ||| 2 ^ n < 2 ^ (n + 1) := Nat.or_lt_two_pow (Nat.lt_of_lt_of_le (h k) (Nat.pow_le_pow_right (by decide) (by omega))) (Nat.pow_lt_pow_right (by decide) (by omega))
  rw [L6.get_put _ _ _ _ hk]
  split
  · exact h1
  · exact Nat.lt_of_lt_of_le (h i) (Nat.pow_le_pow_right (by decide) (by omega))
/-- What a furnace's calls may rest on. -/
structure Gr (F : Furn) (B M : Nat) (G : World → Prop) : Prop where
  fu : ∀ W, G W → Fu W B M F
  tab : ∀ W, G W → TabW W
  kp : ∀ X Y, G X → Memo X M F → Kp M X Y → Memo Y M F → G Y
/-- What a furnace's iterator may rely on. -/
structure LInv (F : Furn) (B M m b2 b3 : Nat) (G : World → Prop) (W : World) : Prop where
  gr : Gr F B M G
  g : G W
  me : Memo W M F
  x2 : Box W b2 #[.pointer (some ⟨B, 0, none⟩)] 91
  x3 : Box W b3 #[.int .i64 m] 3
def LSt (F : Furn) (M : Nat) (X Y : World) : Prop := Kp M X Y ∧ Memo X M F ∧ Memo Y M F
theorem LSt.below {F : Furn} {M : Nat} {X Y : World} (hb : Below X.heap.size X Y) (hm : Memo X M F) : LSt F M X Y := ⟨.of_below hb, hm, hm.below hb⟩
/-- A list that is yielded: of its own. -/
def LEnc (n₀ : Nat) (x : List Int) (args : Array Value) (W : World) : Prop := ∃ v, args = #[v] ∧ OwnI W n₀ v x
theorem LInv.kp {F : Furn} {B M m b2 b3 : Nat} {G : World → Prop} {X Y : World} (h : LInv F B M m b2 b3 G X) (k : Kp M X Y) (hm : Memo Y M F) : LInv F B M m b2 b3 G Y :=
  ⟨h.gr, h.gr.kp _ _ h.g h.me k hm, hm, k.boxm h.me h.x2, k.boxm h.me h.x3⟩
theorem LInv.step {F : Furn} {B M m b2 b3 : Nat} {G : World → Prop} {X Y : World} (h : LInv F B M m b2 b3 G X) (hb : Below X.heap.size X Y) : LInv F B M m b2 b3 G Y := h.kp (.of_below hb) (h.me.below hb)
theorem LInv.fu {F : Furn} {B M m b2 b3 : Nat} {G : World → Prop} {X : World} (h : LInv F B M m b2 b3 G X) : Fu X B M F := h.gr.fu _ h.g
theorem LInv.tab {F : Furn} {B M m b2 b3 : Nat} {G : World → Prop} {X : World} (h : LInv F B M m b2 b3 G X) : TabW X := h.gr.tab _ h.g
theorem Kq.gr {F : Furn} {B M : Nat} {w : World} (hT : TabW w) (hf : Fu w B M F) (hm : Memo w M F) : Gr F B M (Kq M F w) := ⟨fun W h => h.k.fu hm hf, fun W h => h.k.tab hm hT, fun X Y h _ k hm => h.kp k hm⟩
theorem Memo.setCell {F : Furn} {M b : Nat} {W : World} (h : Memo W M F) {vs : Array Value} {t : TypeId} (hb : Box W b vs t) (i : Nat) (v : Value) : Memo (W.setCell ⟨b, i, none⟩ v) M F := by
  obtain ⟨es, c, h1, h2⟩ := h
  have hne : M ≠ b := fun e => by
    unfold Box at hb
    rw [← e, h1] at hb
    cases hb
  exact ⟨es, c, (Below.heap_setCell W ⟨b, i, none⟩ v M hne).trans h1, h2⟩
theorem Memo.drew {F : Furn} {M : Nat} {W : World} (h : Memo W M F) : Memo W.drew M F := h
theorem Kp.drew (M : Nat) (W : World) : Kp M W W.drew := ⟨rfl, rfl, rfl, Nat.le_refl _, fun _ _ _ => rfl⟩
theorem FrB.kp {s M : Nat} {X Y : World} (k : Kp M X Y) (hM : M < s) : FrB s X Y := ⟨k.size, fun i o hi hs _ => (k.block i (lt_of_block hi) (by omega)).trans hi⟩
theorem FrB.box {s b : Nat} {X Y : World} {vs : Array Value} {t : TypeId} (h : FrB s X Y) (hb : Box X b vs t) (hs : s ≤ b) : Box Y b vs t := h.keep b _ hb hs rfl
theorem FrB.own {s n₀ : Nat} {X Y : World} {v : Value} {xs : List Int} (h : FrB s X Y) (ho : OwnI X n₀ v xs) (hs : s ≤ n₀) : OwnI Y n₀ v xs := by
  refine ⟨ho.1, ?_⟩
  rcases ho.2 with h' | ⟨g, cap, cur, hv, hb, hg, r⟩
  · exact .inl h'
  · exact .inr ⟨g, cap, cur, hv, hb, h.keep g _ hg (by omega) rfl, r⟩
theorem FrB.mono {s t : Nat} {X Y : World} (h : FrB s X Y) (hs : s ≤ t) : FrB t X Y := ⟨h.size, fun k o hk ht ho => h.keep k o hk (by omega) ho⟩
end Go.Proofs.YtbijamlgcebgeaaDoor.Hand

-- part IF
namespace Go.Proofs.YtbijamlgcebgeaaDoor.Hand
open Go.RowKit Go.Shelf Go.Sort Go.Proofs.YtbijamlgcebgeaaDoorW.PrintWords Go.Proofs.YtbijamlgcebgeaaDoorW.PrintMore Go.Proofs.YtbijamlgcebgeaaDoor.Q
theorem OwnI.cap {W : World} {n₀ : Nat} {A : Option Addr} {n c : Nat} {xs : List Int} (h : OwnI W n₀ (.slice A n c) xs) : n ≤ c ∧ c ≤ maxLen ∧ n = xs.length ∧ ((A = none ∧ n = 0) ∨ ∃ g, A = some ⟨g, 0, none⟩) := by
  rcases h.2 with ⟨hv, h0⟩ | ⟨g, cap, cur, hv, _, _, h1, h2, _⟩
  · cases hv; exact ⟨Nat.le_refl _, by simp [maxLen], h0.symm, .inl ⟨rfl, rfl⟩⟩
  · cases hv; exact ⟨h1, h2, rfl, .inr ⟨g, rfl⟩⟩
theorem slice_run {W : World} {n₀ : Nat} {A : Option Addr} {n c : Nat} {xs : List Int} (h : OwnI W n₀ (.slice A n c) xs) (w : World) :
    (Instr.slice 25 (.slice A n c) none (some (.int .i64 n)) (some (.int .i64 n))).run Tryd.prog w = .ok (.slice A n n) w := by
  obtain ⟨h1, h2, h3, h4⟩ := h.cap
  unfold maxLen at h2
  have hu : Tryd.prog.underlying 25 = some (.slice 3) := Tryd.underlying25
  have hn1 : ¬ ((n : Int) < 0) := by omega
  have hn2 : ¬ ((c : Int) < (n : Int)) := by omega
  obtain ⟨i3, hi3, hz3⟩ := Option.map_eq_some_iff.1 info3
  simp only [Prod.mk.injEq] at hz3
  obtain ⟨hz0, hz1, hz2⟩ := hz3
  have hm : (A.map (·.add 0)) = A := by
    rcases h4 with ⟨rfl, _⟩ | ⟨g, rfl⟩
    · rfl
    · simp [Addr.add]
  unfold Instr.slice
  simp [go_sem, run_underlying hu, Instr.sliceBounds, Instr.sliceBound, sizeOf, typeInfo, hi3, hz1]
  intro hc
  omega
theorem append_full {W : World} {s0 : Nat} {A : Option Addr} {n c : Nat} {xs : List Int} (h : OwnI W s0 (.slice A n c) xs) (hs : s0 ≤ W.heap.size) (hn : n ≤ 100) (k : Int) :
    ∃ v' W', (Builtin.append_ #[25, 25] 25 #[.slice A n n, .slice (some ⟨W.heap.size, 0, none⟩) 1 1]).run Tryd.prog (W.alloc (.cells #[.int .i64 k] 3)) = .ok v' W' ∧ OwnI W' s0 v' (xs ++ [k]) ∧ Below W.heap.size W W' := by
  obtain ⟨h1, h2, h3, h4⟩ := h.cap
  obtain ⟨i3, hi3, hz3⟩ := Option.map_eq_some_iff.1 info3
  simp only [Prod.mk.injEq] at hz3
  obtain ⟨hz0, hz1, hz2⟩ := hz3
  have hu : Tryd.prog.underlying 25 = some (.slice 3) := Tryd.underlying25
  obtain ⟨W1, hW1⟩ : ∃ W1, W.alloc (.cells #[.int .i64 k] 3) = W1 := ⟨_, rfl⟩
  have hb1 : Below W.heap.size W W1 := by rw [← hW1]; exact (Below.refl _ _).alloc (Nat.le_refl _) _
  have ho1 := h.below' hb1
  have hnews : ∀ j u, [Value.int .i64 k][j]? = some u → W1.cell? ((⟨W.heap.size, 0, none⟩ : Addr).add j) = some u := by
    intro j u hj
    match j, hj with
    | 0, hj =>
      simp at hj
      subst hj
      rw [← hW1]
      simp [Addr.add]
  have key : ∀ (old : Nat), OwnI (W1.drew.alloc (.cells ((xs.map (Value.int .i64)).toArray ++ [Value.int .i64 k].toArray ++ Builtin.zeroCells (Value.int .i64 0).cells (grownCap W1 (n + 1) old 3 - (n + 1))) 3)) s0 (.slice (some ⟨W1.heap.size, 0, none⟩) (n + 1) (grownCap W1 (n + 1) old 3)) (xs ++ [k]) ∧
      Below W.heap.size W (W1.drew.alloc (.cells ((xs.map (Value.int .i64)).toArray ++ [Value.int .i64 k].toArray ++ Builtin.zeroCells (Value.int .i64 0).cells (grownCap W1 (n + 1) old 3 - (n + 1))) 3)) := by
    intro old
    have hge := grownCap_ge W1 (n + 1) old 3
    have hcm : grownCap W1 (n + 1) old 3 ≤ maxLen := grownCap_le_maxLen W1 (n + 1) old 3 (by unfold maxLen; omega)
    refine ⟨⟨by simp, .inr ⟨W1.heap.size, _, _, ?_, by have := hb1.size; omega, heap_alloc_new W1.drew _, by simpa [← h3] using hge, hcm, ?_, ?_⟩⟩, hb1.drew.alloc (by have := hb1.size; simpa using this) _⟩
    · simp [← h3]
    · have hz : (Builtin.zeroCells (Value.int .i64 0).cells (grownCap W1 (n + 1) old 3 - (n + 1))).size = grownCap W1 (n + 1) old 3 - (n + 1) := by
        rw [size_zeroCells]
        show _ * 1 = _
        omega
      simp only [Array.size_append, List.size_toArray, List.length_map, hz, List.length_cons, List.length_nil]
      omega
    · have : ((xs ++ [k]).length * 1) = (xs.map (Value.int .i64) ++ [Value.int .i64 k]).length := by simp
      rw [this]
      simp [List.take_append]
      exact List.take_of_length_le (by simp)
  rw [hW1]
  rcases h4 with ⟨rfl, rfl⟩ | ⟨g, rfl⟩
  · have hx : xs = [] := List.eq_nil_of_length_eq_zero h3.symm
    subst hx
    have hr := run_append_nil (P := Tryd.prog) W1 25 25 3 i3 (.int .i64 0) hu hi3 hz0 ⟨W.heap.size, 0, none⟩ 1 1 [.int .i64 k] (by simp [hz1]) hnews (by decide) (by decide) (by rw [hz2]; decide)
    have := key 0
    simp only [Nat.zero_add, List.map_nil, List.nil_append] at this
    exact ⟨_, _, hr, by simpa using this.1, by simpa using this.2⟩
  · have holds : ∀ j u, (xs.map (Value.int .i64))[j]? = some u → W1.cell? ((⟨g, 0, none⟩ : Addr).add j) = some u := World.ownsRow.cells (g := g) ho1 rfl
    have hr := run_append_grow (P := Tryd.prog) W1 25 25 3 i3 (.int .i64 0) hu hi3 hz0 ⟨g, 0, none⟩ n n (xs.map (Value.int .i64)) (by simp [hz1, h3]) holds ⟨W.heap.size, 0, none⟩ 1 1 [.int .i64 k] (by simp [hz1]) hnews (by omega) (by omega) (growslice_fits (by omega) (by rw [hz2]; omega))
    exact ⟨_, _, hr, (key n).1, (key n).2⟩
theorem wpListIn_append_run {F : Fence} {n : Nat} {P : Program} (w : World) {ops : Array Oper} {rest : List Oper} {o : Oper} {a : Act} {Q : Exit → Act → World → Prop}
    (hw : Region.wanted o (yielded ops a.tmps) = true) (s x : Operand) (t : TypeId) (hop : o.op = Op.call { callee := Callee.builtin Builtin.append, args := #[s, x], argTypes := #[t, t] }) (v y v' : Value) (w' : World) (hs : a.eval s = v) (hx : a.eval x = y)
    (hrun : (Builtin.append_ #[t, t] o.type #[v, y]).run P w = .ok v' w') (hK : wpListIn F n P ops Q rest (a.put o.dst v') w') :
    wpListIn F n P ops Q (o :: rest) a w := by
  refine wpListIn_step fun K hK' => ?_
  rw [if_pos hw]
  unfold Oper.wpIn
  refine ⟨?_, ?_⟩
  · simp [Oper.about, hop, resolve, Target.leads, Sem.run_pure]
  · rw [Oper.semAt_plain F _ _ (by rw [hop]; intro c hc'; cases hc')]
    simp [execOp, hop, resolve, invoke, builtin, hs, hx, hrun, Result.andThen]
    exact hK' _ _ hK
end Go.Proofs.YtbijamlgcebgeaaDoor.Hand

-- part IE
namespace Go.Proofs.YtbijamlgcebgeaaDoor.Hand
open Go.RowKit Go.Shelf Go.Sort Go.Proofs.YtbijamlgcebgeaaDoorW.PrintWords Go.Proofs.YtbijamlgcebgeaaDoorW.PrintMore Go.Proofs.YtbijamlgcebgeaaDoor.Q
/-- What the region's reads rest on. -/
def RegC (b2 B bf N k q : Nat) (fv : Value) (y : L6) (w' : World) : Prop :=
  w'.cell? ⟨b2, 0, none⟩ = some (.pointer (some ⟨B, 0, none⟩)) ∧ w'.cell? ⟨N, k, none⟩ = some (.int .u64 q) ∧ w'.cell? ⟨bf, 0, none⟩ = some fv ∧
  w'.cell? ⟨N, 0, none⟩ = some (.int .u64 y.a) ∧ w'.cell? ⟨N, 1, none⟩ = some (.int .u64 y.b) ∧ w'.cell? ⟨N, 2, none⟩ = some (.int .u64 y.c) ∧ w'.cell? ⟨N, 3, none⟩ = some (.int .u64 y.d) ∧ w'.cell? ⟨N, 4, none⟩ = some (.int .u64 y.e) ∧ w'.cell? ⟨N, 5, none⟩ = some (.int .u64 y.f)
theorem RegC.of {b2 B bf N k q : Nat} {fv : Value} {x : L6} {w' : World} (hk : k < 6) (h1 : Box w' b2 #[.pointer (some ⟨B, 0, none⟩)] 91) (h2 : Box w' N (x.put k q).vs 128) (h3 : Box w' bf #[fv] 126) : RegC b2 B bf N k q fv (x.put k q) w' :=
  ⟨h1.cell 0 rfl, h2.cell k (by rw [← L6.vs_put _ _ hk]; rw [Array.getElem?_setIfInBounds_self_of_lt (by simpa [L6.vs] using hk)]), h3.cell 0 rfl, h2.cell 0 rfl, h2.cell 1 rfl, h2.cell 2 rfl, h2.cell 3 rfl, h2.cell 4 rfl, h2.cell 5 rfl⟩
theorem seqC_skip {F : Fence} {m : Nat} {P : Program} {ops : Array Oper} {Q : Exit → Act → World → Prop} {C : World → Prop} {Lq : Act → World → Prop} {i : Nat} {o : Oper} {π : List (Nat × Bool)} {a : Act} {w : World} (ho : ops[i]? = some o)
    (hw : Region.wanted o (yielded ops a.tmps) = false) (hab : o.about P w a.eval = none) (hC : C w) (h : seqC F m P ops Q C Lq π (a.put o.dst undef) w) : seqC F m P ops Q C Lq ((i, false) :: π) a w := by
  show wpOpIn F m P ops Q i _ a w
  unfold wpOpIn
  simp only [ho, hw]
  exact ⟨fun f hf => (by rw [hab] at hf; cases hf), hC, h⟩
theorem wpListIn_skip {F : Fence} {m : Nat} {P : Program} {ops : Array Oper} {Q : Exit → Act → World → Prop} {o : Oper} {rest : List Oper} {a : Act} {w : World}
    (hw : Region.wanted o (yielded ops a.tmps) = false) (hab : o.about P w a.eval = none) (h : wpListIn F m P ops Q rest (a.put o.dst undef) w) : wpListIn F m P ops Q (o :: rest) a w := by
  refine wpListIn_step fun K hK => ?_
  rw [if_neg (by rw [hw]; decide)]
  exact ⟨fun f hf => (by rw [hab] at hf; cases hf), hK _ _ h⟩
set_option maxRecDepth 100000 in
set_option maxHeartbeats 2000000 in
theorem from_calls (F : Furn) (hF : F.Ok) (B M m b2 b3 : Nat) (hm6 : m ≤ 6) (G : World → Prop)
    (l : Nat) (J Jx : List (List Int) → World → Prop) (xs : List (List Int)) (Bf s0 : Nat) (hBs : Bf ≤ s0) (hMs : M < s0) (hb3s : b3 < s0)
    (hJs : ∀ pre X Y, J pre X → LSt F M X Y → J pre Y) (hJxs : ∀ pre X Y, Jx pre X → LSt F M X Y → Jx pre Y)
    (hY : ∀ pre x args W1, J pre W1 → LInv F B M m b2 b3 G W1 → pre ++ [x] <+: xs → LEnc (b3 + 1) x args W1 → YieldAt FW 0 Tryd.prog l args W1 fun e W' =>
      (e = .returned (.bool true) ∧ J (pre ++ [x]) W' ∧ LInv F B M m b2 b3 G W' ∧ FrB Bf W1 W') ∨ (e = .returned (.bool false) ∧ Jx (pre ++ [x]) W'))
    (by_ bf : Nat) (hby : s0 ≤ by_) (hbf : s0 ≤ bf) :
    ∀ (d : Nat) (l0 : List Int) (x : L6) (pre : List (List Int)) (v : Value) (W : World), l0.length + d = F.l.length → x.Ok l0.length → OwnI W s0 v l0 → s0 ≤ W.heap.size → LInv F B M m b2 b3 G W →
      Box W by_ #[.func (.yield l) #[] #[]] 125 → Box W bf #[.func (.func 95) #[] #[.pointer (some ⟨b2, 0, none⟩), .pointer (some ⟨by_, 0, none⟩), .pointer (some ⟨b3, 0, none⟩), .pointer (some ⟨bf, 0, none⟩)]] 126 → J pre W → pre ++ genL F m d l0 x <+: xs →
      CallsIn FW 0 Tryd.prog 95 #[v, .agg x.vs, .pointer (some ⟨b2, 0, none⟩), .pointer (some ⟨by_, 0, none⟩), .pointer (some ⟨b3, 0, none⟩), .pointer (some ⟨bf, 0, none⟩)] W fun e W' =>
        (e = .returned (.bool true) ∧ J (pre ++ genL F m d l0 x) W' ∧ LInv F B M m b2 b3 G W' ∧ FrB s0 W W') ∨ (e = .returned (.bool false) ∧ ∃ pre', pre' <+: xs ∧ Jx pre' W') := by
  intro d
  induction d with
  | zero =>
    intro l0 x pre v W hd hx hown hs0 hv hbY hbF hj hp
    obtain ⟨A, c, rfl⟩ := hown.slice
    have hd' : l0.length = F.l.length := by omega
    rw [hd'] at hown ⊢
    obtain ⟨Wa, hWa⟩ : ∃ Wa, W.alloc (.cells x.vs 128) = Wa := ⟨_, rfl⟩
    have hba : Below W.heap.size W Wa := by rw [← hWa]; exact (Below.refl _ _).alloc (Nat.le_refl _) _
    have hva := hv.step hba
    have hja : J pre Wa := hJs _ _ _ hj (.below hba hv.me)
    have hoa := hown.below' hba
    have hYa := hY pre l0 #[.slice A F.l.length c] Wa hja hva hp ⟨_, rfl, by exact hoa.lower hb3s⟩
    obtain ⟨fn, tmps, assign, body, hy, hR⟩ := hYa
    have hR' := Lib.hid hR
    have hbYa := hbY.step hba
    obtain ⟨A2, cA2, hB2, hC2⟩ := hva.fu
    have b5 : Wa.cell? ⟨B, 5, none⟩ = some (.slice A2 F.l.length cA2) := hB2.cell 5 rfl
    have c2 : Wa.cell? ⟨b2, 0, none⟩ = some (.pointer (some ⟨B, 0, none⟩)) := hva.x2.cell 0 rfl
    have cy : Wa.cell? ⟨by_, 0, none⟩ = some (.func (.yield l) #[] #[]) := (hbY.step hba).cell 0 rfl
    have hfr : FrB s0 W Wa := FrB.kp (.of_below hba) hMs
    clear hR hB2 hC2
    refine callsIn_of_wp Tryd.func95 rfl trivial ?_
    simp only [Tryd.ntmps95, List.size_toArray, List.length_cons, List.length_nil, Nat.reduceAdd, Nat.reduceSub, Array.replicate_succ, Array.replicate_zero, List.push_toArray, List.append_toArray, List.nil_append, List.cons_append]
    gi_wp2_with fail
    refine ⟨rfl, ?_⟩
    refine hR'.out.mono ?_
    rintro e W2 (⟨rfl, hj2, hv2, hf2⟩ | ⟨rfl, hx2⟩)
    · clear b5 c2 cy hWa
      gi_wp2
      go_ret
      exact .inl ⟨rfl, by have : genL F m 0 l0 x = [l0] := rfl
                          rw [this]; exact hj2, hv2, hfr.trans (hf2.mono hBs)⟩
    · clear b5 c2 cy hWa
      gi_wp2
      go_ret
      exact .inr ⟨rfl, _, by have : genL F m 0 l0 x = [l0] := rfl
                             rw [this] at hp; exact hp, hx2⟩
  | succ d ih =>
    intro l0 x pre v W hd hx hown hs0 hv hbY hbF hj hp
    obtain ⟨A, c, rfl⟩ := hown.slice
    obtain ⟨sg, hsg⟩ : ∃ sg, l0.length = sg := ⟨_, rfl⟩
    have hn6 := hF.len
    have hsn : sg < F.l.length := by omega
    have hne : ((sg : Int) == (F.l.length : Int)) = false := by simp; omega
    rw [hsg] at hown hx ⊢
    obtain ⟨Wa, hWa⟩ : ∃ Wa, W.alloc (.cells x.vs 128) = Wa := ⟨_, rfl⟩
    have hba : Below W.heap.size W Wa := by rw [← hWa]; exact (Below.refl _ _).alloc (Nat.le_refl _) _
    have hva := hv.step hba
    have hja : J pre Wa := hJs _ _ _ hj (.below hba hv.me)
    have hoa := hown.below' hba
    have hbYa := hbY.step hba
    have hbFa := hbF.step hba
    have hbX : Box Wa W.heap.size x.vs 128 := by rw [← hWa]; exact Box.new _ _ _
    obtain ⟨A2, cA2, hB2, hC2⟩ := hva.fu
    have b5 : Wa.cell? ⟨B, 5, none⟩ = some (.slice A2 F.l.length cA2) := hB2.cell 5 rfl
    have c2 : Wa.cell? ⟨b2, 0, none⟩ = some (.pointer (some ⟨B, 0, none⟩)) := hva.x2.cell 0 rfl
    have c3 : Wa.cell? ⟨b3, 0, none⟩ = some (.int .i64 m) := hva.x3.cell 0 rfl
    have hfr : FrB s0 W Wa := FrB.kp (.of_below hba) hMs
    clear hB2 hC2
    refine callsIn_of_wp Tryd.func95 rfl trivial ?_
    simp only [Tryd.ntmps95, List.size_toArray, List.length_cons, List.length_nil, Nat.reduceAdd, Nat.reduceSub, Array.replicate_succ, Array.replicate_zero, List.push_toArray, List.append_toArray, List.nil_append, List.cons_append]
    gi_wp2
    clear hWa b5 c2 c3
    gi_loopw [25] (fun i wr => ∃ k : Nat, k ≤ m ∧ i = .int .i64 k ∧ J (pre ++ genK F m d l0 x k) wr ∧ LInv F B M m b2 b3 G wr ∧ Box wr by_ #[.func (.yield l) #[] #[]] 125 ∧ Box wr bf #[.func (.func 95) #[] #[.pointer (some ⟨b2, 0, none⟩), .pointer (some ⟨by_, 0, none⟩), .pointer (some ⟨b3, 0, none⟩), .pointer (some ⟨bf, 0, none⟩)]] 126 ∧ Box wr W.heap.size x.vs 128 ∧ OwnI wr s0 (.slice A sg c) l0 ∧ FrB s0 W wr) (fun i _ => m - (intOf i).toNat)
    case atStart => exact ⟨0, Nat.zero_le _, rfl, by simpa [genK] using hja, hva, hbYa, hbFa, hbX, hoa, hfr⟩
    case round =>
      obtain ⟨k, hk, rfl, kj, kv, kY, kF, kX, ko, kf⟩ := hrel
      by_cases hlt : k < m
      · have hk6 : k < 6 := by omega
        have hsg6 : sg < 6 := by omega
        have c2 : wr.cell? ⟨b2, 0, none⟩ = some (.pointer (some ⟨B, 0, none⟩)) := kv.x2.cell 0 rfl
        have d0 : wr.cell? ⟨W.heap.size, 0, none⟩ = some (.int .u64 x.a) := kX.cell 0 rfl
        have d1 : wr.cell? ⟨W.heap.size, 1, none⟩ = some (.int .u64 x.b) := kX.cell 1 rfl
        have d2 : wr.cell? ⟨W.heap.size, 2, none⟩ = some (.int .u64 x.c) := kX.cell 2 rfl
        have d3 : wr.cell? ⟨W.heap.size, 3, none⟩ = some (.int .u64 x.d) := kX.cell 3 rfl
        have d4 : wr.cell? ⟨W.heap.size, 4, none⟩ = some (.int .u64 x.e) := kX.cell 4 rfl
        have d5 : wr.cell? ⟨W.heap.size, 5, none⟩ = some (.int .u64 x.f) := kX.cell 5 rfl
        have hk6' : (k : Int) < 6 := by omega
        gi_wp2
        obtain ⟨W1, hW1⟩ : ∃ W1, wr.alloc (.cells x.vs 128) = W1 := ⟨_, rfl⟩
        rw [show wr.alloc (.cells #[.int .u64 x.a, .int .u64 x.b, .int .u64 x.c, .int .u64 x.d, .int .u64 x.e, .int .u64 x.f] 128) = W1 from hW1]
        have hb1 : Below wr.heap.size wr W1 := by rw [← hW1]; exact (Below.refl _ _).alloc (Nat.le_refl _) _
        have hn1 : Box W1 wr.heap.size x.vs 128 := by rw [← hW1]; exact Box.new _ _ _
        have hv1 := kv.step hb1
        have hY1 := kY.step hb1
        have hF1 := kF.step hb1
        have hX1 := kX.step hb1
        have ho1 := ko.below' hb1
        have hj1 := hJs _ _ _ kj (.below hb1 kv.me)
        have hk1 : Kp M wr W1 := .of_below hb1
        have hmr := kv.me
        have hsr : s0 ≤ wr.heap.size := Nat.le_trans hs0 kf.size
        obtain ⟨N, hN⟩ : ∃ N, wr.heap.size = N := ⟨_, rfl⟩
        rw [hN] at hn1 hsr hb1 ⊢
        clear hW1 d0 d1 d2 d3 d4 d5 c2
        have f1 : W1.frozen? ⟨N, k, none⟩ = false := hn1.frozen k
        have e1 : W1.cell? ⟨N, k, none⟩ = some (.int .u64 (x.get k)) := hn1.cell k (L6.vs_get _ _ hk6)
        have hxk : x.get k < 2 ^ sg := hx k
        have hxk6 : x.get k < 64 := Nat.lt_of_lt_of_le hxk (by
          have : 2 ^ sg ≤ 2 ^ 6 := Nat.pow_le_pow_right (by decide) (by omega)
          omega)
        have hob := or_bits2 (x.get k) hxk6 sg hsg6
        have hn64 := (or_bits (x.get k) hxk6 sg hsg6).2
        obtain ⟨u, hu⟩ : ∃ u, x.get k = u := ⟨_, rfl⟩
        rw [hu] at e1 hxk hxk6 hob hn64
        refine wpIn_wide.2 ?_
        go_still_tail 7, (by kernel_rfl)
        go_wp2
        obtain ⟨q, hq⟩ : ∃ q, u ||| 2 ^ sg = q := ⟨_, rfl⟩
        rw [hq] at hn64 ⊢
        obtain ⟨W2, hW2⟩ : ∃ W2, (W1.setCell ⟨N, k, none⟩ (.int .u64 q)).drew = W2 := ⟨_, rfl⟩
        rw [hW2]
        have hNr : wr.heap.size = N := hN
        have hk2 : Kp M wr W2 := by
          rw [← hW2]
          refine ⟨hk1.os, hk1.tape, hk1.output, ?_, fun i hi hne => ?_⟩
          · have := hk1.size
            simpa [World.setCell] using this
          · exact (Below.heap_setCell W1 ⟨N, k, none⟩ _ i (by show i ≠ N; omega)).trans (hk1.block i hi hne)
        have hm2 : Memo W2 M F := by rw [← hW2]; exact (hv1.me.setCell hn1 k (.int .u64 q)).drew
        have hv2 := kv.kp hk2 hm2
        have hj2 := hJs _ _ _ kj ⟨hk2, hmr, hm2⟩
        have hY2 := hk2.boxm hmr kY
        have hF2 := hk2.boxm hmr kF
        have hX2 := hk2.boxm hmr kX
        have ho2 := ko.kp hmr hk2
        have hn2 : Box W2 N (x.put k q).vs 128 := by
          rw [← hW2, ← L6.vs_put _ _ hk6]
          exact (hn1.set k _).drew
        have hf2 : FrB s0 W W2 := kf.trans (FrB.kp hk2 hMs)
        have Hqx := Lib.hid (show q = x.get k ||| 2 ^ sg by rw [hu, hq])
        have hs2 : s0 ≤ W2.heap.size := Nat.le_trans hs0 hf2.size
        have hN2 : W.heap.size ≤ N := by rw [← hNr]; exact kf.size
        clear hW2 hn1 hb1 hv1 hY1 hF1 hX1 ho1 hj1 hk1 f1 e1 hob kj kv kY kF kX ko kf hk2 hmr
        clear W1
        have hbq : ∀ i ∈ bitsOf q, i < F.l.length := by
          have : q < 2 ^ (sg + 1) := by rw [← hq]; exact Nat.or_lt_two_pow (Nat.lt_of_lt_of_le hxk (Nat.pow_le_pow_right (by decide) (by omega))) (Nat.pow_lt_pow_right (by decide) (by omega))
          intro i hi
          have := bitsOf_below this i hi
          omega
        have hxk' := L6.Ok.put hx k hk6
        rw [hu, hq] at hxk'
        have hv2d : LInv F B M m b2 b3 G W2.drew := hv2.kp (Kp.drew _ _) hv2.me.drew
        have hT2 : TabW W2.drew := hv2d.tab
        have hfu2 : Fu W2.drew B M F := hv2d.fu
        have hm2d : Memo W2.drew M F := hv2d.me
        obtain ⟨fv, hfv⟩ : ∃ fv : Value, fv = .func (.func 95) #[] #[.pointer (some ⟨b2, 0, none⟩), .pointer (some ⟨by_, 0, none⟩), .pointer (some ⟨b3, 0, none⟩), .pointer (some ⟨bf, 0, none⟩)] := ⟨_, rfl⟩
        rw [← hfv] at hF2
        have hC : RegC b2 B bf N k q fv (x.put k q) W2.drew := RegC.of hk6 hv2.x2.drew hn2.drew hF2.drew
        obtain ⟨g, hg⟩ : ∃ g, goesB F q = g := ⟨_, rfl⟩
        have Hg := Lib.hid hg
        have Hfv := Lib.hid hfv
        clear hfv hg hu hq hN hNr
        gi_wp2
        refine wpIn_region_seqC 15 [(0, true), (1, true), (2, true), (3, true), (4, false), (5, true), (6, true), (7, true), (8, true), (9, true), (10, true), (11, true), (14, true), (12, false), (13, false)] (RegC b2 B bf N k q fv (x.put k q)) rfl (by kernel_rfl) (by intro c a d v w h; cases d <;> exact h) (by kernel_rfl) hC ?_
        iterate 4 (apply seqC_quiet rfl (fun _ => rfl) (by assumption); focus (intro K hK w' hw'; obtain ⟨g0, g1, g2, g3, g4, g5, g6, g7, g8⟩ := hw'; go_simp; exact hK))
        refine seqC_event rfl ?_
        gi_wp2_with fail
        refine ⟨trivial, rfl, ?_⟩
        refine (callsIn_wide.2 (goes_calls F hF q hn64 hbq B M _ hT2 hfu2 hm2d)).mono ?_
        rintro e w3 ⟨rfl, hm3, hk3⟩
        rw [Hg.out]
        have hkd : Kp M W2 w3 := (⟨rfl, rfl, rfl, Nat.le_refl _, fun _ _ _ => rfl⟩ : Kp M W2 W2.drew).trans hk3
        have hv3 := hv2d.kp hk3 hm3
        have hj3 := hJs _ _ _ hj2 ⟨hkd, hm2, hm3⟩
        have n3 := hkd.boxm hm2 hn2
        have F3 := hkd.boxm hm2 hF2
        have X3 := hkd.boxm hm2 hX2
        have Y3 := hkd.boxm hm2 hY2
        have o3 := ho2.kp hm2 hkd
        have hf3 : FrB s0 W w3 := hf2.trans (FrB.kp hkd hMs)
        have hC3 : RegC b2 B bf N k q fv (x.put k q) w3 := RegC.of hk6 hv3.x2 n3 F3
        have hs3 : s0 ≤ w3.heap.size := Nat.le_trans hs0 hf3.size
        clear hC hT2 hfu2 hm2d hm3 hk3 hkd hv2d hv2 hj2 hm2 hn2 hF2 hX2 hY2 ho2 hf2 hs2
        cases g with
        | false =>
          gi_wp2
          refine ⟨hC3, ?_⟩
          iterate 8 (apply seqC_quiet rfl (fun _ => rfl) (by assumption); focus (intro K hK w' hw'; obtain ⟨g0, g1, g2, g3, g4, g5, g6, g7, g8⟩ := hw'; go_simp; exact hK))
          refine seqC_skip rfl rfl rfl hC3 ?_
          refine seqC_skip rfl rfl rfl hC3 ?_
          show wpListIn _ _ _ _ _ _ _ _
          simp only [List.drop_succ_cons, List.drop_zero]
          refine wpListIn_skip rfl rfl ?_
          refine wpListIn_skip rfl rfl ?_
          gi_wp2
          go_roundw
          case rel => exact ⟨k + 1, by omega, by go_num, by rw [genK_succ, hsg, ← Hqx.out, Hg.out]; simpa using hj3, hv3, Y3, Hfv.out ▸ F3, X3, o3, hf3⟩
          case measure => simp [intOf]; omega
        | true =>
          gi_wp2
          refine ⟨hC3, ?_⟩
          have hsl := fun w => slice_run o3 w
          iterate 8 (apply seqC_quiet rfl (fun _ => rfl) (by assumption); focus (intro K hK w' hw'; obtain ⟨g0, g1, g2, g3, g4, g5, g6, g7, g8⟩ := hw'; go_simp; exact hK))
          obtain ⟨v5, w5, hrun, o5, hb5⟩ := append_full o3 hs3 (by omega) (k : Int)
          have hv5 := hv3.step hb5
          have hj5 := hJs _ _ _ hj3 (.below hb5 hv3.me)
          have n5 := n3.step hb5
          have F5 := F3.step hb5
          have X5 := X3.step hb5
          have Y5 := Y3.step hb5
          have hf5 : FrB s0 W w5 := hf3.trans (FrB.kp (.of_below hb5) hMs)
          have hC4 : RegC b2 B bf N k q fv (x.put k q) (w3.alloc (.cells #[.int .i64 k] 3)) := by
            have hv4 := hv3.step ((Below.refl _ _).alloc (Nat.le_refl _) (.cells #[.int .i64 k] 3))
            exact RegC.of hk6 hv4.x2 (n3.alloc _) (F3.alloc _)
          have hC5 : RegC b2 B bf N k q fv (x.put k q) w5 := RegC.of hk6 hv5.x2 n5 F5
          have hs5 : s0 ≤ w5.heap.size := Nat.le_trans hs0 hf5.size
          refine seqC_event rfl ?_
          gi_wp2
          refine ⟨hC4, ?_⟩
          refine seqC_event rfl ?_
          refine wpListIn_append_run _ rfl (.tmp 46) (.tmp 48) 25 rfl _ _ v5 w5 rfl rfl hrun ?_
          refine wpListIn_nil ⟨hC5, ?_⟩
          show wpListIn _ _ _ _ _ _ _ _
          simp only [List.drop_succ_cons, List.drop_zero]
          clear hC3 hC4 hC5 hrun hsl
          cases Hfv.out
          have ih' := ih (l0 ++ [(k : Int)]) (x.put k q) (pre ++ genK F m d l0 x k) v5 w5 (by simp; omega) (by simpa [hsg] using hxk') o5 hs5 hv5 Y5 F5 hj5 (by
            refine List.IsPrefix.trans ?_ hp
            rw [genL_succ, List.append_assoc]
            refine (List.prefix_append_right_inj _).2 ?_
            have := genK_prefix F m d l0 x (show k + 1 ≤ m by omega)
            rw [genK_succ, hsg, ← Hqx.out, Hg.out] at this
            simpa using this)
          have Ih := Lib.hid ih'
          clear ih' ih
          obtain ⟨y, hy⟩ : ∃ y, x.put k q = y := ⟨_, rfl⟩
          rw [hy] at Ih ⊢
          have hyv : Value.agg #[.int .u64 y.a, .int .u64 y.b, .int .u64 y.c, .int .u64 y.d, .int .u64 y.e, .int .u64 y.f] = .agg y.vs := rfl
          gi_wp2_with fail
          refine ⟨trivial, rfl, ?_⟩
          refine Ih.out.mono ?_
          rintro e w6 (⟨rfl, hj6, hv6, hf6⟩ | ⟨rfl, pre', hpp, hx6⟩)
          · gi_wp2
            go_roundw
            case rel => exact ⟨k + 1, by omega, by go_num, by rw [genK_succ, hsg, ← Hqx.out, Hg.out]; simpa [hy] using hj6, hv6, hf6.box Y5 hby, hf6.box F5 hbf, hf6.box X5 hs0, hf6.own (o3.below' hb5) (Nat.le_refl _), hf5.trans hf6⟩
            case measure => simp [intOf]; omega
          · gi_wp2
            go_ret
            exact .inr ⟨rfl, pre', hpp, hx6⟩
      · gi_wp2
        go_ret
        obtain rfl : k = m := by omega
        exact .inl ⟨rfl, by rw [genL_succ]; exact kj, kv, kf⟩
end Go.Proofs.YtbijamlgcebgeaaDoor.Hand

-- part IG
namespace Go.Proofs.YtbijamlgcebgeaaDoor.Hand
open Go.RowKit Go.Shelf Go.Sort Go.Proofs.YtbijamlgcebgeaaDoorW.PrintWords Go.Proofs.YtbijamlgcebgeaaDoorW.PrintMore Go.Proofs.YtbijamlgcebgeaaDoor.Q
theorem run_store_func {P : Program} {w : World} {a : Addr} {m : Mode} (f : Fn) (x y : Array Value) : (store a (.func f x y) m).run P w = stored P w a (.func f x y) m := run_store P w a _ m rfl
attribute [local go_sem] run_store_func
theorem OwnI.farLt {W : World} {n₀ : Nat} {v : Value} {xs : List Int} (h : OwnI W n₀ v xs) {b : Nat} (hb : b < n₀) (i : Nat) (u : Value) : OwnI (W.setCell ⟨b, i, none⟩ u) n₀ v xs := by
  refine ⟨h.1, ?_⟩
  rcases h.2 with h | ⟨g, cap, cur, rfl, hbg, hg, r⟩
  · exact .inl h
  · exact .inr ⟨g, cap, cur, rfl, hbg, (Below.heap_setCell W ⟨b, i, none⟩ u g (by show g ≠ b; omega)).trans hg, r⟩
def L6.zero : L6 := ⟨0, 0, 0, 0, 0, 0⟩
theorem L6.zero_ok : L6.zero.Ok 0 := fun i => by
  unfold L6.get L6.zero
  simp
/-- The lists of loads, in their order. -/
def listsL (F : Furn) (m : Nat) : List (List Int) := genL F m F.l.length [] L6.zero
set_option maxRecDepth 100000 in
set_option maxHeartbeats 2000000 in
theorem lists_iter (F : Furn) (hF : F.Ok) (B M m b2 b3 : Nat) (hm6 : m ≤ 6) (G : World → Prop) :
    IterF Tryd.prog 94 #[] #[.pointer (some ⟨b2, 0, none⟩), .pointer (some ⟨b3, 0, none⟩)] (LEnc (b3 + 1)) (LInv F B M m b2 b3 G) (LSt F M) (listsL F m) := by
  intro l J Jx Bf W hB hv hJs hJxs hY h0
  obtain ⟨Wa, hWa⟩ : ∃ Wa, (W.alloc (.cells #[.func (.yield l) #[] #[]] 125)).alloc (.cells #[.func (.func 95) #[] #[.pointer (some ⟨b2, 0, none⟩), .pointer (some ⟨W.heap.size, 0, none⟩), .pointer (some ⟨b3, 0, none⟩), .pointer (some ⟨W.heap.size + 1, 0, none⟩)]] 126) = Wa := ⟨_, rfl⟩
  have hba : Below W.heap.size W Wa := by rw [← hWa]; exact ((Below.refl _ _).alloc (Nat.le_refl _) _).alloc (by simp) _
  have hva := hv.step hba
  have hja : J [] Wa := hJs _ _ _ h0 (.below hba hv.me)
  have hbY : Box Wa W.heap.size #[.func (.yield l) #[] #[]] 125 := by rw [← hWa]; exact (Box.new _ _ _).alloc _
  have hbF : Box Wa (W.heap.size + 1) #[.func (.func 95) #[] #[.pointer (some ⟨b2, 0, none⟩), .pointer (some ⟨W.heap.size, 0, none⟩), .pointer (some ⟨b3, 0, none⟩), .pointer (some ⟨W.heap.size + 1, 0, none⟩)]] 126 := by rw [← hWa]; exact Box.new' _ _ _ (by simp)
  have hs : W.heap.size ≤ Wa.heap.size := hba.size
  have hcall := from_calls F hF B M m b2 b3 hm6 G l J Jx (listsL F m) Bf W.heap.size hB (by obtain ⟨es, c, h, _⟩ := hv.me; exact lt_of_block h) hv.x3.lt hJs hJxs hY W.heap.size (W.heap.size + 1) (Nat.le_refl _) (Nat.le_succ _) F.l.length [] L6.zero [] (.slice none 0 0) Wa (by simp) L6.zero_ok (OwnI.nil _ _) hs hva hbY hbF hja (by simp [listsL])
  have Hc := Lib.hid hcall
  have cF : Wa.cell? ⟨W.heap.size + 1, 0, none⟩ = some (.func (.func 95) #[] #[.pointer (some ⟨b2, 0, none⟩), .pointer (some ⟨W.heap.size, 0, none⟩), .pointer (some ⟨b3, 0, none⟩), .pointer (some ⟨W.heap.size + 1, 0, none⟩)]) := hbF.cell 0 rfl
  clear hcall hja hbY hbF hba hva
  refine callsIn_of_wp Tryd.func94 rfl trivial ?_
  simp only [Tryd.ntmps94, List.size_toArray, List.length_cons, List.length_nil, Nat.reduceAdd, Nat.reduceSub, Array.replicate_succ, Array.replicate_zero, List.push_toArray, List.append_toArray, List.nil_append, List.cons_append]
  gi_wp2_with fail
  refine ⟨trivial, rfl, ?_⟩
  refine Hc.out.mono ?_
  rintro e W2 (⟨rfl, hj, hv2, _⟩ | ⟨rfl, pre, hp, hx⟩)
  · clear cF hWa
    gi_wp2
    go_end0
    exact ⟨⟨_, rfl⟩, .inl ⟨by simpa [listsL] using hj, hv2⟩⟩
  · clear cF hWa
    gi_wp2
    go_end0
    exact ⟨⟨_, rfl⟩, .inr ⟨pre, hp, hx⟩⟩
set_option maxRecDepth 100000 in
theorem lists_calls (B m : Nat) (w : World) :
    Calls Tryd.prog 84 #[.pointer (some ⟨B, 0, none⟩), .int .i64 m] w fun e w' => e = .returned (.func (.func 94) #[] #[.pointer (some ⟨w.heap.size, 0, none⟩), .pointer (some ⟨w.heap.size + 1, 0, none⟩)]) ∧ Box w' w.heap.size #[.pointer (some ⟨B, 0, none⟩)] 91 ∧ Box w' (w.heap.size + 1) #[.int .i64 m] 3 ∧ Below w.heap.size w w' := by
  go_enter Tryd.func84, Tryd.ntmps84
  go_wp2
  go_ret
  exact ⟨rfl, (Box.new _ _ _).alloc _, Box.new' _ _ _ (by simp), ((Below.refl _ _).alloc (Nat.le_refl _) _).alloc (by simp) _⟩
end Go.Proofs.YtbijamlgcebgeaaDoor.Hand

-- part IH
namespace Go.Proofs.YtbijamlgcebgeaaDoor.Hand
open Go.RowKit Go.Shelf Go.Sort Go.Proofs.YtbijamlgcebgeaaDoorW.PrintWords Go.Proofs.YtbijamlgcebgeaaDoorW.PrintMore Go.Proofs.YtbijamlgcebgeaaDoor.Q
attribute [local go_sem] Oper.semAt_some
/-- Marks of loops that are done. -/
def Marks (B T : Nat) (ds : List Deferred) (W : World) : Prop :=
  ∃ Ds : List Nat, ds = Ds.map (fun D => ({ target := .collected D, args := #[] } : Deferred)) ∧ Ds.Nodup ∧ ∀ D ∈ Ds, B ≤ D ∧ D < T ∧ W.heap[D]? = some (.deferred (some []))
theorem Marks.nil (B T : Nat) (W : World) : Marks B T [] W := ⟨[], rfl, List.nodup_nil, fun _ h => by cases h⟩
theorem Marks.keep {B T : Nat} {ds : List Deferred} {X Y : World} (h : Marks B T ds X) (k : ∀ D, D < T → X.heap[D]? = some (.deferred (some [])) → Y.heap[D]? = some (.deferred (some []))) : Marks B T ds Y := by
  obtain ⟨Ds, h1, h2, h3⟩ := h
  exact ⟨Ds, h1, h2, fun D hD => ⟨(h3 D hD).1, (h3 D hD).2.1, k D (h3 D hD).2.1 (h3 D hD).2.2⟩⟩
theorem Marks.inert {B T : Nat} {ds : List Deferred} {X Y : World} (h : Marks B T ds X) (hi : Inert T X Y) : Marks B T ds Y := h.keep fun D hD hx => hi.keep D _ hx (.inl hD)
theorem Marks.book {B T : Nat} {ds : List Deferred} {X Y : World} (h : Marks B T ds X) (hk : KeepBk X Y) : Marks B T ds Y := h.keep fun D hD hx => hk D _ hx rfl
theorem Marks.cons {B T T' : Nat} {ds : List Deferred} {W : World} {D : Nat} (h : Marks B T ds W) (hB : B ≤ D) (hT : T ≤ D) (hT' : D < T') (hD : W.heap[D]? = some (.deferred (some []))) : Marks B T' ({ target := .collected D, args := #[] } :: ds) W := by
  obtain ⟨Ds, h1, h2, h3⟩ := h
  refine ⟨D :: Ds, by rw [h1]; rfl, List.nodup_cons.2 ⟨fun hm => by have := (h3 D hm).2.1; omega, h2⟩, fun E hE => ?_⟩
  rcases List.mem_cons.1 hE with rfl | hE
  · exact ⟨hB, hT', hD⟩
  · exact ⟨(h3 E hE).1, by have := (h3 E hE).2.1; omega, (h3 E hE).2.2⟩
theorem OwnI.drew {W : World} {n₀ : Nat} {v : Value} {xs : List Int} (h : OwnI W n₀ v xs) : OwnI W.drew n₀ v xs := h
theorem Inert.trans {B : Nat} {X Y Z : World} (h : Inert B X Y) (k : Inert B Y Z) : Inert B X Z :=
  ⟨k.os.trans h.os, k.tape.trans h.tape, k.output.trans h.output, Nat.le_trans h.size k.size, fun i o hi hb => k.keep i o (h.keep i o hi hb) hb⟩
theorem Inert.refl (B : Nat) (W : World) : Inert B W W := ⟨rfl, rfl, rfl, Nat.le_refl _, fun _ _ h _ => h⟩
theorem leaveMs {P : Program} {fn : Func} {tmps : Array Value} {R : Ending → World → Prop} {B T : Nat} : ∀ (ds : List Deferred) (W : World), Marks B T ds W →
    (∀ W', Inert B W W' → ∃ v, (results fn tmps).run P W' = .ok v W' ∧ R (.returned v) W') → LeavesInM FW 0 P fn tmps R ds .returning W := by
  intro ds W h
  obtain ⟨Ds, rfl, h2, h3⟩ := h
  induction Ds generalizing W with
  | nil => 
    intro hf
    obtain ⟨v, h1, h2⟩ := hf W (.refl _ _)
    exact ⟨v, h1, h2⟩
  | cons D Ds ih =>
    intro hf
    have hD := h3 D (by simp)
    have hn := List.nodup_cons.1 h2
    refine ⟨by simp, .inl ⟨D, _, rfl, run_takeDeferred hD.2.2, ih _ hn.2 (fun E hE => ?_) (fun W' hi => hf W' ((Inert.putObj hD.2.2 hD.1 rfl).trans hi))⟩⟩
    have hE' := h3 E (by simp [hE])
    exact ⟨hE'.1, hE'.2.1, (World.putObj_heap_other (fun (e : E = D) => hn.1 (by rw [← e]; exact hE))).trans hE'.2.2⟩
/-- The fewest loads, and how many there are. -/
def fewestO (F : Furn) (k : Nat) : Option (List Int × Nat) := (List.range k).findSome? fun m => (listsL F m).head?.map fun l => (l, m)
theorem fewestO_succ (F : Furn) (k : Nat) (h : fewestO F k = none) : fewestO F (k + 1) = (listsL F k).head?.map fun l => (l, k) := by
  unfold fewestO at *
  rw [List.range_succ, List.findSome?_append, h]
  simp
theorem fewestO_le (F : Furn) {k n : Nat} (hk : k ≤ n) {r : List Int × Nat} (h : fewestO F k = some r) : fewestO F n = some r := by
  induction n with
  | zero => have : k = 0 := by omega
            subst this; exact h
  | succ n ih =>
    by_cases e : k = n + 1
    · subst e; exact h
    · have := ih (by omega)
      unfold fewestO at *
      rw [List.range_succ, List.findSome?_append, this]
      rfl
def fewestB (F : Furn) : List Int × Nat × Bool := match fewestO F (F.l.length + 1) with
  | none => ([], 0, false)
  | some (l, m) => (l, m, true)
set_option maxRecDepth 100000 in
set_option maxHeartbeats 2000000 in
theorem fewest_calls (F : Furn) (hF : F.Ok) (B M : Nat) (w : World) (hT : TabW w) (hf : Fu w B M F) (hm : Memo w M F) :
    Calls Tryd.prog 75 #[.pointer (some ⟨B, 0, none⟩)] w fun e w' => ∃ v, e = .returned (.tuple #[v, .int .i64 (fewestB F).2.1, .bool (fewestB F).2.2]) ∧ OwnI w' w.heap.size v (fewestB F).1 ∧ Memo w' M F ∧ Kp M w w' := by
  obtain ⟨n, hn⟩ : ∃ n, F.l.length = n := ⟨_, rfl⟩
  have hn6 : n ≤ 6 := by rw [← hn]; exact hF.len
  have hMw : M < w.heap.size := by obtain ⟨es, c, h, _⟩ := hm; exact lt_of_block h
  have hres : ∀ (t : Array Value) (W : World) (v v1 v2 : Value), t.getD 2 undef = .pointer (some ⟨w.heap.size, 0, none⟩) → t.getD 3 undef = .pointer (some ⟨w.heap.size + 1, 0, none⟩) → t.getD 4 undef = .pointer (some ⟨w.heap.size + 2, 0, none⟩) →
      Box W w.heap.size #[v] 25 → Box W (w.heap.size + 1) #[v1] 3 → Box W (w.heap.size + 2) #[v2] 4 → (results Tryd.f75 t).run Tryd.prog W = .ok (.tuple #[v, v1, v2]) W := by
    intro t W v v1 v2 h1 h2 h3 b1 b2 b3
    have d0 : W.cell? ⟨w.heap.size, 0, none⟩ = some v := b1.cell 0 rfl
    have d1 : W.cell? ⟨w.heap.size + 1, 0, none⟩ = some v1 := b2.cell 0 rfl
    have d2 : W.cell? ⟨w.heap.size + 2, 0, none⟩ = some v2 := b3.cell 0 rfl
    simp only [Array.getD_eq_getD_getElem?] at h1 h2 h3
    clear b1 b2 b3
    simp [results, Tryd.results75, go_sem, h1, h2, h3, d0, d1, d2]
  obtain ⟨Wa, hWa⟩ : ∃ Wa, ((w.alloc (.cells #[.slice none 0 0] 25)).alloc (.cells #[.int .i64 0] 3)).alloc (.cells #[.bool false] 4) = Wa := ⟨_, rfl⟩
  have hba : Below w.heap.size w Wa := by rw [← hWa]; exact (((Below.refl _ _).alloc (Nat.le_refl _) _).alloc (by simp) _).alloc (by simp; omega) _
  have x1 : Box Wa w.heap.size #[.slice none 0 0] 25 := by rw [← hWa]; exact ((Box.new _ _ _).alloc _).alloc _
  have x2 : Box Wa (w.heap.size + 1) #[.int .i64 0] 3 := by rw [← hWa]; exact (Box.new' _ _ _ (by simp)).alloc _
  have x3 : Box Wa (w.heap.size + 2) #[.bool false] 4 := by rw [← hWa]; exact Box.new' _ _ _ (by simp)
  have hsz : w.heap.size + 3 ≤ Wa.heap.size := by rw [← hWa]; simp
  obtain ⟨A, c, hB, hC⟩ := hf.below hba
  have b5 : Wa.cell? ⟨B, 5, none⟩ = some (.slice A F.l.length c) := hB.cell 5 rfl
  rw [hn] at b5
  have hqa : Kq M F w Wa := (Kq.start hm).step hba
  clear hB hC
  refine (callsIn_wide (n := 0)).1 ?_
  refine callsIn_of_wp_marks Tryd.func75 rfl trivial ?_
  simp only [Tryd.ntmps75, List.size_toArray, List.length_cons, List.length_nil, Nat.reduceAdd, Nat.reduceSub, Array.replicate_succ, Array.replicate_zero, List.push_toArray, List.append_toArray, List.nil_append, List.cons_append]
  gi_wp2
  clear hWa b5 hba
  refine wpIn_loop (fun a' W => ∃ (k : Nat) (u5 u6 u14 u15 u16 u17 u18 u19 u20 u21 u22 : Value) (ds : List Deferred), a' = { tmps := #[.pointer (some ⟨B, 0, none⟩), undef, .pointer (some ⟨w.heap.size, 0, none⟩), .pointer (some ⟨w.heap.size + 1, 0, none⟩), .pointer (some ⟨w.heap.size + 1 + 1, 0, none⟩), u5, u6, .pointer (some ⟨B, 0, none⟩), .pointer (some ⟨B, 0, none⟩), .pointer (some ⟨B, 5, none⟩), .slice A n c, .int .i64 n, .int .i64 (n + 1), .int .i64 k, u14, u15, u16, u17, u18, u19, u20, u21, u22], defers := ds } ∧ k ≤ n + 1 ∧ Marks (w.heap.size + 3) W.heap.size ds W ∧ Box W w.heap.size #[.slice none 0 0] 25 ∧ Box W (w.heap.size + 1) #[.int .i64 0] 3 ∧ Box W (w.heap.size + 2) #[.bool false] 4 ∧ Kq M F w W ∧ w.heap.size + 3 ≤ W.heap.size ∧ Hid (fewestO F k = none))
    (fun a' _ => n + 1 - (intOf (a'.tmps.getD 13 undef)).toNat) ?start ?round
  case start => exact ⟨0, _, _, _, _, _, _, _, _, _, _, _, _, rfl, Nat.zero_le _, Marks.nil _ _ _, x1, x2, x3, hqa, hsz, Lib.hid rfl⟩
  case round =>
    rintro a' wr ⟨k, u5, u6, u14, u15, u16, u17, u18, u19, u20, u21, u22, ds, rfl, hk, hmk, x1, x2, x3, hq, hsz, hno⟩
    by_cases hlt : k < n + 1
    · obtain ⟨W1, hW1⟩ : ∃ W1, wr.alloc (.cells #[.int .i64 k] 3) = W1 := ⟨_, rfl⟩
      have hb1 : Below wr.heap.size wr W1 := by rw [← hW1]; exact (Below.refl _ _).alloc (Nat.le_refl _) _
      have x5 : Box W1 wr.heap.size #[.int .i64 k] 3 := by rw [← hW1]; exact Box.new _ _ _
      have c5 : W1.cell? ⟨wr.heap.size, 0, none⟩ = some (.int .i64 k) := x5.cell 0 rfl
      have hlc := Lib.hid (lists_calls B k W1)
      gi_wp2_with fail
      refine ⟨trivial, rfl, ?_⟩
      refine (callsIn_wide.2 hlc.out).mono ?_
      rintro e w2 ⟨rfl, y2, y3, hb2⟩
      have hb12 : Below wr.heap.size wr w2 := hb1.trans (hb2.mono hb1.size)
      have hq2 := hq.step hb12
      have hm2 := hmk.book (KeepBk.of_below hb12)
      have z1 := x1.step hb12
      have z2 := x2.step hb12
      have z3 := x3.step hb12
      have z5 := x5.step hb2
      have hsz1 : wr.heap.size < W1.heap.size := x5.lt
      have hsz2 : W1.heap.size + 1 < w2.heap.size := y3.lt
      obtain ⟨bx, hbx⟩ : ∃ bx, wr.heap.size = bx := ⟨_, rfl⟩
      obtain ⟨b2, hb2x⟩ : ∃ b2, W1.heap.size = b2 := ⟨_, rfl⟩
      rw [hbx] at z5 hsz1 hm2 hsz
      rw [hb2x] at y2 y3 hsz1 hsz2
      rw [hbx, hb2x]
      clear hb12 hb2 hb1 hmk x1 x2 x3 x5 c5 hq hbx hb2x hW1 hlc
      clear W1 wr
      gi_wp2
      refine wpIn_rangeF (gf := 94) (first := #[]) (lb := #[.pointer (some ⟨b2, 0, none⟩), .pointer (some ⟨b2 + 1, 0, none⟩)]) rfl (enters_of Tryd.func94 (by kernel_rfl) rfl) (lists_iter F hF B M k b2 (b2 + 1) (by omega) (Kq M F w)) (by rintro x args W ⟨v, rfl, _⟩; rfl) (fun X Y h hi => ⟨h.gr, h.g.inert hi hq2.k.size, (h.g.inert hi hq2.k.size).m, hi.box h.x2, hi.box h.x3⟩) (fun X Y h => KeepBk.kp h.2.1 h.1)
        (fun pre W => pre = [] ∧ Box W w.heap.size #[.slice none 0 0] 25 ∧ Box W (w.heap.size + 1) #[.int .i64 0] 3 ∧ Box W (w.heap.size + 2) #[.bool false] 4 ∧ Box W bx #[.int .i64 k] 3 ∧ Kq M F w W ∧ Marks (w.heap.size + 3) bx ds W)
        (fun c pre W => c = .ret ∧ ∃ x v, pre = [x] ∧ OwnI W w.heap.size v x ∧ Box W w.heap.size #[v] 25 ∧ Box W (w.heap.size + 1) #[.int .i64 k] 3 ∧ Box W (w.heap.size + 2) #[.bool true] 4 ∧ Kq M F w W ∧ Marks (w.heap.size + 3) bx ds W)
        (fun pre X Y ⟨h0, h1, h2, h3, h5, h4, h6⟩ hi => ⟨h0, hi.box h1, hi.box h2, hi.box h3, hi.box h5, h4.inert hi hq2.k.size, h6.keep fun D hD hx => hi.keep D _ hx (.inl (by omega))⟩)
        (fun pre X Y ⟨h0, h1, h2, h3, h5, h4, h6⟩ st => ⟨h0, st.1.boxm st.2.1 h1, st.1.boxm st.2.1 h2, st.1.boxm st.2.1 h3, st.1.boxm st.2.1 h5, h4.kp st.1 st.2.2, h6.book (KeepBk.kp st.2.1 st.1)⟩)
        (fun c pre X Y ⟨h0, x, v, h1, h2, h3, h5, h6, h4, h7⟩ hi => ⟨h0, x, v, h1, h2.inert hi, hi.box h3, hi.box h5, hi.box h6, h4.inert hi hq2.k.size, h7.keep fun D hD hx => hi.keep D _ hx (.inl (by omega))⟩)
        (fun c pre X Y ⟨h0, x, v, h1, h2, h3, h5, h6, h4, h7⟩ st => ⟨h0, x, v, h1, h2.kp st.2.1 st.1, st.1.boxm st.2.1 h3, st.1.boxm st.2.1 h5, st.1.boxm st.2.1 h6, h4.kp st.1 st.2.2, h7.book (KeepBk.kp st.2.1 st.1)⟩)
        ⟨rfl, z1, z2, z3, z5, hq2, hm2⟩ ⟨Kq.gr hT hf hm, hq2, hq2.m, y2, y3⟩
        (fun x a' W => ∃ v, OwnI W (b2 + 1 + 1) v x ∧ a' = { tmps := #[.pointer (some ⟨B, 0, none⟩), undef, .pointer (some ⟨w.heap.size, 0, none⟩), .pointer (some ⟨w.heap.size + 1, 0, none⟩), .pointer (some ⟨w.heap.size + 1 + 1, 0, none⟩), .pointer (some ⟨bx, 0, none⟩), v, .pointer (some ⟨B, 0, none⟩), .pointer (some ⟨B, 0, none⟩), .pointer (some ⟨B, 5, none⟩), .slice A n c, .int .i64 n, .int .i64 (n + 1), .int .i64 k, .bool true, .int .i64 k, .pointer (some ⟨B, 0, none⟩), .int .i64 k, .func (.func 94) #[] #[.pointer (some ⟨b2, 0, none⟩), .pointer (some ⟨b2 + 1, 0, none⟩)], v, u20, u21, u22], defers := [] })
        (fun x a' X Y ⟨v, h1, h2⟩ hi => ⟨v, h1.inert hi, h2⟩) ?assign ?body ?done ?stop
      case assign =>
        rintro l pre x args W K ⟨h0, h1, h2, h3, h5, h4, h6⟩ hv hp ⟨v, rfl, ho⟩ hK
        gi_wp2
        exact hK _ _ (KeepBk.refl _) (FrB.refl _ _) ⟨h0, h1, h2, h3, h5, h4, h6⟩ hv ⟨v, ho, rfl⟩
      case body =>
        rintro l pre x a' W hl ⟨r₀, hr⟩ ⟨h0, h1, h2, h3, h5, h4, h6⟩ hv hp ⟨v, ho, rfl⟩
        obtain ⟨Av, cv, rfl⟩ := ho.slice
        obtain ⟨m, hm'⟩ : ∃ m, x.length = m := ⟨_, rfl⟩
        rw [hm'] at ho
        rw [hm']
        clear hm'
        have c5 : W.cell? ⟨bx, 0, none⟩ = some (.int .i64 k) := h5.cell 0 rfl
        have c0 : W.cell? ⟨w.heap.size, 0, none⟩ = some (.slice none 0 0) := h1.cell 0 rfl
        have c1 : W.cell? ⟨w.heap.size + 1, 0, none⟩ = some (.int .i64 0) := h2.cell 0 rfl
        have c2 : W.cell? ⟨w.heap.size + 1 + 1, 0, none⟩ = some (.bool false) := h3.cell 0 rfl
        have f0 : W.frozen? ⟨w.heap.size, 0, none⟩ = false := h1.frozen 0
        have f1 : W.frozen? ⟨w.heap.size + 1, 0, none⟩ = false := h2.frozen 0
        have f2 : W.frozen? ⟨w.heap.size + 1 + 1, 0, none⟩ = false := h3.frozen 0
        gi_wp2
        refine wpIn_region_ssa 2 [0, 1] [W.drew.setCell ⟨w.heap.size, 0, none⟩ (.slice Av m cv), (W.drew.setCell ⟨w.heap.size, 0, none⟩ (.slice Av m cv)).setCell ⟨w.heap.size + 1, 0, none⟩ (.int .i64 k), ((W.drew.setCell ⟨w.heap.size, 0, none⟩ (.slice Av m cv)).setCell ⟨w.heap.size + 1, 0, none⟩ (.int .i64 k)).setCell ⟨w.heap.size + 1 + 1, 0, none⟩ (.bool true)] (by kernel_rfl) (fun ⟨_, _, h⟩ => h) rfl (by kernel_rfl) ?_
        simp only [List.take_succ_cons, List.take_zero, List.drop_succ_cons, List.drop_zero, List.zip_cons_cons, List.zip_nil_left, List.zip_nil_right]
        (refine ssa_step (fun K hK => ?_); simp only [wsF_zero]; go_simp; refine hK _ _ (fun s h1 h2 => absurd h1 (by omega)) ?_; clear hK K)
        (refine ssa_step (fun K hK => ?_); simp only [wsF_zero]; go_simp; refine hK _ _ (fun s h1 h2 K2 hK2 => ?_) ?_; (focus (have hs := Nat.le_antisymm h2 h1; subst hs; simp only [wsF_one]; go_simp; exact hK2)); clear hK K)
        refine ⟨⟨⟨rfl, ?_⟩, ⟨rfl, ?_⟩, ⟨rfl, ?_⟩, trivial⟩, ?_⟩
        · go_simp
        · go_simp
        · go_simp
        simp only [List.length_cons, List.length_nil, wsF_succ, wsF_zero]
        have h1' := (((h1.drew.set 0 (.slice Av m cv)).other (b' := w.heap.size + 1) (by omega) 0 (.int .i64 k)).other (b' := w.heap.size + 1 + 1) (by omega) 0 (.bool true))
        have h2' := (((h2.drew.other (b' := w.heap.size) (by omega) 0 (.slice Av m cv)).set 0 (.int .i64 k)).other (b' := w.heap.size + 1 + 1) (by omega) 0 (.bool true))
        have h3' := (((h3.drew.other (b' := w.heap.size) (by omega) 0 (.slice Av m cv)).other (b' := w.heap.size + 1) (by omega) 0 (.int .i64 k)).set 0 (.bool true))
        have q1 := h4.drew.setCell (b := w.heap.size) (Nat.le_refl _) h1.drew 0 (.slice Av m cv)
        have q2 := q1.setCell (b := w.heap.size + 1) (by omega) (h2.drew.other (b' := w.heap.size) (by omega) 0 (.slice Av m cv)) 0 (.int .i64 k)
        have q3 := q2.setCell (b := w.heap.size + 1 + 1) (by omega) ((h3.drew.other (b' := w.heap.size) (by omega) 0 (.slice Av m cv)).other (b' := w.heap.size + 1) (by omega) 0 (.int .i64 k)) 0 (.bool true)
        have ho3 : OwnI (((W.drew.setCell ⟨w.heap.size, 0, none⟩ (.slice Av m cv)).setCell ⟨w.heap.size + 1, 0, none⟩ (.int .i64 k)).setCell ⟨w.heap.size + 1 + 1, 0, none⟩ (.bool true)) w.heap.size (.slice Av m cv) x := (((ho.drew.farLt (by omega) 0 _).farLt (by omega) 0 _).farLt (by omega) 0 _).lower (by omega)
        have kk : KeepBk W (((W.drew.setCell ⟨w.heap.size, 0, none⟩ (.slice Av m cv)).setCell ⟨w.heap.size + 1, 0, none⟩ (.int .i64 k)).setCell ⟨w.heap.size + 1 + 1, 0, none⟩ (.bool true)) := (KeepBk.drew W).trans ((KeepBk.setCell _ _ _).trans ((KeepBk.setCell _ _ _).trans (KeepBk.setCell _ _ _)))
        have h7 := h6.book kk
        gi_wp2
        exact ⟨kk, rfl, x, _, by rw [h0]; rfl, ho3, h1', h2', h3', q3, h7⟩
      case done =>
        rintro D W hD ⟨h0, h1, h2, h3, h5, h4, h6⟩ hv hK
        have hxs : listsL F k = [] := h0
        have hno2 : Hid (fewestO F (k + 1) = none) := Lib.hid (by rw [fewestO_succ F k hno.out, hxs]; rfl)
        gi_wp2
        refine ⟨⟨k + 1, _, _, _, _, _, _, _, _, _, _, _, _, rfl, by omega, Marks.cons (T := bx) h6 (by omega) (by omega) (lt_of_block hK) hK, h1, h2, h3, h4, by have := h3.lt; omega, hno2⟩, ?_⟩
        simp [intOf]
        omega
      case stop =>
        rintro D c pre W hD hpre ⟨rfl, x, v, h1, h2, h3, h5, h6, h4, h7⟩ hK
        have hfin : Hid (fewestB F = (x, k, true)) := Lib.hid (by
          have hne : (listsL F k).head? = some x := by
            rw [h1] at hpre
            obtain ⟨z, hz⟩ := hpre
            rw [← hz]
            rfl
          have h8 := fewestO_succ F k hno.out
          rw [hne] at h8
          have h9 := fewestO_le F (n := n + 1) (by omega) h8
          unfold fewestB
          rw [hn, h9])
        gi_wp2
        refine leaveMs (B := w.heap.size + 3) (T := D + 1) _ W (Marks.cons (T := bx) (h7) (by omega) (by omega) (by omega) hK) (fun W' hi => ⟨_, hres _ W' _ _ _ rfl rfl rfl (hi.box h3) (hi.box h5) (hi.box h6), ?_⟩)
        have h4' := h4.inert hi (by omega)
        rw [hfin.out]
        exact ⟨v, rfl, h2.inert hi, h4'.m, h4'.k⟩
    · have hge : decide ((k : Int) < (n : Int) + 1) = false := by simp; omega
      have c0 : wr.cell? ⟨w.heap.size, 0, none⟩ = some (.slice none 0 0) := x1.cell 0 rfl
      have c1 : wr.cell? ⟨w.heap.size + 1, 0, none⟩ = some (.int .i64 0) := x2.cell 0 rfl
      have c2 : wr.cell? ⟨w.heap.size + 1 + 1, 0, none⟩ = some (.bool false) := x3.cell 0 rfl
      have f0 : wr.frozen? ⟨w.heap.size, 0, none⟩ = false := x1.frozen 0
      have f1 : wr.frozen? ⟨w.heap.size + 1, 0, none⟩ = false := x2.frozen 0
      have f2 : wr.frozen? ⟨w.heap.size + 1 + 1, 0, none⟩ = false := x3.frozen 0
      have g1 := (((x1.set 0 (.slice none 0 0)).other (b' := w.heap.size + 1) (by omega) 0 (.int .i64 0)).other (b' := w.heap.size + 1 + 1) (by omega) 0 (.bool false))
      have g2 := (((x2.other (b' := w.heap.size) (by omega) 0 (.slice none 0 0)).set 0 (.int .i64 0)).other (b' := w.heap.size + 1 + 1) (by omega) 0 (.bool false))
      have g3 := (((x3.other (b' := w.heap.size) (by omega) 0 (.slice none 0 0)).other (b' := w.heap.size + 1) (by omega) 0 (.int .i64 0)).set 0 (.bool false))
      have q1 := hq.setCell (b := w.heap.size) (Nat.le_refl _) x1 0 (.slice none 0 0)
      have q2 := q1.setCell (b := w.heap.size + 1) (by omega) (x2.other (b' := w.heap.size) (by omega) 0 (.slice none 0 0)) 0 (.int .i64 0)
      have q3 := q2.setCell (b := w.heap.size + 1 + 1) (by omega) ((x3.other (b' := w.heap.size) (by omega) 0 (.slice none 0 0)).other (b' := w.heap.size + 1) (by omega) 0 (.int .i64 0)) 0 (.bool false)
      have kk : KeepBk wr (((wr.setCell ⟨w.heap.size, 0, none⟩ (.slice none 0 0)).setCell ⟨w.heap.size + 1, 0, none⟩ (.int .i64 0)).setCell ⟨w.heap.size + 1 + 1, 0, none⟩ (.bool false)) := (KeepBk.setCell _ _ _).trans ((KeepBk.setCell _ _ _).trans (KeepBk.setCell _ _ _))
      have hmk2 := hmk.book kk
      have hfin : Hid (fewestB F = ([], 0, false)) := Lib.hid (by
        have e : k = n + 1 := by omega
        have h8 := hno.out
        rw [e] at h8
        unfold fewestB
        rw [hn, h8])
      gi_wp2
      refine leaveMs (B := w.heap.size + 3) _ _ hmk2 (fun W' hi => ⟨_, hres _ W' _ _ _ rfl rfl rfl (hi.box g1) (hi.box g2) (hi.box g3), ?_⟩)
      have h4' := q3.inert hi (by omega)
      rw [hfin.out]
      exact ⟨_, rfl, OwnI.nil _ _, h4'.m, h4'.k⟩
end Go.Proofs.YtbijamlgcebgeaaDoor.Hand

-- part II
namespace Go.Proofs.YtbijamlgcebgeaaDoor.Hand
open Go.RowKit Go.Shelf Go.Sort Go.Proofs.YtbijamlgcebgeaaDoorW.PrintWords Go.Proofs.YtbijamlgcebgeaaDoorW.PrintMore Go.Proofs.YtbijamlgcebgeaaDoor.Q
/-- What Loads returns. -/
def loadsR (a b c d e : Int) (l : List S74) : List Int × Int :=
  match newR a b c d e l [] with
  | .error x => ([], x)
  | .ok _ => if (fewestB (mkF a b c d e l)).2.2 = true then ((fewestB (mkF a b c d e l)).1, 0) else ([], 7)
set_option maxRecDepth 100000 in
set_option maxHeartbeats 1000000 in
theorem loads_exp (a b c d e : Int) (l : List S74) (A1 : Option Addr) (c1 : Nat) (w : World) (hT : TabW w) (hr1 : Kd.C k74 w A1 l.length l) :
    Calls Tryd.prog 31 #[.agg #[.int .i64 a, .int .i64 b, .int .i64 c, .int .i64 d, .int .i64 e], .slice A1 l.length c1] w fun e_ w' => ∃ v0_ : Value, e_ = .returned (.tuple #[v0_, .int .i64 (loadsR a b c d e l).2]) ∧ Kd.R (Kd.int .i64) 3 w' w.heap.size (fun _ => True) v0_ (loadsR a b c d e l).1 ∧ Below w.heap.size w w' := by
  obtain ⟨r, hr⟩ : ∃ r, newR a b c d e l [] = r := ⟨_, rfl⟩
  have hnew := new0_calls a b c d e l A1 c1 (w.alloc (.cells #[.int .i64 a, .int .i64 b, .int .i64 c, .int .i64 d, .int .i64 e] 23)) (Kd.C_alloc hr1 _)
  rw [hr] at hnew
  have Hnew := Lib.hid hnew
  clear hnew
  cases r with
  | error x =>
    have hx := newR_err hr
    have h1 : (x != 0) = true := by simp [hx]
    have hg : Hid (loadsR a b c d e l = ([], x)) := Lib.hid (by unfold loadsR; rw [hr])
    rw [hg.out]
    clear hg hr hx
    go_enter Tryd.func31, Tryd.ntmps31
    go_wp2_with fail
    refine Hnew.out.mono ?_
    rintro e_ w1 ⟨rfl, hb1⟩
    go_wp2
    go_ret2
    exact ⟨_, rfl, Kd.R_nil _ _ _ _ _, ((Below.refl _ _).alloc (Nat.le_refl _) _).trans (hb1.mono (by simp))⟩
  | ok s =>
    have hF := check_ok (newR_ok hr).1
    have hg : loadsR a b c d e l = if (fewestB (mkF a b c d e l)).2.2 = true then ((fewestB (mkF a b c d e l)).1, 0) else ([], 7) := by unfold loadsR; rw [hr]
    obtain ⟨q, hq⟩ : ∃ q, loadsR a b c d e l = q := ⟨_, rfl⟩
    rw [hq] at hg ⊢
    obtain ⟨q1, q2⟩ := q
    clear hr hr1 hq
    generalize mkF a b c d e l = F at *
    obtain ⟨fe, hfe⟩ : ∃ fe, fewestB F = fe := ⟨_, rfl⟩
    rw [hfe] at hg
    obtain ⟨f1, f2, f3⟩ := fe
    have Hfe := Lib.hid hfe
    have Hg := Lib.hid hg
    clear hg hfe
    go_enter Tryd.func31, Tryd.ntmps31
    go_wp2_with fail
    refine Hnew.out.mono ?_
    rintro e_ w1 ⟨v, rfl, hs, B, M, rfl, hB, hM, hfu, hme, hb1⟩
    have hB1 : Below w.heap.size w w1 := ((Below.refl _ _).alloc (Nat.le_refl _) _).trans (hb1.mono (by simp))
    have hT1 : TabW w1 := (hT.alloc _).below hb1
    have hMw0 : w.heap.size ≤ M := by simp at hM; omega
    clear Hnew hb1 hB hM
    go_wp2_with fail
    refine (fewest_calls F hF B M _ hT1 hfu hme).mono ?_
    rintro e_ w2 ⟨v, rfl, ho, hm2, hk2⟩
    rw [Hfe.out] at ho ⊢
    have hB2 : Below w.heap.size w w2 := Below.kp hB1 hk2 hMw0 hB1.size
    have Ho := Lib.hid ho
    clear ho hm2 hk2
    cases f3 with
    | false =>
      obtain ⟨rfl, rfl⟩ : q1 = [] ∧ q2 = 7 := by simpa using Hg.out
      go_wp2
      go_ret2
      exact ⟨_, rfl, Kd.R_nil _ _ _ _ _, hB2⟩
    | true =>
      obtain ⟨rfl, rfl⟩ : q1 = f1 ∧ q2 = 0 := by simpa using Hg.out
      go_wp2
      go_ret2
      exact ⟨_, rfl, Kd.R_lower Ho.out.R hB1.size, hB2⟩
end Go.Proofs.YtbijamlgcebgeaaDoor.Hand

-- part IJ
namespace Go.Proofs.YtbijamlgcebgeaaDoor.Hand
open Go.RowKit Go.Shelf Go.Sort Go.Proofs.YtbijamlgcebgeaaDoorW.PrintWords Go.Proofs.YtbijamlgcebgeaaDoorW.PrintMore Go.Proofs.YtbijamlgcebgeaaDoor.Q
theorem size74 : ∃ i, Tryd.prog.info? 74 = some i ∧ i.size = 6 := by
  obtain ⟨i, h1, h2⟩ := Option.map_eq_some_iff.1 info74
  simp only [Prod.mk.injEq] at h2
  exact ⟨i, h1, h2.2.1⟩
theorem sl_a (A : Option Addr) (n c i : Nat) (hi : i < n) (hn : n ≤ c) (hc : c ≤ maxLen) (w : World) :
    (Instr.slice 24 (.slice A n c) (some (.int .i64 i)) (some (.int .i64 ((i : Int) + 1))) (some (.int .i64 n))).run Tryd.prog w = .ok (.slice (if n = i then A else A.map (·.add (i * 6))) 1 (n - i)) w := by
  unfold maxLen at hc
  obtain ⟨i6, hi6, hz6⟩ := size74
  unfold Instr.slice
  simp [go_sem, run_underlying Tryd.underlying24, Instr.sliceBounds, Instr.sliceBound, sizeOf, typeInfo, hi6, hz6]
  rw [if_pos hn, if_pos (by omega)]
theorem sl_b (g n c i : Nat) (hi : i < n) (hn : n ≤ c) (hc : c ≤ maxLen) (w : World) :
    (Instr.slice 24 (.slice (some ⟨g, 0, none⟩) n c) none (some (.int .i64 i)) none).run Tryd.prog w = .ok (.slice (some ⟨g, 0, none⟩) i c) w := by
  unfold maxLen at hc
  obtain ⟨i6, hi6, hz6⟩ := size74
  unfold Instr.slice
  simp [go_sem, run_underlying Tryd.underlying24, Instr.sliceBounds, Instr.sliceBound, sizeOf, typeInfo, hi6, hz6]
  intro h; omega
theorem sl_c (A : Option Addr) (n c i : Nat) (hi : i < n) (hn : n ≤ c) (hc : c ≤ maxLen) (w : World) :
    (Instr.slice 24 (.slice A n c) (some (.int .i64 ((i : Int) + 1))) none none).run Tryd.prog w = .ok (.slice (if c = i + 1 then A else A.map (·.add ((i + 1) * 6))) (n - (i + 1)) (c - (i + 1))) w := by
  unfold maxLen at hc
  obtain ⟨i6, hi6, hz6⟩ := size74
  unfold Instr.slice
  simp [go_sem, run_underlying Tryd.underlying24, Instr.sliceBounds, Instr.sliceBound, sizeOf, typeInfo, hi6, hz6]
  intro h; exact absurd (h (by omega)) (by omega)
theorem sl_d (A : Option Addr) (n c : Nat) (hn : n + 1 ≤ c) (hc : c ≤ maxLen) (w : World) :
    (Instr.slice 24 (.slice A n c) (some (.int .i64 n)) (some (.int .i64 ((n : Int) + 1))) none).run Tryd.prog w = .ok (.slice (A.map (·.add (n * 6))) 1 (c - n)) w := by
  unfold maxLen at hc
  obtain ⟨i6, hi6, hz6⟩ := size74
  unfold Instr.slice
  simp [go_sem, run_underlying Tryd.underlying24, Instr.sliceBounds, Instr.sliceBound, sizeOf, typeInfo, hi6, hz6]
  rw [if_pos (by omega), if_neg (by omega)]
set_option maxRecDepth 100000 in
set_option maxHeartbeats 1000000 in
theorem clone_calls (l : List S74) (hl : l.length ≤ 1000) (A1 : Option Addr) (c1 : Nat) (w : World) (hr : Kd.C k74 w A1 l.length l) (h0 : 0 < l.length) :
    Calls Tryd.prog 77 #[.slice A1 l.length c1] w fun e w' => ∃ v, e = .returned v ∧ Kd.R k74 74 w' w.heap.size (fun _ => True) v l ∧ Below w.heap.size w w' := by
  obtain ⟨ad, rfl, _⟩ := hr.2.2 h0
  have hR0 : Kd.R k74 74 (w.alloc (.cells #[] 74)) w.heap.size (fun _ => True) (.slice (some ⟨w.heap.size, 0, none⟩) 0 0) [] :=
    ⟨fun _ _ => trivial, [], World.ownsRow_made w #[] 0 (Nat.le_refl _) (by unfold maxLen; omega) (by simp), Reps.none _ _⟩
  have heq : ∀ (n : Nat) (w : World), (binOp .eql 24 (.slice (some ad) n c1) (.slice none 0 0)).run Tryd.prog w = .ok (.bool false) w := by
    intro n w
    kernel_rfl
  go_enter Tryd.func77, Tryd.ntmps77
  go_wp2_with (at_builtin; refine Kd.R_append_rows k74 (w0 := w) w.heap.size rfl (.tmp 5) (.tmp 6) 24 74 (.agg #[(.int .i64 0), (.int .i64 0), (.int .i64 0), (.int .i64 0), (.int .i64 0), (.int .i64 0)]) 48 rfl Tryd.underlying24 info74 rfl (by decide) (by omega) (.slice (some ⟨w.heap.size, 0, none⟩) 0 0) [] l (some ad) l.length c1 (fun _ => True) (fun _ => False) rfl rfl hR0 (Kd.C_alloc hr _) (fun x cs h => by obtain rfl := k74_open h; exact k74_mkM _ _ _ x) (fun _ h => h.elim) (fun _ _ => trivial) ((Below.refl _ _).alloc (Nat.le_refl _) _) (by simp) (by simp; omega) ?_; intro v5 w5 ho5 hb5 hg5 hat5)
  go_ret
  exact ⟨v5, rfl, ho5, hb5⟩
theorem clear_run {g o c : Nat} {cur : Array Value} {W : World} (hg : W.heap[g]? = some (.cells cur 74 (0, 0))) (hl : o + 6 ≤ cur.size) (ty : TypeId) :
    (Builtin.clear_ #[24] ty #[.slice (some ⟨g, o, none⟩) 1 c]).run Tryd.prog W = .ok (.tuple #[]) (W.setRow g (cur.toList.take o ++ [Value.int .i64 0, Value.int .i64 0, Value.int .i64 0, Value.int .i64 0, Value.int .i64 0, Value.int .i64 0] ++ cur.toList.drop (o + 6)).toArray) := by
  obtain ⟨i, h1, h2⟩ := Option.map_eq_some_iff.1 info74
  simp only [Prod.mk.injEq] at h2
  have hz : Builtin.zeroCells (Value.agg #[(.int .i64 0), (.int .i64 0), (.int .i64 0), (.int .i64 0), (.int .i64 0), (.int .i64 0)]).cells 1 = #[.int .i64 0, .int .i64 0, .int .i64 0, .int .i64 0, .int .i64 0, .int .i64 0] := by kernel_rfl
  have hst := run_storeCells_at (P := Tryd.prog) g o 74 [Value.int .i64 0, Value.int .i64 0, Value.int .i64 0, Value.int .i64 0, Value.int .i64 0, Value.int .i64 0] 0 cur W hg (by simpa using hl) (by intro v hv; simp at hv; subst hv; rfl)
  simp only [Nat.add_zero, List.length_cons, List.length_nil] at hst
  unfold Builtin.clear_
  simp [run_underlying Tryd.underlying24, zeroValue, typeInfo, h1, h2.1, hz]
  rw [hst]
  simp
/-- Past the end it may be written. -/
theorem R_tail {W : World} {g n c base : Nat} {l : List S74} {cur' : Array Value} (h : Kd.R k74 74 W base (fun _ => True) (.slice (some ⟨g, 0, none⟩) n c) l)
    (hcur : ∀ cur, W.heap[g]? = some (.cells cur 74 (0, 0)) → cur'.size = cur.size ∧ cur'.toList.take (n * 6) = cur.toList.take (n * 6)) : Kd.R k74 74 (W.setRow g cur') base (fun _ => True) (.slice (some ⟨g, 0, none⟩) n c) l := by
  obtain ⟨h0, inner, ho, hr⟩ := h
  have hM : ∀ (x : S74) (cs : List Value), k74.M W base (fun k => True ∧ some k ≠ (Value.slice (some ⟨g, 0, none⟩) n c).ownBlock) x cs → k74.M (W.setRow g cur') base (fun k => True ∧ some k ≠ (Value.slice (some ⟨g, 0, none⟩) n c).ownBlock) x cs := by
    intro x cs hx
    obtain rfl := k74_open (k74.K_of_M hx)
    exact k74_mkM _ _ _ x
  refine ⟨h0, inner, ⟨ho.1, ?_⟩, hr.imp_ (fun p c hp => hM _ _ hp)⟩
  rcases ho.2 with ⟨hv, _⟩ | ⟨g', cap, cur, hv, hb, hg, h1, h2, h3, h4⟩
  · cases hv
  · simp only [Value.slice.injEq, Option.some.injEq, Addr.mk.injEq] at hv
    obtain ⟨⟨rfl, _⟩, rfl, rfl⟩ := hv
    obtain ⟨k1, k2⟩ := hcur cur hg
    refine .inr ⟨g, c, cur', rfl, hb, setRow_heap W g cur cur' 74 (0, 0) hg, h1, h2, by rw [k1]; exact h3, ?_⟩
    show cur'.toList.take (l.length * 6) = inner
    rw [k2]
    exact h4
theorem R_form {W : World} {base : Nat} {v : Value} {l : List S74} (h : Kd.R k74 74 W base (fun _ => True) v l) (h0 : 0 < l.length) : ∃ g c cur, v = .slice (some ⟨g, 0, none⟩) l.length c ∧ base ≤ g ∧ l.length ≤ c ∧ c ≤ maxLen ∧ W.heap[g]? = some (.cells cur 74 (0, 0)) ∧ cur.size = c * 6 := by
  obtain ⟨_, inner, ho, hr⟩ := h
  rcases ho.2 with ⟨hv, h1⟩ | ⟨g, cap, cur, hv, hb, hg, h1, h2, h3, h4⟩
  · omega
  · exact ⟨g, cap, cur, hv, hb, h1, h2, hg, h3⟩
theorem R_form' {W : World} {base g n c : Nat} {l : List S74} (h : Kd.R k74 74 W base (fun _ => True) (.slice (some ⟨g, 0, none⟩) n c) l) : ∃ cur, base ≤ g ∧ n ≤ c ∧ c ≤ maxLen ∧ W.heap[g]? = some (.cells cur 74 (0, 0)) ∧ cur.size = c * 6 := by
  obtain ⟨_, inner, ho, hr⟩ := h
  rcases ho.2 with ⟨hv, h1⟩ | ⟨g', cap, cur, hv, hb, hg, h1, h2, h3, h4⟩
  · cases hv
  · simp only [Value.slice.injEq, Option.some.injEq, Addr.mk.injEq] at hv
    obtain ⟨⟨rfl, _⟩, rfl, rfl⟩ := hv
    exact ⟨cur, hb, h1, h2, hg, h3⟩
theorem R_clr {W : World} {base g m n c : Nat} {l : List S74} (h : Kd.R k74 74 W base (fun _ => True) (.slice (some ⟨g, 0, none⟩) n c) l) (hn : n = m) (hm : m + 1 ≤ c) :
    ∃ W2, (∀ ty, (Builtin.clear_ #[24] ty #[.slice (some ⟨g, m * 6, none⟩) 1 (c - m)]).run Tryd.prog W = .ok (.tuple #[]) W2) ∧ Kd.R k74 74 W2 base (fun _ => True) (.slice (some ⟨g, 0, none⟩) m c) l ∧ W.grownBy W2 (some g) := by
  subst hn
  obtain ⟨cur, h1, h2, h3, h4, h5⟩ := R_form' h
  have hfit : n * 6 + 6 ≤ cur.size := by rw [h5]; omega
  refine ⟨_, fun ty => clear_run (o := n * 6) (c := c - n) h4 hfit ty, R_tail h (fun cur' hc => ?_), ⟨rfl, rfl, rfl, by simp, fun k _ hk => setRow_other W g k _ (fun e => hk (by rw [e]))⟩⟩
  rw [h4] at hc
  cases hc
  have hl : n * 6 ≤ cur.toList.length := by simp; omega
  refine ⟨by simp; omega, ?_⟩
  simp [List.take_append, List.take_take, Nat.min_eq_left hl]
  omega
theorem below_grown {n g : Nat} {w0 W W2 : World} (h : Below n w0 W) (hg : W.grownBy W2 (some g)) (hn : n ≤ g) (hs : n ≤ W.heap.size) : Below n w0 W2 :=
  ⟨hg.os.trans h.os, hg.tape.trans h.tape, hg.output.trans h.output, Nat.le_trans h.size hg.size, fun k hk => (hg.block k (by omega) (fun e => by simp at e; omega)).trans (h.block k hk)⟩
set_option maxRecDepth 100000 in
set_option maxHeartbeats 1000000 in
theorem delete_calls (l : List S74) (i : Nat) (hi : i < l.length) (hl : l.length ≤ 1000) (v : Value) (w0 W : World) (base : Nat) (HO : Kd.R k74 74 W base (fun _ => True) v l) (HB : Below base w0 W) (hbase : base ≤ W.heap.size) :
    Calls Tryd.prog 76 #[v, .int .i64 i, .int .i64 ((i : Int) + 1)] W fun e w' => ∃ v', e = .returned v' ∧ Kd.R k74 74 w' base (fun _ => True) v' (l.eraseIdx i) ∧ Below base w0 w' := by
  obtain ⟨g, c, cur, rfl, hbg, hc1, hc2, hg, hcs⟩ := R_form HO (by omega)
  obtain ⟨n, hn⟩ : ∃ n, l.length = n := ⟨_, rfl⟩
  rw [hn] at hi hc1 hl HO ⊢
  obtain ⟨m, rfl⟩ : ∃ m, n = m + 1 := ⟨n - 1, by omega⟩
  have hlen : (l.eraseIdx i).length = m := by rw [List.length_eraseIdx_of_lt (by omega)]; omega
  have ha := sl_a (some ⟨g, 0, none⟩) (m + 1) c i hi hc1 hc2
  have hb := sl_b g (m + 1) c i hi hc1 hc2
  have hcc := sl_c (some ⟨g, 0, none⟩) (m + 1) c i hi hc1 hc2
  have hd := sl_d (some ⟨g, 0, none⟩) m c hc1 hc2
  have hne : ((i : Int) == (i : Int) + 1) = false := by simp; omega
  have HOh := Lib.hid HO
  have HBh := Lib.hid HB
  have hsz : (Tryd.prog.info? 74).map (·.size) = some k74.sz := by kernel_rfl
  have Hsz := Lib.hid hsz
  have hadd : (⟨g, 0, none⟩ : Addr).add (m * 6) = ⟨g, m * 6, none⟩ := by simp [Addr.add]; omega
  obtain ⟨A2, hA2⟩ : ∃ A2, (if c = i + 1 then some (⟨g, 0, none⟩ : Addr) else (some (⟨g, 0, none⟩ : Addr)).map (·.add ((i + 1) * 6))) = A2 := ⟨_, rfl⟩
  have hA : Hid (A2 = if c = i + 1 then some ⟨g, 0, none⟩ else (some (⟨g, 0, none⟩ : Addr)).map (·.add ((i + 1) * k74.sz))) := Lib.hid hA2.symm
  rw [hA2] at hcc
  clear hA2
  clear HO HB hg hcs hsz
  go_enter Tryd.func76, Tryd.ntmps76
  go_wp2
  go_still_tail 6, (by kernel_rfl)
  go_wp2_with (at_builtin; go_loud (refine Kd.R_delete k74 (w0 := w0) base rfl (.tmp 22) (.tmp 25) 24 74 rfl Tryd.underlying24 Hsz.out (g := g) (n := m + 1) (c := c) (k := i) (xs := l) (ok := fun _ => True) rfl rfl hA.out (by omega) (Kd.R_move HOh.out (fun _ _ => rfl)) hi HBh.out.drew hbase ?_; intro w1 ho1 hb1 hg1; obtain ⟨W2, hclr, ho2, hg2⟩ := R_clr (m := m) ho1 (Nat.add_sub_cancel m 1) hc1))
  go_ret
  exact ⟨_, rfl, ho2, below_grown hb1 hg2 hbg (Nat.le_trans hbase hg1.size)⟩
end Go.Proofs.YtbijamlgcebgeaaDoor.Hand

-- part IK
namespace Go.Proofs.YtbijamlgcebgeaaDoor.Hand
open Go.RowKit Go.Shelf Go.Sort Go.Proofs.YtbijamlgcebgeaaDoorW.PrintWords Go.Proofs.YtbijamlgcebgeaaDoorW.PrintMore Go.Proofs.YtbijamlgcebgeaaDoor.Q
/-- The signs below k without which fewer loads suffice. -/
def dearL (a b c d e : Int) (l : List S74) (many k : Nat) : List Nat := (List.range k).filter fun i => decide ((fewestB (mkF a b c d e (l.eraseIdx i))).2.1 < many)
theorem dearL_succ (a b c d e : Int) (l : List S74) (many k : Nat) : dearL a b c d e l many (k + 1) = dearL a b c d e l many k ++ (if (fewestB (mkF a b c d e (l.eraseIdx k))).2.1 < many then [k] else []) := by
  unfold dearL
  rw [List.range_succ, List.filter_append]
  congr 1
  by_cases h : (fewestB (mkF a b c d e (l.eraseIdx k))).2.1 < many
  · simp [h]
  · simp [h]
/-- What Dear returns. -/
def dearR (a b c d e : Int) (l : List S74) : List Int × Int :=
  match newR a b c d e l [] with
  | .error x => ([], x)
  | .ok _ => if (fewestB (mkF a b c d e l)).2.2 = true then ((dearL a b c d e l (fewestB (mkF a b c d e l)).2.1 l.length).map Int.ofNat, 0) else ([], 7)
theorem check_erase {a b c d e : Int} {l : List S74} (h : checkF a b c d e l = 0) (i : Nat) : checkF a b c d e (l.eraseIdx i) = 0 := by
  unfold checkF at *
  split at h
  · rename_i hr
    rw [if_pos hr]
    split at h
    · omega
    · rename_i hl
      split at h
      · omega
      · rename_i ha
        rw [if_neg (by have := List.length_eraseIdx_le l i; omega), if_neg]
        intro hx
        apply ha
        obtain ⟨x, hx1, hx2⟩ := List.any_eq_true.1 hx
        exact List.any_eq_true.2 ⟨x, List.mem_of_mem_eraseIdx hx1, hx2⟩
  · omega
def DearC (bx : Nat) (a b c d e : Int) (w' : World) : Prop :=
  w'.cell? ⟨bx, 0, none⟩ = some (.int .i64 a) ∧ w'.cell? ⟨bx, 1, none⟩ = some (.int .i64 b) ∧ w'.cell? ⟨bx, 2, none⟩ = some (.int .i64 c) ∧ w'.cell? ⟨bx, 3, none⟩ = some (.int .i64 d) ∧ w'.cell? ⟨bx, 4, none⟩ = some (.int .i64 e)
theorem DearC.of {bx : Nat} {a b c d e : Int} {w' : World} (h : Box w' bx #[.int .i64 a, .int .i64 b, .int .i64 c, .int .i64 d, .int .i64 e] 23) : DearC bx a b c d e w' := ⟨h.cell 0 rfl, h.cell 1 rfl, h.cell 2 rfl, h.cell 3 rfl, h.cell 4 rfl⟩
set_option maxRecDepth 100000 in
set_option maxHeartbeats 1000000 in
theorem dear_exp (a b c d e : Int) (l : List S74) (A1 : Option Addr) (c1 : Nat) (w : World) (hT : TabW w) (hr1 : Kd.C k74 w A1 l.length l) :
    Calls Tryd.prog 32 #[.agg #[.int .i64 a, .int .i64 b, .int .i64 c, .int .i64 d, .int .i64 e], .slice A1 l.length c1] w fun e_ w' => ∃ v0_ : Value, e_ = .returned (.tuple #[v0_, .int .i64 (dearR a b c d e l).2]) ∧ Kd.R (Kd.int .i64) 3 w' w.heap.size (fun _ => True) v0_ (dearR a b c d e l).1 ∧ Below w.heap.size w w' := by
  obtain ⟨r, hr⟩ : ∃ r, newR a b c d e l [] = r := ⟨_, rfl⟩
  have hnew := new0_calls a b c d e l A1 c1 (w.alloc (.cells #[.int .i64 a, .int .i64 b, .int .i64 c, .int .i64 d, .int .i64 e] 23)) (Kd.C_alloc hr1 _)
  rw [hr] at hnew
  have Hnew := Lib.hid hnew
  clear hnew
  cases r with
  | error x =>
    have hx := newR_err hr
    have h1 : (x != 0) = true := by simp [hx]
    have hg : Hid (dearR a b c d e l = ([], x)) := Lib.hid (by unfold dearR; rw [hr])
    rw [hg.out]
    clear hg hr hx
    go_enter Tryd.func32, Tryd.ntmps32
    go_wp2_with fail
    refine Hnew.out.mono ?_
    rintro e_ w1 ⟨rfl, hb1⟩
    go_wp2
    go_ret2
    exact ⟨_, rfl, Kd.R_nil _ _ _ _ _, ((Below.refl _ _).alloc (Nat.le_refl _) _).trans (hb1.mono (by simp))⟩
  | ok s =>
    have hck := (newR_ok hr).1
    have hF := check_ok hck
    have hg : dearR a b c d e l = if (fewestB (mkF a b c d e l)).2.2 = true then ((dearL a b c d e l (fewestB (mkF a b c d e l)).2.1 l.length).map Int.ofNat, 0) else ([], 7) := by unfold dearR; rw [hr]
    obtain ⟨q, hq⟩ : ∃ q, dearR a b c d e l = q := ⟨_, rfl⟩
    rw [hq] at hg ⊢
    obtain ⟨q1, q2⟩ := q
    clear hr hq
    have hn6 : l.length ≤ 6 := hF.len
    obtain ⟨F, hFF⟩ : ∃ F, mkF a b c d e l = F := ⟨_, rfl⟩
    rw [hFF] at hg Hnew hF
    clear hFF
    obtain ⟨fe, hfe⟩ : ∃ fe, fewestB F = fe := ⟨_, rfl⟩
    rw [hfe] at hg
    obtain ⟨f1, f2, f3⟩ := fe
    have Hfe := Lib.hid hfe
    have Hg := Lib.hid hg
    have Hck := Lib.hid hck
    have Hr1 := Lib.hid hr1
    clear hg hfe hck hr1
    obtain ⟨n, hn⟩ : ∃ n, l.length = n := ⟨_, rfl⟩
    rw [hn] at Hnew Hg Hr1 hn6 ⊢
    have hbox := Box.new w #[.int .i64 a, .int .i64 b, .int .i64 c, .int .i64 d, .int .i64 e] 23
    have Hn := Lib.hid hn
    clear hn
    go_enter Tryd.func32, Tryd.ntmps32
    go_wp2_with fail
    refine Hnew.out.mono ?_
    rintro e_ w1 ⟨v, rfl, hs, B, M, rfl, hB, hM, hfu, hme, hb1⟩
    have hB1 : Below w.heap.size w w1 := ((Below.refl _ _).alloc (Nat.le_refl _) _).trans (hb1.mono (by simp))
    have hbx1 := hbox.step hb1
    have hT1 : TabW w1 := (hT.alloc _).below hb1
    have hMw0 : w.heap.size ≤ M := by simp at hM; omega
    clear Hnew hb1 hB hM hbox
    go_wp2_with fail
    refine (fewest_calls F hF B M _ hT1 hfu hme).mono ?_
    rintro e_ w2 ⟨v, rfl, ho, hm2, hk2⟩
    rw [Hfe.out]
    have hB2 : Below w.heap.size w w2 := Below.kp hB1 hk2 hMw0 hB1.size
    have hbx2 := hk2.boxm hme hbx1
    clear ho hm2 hk2 hfu hme hbx1 hB1 hT1
    cases f3 with
    | false =>
      obtain ⟨rfl, rfl⟩ : q1 = [] ∧ q2 = 7 := by simpa using Hg.out
      go_wp2
      go_ret2
      exact ⟨_, rfl, Kd.R_nil _ _ _ _ _, hB2⟩
    | true =>
      obtain ⟨hq1, rfl⟩ : q1 = (dearL a b c d e l f2 n).map Int.ofNat ∧ q2 = 0 := by simpa using Hg.out
      have Hq1 := Lib.hid hq1
      clear hq1 Hg
      go_wp2
      go_loopw [4, 38] (fun v i W => ∃ k : Nat, k ≤ n ∧ i = .int .i64 k ∧ OwnI W w.heap.size v ((dearL a b c d e l f2 k).map Int.ofNat) ∧ Below w.heap.size w W ∧ Box W w.heap.size #[.int .i64 a, .int .i64 b, .int .i64 c, .int .i64 d, .int .i64 e] 23) (fun _ i _ => n - (intOf i).toNat)
      case atStart => exact ⟨0, Nat.zero_le _, rfl, OwnI.nil _ _, hB2, hbx2⟩
      case round =>
        obtain ⟨k, hk, rfl, hown, hbl, hbx⟩ := hrel
        by_cases hlt : k < n
        · have hC : DearC w.heap.size a b c d e wr.drew := DearC.of hbx.drew
          have hll : k < l.length := by rw [Hn.out]; exact hlt
          have hln : l.length ≤ 6 := by rw [Hn.out]; exact hn6
          have hrd : Kd.C k74 wr.drew A1 l.length l := by
            have := Kd.C_below Hr1.out hbl
            rw [Hn.out]
            exact Kd.C_below this ((Below.refl _ _).drew)
          have hcl := Lib.hid (Hn.out ▸ clone_calls l (by omega) A1 c1 wr.drew hrd (by omega) : Calls Tryd.prog 77 #[.slice A1 n c1] wr.drew fun e w' => ∃ v, e = .returned v ∧ Kd.R k74 74 w' wr.drew.heap.size (fun _ => True) v l ∧ Below wr.drew.heap.size wr.drew w')
          go_wp2
          refine (wpIn_wide (n := 0)).1 ?_
          refine wpIn_region_seqC 14 [(0, true), (1, true), (3, true), (4, true), (5, true), (2, false), (6, false), (7, false), (8, true), (9, true), (10, true), (11, true), (12, true), (13, true)] (DearC w.heap.size a b c d e) rfl (by kernel_rfl) (by intro c' a' d' v' w' h; cases d' <;> exact h) (by kernel_rfl) hC ?_
          iterate 5 (apply seqC_quiet rfl (fun _ => rfl) (by assumption); focus (intro K hK w' hw'; obtain ⟨g0, g1, g2, g3, g4⟩ := hw'; go_simp; exact hK))
          refine seqC_event rfl ?_
          gi_wp2_with fail
          refine ⟨trivial, rfl, ?_⟩
          refine (callsIn_wide.2 hcl.out).mono ?_
          rintro e_ w3 ⟨v3, rfl, hR3, hb3⟩
          have hbx3 := hbx.drew.step hb3
          have hC3 : DearC w.heap.size a b c d e w3 := DearC.of hbx3
          have hdel := Lib.hid (delete_calls l k hll (by omega) v3 wr.drew w3 wr.drew.heap.size hR3 hb3 hb3.size)
          clear hR3 hcl hrd
          gi_wp2
          refine ⟨hC3, ?_⟩
          refine seqC_event rfl ?_
          gi_wp2_with fail
          refine ⟨trivial, rfl, ?_⟩
          refine (callsIn_wide.2 hdel.out).mono ?_
          rintro e_ w4 ⟨v4, rfl, hR4, hb4⟩
          have hbx4 := hbx.drew.step hb4
          have hC4 : DearC w.heap.size a b c d e w4 := DearC.of hbx4
          obtain ⟨A4, c4, rfl, _, hC4r⟩ := Kd.R_reads hR4
          have hnew4 := new0_calls a b c d e (l.eraseIdx k) A4 c4 w4 hC4r
          have hnr : newR a b c d e (l.eraseIdx k) [] = .ok 0 := by rw [newR_nil, if_pos (check_erase Hck.out k)]
          rw [hnr] at hnew4
          have Hnew4 := Lib.hid hnew4
          clear hR4 hC4r hdel hnew4 hC3 hnr
          gi_wp2
          refine ⟨hC4, ?_⟩
          refine seqC_event rfl ?_
          gi_wp2_with fail
          refine ⟨trivial, rfl, ?_⟩
          refine (callsIn_wide.2 Hnew4.out).mono ?_
          rintro e_ w5 ⟨v5, rfl, hs5, B5, M5, rfl, hB5, hM5, hfu5, hme5, hb5⟩
          have hwr4 : Below wr.heap.size wr w4 := ((Below.refl _ _).drew).trans hb4
          have hwr5 : Below wr.heap.size wr w5 := hwr4.trans (hb5.mono hwr4.size)
          have hBw5 : Below w.heap.size w w5 := hbl.trans (hwr5.mono hbl.size)
          have hbx5 := hbx4.step hb5
          have hC5 : DearC w.heap.size a b c d e w5 := DearC.of hbx5
          have hT5 : TabW w5 := hT.below hBw5
          have hF5 := check_ok (check_erase Hck.out k)
          have hown5 := hown.below' hwr5
          have hM5w : w.heap.size ≤ M5 := by have := hbl.size; have := hwr4.size; omega
          have hsucc := Lib.hid (dearL_succ a b c d e l f2 k)
          clear hC4 Hnew4 hb5 hb4 hb3 hbx4 hbx3 hbx hown hwr4 hwr5 hbl hC
          gi_wp2
          refine ⟨hC5, ?_⟩
          iterate 6 (apply seqC_quiet rfl (fun _ => rfl) (by assumption); focus (intro K hK w' hw'; obtain ⟨g0, g1, g2, g3, g4⟩ := hw'; go_simp; exact hK))
          show wpListIn _ _ _ _ _ _ _ _
          simp only [List.drop_succ_cons, List.drop_zero]
          gi_wp2
          obtain ⟨Fi, hFi⟩ : ∃ Fi, mkF a b c d e (l.eraseIdx k) = Fi := ⟨_, rfl⟩
          rw [hFi] at hF5 hfu5 hme5 hsucc
          clear hFi
          obtain ⟨fw, hfw⟩ : ∃ fw, fewestB Fi = fw := ⟨_, rfl⟩
          obtain ⟨g1, g2, g3⟩ := fw
          have hfc := Lib.hid (fewest_calls Fi hF5 B5 M5 w5 hT5 hfu5 hme5)
          rw [hfw] at hfc hsucc
          clear hfw
          go_wp2_with fail
          refine hfc.out.mono ?_
          rintro e_ w6 ⟨v6, rfl, ho6, hm6, hk6⟩
          have hBw6 : Below w.heap.size w w6 := Below.kp hBw5 hk6 hM5w hBw5.size
          have hbx6 := hk6.boxm hme5 hbx5
          have hown6 := hown5.kp hme5 hk6
          clear ho6 hm6 hk6 hfc hown5 hbx5 hBw5 hT5 hfu5 hme5 hC5
          by_cases hlt2 : g2 < f2
          · have hd2 : decide ((g2 : Int) < (f2 : Int)) = true := by simp; omega
            obtain ⟨A, cc, rfl⟩ := hown6.slice
            obtain ⟨m, hm⟩ : ∃ m, ((dearL a b c d e l f2 k).map Int.ofNat).length = m := ⟨_, rfl⟩
            have hm6 : m ≤ 6 := by
              rw [← hm, List.length_map]
              have := List.length_filter_le (fun i => decide ((fewestB (mkF a b c d e (l.eraseIdx i))).2.1 < f2)) (List.range k)
              simp at this
              unfold dearL
              omega
            have ho' : w6.ownsRow w.heap.size 3 1 (.slice A m cc) m (((dearL a b c d e l f2 k).map Int.ofNat).map (Value.int .i64)) := by rw [← hm]; exact hown6
            rw [hm] at hown6
            rw [hm]
            clear hm
            obtain ⟨i3, hi3, hz3⟩ := Option.map_eq_some_iff.1 info3
            simp only [Prod.mk.injEq] at hz3
            obtain ⟨hz0, hz1, hz2⟩ := hz3
            go_wp2_with (at_builtin; refine wpList_append_own _ rfl _ _ 25 rfl w.heap.size 3 i3 (.int .i64 0) 1 8 Tryd.underlying25 hi3 hz0 hz1 hz2 rfl (by decide) _ _ _ rfl (World.ownsRow.alloc ho' _) ⟨w6.heap.size, 0, none⟩ 1 1 [.int .i64 k] rfl rfl ?c1 ?c2 ?c3 ?c4 ?c5 ?_)
            case c1 =>
              intro j u hj
              match j, hj with
              | 0, hj => simp at hj; subst hj; simp [Addr.add]
            case c2 => intro u hu; simp at hu; subst hu; rfl
            case c3 => unfold maxLen; omega
            case c4 => omega
            case c5 => have := hBw6.size; simp; omega
            intro v1 w7 hown7 hgrow _
            have hl7 : ((dearL a b c d e l f2 (k + 1)).map Int.ofNat).length = m + 1 := by
              have := ho'.1
              rw [hsucc.out, if_pos hlt2]
              simp at this ⊢
              exact this
            have hownI : OwnI w7 w.heap.size v1 ((dearL a b c d e l f2 (k + 1)).map Int.ofNat) := by
              unfold OwnI
              rw [hl7, hsucc.out, if_pos hlt2]
              simpa using hown7
            have h2a : OwnI (w6.alloc (.cells #[.int .i64 k] 3)) w.heap.size (.slice A m cc) ((dearL a b c d e l f2 k).map Int.ofNat) := World.ownsRow.alloc hown6 _
            have hBw7 : Below w.heap.size w w7 := OwnI.below h2a hgrow (hBw6.alloc hBw6.size _) (by have := hBw6.size; simp; omega)
            have hbx7 : Box w7 w.heap.size #[.int .i64 a, .int .i64 b, .int .i64 c, .int .i64 d, .int .i64 e] 23 := Box.grown h2a hgrow (hbx6.alloc _) (by decide)
            clear hown7 hgrow h2a ho' hown6 hi3 hz0 hz1 hz2 hl7 hsucc
            go_wp2
            go_roundw
            case rel => exact ⟨k + 1, by omega, by go_num, hownI, hBw7, hbx7⟩
            case measure => simp [intOf]; omega
          · have hd2 : decide ((g2 : Int) < (f2 : Int)) = false := by simp; omega
            go_wp2
            go_roundw
            case rel => exact ⟨k + 1, by omega, by go_num, by rw [hsucc.out, if_neg hlt2]; simpa using hown6, hBw6, hbx6⟩
            case measure => simp [intOf]; omega
        · go_wp2
          go_ret2
          obtain rfl : k = n := by omega
          rw [Hq1.out]
          exact ⟨_, rfl, hown.R, hbl⟩
end Go.Proofs.YtbijamlgcebgeaaDoor.Hand

-- part IL
namespace Go.Proofs.YtbijamlgcebgeaaDoor.Hand
open Go.RowKit Go.Shelf Go.Sort Go.Proofs.YtbijamlgcebgeaaDoorW.PrintWords Go.Proofs.YtbijamlgcebgeaaDoorW.PrintMore Go.Proofs.YtbijamlgcebgeaaDoor.Q
attribute [local go_sem] Oper.semAt_some max2_mx min2_mn max_two min_two
/-- The greatest of the first k numbers, or -1. -/
def maxK (loads : List Int) (k : Nat) : Int := (List.range k).foldl (fun (m : Int) (i : Nat) => mx m (rd loads i)) (-1)
theorem maxK_succ (loads : List Int) (k : Nat) : maxK loads (k + 1) = mx (maxK loads k) (rd loads k) := by simp [maxK, List.range_succ]
theorem maxK_bd (loads : List Int) (h : allIn 0 5 loads = true) : ∀ k, k ≤ loads.length → -1 ≤ maxK loads k ∧ maxK loads k ≤ 5 := by
  intro k
  induction k with
  | zero => intro _; simp [maxK]
  | succ k ih =>
    intro hk
    have h1 := ih (by omega)
    have h2 : 0 ≤ rd loads k ∧ rd loads k ≤ 5 := by
      have hm : rd loads k ∈ loads := by
        unfold rd
        rw [Int.toNat_natCast, List.getD_eq_getElem?_getD, List.getElem?_eq_getElem (by omega)]
        exact List.getElem_mem _
      unfold allIn at h
      simp only [Bool.not_eq_true'] at h
      have := List.any_eq_false.1 h _ hm
      simp [outB] at this
      omega
    rw [maxK_succ]
    unfold mx
    split <;> omega
/-- At how many of the first k places two lists differ. -/
def farK (x loads : List Int) (k : Nat) : Nat := ((List.range k).filter fun (i : Nat) => rd x i != rd loads i).length
theorem farK_succ (x loads : List Int) (k : Nat) : farK x loads (k + 1) = farK x loads k + (if (rd x k != rd loads k) = true then 1 else 0) := by
  unfold farK
  rw [List.range_succ, List.filter_append, List.length_append]
  congr 1
  by_cases h : (rd x k != rd loads k) = true
  · simp only [List.filter_cons, h, if_true]; rfl
  · simp only [List.filter_cons, h]; rfl
theorem farK_le (x loads : List Int) (k : Nat) : farK x loads k ≤ k := by
  unfold farK
  have := List.length_filter_le (fun (i : Nat) => rd x i != rd loads i) (List.range k)
  simpa using this
def putStep2 (loads : List Int) (st : Option (List Int × Nat)) (x : List Int) : Option (List Int × Nat) := match st with
  | none => some (x, farK x loads x.length)
  | some (y, m) => if farK x loads x.length < m then some (x, farK x loads x.length) else some (y, m)
def putO (F : Furn) (loads : List Int) (m : Nat) : Option (List Int × Nat) := (listsL F m).foldl (putStep2 loads) none
/-- What Put returns. -/
def putR (a b c d e : Int) (l : List S74) (loads : List Int) : List Int × Nat × Int :=
  match newR a b c d e l [] with
  | .error x => ([], 0, x)
  | .ok _ => if decide (loads.length = l.length) && allIn 0 5 loads then (match putO (mkF a b c d e l) loads (maxK loads loads.length + 1).toNat with
    | none => ([], 0, 7)
    | some (x, m) => (x, m, 0)) else ([], 0, 4)
/-- Every list that is yielded is as long as there are signs. -/
theorem genL_len (F : Furn) (m : Nat) : ∀ (d : Nat) (l : List Int) (x : L6), l.length + d = F.l.length → ∀ y ∈ genL F m d l x, y.length = F.l.length := by
  intro d
  induction d with
  | zero => intro l x h y hy; simp [genL] at hy; subst hy; omega
  | succ d ih =>
    intro l x h y hy
    simp only [genL, List.mem_flatMap, List.mem_range] at hy
    obtain ⟨j, _, hy⟩ := hy
    split at hy
    · exact ih _ _ (by simp; omega) y hy
    · cases hy
theorem block_add (a : Addr) (k : Nat) : (a.add k).block = a.block := by unfold Addr.add; split <;> rfl
theorem off_add (a : Addr) (k : Nat) : (a.add k).off = a.off + k := by unfold Addr.add; split <;> simp_all
/-- A store into a block of one cell turns no sign. -/
theorem C_one {W : World} {A : Option Addr} {n b : Nat} {l : List S74} {v u : Value} {t : TypeId} (h : Kd.C k74 W A n l) (hb : Box W b #[v] t) : Kd.C k74 (W.setCell ⟨b, 0, none⟩ u) A n l := by
  obtain ⟨h1, h2, h3⟩ := h
  refine ⟨h1, h2, fun hn => ?_⟩
  obtain ⟨ad, e, h4⟩ := h3 hn
  refine ⟨ad, e, fun j p hp => ?_⟩
  obtain ⟨c, hs, hr, hc⟩ := h4 j p hp
  refine ⟨c, hs, k74_any hr, fun i u' hu => ?_⟩
  have hne : ad.block ≠ b := fun e => by
    obtain rfl := k74_open hr
    have h5 := hc 1 _ rfl
    unfold World.cell? at h5
    rw [block_add, off_add, e] at h5
    unfold Box at hb
    rw [hb] at h5
    simp at h5
  refine (World.cell?_of_block (w := W) (Below.heap_setCell W ⟨b, 0, none⟩ u _ ?_)).trans (hc i u' hu)
  rw [block_add]
  exact hne
theorem Fu.setOne {W : World} {B M b : Nat} {F : Furn} {v : Value} {t : TypeId} (h : Fu W B M F) (hb : Box W b #[v] t) (u : Value) : Fu (W.setCell ⟨b, 0, none⟩ u) B M F := by
  obtain ⟨A, c, h1, h2⟩ := h
  refine ⟨A, c, h1.other (fun e => ?_) 0 u, C_one h2 hb⟩
  unfold Box at h1 hb
  rw [e, hb] at h1
  cases h1
theorem Fu.inert {W W' : World} {B M T : Nat} {F : Furn} (h : Fu W B M F) (hi : Inert T W W') : Fu W' B M F := by
  obtain ⟨A, c, h1, h2⟩ := h
  exact ⟨A, c, hi.box h1, ReadsRow.of_cells h2 (fun _ _ hc => hi.cell hc) (fun _ _ => k74_any)⟩
theorem Memo.inert {W W' : World} {M T : Nat} {F : Furn} (h : Memo W M F) (hi : Inert T W W') : Memo W' M F := by
  obtain ⟨es, c, h1, h2⟩ := h
  exact ⟨es, c, hi.keep M _ h1 (.inr rfl), h2⟩
/-- What is under the loop over the lists. -/
def PutG (w : World) (B M : Nat) (F : Furn) (W : World) : Prop := Fu W B M F ∧ Below w.heap.size w W
theorem PutG.gr {w : World} {B M : Nat} {F : Furn} (hT : TabW w) (hM : w.heap.size ≤ M) : Gr F B M (PutG w B M F) :=
  ⟨fun W h => h.1, fun W h => hT.below h.2, fun X Y h hm k _ => ⟨k.fu hm h.1, Below.kp h.2 k hM h.2.size⟩⟩
theorem LInv.setOne {w W : World} {F : Furn} {B M m b2 b3 b : Nat} {v : Value} {t : TypeId} (h : LInv F B M m b2 b3 (PutG w B M F) W) (hb : Box W b #[v] t) (hw : w.heap.size ≤ b) (h2 : b2 ≠ b) (h3 : b3 ≠ b) (u : Value) : LInv F B M m b2 b3 (PutG w B M F) (W.setCell ⟨b, 0, none⟩ u) :=
  ⟨h.gr, ⟨h.g.1.setOne hb u, h.g.2.setCell hw u⟩, h.me.setCell hb 0 u, h.x2.other h2 0 u, h.x3.other h3 0 u⟩
theorem LInv.drewN {w W : World} {F : Furn} {B M m b2 b3 : Nat} (h : LInv F B M m b2 b3 (PutG w B M F) W) (n : Nat) : LInv F B M m b2 b3 (PutG w B M F) (W.drewN n) :=
  h.step (pw_below_drewN (Below.refl _ _) n)
theorem FrB.setCell {B : Nat} (W : World) {b : Nat} (hb : b < B) (i : Nat) (u : Value) : FrB B W (W.setCell ⟨b, i, none⟩ u) := ⟨by simp [World.setCell], fun k o hk hB _ => (Below.heap_setCell W ⟨b, i, none⟩ u k (by show k ≠ b; omega)).trans hk⟩
theorem FrB.drewN (B : Nat) (W : World) (n : Nat) : FrB B W (W.drewN n) := ⟨Nat.le_refl _, fun _ _ h _ _ => h⟩
/-- What is known so far. -/
structure PutSt (bb t6 t7 t14 : Nat) (st : Option (List Int × Nat)) (W : World) : Prop where
  own : ∃ v, OwnI W bb v ((st.map (·.1)).getD []) ∧ Box W t6 #[v] 25
  x7 : Box W t7 #[.int .i64 (((st.map (·.2)).getD 0 : Nat) : Int)] 3
  x14 : Box W t14 #[.bool st.isSome] 4
theorem PutSt.inert {bb t6 t7 t14 T : Nat} {st : Option (List Int × Nat)} {W W' : World} (h : PutSt bb t6 t7 t14 st W) (hi : Inert T W W') : PutSt bb t6 t7 t14 st W' := by
  obtain ⟨⟨v, h1, h2⟩, h3, h4⟩ := h
  exact ⟨⟨v, h1.inert hi, hi.box h2⟩, hi.box h3, hi.box h4⟩
theorem PutSt.kp {bb t6 t7 t14 M : Nat} {F : Furn} {st : Option (List Int × Nat)} {W W' : World} (h : PutSt bb t6 t7 t14 st W) (k : Kp M W W') (hm : Memo W M F) : PutSt bb t6 t7 t14 st W' := by
  obtain ⟨⟨v, h1, h2⟩, h3, h4⟩ := h
  exact ⟨⟨v, h1.kp hm k, k.boxm hm h2⟩, k.boxm hm h3, k.boxm hm h4⟩
theorem put_store {w W : World} {F : Furn} {B M m b2 t14 T : Nat} {st : Option (List Int × Nat)} {A2 Ax : Option Addr} {k c2 cx n : Nat} {x : List Int} (hT : b2 + 1 < T) (ht : t14 < b2) (htw : w.heap.size + 4 ≤ t14)
    (hv : LInv F B M m b2 (b2 + 1) (PutG w B M F) W) (h1 : PutSt (b2 + 2) (w.heap.size + 2) (w.heap.size + 3) t14 st W) (h2 : Box W (w.heap.size + 1) #[.slice A2 k c2] 25) (h3 : Below w.heap.size w W) (ho : OwnI W (b2 + 2) (.slice Ax k cx) x) :
    ∀ W', ((W.setCell ⟨w.heap.size + 2, 0, none⟩ (.slice Ax k cx)).setCell ⟨w.heap.size + 3, 0, none⟩ (.int .i64 n)).setCell ⟨t14, 0, none⟩ (.bool true) = W' →
      KeepBk W W' ∧ FrB T W W' ∧ LInv F B M m b2 (b2 + 1) (PutG w B M F) W' ∧ PutSt (b2 + 2) (w.heap.size + 2) (w.heap.size + 3) t14 (some (x, n)) W' ∧ Box W' (w.heap.size + 1) #[.slice A2 k c2] 25 ∧ Below w.heap.size w W' := by
  rintro W' rfl
  obtain ⟨⟨v0, o0, p6⟩, p7, p14⟩ := h1
  have q6 := p6.set 0 (.slice Ax k cx)
  have q7 := p7.other (b' := w.heap.size + 2) (by omega) 0 (.slice Ax k cx)
  have q14 := p14.other (b' := w.heap.size + 2) (by omega) 0 (.slice Ax k cx)
  have v1 := hv.setOne p6 (by omega) (by omega) (by omega) (.slice Ax k cx)
  have r6 := q6.other (b' := w.heap.size + 3) (by omega) 0 (.int .i64 n)
  have r7 := q7.set 0 (.int .i64 n)
  have r14 := q14.other (b' := w.heap.size + 3) (by omega) 0 (.int .i64 n)
  have v2 := v1.setOne q7 (by omega) (by omega) (by omega) (.int .i64 n)
  have v3 := v2.setOne r14 (by omega) (by omega) (by omega) (.bool true)
  refine ⟨(KeepBk.setCell _ _ _).trans ((KeepBk.setCell _ _ _).trans (KeepBk.setCell _ _ _)), (FrB.setCell _ (by omega) 0 _).trans ((FrB.setCell _ (by omega) 0 _).trans (FrB.setCell _ (by omega) 0 _)), v3,
    ⟨⟨_, ((ho.farLt (by omega) 0 _).farLt (by omega) 0 _).farLt (by omega) 0 _, r6.other (by omega) 0 _⟩, r7.other (by omega) 0 _, r14.set 0 _⟩, ((h2.other (by omega) 0 _).other (by omega) 0 _).other (by omega) 0 _,
    ((h3.setCell (p := ⟨w.heap.size + 2, 0, none⟩) (by simp) _).setCell (p := ⟨w.heap.size + 3, 0, none⟩) (by simp) _).setCell (p := ⟨t14, 0, none⟩) (by simp; omega) _⟩
/-- It ends as it should, and in no other way. -/
def Qn (Q : Exit → Act → World → Prop) : Exit → Act → World → Prop
  | .normal, a, w => Q .normal a w
  | _, _, _ => False
theorem wpIn_region_seqN {F : Fence} {m : Nat} {P : Program} {Q : Exit → Act → World → Prop} {id : Nat} {a : Act} {w : World} {l : List Oper} (n : Nat) (π : List (Nat × Bool)) (C : World → Prop) (hro : F.round = none) (hm : P.follows .mixedOrders = true) (hB : seqCB .any l.toArray n π = true) (hC : C w.drew)
    (h : seqC F m P l.toArray (Qn Q) C (wpListIn F m P l.toArray (Qn Q) (l.drop n)) π a w.drew) : (Code.region id l.toArray true).wpIn F m P Q a w :=
  Code.wpIn_mono (fun e a w q => by cases e <;> first | exact q | exact q.elim) (wpIn_region_seqC n π C hro hm (fun _ _ _ _ _ h => h.elim) hB hC h)
def PutC (t6 t7 : Nat) (v : Value) (n : Int) (w' : World) : Prop := w'.cell? ⟨t6, 0, none⟩ = some v ∧ w'.cell? ⟨t7, 0, none⟩ = some (.int .i64 n)
set_option maxRecDepth 100000 in
set_option maxHeartbeats 2000000 in
theorem put_exp (a b c d e : Int) (l : List S74) (loads : List Int) (A1 A2 : Option Addr) (c1 c2 : Nat) (w : World) (hT : TabW w) (hr1 : Kd.C k74 w A1 l.length l) (hr2 : Kd.C (Kd.int .i64) w A2 loads.length loads) :
    Calls Tryd.prog 38 #[.agg #[.int .i64 a, .int .i64 b, .int .i64 c, .int .i64 d, .int .i64 e], .slice A1 l.length c1, .slice A2 loads.length c2] w fun e_ w' => ∃ v0_ : Value, e_ = .returned (.tuple #[v0_, .int .i64 (putR a b c d e l loads).2.1, .int .i64 (putR a b c d e l loads).2.2]) ∧ Kd.R (Kd.int .i64) 3 w' w.heap.size (fun _ => True) v0_ (putR a b c d e l loads).1 ∧ Below w.heap.size w w' := by
  obtain ⟨r, hr⟩ : ∃ r, newR a b c d e l [] = r := ⟨_, rfl⟩
  obtain ⟨Wa, hWa⟩ : ∃ Wa, (((w.alloc (.cells #[.int .i64 a, .int .i64 b, .int .i64 c, .int .i64 d, .int .i64 e] 23)).alloc (.cells #[.slice A2 loads.length c2] 25)).alloc (.cells #[.slice none 0 0] 25)).alloc (.cells #[.int .i64 0] 3) = Wa := ⟨_, rfl⟩
  have hba : Below w.heap.size w Wa := by rw [← hWa]; exact ((((Below.refl _ _).alloc (Nat.le_refl _) _).alloc (by simp) _).alloc (by simp; omega) _).alloc (by simp; omega) _
  have x3 : Box Wa w.heap.size #[.int .i64 a, .int .i64 b, .int .i64 c, .int .i64 d, .int .i64 e] 23 := by rw [← hWa]; exact (((Box.new _ _ _).alloc _).alloc _).alloc _
  have x5 : Box Wa (w.heap.size + 1) #[.slice A2 loads.length c2] 25 := by rw [← hWa]; exact ((Box.new' _ _ _ (by simp)).alloc _).alloc _
  have x6 : Box Wa (w.heap.size + 2) #[.slice none 0 0] 25 := by rw [← hWa]; exact (Box.new' _ _ _ (by simp)).alloc _
  have x7 : Box Wa (w.heap.size + 3) #[.int .i64 0] 3 := by rw [← hWa]; exact Box.new' _ _ _ (by simp)
  have hsz : w.heap.size + 4 ≤ Wa.heap.size := by rw [← hWa]; simp
  have hnew := new0_calls a b c d e l A1 c1 Wa (Kd.C_below hr1 hba)
  rw [hr] at hnew
  have Hnew := Lib.hid hnew
  clear hnew
  have k0 : Wa.cell? ⟨w.heap.size, 0, none⟩ = some (.int .i64 a) := x3.cell 0 rfl
  have k1 : Wa.cell? ⟨w.heap.size, 1, none⟩ = some (.int .i64 b) := x3.cell 1 rfl
  have k2 : Wa.cell? ⟨w.heap.size, 2, none⟩ = some (.int .i64 c) := x3.cell 2 rfl
  have k3 : Wa.cell? ⟨w.heap.size, 3, none⟩ = some (.int .i64 d) := x3.cell 3 rfl
  have k4 : Wa.cell? ⟨w.heap.size, 4, none⟩ = some (.int .i64 e) := x3.cell 4 rfl
  have hres : ∀ (t : Array Value) (W : World) (v v1 v2 : Value), t.getD 6 undef = .pointer (some ⟨w.heap.size + 2, 0, none⟩) → t.getD 7 undef = .pointer (some ⟨w.heap.size + 3, 0, none⟩) → t.getD 8 undef = v2 →
      Box W (w.heap.size + 2) #[v] 25 → Box W (w.heap.size + 3) #[v1] 3 → (results Tryd.f38 t).run Tryd.prog W = .ok (.tuple #[v, v1, v2]) W := by
    intro t W v v1 v2 h1 h2 h3 b1 b2
    have d0 : W.cell? ⟨w.heap.size + 2, 0, none⟩ = some v := b1.cell 0 rfl
    have d1 : W.cell? ⟨w.heap.size + 3, 0, none⟩ = some v1 := b2.cell 0 rfl
    simp only [Array.getD_eq_getD_getElem?] at h1 h2 h3
    clear b1 b2
    simp [results, Tryd.results38, go_sem, h1, h2, h3, d0, d1]
  have Hres := Lib.hid hres
  clear hres
  refine (callsIn_wide (n := 0)).1 ?_
  refine callsIn_of_wp_marks Tryd.func38 rfl trivial ?_
  simp only [Tryd.ntmps38, List.size_toArray, List.length_cons, List.length_nil, Nat.reduceAdd, Nat.reduceSub, Array.replicate_succ, Array.replicate_zero, List.push_toArray, List.append_toArray, List.nil_append, List.cons_append]
  cases r with
  | error x =>
    have hx := newR_err hr
    have h1 : (x != 0) = true := by simp [hx]
    have hg : Hid (putR a b c d e l loads = ([], 0, x)) := Lib.hid (by unfold putR; rw [hr])
    rw [hg.out]
    clear hg hr hx
    gi_wp2_with fail
    refine ⟨trivial, rfl, ?_⟩
    refine (callsIn_wide.2 Hnew.out).mono ?_
    rintro e_ w1 ⟨rfl, hb1⟩
    have y6 := x6.step hb1
    have y7 := x7.step hb1
    have hB1 : Below w.heap.size w w1 := hba.trans (hb1.mono (by omega))
    have q6 : w1.cell? ⟨w.heap.size + 2, 0, none⟩ = some (.slice none 0 0) := y6.cell 0 rfl
    have q7 : w1.cell? ⟨w.heap.size + 3, 0, none⟩ = some (.int .i64 0) := y7.cell 0 rfl
    have f6 : w1.frozen? ⟨w.heap.size + 2, 0, none⟩ = false := y6.frozen 0
    have f7 : w1.frozen? ⟨w.heap.size + 3, 0, none⟩ = false := y7.frozen 0
    have g6 := (y6.set 0 (.slice none 0 0)).other (b' := w.heap.size + 3) (by omega) 0 (.int .i64 0)
    have g7 := (y7.other (b' := w.heap.size + 2) (by omega) 0 (.slice none 0 0)).set 0 (.int .i64 0)
    have hB2 : Below w.heap.size w ((w1.setCell ⟨w.heap.size + 2, 0, none⟩ (.slice none 0 0)).setCell ⟨w.heap.size + 3, 0, none⟩ (.int .i64 0)) := (hB1.setCell (p := ⟨w.heap.size + 2, 0, none⟩) (by simp) _).setCell (p := ⟨w.heap.size + 3, 0, none⟩) (by simp) _
    gi_wp2
    refine leaveMs (B := w.heap.size) (T := 0) [] _ (Marks.nil _ _ _) (fun W' hi => ⟨_, Hres.out _ W' _ _ _ rfl rfl rfl (hi.box g6) (hi.box g7), _, rfl, Kd.R_nil _ _ _ _ _, hi.below hB2 (Nat.le_refl _) (Nat.le_refl _)⟩)
  | ok s =>
    have hck := (newR_ok hr).1
    have hF := check_ok hck
    have hgen : putR a b c d e l loads = if decide (loads.length = l.length) && allIn 0 5 loads then (match putO (mkF a b c d e l) loads (maxK loads loads.length + 1).toNat with
      | none => (([], 0, 7) : List Int × Nat × Int)
      | some (x, m) => (x, m, 0)) else ([], 0, 4) := by unfold putR; rw [hr]
    have hFl : Hid ((mkF a b c d e l).l.length = l.length) := Lib.hid rfl
    have hn6 : l.length ≤ 6 := hF.len
    clear hr hck
    obtain ⟨F, hFF⟩ : ∃ F, mkF a b c d e l = F := ⟨_, rfl⟩
    rw [hFF] at hgen Hnew hF hFl
    clear hFF
    obtain ⟨pr, hpr⟩ : ∃ pr, putR a b c d e l loads = pr := ⟨_, rfl⟩
    rw [hpr] at hgen ⊢
    clear hpr
    obtain ⟨p1, p2, p3⟩ := pr
    gi_wp2_with fail
    refine ⟨trivial, rfl, ?_⟩
    refine (callsIn_wide.2 Hnew.out).mono ?_
    rintro e_ w1 ⟨v, rfl, hs, B, M, rfl, hB, hM, hfu, hme, hb1⟩
    have hB1 : Below w.heap.size w w1 := hba.trans (hb1.mono (by omega))
    have y5 := x5.step hb1
    have y6 := x6.step hb1
    have y7 := x7.step hb1
    have hwsz := hb1.size
    have hT1 : TabW w1 := hT.below hB1
    have hC2 : Kd.C (Kd.int .i64) w1 A2 loads.length loads := Kd.C_below hr2 hB1
    have q5 : w1.cell? ⟨w.heap.size + 1, 0, none⟩ = some (.slice A2 loads.length c2) := y5.cell 0 rfl
    have q6 : w1.cell? ⟨w.heap.size + 2, 0, none⟩ = some (.slice none 0 0) := y6.cell 0 rfl
    have q7 : w1.cell? ⟨w.heap.size + 3, 0, none⟩ = some (.int .i64 0) := y7.cell 0 rfl
    have f6 : w1.frozen? ⟨w.heap.size + 2, 0, none⟩ = false := y6.frozen 0
    have f7 : w1.frozen? ⟨w.heap.size + 3, 0, none⟩ = false := y7.frozen 0
    clear k0 k1 k2 k3 k4 Hnew hWa x3 x5 x6 x7
    by_cases hlen : loads.length = l.length
    · obtain ⟨n, hn⟩ : ∃ n, l.length = n := ⟨_, rfl⟩
      rw [hn] at hlen hFl hn6 ⊢
      rw [hlen] at hC2 q5 y5 hgen ⊢
      rw [hn] at hgen
      obtain ⟨g, hg⟩ : ∃ g, allIn 0 5 loads = g := ⟨_, rfl⟩
      cases g with
      | false =>
        obtain ⟨rfl, rfl, rfl⟩ : p1 = [] ∧ p2 = 0 ∧ p3 = 4 := by simpa [hg] using hgen
        clear hgen
        have hwi := Lib.hid (hlen ▸ within_calls 0 5 loads A2 c2 w1 (hlen ▸ hC2) : Calls Tryd.prog 53 #[.int .i64 0, .int .i64 5, .slice A2 n c2] w1 fun e w' => e = .returned (.bool (allIn 0 5 loads)) ∧ Below w1.heap.size w1 w')
        rw [hg] at hwi
        clear hg
        gi_wp2_with fail
        refine ⟨trivial, rfl, ?_⟩
        refine (callsIn_wide.2 hwi.out).mono ?_
        rintro e_ w2 ⟨rfl, hb2⟩
        replace hB1 : Below w.heap.size w w2 := hB1.trans (hb2.mono hB1.size)
        replace y6 := y6.step hb2
        replace y7 := y7.step hb2
        replace q6 : w2.cell? ⟨w.heap.size + 2, 0, none⟩ = some (.slice none 0 0) := y6.cell 0 rfl
        replace q7 : w2.cell? ⟨w.heap.size + 3, 0, none⟩ = some (.int .i64 0) := y7.cell 0 rfl
        replace f6 : w2.frozen? ⟨w.heap.size + 2, 0, none⟩ = false := y6.frozen 0
        replace f7 : w2.frozen? ⟨w.heap.size + 3, 0, none⟩ = false := y7.frozen 0
        clear hwi q5
        have g6 := (y6.set 0 (.slice none 0 0)).other (b' := w.heap.size + 3) (by omega) 0 (.int .i64 0)
        have g7 := (y7.other (b' := w.heap.size + 2) (by omega) 0 (.slice none 0 0)).set 0 (.int .i64 0)
        have hB2 : Below w.heap.size w ((w2.setCell ⟨w.heap.size + 2, 0, none⟩ (.slice none 0 0)).setCell ⟨w.heap.size + 3, 0, none⟩ (.int .i64 0)) := (hB1.setCell (p := ⟨w.heap.size + 2, 0, none⟩) (by simp) _).setCell (p := ⟨w.heap.size + 3, 0, none⟩) (by simp) _
        gi_wp2
        refine leaveMs (B := w.heap.size) (T := 0) [] _ (Marks.nil _ _ _) (fun W' hi => ⟨_, Hres.out _ W' _ _ _ rfl rfl rfl (hi.box g6) (hi.box g7), _, rfl, Kd.R_nil _ _ _ _ _, hi.below hB2 (Nat.le_refl _) (Nat.le_refl _)⟩)
      | true =>
        have hbd := maxK_bd loads hg
        have hgen2 : (p1, p2, p3) = (match putO F loads (maxK loads n + 1).toNat with
          | none => (([], 0, 7) : List Int × Nat × Int)
          | some (x, m) => (x, m, 0)) := by simpa [hg] using hgen
        have Hgen := Lib.hid hgen2
        have hwi := Lib.hid (hlen ▸ within_calls 0 5 loads A2 c2 w1 (hlen ▸ hC2) : Calls Tryd.prog 53 #[.int .i64 0, .int .i64 5, .slice A2 n c2] w1 fun e w' => e = .returned (.bool (allIn 0 5 loads)) ∧ Below w1.heap.size w1 w')
        rw [hg] at hwi
        rw [hlen] at hbd
        have Hbd := Lib.hid hbd
        have Hlen := Lib.hid hlen
        clear hg hgen hgen2 hbd hlen
        gi_wp2_with fail
        refine ⟨trivial, rfl, ?_⟩
        refine (callsIn_wide.2 hwi.out).mono ?_
        rintro e_ w2 ⟨rfl, hb2⟩
        replace hB1 : Below w.heap.size w w2 := hB1.trans (hb2.mono hB1.size)
        replace y5 := y5.step hb2
        replace y6 := y6.step hb2
        replace y7 := y7.step hb2
        replace hC2 : Kd.C (Kd.int .i64) w2 A2 n loads := Kd.C_below hC2 hb2
        replace hfu := hfu.below hb2
        replace hme := hme.below hb2
        replace q5 : w2.cell? ⟨w.heap.size + 1, 0, none⟩ = some (.slice A2 n c2) := y5.cell 0 rfl
        have hwsz2 := hb2.size
        clear hwi q6 q7 f6 f7 hb2 hT1
        gi_wp2
        gi_loopw [11, 40] (fun v i W => ∃ k : Nat, k ≤ n ∧ i = .int .i64 k ∧ v = .int .i64 (maxK loads k) ∧ W = w2) (fun _ i _ => n - (intOf i).toNat)
        case atStart => exact ⟨0, Nat.zero_le _, rfl, rfl, rfl⟩
        case round =>
          obtain ⟨k, hk, rfl, rfl, rfl⟩ := hrel
          by_cases hlt : k < n
          · obtain ⟨ad, e', r0⟩ := Kd.at_int hC2 k (by omega) (by omega)
            subst e'
            rw [Int.toNat_natCast] at r0
            have hsucc := Lib.hid (maxK_succ loads k)
            obtain ⟨p, hp⟩ : ∃ p, maxK loads k = p := ⟨_, rfl⟩
            rw [hp] at hsucc ⊢
            clear hp
            gi_wp2
            go_roundw
            case rel => exact ⟨k + 1, by omega, by go_num, by rw [hsucc.out], by first | trivial | rfl⟩
            case measure => simp [intOf]; omega
          · obtain rfl : k = n := by omega
            obtain ⟨d1, d2⟩ := Hbd.out k (Nat.le_refl _)
            obtain ⟨m, hm⟩ : ∃ m : Nat, (m : Int) = maxK loads k + 1 := ⟨(maxK loads k + 1).toNat, by omega⟩
            obtain ⟨mm, hmm⟩ : ∃ mm, maxK loads k = mm := ⟨_, rfl⟩
            rw [hmm] at d1 d2 hm ⊢
            have hm6 : m ≤ 6 := by omega
            have Hmm := Lib.hid hmm
            clear hmm
            obtain ⟨W1, hW1⟩ : ∃ W1, wr.alloc (.cells #[.bool false] 4) = W1 := ⟨_, rfl⟩
            have hb1 : Below wr.heap.size wr W1 := by rw [← hW1]; exact (Below.refl _ _).alloc (Nat.le_refl _) _
            have x14 : Box W1 wr.heap.size #[.bool false] 4 := by rw [← hW1]; exact Box.new _ _ _
            have hlc : Hid (Calls Tryd.prog 84 #[.pointer (some ⟨B, 0, none⟩), .int .i64 (mm + 1)] W1 fun e w' => e = .returned (.func (.func 94) #[] #[.pointer (some ⟨W1.heap.size, 0, none⟩), .pointer (some ⟨W1.heap.size + 1, 0, none⟩)]) ∧ Box w' W1.heap.size #[.pointer (some ⟨B, 0, none⟩)] 91 ∧ Box w' (W1.heap.size + 1) #[.int .i64 m] 3 ∧ Below W1.heap.size W1 w') := Lib.hid (by rw [← hm]; exact lists_calls B m W1)
            have HW1 := Lib.hid hW1
            clear hW1
            gi_wp2_with fail
            refine ⟨trivial, rfl, ?_⟩
            rw [HW1.out]
            refine (callsIn_wide.2 hlc.out).mono ?_
            rintro e_ w3 ⟨rfl, u2, u3, hb3⟩
            have hb13 : Below wr.heap.size wr w3 := hb1.trans (hb3.mono hb1.size)
            have z5 := y5.step hb13
            have z6 := y6.step hb13
            have z7 := y7.step hb13
            have z14 := x14.step hb3
            have hfu3 := hfu.below hb13
            have hme3 := hme.below hb13
            have hB3 : Below w.heap.size w w3 := hB1.trans (hb13.mono hB1.size)
            have hsz1 : wr.heap.size < W1.heap.size := x14.lt
            have hsz2 : W1.heap.size + 1 < w3.heap.size := u3.lt
            obtain ⟨t14, ht14⟩ : ∃ t14, wr.heap.size = t14 := ⟨_, rfl⟩
            obtain ⟨b2, hb2x⟩ : ∃ b2, W1.heap.size = b2 := ⟨_, rfl⟩
            have ht14w : w.heap.size + 4 ≤ t14 := by omega
            have hMw : w.heap.size ≤ M := by omega
            rw [ht14] at z14 hsz1
            rw [hb2x] at u2 u3 hsz1 hsz2
            rw [ht14, hb2x]
            clear hb13 hb3 hb1 x14 hlc ht14 hb2x HW1 hfu hme hB1 y5 y6 y7 q5 hC2 hsz hba hwsz hwsz2
            gi_wp2
            have hmm6 := Lib.hid hm6
            refine wpIn_rangeF (gf := 94) (first := #[]) (lb := #[.pointer (some ⟨b2, 0, none⟩), .pointer (some ⟨b2 + 1, 0, none⟩)]) rfl (enters_of Tryd.func94 (by kernel_rfl) rfl) (lists_iter F hF B M m b2 (b2 + 1) hm6 (PutG w B M F)) (by rintro x args W ⟨v, rfl, _⟩; rfl) (fun X Y h hi => ⟨h.gr, ⟨h.g.1.inert hi, Inert.below h.g.2 hB3.size (Nat.le_refl _) hi⟩, h.me.inert hi, hi.box h.x2, hi.box h.x3⟩) (fun X Y h => KeepBk.kp h.2.1 h.1)
              (fun pre W => PutSt (b2 + 2) (w.heap.size + 2) (w.heap.size + 3) t14 (pre.foldl (putStep2 loads) none) W ∧ Box W (w.heap.size + 1) #[.slice A2 k c2] 25 ∧ Below w.heap.size w W)
              (fun _ _ _ => False)
              (fun pre X Y ⟨h1, h2, h3⟩ hi => ⟨h1.inert hi, hi.box h2, Inert.below h3 hB3.size (Nat.le_refl _) hi⟩)
              (fun pre X Y ⟨h1, h2, h3⟩ st => ⟨h1.kp st.1 st.2.1, st.1.boxm st.2.1 h2, Below.kp h3 st.1 hMw h3.size⟩)
              (fun _ _ _ _ h _ => h) (fun _ _ _ _ h _ => h)
              ⟨⟨⟨.slice none 0 0, OwnI.nil _ _, z6⟩, z7, z14⟩, z5, hB3⟩ ⟨PutG.gr hT hMw, ⟨hfu3, hB3⟩, hme3, u2, u3⟩
              (fun x a' W => ∃ (v : Value), OwnI W (b2 + 2) v x ∧ a' = { tmps := #[.agg #[.int .i64 a, .int .i64 b, .int .i64 c, .int .i64 d, .int .i64 e], .slice A1 k c1, .slice A2 k c2, .pointer (some ⟨w.heap.size, 0, none⟩), undef, .pointer (some ⟨w.heap.size + 1, 0, none⟩), .pointer (some ⟨w.heap.size + 1 + 1, 0, none⟩), .pointer (some ⟨w.heap.size + 1 + 1 + 1, 0, none⟩), .int .i64 0, .pointer (some ⟨B, 0, none⟩), .int .u64 s, .int .i64 mm, undef, u13, .pointer (some ⟨t14, 0, none⟩), v, undef, undef, .tuple #[.pointer (some ⟨B, 0, none⟩), .int .u64 s, .int .i64 0], .agg #[.int .i64 a, .int .i64 b, .int .i64 c, .int .i64 d, .int .i64 e], .slice A1 k c1, .tuple #[.pointer (some ⟨B, 0, none⟩), .int .u64 s, .int .i64 0], .pointer (some ⟨B, 0, none⟩), .int .u64 s, .int .i64 0, .bool false, .int .i64 0, .bool false, undef, .bool false, .slice A2 k c2, .int .i64 k, .slice A1 k c1, .int .i64 k, .bool false, .slice A2 k c2, .bool true, .bool false, .slice A2 k c2, .int .i64 k, .int .i64 k, .bool false, u42, u43, u44, u45, u46, u47, .pointer (some ⟨B, 0, none⟩), .int .i64 mm, .int .i64 (mm + 1), .func (.func 94) #[] #[.pointer (some ⟨b2, 0, none⟩), .pointer (some ⟨b2 + 1, 0, none⟩)], v, undef, undef, undef, undef, undef, undef, undef, undef, undef, undef, undef, undef, undef, undef, undef, undef, undef, undef, undef, undef, undef, undef, undef, undef, undef, undef, undef, undef, undef, undef], defers := [] })
              (fun x a' X Y ⟨v, h1, h2⟩ hi => ⟨v, h1.inert hi, h2⟩) ?assign ?body ?done ?stop
            case assign =>
              rintro l' pre x args W K h0 hv hp ⟨v, rfl, ho⟩ hK
              gi_wp2
              exact hK _ _ (KeepBk.refl _) (FrB.refl _ _) h0 hv ⟨v, ho, rfl⟩
            case body =>
              rintro l' pre x a' W hl ⟨r₀, hr⟩ ⟨h1, h2, h3⟩ hv hp ⟨v, ho, rfl⟩
              have hxl : x.length = k := by
                have hmem : x ∈ listsL F m := by
                  obtain ⟨z, hz⟩ := hp
                  rw [← hz]
                  simp
                rw [genL_len F m F.l.length [] L6.zero (by simp) x hmem]
                exact hFl.out
              obtain ⟨Ax, cx, rfl, _, hCx0⟩ := Kd.R_reads ho.R
              have hCx : Kd.C (Kd.int .i64) W Ax k x := hxl ▸ hCx0
              have hCl : Kd.C (Kd.int .i64) W A2 k loads := by
                have := Kd.C_below hr2 h3
                rw [Hlen.out] at this
                exact this
              have Hxl := Lib.hid hxl
              have c5 : W.cell? ⟨w.heap.size + 1, 0, none⟩ = some (.slice A2 k c2) := h2.cell 0 rfl
              rw [hxl] at ho ⊢
              clear hCx0 hxl
              gi_wp2
              gi_loopw [16, 55] (fun v i wr => ∃ j d : Nat, j ≤ k ∧ i = .int .i64 j ∧ v = .int .i64 (farK x loads j) ∧ wr = W.drewN d) (fun _ i _ => k - (intOf i).toNat)
              case atStart => exact ⟨0, 0, Nat.zero_le _, rfl, rfl, rfl⟩
              case round =>
                obtain ⟨j, d', hj, rfl, rfl, hwr⟩ := hrel
                by_cases hlt2 : j < k
                · obtain ⟨ax, e1, r1⟩ := Kd.at_int hCx j (by omega) (by omega)
                  obtain ⟨al, e2, r2⟩ := Kd.at_int hCl j (by omega) (by omega)
                  subst e1
                  subst e2
                  rw [Int.toNat_natCast] at r1 r2
                  have r1' : wr.cell? (ax.add j) = some (.int .i64 (rd x j)) := by rw [hwr]; exact r1
                  have r2' : wr.cell? (al.add j) = some (.int .i64 (rd loads j)) := by rw [hwr]; exact r2
                  have c5' : wr.cell? ⟨w.heap.size + 1, 0, none⟩ = some (.slice (some al) k c2) := by rw [hwr]; exact c5
                  have hsucc := Lib.hid (farK_succ x loads j)
                  have hfl := farK_le x loads j
                  obtain ⟨fk, hfk⟩ : ∃ fk, farK x loads j = fk := ⟨_, rfl⟩
                  obtain ⟨p, hp1⟩ : ∃ p, rd x j = p := ⟨_, rfl⟩
                  obtain ⟨q, hq1⟩ : ∃ q, rd loads j = q := ⟨_, rfl⟩
                  rw [hfk] at hsucc hfl ⊢
                  rw [hp1] at r1' hsucc
                  rw [hq1] at r2' hsucc
                  have Hwr := Lib.hid hwr
                  clear r1 r2 c5 hfk hp1 hq1 hwr
                  obtain ⟨bq, hbq⟩ : ∃ bq, (p != q) = bq := ⟨_, rfl⟩
                  rw [hbq] at hsucc
                  cases bq with
                  | true =>
                    gi_wp2
                    refine wpIn_region_still_tail 8 (by kernel_rfl) (fun ⟨_, _, h⟩ => h) rfl (by kernel_rfl) ?_
                    simp only [List.take_succ_cons, List.take_zero, List.drop_succ_cons, List.drop_zero]
                    repeat still_step
                    refine wpStill_nil ?_
                    go_wp2
                    gi_wp2
                    go_roundw
                    case rel => exact ⟨j + 1, d' + 1, by omega, by go_num, by rw [hsucc.out]; go_num, by rw [Hwr.out]; rfl⟩
                    case measure => simp [intOf]; omega
                  | false =>
                    gi_wp2
                    refine wpIn_region_still_tail 8 (by kernel_rfl) (fun ⟨_, _, h⟩ => h) rfl (by kernel_rfl) ?_
                    simp only [List.take_succ_cons, List.take_zero, List.drop_succ_cons, List.drop_zero]
                    repeat still_step
                    refine wpStill_nil ?_
                    go_wp2
                    gi_wp2
                    go_roundw
                    case rel => exact ⟨j + 1, d' + 1, by omega, by go_num, by rw [hsucc.out]; go_num, by rw [Hwr.out]; rfl⟩
                    case measure => simp [intOf]; omega
                · obtain rfl : j = k := by omega
                  have hvr : LInv F B M m b2 (b2 + 1) (PutG w B M F) wr := by rw [hwr]; exact hv.drewN d'
                  have h1r : PutSt (b2 + 2) (w.heap.size + 2) (w.heap.size + 3) t14 (pre.foldl (putStep2 loads) none) wr := by rw [hwr]; exact ⟨h1.own, h1.x7, h1.x14⟩
                  have h2r : Box wr (w.heap.size + 1) #[.slice A2 j c2] 25 := by rw [hwr]; exact h2
                  have h3r : Below w.heap.size w wr := by rw [hwr]; exact pw_below_drewN h3 d'
                  have hor : OwnI wr (b2 + 2) (.slice Ax j cx) x := by rw [hwr]; exact ho
                  have kbr : KeepBk W wr := by rw [hwr]; exact KeepBk.drewN W d'
                  have fbr : FrB w3.heap.size W wr := by rw [hwr]; exact FrB.drewN _ W d'
                  have hstep : Hid ((pre ++ [x]).foldl (putStep2 loads) none = putStep2 loads (pre.foldl (putStep2 loads) none) x) := Lib.hid (by simp)
                  have hfl := farK_le x loads j
                  obtain ⟨fk, hfk⟩ : ∃ fk, farK x loads j = fk := ⟨_, rfl⟩
                  have Hfk := Lib.hid hfk
                  rw [hfk] at hfl ⊢
                  clear hfk hwr hv h1 h2 h3 ho c5 hCx hCl hr
                  obtain ⟨st, hst⟩ : ∃ st, pre.foldl (putStep2 loads) none = st := ⟨_, rfl⟩
                  rw [hst] at h1r hstep
                  clear hst
                  obtain ⟨⟨v0, o0, p6⟩, p7, p14⟩ := id h1r
                  have c14 : wr.cell? ⟨t14, 0, none⟩ = some (.bool st.isSome) := p14.cell 0 rfl
                  have c7 : wr.cell? ⟨w.heap.size + 1 + 1 + 1, 0, none⟩ = some (.int .i64 (((st.map (·.2)).getD 0 : Nat) : Int)) := p7.cell 0 rfl
                  have f14 : wr.frozen? ⟨t14, 0, none⟩ = false := p14.frozen 0
                  have f7 : wr.frozen? ⟨w.heap.size + 1 + 1 + 1, 0, none⟩ = false := p7.frozen 0
                  obtain ⟨A0, cc0, rfl⟩ := o0.slice
                  have c6 : wr.cell? ⟨w.heap.size + 1 + 1, 0, none⟩ = some (.slice A0 ((st.map (·.1)).getD []).length cc0) := p6.cell 0 rfl
                  have f6 : wr.frozen? ⟨w.heap.size + 1 + 1, 0, none⟩ = false := p6.frozen 0
                  clear p6 p7 p14 o0
                  cases st with
                  | none =>
                    have hfin := put_store (T := w3.heap.size) (n := fk) hsz2 hsz1 ht14w hvr h1r h2r h3r hor _ rfl
                    have Hfin := Lib.hid hfin
                    have hs2 : Hid ((pre ++ [x]).foldl (putStep2 loads) none = some (x, fk)) := Lib.hid (by rw [hstep.out]; show some (x, farK x loads x.length) = _; rw [Hxl.out, Hfk.out])
                    clear hfin hstep
                    simp only [Option.isSome_none, Option.map_none, Option.getD_none] at c14 c7 c6
                    gi_wp2
                    obtain ⟨t1, t2, t3, t4, t5, t6⟩ := Hfin.out
                    exact ⟨kbr.trans t1, fbr.trans t2, t3, by rw [hs2.out]; exact t4, t5, t6⟩
                  | some r =>
                    obtain ⟨y, mv⟩ := r
                    simp only [Option.isSome_some, Option.map_some, Option.getD_some] at c14 c7 c6
                    by_cases hlt3 : fk < mv
                    · have hd3 : decide ((fk : Int) < (mv : Int)) = true := by simp; omega
                      have hfin := put_store (T := w3.heap.size) (n := fk) hsz2 hsz1 ht14w hvr h1r h2r h3r hor _ rfl
                      have Hfin := Lib.hid hfin
                      have hs2 : Hid ((pre ++ [x]).foldl (putStep2 loads) none = some (x, fk)) := Lib.hid (by rw [hstep.out]; show (if farK x loads x.length < mv then some (x, farK x loads x.length) else some (y, mv)) = _; rw [Hxl.out, Hfk.out, if_pos hlt3])
                      clear hfin hstep
                      gi_wp2
                      obtain ⟨t1, t2, t3, t4, t5, t6⟩ := Hfin.out
                      exact ⟨kbr.trans t1, fbr.trans t2, t3, by rw [hs2.out]; exact t4, t5, t6⟩
                    · have hd3 : decide ((fk : Int) < (mv : Int)) = false := by simp; omega
                      have hs2 : Hid ((pre ++ [x]).foldl (putStep2 loads) none = some (y, mv)) := Lib.hid (by rw [hstep.out]; show (if farK x loads x.length < mv then some (x, farK x loads x.length) else some (y, mv)) = _; rw [Hxl.out, Hfk.out, if_neg hlt3])
                      clear hstep
                      gi_wp2
                      exact ⟨kbr, fbr, hvr, by rw [hs2.out]; exact h1r, h2r, h3r⟩
            case done =>
              rintro D W hD ⟨h1, h2, h3⟩ hv hK
              have hmn : (maxK loads k + 1).toNat = m := by rw [Hmm.out]; omega
              have hgen3 := Hgen.out
              rw [hmn] at hgen3
              unfold putO at hgen3
              obtain ⟨st, hst⟩ : ∃ st, (listsL F m).foldl (putStep2 loads) none = st := ⟨_, rfl⟩
              rw [hst] at h1 hgen3
              clear hst
              obtain ⟨⟨v0, o0, p6⟩, p7, p14⟩ := id h1
              have c14 : W.cell? ⟨t14, 0, none⟩ = some (.bool st.isSome) := p14.cell 0 rfl
              have c7 : W.cell? ⟨w.heap.size + 1 + 1 + 1, 0, none⟩ = some (.int .i64 (((st.map (·.2)).getD 0 : Nat) : Int)) := p7.cell 0 rfl
              have f7 : W.frozen? ⟨w.heap.size + 1 + 1 + 1, 0, none⟩ = false := p7.frozen 0
              obtain ⟨A0, cc0, rfl⟩ := o0.slice
              have c6 : W.cell? ⟨w.heap.size + 1 + 1, 0, none⟩ = some (.slice A0 ((st.map (·.1)).getD []).length cc0) := p6.cell 0 rfl
              have f6 : W.frozen? ⟨w.heap.size + 1 + 1, 0, none⟩ = false := p6.frozen 0
              have hmk : Marks (w.heap.size + 4) (D + 1) [{ target := .collected D, args := #[] }] W := Marks.cons (Marks.nil _ (w.heap.size + 4) _) (by omega) (by omega) (by omega) hK
              cases st with
              | none =>
                obtain ⟨rfl, rfl, rfl⟩ : p1 = [] ∧ p2 = 0 ∧ p3 = 7 := by simpa using hgen3
                simp only [Option.isSome_none, Option.map_none, Option.getD_none] at c14 c7 c6
                have g6 := (p6.set 0 (.slice none 0 0)).other (b' := w.heap.size + 3) (by omega) 0 (.int .i64 0)
                have g7 := (p7.other (b' := w.heap.size + 2) (by omega) 0 (.slice none 0 0)).set 0 (.int .i64 0)
                have hBe : Below w.heap.size w ((W.setCell ⟨w.heap.size + 2, 0, none⟩ (.slice none 0 0)).setCell ⟨w.heap.size + 3, 0, none⟩ (.int .i64 0)) := (h3.setCell (p := ⟨w.heap.size + 2, 0, none⟩) (by simp) _).setCell (p := ⟨w.heap.size + 3, 0, none⟩) (by simp) _
                have hmk2 := hmk.book ((KeepBk.setCell W ⟨w.heap.size + 2, 0, none⟩ (.slice none 0 0)).trans (KeepBk.setCell _ ⟨w.heap.size + 3, 0, none⟩ (.int .i64 0)))
                have Hmk := Lib.hid hmk2
                clear hmk hmk2 hgen3 p6 p7 p14 o0
                gi_wp2
                refine leaveMs (B := w.heap.size + 4) _ _ Hmk.out (fun W' hi => ⟨_, Hres.out _ W' _ _ _ rfl rfl rfl (hi.box g6) (hi.box g7), _, rfl, Kd.R_nil _ _ _ _ _, hi.below hBe (by omega) (Nat.le_refl _)⟩)
              | some r =>
                obtain ⟨y, mv⟩ := r
                obtain ⟨rfl, rfl, rfl⟩ : p1 = y ∧ p2 = mv ∧ p3 = 0 := by simpa using hgen3
                simp only [Option.isSome_some, Option.map_some, Option.getD_some] at c14 c7 c6 o0 p6 p7
                clear hgen3
                obtain ⟨len, hlen⟩ : ∃ len, p1.length = len := ⟨_, rfl⟩
                rw [hlen] at c6 o0 p6
                clear hlen
                have g6 := (p6.drew.set 0 (.slice A0 len cc0)).other (b' := w.heap.size + 3) (by omega) 0 (.int .i64 p2)
                have g7 := (p7.drew.other (b' := w.heap.size + 2) (by omega) 0 (.slice A0 len cc0)).set 0 (.int .i64 p2)
                have s6 := p6.drew.set 0 (.slice A0 len cc0)
                have s7 := p7.drew.other (b' := w.heap.size + 2) (by omega) 0 (.slice A0 len cc0)
                have hBe : Below w.heap.size w ((W.drew.setCell ⟨w.heap.size + 2, 0, none⟩ (.slice A0 len cc0)).setCell ⟨w.heap.size + 3, 0, none⟩ (.int .i64 p2)) := (h3.drew.setCell (p := ⟨w.heap.size + 2, 0, none⟩) (by simp) _).setCell (p := ⟨w.heap.size + 3, 0, none⟩) (by simp) _
                have hmk2 := hmk.book ((KeepBk.drew W).trans ((KeepBk.setCell W.drew ⟨w.heap.size + 2, 0, none⟩ (.slice A0 len cc0)).trans (KeepBk.setCell _ ⟨w.heap.size + 3, 0, none⟩ (.int .i64 p2))))
                have Hmk := Lib.hid hmk2
                have oe : OwnI ((W.drew.setCell ⟨w.heap.size + 2, 0, none⟩ (.slice A0 len cc0)).setCell ⟨w.heap.size + 3, 0, none⟩ (.int .i64 p2)) (b2 + 2) (.slice A0 len cc0) p1 := (o0.drew.farLt (by omega) 0 _).farLt (by omega) 0 _
                have hC0 : PutC (w.heap.size + 2) (w.heap.size + 3) (.slice A0 len cc0) p2 W.drew := ⟨c6, c7⟩
                have hC1 : PutC (w.heap.size + 2) (w.heap.size + 3) (.slice A0 len cc0) p2 (W.drew.setCell ⟨w.heap.size + 2, 0, none⟩ (.slice A0 len cc0)) := ⟨s6.cell 0 rfl, s7.cell 0 rfl⟩
                have hC2' : PutC (w.heap.size + 2) (w.heap.size + 3) (.slice A0 len cc0) p2 ((W.drew.setCell ⟨w.heap.size + 2, 0, none⟩ (.slice A0 len cc0)).setCell ⟨w.heap.size + 3, 0, none⟩ (.int .i64 p2)) := ⟨g6.cell 0 rfl, g7.cell 0 rfl⟩
                clear hmk hmk2 p6 p7 p14 o0
                gi_wp2
                refine wpIn_region_seqN 4 [(0, true), (1, true), (2, false), (3, false)] (PutC (w.heap.size + 2) (w.heap.size + 3) (.slice A0 len cc0) p2) rfl (by kernel_rfl) (by kernel_rfl) hC0 ?_
                iterate 2 (apply seqC_quiet rfl (fun _ => rfl) (by assumption); focus (intro K hK w' hw'; obtain ⟨g0, g1⟩ := hw'; go_simp; exact hK))
                refine seqC_event rfl ?_
                gi_wp2
                refine ⟨hC1, ?_⟩
                refine seqC_event rfl ?_
                gi_wp2
                refine ⟨hC2', ?_⟩
                show wpListIn _ _ _ _ _ _ _ _
                simp only [List.drop_succ_cons, List.drop_zero]
                gi_wp2
                simp only [Qn]
                gi_wp2
                refine leaveMs (B := w.heap.size + 4) _ _ Hmk.out (fun W' hi => ⟨_, Hres.out _ W' _ _ _ rfl rfl rfl (hi.box g6) (hi.box g7), _, rfl, Kd.R_lower (oe.inert hi).R (by omega), hi.below hBe (by omega) (Nat.le_refl _)⟩)
            case stop =>
              rintro D c pre W hD _ h hK
              exact h.elim
    · obtain ⟨rfl, rfl, rfl⟩ : p1 = [] ∧ p2 = 0 ∧ p3 = 4 := by simpa [hlen] using hgen
      clear hgen
      have hne : ((loads.length : Int) != (l.length : Int)) = true := by simp; omega
      have g6 := (y6.set 0 (.slice none 0 0)).other (b' := w.heap.size + 3) (by omega) 0 (.int .i64 0)
      have g7 := (y7.other (b' := w.heap.size + 2) (by omega) 0 (.slice none 0 0)).set 0 (.int .i64 0)
      have hB2 : Below w.heap.size w ((w1.setCell ⟨w.heap.size + 2, 0, none⟩ (.slice none 0 0)).setCell ⟨w.heap.size + 3, 0, none⟩ (.int .i64 0)) := (hB1.setCell (p := ⟨w.heap.size + 2, 0, none⟩) (by simp) _).setCell (p := ⟨w.heap.size + 3, 0, none⟩) (by simp) _
      gi_wp2
      refine leaveMs (B := w.heap.size) (T := 0) [] _ (Marks.nil _ _ _) (fun W' hi => ⟨_, Hres.out _ W' _ _ _ rfl rfl rfl (hi.box g6) (hi.box g7), _, rfl, Kd.R_nil _ _ _ _ _, hi.below hB2 (Nat.le_refl _) (Nat.le_refl _)⟩)
end Go.Proofs.YtbijamlgcebgeaaDoor.Hand

-- part IM
namespace Go.Proofs.YtbijamlgcebgeaaDoor.Hand
open Go.RowKit
section
variable {P : Program} {ops : Array Oper} {md : Region.Mode} {Q : Exit → Act → World → Prop}
end
end Go.Proofs.YtbijamlgcebgeaaDoor.Hand

-- part IO
namespace Go.Proofs.YtbijamlgcebgeaaDoor.Hand
open Go.RowKit
section
variable {P : Program} {ops : Array Oper} {md : Region.Mode}
end
end Go.Proofs.YtbijamlgcebgeaaDoor.Hand

-- part IN
namespace Go.Proofs.YtbijamlgcebgeaaDoor.Hand
open Go.RowKit Go.Shelf Go.Sort Go.Proofs.YtbijamlgcebgeaaDoorW.PrintWords Go.Proofs.YtbijamlgcebgeaaDoorW.PrintMore Go.Proofs.YtbijamlgcebgeaaDoor.Q
attribute [local go_sem] max2_mx min2_mn max_two min_two
end Go.Proofs.YtbijamlgcebgeaaDoor.Hand

-- part Q4
namespace Go.Proofs.YtbijamlgcebgeaaDoor.Q
open Go.RowKit Go.Proofs.YtbijamlgcebgeaaDoorW.PrintWords Go.Proofs.YtbijamlgcebgeaaDoorW.PrintLast Go.Proofs.YtbijamlgcebgeaaDoorW.PrintMore
attribute [local go_sem] max2_int min2_int max_two min_two max_three min_three max_four min_four   -- for this text's walks alone
end Go.Proofs.YtbijamlgcebgeaaDoor.Q

-- part Q5
namespace Go.Proofs.YtbijamlgcebgeaaDoor.Q
open Go.RowKit Go.Proofs.YtbijamlgcebgeaaDoorW.PrintWords Go.Proofs.YtbijamlgcebgeaaDoorW.PrintLast Go.Proofs.YtbijamlgcebgeaaDoorW.PrintMore
attribute [local go_sem] max2_int min2_int max_two min_two max_three min_three max_four min_four   -- for this text's walks alone
end Go.Proofs.YtbijamlgcebgeaaDoor.Q

-- part IP
namespace Go.Proofs.YtbijamlgcebgeaaDoor.Hand
open Go.RowKit Go.Shelf Go.Sort Go.Proofs.YtbijamlgcebgeaaDoorW.PrintWords Go.Proofs.YtbijamlgcebgeaaDoorW.PrintMore Go.Proofs.YtbijamlgcebgeaaDoor.Q
attribute [local go_sem] max2_mx min2_mn max_two min_two
end Go.Proofs.YtbijamlgcebgeaaDoor.Hand

-- part JB
namespace Go.Proofs.YtbijamlgcebgeaaDoor.Hand
open Go.RowKit Go.Shelf Go.Sort Go.Proofs.YtbijamlgcebgeaaDoorW.PrintWords Go.Proofs.YtbijamlgcebgeaaDoorW.PrintMore Go.Proofs.YtbijamlgcebgeaaDoor.Q
section
variable {l : List S74} {load : List Int} {s : Nat}
end
end Go.Proofs.YtbijamlgcebgeaaDoor.Hand

-- part JC
namespace Go.Proofs.YtbijamlgcebgeaaDoor.Hand
open Go.RowKit Go.Shelf Go.Sort Go.Proofs.YtbijamlgcebgeaaDoorW.PrintWords Go.Proofs.YtbijamlgcebgeaaDoorW.PrintMore Go.Proofs.YtbijamlgcebgeaaDoor.Q
section
variable {a b c d e : Int} {l : List S74} {load begun : List Int}
end
theorem rd_snoc_lt {xs : List Int} {y : Int} {j : Nat} (h : j < xs.length) : rd (xs ++ [y]) j = rd xs j := by
  rw [rd_get h, rd_get (by simp; omega), List.getElem_append_left h]
theorem rd_snoc_at (xs : List Int) (y : Int) : rd (xs ++ [y]) (xs.length : Nat) = y := by
  rw [rd_get (by simp)]; simp
theorem Room.get_put (r : Room) (i : Nat) (v : Int) (hi : i < 3) (j : Nat) (hj : j < 3) : (r.put i v).get j = if j = i then v else r.get j := by
  match i, hi, j, hj with
  | 0, _, 0, _ => rfl
  | 0, _, 1, _ => rfl
  | 0, _, 2, _ => rfl
  | 1, _, 0, _ => rfl
  | 1, _, 1, _ => rfl
  | 1, _, 2, _ => rfl
  | 2, _, 0, _ => rfl
  | 2, _, 1, _ => rfl
  | 2, _, 2, _ => rfl
end Go.Proofs.YtbijamlgcebgeaaDoor.Hand

-- part JD
namespace Go.Proofs.YtbijamlgcebgeaaDoor.Hand
open Go.RowKit Go.Shelf Go.Sort Go.Proofs.YtbijamlgcebgeaaDoorW.PrintWords Go.Proofs.YtbijamlgcebgeaaDoorW.PrintMore Go.Proofs.YtbijamlgcebgeaaDoor.Q
end Go.Proofs.YtbijamlgcebgeaaDoor.Hand

-- part QA
namespace Go.Proofs.YtbijamlgcebgeaaDoor.Q
open Go.RowKit Go.Proofs.YtbijamlgcebgeaaDoorW.PrintWords Go.Proofs.YtbijamlgcebgeaaDoorW.PrintLast Go.Proofs.YtbijamlgcebgeaaDoorW.PrintMore
attribute [local go_sem] max2_int min2_int max_two min_two max_three min_three max_four min_four
end Go.Proofs.YtbijamlgcebgeaaDoor.Q

-- part KA
namespace Go.Proofs.YtbijamlgcebgeaaDoor.Hand
open Go.RowKit Go.Shelf Go.Sort Go.Proofs.YtbijamlgcebgeaaDoorW.PrintWords Go.Proofs.YtbijamlgcebgeaaDoorW.PrintMore Go.Proofs.YtbijamlgcebgeaaDoor.Q
theorem ilist_len (s : Nat) : (ilist s).length = lenB s ∧ lenB s ≤ 6 := by
  refine ⟨by simp [ilist, lenB], ?_⟩
  unfold lenB bitsOf
  exact Nat.le_trans (List.length_filter_le _ _) (by simp)
end Go.Proofs.YtbijamlgcebgeaaDoor.Hand

-- part QG
namespace Go.Proofs.YtbijamlgcebgeaaDoor.Q
open Go.RowKit Go.Proofs.YtbijamlgcebgeaaDoorW.PrintWords Go.Proofs.YtbijamlgcebgeaaDoorW.PrintLast Go.Proofs.YtbijamlgcebgeaaDoorW.PrintMore
attribute [local go_sem] max2_int min2_int max_two min_two max_three min_three max_four min_four
end Go.Proofs.YtbijamlgcebgeaaDoor.Q

-- part LA
namespace Go.Proofs.YtbijamlgcebgeaaDoor.Hand
open Go.RowKit Go.Shelf Go.Sort Go.Proofs.YtbijamlgcebgeaaDoorW.PrintWords Go.Proofs.YtbijamlgcebgeaaDoorW.PrintMore Go.Proofs.YtbijamlgcebgeaaDoor.Q
theorem sum_sub (f : Nat → Int) (hf : ∀ i, 0 ≤ f i) : ∀ {is js : List Nat}, is.Sublist js → ∀ a b : Int, a ≤ b → (is.map f).foldl (· + ·) a ≤ (js.map f).foldl (· + ·) b := by
  intro is js h
  induction h with
  | slnil => intro a b h; exact h
  | cons i _ ih => intro a b h; exact ih a (b + f i) (by have := hf i; omega)
  | cons_cons i _ ih => intro a b h; exact ih (a + f i) (b + f i) (by omega)
theorem heat_sub (l : List S74) : ∀ {is js : List Nat}, is.Sublist js → ∀ a b : Int × Int, a.1 ≤ b.1 → b.2 ≤ a.2 →
    (is.foldl (fun h i => (mx h.1 (l.getD i z74).f3.f0, mn h.2 (l.getD i z74).f3.f1)) a).1 ≤ (js.foldl (fun h i => (mx h.1 (l.getD i z74).f3.f0, mn h.2 (l.getD i z74).f3.f1)) b).1 ∧
    (js.foldl (fun h i => (mx h.1 (l.getD i z74).f3.f0, mn h.2 (l.getD i z74).f3.f1)) b).2 ≤ (is.foldl (fun h i => (mx h.1 (l.getD i z74).f3.f0, mn h.2 (l.getD i z74).f3.f1)) a).2 := by
  intro is js h
  induction h with
  | slnil => intro a b h1 h2; exact ⟨h1, h2⟩
  | cons i _ ih =>
    intro a b h1 h2
    refine ih a _ ?_ ?_
    · show a.1 ≤ mx b.1 _; unfold mx; split <;> omega
    · show mn b.2 _ ≤ a.2; unfold mn; split <;> omega
  | cons_cons i _ ih =>
    intro a b h1 h2
    refine ih _ _ ?_ ?_
    · show mx a.1 _ ≤ mx b.1 _; unfold mx; split <;> split <;> omega
    · show mn b.2 _ ≤ mn a.2 _; unfold mn; split <;> split <;> omega
theorem high_sub (l : List S74) : ∀ {is js : List Nat}, is.Sublist js → ∀ a b : Int × Int, b.1 ≤ a.1 → a.2 ≤ b.2 →
    (js.foldl (fun h i => (mn h.1 (l.getD i z74).f1, mx h.2 (l.getD i z74).f1)) b).1 ≤ (is.foldl (fun h i => (mn h.1 (l.getD i z74).f1, mx h.2 (l.getD i z74).f1)) a).1 ∧
    (is.foldl (fun h i => (mn h.1 (l.getD i z74).f1, mx h.2 (l.getD i z74).f1)) a).2 ≤ (js.foldl (fun h i => (mn h.1 (l.getD i z74).f1, mx h.2 (l.getD i z74).f1)) b).2 := by
  intro is js h
  induction h with
  | slnil => intro a b h1 h2; exact ⟨h1, h2⟩
  | cons i _ ih =>
    intro a b h1 h2
    refine ih a _ ?_ ?_
    · show mn b.1 _ ≤ a.1; unfold mn; split <;> omega
    · show a.2 ≤ mx b.2 _; unfold mx; split <;> omega
  | cons_cons i _ ih =>
    intro a b h1 h2
    refine ih _ _ ?_ ?_
    · show mn b.1 _ ≤ mn a.1 _; unfold mn; split <;> split <;> omega
    · show mx a.2 _ ≤ mx b.2 _; unfold mx; split <;> split <;> omega
/-- Room that is nowhere less. -/
def RoomLe (n : Nat) (r s : Room) : Prop := ∀ i, i < n → r.get i ≤ s.get i
theorem barsTry_isSome {g : Room → Option (List Int)} {c : Int} {free : Room} : ∀ (d k : Nat), (barsTry g c free d k).isSome = true ↔ ∃ x, k ≤ x ∧ x < k + d ∧ 0 ≤ free.get x - c ∧ (g (free.put x (free.get x - c))).isSome = true := by
  intro d
  induction d with
  | zero => intro k; simp [barsTry]; omega
  | succ d ih =>
    intro k
    unfold barsTry
    split
    · rename_i hneg
      rw [ih]
      constructor
      · rintro ⟨x, h1, h2, h3, h4⟩; exact ⟨x, by omega, by omega, h3, h4⟩
      · rintro ⟨x, h1, h2, h3, h4⟩
        have : x ≠ k := by rintro rfl; omega
        exact ⟨x, by omega, by omega, h3, h4⟩
    · rename_i hneg
      split
      · rename_i l hl
        simp only [Option.isSome_some, true_iff]
        exact ⟨k, Nat.le_refl _, by omega, by omega, by rw [hl]; rfl⟩
      · rename_i hl
        rw [ih]
        constructor
        · rintro ⟨x, h1, h2, h3, h4⟩; exact ⟨x, by omega, by omega, h3, h4⟩
        · rintro ⟨x, h1, h2, h3, h4⟩
          have : x ≠ k := by rintro rfl; rw [hl] at h4; cases h4
          exact ⟨x, by omega, by omega, h3, h4⟩
theorem bars_sub (F : Furn) (hb : F.bars.toNat ≤ 3) (hc : ∀ i, 0 ≤ (rd_T74 F.l (i : Nat)).f0 + F.gap) : ∀ {is js : List Nat}, is.Sublist js → ∀ r s : Room, RoomLe F.bars.toNat s r → (barsB F js s).isSome = true → (barsB F is r).isSome = true := by
  intro is js h
  induction h with
  | slnil => intro r s _ _; rfl
  | cons i hs ih =>
    intro r s hle h
    unfold barsB at h
    obtain ⟨x, h1, h2, h3, h4⟩ := (barsTry_isSome _ _).1 h
    refine ih r _ ?_ h4
    intro y hy
    rw [Room.get_put _ _ _ (by omega) _ (by omega)]
    have hc' := hc i
    have := hle y hy
    split
    · rename_i hxy; subst hxy; omega
    · exact this
  | cons_cons i hs ih =>
    intro r s hle h
    unfold barsB at h ⊢
    obtain ⟨x, h1, h2, h3, h4⟩ := (barsTry_isSome _ _).1 h
    refine (barsTry_isSome _ _).2 ⟨x, h1, h2, by have := hle x (by omega); omega, ?_⟩
    refine ih _ _ ?_ h4
    intro y hy
    rw [Room.get_put _ _ _ (by omega) _ (by omega), Room.get_put _ _ _ (by omega) _ (by omega)]
    have h5 := hle y hy
    have h6 := hle x (by omega)
    split <;> omega
theorem bits_sub {p s : Nat} (h : p &&& s = p) : (bitsOf p).Sublist (bitsOf s) := by
  unfold bitsOf
  have e : (List.range 6).filter (fun i => p.testBit i) = ((List.range 6).filter (fun i => s.testBit i)).filter (fun i => p.testBit i) := by
    rw [List.filter_filter]
    congr 1
    funext i
    rw [← h, Nat.testBit_and]
    cases p.testBit i <;> cases s.testBit i <;> rfl
  rw [e]
  exact List.filter_sublist
theorem goesB_sub {F : Furn} (hF : F.Ok) {p s : Nat} (h : p &&& s = p) (hi : ∀ i ∈ bitsOf s, i < F.l.length) (hg : goesB F s = true) : goesB F p = true := by
  have hsub := bits_sub h
  unfold goesB highW fitsB at *
  simp only [Bool.and_eq_true, decide_eq_true_eq, Bool.not_eq_true', Bool.or_eq_false_iff, decide_eq_false_iff_not] at hg ⊢
  obtain ⟨h1, ⟨h2, h3⟩, h4⟩ := hg
  have hat : ∀ i : Nat, 0 ≤ (F.l.getD i z74).f2.f1 ∧ 0 ≤ (F.l.getD i z74).f0 := by
    intro i
    rw [List.getD_eq_getElem?_getD]
    by_cases hil : i < F.l.length
    · rw [List.getElem?_eq_getElem hil]
      have := hF.signs _ (List.getElem_mem hil)
      show 0 ≤ (F.l[i]).f2.f1 ∧ 0 ≤ (F.l[i]).f0
      omega
    · rw [List.getElem?_eq_none (by omega)]
      exact ⟨by decide, by decide⟩
  refine ⟨?_, ⟨?_, ?_⟩, ?_⟩
  · have := sum_sub (fun i => (F.l.getD i z74).f2.f1) (fun i => (hat i).1) hsub 0 0 (Int.le_refl _)
    exact Int.le_trans this h1
  · have := heat_sub F.l hsub (0, 1000) (0, 1000) (Int.le_refl _) (Int.le_refl _)
    unfold heatB at h2 ⊢
    omega
  · have := high_sub F.l hsub (100, 0) (100, 0) (Int.le_refl _) (Int.le_refl _)
    unfold alikeB highB at h3 ⊢
    simp only [Bool.not_eq_false', decide_eq_true_eq] at h3 ⊢
    omega
  · have hb := hF.bars
    have hgp := hF.gap
    have := bars_sub F (by omega) (fun i => by have := (hat i).2; unfold rd_T74; simp only [Int.toNat_natCast]; omega) hsub F.empty F.empty (fun _ _ => Int.le_refl _)
    cases hq : barsB F (bitsOf s) F.empty with
    | none => rw [hq] at h4; cases h4
    | some m =>
      have := this (by rw [hq]; rfl)
      cases hq2 : barsB F (bitsOf p) F.empty with
      | none => rw [hq2] at this; cases this
      | some m2 => rfl
end Go.Proofs.YtbijamlgcebgeaaDoor.Hand

-- part QB
namespace Go.Proofs.YtbijamlgcebgeaaDoor.Q
open Go.RowKit Go.Proofs.YtbijamlgcebgeaaDoorW.PrintWords Go.Proofs.YtbijamlgcebgeaaDoorW.PrintLast Go.Proofs.YtbijamlgcebgeaaDoorW.PrintMore
attribute [local go_sem] max2_int min2_int max_two min_two max_three min_three max_four min_four
end Go.Proofs.YtbijamlgcebgeaaDoor.Q

-- part KB
namespace Go.Proofs.YtbijamlgcebgeaaDoor.Hand
open Go.RowKit Go.Shelf Go.Sort Go.Proofs.YtbijamlgcebgeaaDoorW.PrintWords Go.Proofs.YtbijamlgcebgeaaDoorW.PrintMore Go.Proofs.YtbijamlgcebgeaaDoor.Q
end Go.Proofs.YtbijamlgcebgeaaDoor.Hand

-- part QC
namespace Go.Proofs.YtbijamlgcebgeaaDoor.Q
open Go.RowKit Go.Proofs.YtbijamlgcebgeaaDoorW.PrintWords Go.Proofs.YtbijamlgcebgeaaDoorW.PrintLast Go.Proofs.YtbijamlgcebgeaaDoorW.PrintMore
attribute [local go_sem] max2_int min2_int max_two min_two max_three min_three max_four min_four
end Go.Proofs.YtbijamlgcebgeaaDoor.Q

-- part NA
namespace Go.Proofs.YtbijamlgcebgeaaDoor.Hand
open Go.RowKit Go.Shelf Go.Sort Go.Proofs.YtbijamlgcebgeaaDoorW.PrintWords Go.Proofs.YtbijamlgcebgeaaDoorW.PrintMore Go.Proofs.YtbijamlgcebgeaaDoor.Q
/-- All lists of n numbers below m, ascending. -/
def allLs (m : Nat) : Nat → List (List Int)
  | 0 => [[]]
  | n + 1 => (allLs m n).flatMap fun b => (List.range m).map fun j => b ++ [((j : Nat) : Int)]
theorem allLs_succ (m n : Nat) : allLs m (n + 1) = (allLs m n).flatMap fun b => (List.range m).map fun j => b ++ [((j : Nat) : Int)] := rfl
theorem allLs_first (m : Nat) : ∀ n, allLs m (n + 1) = (List.range m).flatMap fun j => (allLs m n).map fun b => ((j : Nat) : Int) :: b := by
  intro n
  induction n with
  | zero => simp [allLs, List.flatMap, List.map_map, Function.comp_def]; induction m <;> simp_all [List.range_succ]
  | succ n ih =>
    rw [allLs_succ m (n + 1)]
    conv => lhs; rw [ih, List.flatMap_assoc]
    congr 1
    funext j
    rw [allLs_succ, List.map_flatMap, List.flatMap_map]
    congr 1
    funext b
    simp
theorem allLs_mem (m : Nat) : ∀ n, ∀ x ∈ allLs m n, x.length = n ∧ ∀ y ∈ x, 0 ≤ y ∧ y < m := by
  intro n
  induction n with
  | zero => intro x hx; simp [allLs] at hx; subst hx; simp
  | succ n ih =>
    intro x hx
    rw [allLs, List.mem_flatMap] at hx
    obtain ⟨b, hb, hx⟩ := hx
    obtain ⟨j, hj, rfl⟩ := List.mem_map.1 hx
    have := ih b hb
    refine ⟨by simp [this.1], ?_⟩
    intro y hy
    rcases List.mem_append.1 hy with h | h
    · exact this.2 y h
    · have : y = j := by simpa using h
      have := List.mem_range.1 hj
      omega
/-- The set of the signs with number j. -/
def setN (l : List Int) (j : Int) : Nat := (List.range l.length).foldl (fun s (i : Nat) => if rd l i = j then s ||| 2 ^ i else s) 0
def setK (l : List Int) (j : Int) (k : Nat) : Nat := (List.range k).foldl (fun s (i : Nat) => if rd l i = j then s ||| 2 ^ i else s) 0
theorem setK_succ (l : List Int) (j : Int) (k : Nat) : setK l j (k + 1) = if rd l k = j then setK l j k ||| 2 ^ k else setK l j k := by simp [setK, List.range_succ]
theorem setK_lt (l : List Int) (j : Int) : ∀ k, setK l j k < 2 ^ k := by
  intro k
  induction k with
  | zero => simp [setK]
  | succ k ih =>
    rw [setK_succ]
    have : 2 ^ k < 2 ^ (k + 1) := Nat.pow_lt_pow_right (by decide) (by omega)
    split
    · exact Nat.or_lt_two_pow (by omega) this
    · omega
theorem setK_congr (l l' : List Int) (j : Int) : ∀ k, (∀ i : Nat, i < k → rd l i = rd l' i) → setK l j k = setK l' j k := by
  intro k
  induction k with
  | zero => intro _; rfl
  | succ k ih => intro h; rw [setK_succ, setK_succ, h k (by omega), ih (fun i hi => h i (by omega))]
theorem setN_snoc (l : List Int) (y j : Int) : setN (l ++ [y]) j = if y = j then setN l j ||| 2 ^ l.length else setN l j := by
  have h1 : setN (l ++ [y]) j = setK (l ++ [y]) j (l.length + 1) := by simp [setN, setK]
  have h2 : setK (l ++ [y]) j l.length = setN l j := setK_congr _ _ j l.length (fun i hi => rd_snoc_lt hi)
  rw [h1, setK_succ, rd_snoc_at, h2]
/-- Whether each load goes. -/
def firedB (F : Furn) (l : List Int) : Bool := (List.range 6).all fun (j : Nat) => goesB F (setN l j)
section
variable {F : Furn} (hF : F.Ok) {l : List Int} (hl : l.length = F.l.length)
include hF hl
end
end Go.Proofs.YtbijamlgcebgeaaDoor.Hand

-- part NB
namespace Go.Proofs.YtbijamlgcebgeaaDoor.Hand
open Go.RowKit Go.Shelf Go.Sort Go.Proofs.YtbijamlgcebgeaaDoorW.PrintWords Go.Proofs.YtbijamlgcebgeaaDoorW.PrintMore Go.Proofs.YtbijamlgcebgeaaDoor.Q
theorem goes_none {F : Furn} (hF : F.Ok) : goesB F 0 = true := by
  have h1 := hF.load
  have h2 := hF.near
  unfold goesB highW fitsB alikeB
  have e : bitsOf 0 = [] := by decide
  rw [e]
  simp [sumB, heatB, highB, barsB, optL]
  omega
theorem sub_of_bits {p s : Nat} (h : ∀ i, p.testBit i = true → s.testBit i = true) : p &&& s = p := by
  apply Nat.eq_of_testBit_eq
  intro i
  rw [Nat.testBit_and]
  cases hp : p.testBit i with
  | false => rfl
  | true => rw [h i hp]; rfl
theorem setK_bits (l : List Int) (j : Int) {k n : Nat} (h : k ≤ n) : ∀ i, (setK l j k).testBit i = true → (setK l j n).testBit i = true := by
  induction n with
  | zero => have : k = 0 := by omega
            subst this; exact fun i h => h
  | succ n ih =>
    by_cases e : k = n + 1
    · subst e; exact fun i h => h
    · intro i hi
      have := ih (by omega) i hi
      rw [setK_succ]
      split
      · rw [Nat.testBit_or, this]; rfl
      · exact this
theorem setN_sub (l b : List Int) (j : Int) : setN l j &&& setN (l ++ b) j = setN l j := by
  refine sub_of_bits ?_
  have h1 : setN l j = setK (l ++ b) j l.length := setK_congr _ _ j l.length (fun i hi => by
    rw [rd_get hi, rd_get (by simp; omega), List.getElem_append_left hi])
  have h2 : setN (l ++ b) j = setK (l ++ b) j (l.length + b.length) := by simp [setN, setK]
  rw [h1, h2]
  exact setK_bits _ _ (by omega)
theorem setN_lt (l : List Int) (j : Int) : setN l j < 2 ^ l.length := setK_lt l j l.length
theorem flatMap_congr' {α β : Type} {f g : α → List β} : ∀ {l : List α}, (∀ x ∈ l, f x = g x) → l.flatMap f = l.flatMap g
  | [], _ => rfl
  | x :: l, h => by
    rw [List.flatMap_cons, List.flatMap_cons, h x (by simp), flatMap_congr' (fun y hy => h y (by simp [hy]))]
theorem genL_filter {F : Furn} (hF : F.Ok) {m : Nat} (hm : m ≤ 6) : ∀ (d : Nat) (l : List Int) (x : L6), l.length + d = F.l.length → (∀ j : Nat, j < 6 → x.get j = setN l j ∧ goesB F (setN l j) = true) →
    genL F m d l x = ((allLs m d).map fun b => l ++ b).filter (firedB F) := by
  intro d
  induction d with
  | zero =>
    intro l x h hx
    have hf : firedB F l = true := by
      unfold firedB
      rw [List.all_eq_true]
      intro j hj
      exact (hx j (List.mem_range.1 hj)).2
    simp [genL, allLs, hf]
  | succ d ih =>
    intro l x h hx
    rw [allLs_first, List.map_flatMap, List.filter_flatMap]
    show (List.range m).flatMap _ = _
    apply flatMap_congr'
    intro j hj
    have hj' := List.mem_range.1 hj
    have hy : setN (l ++ [(j : Int)]) j = x.get j ||| 2 ^ l.length := by rw [setN_snoc, if_pos rfl, (hx j (by omega)).1]
    rw [List.map_map]
    by_cases hg : goesB F (x.get j ||| 2 ^ l.length) = true
    · rw [if_pos hg, ih (l ++ [(j : Int)]) _ (by simp; omega) (by
        intro i hi
        rw [L6.get_put _ _ _ _ (by omega)]
        by_cases hij : i = j
        · subst hij
          rw [if_pos (.inl rfl), hy]
          exact ⟨rfl, hg⟩
        · rw [if_neg (fun h => h.elim hij (fun h => hij (by omega))), setN_snoc, if_neg (by omega)]
          exact hx i hi)]
      congr 1
      apply List.map_congr_left
      intro b _
      simp
    · rw [if_neg hg]
      symm
      rw [List.filter_eq_nil_iff]
      intro L hL
      obtain ⟨b, hb, rfl⟩ := List.mem_map.1 hL
      intro hf
      unfold firedB at hf
      rw [List.all_eq_true] at hf
      have h1 := hf j (List.mem_range.2 (by omega))
      have e : l ++ (j : Int) :: b = (l ++ [(j : Int)]) ++ b := by simp
      have h2 : goesB F (setN ((l ++ [(j : Int)]) ++ b) j) = true := by rw [← e]; exact h1
      have hlen := (allLs_mem m d b hb).1
      have hlt := setN_lt ((l ++ [(j : Int)]) ++ b) j
      rw [show ((l ++ [(j : Int)]) ++ b).length = F.l.length by simp; omega] at hlt
      have h3 := goesB_sub hF (setN_sub (l ++ [(j : Int)]) b j) (bitsOf_below hlt) h2
      rw [hy] at h3
      exact hg h3
theorem listsL_eq {F : Furn} (hF : F.Ok) {m : Nat} (hm : m ≤ 6) : listsL F m = (allLs m F.l.length).filter (firedB F) := by
  unfold listsL
  rw [genL_filter hF hm F.l.length [] L6.zero (by simp) (by
    intro j hj
    have : setN [] (j : Int) = 0 := rfl
    rw [this]
    refine ⟨?_, goes_none hF⟩
    unfold L6.get L6.zero
    simp)]
  simp
end Go.Proofs.YtbijamlgcebgeaaDoor.Hand

-- part QD
namespace Go.Proofs.YtbijamlgcebgeaaDoor.Q
open Go.RowKit Go.Proofs.YtbijamlgcebgeaaDoorW.PrintWords Go.Proofs.YtbijamlgcebgeaaDoorW.PrintLast Go.Proofs.YtbijamlgcebgeaaDoorW.PrintMore
attribute [local go_sem] max2_int min2_int max_two min_two max_three min_three max_four min_four
end Go.Proofs.YtbijamlgcebgeaaDoor.Q

-- part NF
namespace Go.Proofs.YtbijamlgcebgeaaDoor.Hand
open Go.RowKit Go.Shelf Go.Sort Go.Proofs.YtbijamlgcebgeaaDoorW.PrintWords Go.Proofs.YtbijamlgcebgeaaDoorW.PrintMore Go.Proofs.YtbijamlgcebgeaaDoor.Q
section
variable {F : Furn} (hF : F.Ok)
include hF
end
theorem bits_one : ∀ s : Nat, s < 6 → bitsOf (2 ^ s) = [s] := by decide
theorem goes_one {F G : Furn} (h1 : F.bars = G.bars) (h2 : F.length = G.length) (h3 : F.gap = G.gap) (h4 : F.load = G.load) (h5 : F.near = G.near) {s t : Nat} (hs : s < 6) (ht : t < 6) (hl : F.l.getD s z74 = G.l.getD t z74) : goesB F (2 ^ s) = goesB G (2 ^ t) := by
  have hr : rd_T74 F.l (s : Int) = rd_T74 G.l (t : Int) := by unfold rd_T74; simpa using hl
  unfold goesB highW fitsB alikeB Furn.empty
  rw [bits_one s hs, bits_one t ht]
  have hb : ∀ r : Room, barsB F [s] r = barsB G [t] r := by
    intro r
    unfold barsB
    rw [hr, h3, h1]
    rfl
  rw [hb, h1, h2, h3, h4, h5]
  have hl' : F.l[s]?.getD z74 = G.l[t]?.getD z74 := by rw [← List.getD_eq_getElem?_getD, ← List.getD_eq_getElem?_getD, hl]
  simp [sumB, heatB, highB, hl']
section
variable {F : Furn} (hF : F.Ok)
include hF
theorem singles_of (h : (fewestB F).2.2 = true) : ∀ s, s < F.l.length → goesB F (2 ^ s) = true := by
  have hs6 := hF.len
  intro s hs
  unfold fewestB at h
  cases hq : fewestO F (F.l.length + 1) with
  | none => rw [hq] at h; cases h
  | some p =>
    obtain ⟨L, m⟩ := p
    unfold fewestO at hq
    obtain ⟨m', hm', hq⟩ := List.exists_of_findSome?_eq_some hq
    have hm6 := List.mem_range.1 hm'
    cases hh : (listsL F m').head? with
    | none => rw [hh] at hq; cases hq
    | some L' =>
      have hL := List.mem_of_head? hh
      rw [listsL_eq hF (by omega), List.mem_filter] at hL
      obtain ⟨hL1, hL2⟩ := hL
      obtain ⟨e1, e2⟩ := allLs_mem _ _ _ hL1
      have hsl : s < L'.length := by omega
      have hj := e2 _ (List.getElem_mem hsl)
      obtain ⟨j, hj'⟩ : ∃ j : Nat, L'[s] = j := ⟨(L'[s]).toNat, by omega⟩
      unfold firedB at hL2
      rw [List.all_eq_true] at hL2
      have hg := hL2 j (List.mem_range.2 (by omega))
      have hlt := setN_lt L' j
      rw [e1] at hlt
      refine goesB_sub hF (sub_of_bits ?_) (bitsOf_below hlt) hg
      intro i hi
      rw [Nat.testBit_two_pow] at hi
      have : s = i := by simpa using hi
      subst this
      have h1 : setN L' j = setK L' j L'.length := rfl
      rw [h1]
      refine setK_bits L' j (show s + 1 ≤ L'.length by omega) s ?_
      rw [setK_succ, rd_get hsl, if_pos hj', Nat.testBit_or, Nat.testBit_two_pow]
      simp
theorem set_count (n : Nat) (j : Nat) : setK ((List.range n).map Int.ofNat) (j : Int) n = if j < n then 2 ^ j else 0 := by
  have _ := hF
  have key : ∀ k, k ≤ n → setK ((List.range n).map Int.ofNat) (j : Int) k = if j < k then 2 ^ j else 0 := by
    intro k
    induction k with
    | zero => intro _; simp [setK]
    | succ k ih =>
      intro hk
      have hr : rd ((List.range n).map Int.ofNat) (k : Int) = k := by rw [rd_get (by simp; omega)]; simp
      rw [setK_succ, hr, ih (by omega)]
      by_cases h1 : k = j
      · subst h1; simp
      · rw [if_neg (by omega)]
        by_cases h2 : j < k
        · rw [if_pos h2, if_pos (by omega)]
        · rw [if_neg h2, if_neg (by omega)]
  exact key n (Nat.le_refl _)
theorem count_mem (m : Nat) : ∀ n, n ≤ m → (List.range n).map Int.ofNat ∈ allLs m n := by
  have _ := hF
  intro n
  induction n with
  | zero => intro _; simp [allLs]
  | succ n ih =>
    intro hn
    rw [allLs_succ, List.mem_flatMap]
    exact ⟨_, ih (by omega), List.mem_map.2 ⟨n, List.mem_range.2 (by omega), by simp [List.range_succ]⟩⟩
theorem of_singles (h : ∀ s, s < F.l.length → goesB F (2 ^ s) = true) : (fewestB F).2.2 = true := by
  have hs6 := hF.len
  have hmem : (List.range F.l.length).map Int.ofNat ∈ listsL F F.l.length := by
    rw [listsL_eq hF hs6, List.mem_filter]
    refine ⟨count_mem hF _ _ (Nat.le_refl _), ?_⟩
    unfold firedB
    rw [List.all_eq_true]
    intro j hj
    have e : setN ((List.range F.l.length).map Int.ofNat) (j : Int) = setK ((List.range F.l.length).map Int.ofNat) (j : Int) F.l.length := by simp [setN, setK]
    rw [e, set_count hF]
    split
    · rename_i hlt; exact h j hlt
    · exact goes_none hF
  unfold fewestB
  cases hq : fewestO F (F.l.length + 1) with
  | some p => rfl
  | none =>
    unfold fewestO at hq
    rw [List.findSome?_eq_none_iff] at hq
    have := hq F.l.length (List.mem_range.2 (by omega))
    cases hh : listsL F F.l.length with
    | nil => rw [hh] at hmem; cases hmem
    | cons y ys => rw [hh] at this; cases this
end
theorem rest_ok {a b c d e : Int} {l : List S74} (hck : checkF a b c d e l = 0) (h : (fewestB (mkF a b c d e l)).2.2 = true) (i : Nat) (hi : i < l.length) : (fewestB (mkF a b c d e (l.eraseIdx i))).2.2 = true := by
  have hF := check_ok hck
  have hF' := check_ok (check_erase hck i)
  have hl6 : l.length ≤ 6 := hF.len
  have hs := singles_of hF h
  refine of_singles hF' ?_
  intro s hs'
  have hs' : s < (l.eraseIdx i).length := hs'
  rw [List.length_eraseIdx_of_lt hi] at hs'
  by_cases hsi : s < i
  · rw [goes_one (F := mkF a b c d e (l.eraseIdx i)) (G := mkF a b c d e l) rfl rfl rfl rfl rfl (s := s) (t := s) (by omega) (by omega) (by
      show (l.eraseIdx i).getD s z74 = l.getD s z74
      rw [List.getD_eq_getElem?_getD, List.getD_eq_getElem?_getD, List.getElem?_eraseIdx_of_lt hsi])]
    exact hs s (show s < l.length by omega)
  · rw [goes_one (F := mkF a b c d e (l.eraseIdx i)) (G := mkF a b c d e l) rfl rfl rfl rfl rfl (s := s) (t := s + 1) (by omega) (by omega) (by
      show (l.eraseIdx i).getD s z74 = l.getD (s + 1) z74
      rw [List.getD_eq_getElem?_getD, List.getD_eq_getElem?_getD, List.getElem?_eraseIdx_of_ge (by omega)])]
    exact hs (s + 1) (show s + 1 < l.length by omega)
end Go.Proofs.YtbijamlgcebgeaaDoor.Hand

-- part IS
namespace Go.Proofs.YtbijamlgcebgeaaDoor.Hand
open Go.RowKit Go.Shelf Go.Sort Go.Proofs.YtbijamlgcebgeaaDoorW.PrintWords Go.Proofs.YtbijamlgcebgeaaDoorW.PrintMore Go.Proofs.YtbijamlgcebgeaaDoor.Q
def signsL : List S74 := [⟨18, 12, ⟨20, 22⟩, ⟨800, 850⟩⟩, ⟨20, 14, ⟨25, 25⟩, ⟨820, 860⟩⟩, ⟨20, 20, ⟨30, 34⟩, ⟨800, 830⟩⟩, ⟨38, 12, ⟨40, 40⟩, ⟨840, 880⟩⟩, ⟨10, 30, ⟨10, 12⟩, ⟨800, 900⟩⟩]
def signsM : List S74 := [⟨18, 12, ⟨20, 22⟩, ⟨800, 850⟩⟩, ⟨20, 14, ⟨25, 25⟩, ⟨820, 860⟩⟩, ⟨20, 12, ⟨30, 30⟩, ⟨870, 880⟩⟩]
theorem ex1 : goesR 2 40 2 80 10 signsL [0, 1, 2] = (false, true, 0) := by kernel_rfl
theorem ex2 : goesR 2 40 2 100 10 signsL [0, 1, 2] = (true, true, 0) := by kernel_rfl
theorem ex3 : barsR 2 40 2 100 10 signsL [0, 1, 2] = ([0, 0, 1], 0) := by kernel_rfl
theorem ex4 : heatR 2 40 2 100 10 signsL [0, 1, 2] = (820, 830, 0) := by kernel_rfl
theorem ex5 : barsR 2 40 2 100 10 signsL [0, 1, 2, 3] = ([], 7) := by kernel_rfl
theorem ex6 : barR 2 40 2 100 10 signsL [0, 1, 2, 3] = ([2, 3], 0) := by kernel_rfl
theorem ex7 : stillR 2 40 2 100 10 signsL [2] = ([0, 1, 4], 0) := by kernel_rfl
theorem ex8 : loadsR 2 40 2 100 10 signsL = ([0, 0, 1, 0, 1], 0) := by kernel_rfl
theorem ex9 : apartR 2 40 2 100 10 signsL = ([0, 4], 0) := by kernel_rfl
theorem ex10 : dearR 2 40 2 100 10 signsM = ([2], 0) := by kernel_rfl
theorem ex11 : putR 2 40 2 100 10 signsL [0, 0, 0, 1, 0] = ([1, 1, 0, 1, 0], 2, 0) := by kernel_rfl
theorem R_litI (W : World) (xs : List Int) (base n : Nat) (hn : W.heap.size = n) (hb : base ≤ n) (hl : xs.length ≤ 1000) : Kd.R (Kd.int .i64) 3 (W.alloc (.cells (xs.map (Value.int .i64)).toArray 3)) base (fun _ => True) (.slice (some ⟨n, 0, none⟩) xs.length xs.length) xs := by
  subst hn
  refine Kd.R_of_own ?_ (fun _ _ => trivial)
  have := World.ownsRow_lit (base := base) (e := 3) (size := 1) W (xs.map (Value.int .i64)).toArray xs.length hb (by simp [maxLen]; omega) (by simp)
  simpa [encs] using this
theorem C_litI (W : World) (xs : List Int) (n : Nat) (hn : W.heap.size = n) (hl : xs.length ≤ 1000) : Kd.C (Kd.int .i64) (W.alloc (.cells (xs.map (Value.int .i64)).toArray 3)) (some ⟨n, 0, none⟩) xs.length xs :=
  (Kd.R_reads' (R_litI W xs n n hn (Nat.le_refl _) hl)).2.2
set_option maxRecDepth 100000 in
set_option maxHeartbeats 1000000 in
theorem signs_calls (w : World) : Calls Tryd.prog 51 #[] w fun e w' => ∃ v0_ : Value, e = .returned (v0_) ∧ Kd.R k74 74 w' w.heap.size (fun _ => True) v0_ signsL ∧ Below w.heap.size w w' := by
  go_enter Tryd.func51, Tryd.ntmps51
  go_wp2_with fail
  refine (smaltolaw03_span.calls 20 22 _ _ _ rfl).mono ?_
  rintro e_ w1 ⟨rfl, hb1⟩
  go_wp2_with fail
  refine (smaltolaw03_span.calls 800 850 _ _ _ rfl).mono ?_
  rintro e_ w2 ⟨rfl, hb2⟩
  replace hb2 := hb1.trans (hb2.mono hb1.size); clear hb1
  go_wp2_with fail
  refine (smaltolaw03_sign.calls 18 12 20 22 800 850 _ _ _ _ _ _ _ rfl).mono ?_
  rintro e_ w1 ⟨rfl, hb1⟩
  replace hb1 := hb2.trans (hb1.mono hb2.size); clear hb2
  go_wp2_with fail
  refine (smaltolaw03_span.calls 25 25 _ _ _ rfl).mono ?_
  rintro e_ w2 ⟨rfl, hb2⟩
  replace hb2 := hb1.trans (hb2.mono hb1.size); clear hb1
  go_wp2_with fail
  refine (smaltolaw03_span.calls 820 860 _ _ _ rfl).mono ?_
  rintro e_ w1 ⟨rfl, hb1⟩
  replace hb1 := hb2.trans (hb1.mono hb2.size); clear hb2
  go_wp2_with fail
  refine (smaltolaw03_sign.calls 20 14 25 25 820 860 _ _ _ _ _ _ _ rfl).mono ?_
  rintro e_ w2 ⟨rfl, hb2⟩
  replace hb2 := hb1.trans (hb2.mono hb1.size); clear hb1
  go_wp2_with fail
  refine (smaltolaw03_span.calls 30 34 _ _ _ rfl).mono ?_
  rintro e_ w1 ⟨rfl, hb1⟩
  replace hb1 := hb2.trans (hb1.mono hb2.size); clear hb2
  go_wp2_with fail
  refine (smaltolaw03_span.calls 800 830 _ _ _ rfl).mono ?_
  rintro e_ w2 ⟨rfl, hb2⟩
  replace hb2 := hb1.trans (hb2.mono hb1.size); clear hb1
  go_wp2_with fail
  refine (smaltolaw03_sign.calls 20 20 30 34 800 830 _ _ _ _ _ _ _ rfl).mono ?_
  rintro e_ w1 ⟨rfl, hb1⟩
  replace hb1 := hb2.trans (hb1.mono hb2.size); clear hb2
  go_wp2_with fail
  refine (smaltolaw03_span.calls 40 40 _ _ _ rfl).mono ?_
  rintro e_ w2 ⟨rfl, hb2⟩
  replace hb2 := hb1.trans (hb2.mono hb1.size); clear hb1
  go_wp2_with fail
  refine (smaltolaw03_span.calls 840 880 _ _ _ rfl).mono ?_
  rintro e_ w1 ⟨rfl, hb1⟩
  replace hb1 := hb2.trans (hb1.mono hb2.size); clear hb2
  go_wp2_with fail
  refine (smaltolaw03_sign.calls 38 12 40 40 840 880 _ _ _ _ _ _ _ rfl).mono ?_
  rintro e_ w2 ⟨rfl, hb2⟩
  replace hb2 := hb1.trans (hb2.mono hb1.size); clear hb1
  go_wp2_with fail
  refine (smaltolaw03_span.calls 10 12 _ _ _ rfl).mono ?_
  rintro e_ w1 ⟨rfl, hb1⟩
  replace hb1 := hb2.trans (hb1.mono hb2.size); clear hb2
  go_wp2_with fail
  refine (smaltolaw03_span.calls 800 900 _ _ _ rfl).mono ?_
  rintro e_ w2 ⟨rfl, hb2⟩
  replace hb2 := hb1.trans (hb2.mono hb1.size); clear hb1
  go_wp2_with fail
  refine (smaltolaw03_sign.calls 10 30 10 12 800 900 _ _ _ _ _ _ _ rfl).mono ?_
  rintro e_ w1 ⟨rfl, hb1⟩
  replace hb1 := hb2.trans (hb1.mono hb2.size); clear hb2
  go_wp2
  go_ret
  refine ⟨_, rfl, ⟨fun _ _ => trivial, signsL.flatMap fun x => [.int .i64 x.f0, .int .i64 x.f1, .int .i64 x.f2.f0, .int .i64 x.f2.f1, .int .i64 x.f3.f0, .int .i64 x.f3.f1], ?_, ?_⟩, hb1.alloc hb1.size _⟩
  · exact World.ownsRow_lit (base := w.heap.size) (e := 74) (size := 6) w1 (signsL.flatMap fun x => [.int .i64 x.f0, .int .i64 x.f1, .int .i64 x.f2.f0, .int .i64 x.f2.f1, .int .i64 x.f3.f0, .int .i64 x.f3.f1]).toArray 5 hb1.size (by simp [maxLen]) (by rfl)
  · exact Reps.snoc (Reps.snoc (Reps.snoc (Reps.snoc (Reps.snoc (Reps.none _ _) (k74_mkM _ _ _ ⟨18, 12, ⟨20, 22⟩, ⟨800, 850⟩⟩) rfl) (k74_mkM _ _ _ ⟨20, 14, ⟨25, 25⟩, ⟨820, 860⟩⟩) rfl) (k74_mkM _ _ _ ⟨20, 20, ⟨30, 34⟩, ⟨800, 830⟩⟩) rfl) (k74_mkM _ _ _ ⟨38, 12, ⟨40, 40⟩, ⟨840, 880⟩⟩) rfl) (k74_mkM _ _ _ ⟨10, 30, ⟨10, 12⟩, ⟨800, 900⟩⟩) rfl
end Go.Proofs.YtbijamlgcebgeaaDoor.Hand

-- part IT
namespace Go.Proofs.YtbijamlgcebgeaaDoor.Hand
open Go.RowKit Go.Shelf Go.Sort Go.Proofs.YtbijamlgcebgeaaDoorW.PrintWords Go.Proofs.YtbijamlgcebgeaaDoorW.PrintMore Go.Proofs.YtbijamlgcebgeaaDoor.Q
/-- Lists that stand in memory. -/
def Held (L : List (Option Addr × List Int)) (W : World) : Prop := ∀ p ∈ L, Kd.C (Kd.int .i64) W p.1 p.2.length p.2
structure KS (w : World) (L : List (Option Addr × List Int)) (W : World) : Prop where
  tab : TabW W
  held : Held L W
  below : Below w.heap.size w W
theorem KS.step {w W W' : World} {L : List (Option Addr × List Int)} (h : KS w L W) (hb : Below W.heap.size W W') : KS w L W' :=
  ⟨h.tab.below hb, fun p hp => Kd.C_below (h.held p hp) hb, h.below.trans (hb.mono h.below.size)⟩
theorem KS.alloc {w W : World} {L : List (Option Addr × List Int)} (h : KS w L W) (o : Obj) : KS w L (W.alloc o) := h.step ((Below.refl _ _).alloc (Nat.le_refl _) _)
theorem KS.drew {w W : World} {L : List (Option Addr × List Int)} (h : KS w L W) : KS w L W.drew := h.step ((Below.refl _ _).drew)
theorem KS.add {w W : World} {L : List (Option Addr × List Int)} (h : KS w L W) {A : Option Addr} {xs : List Int} (hC : Kd.C (Kd.int .i64) W A xs.length xs) : KS w ((A, xs) :: L) W :=
  ⟨h.tab, fun p hp => by rcases List.mem_cons.1 hp with rfl | hp; · exact hC
                         · exact h.held p hp, h.below⟩
/-- A list that is returned, as it is read. -/
theorem res_C {f : FuncId} {args : Array Value} {w : World} {xs : List Int} {n : Int} (h : Calls Tryd.prog f args w fun e_ w' => ∃ v0_ : Value, e_ = .returned (.tuple #[v0_, .int .i64 n]) ∧ Kd.R (Kd.int .i64) 3 w' w.heap.size (fun _ => True) v0_ xs ∧ Below w.heap.size w w') :
    Calls Tryd.prog f args w fun e_ w' => ∃ A c, e_ = .returned (.tuple #[.slice A xs.length c, .int .i64 n]) ∧ xs.length ≤ c ∧ Kd.C (Kd.int .i64) w' A xs.length xs ∧ Below w.heap.size w w' :=
  h.mono fun e_ w' ⟨v, h1, h2, h3⟩ => by
    obtain ⟨A, c, rfl, hc, hC⟩ := Kd.R_reads h2
    exact ⟨A, c, h1, hc, hC, h3⟩
theorem res_C3 {f : FuncId} {args : Array Value} {w : World} {xs : List Int} {m n : Int} (h : Calls Tryd.prog f args w fun e_ w' => ∃ v0_ : Value, e_ = .returned (.tuple #[v0_, .int .i64 m, .int .i64 n]) ∧ Kd.R (Kd.int .i64) 3 w' w.heap.size (fun _ => True) v0_ xs ∧ Below w.heap.size w w') :
    Calls Tryd.prog f args w fun e_ w' => ∃ A c, e_ = .returned (.tuple #[.slice A xs.length c, .int .i64 m, .int .i64 n]) ∧ xs.length ≤ c ∧ Kd.C (Kd.int .i64) w' A xs.length xs ∧ Below w.heap.size w w' :=
  h.mono fun e_ w' ⟨v, h1, h2, h3⟩ => by
    obtain ⟨A, c, rfl, hc, hC⟩ := Kd.R_reads h2
    exact ⟨A, c, h1, hc, hC, h3⟩
def KnC (bx : Nat) (w' : World) : Prop := w'.cell? ⟨bx, 0, none⟩ = some (.int .i64 820) ∧ w'.cell? ⟨bx, 1, none⟩ = some (.int .i64 830)
theorem KnC.of {bx : Nat} {W : World} (h : Box W bx #[.int .i64 820, .int .i64 830] 36) : KnC bx W := ⟨h.cell 0 rfl, h.cell 1 rfl⟩
attribute [local go_sem high] eqA36
theorem wp_to_wide {P : Program} {o : Oper} {a : Act} {W : World} {next : Act → World → Prop} {Q : Exit → Act → World → Prop} (h : Oper.wp P o a W next Q) : Oper.wpIn Fence.wide 0 P o a W next Q := by
  unfold Oper.wp at h
  unfold Oper.wpIn
  refine ⟨fun _ _ => trivial, ?_⟩
  rw [show Fence.wide.round = none from rfl, Oper.semAt_none]
  generalize (execOp a.eval o).run P W = r at *
  cases r with
  | ok x w' =>
    cases x <;> simp only [Oper.upon] at h <;> simp only [Oper.uponIn]
    case value u => exact h
    case skip => exact h
    case defer d => exact h
    case enter f args => exact ⟨fun hd => by simp [Fence.wide] at hd, callsIn_wide.2 h⟩
    case row row args => exact ⟨fun hd => by simp [Fence.wide] at hd, fun c cs _ => (h c cs).imp fun v hv => hv.imp fun w'' hw => ⟨hw.1, stepsIn_wide.2 hw.2⟩⟩
    all_goals exact h.elim
  | halt x w' =>
    cases x <;> simp only [Oper.upon] at h <;> simp only [Oper.uponIn]
    case panic u => exact h
    all_goals exact h.elim
theorem wpListIn_event {P : Program} {ops : Array Oper} {o : Oper} {rest : List Oper} {a : Act} {W : World} {Kc : Act → World → Prop} {Q : Exit → Act → World → Prop}
    (h : if Region.wanted o (yielded ops a.tmps) = true then Oper.wp P o a W Kc Q else Kc (a.put o.dst undef) W) (hK : ∀ a w, Kc a w → wpListIn Fence.wide 0 P ops Q rest a w) : wpListIn Fence.wide 0 P ops Q (o :: rest) a W := by
  refine wpListIn_step fun K' hK' => ?_
  split
  · rename_i hw
    rw [if_pos hw] at h
    refine wp_to_wide ?_
    exact Oper.wp_mono (fun a w h => hK' a w (hK a w h)) h
  · rename_i hw
    rw [if_neg hw] at h
    exact ⟨fun _ _ => trivial, hK' _ _ (hK _ _ h)⟩
theorem R_litS1 (W : World) (x : S74) : Kd.C k74 (W.alloc (.cells #[.int .i64 x.f0, .int .i64 x.f1, .int .i64 x.f2.f0, .int .i64 x.f2.f1, .int .i64 x.f3.f0, .int .i64 x.f3.f1] 74)) (some ⟨W.heap.size, 0, none⟩) 1 [x] := by
  refine (Kd.R_reads' (d := k74) (e := 74) (base := W.heap.size) (ok := fun _ => True) (n := 1) (c := 1) (xs := [x]) ⟨fun _ _ => trivial, [.int .i64 x.f0, .int .i64 x.f1, .int .i64 x.f2.f0, .int .i64 x.f2.f1, .int .i64 x.f3.f0, .int .i64 x.f3.f1], ?_, ?_⟩).2.2
  · exact World.ownsRow_lit (base := W.heap.size) (e := 74) (size := 6) W #[.int .i64 x.f0, .int .i64 x.f1, .int .i64 x.f2.f0, .int .i64 x.f2.f1, .int .i64 x.f3.f0, .int .i64 x.f3.f1] 1 (Nat.le_refl _) (by simp [maxLen]) (by rfl)
  · exact Reps.snoc (Reps.none _ _) (k74_mkM _ _ _ x) rfl
theorem signs_C (w : World) : Calls Tryd.prog 51 #[] w fun e w' => ∃ A c, e = .returned (.slice A 5 c) ∧ 5 ≤ c ∧ Kd.C k74 w' A signsL.length signsL ∧ Below w.heap.size w w' :=
  (signs_calls w).mono fun e_ w' ⟨v, h1, h2, h3⟩ => by
    obtain ⟨A, c, rfl, hc, hC⟩ := Kd.R_reads h2
    exact ⟨A, c, h1, hc, hC, h3⟩
set_option maxRecDepth 100000 in
set_option maxHeartbeats 4000000 in
theorem known_calls (w : World) (hT : TabW w) : Calls Tryd.prog 13 #[] w fun e_ w' => e_ = .returned (.bool true) ∧ Below w.heap.size w w' := by
  obtain ⟨wa, hwa⟩ : ∃ v, w.alloc (.cells #[.int .i64 0, .int .i64 1, .int .i64 2] 3) = v := ⟨_, rfl⟩
  have hK : KS w [(some ⟨w.heap.size, 0, none⟩, [0, 1, 2])] wa := ⟨hwa ▸ hT.alloc _, fun p hp => by
    obtain rfl := List.mem_singleton.1 hp
    exact hwa ▸ C_litI w [0, 1, 2] _ rfl (by simp), hwa ▸ (Below.refl _ _).alloc (Nat.le_refl _) _⟩
  go_enter Tryd.func13, Tryd.ntmps13
  go_wp2_with fail
  refine (smaltolaw03_bars.calls 80 2 40 2 80 10 _ rfl).mono ?_
  rintro e_ u1 ⟨rfl, hb⟩
  replace hK := hK.step hb
  clear hb
  go_wp2_with fail
  refine (signs_C _).mono ?_
  rintro e_ u2 ⟨A, c, rfl, hc, hS, hb⟩
  replace hK := hK.step hb
  clear hb
  have hcl := goes_exp 2 40 2 80 10 signsL [0, 1, 2] A (some ⟨w.heap.size, 0, none⟩) c 3 _ hK.tab hS (hK.held (some ⟨w.heap.size, 0, none⟩, [0, 1, 2]) (by simp))
  rw [ex1] at hcl
  have Hcl := Lib.hid hcl
  clear hcl hS
  go_wp2_with fail
  refine Hcl.out.mono ?_
  rintro e_ u1 ⟨rfl, hb⟩
  replace hK := hK.step hb
  clear hb Hcl
  go_wp2_with fail
  refine (smaltolaw03_bars.calls 100 2 40 2 100 10 _ rfl).mono ?_
  rintro e_ u1 ⟨rfl, hb⟩
  replace hK := hK.step hb
  clear hb
  go_wp2_with fail
  refine (signs_C _).mono ?_
  rintro e_ u2 ⟨A, c, rfl, hc, hS, hb⟩
  replace hK := hK.step hb
  clear hb
  have hcl := goes_exp 2 40 2 100 10 signsL [0, 1, 2] A (some ⟨w.heap.size, 0, none⟩) c 3 _ hK.tab hS (hK.held (some ⟨w.heap.size, 0, none⟩, [0, 1, 2]) (by simp))
  rw [ex2] at hcl
  have Hcl := Lib.hid hcl
  clear hcl hS
  go_wp2_with fail
  refine Hcl.out.mono ?_
  rintro e_ u1 ⟨rfl, hb⟩
  replace hK := hK.step hb
  clear hb Hcl
  go_wp2_with fail
  refine (smaltolaw03_bars.calls 100 2 40 2 100 10 _ rfl).mono ?_
  rintro e_ u1 ⟨rfl, hb⟩
  replace hK := hK.step hb
  clear hb
  go_wp2_with fail
  refine (signs_C _).mono ?_
  rintro e_ u2 ⟨A, c, rfl, hc, hS, hb⟩
  replace hK := hK.step hb
  clear hb
  have hcl := bars_exp 2 40 2 100 10 signsL [0, 1, 2] A (some ⟨w.heap.size, 0, none⟩) c 3 _ hK.tab hS (hK.held (some ⟨w.heap.size, 0, none⟩, [0, 1, 2]) (by simp))
  rw [ex3] at hcl
  replace hcl := res_C hcl
  have Hcl := Lib.hid hcl
  clear hcl hS
  go_wp2_with fail
  refine Hcl.out.mono ?_
  rintro e_ u1 ⟨A3, c3, rfl, hc3, hC3, hb⟩
  replace hK := hK.step hb
  replace hK := hK.add hC3
  clear hb hC3 Hcl
  go_wp2_with fail
  refine (smaltolaw03_bars.calls 100 2 40 2 100 10 _ rfl).mono ?_
  rintro e_ u1 ⟨rfl, hb⟩
  replace hK := hK.step hb
  clear hb
  go_wp2_with fail
  refine (signs_C _).mono ?_
  rintro e_ u2 ⟨A, c, rfl, hc, hS, hb⟩
  replace hK := hK.step hb
  clear hb
  have hcl := heat_exp 2 40 2 100 10 signsL [0, 1, 2] A (some ⟨w.heap.size, 0, none⟩) c 3 _ hK.tab hS (hK.held (some ⟨w.heap.size, 0, none⟩, [0, 1, 2]) (by simp))
  rw [ex4] at hcl
  have Hcl := Lib.hid hcl
  clear hcl hS
  go_wp2_with fail
  refine Hcl.out.mono ?_
  rintro e_ uh ⟨rfl, hb⟩
  replace hK := hK.step hb
  clear hb Hcl
  obtain ⟨wh, hwh⟩ : ∃ v, uh.alloc (.cells #[.int .i64 820, .int .i64 830] 36) = v := ⟨_, rfl⟩
  replace hK : KS w _ wh := hwh ▸ hK.alloc _
  have hx : Box wh uh.heap.size #[.int .i64 820, .int .i64 830] 36 := hwh ▸ Box.new _ _ _
  go_wp2_with fail
  refine (smaltolaw03_bars.calls 100 2 40 2 100 10 _ rfl).mono ?_
  rintro e_ u1 ⟨rfl, hb⟩
  replace hK := hK.step hb
  replace hx := hx.step hb
  clear hb
  go_wp2_with fail
  refine (signs_C _).mono ?_
  rintro e_ u2 ⟨A, c, rfl, hc, hS, hb⟩
  replace hK := hK.step hb
  replace hx := hx.step hb
  clear hb
  have hcl := bars_exp 2 40 2 100 10 signsL [0, 1, 2, 3] A (some ⟨u2.heap.size, 0, none⟩) c 4 _ (hK.alloc _).tab (Kd.C_alloc hS _) (C_litI u2 [0, 1, 2, 3] _ rfl (by simp))
  rw [ex5] at hcl
  replace hcl := res_C hcl
  have Hcl := Lib.hid hcl
  clear hcl hS
  go_wp2_with fail
  refine Hcl.out.mono ?_
  rintro e_ u1 ⟨A5, c5, rfl, hc5, hC5, hb⟩
  replace hK := (hK.alloc _).step hb
  replace hx := (hx.alloc _).step hb
  clear hb hC5 Hcl
  go_wp2_with fail
  refine (smaltolaw03_bars.calls 100 2 40 2 100 10 _ rfl).mono ?_
  rintro e_ u1 ⟨rfl, hb⟩
  replace hK := hK.step hb
  replace hx := hx.step hb
  clear hb
  go_wp2_with fail
  refine (signs_C _).mono ?_
  rintro e_ u2 ⟨A, c, rfl, hc, hS, hb⟩
  replace hK := hK.step hb
  replace hx := hx.step hb
  clear hb
  have hcl := bar_exp 2 40 2 100 10 signsL [0, 1, 2, 3] A (some ⟨u2.heap.size, 0, none⟩) c 4 _ (hK.alloc _).tab (Kd.C_alloc hS _) (C_litI u2 [0, 1, 2, 3] _ rfl (by simp))
  rw [ex6] at hcl
  replace hcl := res_C hcl
  have Hcl := Lib.hid hcl
  clear hcl hS
  go_wp2_with fail
  refine Hcl.out.mono ?_
  rintro e_ u1 ⟨A6, c6, rfl, hc6, hC6, hb⟩
  replace hK := (hK.alloc _).step hb
  replace hx := (hx.alloc _).step hb
  replace hK := hK.add hC6
  clear hb hC6 Hcl
  go_wp2_with fail
  refine (smaltolaw03_bars.calls 100 2 40 2 100 10 _ rfl).mono ?_
  rintro e_ u1 ⟨rfl, hb⟩
  replace hK := hK.step hb
  replace hx := hx.step hb
  clear hb
  go_wp2_with fail
  refine (signs_C _).mono ?_
  rintro e_ u2 ⟨A, c, rfl, hc, hS, hb⟩
  replace hK := hK.step hb
  replace hx := hx.step hb
  clear hb
  have hcl := still_exp 2 40 2 100 10 signsL [2] A (some ⟨u2.heap.size, 0, none⟩) c 1 _ (hK.alloc _).tab (Kd.C_alloc hS _) (C_litI u2 [2] _ rfl (by simp))
  rw [ex7] at hcl
  replace hcl := res_C hcl
  have Hcl := Lib.hid hcl
  clear hcl hS
  go_wp2_with fail
  refine Hcl.out.mono ?_
  rintro e_ u1 ⟨A7, c7, rfl, hc7, hC7, hb⟩
  replace hK := (hK.alloc _).step hb
  replace hx := (hx.alloc _).step hb
  replace hK := hK.add hC7
  clear hb hC7 Hcl
  go_wp2_with fail
  refine (smaltolaw03_bars.calls 100 2 40 2 100 10 _ rfl).mono ?_
  rintro e_ u1 ⟨rfl, hb⟩
  replace hK := hK.step hb
  replace hx := hx.step hb
  clear hb
  go_wp2_with fail
  refine (signs_C _).mono ?_
  rintro e_ u2 ⟨A, c, rfl, hc, hS, hb⟩
  replace hK := hK.step hb
  replace hx := hx.step hb
  clear hb
  have hcl := loads_exp 2 40 2 100 10 signsL A c _ hK.tab hS
  rw [ex8] at hcl
  replace hcl := res_C hcl
  have Hcl := Lib.hid hcl
  clear hcl hS
  go_wp2_with fail
  refine Hcl.out.mono ?_
  rintro e_ u1 ⟨A8, c8, rfl, hc8, hC8, hb⟩
  replace hK := hK.step hb
  replace hx := hx.step hb
  replace hK := hK.add hC8
  clear hb hC8 Hcl
  go_wp2_with fail
  refine (smaltolaw03_bars.calls 100 2 40 2 100 10 _ rfl).mono ?_
  rintro e_ u1 ⟨rfl, hb⟩
  replace hK := hK.step hb
  replace hx := hx.step hb
  clear hb
  go_wp2_with fail
  refine (signs_C _).mono ?_
  rintro e_ u2 ⟨A, c, rfl, hc, hS, hb⟩
  replace hK := hK.step hb
  replace hx := hx.step hb
  clear hb
  have hcl := apart_exp 2 40 2 100 10 signsL A c _ hK.tab hS
  rw [ex9] at hcl
  replace hcl := res_C hcl
  have Hcl := Lib.hid hcl
  clear hcl hS
  go_wp2_with fail
  refine Hcl.out.mono ?_
  rintro e_ u1 ⟨A9, c9, rfl, hc9, hC9, hb⟩
  replace hK := hK.step hb
  replace hx := hx.step hb
  replace hK := hK.add hC9
  clear hb hC9 Hcl
  go_wp2
  refine (wpIn_wide (n := 0)).1 ?_
  refine wpIn_region_seqN 13 [(0, false), (1, false), (2, true), (3, false), (4, false), (5, false), (6, false), (7, false), (8, false), (9, true), (10, true), (11, true), (12, true)] (fun _ => True) rfl (by kernel_rfl) (by kernel_rfl) trivial ?_
  replace hK := hK.drew
  replace hx := hx.drew
  refine seqC_event rfl ?_
  gi_wp2_with fail
  refine ⟨trivial, rfl, ?_⟩
  refine (callsIn_wide.2 (smaltolaw03_bars.calls 100 2 40 2 100 10 _ rfl)).mono ?_
  rintro e_ u1 ⟨rfl, hb⟩
  replace hK := hK.step hb
  replace hx := hx.step hb
  clear hb
  gi_wp2
  refine ⟨trivial, ?_⟩
  refine seqC_event rfl ?_
  gi_wp2_with fail
  refine ⟨trivial, rfl, ?_⟩
  refine (callsIn_wide.2 (signs_calls _)).mono ?_
  rintro e_ u2 ⟨v, rfl, hR, hU⟩
  obtain ⟨g, cc, cur, rfl, hbg, hcc, _, hg, hcs⟩ := R_form hR (by simp [signsL])
  clear hg hcs
  simp only [signsL, List.length_cons, List.length_nil, Nat.reduceAdd] at hcc
  gi_wp2
  refine ⟨trivial, ?_⟩
  have hc2 : ((2 : Int) ≤ cc) = True := eq_true (by omega)
  apply seqC_quiet rfl (fun _ => rfl) trivial
  · intro K hK w' hw'
    go_simp
    exact hK
  refine seqC_event rfl ?_
  gi_wp2_with fail
  refine ⟨trivial, rfl, ?_⟩
  refine (callsIn_wide.2 (smaltolaw03_span.calls 30 30 _ _ _ rfl)).mono ?_
  rintro e_ u3 ⟨rfl, hb⟩
  replace hR := Kd.R_below hR hb
  replace hU := hU.trans (hb.mono hU.size)
  clear hb
  gi_wp2
  refine ⟨trivial, ?_⟩
  refine seqC_event rfl ?_
  gi_wp2_with fail
  refine ⟨trivial, rfl, ?_⟩
  refine (callsIn_wide.2 (smaltolaw03_span.calls 870 880 _ _ _ rfl)).mono ?_
  rintro e_ u4 ⟨rfl, hb⟩
  replace hR := Kd.R_below hR hb
  replace hU := hU.trans (hb.mono hU.size)
  clear hb
  gi_wp2
  refine ⟨trivial, ?_⟩
  refine seqC_event rfl ?_
  gi_wp2_with fail
  refine ⟨trivial, rfl, ?_⟩
  refine (callsIn_wide.2 (smaltolaw03_sign.calls 20 12 30 30 870 880 _ _ _ _ _ _ _ rfl)).mono ?_
  rintro e_ u5 ⟨rfl, hb⟩
  replace hR := Kd.R_below hR hb
  replace hU := hU.trans (hb.mono hU.size)
  clear hb
  gi_wp2
  refine ⟨trivial, ?_⟩
  refine seqC_event rfl ?_
  gi_wp2
  refine ⟨trivial, ?_⟩
  refine seqC_event rfl ?_
  have hsz := hU.size
  refine wpListIn_event (Kd.R_append_rows_step k74 (w0 := u1) u1.heap.size rfl (.tmp 94) (.tmp 98) 24 74 (.agg #[(.int .i64 0), (.int .i64 0), (.int .i64 0), (.int .i64 0), (.int .i64 0), (.int .i64 0)]) 48 rfl Tryd.underlying24 info74 rfl (by decide) (by omega) (.slice (some ⟨g, 0, none⟩) 2 cc) (signsL.take 2) [⟨20, 12, ⟨30, 30⟩, ⟨870, 880⟩⟩] (some ⟨u5.heap.size, 0, none⟩) 1 1 (fun _ => True) (fun _ => False) rfl rfl (Kd.R_take (Kd.R_alloc hR _) (by simp [signsL])) (R_litS1 u5 ⟨20, 12, ⟨30, 30⟩, ⟨870, 880⟩⟩) (fun x cs h => by obtain rfl := k74_open h; exact k74_mkM _ _ _ x) (fun _ h => h.elim) (fun _ _ => trivial) (hU.alloc hU.size _) (by simp; omega) (by simp [signsL]) ?_) (fun _ _ h => h)
  intro v1 w1 ho1 hb1 hg1 hat1
  obtain ⟨A1, c1, hv1, hc1, hS⟩ := Kd.R_reads ho1
  replace hv1 : v1 = .slice A1 3 c1 := hv1
  subst hv1
  replace hK := hK.step hb1
  replace hx := hx.step hb1
  replace hS : Kd.C k74 w1 A1 signsM.length signsM := hS
  have hcl := dear_exp 2 40 2 100 10 signsM A1 c1 _ hK.tab hS
  rw [ex10] at hcl
  replace hcl := res_C hcl
  have Hcl := Lib.hid hcl
  clear hcl hS ho1 hg1 hat1 hR hU hb1 hsz
  gi_wp2
  refine seqC_event rfl ?_
  gi_wp2_with fail
  refine ⟨trivial, rfl, ?_⟩
  refine (callsIn_wide.2 Hcl.out).mono ?_
  rintro e_ u1 ⟨A10, c10, rfl, hc10, hC10, hb⟩
  replace hK := hK.step hb
  replace hx := hx.step hb
  replace hK := hK.add hC10
  clear hb hC10 Hcl
  gi_wp2
  refine ⟨trivial, ?_⟩
  iterate 4
    apply seqC_quiet rfl (fun _ => rfl) trivial
    · intro K hK w' hw'
      go_simp
      exact hK
  show wpListIn _ _ _ _ _ _ _ _
  try simp only [List.drop_succ_cons, List.drop_zero]
  gi_wp2
  try simp only [Qn]
  go_wp2_with fail
  refine (smaltolaw03_bars.calls 100 2 40 2 100 10 _ rfl).mono ?_
  rintro e_ u1 ⟨rfl, hb⟩
  replace hK := hK.step hb
  replace hx := hx.step hb
  clear hb
  go_wp2_with fail
  refine (signs_C _).mono ?_
  rintro e_ u2 ⟨A, c, rfl, hc, hS, hb⟩
  replace hK := hK.step hb
  replace hx := hx.step hb
  clear hb
  have hcl := put_exp 2 40 2 100 10 signsL [0, 0, 0, 1, 0] A (some ⟨u2.heap.size, 0, none⟩) c 5 _ (hK.alloc _).tab (Kd.C_alloc hS _) (C_litI u2 [0, 0, 0, 1, 0] _ rfl (by simp))
  rw [ex11] at hcl
  replace hcl := res_C3 hcl
  have Hcl := Lib.hid hcl
  clear hcl hS
  go_wp2_with fail
  refine Hcl.out.mono ?_
  rintro e_ u1 ⟨A11, c11, rfl, hc11, hC11, hb⟩
  replace hK := (hK.alloc _).step hb
  replace hx := (hx.alloc _).step hb
  replace hK := hK.add hC11
  clear hb hC11 Hcl
  go_wp2
  refine (wpIn_wide (n := 0)).1 ?_
  replace hK := hK.drew
  replace hx := hx.drew
  have hC := KnC.of hx
  refine wpIn_region_seqN 52 [(0, true), (1, true), (2, true), (3, true), (4, true), (5, true), (6, true), (7, true), (8, true), (9, true), (10, false), (11, false), (12, true), (13, true), (14, true), (15, false), (16, true), (17, true), (18, true), (19, true), (20, false), (21, false), (22, true), (23, true), (24, true), (25, false), (26, false), (27, true), (28, true), (29, true), (30, false), (31, false), (32, true), (33, true), (34, true), (35, false), (36, false), (37, true), (38, true), (39, true), (40, false), (41, false), (42, true), (43, true), (44, true), (45, false), (46, false), (47, true), (48, true), (49, true), (50, true), (51, true)] (KnC uh.heap.size) rfl (by kernel_rfl) (by kernel_rfl) hC ?_
  apply seqC_quiet rfl (fun _ => rfl) (by assumption)
  · intro K hK w' hw'
    obtain ⟨g0, g1⟩ := hw'
    go_simp
    exact hK
  apply seqC_quiet rfl (fun _ => rfl) (by assumption)
  · intro K hK w' hw'
    obtain ⟨g0, g1⟩ := hw'
    go_simp
    exact hK
  apply seqC_quiet rfl (fun _ => rfl) (by assumption)
  · intro K hK w' hw'
    obtain ⟨g0, g1⟩ := hw'
    go_simp
    exact hK
  apply seqC_quiet rfl (fun _ => rfl) (by assumption)
  · intro K hK w' hw'
    obtain ⟨g0, g1⟩ := hw'
    go_simp
    exact hK
  apply seqC_quiet rfl (fun _ => rfl) (by assumption)
  · intro K hK w' hw'
    obtain ⟨g0, g1⟩ := hw'
    go_simp
    exact hK
  apply seqC_quiet rfl (fun _ => rfl) (by assumption)
  · intro K hK w' hw'
    obtain ⟨g0, g1⟩ := hw'
    go_simp
    exact hK
  apply seqC_quiet rfl (fun _ => rfl) (by assumption)
  · intro K hK w' hw'
    obtain ⟨g0, g1⟩ := hw'
    go_simp
    exact hK
  apply seqC_quiet rfl (fun _ => rfl) (by assumption)
  · intro K hK w' hw'
    obtain ⟨g0, g1⟩ := hw'
    go_simp
    exact hK
  apply seqC_quiet rfl (fun _ => rfl) (by assumption)
  · intro K hK w' hw'
    obtain ⟨g0, g1⟩ := hw'
    go_simp
    exact hK
  apply seqC_quiet rfl (fun _ => rfl) (by assumption)
  · intro K hK w' hw'
    obtain ⟨g0, g1⟩ := hw'
    go_simp
    exact hK
  have hl := C_litI (u1.drew) [0, 0, 1] _ rfl (by simp)
  replace hK := hK.alloc (.cells ([0, 0, 1].map (Value.int .i64)).toArray 3)
  replace hx := hx.alloc (.cells ([0, 0, 1].map (Value.int .i64)).toArray 3)
  replace hC := KnC.of hx
  refine seqC_event rfl ?_
  gi_wp2
  refine ⟨hC, ?_⟩
  have hcl := smaltoref03_Ints.calls 20 A3 c3 [0, 0, 1] _ 3 [0, 0, 1] true _ (hK.held (A3, [0, 0, 1]) (by simp)) hc3 hl (by simp) (by kernel_rfl)
  have Hcl := Lib.hid hcl
  clear hcl hl
  refine seqC_event rfl ?_
  gi_wp2_with fail
  refine ⟨trivial, rfl, ?_⟩
  refine (callsIn_wide.2 Hcl.out).mono ?_
  rintro e_ q1 ⟨rfl, hd⟩
  have hb := Drawn0.below hd
  replace hK := hK.step hb
  replace hx := hx.step hb
  replace hC := KnC.of hx
  clear hb hd Hcl
  gi_wp2
  refine ⟨hC, ?_⟩
  apply seqC_quiet rfl (fun _ => rfl) (by assumption)
  · intro K hK w' hw'
    obtain ⟨g0, g1⟩ := hw'
    go_simp
    exact hK
  apply seqC_quiet rfl (fun _ => rfl) (by assumption)
  · intro K hK w' hw'
    obtain ⟨g0, g1⟩ := hw'
    go_simp
    exact hK
  apply seqC_quiet rfl (fun _ => rfl) (by assumption)
  · intro K hK w' hw'
    obtain ⟨g0, g1⟩ := hw'
    go_simp
    exact hK
  refine seqC_event rfl ?_
  gi_wp2_with fail
  refine ⟨trivial, rfl, ?_⟩
  refine (callsIn_wide.2 (smaltolaw03_span.calls 820 830 _ _ _ rfl)).mono ?_
  rintro e_ q2 ⟨rfl, hb⟩
  replace hK := hK.step hb
  replace hx := hx.step hb
  replace hC := KnC.of hx
  clear hb
  gi_wp2
  refine ⟨hC, ?_⟩
  apply seqC_quiet rfl (fun _ => rfl) (by assumption)
  · intro K hK w' hw'
    obtain ⟨g0, g1⟩ := hw'
    go_simp
    exact hK
  apply seqC_quiet rfl (fun _ => rfl) (by assumption)
  · intro K hK w' hw'
    obtain ⟨g0, g1⟩ := hw'
    go_simp
    exact hK
  apply seqC_quiet rfl (fun _ => rfl) (by assumption)
  · intro K hK w' hw'
    obtain ⟨g0, g1⟩ := hw'
    go_simp
    exact hK
  apply seqC_quiet rfl (fun _ => rfl) (by assumption)
  · intro K hK w' hw'
    obtain ⟨g0, g1⟩ := hw'
    go_simp
    exact hK
  have hl := C_litI (q2) [2, 3] _ rfl (by simp)
  replace hK := hK.alloc (.cells ([2, 3].map (Value.int .i64)).toArray 3)
  replace hx := hx.alloc (.cells ([2, 3].map (Value.int .i64)).toArray 3)
  replace hC := KnC.of hx
  refine seqC_event rfl ?_
  gi_wp2
  refine ⟨hC, ?_⟩
  have hcl := smaltoref03_Ints.calls 20 A6 c6 [2, 3] _ 2 [2, 3] true _ (hK.held (A6, [2, 3]) (by simp)) hc6 hl (by simp) (by kernel_rfl)
  have Hcl := Lib.hid hcl
  clear hcl hl
  refine seqC_event rfl ?_
  gi_wp2_with fail
  refine ⟨trivial, rfl, ?_⟩
  refine (callsIn_wide.2 Hcl.out).mono ?_
  rintro e_ q3 ⟨rfl, hd⟩
  have hb := Drawn0.below hd
  replace hK := hK.step hb
  replace hx := hx.step hb
  replace hC := KnC.of hx
  clear hb hd Hcl
  gi_wp2
  refine ⟨hC, ?_⟩
  apply seqC_quiet rfl (fun _ => rfl) (by assumption)
  · intro K hK w' hw'
    obtain ⟨g0, g1⟩ := hw'
    go_simp
    exact hK
  apply seqC_quiet rfl (fun _ => rfl) (by assumption)
  · intro K hK w' hw'
    obtain ⟨g0, g1⟩ := hw'
    go_simp
    exact hK
  apply seqC_quiet rfl (fun _ => rfl) (by assumption)
  · intro K hK w' hw'
    obtain ⟨g0, g1⟩ := hw'
    go_simp
    exact hK
  have hl := C_litI (q3) [0, 1, 4] _ rfl (by simp)
  replace hK := hK.alloc (.cells ([0, 1, 4].map (Value.int .i64)).toArray 3)
  replace hx := hx.alloc (.cells ([0, 1, 4].map (Value.int .i64)).toArray 3)
  replace hC := KnC.of hx
  refine seqC_event rfl ?_
  gi_wp2
  refine ⟨hC, ?_⟩
  have hcl := smaltoref03_Ints.calls 20 A7 c7 [0, 1, 4] _ 3 [0, 1, 4] true _ (hK.held (A7, [0, 1, 4]) (by simp)) hc7 hl (by simp) (by kernel_rfl)
  have Hcl := Lib.hid hcl
  clear hcl hl
  refine seqC_event rfl ?_
  gi_wp2_with fail
  refine ⟨trivial, rfl, ?_⟩
  refine (callsIn_wide.2 Hcl.out).mono ?_
  rintro e_ q4 ⟨rfl, hd⟩
  have hb := Drawn0.below hd
  replace hK := hK.step hb
  replace hx := hx.step hb
  replace hC := KnC.of hx
  clear hb hd Hcl
  gi_wp2
  refine ⟨hC, ?_⟩
  apply seqC_quiet rfl (fun _ => rfl) (by assumption)
  · intro K hK w' hw'
    obtain ⟨g0, g1⟩ := hw'
    go_simp
    exact hK
  apply seqC_quiet rfl (fun _ => rfl) (by assumption)
  · intro K hK w' hw'
    obtain ⟨g0, g1⟩ := hw'
    go_simp
    exact hK
  apply seqC_quiet rfl (fun _ => rfl) (by assumption)
  · intro K hK w' hw'
    obtain ⟨g0, g1⟩ := hw'
    go_simp
    exact hK
  have hl := C_litI (q4) [0, 0, 1, 0, 1] _ rfl (by simp)
  replace hK := hK.alloc (.cells ([0, 0, 1, 0, 1].map (Value.int .i64)).toArray 3)
  replace hx := hx.alloc (.cells ([0, 0, 1, 0, 1].map (Value.int .i64)).toArray 3)
  replace hC := KnC.of hx
  refine seqC_event rfl ?_
  gi_wp2
  refine ⟨hC, ?_⟩
  have hcl := smaltoref03_Ints.calls 20 A8 c8 [0, 0, 1, 0, 1] _ 5 [0, 0, 1, 0, 1] true _ (hK.held (A8, [0, 0, 1, 0, 1]) (by simp)) hc8 hl (by simp) (by kernel_rfl)
  have Hcl := Lib.hid hcl
  clear hcl hl
  refine seqC_event rfl ?_
  gi_wp2_with fail
  refine ⟨trivial, rfl, ?_⟩
  refine (callsIn_wide.2 Hcl.out).mono ?_
  rintro e_ q5 ⟨rfl, hd⟩
  have hb := Drawn0.below hd
  replace hK := hK.step hb
  replace hx := hx.step hb
  replace hC := KnC.of hx
  clear hb hd Hcl
  gi_wp2
  refine ⟨hC, ?_⟩
  apply seqC_quiet rfl (fun _ => rfl) (by assumption)
  · intro K hK w' hw'
    obtain ⟨g0, g1⟩ := hw'
    go_simp
    exact hK
  apply seqC_quiet rfl (fun _ => rfl) (by assumption)
  · intro K hK w' hw'
    obtain ⟨g0, g1⟩ := hw'
    go_simp
    exact hK
  apply seqC_quiet rfl (fun _ => rfl) (by assumption)
  · intro K hK w' hw'
    obtain ⟨g0, g1⟩ := hw'
    go_simp
    exact hK
  have hl := C_litI (q5) [0, 4] _ rfl (by simp)
  replace hK := hK.alloc (.cells ([0, 4].map (Value.int .i64)).toArray 3)
  replace hx := hx.alloc (.cells ([0, 4].map (Value.int .i64)).toArray 3)
  replace hC := KnC.of hx
  refine seqC_event rfl ?_
  gi_wp2
  refine ⟨hC, ?_⟩
  have hcl := smaltoref03_Ints.calls 20 A9 c9 [0, 4] _ 2 [0, 4] true _ (hK.held (A9, [0, 4]) (by simp)) hc9 hl (by simp) (by kernel_rfl)
  have Hcl := Lib.hid hcl
  clear hcl hl
  refine seqC_event rfl ?_
  gi_wp2_with fail
  refine ⟨trivial, rfl, ?_⟩
  refine (callsIn_wide.2 Hcl.out).mono ?_
  rintro e_ q6 ⟨rfl, hd⟩
  have hb := Drawn0.below hd
  replace hK := hK.step hb
  replace hx := hx.step hb
  replace hC := KnC.of hx
  clear hb hd Hcl
  gi_wp2
  refine ⟨hC, ?_⟩
  apply seqC_quiet rfl (fun _ => rfl) (by assumption)
  · intro K hK w' hw'
    obtain ⟨g0, g1⟩ := hw'
    go_simp
    exact hK
  apply seqC_quiet rfl (fun _ => rfl) (by assumption)
  · intro K hK w' hw'
    obtain ⟨g0, g1⟩ := hw'
    go_simp
    exact hK
  apply seqC_quiet rfl (fun _ => rfl) (by assumption)
  · intro K hK w' hw'
    obtain ⟨g0, g1⟩ := hw'
    go_simp
    exact hK
  have hl := C_litI (q6) [2] _ rfl (by simp)
  replace hK := hK.alloc (.cells ([2].map (Value.int .i64)).toArray 3)
  replace hx := hx.alloc (.cells ([2].map (Value.int .i64)).toArray 3)
  replace hC := KnC.of hx
  refine seqC_event rfl ?_
  gi_wp2
  refine ⟨hC, ?_⟩
  have hcl := smaltoref03_Ints.calls 20 A10 c10 [2] _ 1 [2] true _ (hK.held (A10, [2]) (by simp)) hc10 hl (by simp) (by kernel_rfl)
  have Hcl := Lib.hid hcl
  clear hcl hl
  refine seqC_event rfl ?_
  gi_wp2_with fail
  refine ⟨trivial, rfl, ?_⟩
  refine (callsIn_wide.2 Hcl.out).mono ?_
  rintro e_ q7 ⟨rfl, hd⟩
  have hb := Drawn0.below hd
  replace hK := hK.step hb
  replace hx := hx.step hb
  replace hC := KnC.of hx
  clear hb hd Hcl
  gi_wp2
  refine ⟨hC, ?_⟩
  apply seqC_quiet rfl (fun _ => rfl) (by assumption)
  · intro K hK w' hw'
    obtain ⟨g0, g1⟩ := hw'
    go_simp
    exact hK
  apply seqC_quiet rfl (fun _ => rfl) (by assumption)
  · intro K hK w' hw'
    obtain ⟨g0, g1⟩ := hw'
    go_simp
    exact hK
  apply seqC_quiet rfl (fun _ => rfl) (by assumption)
  · intro K hK w' hw'
    obtain ⟨g0, g1⟩ := hw'
    go_simp
    exact hK
  have hl := C_litI (q7) [1, 1, 0, 1, 0] _ rfl (by simp)
  replace hK := hK.alloc (.cells ([1, 1, 0, 1, 0].map (Value.int .i64)).toArray 3)
  replace hx := hx.alloc (.cells ([1, 1, 0, 1, 0].map (Value.int .i64)).toArray 3)
  replace hC := KnC.of hx
  refine seqC_event rfl ?_
  gi_wp2
  refine ⟨hC, ?_⟩
  have hcl := smaltoref03_Ints.calls 20 A11 c11 [1, 1, 0, 1, 0] _ 5 [1, 1, 0, 1, 0] true _ (hK.held (A11, [1, 1, 0, 1, 0]) (by simp)) hc11 hl (by simp) (by kernel_rfl)
  have Hcl := Lib.hid hcl
  clear hcl hl
  refine seqC_event rfl ?_
  gi_wp2_with fail
  refine ⟨trivial, rfl, ?_⟩
  refine (callsIn_wide.2 Hcl.out).mono ?_
  rintro e_ q8 ⟨rfl, hd⟩
  have hb := Drawn0.below hd
  replace hK := hK.step hb
  replace hx := hx.step hb
  replace hC := KnC.of hx
  clear hb hd Hcl
  gi_wp2
  refine ⟨hC, ?_⟩
  apply seqC_quiet rfl (fun _ => rfl) (by assumption)
  · intro K hK w' hw'
    obtain ⟨g0, g1⟩ := hw'
    go_simp
    exact hK
  apply seqC_quiet rfl (fun _ => rfl) (by assumption)
  · intro K hK w' hw'
    obtain ⟨g0, g1⟩ := hw'
    go_simp
    exact hK
  apply seqC_quiet rfl (fun _ => rfl) (by assumption)
  · intro K hK w' hw'
    obtain ⟨g0, g1⟩ := hw'
    go_simp
    exact hK
  apply seqC_quiet rfl (fun _ => rfl) (by assumption)
  · intro K hK w' hw'
    obtain ⟨g0, g1⟩ := hw'
    go_simp
    exact hK
  apply seqC_quiet rfl (fun _ => rfl) (by assumption)
  · intro K hK w' hw'
    obtain ⟨g0, g1⟩ := hw'
    go_simp
    exact hK
  show wpListIn _ _ _ _ _ _ _ _
  try simp only [List.drop_succ_cons, List.drop_zero]
  gi_wp2
  try simp only [Qn]
  go_wp2
  go_ret
  exact ⟨rfl, hK.below⟩
end Go.Proofs.YtbijamlgcebgeaaDoor.Hand

-- part MA
namespace Go.Proofs.YtbijamlgcebgeaaDoor.Hand
open Go.RowKit Go.Shelf Go.Sort Go.Proofs.YtbijamlgcebgeaaDoorW.PrintWords Go.Proofs.YtbijamlgcebgeaaDoorW.PrintMore Go.Proofs.YtbijamlgcebgeaaDoor.Q
/-- Five bytes. -/
structure B5 where
  a : Nat
  b : Nat
  c : Nat
  d : Nat
  e : Nat
def B5.Ok (x : B5) : Prop := x.a < 256 ∧ x.b < 256 ∧ x.c < 256 ∧ x.d < 256 ∧ x.e < 256
def z5 : B5 := ⟨0, 0, 0, 0, 0⟩
def B5.cs (x : B5) : List Value := [.int .u8 x.a, .int .u8 x.b, .int .u8 x.c, .int .u8 x.d, .int .u8 x.e]
def B5C (w : World) (A : Option Addr) (n : Nat) (xs : List B5) : Prop := ReadsRow (fun (p : B5) (c : List Value) => c = p.cs) 5 w A n xs
theorem B5C.below {w w' : World} {A : Option Addr} {n : Nat} {xs : List B5} (h : B5C w A n xs) (hb : Below w.heap.size w w') : B5C w' A n xs := ReadsRow.imp_ h hb (fun _ _ h => h)
theorem B5C.at {w : World} {A : Option Addr} {n : Nat} {xs : List B5} (h : B5C w A n xs) (i : Nat) (h1 : i < n) : ∃ ad, A = some ad ∧ w.cell? (ad.add (i * 5)) = some (.int .u8 (xs.getD i z5).a) ∧ w.cell? ⟨(ad.add (i * 5)).block, (ad.add (i * 5)).off + 1, none⟩ = some (.int .u8 (xs.getD i z5).b) ∧ w.cell? ⟨(ad.add (i * 5)).block, (ad.add (i * 5)).off + 2, none⟩ = some (.int .u8 (xs.getD i z5).c) ∧ w.cell? ⟨(ad.add (i * 5)).block, (ad.add (i * 5)).off + 3, none⟩ = some (.int .u8 (xs.getD i z5).d) ∧ w.cell? ⟨(ad.add (i * 5)).block, (ad.add (i * 5)).off + 4, none⟩ = some (.int .u8 (xs.getD i z5).e) := by
  obtain ⟨ad, c, e, _, hK, hc⟩ := ReadsRow.get_ h z5 (i : Int) (by omega) (by omega)
  rw [Int.toNat_natCast] at hK hc
  subst hK
  refine ⟨ad, e, hc 0 _ rfl, ?_, ?_, ?_, ?_⟩
  · rw [← add_field _ _ 1 (by omega)]; exact hc 1 _ rfl
  · rw [← add_field _ _ 2 (by omega)]; exact hc 2 _ rfl
  · rw [← add_field _ _ 3 (by omega)]; exact hc 3 _ rfl
  · rw [← add_field _ _ 4 (by omega)]; exact hc 4 _ rfl
/-- The rules, and a sign. -/
def madeS (v : B5) : S74 := ⟨((5 + v.a % 60 : Nat) : Int), ((5 + v.b % 50 : Nat) : Int), ⟨((5 + v.c % 60 : Nat) : Int), ((5 + v.c % 60 + v.c / 64 : Nat) : Int)⟩, ⟨((780 + v.d % 100 : Nat) : Int), ((780 + v.d % 100 + v.e % 80 : Nat) : Int)⟩⟩
def madeL (l : List B5) : List S74 := (l.take 6).map madeS
/-- The rules as they are worked out. -/
def rawR (x : B5) : List Int := [wrap64 (1 + (wrap64 x.a).tmod 3), wrap64 (30 + (wrap64 x.b).tmod 100), (wrap64 x.c).tmod 8, wrap64 (40 + wrap64 x.d), (wrap64 x.e).tmod 40]
theorem byte64 {n : Nat} (h : n < 256) : wrap64 (n : Int) = n := by unfold wrap64; omega
theorem tmod_nat (n m : Nat) : ((n : Int)).tmod (m : Int) = ((n % m : Nat) : Int) := by rw [Int.tmod_eq_emod_of_nonneg (by omega)]; omega
theorem tdiv_nat (n m : Nat) : ((n : Int)).tdiv (m : Int) = ((n / m : Nat) : Int) := by rw [Int.tdiv_eq_ediv_of_nonneg (by omega)]; omega
theorem rawR_eq (x : B5) (h : x.Ok) : rawR x = [((1 + x.a % 3 : Nat) : Int), ((30 + x.b % 100 : Nat) : Int), ((x.c % 8 : Nat) : Int), ((40 + x.d : Nat) : Int), ((x.e % 40 : Nat) : Int)] := by
  obtain ⟨h1, h2, h3, h4, h5⟩ := h
  unfold rawR
  rw [byte64 h1, byte64 h2, byte64 h3, byte64 h4, byte64 h5]
  have e1 := tmod_nat x.a 3
  have e2 := tmod_nat x.b 100
  have e3 := tmod_nat x.c 8
  have e4 := tmod_nat x.e 40
  rw [show ((3 : Nat) : Int) = 3 from rfl] at e1
  rw [show ((100 : Nat) : Int) = 100 from rfl] at e2
  rw [show ((8 : Nat) : Int) = 8 from rfl] at e3
  rw [show ((40 : Nat) : Int) = 40 from rfl] at e4
  rw [e1, e2, e3, e4]
  unfold wrap64
  simp only [List.cons.injEq, and_true, true_and]
  omega
def MadeC (b7 : Nat) (v : B5) (w' : World) : Prop := w'.cell? ⟨b7, 0, none⟩ = some (.int .u8 v.a) ∧ w'.cell? ⟨b7, 1, none⟩ = some (.int .u8 v.b) ∧ w'.cell? ⟨b7, 2, none⟩ = some (.int .u8 v.c) ∧ w'.cell? ⟨b7, 3, none⟩ = some (.int .u8 v.d) ∧ w'.cell? ⟨b7, 4, none⟩ = some (.int .u8 v.e)
theorem MadeC.of {b7 : Nat} {v : B5} {w' : World} (h : Box w' b7 #[.int .u8 v.a, .int .u8 v.b, .int .u8 v.c, .int .u8 v.d, .int .u8 v.e] 63) : MadeC b7 v w' := ⟨h.cell 0 rfl, h.cell 1 rfl, h.cell 2 rfl, h.cell 3 rfl, h.cell 4 rfl⟩
theorem rawS_eq (v : B5) (h : v.Ok) {m0 m1 m2 m3 m4 m5 : Int} (h0 : wrap64 (5 + (wrap64 v.a).tmod 60) = m0) (h1 : wrap64 (5 + (wrap64 v.b).tmod 50) = m1) (h2 : wrap64 (5 + (wrap64 v.c).tmod 60) = m2) (h3 : wrap64 (780 + (wrap64 v.d).tmod 100) = m3) (h4 : wrap64 (m2 + wrap64 ((wrap64 v.c).tdiv 64)) = m4) (h5 : wrap64 (m3 + (wrap64 v.e).tmod 80) = m5) :
    (⟨m0, m1, ⟨m2, m4⟩, ⟨m3, m5⟩⟩ : S74) = madeS v := by
  obtain ⟨k1, k2, k3, k4, k5⟩ := h
  rw [byte64 k1] at h0
  rw [byte64 k2] at h1
  rw [byte64 k3] at h2 h4
  rw [byte64 k4] at h3
  rw [byte64 k5] at h5
  have e0 := tmod_nat v.a 60
  have e1 := tmod_nat v.b 50
  have e2 := tmod_nat v.c 60
  have e3 := tmod_nat v.d 100
  have e4 := tdiv_nat v.c 64
  have e5 := tmod_nat v.e 80
  rw [show ((60 : Nat) : Int) = 60 from rfl] at e0 e2
  rw [show ((50 : Nat) : Int) = 50 from rfl] at e1
  rw [show ((100 : Nat) : Int) = 100 from rfl] at e3
  rw [show ((64 : Nat) : Int) = 64 from rfl] at e4
  rw [show ((80 : Nat) : Int) = 80 from rfl] at e5
  rw [e0] at h0
  rw [e1] at h1
  rw [e2] at h2
  rw [e3] at h3
  rw [e4] at h4
  rw [e5] at h5
  unfold wrap64 at h0 h1 h2 h3 h4 h5
  unfold madeS
  have a0 : m0 = ((5 + v.a % 60 : Nat) : Int) := by omega
  have a1 : m1 = ((5 + v.b % 50 : Nat) : Int) := by omega
  have a2 : m2 = ((5 + v.c % 60 : Nat) : Int) := by omega
  have a3 : m3 = ((780 + v.d % 100 : Nat) : Int) := by omega
  have a4 : m4 = ((5 + v.c % 60 + v.c / 64 : Nat) : Int) := by omega
  have a5 : m5 = ((780 + v.d % 100 + v.e % 80 : Nat) : Int) := by omega
  rw [a0, a1, a2, a3, a4, a5]
theorem results41 {v : Value} {t : Array Value} {W : World} {b : Nat} {p0 p1 p2 p3 p4 : Int} (h0 : t.getD 2 undef = .pointer (some ⟨b, 0, none⟩)) (hb : Box W b #[.int .i64 p0, .int .i64 p1, .int .i64 p2, .int .i64 p3, .int .i64 p4] 23) (hv : .tuple #[.agg #[.int .i64 p0, .int .i64 p1, .int .i64 p2, .int .i64 p3, .int .i64 p4], t.getD 3 undef] = v) : (results Tryd.f41 t).run Tryd.prog W = .ok v W := by
  have d0 : W.cell? ⟨b, 0, none⟩ = some (.int .i64 p0) := hb.cell 0 rfl
  have d1 : W.cell? ⟨b, 1, none⟩ = some (.int .i64 p1) := hb.cell 1 rfl
  have d2 : W.cell? ⟨b, 2, none⟩ = some (.int .i64 p2) := hb.cell 2 rfl
  have d3 : W.cell? ⟨b, 3, none⟩ = some (.int .i64 p3) := hb.cell 3 rfl
  have d4 : W.cell? ⟨b, 4, none⟩ = some (.int .i64 p4) := hb.cell 4 rfl
  rw [← hv]
  simp only [Array.getD_eq_getD_getElem?] at h0
  simp [results, Tryd.results41, go_sem, h0, d0, d1, d2, d3, d4]
set_option maxRecDepth 100000 in
set_option maxHeartbeats 2000000 in
theorem made_calls (x : B5) (hx : x.Ok) (l : List B5) (hl : ∀ v ∈ l, v.Ok) (A : Option Addr) (c1 : Nat) (hc1 : l.length ≤ c1) (w : World) (hr : B5C w A l.length l) :
    Calls Tryd.prog 41 #[.agg #[.int .u8 x.a, .int .u8 x.b, .int .u8 x.c, .int .u8 x.d, .int .u8 x.e, .slice A l.length c1]] w fun e_ w' => ∃ v0_ : Value, e_ = .returned (.tuple #[.agg #[.int .i64 ((1 + x.a % 3 : Nat) : Int), .int .i64 ((30 + x.b % 100 : Nat) : Int), .int .i64 ((x.c % 8 : Nat) : Int), .int .i64 ((40 + x.d : Nat) : Int), .int .i64 ((x.e % 40 : Nat) : Int)], v0_]) ∧ Kd.R k74 74 w' w.heap.size (fun _ => True) v0_ (madeL l) ∧ Below w.heap.size w w' := by
  obtain ⟨r0, hr0⟩ : ∃ v, wrap64 (1 + (wrap64 x.a).tmod 3) = v := ⟨_, rfl⟩
  obtain ⟨r1, hr1⟩ : ∃ v, wrap64 (30 + (wrap64 x.b).tmod 100) = v := ⟨_, rfl⟩
  obtain ⟨r2, hr2⟩ : ∃ v, (wrap64 x.c).tmod 8 = v := ⟨_, rfl⟩
  obtain ⟨r3, hr3⟩ : ∃ v, wrap64 (40 + wrap64 x.d) = v := ⟨_, rfl⟩
  obtain ⟨r4, hr4⟩ : ∃ v, (wrap64 x.e).tmod 40 = v := ⟨_, rfl⟩
  have hraw := rawR_eq x hx
  unfold rawR at hraw
  rw [hr0, hr1, hr2, hr3, hr4] at hraw
  simp only [List.cons.injEq, and_true] at hraw
  obtain ⟨q0, q1, q2, q3, q4⟩ := hraw
  rw [← q0, ← q1, ← q2, ← q3, ← q4]
  clear q0 q1 q2 q3 q4
  obtain ⟨n, hn⟩ : ∃ v, l.length = v := ⟨_, rfl⟩
  rw [hn] at hr hc1 ⊢
  have Hn := Lib.hid hn
  clear hn
  obtain ⟨Wa, hWa⟩ : ∃ v, ((w.alloc (.cells #[.int .u8 x.a, .int .u8 x.b, .int .u8 x.c, .int .u8 x.d, .int .u8 x.e, .slice A n c1] 66)).alloc (.cells #[.int .i64 0, .int .i64 0, .int .i64 0, .int .i64 0, .int .i64 0] 23)).alloc (.cells #[.int .i64 r0, .int .i64 r1, .int .i64 r2, .int .i64 r3, .int .i64 r4] 23) = v := ⟨_, rfl⟩
  have y0 : Box Wa w.heap.size #[.int .u8 x.a, .int .u8 x.b, .int .u8 x.c, .int .u8 x.d, .int .u8 x.e, .slice A n c1] 66 := hWa ▸ ((Box.new _ _ _).alloc _).alloc _
  have y1 : Box Wa (w.heap.size + 1) #[.int .i64 0, .int .i64 0, .int .i64 0, .int .i64 0, .int .i64 0] 23 := hWa ▸ (Box.new' _ _ _ (by simp)).alloc _
  have y2 : Box Wa (w.heap.size + 2) #[.int .i64 r0, .int .i64 r1, .int .i64 r2, .int .i64 r3, .int .i64 r4] 23 := hWa ▸ Box.new' _ _ _ (by simp)
  have ys : Wa.heap.size = w.heap.size + 3 := by rw [← hWa]; simp
  have hba : Below w.heap.size w Wa := hWa ▸ (((Below.refl _ _).alloc (Nat.le_refl _) _).alloc (by simp) _).alloc (by simp; omega) _
  have hra : B5C Wa A n l := hr.below hba
  have hR0 : Kd.R k74 74 (Wa.alloc (.cells #[] 74)) Wa.heap.size (fun _ => True) (.slice (some ⟨Wa.heap.size, 0, none⟩) 0 0) [] :=
    ⟨fun _ _ => trivial, [], World.ownsRow_made Wa #[] 0 (Nat.le_refl _) (by unfold maxLen; omega) (by simp), Reps.none _ _⟩
  rw [ys] at hR0
  go_enter Tryd.func41, Tryd.ntmps41
  go_wp2
  clear hWa hr0 hr1 hr2 hr3 hr4 hr
  go_loopw [5, 6] (fun v i W => ∃ k : Nat, k ≤ n ∧ k ≤ 6 ∧ i = .int .i64 k ∧ Kd.R k74 74 W (w.heap.size + 3) (fun _ => True) v ((l.take k).map madeS) ∧ Below (w.heap.size + 3) Wa W) (fun _ i _ => n - (intOf i).toNat)
  case atStart => exact ⟨0, Nat.zero_le _, Nat.zero_le _, rfl, hR0, (Below.refl _ _).alloc (by omega) _⟩
  case round =>
    obtain ⟨k, hkn, hk6, rfl, hR, hbl⟩ := hrel
    have x0 := y0.below hbl (by omega)
    have x1 := y1.below hbl (by omega)
    have x2 := y2.below hbl (by omega)
    have e5 : wr.cell? ⟨w.heap.size, 5, none⟩ = some (.slice A n c1) := x0.cell 5 rfl
    by_cases hlt : k < n ∧ k < 6
    · obtain ⟨hlt1, hlt2⟩ := hlt
      have hrr : B5C wr A n l := hra.below (hbl.mono (by omega))
      obtain ⟨ad, ha, g0, g1, g2, g3, g4⟩ := hrr.at k hlt1
      subst ha
      have hv : (l.getD k z5).Ok := hl _ (by rw [List.getD_eq_getElem?_getD, List.getElem?_eq_getElem (by rw [Hn.out]; exact hlt1)]; exact List.getElem_mem _)
      have hsn : (l.take (k + 1)).map madeS = (l.take k).map madeS ++ [madeS (l.getD k z5)] := by
        rw [List.take_succ_eq_append_getElem (by rw [Hn.out]; exact hlt1), List.map_append, List.getD_eq_getElem?_getD, List.getElem?_eq_getElem (by rw [Hn.out]; exact hlt1)]
        rfl
      generalize l.getD k z5 = v at g0 g1 g2 g3 g4 hv hsn
      have Hsn := Lib.hid hsn
      have Hv := Lib.hid hv
      clear hsn hv
      have Hms := Lib.hid (rawS_eq v Hv.out rfl rfl rfl rfl rfl rfl)
      obtain ⟨wv, hwv⟩ : ∃ q, wr.alloc (.cells #[.int .u8 v.a, .int .u8 v.b, .int .u8 v.c, .int .u8 v.d, .int .u8 v.e] 63) = q := ⟨_, rfl⟩
      have y7 : Box wv wr.heap.size #[.int .u8 v.a, .int .u8 v.b, .int .u8 v.c, .int .u8 v.d, .int .u8 v.e] 63 := hwv ▸ Box.new _ _ _
      have hbv : Below (w.heap.size + 3) Wa wv := hwv ▸ hbl.alloc (by have := x2.lt; omega) _
      have hRv : Kd.R k74 74 wv (w.heap.size + 3) (fun _ => True) u5 ((l.take k).map madeS) := hwv ▸ Kd.R_alloc hR _
      obtain ⟨b7, hb7⟩ : ∃ q, wr.heap.size = q := ⟨_, rfl⟩
      rw [hb7] at y7
      have i0 : wv.cell? ⟨b7, 0, none⟩ = some (.int .u8 v.a) := y7.cell 0 rfl
      have i1 : wv.cell? ⟨b7, 1, none⟩ = some (.int .u8 v.b) := y7.cell 1 rfl
      have i2 : wv.cell? ⟨b7, 2, none⟩ = some (.int .u8 v.c) := y7.cell 2 rfl
      have i3 : wv.cell? ⟨b7, 3, none⟩ = some (.int .u8 v.d) := y7.cell 3 rfl
      have i4 : wv.cell? ⟨b7, 4, none⟩ = some (.int .u8 v.e) := y7.cell 4 rfl
      go_wp2
      clear hwv
      go_quiet (fail)
      go_wp2
      replace hbv := pw_below_drewN hbv nq
      replace hRv := Kd.R_drewN hRv nq
      replace y7 : Box (wv.drewN nq) b7 #[.int .u8 v.a, .int .u8 v.b, .int .u8 v.c, .int .u8 v.d, .int .u8 v.e] 63 := y7.step (pw_below_drewN (Below.refl _ _) nq)
      obtain ⟨wz, hwz⟩ : ∃ q, (wv.drewN nq).drew = q := ⟨_, rfl⟩
      have zbl : Below (w.heap.size + 3) Wa wz := hwz ▸ hbv.drew
      have zR : Kd.R k74 74 wz (w.heap.size + 3) (fun _ => True) u5 ((l.take k).map madeS) := hwz ▸ Kd.R_drew hRv
      have zx : Box wz b7 #[.int .u8 v.a, .int .u8 v.b, .int .u8 v.c, .int .u8 v.d, .int .u8 v.e] 63 := hwz ▸ y7.drew
      have hC : MadeC b7 v wz := MadeC.of zx
      refine (wpIn_wide (n := 0)).1 ?_
      refine wpIn_region_seqN 29 [(0, true), (1, true), (2, true), (3, true), (4, true), (5, true), (6, true), (7, true), (8, true), (9, true), (10, true), (11, true), (12, true), (13, true), (14, true), (15, true), (16, true), (17, true), (19, true), (20, true), (21, true), (22, true), (23, true), (24, true), (25, true), (18, false), (26, false), (27, false), (28, false)] (MadeC b7 v) rfl (by kernel_rfl) (by kernel_rfl) (hwz ▸ hC) ?_
      rw [hwz]
      clear hbv hRv y7 hwz hR hbl i0 i1 i2 i3 i4
      iterate 25
        apply seqC_quiet rfl (fun _ => rfl) (by assumption)
        · intro K hK w' hw'
          obtain ⟨g0, g1, g2, g3, g4⟩ := hw'
          go_simp
          exact hK
      refine seqC_event rfl ?_
      gi_wp2_with fail
      refine ⟨trivial, rfl, ?_⟩
      refine (callsIn_wide.2 (smaltolaw03_span.calls _ _ _ _ _ rfl)).mono ?_
      rintro e_ w1 ⟨rfl, hb⟩
      replace zbl := zbl.trans (hb.mono (by have := zbl.size; omega))
      replace zR := Kd.R_below zR hb
      replace zx := zx.step hb
      replace hC := MadeC.of zx
      clear hb
      gi_wp2
      refine ⟨hC, ?_⟩
      refine seqC_event rfl ?_
      gi_wp2_with fail
      refine ⟨trivial, rfl, ?_⟩
      refine (callsIn_wide.2 (smaltolaw03_span.calls _ _ _ _ _ rfl)).mono ?_
      rintro e_ w2 ⟨rfl, hb⟩
      replace zbl := zbl.trans (hb.mono (by have := zbl.size; omega))
      replace zR := Kd.R_below zR hb
      replace zx := zx.step hb
      replace hC := MadeC.of zx
      clear hb
      gi_wp2
      refine ⟨hC, ?_⟩
      refine seqC_event rfl ?_
      gi_wp2_with fail
      refine ⟨trivial, rfl, ?_⟩
      refine (callsIn_wide.2 (smaltolaw03_sign.calls _ _ _ _ _ _ _ _ _ _ _ _ _ rfl)).mono ?_
      rintro e_ w3 ⟨rfl, hb⟩
      replace zbl := zbl.trans (hb.mono (by have := zbl.size; omega))
      replace zR := Kd.R_below zR hb
      replace zx := zx.step hb
      replace hC := MadeC.of zx
      clear hb
      gi_wp2
      refine ⟨hC, ?_⟩
      refine seqC_event rfl ?_
      gi_wp2
      refine ⟨MadeC.of (zx.alloc _), ?_⟩
      have hmx := Hms.out
      show wpListIn _ _ _ _ _ _ _ _
      have hsz := zbl.size
      have hlk : ((l.take k).map madeS).length ≤ 6 := by simp; omega
      refine wpListIn_event (Kd.R_append_rows_step k74 (w0 := Wa) (w.heap.size + 3) rfl (.tmp 65) (.tmp 93) 24 74 (.agg #[(.int .i64 0), (.int .i64 0), (.int .i64 0), (.int .i64 0), (.int .i64 0), (.int .i64 0)]) 48 rfl Tryd.underlying24 info74 rfl (by decide) (by omega) u5 ((l.take k).map madeS) [(⟨wrap64 (5 + (wrap64 v.a).tmod 60), wrap64 (5 + (wrap64 v.b).tmod 50), ⟨wrap64 (5 + (wrap64 v.c).tmod 60), wrap64 (wrap64 (5 + (wrap64 v.c).tmod 60) + wrap64 ((wrap64 v.c).tdiv 64))⟩, ⟨wrap64 (780 + (wrap64 v.d).tmod 100), wrap64 (wrap64 (780 + (wrap64 v.d).tmod 100) + (wrap64 v.e).tmod 80)⟩⟩ : S74)] (some ⟨w3.heap.size, 0, none⟩) 1 1 (fun _ => True) (fun _ => False) rfl rfl (Kd.R_alloc zR _) (R_litS1 w3 (⟨wrap64 (5 + (wrap64 v.a).tmod 60), wrap64 (5 + (wrap64 v.b).tmod 50), ⟨wrap64 (5 + (wrap64 v.c).tmod 60), wrap64 (wrap64 (5 + (wrap64 v.c).tmod 60) + wrap64 ((wrap64 v.c).tdiv 64))⟩, ⟨wrap64 (780 + (wrap64 v.d).tmod 100), wrap64 (wrap64 (780 + (wrap64 v.d).tmod 100) + (wrap64 v.e).tmod 80)⟩⟩ : S74)) (fun x cs h => by obtain rfl := k74_open h; exact k74_mkM _ _ _ x) (fun _ h => h.elim) (fun _ _ => trivial) (zbl.alloc (by omega) _) (by simp; omega) (by omega) ?_) (fun _ _ h => h)
      intro v1 wn ho1 hb1 hg1 hat1
      rw [hmx, ← Hsn.out] at ho1
      clear hmx hlk hg1 hat1 zR zx hC
      gi_wp2
      try simp only [Qn]
      go_wp2
      refine ⟨⟨k + 1, by omega, by omega, by go_num, ho1, hb1⟩, ?_⟩
      simp [intOf]
      omega
    · have htk : (l.take k).map madeS = madeL l := by
        unfold madeL
        by_cases h6 : k = 6
        · rw [h6]
        · have hkn2 : k = n := by omega
          rw [hkn2, ← Hn.out, List.take_length, List.take_of_length_le (by rw [Hn.out]; omega)]
      rw [htk] at hR
      have c0' : wr.cell? ⟨w.heap.size + 1, 0, none⟩ = some (.int .i64 0) := x1.cell 0 rfl
      have f0 : wr.frozen? ⟨w.heap.size + 1, 0, none⟩ = false := x1.frozen 0
      have c1' : wr.cell? ⟨w.heap.size + 1, 1, none⟩ = some (.int .i64 0) := x1.cell 1 rfl
      have f1 : wr.frozen? ⟨w.heap.size + 1, 1, none⟩ = false := x1.frozen 1
      have c2' : wr.cell? ⟨w.heap.size + 1, 2, none⟩ = some (.int .i64 0) := x1.cell 2 rfl
      have f2 : wr.frozen? ⟨w.heap.size + 1, 2, none⟩ = false := x1.frozen 2
      have c3' : wr.cell? ⟨w.heap.size + 1, 3, none⟩ = some (.int .i64 0) := x1.cell 3 rfl
      have f3 : wr.frozen? ⟨w.heap.size + 1, 3, none⟩ = false := x1.frozen 3
      have c4' : wr.cell? ⟨w.heap.size + 1, 4, none⟩ = some (.int .i64 0) := x1.cell 4 rfl
      have f4 : wr.frozen? ⟨w.heap.size + 1, 4, none⟩ = false := x1.frozen 4
      have k0 : wr.cell? ⟨w.heap.size + 2, 0, none⟩ = some (.int .i64 r0) := x2.cell 0 rfl
      have k1 : wr.cell? ⟨w.heap.size + 2, 1, none⟩ = some (.int .i64 r1) := x2.cell 1 rfl
      have k2 : wr.cell? ⟨w.heap.size + 2, 2, none⟩ = some (.int .i64 r2) := x2.cell 2 rfl
      have k3 : wr.cell? ⟨w.heap.size + 2, 3, none⟩ = some (.int .i64 r3) := x2.cell 3 rfl
      have k4 : wr.cell? ⟨w.heap.size + 2, 4, none⟩ = some (.int .i64 r4) := x2.cell 4 rfl
      have hB5 : Below w.heap.size w wr := hba.trans (hbl.mono (by omega))
      clear e5 k0 k1 k2 k3 k4
      have k0 : wr.cell? ⟨w.heap.size + 1 + 1, 0, none⟩ = some (.int .i64 r0) := x2.cell 0 rfl
      have k1 : wr.cell? ⟨w.heap.size + 1 + 1, 1, none⟩ = some (.int .i64 r1) := x2.cell 1 rfl
      have k2 : wr.cell? ⟨w.heap.size + 1 + 1, 2, none⟩ = some (.int .i64 r2) := x2.cell 2 rfl
      have k3 : wr.cell? ⟨w.heap.size + 1 + 1, 3, none⟩ = some (.int .i64 r3) := x2.cell 3 rfl
      have k4 : wr.cell? ⟨w.heap.size + 1 + 1, 4, none⟩ = some (.int .i64 r4) := x2.cell 4 rfl
      have e5 : wr.cell? ⟨w.heap.size, 5, none⟩ = some (.slice A n c1) := x0.cell 5 rfl
      have hset : ∀ (W : World) (i : Nat) (q : Value), Kd.R k74 74 W (w.heap.size + 3) (fun _ => True) u5 (madeL l) → Kd.R k74 74 (W.setCell ⟨w.heap.size + 1, i, none⟩ q) (w.heap.size + 3) (fun _ => True) u5 (madeL l) := fun W i q h =>
        Kd.R_mono (Kd.R_far (Kd.R_bound h) (p := ⟨w.heap.size + 1, i, none⟩) (fun k hk => by have := hk.2.1; show k ≠ w.heap.size + 1; omega) q) (fun _ _ => trivial)
      by_cases hkl : k < n
      · have hk66 : k = 6 := by omega
        subst hk66
        go_wp2
        exact bodyPost_ret (v := .tuple #[.agg #[.int .i64 r0, .int .i64 r1, .int .i64 r2, .int .i64 r3, .int .i64 r4], u5]) (results41 rfl (((((x1.set 0 (.int .i64 r0)).set 1 (.int .i64 r1)).set 2 (.int .i64 r2)).set 3 (.int .i64 r3)).set 4 (.int .i64 r4)) rfl) rfl ⟨_, rfl, Kd.R_lower (hset _ _ _ (hset _ _ _ (hset _ _ _ (hset _ _ _ (hset _ _ _ hR))))) (by omega), ((((hB5.setCell (p := ⟨w.heap.size + 1, 0, none⟩) (by simp) _).setCell (p := ⟨w.heap.size + 1, 1, none⟩) (by simp) _).setCell (p := ⟨w.heap.size + 1, 2, none⟩) (by simp) _).setCell (p := ⟨w.heap.size + 1, 3, none⟩) (by simp) _).setCell (p := ⟨w.heap.size + 1, 4, none⟩) (by simp) _⟩
      · go_wp2
        exact bodyPost_ret (v := .tuple #[.agg #[.int .i64 r0, .int .i64 r1, .int .i64 r2, .int .i64 r3, .int .i64 r4], u5]) (results41 rfl (((((x1.set 0 (.int .i64 r0)).set 1 (.int .i64 r1)).set 2 (.int .i64 r2)).set 3 (.int .i64 r3)).set 4 (.int .i64 r4)) rfl) rfl ⟨_, rfl, Kd.R_lower (hset _ _ _ (hset _ _ _ (hset _ _ _ (hset _ _ _ (hset _ _ _ hR))))) (by omega), ((((hB5.setCell (p := ⟨w.heap.size + 1, 0, none⟩) (by simp) _).setCell (p := ⟨w.heap.size + 1, 1, none⟩) (by simp) _).setCell (p := ⟨w.heap.size + 1, 2, none⟩) (by simp) _).setCell (p := ⟨w.heap.size + 1, 3, none⟩) (by simp) _).setCell (p := ⟨w.heap.size + 1, 4, none⟩) (by simp) _⟩
end Go.Proofs.YtbijamlgcebgeaaDoor.Hand

-- part MB
namespace Go.Proofs.YtbijamlgcebgeaaDoor.Hand
open Go.RowKit Go.Shelf Go.Sort Go.Proofs.YtbijamlgcebgeaaDoorW.PrintWords Go.Proofs.YtbijamlgcebgeaaDoorW.PrintMore Go.Proofs.YtbijamlgcebgeaaDoor.Q
attribute [local go_sem] max2_mx min2_mn max_two min_two
end Go.Proofs.YtbijamlgcebgeaaDoor.Hand

-- part QH
namespace Go.Proofs.YtbijamlgcebgeaaDoor.Q
open Go.RowKit Go.Proofs.YtbijamlgcebgeaaDoorW.PrintWords Go.Proofs.YtbijamlgcebgeaaDoorW.PrintLast Go.Proofs.YtbijamlgcebgeaaDoorW.PrintMore
attribute [local go_sem] max2_int min2_int max_two min_two max_three min_three max_four min_four
def smaltolaw03_own.f (l0 : List (S74)) : Option ((List (S74))) := (some (([] : List (S74)) : List (S74))).bind fun y344 => (if y344.length + l0.length < 2932031007402 then (some (y344 ++ l0)) else (none))
set_option maxHeartbeats 8000000 in
set_option maxRecDepth 100000 in
theorem smaltolaw03_own.calls (A0 : Option Addr) (c0 : Nat) (l0 : List (S74)) (r : List (S74)) (w : World) (hr0 : Kd.C k74 w A0 l0.length l0) (hc0 : l0.length ≤ c0) (h : smaltolaw03_own.f l0 = some r) :
    Calls Tryd.prog 43 #[.slice A0 l0.length c0] w fun e w' => ∃ v0_ : Value, e = .returned (v0_) ∧ Kd.R k74 74 w' w.heap.size (fun _ => True) v0_ r ∧ Below w.heap.size w w' := by
  have HR0 := Aside0.mk hr0
  have HC0 := Aside0.mk hc0
  clear hr0 hc0
  have HB := Aside0.mk (Below.refl w.heap.size w)
  have H : ((some (([] : List (S74)) : List (S74))).bind fun y344 => (if y344.length + l0.length < 2932031007402 then (some (y344 ++ l0)) else (none))) = some r := h
  clear h
  obtain ⟨y344, hy344⟩ : ∃ y_ : List (S74), y_ = (([] : List (S74))) := ⟨_, rfl⟩
  replace H : (if y344.length + l0.length < 2932031007402 then (some (y344 ++ l0)) else (none)) = some r := by first | (rw [hy344]; with_reducible exact H) | (have H2_ := (Option.bind_some _ _).symm.trans H; rw [hy344]; with_reducible exact H2_) | (have H2_ := (Option.bind_some _ _).symm.trans H; with_reducible exact H2_) | with_reducible exact H | (rw [hy344]; exact H) | exact H
  have Ny344 := Aside0.mk hy344
  clear hy344
  by_cases c2 : y344.length + l0.length < 2932031007402
  · rw [if_pos c2] at H
    have LMc2 := Aside0.mk c2
    clear c2
    obtain ⟨y347, hy347⟩ : ∃ y_ : List (S74), y_ = (y344 ++ l0) := ⟨_, rfl⟩
    replace H : (some y347) = some r := by first | (rw [hy347]; with_reducible exact H) | (have H2_ := (Option.bind_some _ _).symm.trans H; rw [hy347]; with_reducible exact H2_) | (have H2_ := (Option.bind_some _ _).symm.trans H; with_reducible exact H2_) | with_reducible exact H | (rw [hy347]; exact H) | exact H
    have Ny347 := Aside0.mk hy347
    clear hy347
    obtain rfl := Option.some.inj H
    go_enter Tryd.func43, Tryd.ntmps43
    go_wp2_with (first | ((with_reducible refine gate_dst (N := 3) rfl ?_); refine Kd.R_lit k74 _ 74 ?hg (N := 3) ?hd (xs := ([] : List (S74))) (inner := []) (ok := fun _ => True) (okp := fun _ => True) ?hr ?hp (fun _ hk => hk) trivial (Below.refl _ _) (Nat.le_refl _) (by simp) ?_; (case hd => rfl); (case hg => rfl); (case hr => first | (go_simp; done) | (go_simp; rfl)); (case hp => exact (Reps.none _ _)); intro v345 w3 ho4 hb hg_ hnew_; clear hg_ hnew_; (first | rw [← Ny344.out] at ho4 | (simp only [Int.reduceToNat] at ho4; rw [← Ny344.out] at ho4)); have n0_ := Aside0.mk (Kd.R_lower ho4 (below_size (by repeat (first | (with_reducible first | exact HB.out | apply below_alloc | apply pw_below_drewN | apply below_drew1) | exact HB.out)))); have n1_ := Aside0.mk (below_step (by repeat (first | (with_reducible first | exact HB.out | apply below_alloc | apply pw_below_drewN | apply below_drew1) | exact HB.out)) hb); clear HB; have HO346 := n0_; have HB := n1_; clear n0_ n1_; clear hb ho4) | ((with_reducible refine gate_builtin (b := .append) (xs := #[.tmp 3, .tmp 4]) rfl ?_); at_builtin; refine Kd.R_append_rows k74 (w0 := w) w.heap.size rfl (.tmp 3) (.tmp 4) 24 74 (.agg #[(.int .i64 0), (.int .i64 0), (.int .i64 0), (.int .i64 0), (.int .i64 0), (.int .i64 0)]) 48 rfl Tryd.underlying24 info74 rfl (by decide) (by omega) v345 y344 l0 _ _ _ (fun _ => True) (fun _ => False) rfl rfl ?aO ?aR (fun _ _ h => h) (fun _ h => h.elim) ?aF ?aB ?aS ?aL ?_; (case aR => repeat (first | exact (Kd.C_below HR0.out HB.out) | (with_reducible refine Kd.C_alloc ?_ _) | (with_reducible refine Kd.C_drewN ?_ _) | (with_reducible refine Kd.C_drew ?_))); (case aB => exact (by repeat (first | (with_reducible first | exact HB.out | apply below_alloc | apply pw_below_drewN | apply below_drew1) | exact HB.out))); (case aF => exact (fun _ _ => trivial)); (case aO => exact (by (with_reducible repeat (first | apply Kd.R_alloc | apply Kd.R_drewN | apply Kd.R_drew)); exact HO346.out)); (case aS => exact (below_size (by repeat (first | (with_reducible first | exact HB.out | apply below_alloc | apply pw_below_drewN | apply below_drew1) | exact HB.out)))); (case aL => have := LMc2.out; omega); intro v348 w5 ho hb hg hat; rw [← Ny347.out] at ho; have n0_ := Aside0.mk (hb); have n1_ := Aside0.mk (ho); clear HB; clear HO346; have HB := n0_; have HO349 := n1_; clear n0_ n1_; clear ho hb hg hat))
    go_ret
    exact ⟨_, by first | rfl | (simp [errW_none, errW_some] <;> rfl) | (simp [*, errW_none, errW_some] <;> rfl), by (with_reducible repeat (first | apply Kd.R_alloc | apply Kd.R_drewN | apply Kd.R_drew)); exact HO349.out, by repeat (first | (with_reducible first | exact HB.out | apply below_alloc | apply pw_below_drewN | apply below_drew1) | exact HB.out)⟩
  · rw [if_neg c2] at H
    exact absurd H (by simp)
end Go.Proofs.YtbijamlgcebgeaaDoor.Q

-- part RA
namespace Go.Proofs.YtbijamlgcebgeaaDoor.Hand
open Go.RowKit Go.Shelf Go.Sort Go.Proofs.YtbijamlgcebgeaaDoorW.PrintWords Go.Proofs.YtbijamlgcebgeaaDoorW.PrintMore Go.Proofs.YtbijamlgcebgeaaDoor.Q
/-- Boxes, signs and lists that stand in memory, and what has been since a world. -/
structure FS (w : World) (B : List (Nat × Array Value × Nat)) (S : List (Option Addr × List S74)) (L : List (Option Addr × List Int)) (W : World) : Prop where
  tab : TabW W
  boxes : ∀ p ∈ B, Box W p.1 p.2.1 p.2.2
  signs : ∀ p ∈ S, Kd.C k74 W p.1 p.2.length p.2
  held : Held L W
  below : Below w.heap.size w W
namespace FS
variable {w W W' : World} {B : List (Nat × Array Value × Nat)} {S : List (Option Addr × List S74)} {L : List (Option Addr × List Int)}
theorem step (h : FS w B S L W) (hb : Below W.heap.size W W') : FS w B S L W' :=
  ⟨h.tab.below hb, fun p hp => (h.boxes p hp).step hb, fun p hp => Kd.C_below (h.signs p hp) hb, fun p hp => Kd.C_below (h.held p hp) hb, h.below.trans (hb.mono h.below.size)⟩
theorem alloc (h : FS w B S L W) (o : Obj) : FS w B S L (W.alloc o) := h.step ((Below.refl _ _).alloc (Nat.le_refl _) _)
theorem drew (h : FS w B S L W) : FS w B S L W.drew := h.step ((Below.refl _ _).drew)
theorem drewN (h : FS w B S L W) (n : Nat) : FS w B S L (W.drewN n) := h.step (pw_below_drewN (Below.refl _ _) n)
theorem box (h : FS w B S L W) {b : Nat} {vs : Array Value} {t : Nat} (hm : (b, vs, t) ∈ B) : Box W b vs t := h.boxes _ hm
theorem sign (h : FS w B S L W) {A : Option Addr} {xs : List S74} (hm : (A, xs) ∈ S) : Kd.C k74 W A xs.length xs := h.signs _ hm
theorem list (h : FS w B S L W) {A : Option Addr} {xs : List Int} (hm : (A, xs) ∈ L) : Kd.C (Kd.int .i64) W A xs.length xs := h.held _ hm
end FS
/-- The rules of a fork as they lie in a box. -/
def rv (F : Furn) : Array Value := #[.int .i64 F.bars, .int .i64 F.length, .int .i64 F.gap, .int .i64 F.load, .int .i64 F.near]
structure RC (b : Nat) (F : Furn) (w' : World) : Prop where
  r0 : w'.cell? ⟨b, 0, none⟩ = some (.int .i64 F.bars)
  r1 : w'.cell? ⟨b, 1, none⟩ = some (.int .i64 F.length)
  r2 : w'.cell? ⟨b, 2, none⟩ = some (.int .i64 F.gap)
  r3 : w'.cell? ⟨b, 3, none⟩ = some (.int .i64 F.load)
  r4 : w'.cell? ⟨b, 4, none⟩ = some (.int .i64 F.near)
theorem RC.of {b : Nat} {F : Furn} {W : World} (h : Box W b (rv F) 23) : RC b F W := ⟨h.cell 0 rfl, h.cell 1 rfl, h.cell 2 rfl, h.cell 3 rfl, h.cell 4 rfl⟩
end Go.Proofs.YtbijamlgcebgeaaDoor.Hand

-- part RS
namespace Go.Proofs.YtbijamlgcebgeaaDoor.Hand
open Go.RowKit Go.Shelf Go.Sort Go.Proofs.YtbijamlgcebgeaaDoorW.PrintWords Go.Proofs.YtbijamlgcebgeaaDoorW.PrintMore Go.Proofs.YtbijamlgcebgeaaDoor.Q
attribute [local go_sem high] eqA36
def gR (F : Furn) (l : List S74) (load : List Int) : Bool × Bool × Int := goesR F.bars F.length F.gap F.load F.near l load
structure HC (b : Nat) (lo hi : Int) (w' : World) : Prop where
  lo : w'.cell? ⟨b, 0, none⟩ = some (.int .i64 lo)
  hi : w'.cell? ⟨b, 1, none⟩ = some (.int .i64 hi)
theorem HC.of {b : Nat} {lo hi : Int} {W : World} (h : Box W b #[.int .i64 lo, .int .i64 hi] 36) : HC b lo hi W := ⟨h.cell 0 rfl, h.cell 1 rfl⟩
/-- What a Rack makes. -/
def madeF (x : B5) (xs : List B5) : Furn := ⟨((1 + x.a % 3 : Nat) : Int), ((30 + x.b % 100 : Nat) : Int), ((x.c % 8 : Nat) : Int), ((40 + x.d : Nat) : Int), ((x.e % 40 : Nat) : Int), madeL xs⟩
theorem madeF_ok (x : B5) (hx : x.Ok) (xs : List B5) (hxs : ∀ v ∈ xs, v.Ok) : (madeF x xs).Ok := by
  obtain ⟨h1, h2, h3, h4, h5⟩ := hx
  refine ⟨⟨?_, ?_⟩, ⟨?_, ?_⟩, ⟨?_, ?_⟩, ⟨?_, ?_⟩, ⟨?_, ?_⟩, ?_, ?_⟩
  all_goals try (unfold madeF; simp only; omega)
  · unfold madeF madeL
    simp
    omega
  · intro y hy
    unfold madeF madeL at hy
    obtain ⟨v, hv, rfl⟩ := List.mem_map.1 hy
    obtain ⟨q1, q2, q3, q4, q5⟩ := hxs v (List.mem_of_mem_take hv)
    unfold madeS
    simp only
    omega
end Go.Proofs.YtbijamlgcebgeaaDoor.Hand

-- part RP
namespace Go.Proofs.YtbijamlgcebgeaaDoor.Hand
open Go.RowKit Go.Shelf Go.Sort Go.Proofs.YtbijamlgcebgeaaDoorW.PrintWords Go.Proofs.YtbijamlgcebgeaaDoorW.PrintMore Go.Proofs.YtbijamlgcebgeaaDoor.Q
theorem setL_some (n : Nat) (load : List Int) (hv : ∀ j : Nat, j < load.length → 0 ≤ rd load j ∧ rd load j < n) (ha : ∀ j : Nat, 0 < j → j < load.length → rd load ((j : Int) - 1) < rd load j) :
    ∀ (d k s : Nat), k + d = load.length → ∃ r, setL n load d k s = some r := by
  intro d
  induction d with
  | zero => intro k s _; exact ⟨s, rfl⟩
  | succ d ih =>
    intro k s hk
    have h1 := hv k (by omega)
    unfold setL
    rw [if_pos (by rw [allIn_one]; simp only [Bool.and_eq_true, decide_eq_true_eq]; omega), if_neg (by rintro ⟨h2, h3⟩; have := ha k h2 (by omega); omega)]
    exact ih _ _ (by omega)
theorem ok_check {a b c d e : Int} {l : List S74} (h : (mkF a b c d e l).Ok) : checkF a b c d e l = 0 := by
  obtain ⟨h1, h2, h3, h4, h5, h6, h7⟩ := h
  simp only [mkF] at h1 h2 h3 h4 h5 h6 h7
  unfold checkF
  rw [if_pos (by unfold rulesB; simp only [allIn_one, Bool.and_eq_true, decide_eq_true_eq]; omega), if_neg (by omega), if_neg (by
    simp only [List.any_eq_true, not_exists, not_and]
    intro x hx
    have h8 := h7 x hx
    have : signB x = true := by
      unfold signB
      simp only [allIn_one, allIn_two, Bool.and_eq_true, decide_eq_true_eq]
      omega
    simp [this])]
theorem newR_some {a b c d e : Int} {l : List S74} {load : List Int} (h : (mkF a b c d e l).Ok) (hv : ∀ j : Nat, j < load.length → 0 ≤ rd load j ∧ rd load j < l.length) (ha : ∀ j : Nat, 0 < j → j < load.length → rd load ((j : Int) - 1) < rd load j) :
    ∃ s, newR a b c d e l load = .ok s := by
  obtain ⟨r, hr⟩ := setL_some l.length load hv ha load.length 0 0 (by omega)
  refine ⟨r, ?_⟩
  unfold newR
  rw [if_pos (ok_check h), hr]
end Go.Proofs.YtbijamlgcebgeaaDoor.Hand

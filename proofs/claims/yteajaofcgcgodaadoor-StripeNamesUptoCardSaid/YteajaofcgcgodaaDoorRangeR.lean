/- A range over an iterator that keeps a state of its own in blocks that it lays when it begins (written for this claim's iterators): the caller's invariant abides what the iterator writes there. -/
import Derived.RangeFuncNested
import Derived.RangeFuncBound
import Derived.RangeFuncCalls
import Derived.RangeFuncLeaves
import Derived.RangeFuncBox
import Derived.Shelf.Abstract
import Derived.Shelf.RegionOpen
import Derived.WalkKit
import Derived.OwnWalkIn
namespace Go.Proofs.YteajaofcgcgodaaDoor.R
open Go Go.Proofs Go.RowKit Go.Shelf
set_option linter.unusedVariables false
variable {F : Fence} {n : Nat} {P : Program}

/-- The blocks of S₀, the k blocks from B on, and all cells of the types T, are as they were. -/
def KeepR (S₀ T : Nat → Prop) (B k : Nat) (W W' : World) : Prop := W.heap.size ≤ W'.heap.size ∧ (∀ j, (S₀ j ∨ (B ≤ j ∧ j < B + k)) → W'.heap[j]? = W.heap[j]?) ∧ ∀ (j : Nat) (cs : Array Value) (t : TypeId), T t → W.heap[j]? = some (Obj.cells cs t (0, 0)) → W'.heap[j]? = W.heap[j]?
theorem KeepR.refl (S₀ T : Nat → Prop) (B k : Nat) (W : World) : KeepR S₀ T B k W W := ⟨Nat.le_refl _, fun _ _ => rfl, fun _ _ _ _ _ => rfl⟩
theorem KeepR.trans {S₀ T : Nat → Prop} {B k : Nat} {X Y Z : World} (h : KeepR S₀ T B k X Y) (g : KeepR S₀ T B k Y Z) : KeepR S₀ T B k X Z :=
  ⟨Nat.le_trans h.1 g.1, fun j hj => (g.2.1 j hj).trans (h.2.1 j hj), fun j cs t ht hj => (g.2.2 j cs t ht ((h.2.2 j cs t ht hj).trans hj)).trans (h.2.2 j cs t ht hj)⟩
theorem KeepR.grown {S₀ T : Nat → Prop} {B k : Nat} {W W' : World} {row : Option Nat} (hg : W.grownBy W' row) (hs : ∀ j, S₀ j → j < W.heap.size) (hk : B + k ≤ W.heap.size) (hr : ∀ j, row = some j → ¬ S₀ j ∧ (j < B ∨ B + k ≤ j)) (ht : ∀ (j : Nat) (cs : Array Value) (t : TypeId), row = some j → T t → W.heap[j]? ≠ some (Obj.cells cs t (0, 0))) : KeepR S₀ T B k W W' :=
  ⟨hg.size, fun j hj => hg.block j (by rcases hj with h | h; exact hs j h; omega) (fun e => by have := hr j e.symm; rcases hj with h | h; exact this.1 h; omega),
   fun j cs t htt hj => hg.block j (Array.getElem?_eq_some_iff.1 hj).1 (fun e => ht j cs t e.symm htt hj)⟩
/-- What the iterator may do beside the rounds: lay blocks, and write its own. -/
def AbR {β : Type} (B k : Nat) (J : β → World → Prop) : Prop := ∀ s W W' row, J s W → W.grownBy W' row → (∀ r, row = some r → B ≤ r ∧ r < B + k) → J s W'
/-- The same, and the loop's own record. -/
def OwnR {β : Type} (lo B k : Nat) (I : β → World → Prop) : Prop := ∀ s W W' row, I s W → W.grownBy W' row → (∀ r, row = some r → (lo ≤ r ∧ ∃ o : Obj, W.heap[r]? = some o ∧ o.isCells = false) ∨ (B ≤ r ∧ r < B + k)) → I s W'
theorem OwnR.and {β : Type} {lo B k : Nat} {I I' : β → World → Prop} (h : OwnR lo B k I) (h' : OwnR lo B k I') : OwnR lo B k (fun s W => I s W ∧ I' s W) := fun s W W' row hs hg hr => ⟨h s W W' row hs.1 hg hr, h' s W W' row hs.2 hg hr⟩
theorem OwnR.put {β : Type} {lo B k : Nat} {I : β → World → Prop} (h : OwnR lo B k I) {s : β} {W : World} {l : Nat} {o : Obj} (o' : Obj) (hs : I s W) (hB : lo ≤ l) (hl : W.heap[l]? = some o) (ho : o.isCells = false) : I s (W.putObj l o') :=
  h s W _ (some l) hs (grownBy_putObj' W l o') (fun r e => by cases e; exact .inl ⟨hB, o, hl, ho⟩)
theorem OwnR.lay {β : Type} {lo B k : Nat} {I : β → World → Prop} (h : OwnR lo B k I) {s : β} {W : World} (o : Obj) (hs : I s W) : I s (W.alloc o) :=
  h s W _ none hs (World.grownBy_alloc W o none) (fun r e => by cases e)
/-- What speaks of blocks below lo alone abides it. -/
theorem OwnR.low {β : Type} {lo B k : Nat} (hlo : lo ≤ B) {I : β → World → Prop} (h : ∀ s W W', I s W → W.heap.size ≤ W'.heap.size → (∀ j, j < lo → j < W.heap.size → W'.heap[j]? = W.heap[j]?) → I s W') : OwnR lo B k I :=
  fun s W W' row hs hg hr => h s W W' hs hg.size fun j hj hlt => hg.block j hlt (fun e => by
    rcases hr j e.symm with ⟨h1, _⟩ | ⟨h1, _⟩ <;> omega)
theorem ownR_below {β : Type} {lo B k m : Nat} {w : World} (hm : m ≤ lo) (hlo : lo ≤ B) (hw : m ≤ w.heap.size) : OwnR lo B k (fun (_ : β) W => Below m w W) := fun s W W' row hs hg hr =>
  hs.grown hg (Nat.le_trans hw hs.size) (fun j e => by rcases hr j e with ⟨h1, _⟩ | ⟨h1, _⟩ <;> omega)
theorem ownR_size {β : Type} (lo B k m : Nat) : OwnR lo B k (fun (_ : β) W => m ≤ W.heap.size) := fun s W W' row hs hg _ => Nat.le_trans hs hg.size
/-- An iterator with k blocks of its own. -/
def SeqR {α : Type} (F : Fence) (n : Nat) (P : Program) (g : Nat) (lb : Array Value) (encs : α → Array Value) (S₀ T : Nat → Prop) (k : Nat) (S Sp : List α → Prop) (N : Nat) (w : World) : Prop :=
  ∀ (l : Nat) (J Jx : List α → World → Prop) (W : World), Below w.heap.size w W → AbR W.heap.size k J → AbR W.heap.size k Jx →
    (∀ pre x W1, J pre W1 → pre.length < N → W.heap.size + k ≤ W1.heap.size → YieldAt F (n - 1) P l (encs x) W1 fun e W' =>
      (e = .returned (.bool true) ∧ J (pre ++ [x]) W' ∧ KeepR S₀ T W.heap.size k W1 W') ∨ (e = .returned (.bool false) ∧ Jx (pre ++ [x]) W')) →
    J [] W →
    CallsIn F n P g (#[.func (.yield l) #[] #[]] ++ lb) W fun e W' => (∃ v, e = .returned v) ∧ ((∃ xs, S xs ∧ J xs W') ∨ (∃ pre, Sp pre ∧ Jx pre W'))

set_option maxHeartbeats 1000000 in
/-- The statement 'for .. := range g { .. }' over such an iterator. -/
theorem wpIn_rangeR {α : Type} {g : Operand} {ps : Array Tmp} {assign body : Code} {Q : Exit → Act → World → Prop} {a : Act} {w : World}
    (hro : F.round = none) (h1 : 1 ≤ n) {gf : Nat} {lb : Array Value} (hg : a.eval g = .func (.func gf) #[] lb) (hFg : F.fn gf) (eg : ∀ args w, (callFunc gf args).run P w = .ok (.enter gf args) w)
    {encs : α → Array Value} {S₀ T : Nat → Prop} {k : Nat} {S Sp : List α → Prop} {N : Nat} (hseq : SeqR F (n - 1) P gf lb encs S₀ T k S Sp N w) (hS : ∀ j, S₀ j → j < w.heap.size) (hps : ∀ x, (encs x).size = ps.size)
    (I : List α → World → Prop) (Ix : Code → List α → World → Prop) (hI : OwnR w.heap.size (w.heap.size + 2) k I) (hIx : ∀ c, OwnR w.heap.size (w.heap.size + 2) k (Ix c)) (h0 : I [] w) (Ax : α → Act → World → Prop) (hAx : ∀ x a', OwnFrom w.heap.size (fun (_ : Unit) W => Ax x a' W))
    (hassign : ∀ (l : Nat) (pre : List α) (x : α) (W : World) (K : Act → World → Prop), I pre W → w.heap.size + 2 + k ≤ W.heap.size → (∀ a' W', KeepsFrom w.heap.size W W' → KeepR S₀ T (w.heap.size + 2) k W W' → I pre W' → Ax x a' W' → K a' W') →
      assign.wpIn (F.inRound l) (n - 1 - 1) P (Exit.then K (fun _ _ _ => False)) { tmps := (ps.zip (encs x)).foldl (fun t (p, v) => t.setIfInBounds p v) a.tmps, defers := [] } W)
    (hbody : ∀ (l : Nat) (pre : List α) (x : α) (a' : Act) (W : World), I pre W → Ax x a' W → pre.length < N → w.heap.size + 2 + k ≤ W.heap.size → body.wpIn (F.inRound l) (n - 1 - 1) P (ownPostG w.heap.size (KeepR S₀ T (w.heap.size + 2) k) I Ix (pre ++ [x]) W) a' W)
    (hdone : ∀ (D : Nat) (xs : List α) (W : World), w.heap.size ≤ D → S xs → I xs W → W.heap[D]? = some (.deferred (some [])) → Q .normal { a with defers := { target := .collected D, args := #[] } :: a.defers } W)
    (hstop : ∀ (D : Nat) (c : Code) (pre : List α) (W : World), w.heap.size ≤ D → Sp pre → Ix c pre W → W.heap[D]? = some (.deferred (some [])) → c.wpIn F n P Q { a with defers := { target := .collected D, args := #[] } :: a.defers } W) :
    (Code.rangeFunc g ps assign body).wpIn F n P Q a w := by
  apply wpIn_rangeFunc
  intro fn hfn
  rw [hro]
  obtain ⟨s, hs⟩ : ∃ s, s = w.heap.size := ⟨_, rfl⟩
  obtain ⟨mkr, hmk⟩ : ∃ mkr : LoopState → Option Code → Loop, mkr = fun st pe => { state := st, pending := pe, fn, tmps := a.tmps, params := ps, assign, body, defers := s } := ⟨_, rfl⟩
  obtain ⟨V, hV⟩ : ∃ V, V = (w.alloc (.deferred (some []))).alloc (.loop (mkr .ready none)) := ⟨_, rfl⟩
  have vs : V.heap.size = s + 2 := by rw [hV, hs]; simp
  have vL : V.heap[s + 1]? = some (.loop (mkr .ready none)) := by
    rw [hV, hs]; simpa using World.alloc_heap_new (w.alloc (.deferred (some []))) (.loop (mkr .ready none))
  have vD : V.heap[s]? = some (.deferred (some [])) := by
    rw [hV, hs]; exact (Below.heap_alloc _ _ _ (by simp)).trans (World.alloc_heap_new w _)
  have vI : I [] V := by rw [hV]; exact hI.lay _ (hI.lay _ h0)
  have vB : Below w.heap.size w V := by rw [hV]; exact ((Below.refl _ w).alloc (Nat.le_refl _) _).alloc (by simp) _
  rw [← hs] at hI hIx hAx hassign hbody hdone hstop
  have apart : ∀ {A B : World} {row : Option Nat}, (∀ r, row = some r → V.heap.size ≤ r ∧ r < V.heap.size + k) → A.grownBy B row → ∀ {j : Nat} {o : Obj}, j < s + 2 → A.heap[j]? = some o → B.heap[j]? = some o := by
    intro A B row hr hgr j o hj ho
    exact (hgr.block j (Array.getElem?_eq_some_iff.1 ho).1 (fun e => by have := hr j e.symm; omega)).trans ho
  have wide : ∀ {A : World} {row : Option Nat}, (∀ r, row = some r → V.heap.size ≤ r ∧ r < V.heap.size + k) → ∀ r, row = some r → (s ≤ r ∧ ∃ o : Obj, A.heap[r]? = some o ∧ o.isCells = false) ∨ (s + 2 ≤ r ∧ r < s + 2 + k) := fun hr r e => by have := hr r e; exact .inr (by omega)
  refine ⟨s + 1, [{ target := .collected s, args := #[] }], V, { target := .fn (.func gf) lb, args := #[.func (.yield (s + 1)) #[] #[]] }, V, gf, #[.func (.yield (s + 1)) #[] #[]] ++ lb, V, ?_, ?_, ?_, ?_, fun _ => h1, ?_⟩
  · rw [hV, hmk, hs]; exact run_enterLoop_outer _ _ _ _ _
  · simp only [resolve, hg]
    simp [go_sem]
  · intro f' hf'; simp [Target.leads] at hf'; subst hf'; exact hFg
  · simp [invoke, go_sem, eg]
  · refine (hseq (s + 1) (fun pre W => I pre W ∧ W.heap[s + 1]? = some (.loop (mkr .ready none)) ∧ W.heap[s]? = some (.deferred (some [])))
      (fun pre W => ∃ c, Ix c pre W ∧ W.heap[s + 1]? = some (.loop (mkr .done (some c))) ∧ W.heap[s]? = some (.deferred (some []))) V vB
      (fun t A B row h hgr hr => ⟨hI t A B row h.1 hgr (wide hr), apart hr hgr (by omega) h.2.1, apart hr hgr (by omega) h.2.2⟩)
      (fun t A B row h hgr hr => by obtain ⟨c, h1, h2, h3⟩ := h; exact ⟨c, hIx c t A B row h1 hgr (wide hr), apart hr hgr (by omega) h2, apart hr hgr (by omega) h3⟩)
      ?round ⟨vI, vL, vD⟩).mono ?_
    case round =>
      rintro pre x W ⟨hi, hl, hk⟩ hlen hsz
      have hy := run_yield (P := P) (args := encs x) hl (by rw [hmk]; exact hps x)
      rw [hmk] at hy
      refine ⟨fn, _, assign, body, hy, roundIn_of_wpIn hfn (hassign _ pre x W _ hi (by omega) ?_)⟩
      clear hy
      intro a' X kf kr ix ax
      have xl := kf.same (s + 1) _ (by omega) hl rfl
      have xd := kf.same s _ (Nat.le_refl _) hk rfl
      have xz : s + 1 < X.heap.size := (Array.getElem?_eq_some_iff.1 xl).1
      refine ⟨_, run_beginRound xl (by rw [hmk]), ?_⟩
      obtain ⟨Y, hY⟩ : ∃ Y, Y = X.putObj (s + 1) (.loop { mkr .ready none with state := .busy }) := ⟨_, rfl⟩
      have yl : Y.heap[s + 1]? = some (.loop { mkr .ready none with state := .busy }) := by rw [hY]; exact World.putObj_heap_same xz
      have yd : Y.heap[s]? = some (.deferred (some [])) := by rw [hY]; exact (World.putObj_heap_other (by omega)).trans xd
      have put : ∀ (Z : World) (o : Obj) (lo : Loop), Z.heap[s + 1]? = some (.loop lo) → KeepR S₀ T (s + 2) k Z (Z.putObj (s + 1) o) := fun Z o lo hlo => ⟨by simp, fun j hj => World.putObj_heap_other (by rcases hj with h | h; have := hS j h; omega; omega), fun j cs t _ hj => World.putObj_heap_other (fun e => by subst e; rw [hlo] at hj; cases hj)⟩
      have yk : KeepR S₀ T (s + 2) k W Y := by rw [hY]; exact kr.trans (put X _ _ xl)
      rw [← hY]
      refine wpIn_mono (hbody _ pre x a' Y (by rw [hY]; exact hI.put _ ix (by omega) xl rfl) (by rw [hY]; exact (hAx x a').putObj (s := ()) _ ax (by omega) xl rfl) hlen (by have := yk.1; omega)) ?_
      have shut : ∀ (jump : Option Code) (Z : World), KeepsFrom s Y Z →
          (Instr.endRound (s + 1) jump).run P Z = .ok (.bool jump.isNone) (Z.putObj (s + 1) (.loop (mkr (if jump.isNone then .ready else .done) jump))) ∧ (∃ o : Loop, Z.heap[s + 1]? = some (.loop o)) ∧
          (Z.putObj (s + 1) (.loop (mkr (if jump.isNone then .ready else .done) jump))).heap[s + 1]? = some (.loop (mkr (if jump.isNone then .ready else .done) jump)) ∧
          (Z.putObj (s + 1) (.loop (mkr (if jump.isNone then .ready else .done) jump))).heap[s]? = some (.deferred (some [])) := fun jump Z hz => by
        have zl := hz.same (s + 1) _ (by omega) yl rfl
        have e := run_endRound (P := P) jump zl
        rw [hmk] at e
        refine ⟨by rw [hmk]; exact e, ⟨_, zl⟩, World.putObj_heap_same (Array.getElem?_eq_some_iff.1 zl).1, (World.putObj_heap_other (by omega)).trans (hz.same s _ (Nat.le_refl _) yd rfl)⟩
      intro e a3 Z hp
      cases e with
      | normal =>
        obtain ⟨z1, z2, z3⟩ := hp
        obtain ⟨r1, ⟨o, r2⟩, r3, r4⟩ := shut none Z z1
        exact ⟨_, _, r1, .inl ⟨rfl, ⟨hI.put _ z3 (by omega) r2 rfl, r3, r4⟩, by rw [vs]; exact (yk.trans z2).trans (put Z _ o r2)⟩⟩
      | ret =>
        obtain ⟨z1, z3⟩ := hp
        obtain ⟨r1, ⟨o, r2⟩, r3, r4⟩ := shut (some .ret) Z z1
        exact ⟨_, _, r1, .inr ⟨rfl, .ret, (hIx _).put _ z3 (by omega) r2 rfl, r3, r4⟩⟩
      | exit id =>
        obtain ⟨z1, z3⟩ := hp
        obtain ⟨r1, ⟨o, r2⟩, r3, r4⟩ := shut (some (.exit id)) Z z1
        exact ⟨_, _, r1, .inr ⟨rfl, .exit id, (hIx _).put _ z3 (by omega) r2 rfl, r3, r4⟩⟩
      | goto t =>
        obtain ⟨z1, z3⟩ := hp
        obtain ⟨r1, ⟨o, r2⟩, r3, r4⟩ := shut (some (.goto t)) Z z1
        exact ⟨_, _, r1, .inr ⟨rfl, .goto t, (hIx _).put _ z3 (by omega) r2 rfl, r3, r4⟩⟩
      | panic ch => exact hp.elim
      | outgrown => exact hp.elim
    · rintro e X ⟨⟨v, rfl⟩, (⟨xs, hS', hi, hl, hk⟩ | ⟨pre, hSp, c, hi, hl, hk⟩)⟩
      · exact ⟨none, _, by have e := run_endLoop (P := P) hl (by rw [hmk]; simp); rw [hmk] at e; exact e, hdone s xs _ (Nat.le_refl _) hS' (hI.put _ hi (by omega) hl rfl) ((World.putObj_heap_other (by omega)).trans hk)⟩
      · exact ⟨some c, _, by have e := run_endLoop (P := P) hl (by rw [hmk]; simp); rw [hmk] at e; exact e, hstop s c pre _ (Nat.le_refl _) hSp ((hIx c).put _ hi (by omega) hl rfl) ((World.putObj_heap_other (by omega)).trans hk)⟩
end Go.Proofs.YteajaofcgcgodaaDoor.R

/- stripe.Frags, Objects and Length: over the pieces. -/
import Derived.Test.YteajaofcgcgodaaDoorPieces
import Derived.Test.YteajaofcgcgodaaDoorP2
namespace Go.Proofs.YteajaofcgcgodaaDoor.P
open Go.RowKit Go.Shelf Go.Proofs Go.Proofs.YteajaofcgcgodaaDoorW.PrintWords Go.Proofs.YteajaofcgcgodaaDoorW.PrintLast Go.Proofs.YteajaofcgcgodaaDoorW.PrintMore
open Go.Proofs.YteajaofcgcgodaaDoor.R
attribute [local go_sem] Oper.semAt_some max2_int min2_int max_two min_two
set_option linter.unusedVariables false
set_option linter.unusedSimpArgs false

def flat51 (l : List S51) : List Value := l.flatMap fun x => (cells51 x).toList
theorem flat51_len (l : List S51) : (flat51 l).length = l.length * 4 := by
  induction l with
  | nil => rfl
  | cons x l ih => show ((cells51 x).toList ++ flat51 l).length = _; rw [List.length_append, ih]; simp [cells51]; omega
theorem flat51_at (l : List S51) (j : Nat) (p : S51) (h : l[j]? = some p) : ((flat51 l).drop (j * 4)).take 4 = (cells51 p).toList := by
  induction l generalizing j with
  | nil => simp at h
  | cons x l ih =>
    cases j with
    | zero => simp at h; subst h; rfl
    | succ j =>
      have : (flat51 (x :: l)).drop ((j + 1) * 4) = (flat51 l).drop (j * 4) := by
        rw [show (j + 1) * 4 = 4 + j * 4 by omega, ← List.drop_drop]; rfl
      rw [this]
      exact ih j (by simpa using h)
theorem R_own51 {w : World} {base base' : Nat} (hb : base' ≤ base) {v : Value} {xs : List S51} (h : w.ownsRow base 51 4 v xs.length (flat51 xs)) : Kd.R k51 51 w base' (fun _ => True) v xs :=
  Kd.R_lower ⟨fun _ _ => trivial, flat51 xs, h, flat51_len xs, fun j p hj => by
    rw [show k51.sz = 4 from rfl, flat51_at xs j p hj]
    exact k51_mkM _ _ _ p⟩ hb
/-- 'The box holds a slice that owns these cells' abides what an iterator does. -/
theorem ownR_row {β : Type} {lo B k base bx : Nat} (hlo : lo ≤ B) (hb : B + k ≤ base) (hbx : bx < lo) (tb e size : Nat) (n : β → Nat) (f : β → List Value) : OwnR lo B k (fun s W => ∃ v, Boxed W bx tb v ∧ W.ownsRow base e size v (n s) (f s)) := by
  rintro s X Y row ⟨v, hv, hr⟩ hg hrow
  refine ⟨v, hv.kept hg (fun e' => by rcases hrow bx e'.symm with ⟨h1, _⟩ | ⟨h1, _⟩ <;> omega), hr.kept hg ?_⟩
  rcases hr.2 with ⟨rfl, _⟩ | ⟨g, cap, cur, rfl, hbg, hgb, _⟩
  · exact .inl rfl
  · refine .inr fun e' => ?_
    rcases hrow g (by simpa [Value.ownBlock] using e'.symm) with ⟨_, o, ho, hc⟩ | ⟨_, h2⟩
    · rw [hgb] at ho; cases ho; cases hc
    · omega
theorem ownR_box {β : Type} {lo B k bx : Nat} (hlo : lo ≤ B) (hbx : bx < lo) (tb : Nat) (f : β → Value) : OwnR lo B k (fun s W => Boxed W bx tb (f s)) :=
  fun s X Y row hv hg hrow => hv.kept hg (fun e' => by rcases hrow bx e'.symm with ⟨h1, _⟩ | ⟨h1, _⟩ <;> omega)
theorem cell_four_new (w : World) (a b c d : Value) (t : TypeId) : ∀ j u, [a, b, c, d][j]? = some u → (w.alloc (.cells #[a, b, c, d] t)).cell? ((⟨w.heap.size, 0, none⟩ : Addr).add j) = some u := by
  intro j u hj
  have := blk_cell (blk_new w (Obj.cells #[a, b, c, d] t)) j
  rw [show (⟨w.heap.size, 0, none⟩ : Addr).add j = ⟨w.heap.size, j, none⟩ from by unfold Addr.add; split <;> simp_all, this, ← hj]
  simp
theorem boxed_app {W w1 : World} {n₀ B : Nat} {t e : TypeId} {size : Nat} {v v' : Value} {k m : Nat} {xs ys : List Value} {tmp : Obj}
    (hv : Boxed W B t v) (hte : t ≠ e) (hrow : W.ownsRow n₀ e size v k xs)
    (hown' : w1.ownsRow n₀ e size v' m ys) (hgrow : (W.alloc tmp).grownBy w1 v.ownBlock) :
    Boxed w1 B t v ∧ Boxed (w1.setCell ⟨B, 0, none⟩ v') B t v' ∧ (w1.setCell ⟨B, 0, none⟩ v').ownsRow n₀ e size v' m ys ∧ KeepsOthers W (w1.setCell ⟨B, 0, none⟩ v') := by
  have hv1 : Boxed w1 B t v := (hv.alloc tmp).kept hgrow (hv.not_row hte hrow)
  refine ⟨hv1, hv1.set v', hown'.kept (grownBy_setCell' w1 B v') (.inr (hv1.not_row hte hown').symm), ?_⟩
  refine ((KeepsOthers.alloc W tmp).trans (KeepsOthers.of_grownBy hgrow fun j o ej hj => ?_)).trans (KeepsOthers.setCell _ _ _)
  rcases (hrow.alloc tmp).2 with ⟨rfl, _⟩ | ⟨g, cap, cur, rfl, _, hgb, _⟩
  · simp [Value.ownBlock] at ej
  · obtain rfl : g = j := by simpa [Value.ownBlock] using ej
    rw [hgb] at hj; cases hj; rfl
def fdOf (u c o off : Int) (i : Nat) : Int × Int := (stripe_find.f u c o (wrap64 (off + i))).getD (0, 0)
/-- The layout's parts are no zeros where the code divides by them. -/
def okL (u c o : Int) : Prop := u ≠ 0 ∧ c ≠ 0 ∧ wrap64 (Int.tdiv o u) ≠ 0
instance (u c o : Int) : Decidable (okL u c o) := by unfold okL; exact inferInstance
theorem fd_ok {u c o : Int} (h : okL u c o) (off : Int) (i : Nat) : stripe_find.f u c o (wrap64 (off + i)) = some (fdOf u c o off i) := by
  unfold fdOf stripe_find.f
  rw [if_neg h.1, if_neg h.2.1, if_neg h.2.2]
  rfl
theorem pcs_len (fd : Nat → Int × Int) : ∀ (d i : Nat) (f : S51), (pcs fd d i f).length ≤ d + 1 := by
  intro d
  induction d with
  | zero => intro i f; rw [pcs]; split <;> simp
  | succ d ih =>
    intro i f
    rw [pcs]
    split
    · have := ih (i + 1) ⟨f.f0, f.f1, wrap64 (f.f2 + 1), f.f3⟩; omega
    · have := ih (i + 1) ⟨(fd i).1, (fd i).2, 1, (i : Int)⟩
      rw [List.length_append]
      split <;> simp <;> omega

def stripe_Frags.f (a0_0 : Int) (a0_1 : Int) (a0_2 : Int) (a1 : Int) (a2 : Int) : Option ((List (S51)) × Int) :=
  if a1 < 0 ∨ a2 < 0 ∨ 4096 < a2 ∨ 4096 - a2 < a1 then some ([], 28)
  else if okL a0_0 a0_1 a0_2 then some (pcs (fdOf a0_0 a0_1 a0_2 a1) a2.toNat 0 z51, 0) else none

theorem info51' : ∃ i0, Tryd.prog.info? 51 = some i0 ∧ i0.zero = some (.agg #[(.int .i64 0), (.int .i64 0), (.int .i64 0), (.int .i64 0)]) ∧ i0.size = 4 ∧ i0.bytes = 32 := info_parts info51

set_option maxRecDepth 100000 in
set_option maxHeartbeats 4000000 in
theorem frags_in (u c o off : Int) (m : Nat) (hm : m ≤ 4096) (h0 : ¬ off < 0) (h1 : ¬ 4096 - (m : Int) < off) (hok : okL u c o) (w : World) :
    CallsIn Fence.wide 5 Tryd.prog 13 #[.agg #[.int .i64 u, .int .i64 c, .int .i64 o], .int .i64 off, .int .i64 (m : Int)] w fun e w' => ∃ v0_ : Value, e = .returned (.tuple #[v0_, .int .i64 0]) ∧ Kd.R k51 51 w' w.heap.size (fun _ => True) v0_ (pcs (fdOf u c o off) m 0 z51) ∧ Below w.heap.size w w' := by
  obtain ⟨i0, hi, hz0, hz1, hz2⟩ := info51'
  have hu23 := Tryd.underlying23
  have hu51 := Tryd.underlying51
  have h34 : Fence.wide.fn 34 := trivial
  have d1 : decide (off < 0) = false := decide_eq_false h0
  have d2 : decide ((m : Int) < 0) = false := decide_eq_false (by omega)
  have d3 : decide (4096 < (m : Int)) = false := decide_eq_false (by omega)
  have e4 : wrap64 (4096 - (m : Int)) = 4096 - (m : Int) := by unfold wrap64; omega
  have d4 : decide (4096 - (m : Int) < off) = false := decide_eq_false h1
  have hplen := pcs_len (fdOf u c o off) m 0 z51
  obtain ⟨T, hT⟩ : ∃ T, pcs (fdOf u c o off) m 0 z51 = T := ⟨_, rfl⟩
  rw [hT] at hplen ⊢
  refine callsIn_of_wp_marks Tryd.func13 rfl trivial ?_ rfl
  simp only [Tryd.ntmps13, List.size_toArray, List.length_cons, List.length_nil, Nat.reduceAdd, Nat.reduceSub, Array.replicate_succ, Array.replicate_zero, List.push_toArray, List.append_toArray, List.nil_append, List.cons_append]
  gi_wp2_with (gi_at_call 34; refine (pieces_in Fence.wide _ h34 rfl u c o off (m : Int) _).mono ?_; rintro e w' ⟨rfl, rfl⟩)
  obtain ⟨W0, hW0⟩ : ∃ W0, ((((w.alloc (Obj.cells #[.int .i64 u, .int .i64 c, .int .i64 o] 23)).alloc (Obj.cells #[Value.slice none 0 0] 26)).alloc (Obj.cells #[.int .i64 u, .int .i64 c, .int .i64 o] 23)).alloc (Obj.cells #[Value.int IntKind.i64 off] 2)).alloc (Obj.cells #[Value.int IntKind.i64 (m : Int)] 2) = W0 := ⟨_, rfl⟩
  have hz : W0.heap.size = w.heap.size + 5 := by rw [← hW0]; simp
  have hb0 : Below w.heap.size w W0 := by rw [← hW0]; repeat (first | exact Below.refl _ _ | apply below_alloc)
  have bO : Boxed W0 (w.heap.size + 1) 26 (.slice none 0 0) := by
    rw [← hW0]; have := Boxed.new (w.alloc (Obj.cells #[.int .i64 u, .int .i64 c, .int .i64 o] 23)) 26 (.slice none 0 0); rw [World.size_alloc] at this; exact ((this.alloc _).alloc _).alloc _
  have k2 : W0.heap[w.heap.size + 1 + 1]? = some (Obj.cells #[.int .i64 u, .int .i64 c, .int .i64 o] 23) := by
    rw [← hW0]; have := blk_alloc (blk_alloc (blk_new ((w.alloc (Obj.cells #[.int .i64 u, .int .i64 c, .int .i64 o] 23)).alloc (Obj.cells #[Value.slice none 0 0] 26)) (Obj.cells #[.int .i64 u, .int .i64 c, .int .i64 o] 23)) (Obj.cells #[Value.int IntKind.i64 off] 2)) (Obj.cells #[Value.int IntKind.i64 (m : Int)] 2); simp only [World.size_alloc] at this; exact this
  have k3 : W0.heap[w.heap.size + 1 + 1 + 1]? = some (Obj.cells #[Value.int IntKind.i64 off] 2) := by
    rw [← hW0]; have := blk_alloc (blk_new (((w.alloc (Obj.cells #[.int .i64 u, .int .i64 c, .int .i64 o] 23)).alloc (Obj.cells #[Value.slice none 0 0] 26)).alloc (Obj.cells #[.int .i64 u, .int .i64 c, .int .i64 o] 23)) (Obj.cells #[Value.int IntKind.i64 off] 2)) (Obj.cells #[Value.int IntKind.i64 (m : Int)] 2); simp only [World.size_alloc] at this; exact this
  have k1 : W0.heap[w.heap.size + 1 + 1 + 1 + 1]? = some (Obj.cells #[Value.int IntKind.i64 (m : Int)] 2) := by
    rw [← hW0]; have := blk_new ((((w.alloc (Obj.cells #[.int .i64 u, .int .i64 c, .int .i64 o] 23)).alloc (Obj.cells #[Value.slice none 0 0] 26)).alloc (Obj.cells #[.int .i64 u, .int .i64 c, .int .i64 o] 23)).alloc (Obj.cells #[Value.int IntKind.i64 off] 2)) (Obj.cells #[Value.int IntKind.i64 (m : Int)] 2); simp only [World.size_alloc] at this; exact this
  have hseq := pieces_seq (5 - 1) (by omega) _ _ _ (fun j => j = w.heap.size + 1 + 1 ∨ j = w.heap.size + 1 + 1 + 1 ∨ j = w.heap.size + 1 + 1 + 1 + 1) u c o off m (by omega) (fdOf u c o off) W0 (fun j hj => by rcases hj with h | h | h <;> omega) (.inr (.inr rfl)) (.inl rfl) (.inr (.inl rfl)) k1 k2 k3 (fun i _ => fd_ok hok off i)
  rw [hT] at hseq
  have hI : OwnR (W0.heap.size) (W0.heap.size + 2) 1 (fun (pre : List S51) W => (∃ v, Boxed W (w.heap.size + 1) 26 v ∧ W.ownsRow (W0.heap.size + 2 + 1) 51 4 v pre.length (flat51 pre)) ∧ Below w.heap.size w W) :=
    (ownR_row (by omega) (by omega) (by omega) 26 51 4 _ _).and (ownR_below (by omega) (by omega) (Nat.le_refl _))
  rw [hW0]
  refine wpIn_rangeR rfl (by omega) (gf := 42) rfl trivial (enters_of Tryd.func42 (by kernel_rfl) rfl) hseq (fun j hj => by rcases hj with h | h | h <;> omega) (fun _ => rfl)
    (fun (pre : List S51) W => (∃ v, Boxed W (w.heap.size + 1) 26 v ∧ W.ownsRow (W0.heap.size + 2 + 1) 51 4 v pre.length (flat51 pre)) ∧ Below w.heap.size w W)
    (fun _ _ _ => False) hI (fun _ _ _ _ _ h _ _ => h) ?h0
    (fun (x : S51) (a' : Act) (W : World) => ∃ b : Nat, W.heap[b]? = some (Obj.cells (cells51 x) 51 (0, 0)) ∧ a' = { tmps := #[Value.agg #[Value.int IntKind.i64 u, Value.int IntKind.i64 c, Value.int IntKind.i64 o], Value.int IntKind.i64 off, Value.int IntKind.i64 (m : Int), Value.pointer (some ⟨w.heap.size, 0, none⟩), undef, undef, Value.slice none 0 0, Value.int IntKind.i64 0, Value.pointer (some ⟨w.heap.size + 1, 0, none⟩), Value.pointer (some ⟨b, 0, none⟩), Value.int IntKind.i64 off, Value.bool false, Value.bool false, Value.int IntKind.i64 (m : Int), Value.bool false, Value.bool false, Value.bool false, Value.int IntKind.i64 (m : Int), Value.bool false, Value.bool false, Value.bool false, Value.int IntKind.i64 off, Value.int IntKind.i64 (m : Int), Value.int IntKind.i64 (4096 - (m : Int)), Value.bool false, Value.bool false, Value.agg #[Value.int IntKind.i64 u, Value.int IntKind.i64 c, Value.int IntKind.i64 o], Value.int IntKind.i64 off, Value.int IntKind.i64 (m : Int), Value.func (.func 42) #[] #[Value.pointer (some ⟨w.heap.size + 1 + 1 + 1 + 1, 0, none⟩), Value.pointer (some ⟨w.heap.size + 1 + 1, 0, none⟩), Value.pointer (some ⟨w.heap.size + 1 + 1 + 1, 0, none⟩)], Value.agg (cells51 x), undef, undef, undef, undef, undef], defers := [] }) ?hAx ?assign ?body ?done ?stop
  case h0 => exact ⟨⟨_, bO, World.ownsRow_nil _ _ _ _⟩, hb0⟩
  case hAx =>
    rintro x a' _ X Y row ⟨b, hb, ha⟩ hg hrow
    refine ⟨b, (hg.block b (blk_lt hb) (fun e => ?_)).trans hb, ha⟩
    obtain ⟨_, o, ho, hc⟩ := hrow b e.symm
    rw [hb] at ho; cases ho; cases hc
  case assign =>
    intro l pre x W K hi hsz hK
    obtain ⟨x0, x1, x2, x3⟩ := x
    simp only [cells51]
    gi_wp2
    refine hK _ _ ((KeepsOthers.alloc W _).from _) (KeepR.grown (World.grownBy_alloc W _ none) (fun j hj => ?_) hsz (fun _ e => by cases e) (fun _ _ _ e => by cases e)) (hI.lay _ hi) ⟨_, blk_new _ _, rfl⟩
    rcases hj with h | h | h <;> omega
  case body =>
    rintro l pre x a' W ⟨⟨v, hv, hrow⟩, hB⟩ ⟨b, hb, rfl⟩ hlt hsz
    obtain ⟨x0, x1, x2, x3⟩ := x
    simp only [cells51]
    obtain ⟨q0, q1, q2, q3⟩ := blkC4 W b _ _ _ _ hb
    have hc := hv.cell
    obtain ⟨Av, cv, rfl⟩ := own_slice hrow
    gi_wp2_with (gi_at_builtin; refine wpListIn_append_own _ rfl _ _ 26 rfl (W0.heap.size + 2 + 1) 51 i0 (.agg #[.int .i64 0, .int .i64 0, .int .i64 0, .int .i64 0]) 4 32 Tryd.underlying26 hi hz0 hz1 hz2 rfl (by decide) _ _ _ rfl (hrow.alloc _) ⟨W.heap.size, 0, none⟩ 1 1 [.int .i64 x0, .int .i64 x1, .int .i64 x2, .int .i64 x3] rfl rfl (cell_four_new _ _ _ _ _ _) (by simp [Value.oneCell']) (by simp only [maxLen]; omega) (by omega) (by simp; omega) ?_; intro v' w1 hown' hgrow _; obtain ⟨g', cap', rfl⟩ := ownsRow_succ hown'; obtain ⟨hv1, hv2, hr2, hk2⟩ := boxed_app hv (by decide) hrow hown' hgrow; have hc1 := hv1.cell; have hf1 := hv1.frozen)
    have hg8 : ∀ r, (Value.slice Av pre.length cv).ownBlock = some r → w.heap.size + 8 ≤ r ∧ ∃ cur, W.heap[r]? = some (Obj.cells cur 51 (0, 0)) := fun r e => by
      rcases hrow.2 with ⟨h1, _⟩ | ⟨g, cap, cur, h1, hbg, hgb, _⟩
      · rw [h1] at e; simp [Value.ownBlock] at e
      · rw [h1] at e
        obtain rfl : g = r := by simpa [Value.ownBlock] using e
        exact ⟨by omega, cur, hgb⟩
    have hB' := (hB.alloc (by omega) (Obj.cells #[Value.int IntKind.i64 x0, Value.int IntKind.i64 x1, Value.int IntKind.i64 x2, Value.int IntKind.i64 x3] 51)).grown hgrow (by simp; omega) (fun r e => by have := (hg8 r e).1; omega)
    refine ⟨hk2.from _, ?_, ⟨_, hv2, ?_⟩, hB'.grown (grownBy_setCell' w1 _ _) (by have := hgrow.size; simp at this; omega) (fun r e => by cases e; omega)⟩
    · refine (KeepR.grown (World.grownBy_alloc W _ none) (fun j hj => by rcases hj with h | h | h <;> omega) (by omega) (fun _ e => by cases e) (fun _ _ _ e => by cases e)).trans ((KeepR.grown hgrow (fun j hj => by simp; rcases hj with h | h | h <;> omega) (by simp; omega) (fun r e => ?_) (fun r cs t e ht => ?_)).trans (KeepR.grown (grownBy_setCell' w1 _ _) (fun j hj => by have := hgrow.size; simp at this; rcases hj with h | h | h <;> omega) (by have := hgrow.size; simp at this; omega) (fun r e => ?_) (fun r cs t e ht => ?_)))
      · have := (hg8 r e).1
        exact ⟨fun h => by rcases h with h | h | h <;> omega, by omega⟩
      · obtain ⟨_, cur, hc⟩ := hg8 r e
        rw [blk_alloc hc _]
        intro h
        cases h
        cases ht
      · cases e
        exact ⟨fun h => by rcases h with h | h | h <;> omega, by omega⟩
      · cases e
        rw [show w1.heap[w.heap.size + 1]? = _ from hv1]
        intro h
        cases h
        cases ht
    · have e : flat51 (pre ++ [⟨x0, x1, x2, x3⟩]) = flat51 pre ++ [Value.int IntKind.i64 x0, Value.int IntKind.i64 x1, Value.int IntKind.i64 x2, Value.int IntKind.i64 x3] := by
        unfold flat51; rw [List.flatMap_append]; rfl
      rw [hz] at hr2
      rw [e, List.length_append]
      exact hr2
  case done =>
    rintro D zs W hD rfl ⟨⟨v, hv, hrow⟩, hB⟩ hK
    have hc := hv.cell
    obtain ⟨Av, cv, rfl⟩ := own_slice hrow
    gi_wp2
    refine ⟨by simp, .inl ⟨_, _, rfl, run_takeDeferred hK, ?_⟩⟩
    exact ⟨_, results_tmp2 rfl _ _ _, _, rfl, R_own51 (by omega) (ownsRow_putObj hrow _ hK rfl), hB.grown (grownBy_putObj' W D _) (by have := hB.size; omega) (fun r e => by cases e; omega)⟩
  case stop => exact fun D c pre W _ _ h _ => h.elim

set_option maxHeartbeats 1000000 in
theorem frags_no (u c o off n : Int) (w : World) (h : off < 0 ∨ n < 0 ∨ 4096 < n ∨ 4096 - n < off) :
    Calls Tryd.prog 13 #[.agg #[.int .i64 u, .int .i64 c, .int .i64 o], .int .i64 off, .int .i64 n] w fun e w' => ∃ v0_ : Value, e = .returned (.tuple #[v0_, .int .i64 28]) ∧ Kd.R k51 51 w' w.heap.size (fun _ => True) v0_ [] ∧ Below w.heap.size w w' := by
  have hu23 := Tryd.underlying23
  have fin : ∀ w', Below w.heap.size w w' → ∃ v0_ : Value, (Ending.returned (.tuple #[.slice none 0 0, .int .i64 28])) = .returned (.tuple #[v0_, .int .i64 28]) ∧ Kd.R k51 51 w' w.heap.size (fun _ => True) v0_ [] ∧ Below w.heap.size w w' := fun w' hb => ⟨_, rfl, Kd.R_nil _ _ _ _ _, hb⟩
  go_enter Tryd.func13, Tryd.ntmps13
  by_cases h1 : off < 0
  · have d1 : decide (off < 0) = true := decide_eq_true h1
    go_wp2
    go_ret2
    exact fin _ ((Below.refl _ _).alloc (Nat.le_refl _) _)
  · have d1 : decide (off < 0) = false := decide_eq_false h1
    by_cases h2 : n < 0
    · have d2 : decide (n < 0) = true := decide_eq_true h2
      go_wp2
      go_ret2
      exact fin _ ((Below.refl _ _).alloc (Nat.le_refl _) _)
    · have d2 : decide (n < 0) = false := decide_eq_false h2
      by_cases h3 : 4096 < n
      · have d3 : decide (4096 < n) = true := decide_eq_true h3
        go_wp2
        go_ret2
        exact fin _ ((Below.refl _ _).alloc (Nat.le_refl _) _)
      · have d3 : decide (4096 < n) = false := decide_eq_false h3
        have e4 : wrap64 (4096 - n) = 4096 - n := by unfold wrap64; omega
        have d4 : decide (4096 - n < off) = true := decide_eq_true (by omega)
        go_wp2
        go_ret2
        exact fin _ ((Below.refl _ _).alloc (Nat.le_refl _) _)
theorem stripe_Frags.calls (a0_0 : Int) (a0_1 : Int) (a0_2 : Int) (a1 : Int) (a2 : Int) (r1 : List (S51)) (r2 : Int) (w : World) (h : stripe_Frags.f a0_0 a0_1 a0_2 a1 a2 = some (r1, r2)) :
    Calls Tryd.prog 13 #[.agg #[.int .i64 a0_0, .int .i64 a0_1, .int .i64 a0_2], .int .i64 a1, .int .i64 a2] w fun e w' => ∃ v0_ : Value, e = .returned (.tuple #[v0_, .int .i64 r2]) ∧ Kd.R k51 51 w' w.heap.size (fun _ => True) v0_ r1 ∧ Below w.heap.size w w' := by
  unfold stripe_Frags.f at h
  split at h
  · rename_i hb
    cases h
    exact frags_no a0_0 a0_1 a0_2 a1 a2 w hb
  · rename_i hb
    split at h
    · rename_i hok
      cases h
      obtain ⟨m, rfl⟩ := Int.eq_ofNat_of_zero_le (show 0 ≤ a2 by omega)
      rw [Int.toNat_natCast]
      exact callsIn_wide.1 (frags_in a0_0 a0_1 a0_2 a1 m (by omega) (by omega) (by omega) hok w)
    · cases h
end Go.Proofs.YteajaofcgcgodaaDoor.P

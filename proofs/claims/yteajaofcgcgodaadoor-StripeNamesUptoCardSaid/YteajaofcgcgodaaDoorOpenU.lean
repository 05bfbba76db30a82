/- Reading an argument, by its kind, with its bulk (the second form's bound). -/
import Derived.Test.YteajaofcgcgodaaDoorRows
import Derived.Test.YteajaofcgcgodaaDoorOpen
import Derived.JoinedCond
import Derived.LaidLaws
namespace Go.Proofs.YteajaofcgcgodaaDoor.OpenU
open Go.RowKit Go.ChangeShapes Go.WideShapes Go.Proofs.YteajaofcgcgodaaDoorW.PrintWords Go.Proofs.YteajaofcgcgodaaDoor.Open
/-- As Opens; and the value's bulk is at most the data's. -/
def OpensB (P : Program) (t : TypeId) {α : Type} (d : Kd α) (G : α → Prop) (B : α → Nat) : Prop :=
  ∀ (H : Type) (enc : TypeId × Value → H) (w : World) (fuel : Nat) (cs : List Value) (x : DataW H × List MemPlace),
    DataW.trod enc P w 0 (fun _ => true) true fuel t cs = some x → ∃ a : α, d.K w a cs ∧ ((DataW.weights P t x.1).all (· ≤ reachBytes) = true → G a) ∧ B a ≤ Rows.uptoBulk x.1
theorem bulk_one {H : Type} (d : DataW H) : 1 ≤ Rows.uptoBulk d := by
  cases d with
  | lit l => cases l <;> simp [Rows.uptoBulk]
  | _ => simp [Rows.uptoBulk]
theorem bulk_all_len {H : Type} (l : List (DataW H)) : l.length ≤ Rows.uptoBulkAll l := by
  induction l with
  | nil => simp [Rows.uptoBulkAll]
  | cons x r ih => have := bulk_one x; simp only [Rows.uptoBulkAll, List.length_cons]; omega
theorem bulk_all_mem {H : Type} {d : DataW H} : ∀ {l : List (DataW H)}, d ∈ l → Rows.uptoBulk d ≤ Rows.uptoBulkAll l := by
  intro l
  induction l with
  | nil => intro h; cases h
  | cons y r ih =>
    intro h
    simp only [Rows.uptoBulkAll]
    rcases List.mem_cons.1 h with rfl | h
    · omega
    · have := ih h; omega
theorem bulk_all_append {H : Type} (l m : List (DataW H)) : Rows.uptoBulkAll (l ++ m) = Rows.uptoBulkAll l + Rows.uptoBulkAll m := by
  induction l with
  | nil => simp [Rows.uptoBulkAll]
  | cons y r ih => simp only [List.cons_append, Rows.uptoBulkAll, ih]; omega
theorem opensB_any {P : Program} {t : TypeId} {α : Type} {d : Kd α} {G : α → Prop} (h : Opens P t d G) : OpensB P t d G (fun _ => 1) := by
  intro H enc w fuel cs x hx
  obtain ⟨a, hk, hG⟩ := h H enc w fuel cs x hx
  exact ⟨a, hk, hG, bulk_one _⟩
theorem opensB_string {P : Program} {t : TypeId} (ht : P.underlying t = some .string) : OpensB P t Kd.string (fun s => s.size ≤ 140737488351232) (fun s => s.size + 1) := by
  intro H enc w fuel cs x h
  obtain ⟨s, rfl, rfl, hs⟩ := DataW.trod_string ht h
  refine ⟨s, rfl, fun hw => ?_, ?_⟩
  · simp only [DataW.weights, List.all_cons, List.all_nil, Bool.and_true, decide_eq_true_eq, Array.length_toList] at hw
    exact hw
  · simp only [Rows.uptoBulk, Array.length_toList]
    exact Nat.le_refl _
theorem opensB_iso {P : Program} {t : TypeId} {α β : Type} {d : Kd α} {G : α → Prop} {B : α → Nat} (h : OpensB P t d G B) (f : β → α) (g : α → β) (hg : ∀ a, f (g a) = a) : OpensB P t (Kd.iso d f) (fun x => G (f x)) (fun x => B (f x)) := by
  intro H enc w fuel cs x hx
  obtain ⟨a, hk, hG, hB⟩ := h H enc w fuel cs x hx
  exact ⟨g a, by show d.K w (f (g a)) cs; rw [hg]; exact hk, fun hw => by show G (f (g a)); rw [hg]; exact hG hw, by show B (f (g a)) ≤ _; rw [hg]; exact hB⟩
def OpensFsB (P : Program) (fs : List Field) (o : Nat) {α : Type} (d : Kd α) (G : α → Prop) (B : α → Nat) : Prop :=
  ∀ (H : Type) (enc : TypeId × Value → H) (w : World) (n : Nat) (cs : List Value) (xs : List (DataW H × List MemPlace)), cs.length = o + d.sz → xs.length = fs.length →
    (∀ (i : Nat) (f : Field), fs[i]? = some f → DataW.trod enc P w 0 (fun _ => true) true n f.type ((cs.drop f.offset).take (P.cellsOf f.type)) = xs[i]?) →
    ∃ a : α, d.K w a (cs.drop o) ∧ ((DataW.weightsEach P (fs.map (·.type)) (xs.map (·.1))).all (· ≤ reachBytes) = true → G a) ∧ B a ≤ Rows.uptoBulkAll (xs.map (·.1))
theorem opensFsB_one {P : Program} {f : Field} {o : Nat} {α : Type} {d : Kd α} {G : α → Prop} {B : α → Nat} (ho : f.offset = o) (hc : P.cellsOf f.type = d.sz) (h : OpensB P f.type d G B) : OpensFsB P [f] o d G B := by
  intro H enc w n cs xs hl hx hf
  match xs, hx with
  | [x], _ =>
    have h0 := hf 0 f rfl
    rw [ho, hc] at h0
    have e : (cs.drop o).take d.sz = cs.drop o := List.take_of_length_le (by rw [List.length_drop]; omega)
    rw [e] at h0
    obtain ⟨a, hk, hG, hB⟩ := h H enc w n _ x h0
    refine ⟨a, hk, fun hw => hG ?_, ?_⟩
    · simpa [DataW.weightsEach] using hw
    · simp only [List.map_cons, List.map_nil, Rows.uptoBulkAll]; omega
theorem opensFsB_cons {P : Program} {f : Field} {fs : List Field} {o : Nat} {α β : Type} {d : Kd α} {d2 : Kd β} {G : α → Prop} {G2 : β → Prop} {B : α → Nat} {B2 : β → Nat} (ho : f.offset = o) (hc : P.cellsOf f.type = d.sz) (h : OpensB P f.type d G B)
    (h2 : OpensFsB P fs (o + d.sz) d2 G2 B2) : OpensFsB P (f :: fs) o (Kd.pair d d2) (fun a => G a.1 ∧ G2 a.2) (fun a => B a.1 + B2 a.2) := by
  intro H enc w n cs xs hl hx hf
  match xs, hx with
  | x :: xs, hx =>
    have h0 := hf 0 f rfl
    rw [ho, hc] at h0
    obtain ⟨a, hk, hG, hB⟩ := h H enc w n _ x h0
    obtain ⟨b, hk2, hG2, hB2⟩ := h2 H enc w n cs xs (by rw [hl]; show o + (d.sz + d2.sz) = _; omega) (by simpa using hx) (fun i f hi => by simpa using hf (i + 1) f (by simpa using hi))
    refine ⟨(a, b), ⟨(cs.drop o).take d.sz, cs.drop (o + d.sz), ?_, hk, hk2⟩, fun hw => ?_, ?_⟩
    · rw [← List.drop_drop, List.take_append_drop]
    · simp only [List.map_cons, DataW.weightsEach, List.all_append, Bool.and_eq_true] at hw
      exact ⟨hG hw.1, hG2 hw.2⟩
    · simp only [List.map_cons, Rows.uptoBulkAll]; omega
theorem opensB_struct {P : Program} {t : TypeId} {fs : Array Field} {α : Type} {d : Kd α} {G : α → Prop} {B : α → Nat} (ht : P.underlying t = some (.struct fs)) (hc : P.cellsOf t = d.sz) (h : OpensFsB P fs.toList 0 d G B) : OpensB P t d G (fun a => B a + 1) := by
  intro H enc w fuel cs x hx
  obtain ⟨xs, n, _, rfl, hl, hlen, hf⟩ := DataW.trod_struct ht hx
  obtain ⟨a, hk, hG, hB⟩ := h H enc w n cs xs (by rw [hl, hc]; omega) (by simpa using hlen) (fun i f hi => hf i f (by simpa using hi))
  refine ⟨a, by simpa using hk, fun hw => hG ?_, ?_⟩
  · simpa [DataW.weights, ht] using hw
  · simp only [Rows.uptoBulk]; omega
theorem sum_le {H : Type} {α : Type} {B : α → Nat} {D : Nat → DataW H} : ∀ (n : Nat) (l : List α), l.length = n → (∀ i a, l[i]? = some a → B a ≤ Rows.uptoBulk (D i)) → (l.map B).sum ≤ Rows.uptoBulkAll ((List.range n).map D) := by
  intro n
  induction n with
  | zero => intro l hl _; rw [List.length_eq_zero_iff.1 hl]; simp
  | succ n ih =>
    intro l hl h
    have e : l = l.take n ++ [l[n]'(by omega)] := by rw [List.take_append_getElem]; exact (List.take_of_length_le (by omega)).symm
    have i0 := ih (l.take n) (by rw [List.length_take]; omega) (fun i a hi => h i a (by
      by_cases hin : i < n
      · rwa [List.getElem?_take_of_lt hin] at hi
      · rw [List.getElem?_eq_none (by rw [List.length_take]; omega)] at hi; cases hi))
    have i1 := h n (l[n]'(by omega)) (List.getElem?_eq_getElem _)
    rw [List.range_succ, List.map_append, bulk_all_append, e, List.map_append, List.sum_append]
    have e3 : (List.map B [l[n]'(by omega)]).sum = B (l[n]'(by omega)) := by simp
    have e4 : Rows.uptoBulkAll (List.map D [n]) = Rows.uptoBulk (D n) := by simp [Rows.uptoBulkAll]
    rw [e3, e4]
    exact Nat.add_le_add i0 i1
theorem opensB_slice {P : Program} {t e : TypeId} {Z : Nat} {α : Type} {d : Kd α} {G : α → Prop} {B : α → Nat} (ht : P.underlying t = some (.slice e)) (hc : P.cellsOf e = d.sz) (hB : P.bytesOf e = Z) (h : OpensB P e d G B) :
    OpensB P t (Kd.slice e d) (fun xs => xs.length ≤ 9223372036854775807 ∧ xs.length * Z ≤ 140737488351232 ∧ ∀ x ∈ xs, G x) (fun xs => (xs.map B).sum + 1) := by
  intro H enc w fuel cs x hx
  rcases Go.Deep.open_slice ht hx with ⟨rfl, rfl⟩ | ⟨a, len, cap, m, n, D, Pl, rfl, hb, hl, hm, hmm, rfl, hel⟩
  · exact ⟨[], ⟨none, 0, rfl, Nat.le_refl _, Kd.C_nil _ _⟩, fun _ => ⟨by simp, by simp, fun x hx => by cases hx⟩, by simp [Rows.uptoBulk]⟩
  · simp only [if_true] at hmm
    subst hmm
    rw [hc] at hel
    obtain ⟨l, hll, hp⟩ := choose_list (fun i (y : α) => ∃ c, c.length = d.sz ∧ d.K w y c ∧ (∀ j u, c[j]? = some u → w.cell? (a.add (i * d.sz + j)) = some u) ∧ ((DataW.weights P e (D i)).all (· ≤ reachBytes) = true → G y) ∧ B y ≤ Rows.uptoBulk (D i)) len (fun i hi => by
      obtain ⟨cs', h1, h2⟩ := hel i (by omega)
      obtain ⟨_, hlen, hcell⟩ := World.cells?_some h1
      obtain ⟨y, hk, hG, hBy⟩ := h H enc w n cs' _ h2
      refine ⟨y, cs', hlen, hk, fun j u hu => ?_, hG, hBy⟩
      have hj : j < d.sz := by
        have := (List.getElem?_eq_some_iff.1 hu).1
        omega
      have ha : (a.add (i * d.sz)).add j = a.add (i * d.sz + j) := by
        unfold Addr.add
        by_cases h1 : i * d.sz = 0 <;> by_cases h2 : j = 0 <;> simp [h1, h2, Nat.add_assoc]
      rw [← ha, hcell j hj]
      exact hu)
    refine ⟨l, ⟨some a, m, by rw [hll], by omega, ⟨rfl, by unfold maxLen at hm; omega, fun _ => ⟨a, rfl, fun j p hj => ?_⟩⟩⟩, fun hw => ?_, ?_⟩
    · obtain ⟨c, h1, h2, h3, _⟩ := hp j p hj
      exact ⟨c, h1, h2, h3⟩
    · simp only [DataW.weights, ht, List.all_cons, List.all_append, Bool.and_eq_true, decide_eq_true_eq, List.length_map, List.length_range, hB] at hw
      obtain ⟨hw1, hw2, _⟩ := hw
      refine ⟨by unfold maxLen at hm; omega, ?_, fun x hx => ?_⟩
      · rw [hll]
        exact Nat.le_trans (Nat.mul_le_mul_right _ (by omega)) hw1
      · obtain ⟨i, hi, rfl⟩ := List.mem_iff_getElem.1 hx
        obtain ⟨_, _, _, _, hG, _⟩ := hp i _ (List.getElem?_eq_getElem hi)
        exact hG (weightsAll_mem (List.mem_map.2 ⟨i, List.mem_range.2 (by omega), rfl⟩) hw2)
    · have := sum_le len l hll (fun i y hy => by obtain ⟨_, _, _, _, _, hb⟩ := hp i y hy; exact hb)
      simp only [Rows.uptoBulk]
      omega
/-- An argument that is one cell, with its bulk. -/
theorem OpensB.one {H : Type} {enc : TypeId × Value → H} {P : Program} {W : World} {t : TypeId} {α : Type} {d : Kd α} {G : α → Prop} {B : α → Nat} (h : OpensB P t d G B) {ts : List TypeId} {ds : List (DataW H)} (hsz : (DataW.weightsEach P ts ds).all (· ≤ reachBytes) = true) {j : Nat} {v : Value} {x : DataW H} {ps : List MemPlace}
    (ht : ts[j]? = some t) (hd : ds[j]? = some x) (hT : DataW.Trod enc P W 0 (fun _ => true) true t v x ps) : ∃ a : α, d.K W a v.cells.toList ∧ G a ∧ B a ≤ Rows.uptoBulk x := by
  obtain ⟨fuel, hf⟩ := hT
  obtain ⟨a, hk, hG, hB⟩ := h H enc W fuel _ _ hf
  exact ⟨a, hk, hG (weights_at hsz ht hd), hB⟩

section
variable {H : Type} {enc : TypeId × Value → H}
/-- The wrap for a row with a condition, whose program has laid variables. -/
theorem returnsInHanded_of_cond_and {a : Assume} {C : Checked} {os : Os} {f : FuncId} {fn : Func} {s : OpenSpec} {k : (H : Type) → List (DataW H) → Bool} (hk : s.cond = some k) {F : Stop.Interp} {conds : List PathCond} {apart fresh handsOn again : Bool} {X : World → Array Value → Prop}
    (hX : ∀ (w w' : World) (args : Array Value), w.heap = w'.heap → X w args → X w' args)
    (own : ownKnob C.prog.godebug = none) (started : os.Started) (noInit : C.prog.inits.idxOf? f = none) (hfn : C.prog.funcs[f]? = some fn)
    (witness : ∃ (w : World) (tape : Tape) (i : Input), w.os = os ∧ (w.forCall tape i).Shaped C.prog ∧ i.vars = [] ∧ Input.okWide C.prog (w.forCall tape i) .any w.heap.size f i ∧
      ((s.pre enc C.prog fn conds apart (w.forCall tape i).memory i.args ∧ X (w.forCall tape i).memory i.args) ∧ sizedMet enc C.prog fn s apart (w.forCall tape i).memory i.args) ∧ a.holds C.prog (lone (Frame.enter C.prog f i.args .normal) [] (w.forCall tape i)))
    (contract : ∀ (W : World) (base : Nat) (args : Array Value) (ds gs : List (DataW H)) (before : List MemPlace),
      (∀ (j : Nat) t v, fn.params[j]? = some t → args[j]? = some v → Value.okWide C.prog W .any base t v) →
      DataW.Whole enc C.prog fn.params.toList s.vars apart W args.toList ds gs before →
      conds.all (PathCond.test C.prog ⟨fn.params.toList, ds, s.bare.plain.varTypes C.prog, gs⟩) = true → k H (ds ++ gs) = true →
      (DataW.weightsEach C.prog (fn.params.toList ++ s.bare.plain.varTypes C.prog) (ds ++ gs)).all (· ≤ reachBytes) = true → X W args →
      a.holds C.prog (lone (Frame.enter C.prog f args .normal) [] W) →
      Calls C.prog f args W fun e W' => ∃ v, e = .returned v ∧ (s.at F).post enc C.prog fn apart fresh handsOn again W args v W') :
    ReturnsInHanded a C os f .any (fun w args => (s.pre enc C.prog fn conds apart w args ∧ X w args) ∧ sizedMet enc C.prog fn s apart w args) ((s.at F).post enc C.prog fn apart fresh handsOn again) := by
  refine returnsInHanded_of_calls own started noInit witness ?_
  intro w tape i _ _ _ hok hpre hholds
  obtain ⟨_, _, _, fn', hfn', _, _, _, _, hval⟩ := hok
  have e : fn' = fn := Option.some.inj (hfn'.symm.trans hfn)
  subst e
  obtain ⟨⟨hp, hx⟩, hz⟩ := hpre
  obtain ⟨ds, gs, before, hw, hc, hkk⟩ := (OpenSpec.pre_some hk conds apart _ _).1 hp
  have hw' := DataW.Whole.of_heap (w' := w.forCall tape i) (by rfl) hw
  refine (contract (w.forCall tape i) w.heap.size i.args ds gs before hval hw' hc hkk (hz.weights hw) (hX _ _ _ (by rfl) hx) hholds).mono fun e W' ⟨v, he, hp⟩ => ?_
  subst he
  exact ChangeSpec.post_blind hp
theorem witness_cond_shaped {C : Checked} {os : Os} {f : FuncId} {fn : Func} {s : OpenSpec} {k : (H : Type) → List (DataW H) → Bool} (hk : s.cond = some k) {conds : List PathCond} {apart : Bool} {X : World → Array Value → Prop} (modest : Bool) (w0 : World) (args : Array Value) (fuel : Nat) (hos : w0.os = os)
    (hsh : (w0.forCall (fun _ _ => 0) ⟨#[], args, []⟩).Shaped C.prog)
    (hok : Input.okWideB C.prog (w0.forCall (fun _ _ => 0) ⟨#[], args, []⟩) f ⟨#[], args, []⟩ = true)
    {x : List (DataW H) × List (DataW H) × List MemPlace} (hx : DataW.whole enc C.prog (w0.forCall (fun _ _ => 0) ⟨#[], args, []⟩).memory fn.params.toList s.vars apart args.toList fuel = some x)
    (hconds : conds.all (PathCond.test C.prog ⟨fn.params.toList, x.1, s.bare.plain.varTypes C.prog, x.2.1⟩) = true) (hkk : k H (x.1 ++ x.2.1) = true)
    (hsz : s.bare.sizedB enc C.prog fn apart (w0.forCall (fun _ _ => 0) ⟨#[], args, []⟩).memory args fuel = true)
    (hX : X (w0.forCall (fun _ _ => 0) ⟨#[], args, []⟩).memory args) :
    ∃ (w : World) (tape : Tape) (i : Input), w.os = os ∧ (w.forCall tape i).Shaped C.prog ∧ i.vars = [] ∧ Input.okWide C.prog (w.forCall tape i) .any w.heap.size f i ∧
      ((s.pre enc C.prog fn conds apart (w.forCall tape i).memory i.args ∧ X (w.forCall tape i).memory i.args) ∧ sizedMet enc C.prog fn s apart (w.forCall tape i).memory i.args) ∧ ({ modest := modest } : Assume).holds C.prog (lone (Frame.enter C.prog f i.args .normal) [] (w.forCall tape i)) :=
  ⟨w0, fun _ _ => 0, ⟨#[], args, []⟩, hos, hsh, (Input.okWide_of_okWideB (base := 0) hok).1, (Input.okWide_of_okWideB hok).2, ⟨⟨(OpenSpec.pre_some hk conds apart _ _).2 ⟨x.1, x.2.1, x.2.2, DataW.Whole_of_whole hx, hconds, hkk⟩, hX⟩, sizedMet_of_sizedB hsz⟩, by
    simp only [Assume.holds]
    exact ⟨by simp, by simp, fun _ => Modest.zero, by simp, by simp⟩⟩
end
end Go.Proofs.YteajaofcgcgodaaDoor.OpenU

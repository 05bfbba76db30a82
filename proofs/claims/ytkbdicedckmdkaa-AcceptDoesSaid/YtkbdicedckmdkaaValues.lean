-- left of the seat's texts by prune.py, a program of this session
import Derived.Test.YtkbdicedckmdkaaPromise
namespace Go.Proofs.Ytkbdicedckmdkaa.P
open Go.RowKit Go.Shelf Go.Proofs Go.Proofs.YtkbdicedckmdkaaW.PrintWords Go.Proofs.YtkbdicedckmdkaaW.PrintLast Go.Proofs.YtkbdicedckmdkaaW.PrintMore
attribute [local go_sem] Oper.semAt_some
set_option linter.unusedVariables false
set_option linter.unusedSimpArgs false
theorem cells_own {β : Type} (B : Nat) (t : TypeId) (cs : Array Value) : Own (fun (_ : β) W => W.heap[B]? = some (.cells cs t (0, 0))) := fun s X Y row hs hg hrow => by
  refine (hg.block B (blk_lt hs) (fun e => ?_)).trans hs
  obtain ⟨o, ho, hc⟩ := hrow B e.symm
  rw [hs] at ho; cases ho; cases hc
theorem own_away {W : World} {base : Nat} {e : TypeId} {size n : Nat} {v : Value} {xs : List Value} (h : W.ownsRow base e size v n xs) {B : Nat} {t : TypeId} {cs : Array Value} (hB : W.heap[B]? = some (.cells cs t (0, 0))) (ht : e ≠ t) : some B ≠ v.ownBlock := own_ne h hB ht
set_option maxHeartbeats 8000000 in
set_option maxRecDepth 100000 in
theorem values_in (F : Fence) (n : Nat) (h22 : F.fn 22) (h29 : F.fn 29) (h39 : F.fn 39) (hro : F.round = none) (hn : 5 ≤ n) (a0_0 : Int) (a0_1 : Int) (a0_2 : Bool) (a0_3 : Int) (a0_4 : Int) (a0_5 : ByteArray) (A : Option Addr) (c : Nat) (l : List ByteArray) (first most : Int) (w : World) (hr : Kd.C Kd.string w A l.length l) (hc : l.length ≤ c) (hl16 : l.length * 16 ≤ 140737488355328) :
    CallsIn F n Try.prog 22 #[.agg #[.int .i64 a0_0, .int .i64 a0_1, .bool a0_2, .int .i64 a0_3, .int .i64 a0_4, .string a0_5, .slice A l.length c], .int .i64 first, .int .i64 most] w fun e w' => ∃ v : Value, e = .returned v ∧ Kd.R Kd.string 9 w' w.heap.size (fun _ => True) v ((fromV l first).take most.toNat) ∧ Below w.heap.size w w' := by
  have HR := Aside0.mk hr
  have hm := Kd.C_max hr
  have hfl := fromV_len l first
  clear hr
  have hu27 := Try.underlying27
  obtain ⟨i0, hi, hz0, hz1, hz2⟩ := info9'
  have h1 : 1 ≤ n := by omega
  refine callsIn_of_wp_marks Try.func22 rfl h22 ?_ hro
  simp only [Try.ntmps22, List.size_toArray, List.length_cons, List.length_nil, Nat.reduceAdd, Nat.reduceSub, Array.replicate_succ, Array.replicate_zero, List.push_toArray, List.append_toArray, List.nil_append, List.cons_append]
  gi_wp2_with (gi_at_call 29; refine (from_in F (n - 1) h29 hro #[.int .i64 a0_0, .int .i64 a0_1, .bool a0_2, .int .i64 a0_3, .int .i64 a0_4, .string a0_5, .slice A l.length c] rfl first _).mono ?_; rintro e w' ⟨rfl, rfl⟩)
  obtain ⟨W0, hW0⟩ : ∃ W0, (((((w.alloc (Obj.cells #[.int .i64 a0_0, .int .i64 a0_1, .bool a0_2, .int .i64 a0_3, .int .i64 a0_4, .string a0_5, .slice A l.length c] 27)).alloc (Obj.cells #[Value.int IntKind.i64 most] 3)).alloc (Obj.cells #[Value.slice none 0 0] 25)).alloc (Obj.cells #[.int .i64 a0_0, .int .i64 a0_1, .bool a0_2, .int .i64 a0_3, .int .i64 a0_4, .string a0_5, .slice A l.length c] 27)).alloc (Obj.cells #[Value.int IntKind.i64 first] 2)) = W0 := ⟨_, rfl⟩
  have hz0' : W0.heap.size = w.heap.size + 5 := by rw [← hW0]; simp
  have hb0 : Below w.heap.size w W0 := by rw [← hW0]; repeat (first | exact Below.refl _ _ | apply below_alloc)
  have bM : Boxed W0 (w.heap.size + 1) 3 (.int .i64 most) := by
    rw [← hW0]; have := Boxed.new (w.alloc (Obj.cells #[.int .i64 a0_0, .int .i64 a0_1, .bool a0_2, .int .i64 a0_3, .int .i64 a0_4, .string a0_5, .slice A l.length c] 27)) 3 (.int .i64 most); rw [World.size_alloc] at this; exact ((this.alloc _).alloc _).alloc _
  have bO : Boxed W0 (w.heap.size + 1 + 1) 25 (.slice none 0 0) := by
    rw [← hW0]; have := Boxed.new ((w.alloc (Obj.cells #[.int .i64 a0_0, .int .i64 a0_1, .bool a0_2, .int .i64 a0_3, .int .i64 a0_4, .string a0_5, .slice A l.length c] 27)).alloc (Obj.cells #[Value.int IntKind.i64 most] 3)) 25 (.slice none 0 0); rw [World.size_alloc, World.size_alloc] at this; exact (this.alloc _).alloc _
  have k1 : W0.heap[w.heap.size + 1 + 1 + 1 + 1]? = some (.cells #[.int .i64 first] 2 (0, 0)) := by
    rw [← hW0]; have := blk_new ((((w.alloc (Obj.cells #[.int .i64 a0_0, .int .i64 a0_1, .bool a0_2, .int .i64 a0_3, .int .i64 a0_4, .string a0_5, .slice A l.length c] 27)).alloc (Obj.cells #[Value.int IntKind.i64 most] 3)).alloc (Obj.cells #[Value.slice none 0 0] 25)).alloc (Obj.cells #[.int .i64 a0_0, .int .i64 a0_1, .bool a0_2, .int .i64 a0_3, .int .i64 a0_4, .string a0_5, .slice A l.length c] 27)) (Obj.cells #[Value.int IntKind.i64 first] 2); simp only [World.size_alloc] at this; exact this
  have k2 : W0.heap[w.heap.size + 1 + 1 + 1]? = some (.cells #[.int .i64 a0_0, .int .i64 a0_1, .bool a0_2, .int .i64 a0_3, .int .i64 a0_4, .string a0_5, .slice A l.length c] 27 (0, 0)) := by
    rw [← hW0]; have := blk_alloc (blk_new (((w.alloc (Obj.cells #[.int .i64 a0_0, .int .i64 a0_1, .bool a0_2, .int .i64 a0_3, .int .i64 a0_4, .string a0_5, .slice A l.length c] 27)).alloc (Obj.cells #[Value.int IntKind.i64 most] 3)).alloc (Obj.cells #[Value.slice none 0 0] 25)) (Obj.cells #[.int .i64 a0_0, .int .i64 a0_1, .bool a0_2, .int .i64 a0_3, .int .i64 a0_4, .string a0_5, .slice A l.length c] 27)) (Obj.cells #[Value.int IntKind.i64 first] 2); simp only [World.size_alloc] at this; exact this
  rw [hW0]
  have hCF : ∀ W', KeepS (fun k => k < w.heap.size ∨ k = w.heap.size + 1 + 1 + 1 + 1 ∨ k = w.heap.size + 1 + 1 + 1) W0 W' → Kd.C Kd.string W' A l.length l := fun W' hk => Kd.C_F Kd.heap_string HR.out W' (fun k hk1 _ => (hk.2 k (.inl hk1)).trans (hb0.block k hk1))
  clear hW0
  refine wpIn_rangeFunc_ownG hro h1 (gf := 39) (lb := #[.pointer (some ⟨w.heap.size + 1 + 1 + 1 + 1, 0, none⟩), .pointer (some ⟨w.heap.size + 1 + 1 + 1, 0, none⟩)]) rfl h39 (enters_of Try.func39 (by kernel_rfl) rfl)
    (from_stopsS F (n - 1) h39 hro (by omega) _ _ A c l first _ W0 (fun k hk => by rcases hk with hk | hk | hk <;> omega) (.inr (.inl rfl)) (.inr (.inr rfl)) k1 _ rfl k2 hCF hc) KeepS.trans (fun W lo o o' hlo _ _ _ => ⟨by simp [World.putObj], fun k hk => World.putObj_heap_other (by rcases hk with hk | hk | hk <;> omega)⟩) (Below.refl _ _) (fun _ => rfl)
    (fun (pre : List ByteArray) W => (∃ v, Boxed W (w.heap.size + 1 + 1) 25 v ∧ W.ownsRow w.heap.size 9 1 v pre.length (pre.map Value.string) ∧ True) ∧ Boxed W (w.heap.size + 1) 3 (.int .i64 most) ∧ pre.length ≤ most.toNat ∧ (W.heap[w.heap.size + 1 + 1 + 1 + 1]? = some (.cells #[.int .i64 first] 2 (0, 0)) ∧ W.heap[w.heap.size + 1 + 1 + 1]? = some (.cells #[.int .i64 a0_0, .int .i64 a0_1, .bool a0_2, .int .i64 a0_3, .int .i64 a0_4, .string a0_5, .slice A l.length c] 27 (0, 0))) ∧ Below w.heap.size w W)
    (fun cd (pre : List ByteArray) W => (∃ v, Boxed W (w.heap.size + 1 + 1) 25 v ∧ W.ownsRow w.heap.size 9 1 v pre.dropLast.length (pre.dropLast.map Value.string) ∧ True) ∧ cd = .exit 0 ∧ pre.dropLast.length = most.toNat ∧ Below w.heap.size w W)
    ?hI ?hIx ?h0
    (fun x => { tmps := #[.agg #[.int .i64 a0_0, .int .i64 a0_1, .bool a0_2, .int .i64 a0_3, .int .i64 a0_4, .string a0_5, .slice A l.length c], .int .i64 first, .int .i64 most, .pointer (some ⟨w.heap.size, 0, none⟩), undef, .pointer (some ⟨w.heap.size + 1, 0, none⟩), .slice none 0 0, .pointer (some ⟨w.heap.size + 1 + 1, 0, none⟩), .string x, .agg #[.int .i64 a0_0, .int .i64 a0_1, .bool a0_2, .int .i64 a0_3, .int .i64 a0_4, .string a0_5, .slice A l.length c], .int .i64 first, .func (.func 39) #[] #[.pointer (some ⟨w.heap.size + 1 + 1 + 1 + 1, 0, none⟩), .pointer (some ⟨w.heap.size + 1 + 1 + 1, 0, none⟩)], .string x, undef, undef, undef, undef, undef, undef, undef, undef, undef], defers := [] }) ?assign ?body ?done ?stop
  case hI => exact OwnFrom.and (Own.from (holdsRow_own w.heap.size _ 25 9 1 (fun pre : List ByteArray => pre.length) (fun pre => pre.map Value.string) (fun pre v => True)) _) (OwnFrom.and (Own.from (boxed_own _ _ (fun _ => _)) _) (OwnFrom.and (ownFrom_pure _ _) (OwnFrom.and (OwnFrom.and (Own.from (cells_own _ _ _) _) (Own.from (cells_own _ _ _) _)) (ownFrom_below (Nat.le_refl _) (by omega)))))
  case hIx => exact fun cd => OwnFrom.and (Own.from (holdsRow_own w.heap.size _ 25 9 1 (fun pre : List ByteArray => pre.dropLast.length) (fun pre => pre.dropLast.map Value.string) (fun pre v => True)) _) (OwnFrom.and (ownFrom_pure _ _) (OwnFrom.and (ownFrom_pure _ _) (ownFrom_below (Nat.le_refl _) (by omega))))
  case h0 => exact ⟨⟨_, bO, World.ownsRow_nil _ _ _ _, trivial⟩, bM, Nat.zero_le _, ⟨k1, k2⟩, hb0⟩
  case assign =>
    intro lp x W K hK
    gi_wp2
    exact hK
  case body =>
    rintro lp pre x W ⟨⟨v, hv, hrow, _⟩, hM, hpl, ⟨hk1, hk2'⟩, hB⟩ hlt
    obtain ⟨Av, cv, rfl⟩ := own_slice hrow
    have hc1 := hv.cell
    have hc2 := hM.cell
    by_cases hbr : most ≤ (pre.length : Int)
    · have hd : decide (most ≤ (pre.length : Int)) = true := decide_eq_true hbr
      gi_wp2
      exact ⟨KeepsFrom.refl _ _, ⟨_, hv, by simpa using hrow, trivial⟩, rfl, by simp; omega, hB⟩
    · have hd : decide (most ≤ (pre.length : Int)) = false := decide_eq_false hbr
      gi_wp2_with (gi_at_builtin; refine wpListIn_append_own _ rfl _ _ 25 rfl w.heap.size 9 i0 (.string ⟨#[]⟩) 1 16 Try.underlying25 hi hz0 hz1 hz2 rfl (by decide) _ _ _ rfl (hrow.alloc _) ⟨W.heap.size, 0, none⟩ 1 1 [.string x] rfl rfl (cell_one_new _ _ _) (by simp [Value.oneCell']) (by simp only [maxLen]; omega) (by omega) (by have := hB.size; simp; omega) ?_; intro v' w1 hown' hgrow _; obtain ⟨g', cap', rfl⟩ := ownsRow_succ hown'; obtain ⟨hv1, hv2, hr2, hk2, hb2⟩ := hv.appended (by decide) hrow hB.size (by omega) hown' hgrow; have hc3 := hv1.cell; have hf3 := hv1.frozen)
      have hblk : ∀ k o, W.heap[k]? = some o → some k ≠ (Value.slice Av pre.length cv).ownBlock → k ≠ w.heap.size + 1 + 1 → (w1.setCell ⟨w.heap.size + 1 + 1, 0, none⟩ (Value.slice (some ⟨g', 0, none⟩) (pre.length + 1) cap')).heap[k]? = some o := fun k o hk hne hn2 =>
        (Below.heap_setCell _ _ _ k hn2).trans ((hgrow.block k (by have := blk_lt hk; simp; omega) hne).trans (blk_alloc hk _))
      have e1 := hblk _ _ hk1 (own_away hrow hk1 (by decide)) (by omega)
      have e2 := hblk _ _ hk2' (own_away hrow hk2' (by decide)) (by omega)
      have e3 := hblk _ _ hM (own_away hrow hM (by decide)) (by omega)
      exact ⟨hk2.from _, ⟨hb2.size, fun k hk => by
          rcases hk with hk | rfl | rfl
          · exact hb2.block k hk
          · exact e1.trans hk1.symm
          · exact e2.trans hk2'.symm⟩, ⟨_, hv2, by simpa using hr2⟩, e3, by simp; omega, ⟨e1, e2⟩, hB.trans hb2⟩
  case done =>
    rintro D zs W hD rfl ⟨⟨v, hv, hrow, _⟩, hM, hpl, _, hB⟩ hK
    have hc := hv.cell
    have ht : (fromV l first).take most.toNat = fromV l first := List.take_of_length_le hpl
    have HT := Lib.hid ht
    clear ht
    gi_wp2
    refine ⟨by simp, .inl ⟨_, _, rfl, run_takeDeferred hK, ?_⟩⟩
    exact ⟨_, results_tmp rfl _ _ _, v, rfl, by rw [HT.out]; exact R_of_own (ownsRow_putObj hrow _ hK rfl), hB.trans (belowK_b (w := w) (Nat.le_refl _) W D _ _ (by omega) hK rfl rfl)⟩
  case stop =>
    rintro D cd pre W hD ⟨k, hk0, hk1, rfl⟩ ⟨⟨v, hv, hrow, _⟩, rfl, hpl, hB⟩ hK
    have hc := hv.cell
    have hdl : ((fromV l first).take k).dropLast = (fromV l first).take most.toNat := by
      rw [List.dropLast_eq_take, List.length_take] at hpl ⊢
      (try rw [List.length_take] at hpl)
      rw [List.take_take]
      congr 1
      omega
    rw [hdl] at hrow
    have HD := Lib.hid hdl
    clear hdl hpl
    gi_wp2
    refine ⟨by simp, .inl ⟨_, _, rfl, run_takeDeferred hK, ?_⟩⟩
    exact ⟨_, results_tmp rfl _ _ _, v, rfl, R_of_own (ownsRow_putObj hrow _ hK rfl), hB.trans (belowK_b (w := w) (Nat.le_refl _) W D _ _ (by omega) hK rfl rfl)⟩
def accept_Values.f (a0_0 : Int) (a0_1 : Int) (a0_2 : Bool) (a0_3 : Int) (a0_4 : Int) (a0_5 : ByteArray) (l0_6 : List ByteArray) (a1 : Int) (a2 : Int) : Option (List ByteArray) :=
  if l0_6.length * 16 ≤ 140737488355328 then some ((fromV l0_6 a1).take a2.toNat) else none
theorem accept_Values.calls (a0_0 : Int) (a0_1 : Int) (a0_2 : Bool) (a0_3 : Int) (a0_4 : Int) (a0_5 : ByteArray) (A0_6 : Option Addr) (c0_6 : Nat) (l0_6 : List ByteArray) (a1 : Int) (a2 : Int) (r : List ByteArray) (w : World) (hr0_6 : Kd.C Kd.string w A0_6 l0_6.length l0_6) (hc0_6 : l0_6.length ≤ c0_6) (h : accept_Values.f a0_0 a0_1 a0_2 a0_3 a0_4 a0_5 l0_6 a1 a2 = some r) :
    Calls Try.prog 22 #[.agg #[.int .i64 a0_0, .int .i64 a0_1, .bool a0_2, .int .i64 a0_3, .int .i64 a0_4, .string a0_5, .slice A0_6 l0_6.length c0_6], .int .i64 a1, .int .i64 a2] w fun e w' => ∃ v0_ : Value, e = .returned (v0_) ∧ Kd.R Kd.string 9 w' w.heap.size (fun _ => True) v0_ r ∧ Below w.heap.size w w' := by
  unfold accept_Values.f at h
  split at h
  · obtain rfl := Option.some.inj h
    exact callsIn_wide.1 (values_in Fence.wide 9 trivial trivial trivial rfl (by omega) _ _ _ _ _ _ _ _ _ _ _ _ hr0_6 hc0_6 (by assumption))
  · cases h
end Go.Proofs.Ytkbdicedckmdkaa.P

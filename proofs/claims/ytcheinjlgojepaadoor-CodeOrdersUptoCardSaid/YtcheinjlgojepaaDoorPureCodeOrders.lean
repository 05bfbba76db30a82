-- left of the seat's texts by prune.py, a program of this session
import Derived.Test.YtcheinjlgojepaaDoorPureKey
import Derived.Test.YtcheinjlgojepaaDoorPureWrite
import Derived.Test.YtcheinjlgojepaaDoorP17
import Derived.Test.YtcheinjlgojepaaDoorP18
import Derived.Test.YtcheinjlgojepaaDoorP28
import Derived.Test.YtcheinjlgojepaaDoorOps
namespace Go.Proofs.YtcheinjlgojepaaDoor.Pure
open Go.RowKit Go.Proofs.YtcheinjlgojepaaDoor.P Go.Proofs.YtcheinjlgojepaaDoorW.PrintWords Go.Proofs.YtcheinjlgojepaaDoorW.PrintLast Go.Proofs.YtcheinjlgojepaaDoorW.PrintMore
set_option linter.unusedVariables false
set_option linter.unusedSimpArgs false
theorem rorder_eq (b : Bool) : reefref02_order.f b = some (if b = true then -1 else 1) := by unfold reefref02_order.f; split <;> rfl
theorem fit_num (f : S29) (h : fitV f = true) (hk : f.f0 ≠ 4) (hk5 : f.f0 ≠ 5) : f.f2.toList = [] ∧ f.f3 = false := by
  unfold fitV at h
  rcases fit_kind f h with q | q | q | q | q
  · rw [if_pos q] at h; simp only [Bool.and_eq_true, beq_iff_eq, Bool.not_eq_true'] at h; exact ⟨h.2.1, h.2.2⟩
  · rw [if_neg (by omega), if_pos q] at h; simp only [Bool.and_eq_true, beq_iff_eq, Bool.not_eq_true'] at h; exact h
  · rw [if_neg (by omega), if_neg (by omega), if_pos q] at h; simp only [Bool.and_eq_true, beq_iff_eq, Bool.not_eq_true'] at h; exact ⟨h.2.1, h.2.2⟩
  · exact absurd q hk
  · exact absurd q hk5
theorem fit_text (f : S29) (h : fitV f = true) (hk : f.f0 = 4) : f.f1 = 0 ∧ f.f3 = false := by
  unfold fitV at h
  rw [if_neg (by omega), if_neg (by omega), if_neg (by omega), if_pos hk] at h
  simp only [Bool.and_eq_true, beq_iff_eq, Bool.not_eq_true'] at h; exact h
theorem fit_flag (f : S29) (h : fitV f = true) (hk : f.f0 = 5) : f.f1 = 0 ∧ f.f2.toList = [] := by
  unfold fitV at h
  rw [if_neg (by omega), if_neg (by omega), if_neg (by omega), if_neg (by omega), if_pos hk] at h
  simp only [Bool.and_eq_true, beq_iff_eq] at h; exact h
theorem cmpI_self (x : Int) : cmpI x x = 0 := by unfold cmpI; simp
theorem cmpS_self (s : List UInt8) : cmpS s s = 0 := by unfold cmpS; rw [bl_irr]; simp
theorem cmpI_ne {x y : Int} (h : x ≠ y) : cmpI x y = if x < y then -1 else 1 := by unfold cmpI; repeat' split <;> first | rfl | omega
theorem rfield_eq (x y : S29) (hx : fitV x = true) (hy : fitV y = true) : reefref02_field.f x.f0 x.f1 x.f2 x.f3 y.f0 y.f1 y.f2 y.f3 = some (cmpF x y) := by
  unfold reefref02_field.f cmpF or4
  by_cases hk : x.f0 = y.f0
  · rw [if_pos hk, hk, cmpI_self, if_pos rfl]
    by_cases h4 : y.f0 = 4
    · obtain ⟨a1, a2⟩ := fit_text x hx (hk.trans h4)
      obtain ⟨b1, b2⟩ := fit_text y hy h4
      rw [a1, a2, b1, b2, cmpI_self, if_pos rfl, if_pos h4, rorder_eq, Option.bind_some]
      by_cases he : x.f2.toList = y.f2.toList
      · rw [he, cmpS_self]; simp [tr]
      · rw [if_neg (by simp [he])]
        have hc : cmpS x.f2.toList y.f2.toList ≠ 0 := fun h => he (cmpS_zero h)
        rw [if_neg hc]
        unfold cmpS at hc ⊢
        cases h1 : Op.bytesLess x.f2.toList y.f2.toList with
        | true => simp
        | false =>
          rw [h1] at hc
          cases h2 : Op.bytesLess y.f2.toList x.f2.toList with
          | true => simp
          | false => rw [h2] at hc; simp at hc
    · rw [if_neg h4]
      by_cases h5 : y.f0 = 5
      · obtain ⟨a1, a2⟩ := fit_flag x hx (hk.trans h5)
        obtain ⟨b1, b2⟩ := fit_flag y hy h5
        rw [a1, a2, b1, b2, cmpI_self, if_pos rfl, cmpS_self, if_pos rfl, if_pos h5, rorder_eq, Option.bind_some]
        cases x.f3 <;> cases y.f3 <;> simp [tr]
      · obtain ⟨a1, a2⟩ := fit_num x hx (by rw [hk]; exact h4) (by rw [hk]; exact h5)
        obtain ⟨b1, b2⟩ := fit_num y hy h4 h5
        rw [a1, a2, b1, b2, if_neg h5, rorder_eq, Option.bind_some, cmpS_self]
        by_cases he : x.f1 = y.f1
        · rw [he, cmpI_self]; simp [tr]
        · rw [if_neg (by simp [he]), if_neg (fun h => he (cmpI_zero h)), cmpI_ne he]
          by_cases hl : x.f1 < y.f1 <;> simp [hl]
  · rw [if_neg hk, rorder_eq, Option.bind_some, if_neg (fun h => hk (cmpI_zero h)), cmpI_ne hk]
    by_cases hl : x.f0 < y.f0 <;> simp [hl]
theorem rorder_loop (a b : List S29) (ha : a.length < 9223372036854775807) (hb : b.length < 9223372036854775807) (fa : ∀ f ∈ a, fitV f = true) (fb : ∀ f ∈ b, fitV f = true) : ∀ (n i : Nat), i + n = min a.length b.length →
    Ev (fun k => reefref02_Order.l0 k a b (i : Int)) (cmpL (a.drop i) (b.drop i)) := by
  intro n
  induction n with
  | zero =>
    intro i hi
    have hn : a.drop i = [] ∨ b.drop i = [] := by
      rcases Nat.le_total a.length b.length with h | h
      · exact .inl (List.drop_of_length_le (by omega))
      · exact .inr (List.drop_of_length_le (by omega))
    have e : cmpI (a.length : Int) (b.length : Int) = cmpI ((a.drop i).length : Int) ((b.drop i).length : Int) := by
      rw [List.length_drop, List.length_drop]
      unfold cmpI
      repeat' split
      all_goals first | rfl | omega
    rw [cmpL_nil _ _ hn, ← e]
    refine Ev.step (f := fun k => reefref02_Order.j2 k a b (i : Int) false) (fun k => ?_) (Ev.step (f := fun _ => some (cmpI (a.length : Int) (b.length : Int))) (fun k => ?_) (Ev.now _))
    · simp only [reefref02_Order.l0]
      by_cases h : (i : Int) < (a.length : Int)
      · rw [if_pos h, decide_eq_false (by omega)]
      · rw [if_neg h]
    · simp only [reefref02_Order.j2]
      rw [if_neg (by decide), rorder_eq]
      by_cases h : (a.length : Int) = (b.length : Int)
      · rw [if_pos h, h, cmpI_self]
      · rw [if_neg h, Option.bind_some, cmpI_ne h]
        by_cases hl : (a.length : Int) < (b.length : Int) <;> simp [hl]
  | succ n ih =>
    intro i hi
    have hia : i < a.length := by omega
    have hib : i < b.length := by omega
    have ea := rd_at a i hia
    have eb := rd_at b i hib
    rw [List.drop_eq_getElem_cons hia, List.drop_eq_getElem_cons hib, cmpL]
    refine Ev.step (f := fun k => reefref02_Order.j2 k a b (i : Int) true) (fun k => ?_) (Ev.step (f := fun k => if cmpF a[i] b[i] = 0 then (reefref02_Order.l0 k a b ((i + 1 : Nat) : Int)) else some (cmpF a[i] b[i])) (fun k => ?_) ?_)
    · simp only [reefref02_Order.l0]
      rw [if_pos (by omega), decide_eq_true (by omega)]
    · simp only [reefref02_Order.j2]
      rw [if_pos trivial, if_pos (by omega), if_pos (by omega), if_pos (by omega), ea, eb, rfield_eq _ _ (fa _ (List.getElem_mem _)) (fb _ (List.getElem_mem _)), Option.bind_some, wrap_s i (by omega)]
    · by_cases h0 : cmpF a[i] b[i] = 0
      · rw [if_pos h0]
        exact Ev.congr (fun k => by rw [if_pos h0]) (ih (i + 1) (by omega))
      · rw [if_neg h0]
        exact Ev.congr (fun k => by rw [if_neg h0]) (Ev.now _)
theorem rOrder_ev (a b : List S29) (ha : a.length < 9223372036854775807) (hb : b.length < 9223372036854775807) : Ev (fun k => reefref02_Order.f k a b) (ordV a b) := by
  have j0t : Ev (fun k => reefref02_Order.j0 k a b true) 0 := Ev.step (f := fun _ => some 0) (fun k => by simp only [reefref02_Order.j0]; rw [if_pos trivial]) (Ev.now _)
  unfold ordV
  refine Ev.bind (rfits_ev a ha) ?_
  cases fa : a.all fitV with
  | false =>
    rw [if_neg (by decide)]
    exact Ev.congr (fun k => by rw [if_neg (by decide)]) j0t
  | true =>
    rw [if_pos rfl]
    refine Ev.congr (fun k => by rw [if_pos rfl]) (Ev.bind (rfits_ev b hb) ?_)
    cases fb : b.all fitV with
    | false => rw [if_neg (by decide)]; exact j0t
    | true =>
      rw [if_pos rfl]
      have := rorder_loop a b ha hb (fun f hf => List.all_eq_true.1 fa f hf) (fun f hf => List.all_eq_true.1 fb f hf) (min a.length b.length) 0 (by omega)
      simp only [List.drop_zero] at this
      refine Ev.step (fun k => ?_) this
      show reefref02_Order.j0 (k + 1) a b false = _
      simp only [reefref02_Order.j0]
      rw [if_neg (by decide)]
      rfl
theorem lfit_loop (l : List S29) (hl : l.length < 9223372036854775807) : ∀ (n i : Nat), i + n = l.length → Ev (fun k => reeflaw02_fit.l0 k l (i : Int)) ((l.drop i).all fitV) := by
  intro n
  induction n with
  | zero =>
    intro i hi
    rw [List.drop_of_length_le (by omega), List.all_nil]
    refine Ev.step (f := fun _ => some true) (fun k => ?_) (Ev.now _)
    simp only [reeflaw02_fit.l0]
    rw [if_neg (by omega)]
  | succ n ih =>
    intro i hi
    have hil : i < l.length := by omega
    have e := rd_at l i hil
    rw [List.drop_eq_getElem_cons hil, List.all_cons]
    refine Ev.step (f := fun k => if fitV l[i] = true then reeflaw02_fit.l0 k l ((i + 1 : Nat) : Int) else some false) (fun k => ?_) ?_
    · simp only [reeflaw02_fit.l0]
      rw [if_pos (by omega), if_pos (by omega), e, wrap_s i (by omega), rfit_eq, Option.bind_some]
    · cases hf : fitV l[i] with
      | false => exact Ev.congr (f := fun _ => some false) (fun k => by rw [if_neg (by decide)]) (Ev.now _)
      | true =>
        rw [Bool.true_and]
        exact Ev.congr (fun k => by rw [if_pos rfl]) (ih (i + 1) (by omega))
theorem lfit_ev (l : List S29) (hl : l.length < 9223372036854775807) : Ev (fun k => reeflaw02_fit.f k l) (l.all fitV) := by
  have := lfit_loop l hl l.length 0 (by omega)
  simp only [List.drop_zero] at this
  exact this
theorem kindsL_of : ∀ (a b : List S29), (∀ (j : Nat) (h1 : j < a.length) (h2 : j < b.length), a[j].f0 = b[j].f0) → kindsL a b
  | [], _, _ => by unfold kindsL; trivial
  | _ :: _, [], _ => by unfold kindsL; trivial
  | x :: a, y :: b, h => by
    unfold kindsL
    exact ⟨h 0 (by simp) (by simp), kindsL_of a b (fun j h1 h2 => h (j + 1) (by simpa using h1) (by simpa using h2))⟩
theorem ordV_swap (a b : List S29) : ordV b a = - ordV a b := by
  unfold ordV
  rw [cmpL_swap a b]
  cases a.all fitV <;> cases b.all fitV <;> simp
theorem ordV_range (a b : List S29) : ordV a b = -1 ∨ ordV a b = 0 ∨ ordV a b = 1 := by
  have := cmpL_range a b
  unfold ordV
  cases a.all fitV <;> cases b.all fitV <;> simp [this]
theorem codeOrders_loop (a b : List S29) (ha : a.length < 9223372036854775807) (hb : b.length < 9223372036854775807) (fa : ∀ f ∈ a, G29 f ∧ fitV f = true) (fb : ∀ f ∈ b, G29 f ∧ fitV f = true)
    (wa : wk a < 140737488355328) (wb : wk b < 140737488355328) : ∀ (n i : Nat), i + n = min a.length b.length → (∀ (j : Nat) (h1 : j < a.length) (h2 : j < b.length), j < i → a[j].f0 = b[j].f0) →
    Ev (fun k => reeflaw02_CodeOrders.l0 k a b (cmpL a b) (i : Int)) true := by
  intro n
  induction n with
  | zero =>
    intro i hi hj
    have hk := kindsL_of a b (fun j h1 h2 => hj j h1 h2 (by omega))
    have ea : a.all fitV = true := List.all_eq_true.2 fun f hf => (fa f hf).2
    have eb : b.all fitV = true := List.all_eq_true.2 fun f hf => (fb f hf).2
    refine Ev.step (f := fun k => reeflaw02_CodeOrders.j3 k a b (cmpL a b) (i : Int) false) (fun k => ?_) (Ev.step (f := fun k => (code_Key.f k a).bind fun t325 => ((code_Key.f k b).bind fun t326 => (if ((Op.bytesLess t325.toList t326.toList) == (cmpL a b == (-1))) = true then (if ((t325.toList == t326.toList) == (cmpL a b == 0)) = true then ((reeflaw02_awake.f k).bind fun t327 => (some t327)) else (none)) else (none)))) (fun k => ?_) ?_)
    · simp only [reeflaw02_CodeOrders.l0]
      by_cases h : (i : Int) < (a.length : Int)
      · rw [if_pos h, decide_eq_false (by omega)]
      · rw [if_neg h]
    · simp only [reeflaw02_CodeOrders.j3]
      rw [if_neg (by decide)]
    · refine Ev.bind (key_ev a ha (fun f hf => (fa f hf).1) wa) (Ev.bind (key_ev b hb (fun f hf => (fb f hf).1) wb) ?_)
      unfold keyV
      rw [if_pos ea, if_pos eb, strOf_toList, strOf_toList]
      have main : ((Op.bytesLess (by8 (a.flatMap keyB)) (by8 (b.flatMap keyB))) == (cmpL a b == (-1))) = true ∧ ((by8 (a.flatMap keyB) == by8 (b.flatMap keyB)) == (cmpL a b == 0)) = true := by
        rcases keys_order a b fa fb hk with ⟨h1, h2⟩ | ⟨h1, h2⟩ | ⟨h1, h2⟩
        · rw [h1, h2, bl_irr]; simp
        · obtain ⟨g1, g2, g3⟩ := h2.less
          rw [h1, g1, beq_eq_false_iff_ne.2 g3]; decide
        · obtain ⟨g1, g2, g3⟩ := h2.less
          rw [h1, g2, beq_eq_false_iff_ne.2 (Ne.symm g3)]; decide
      exact Ev.congr (fun k => by rw [if_pos main.1, if_pos main.2]) (Ev.bind awake_evr (Ev.now _))
  | succ n ih =>
    intro i hi hj
    have hia : i < a.length := by omega
    have hib : i < b.length := by omega
    have ea := rd_at a i hia
    have eb := rd_at b i hib
    refine Ev.step (f := fun k => reeflaw02_CodeOrders.j3 k a b (cmpL a b) (i : Int) true) (fun k => ?_) (Ev.step (f := fun k => if a[i].f0 = b[i].f0 then (reeflaw02_CodeOrders.l0 k a b (cmpL a b) ((i + 1 : Nat) : Int)) else ((reeflaw02_awake.f k).bind fun t324 => (some t324))) (fun k => ?_) ?_)
    · simp only [reeflaw02_CodeOrders.l0]
      rw [if_pos (by omega), decide_eq_true (by omega)]
    · simp only [reeflaw02_CodeOrders.j3]
      rw [if_pos trivial, if_pos (by omega), if_pos (by omega), if_pos (by omega), ea, eb, wrap_s i (by omega)]
    · by_cases h : a[i].f0 = b[i].f0
      · refine Ev.congr (fun k => by rw [if_pos h]) (ih (i + 1) (by omega) (fun j h1 h2 hlt => ?_))
        by_cases hji : j = i
        · subst hji; exact h
        · exact hj j h1 h2 (by omega)
      · exact Ev.congr (fun k => by rw [if_neg h]) (Ev.bind awake_evr (Ev.now _))
theorem bulk_wk (l : List S29) : l.length + wk l ≤ 13 * (B26 l) := by
  have h : ∀ l : List S29, l.length + wk l ≤ 13 * (l.map B29).sum := by
    intro l
    induction l with
    | nil => simp [wk]
    | cons f l ih =>
      unfold wk at ih ⊢
      rw [List.map_cons, List.sum_cons, List.map_cons, List.sum_cons, List.length_cons]
      have : B29 f = 1 + (1 + ((f.f2.size + 1) + 1)) + 1 := rfl
      omega
  have := h l
  have e : B26 l = (l.map B29).sum + 1 := rfl
  omega
theorem codeOrders_ev (a b : List S29) (ga : G26 a) (gb : G26 b) (ba : B26 a ≤ 1048576) (bb : B26 b ≤ 1048576) : Ev (fun k => reeflaw02_CodeOrders.f k a b) true := by
  have h1 := bulk_wk a
  have h2 := bulk_wk b
  have ha : a.length < 9223372036854775807 := by omega
  have hb : b.length < 9223372036854775807 := by omega
  refine Ev.bind (order_ev a b ha hb) (Ev.bind (rOrder_ev a b ha hb) ?_)
  refine Ev.congr (f := fun k => (code_Order.f k b a).bind fun t318 => (reeflaw02_CodeOrders.j0 k a b (ordV a b) (t318 != (wrap64 (-ordV a b))))) (fun k => by rw [if_pos rfl]) (Ev.bind (order_ev b a hb ha) ?_)
  have hr := ordV_range a b
  have e : (ordV b a != wrap64 (-ordV a b)) = false := by
    rw [ordV_swap a b, bne_eq_false_iff_eq]
    unfold wrap64; omega
  rw [e]
  have j1t : ∀ x : Int, x = 0 → Ev (fun k => reeflaw02_CodeOrders.j1 k a b x true) true := fun x hx => Ev.step (f := fun k => (reeflaw02_awake.f k).bind fun t321 => (some t321)) (fun k => by simp only [reeflaw02_CodeOrders.j1]; rw [if_pos trivial, if_pos hx]) (Ev.bind awake_evr (Ev.now _))
  refine Ev.step (f := fun k => (reeflaw02_fit.f k a).bind fun t319 => (if t319 = true then ((reeflaw02_fit.f k b).bind fun t320 => (reeflaw02_CodeOrders.j1 k a b (ordV a b) (!t320))) else (reeflaw02_CodeOrders.j1 k a b (ordV a b) true))) (fun k => ?_) ?_
  · simp only [reeflaw02_CodeOrders.j0]
    rw [if_neg (by decide)]
  refine Ev.bind (lfit_ev a ha) ?_
  cases fa : a.all fitV with
  | false => exact Ev.congr (fun k => by rw [if_neg (by decide)]) (j1t _ (by unfold ordV; rw [fa, if_neg (by decide)]))
  | true =>
    refine Ev.congr (fun k => by rw [if_pos rfl]) (Ev.bind (lfit_ev b hb) ?_)
    cases fb : b.all fitV with
    | false => exact j1t _ (by unfold ordV; rw [fa, fb, if_pos rfl, if_neg (by decide)])
    | true =>
      have eo : ordV a b = cmpL a b := by unfold ordV; rw [fa, fb, if_pos rfl, if_pos rfl]
      rw [eo]
      refine Ev.step (fun k => ?_) (codeOrders_loop a b ha hb (fun f hf => ⟨ga.2.2 f hf, List.all_eq_true.1 fa f hf⟩) (fun f hf => ⟨gb.2.2 f hf, List.all_eq_true.1 fb f hf⟩) (by omega) (by omega) (min a.length b.length) 0 (by omega) (fun j _ _ h => by omega))
      show reeflaw02_CodeOrders.j1 (k + 1) a b (cmpL a b) false = _
      simp only [reeflaw02_CodeOrders.j1]
      rw [if_neg (by decide)]
      rfl
end Go.Proofs.YtcheinjlgojepaaDoor.Pure
namespace Go.Proofs.YtcheinjlgojepaaDoor.P
open Go.RowKit Go.Proofs.YtcheinjlgojepaaDoorW.PrintWords Go.Proofs.YtcheinjlgojepaaDoorW.PrintLast Go.Proofs.YtcheinjlgojepaaDoorW.PrintMore
theorem reeflaw02_CodeOrders.walkU (A0 : Option Addr) (c0 : Nat) (l0 : List (S29)) (A1 : Option Addr) (c1 : Nat) (l1 : List (S29)) (w : World) (hr0 : Kd.C k29 w A0 l0.length l0) (hc0 : l0.length ≤ c0) (g0 : G26 l0) (hr1 : Kd.C k29 w A1 l1.length l1) (hc1 : l1.length ≤ c1) (g1 : G26 l1) (b0 : B26 l0 ≤ 1048576) (b1 : B26 l1 ≤ 1048576) :
    Calls Tryd.prog 5 #[.slice A0 l0.length c0, .slice A1 l1.length c1] w fun e w' => e = .returned (.bool true) ∧ Below w.heap.size w w' := by
  obtain ⟨k, hk⟩ := (Pure.codeOrders_ev l0 l1 g0 g1 b0 b1).rounds
  exact reeflaw02_CodeOrders.calls k A0 c0 l0 A1 c1 l1 true w hr0 hc0 hr1 hc1 hk
end Go.Proofs.YtcheinjlgojepaaDoor.P

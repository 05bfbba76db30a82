-- left of the seat's texts by prune.py, a program of this session
import Derived.Test.YtcheinjlgojepaaDoorP32
import Derived.Test.YtcheinjlgojepaaDoorPureWrite
import Derived.Test.YtcheinjlgojepaaDoorPureNum
import Derived.Test.YtcheinjlgojepaaDoorOps
namespace Go.Proofs.YtcheinjlgojepaaDoor.Pure
open Go.RowKit Go.Proofs.YtcheinjlgojepaaDoor.P Go.Proofs.YtcheinjlgojepaaDoorW.PrintWords Go.Proofs.YtcheinjlgojepaaDoorW.PrintLast Go.Proofs.YtcheinjlgojepaaDoorW.PrintMore
set_option linter.unusedVariables false
theorem numL_isB : ∀ (n : Nat) (x : Int), 0 ≤ x → x < 128 ^ (n + 1) → IsB (numL n x)
  | 0, x, h0, h1 => by
    have : x < 128 := h1
    intro y hy
    rw [numL, List.mem_singleton] at hy
    subst hy; omega
  | n + 1, x, h0, h1 => by
    rw [numL]
    split
    · intro y hy
      rcases List.mem_cons.1 hy with rfl | hy
      · omega
      · exact numL_isB n (x / 128) (by omega) (by rw [Int.pow_succ] at h1; omega) y hy
    · intro y hy
      rw [List.mem_singleton] at hy
      subst hy; omega
theorem high_isB (x : Int) : IsB (high8 x) := by
  intro y hy
  unfold high8 at hy
  simp only [List.mem_cons, List.not_mem_nil, or_false] at hy
  rcases hy with rfl | rfl | rfl | rfl | rfl | rfl | rfl | rfl <;> omega
theorem te_isB (l : List UInt8) : IsB (te l) := by
  unfold te
  refine IsB.append (nm_isB (esc l)) ?_
  intro y hy
  simp only [List.mem_cons, List.not_mem_nil, or_false] at hy
  rcases hy with rfl | rfl <;> omega
theorem wr_isB (f : S29) (h : fitV f = true) (g : G29 f) : IsB (wr f) := by
  obtain ⟨_, g1, g2, _⟩ := g
  obtain ⟨hl, hh⟩ := wf_i64 g1
  rcases fit_forms f h with ⟨n, hn, rfl⟩ | ⟨n, rfl⟩ | ⟨n, hn, hm, rfl⟩ | ⟨s, rfl⟩ | ⟨t, rfl⟩
  · simp only at hl hh
    rw [wr1 n hn hh]
    exact numL_isB 9 n hn (pow10 (by omega))
  · simp only at hl hh
    obtain ⟨z0, z1⟩ := zig_bounds n hl hh
    rw [wr2 n]
    exact numL_isB 9 _ z0 (pow10 z1)
  · rw [wr3 n]
    intro y hy
    simp only [List.mem_cons, List.not_mem_nil, or_false] at hy
    rcases hy with rfl | rfl | rfl | rfl <;> omega
  · simp only at g2
    rw [wr4 s]
    exact IsB.append (numL_isB 9 _ (by omega) (pow10 (by omega))) (bytes_isB s)
  · rw [wr5 t]
    intro y hy
    rw [List.mem_singleton] at hy
    subst hy
    split <;> omega
theorem keyB_isB (f : S29) (h : fitV f = true) (g : G29 f) : IsB (keyB f) := by
  have hw := wr_isB f h g
  obtain ⟨_, g1, g2, _⟩ := g
  obtain ⟨hl, hh⟩ := wf_i64 g1
  rcases fit_forms f h with ⟨n, hn, rfl⟩ | ⟨n, rfl⟩ | ⟨n, hn, hm, rfl⟩ | ⟨s, rfl⟩ | ⟨t, rfl⟩
  · simp only at hl hh
    rw [kb1 n hn hh]; exact high_isB _
  · simp only at hl hh
    rw [kb2 n hl hh]; exact high_isB _
  · simp only at hl hh
    rw [kb3 n hn hh]; exact high_isB _
  · rw [kb4 s]; exact te_isB _
  · rw [kb5 t]; exact hw
theorem flat_isB (p : S29 → List Int) (hp : ∀ f, fitV f = true → G29 f → IsB (p f)) : ∀ l : List S29, l.all fitV = true → (∀ f ∈ l, G29 f) → IsB (l.flatMap p)
  | [], _, _ => fun n hn => (by cases hn)
  | f :: l, h, g => by
    rw [List.all_cons, Bool.and_eq_true] at h
    rw [List.flatMap_cons]
    exact IsB.append (hp f h.1 (g f (List.mem_cons_self ..))) (flat_isB p hp l h.2 (fun x hx => g x (List.mem_cons_of_mem _ hx)))
theorem le_sum : ∀ {l : List Nat} {a : Nat}, a ∈ l → a ≤ l.sum := by
  intro l
  induction l with
  | nil => intro a h; cases h
  | cons b l ih =>
    intro a h
    rw [List.sum_cons]
    rcases List.mem_cons.1 h with rfl | h
    · omega
    · have := ih h; omega
theorem bulk_back (l : List S29) (h : B26 l ≤ 1048576) : l.length + wt l ≤ 11534336 ∧ wk l ≤ 11534336 := by
  have q : ∀ l : List S29, l.length + wt l ≤ 11 * (l.map B29).sum ∧ wk l ≤ 11 * (l.map B29).sum := by
    intro l
    induction l with
    | nil => simp [wt, wk]
    | cons f l ih =>
      unfold wt wk at ih ⊢
      rw [List.map_cons, List.sum_cons, List.map_cons, List.sum_cons, List.map_cons, List.sum_cons, List.length_cons]
      have : B29 f = 1 + (1 + ((f.f2.size + 1) + 1)) + 1 := rfl
      omega
  obtain ⟨q1, q2⟩ := q l
  have e : B26 l = (l.map B29).sum + 1 := rfl
  omega
theorem flat_wr_len (l : List S29) : (l.flatMap wr).length ≤ wt l := by
  induction l with
  | nil => exact Nat.le_refl _
  | cons f l ih =>
    have := wr_len f
    unfold wt at ih ⊢
    rw [List.flatMap_cons, List.length_append, List.map_cons, List.sum_cons]
    omega
theorem flat_key_len (l : List S29) : (l.flatMap keyB).length ≤ wk l := by
  induction l with
  | nil => exact Nat.le_refl _
  | cons f l ih =>
    have := keyB_len f
    unfold wk at ih ⊢
    rw [List.flatMap_cons, List.length_append, List.map_cons, List.sum_cons]
    omega
theorem fit_ev (l : List S29) (hl : l.length < 9223372036854775807) : ∀ (n i : Nat), i + n = l.length → Ev (fun k => reeflaw02_fit.l0 k l (i : Int)) ((l.drop i).all fitV) := by
  intro n
  induction n with
  | zero =>
    intro i hi
    rw [List.drop_of_length_le (by omega), List.all_nil]
    refine Ev.step (f := fun _ => some true) (fun k => ?_) (Ev.now _)
    simp only [reeflaw02_fit.l0]
    rw [if_neg (by omega)]
  | succ n ih =>
    intro i hi
    have hil : i < l.length := by omega
    have e := rd_at l i hil
    rw [List.drop_eq_getElem_cons hil, List.all_cons]
    refine Ev.step (f := fun k => if fitV l[i] = true then reeflaw02_fit.l0 k l ((i + 1 : Nat) : Int) else some false) (fun k => ?_) ?_
    · simp only [reeflaw02_fit.l0]
      rw [if_pos (by omega), if_pos (by omega), e, wrap_s i (by omega), rfit_eq, Option.bind_some]
    · cases hf : fitV l[i] with
      | false =>
        refine Ev.congr (f := fun _ => some false) (fun k => ?_) (Ev.now _)
        rw [if_neg (by decide)]
      | true =>
        rw [Bool.true_and]
        exact Ev.congr (fun k => by rw [if_pos rfl]) (ih (i + 1) (by omega))
theorem kinds_loop (l : List S29) (hl : l.length < 17592186044416) : ∀ (n i : Nat) (acc : List Int), i + n = l.length → acc.length = i → Ev (fun k => reeflaw02_kinds.l0 k l acc (i : Int)) (acc ++ (l.drop i).map S29.f0) := by
  intro n
  induction n with
  | zero =>
    intro i acc hi ha
    rw [List.drop_of_length_le (by omega), List.map_nil, List.append_nil]
    refine Ev.step (f := fun _ => some acc) (fun k => ?_) (Ev.now _)
    simp only [reeflaw02_kinds.l0]
    rw [if_neg (by omega)]
  | succ n ih =>
    intro i acc hi ha
    have hil : i < l.length := by omega
    have e := rd_at l i hil
    have h := ih (i + 1) (acc ++ [l[i].f0]) (by omega) (by rw [List.length_append, List.length_singleton]; omega)
    rw [List.append_assoc] at h
    rw [List.drop_eq_getElem_cons hil, List.map_cons]
    refine Ev.step (fun k => ?_) h
    simp only [reeflaw02_kinds.l0]
    rw [if_pos (by omega), if_pos (by omega), if_pos (by omega), e, wrap_s i (by omega)]
theorem kinds_ev (l : List S29) (hl : l.length < 17592186044416) : Ev (fun k => reeflaw02_kinds.f k l) (l.map S29.f0) := by
  have := kinds_loop l hl l.length 0 [] (by omega) rfl
  rw [List.drop_zero, List.nil_append] at this
  exact this
theorem same_loop (l : List S29) (hl : l.length < 9223372036854775807) : ∀ (n i : Nat), i + n = l.length → Ev (fun k => reefref02_Same.l0 k l l (i : Int)) true := by
  intro n
  induction n with
  | zero =>
    intro i hi
    refine Ev.step (f := fun _ => some true) (fun k => ?_) (Ev.now _)
    simp only [reefref02_Same.l0]
    rw [if_neg (by omega)]
  | succ n ih =>
    intro i hi
    have hil : i < l.length := by omega
    refine Ev.step (fun k => ?_) (ih (i + 1) (by omega))
    simp only [reefref02_Same.l0]
    rw [if_pos (by omega), if_pos (by omega), if_pos (by omega), wrap_s i (by omega)]
    simp only [beq_self_eq_true, Bool.not_true, Bool.or_false, Bool.false_eq_true, if_false]
theorem same_ev (l : List S29) (hl : l.length < 9223372036854775807) : Ev (fun k => reefref02_Same.f k l l) true := by
  refine Ev.congr (fun k => by unfold reefref02_Same.f; rw [if_pos rfl]) ?_
  exact same_loop l hl l.length 0 (by omega)
theorem whole_ev (b ks : List Int) (l : List S29) (h : Ev (fun k => code_Read.f k b ks) (l, (b.length : Int), 0)) : Ev (fun k => code_Whole.f k b ks) (l, 0) := by
  unfold code_Whole.f
  refine Ev.bind h ?_
  simp only [if_true]
  rw [bne_self_eq_false]
  refine Ev.step (f := fun _ => some (l, 0)) (fun k => ?_) (Ev.now _)
  simp only [code_Whole.j0]
  rw [if_neg Bool.false_ne_true, if_pos trivial]
theorem back_end (l : List S29) (h : l.all fitV = true) (g : ∀ f ∈ l, G29 f) (hl : l.length + wt l ≤ 11534336) (a1 : Int) : ∀ (n i : Nat), i + n = l.length →
    Ev (fun k => reeflaw02_CodeBack.l0 k l a1 (l.flatMap wr) ((((l.take i).flatMap wr).length : Nat) : Int) (i : Int)) true := by
  have hwl := flat_wr_len l
  intro n
  induction n with
  | zero =>
    intro i hi
    rw [List.take_of_length_le (by omega)]
    by_cases h0 : ((l.flatMap wr).length : Int) = 0
    · refine Ev.step (f := fun k => (reeflaw02_awake.f k).bind fun t => (some t)) (fun k => ?_) (Ev.bind awake_evr (Ev.now _))
      simp only [reeflaw02_CodeBack.l0]
      rw [if_neg (by omega), if_pos trivial, if_pos h0]
    · have hu : IntKind.u64.wrap ((l.flatMap wr).length : Int) = ((l.flatMap wr).length : Int) := u64_wrap _ (by omega) (by omega)
      have hx0 : 0 ≤ IntKind.u64.wrap a1 := by rw [IntKind.wrap_u64]; omega
      have hm : Int.tmod (IntKind.u64.wrap a1) ((l.flatMap wr).length : Int) = IntKind.u64.wrap a1 % ((l.flatMap wr).length : Int) := Int.tmod_eq_emod_of_nonneg hx0
      have m0 : 0 ≤ IntKind.u64.wrap a1 % ((l.flatMap wr).length : Int) := Int.emod_nonneg _ h0
      have m1 : IntKind.u64.wrap a1 % ((l.flatMap wr).length : Int) < ((l.flatMap wr).length : Int) := Int.emod_lt_of_pos _ (by omega)
      generalize hM : IntKind.u64.wrap a1 % ((l.flatMap wr).length : Int) = M at hm m0 m1
      have hw : wrap64 M = M := by unfold wrap64; omega
      have hB : IsB ((l.flatMap wr).take M.toNat) := (flat_isB wr wr_isB l h g).take _
      have hr := read_ev ((l.flatMap wr).take M.toNat) hB (by rw [List.length_take]; omega) (l.map S29.f0) (by rw [List.length_map]; omega)
      have hs := rd_short l M.toNat h g (by omega)
      refine Ev.step (f := fun k => (reeflaw02_kinds.f k l).bind fun t => ((code_Read.f k ((l.flatMap wr).take M.toNat) t).bind fun bt => (if bt.2.2 = 11 then ((reeflaw02_awake.f k).bind fun t => (some t)) else (none)))) (fun k => ?_) ?_
      · simp only [reeflaw02_CodeBack.l0]
        rw [if_neg (by omega), if_pos trivial, if_neg h0, hu, if_neg h0, hm, hw, if_pos m0, if_pos (by omega)]
      · refine Ev.bind (kinds_ev l (by omega)) (Ev.bind hr ?_)
        simp only [if_pos hs]
        exact Ev.bind awake_evr (Ev.now _)
  | succ n ih =>
    intro i hi
    have hil : i < l.length := by omega
    have e := rd_at l i hil
    have gi := g _ (List.getElem_mem hil)
    have hfi : fitV l[i] = true := List.all_eq_true.1 h _ (List.getElem_mem hil)
    have hb : 10 + l[i].f2.size ≤ wt l := by
      unfold wt
      exact le_sum (List.mem_map.2 ⟨_, List.getElem_mem hil, rfl⟩)
    have hlen : ((l.take (i + 1)).flatMap wr).length = ((l.take i).flatMap wr).length + (wr l[i]).length := by
      rw [← List.take_append_getElem hil, List.flatMap_append, List.length_append]
      simp
    have hle : ((l.take (i + 1)).flatMap wr).length ≤ (l.flatMap wr).length := by
      have : l.flatMap wr = (l.take (i + 1)).flatMap wr ++ (l.drop (i + 1)).flatMap wr := by rw [← List.flatMap_append, List.take_append_drop]
      rw [this, List.length_append]; omega
    have hwr : wrap64 ((((l.take i).flatMap wr).length : Nat) + ((wr l[i]).length : Int)) = ((((l.take (i + 1)).flatMap wr).length : Nat) : Int) := by
      rw [hlen]; unfold wrap64; omega
    refine Ev.step (f := fun k => (code_Size.f k l[i].f0 l[i].f1 l[i].f2 l[i].f3).bind fun t => reeflaw02_CodeBack.l0 k l a1 (l.flatMap wr) (wrap64 ((((l.take i).flatMap wr).length : Nat) + t)) ((i + 1 : Nat) : Int)) (fun k => ?_) ?_
    · simp only [reeflaw02_CodeBack.l0]
      rw [if_pos (by omega), if_pos (by omega), e, wrap_s i (by omega)]
    · refine Ev.bind (csize_ev _ gi (by omega)) ?_
      simp only [if_pos hfi]
      rw [hwr]
      exact ih (i + 1) (by omega)
theorem codeBack_ev (l : List S29) (a1 : Int) (g : G26 l) (b : B26 l ≤ 1048576) : Ev (fun k => reeflaw02_CodeBack.f k l a1) true := by
  obtain ⟨b1, b2⟩ := bulk_back l b
  have hg := g.2.2
  have hf := fit_ev l (by omega) l.length 0 (by omega)
  rw [List.drop_zero] at hf
  have hF := cfields_ev l (by omega) hg (by omega)
  have hK := key_ev l (by omega) hg (by omega)
  have hwl := flat_wr_len l
  have hkl := flat_key_len l
  unfold reeflaw02_CodeBack.f
  refine Ev.bind hf ?_
  unfold wrs at hF
  unfold keyV at hK
  by_cases h : l.all fitV = true
  · simp only [if_pos h] at hF hK ⊢
    have hks := kinds_ev l (by omega)
    have hBw := flat_isB wr wr_isB l h hg
    have hBk := flat_isB keyB keyB_isB l h hg
    have hrd := read_ev (l.flatMap wr) hBw (by omega) (l.map S29.f0) (by rw [List.length_map]; omega)
    rw [rd_wrote l h hg] at hrd
    have hrk := readKey_ev (strOfNums (l.flatMap keyB)) (by rw [strOf_size]; omega) (l.map S29.f0) (by rw [List.length_map]; omega)
    rw [rkR_wrote l h hg hBk] at hrk
    have hend := back_end l h hg b1 a1 l.length 0 (by omega)
    have hsm := same_ev l (by omega)
    refine Ev.bind hF (Ev.bind hks (Ev.bind (whole_ev _ _ l hrd) (Ev.bind hK (Ev.bind hks (Ev.bind hrk ?_)))))
    simp only [if_true]
    refine Ev.bind hsm ?_
    simp only [if_true]
    refine Ev.bind hsm ?_
    refine Ev.step (fun k => ?_) hend
    simp only [reeflaw02_CodeBack.j0, Bool.not_true]
    rw [if_neg Bool.false_ne_true]
    rfl
  · simp only [if_neg h] at hF hK ⊢
    refine Ev.bind hF ?_
    simp only [List.length_nil]
    refine Ev.congr (fun k => if_pos rfl) (Ev.bind hK ?_)
    exact Ev.congr (fun k => if_pos empty_toList) (Ev.bind awake_evr (Ev.now _))
end Go.Proofs.YtcheinjlgojepaaDoor.Pure
namespace Go.Proofs.YtcheinjlgojepaaDoor.P
open Go.RowKit Go.Proofs.YtcheinjlgojepaaDoorW.PrintWords Go.Proofs.YtcheinjlgojepaaDoorW.PrintLast Go.Proofs.YtcheinjlgojepaaDoorW.PrintMore
theorem reeflaw02_CodeBack.walkU (A0 : Option Addr) (c0 : Nat) (l0 : List (S29)) (a1 : Int) (w : World) (hr0 : Kd.C k29 w A0 l0.length l0) (hc0 : l0.length ≤ c0) (g0 : G26 l0) (w1 : (Lit.int .i64 a1).wf = true) (b0 : B26 l0 ≤ 1048576) :
    Calls Tryd.prog 7 #[.slice A0 l0.length c0, .int .i64 a1] w fun e w' => e = .returned (.bool true) ∧ Below w.heap.size w w' := by
  obtain ⟨k, hk⟩ := (Pure.codeBack_ev l0 a1 g0 b0).rounds
  exact reeflaw02_CodeBack.calls k A0 c0 l0 a1 true w hr0 hc0 hk
end Go.Proofs.YtcheinjlgojepaaDoor.P

/- Bytes are cut up, and put together, as the document says. -/
import Derived.Test.YteajaofcgcgodaaDoorPureCuts0
import Derived.Test.YteajaofcgcgodaaDoorP14
import Derived.Test.YteajaofcgcgodaaDoorP16
import Derived.Test.YteajaofcgcgodaaDoorP17
import Derived.Test.YteajaofcgcgodaaDoorP30
namespace Go.Proofs.YteajaofcgcgodaaDoor.Pure
open Go.RowKit Go.Proofs.YteajaofcgcgodaaDoor.P Go.Proofs.YteajaofcgcgodaaDoorW.PrintWords Go.Proofs.YteajaofcgcgodaaDoorW.PrintLast Go.Proofs.YteajaofcgcgodaaDoorW.PrintMore
set_option linter.unusedVariables false
theorem rscat_ev (s : ByteArray) (l : List S51) (hs : s.size ≤ 140737488351232) (hl : l.length * 32 ≤ 140737488351232) : Ev (fun k => reefref28_Scatter.f k s l) (scatU s l l.length) := by
  have key : ∀ d i, i + d = l.length → Ev (fun k => reefref28_Scatter.l0 k s l (scatU s l i) (i : Int)) (scatU s l l.length) := by
    intro d
    induction d with
    | zero =>
      intro i hi
      obtain rfl : i = l.length := by omega
      refine Ev.step (f := fun _ => some (scatU s l l.length)) (fun k => ?_) (Ev.now _)
      simp only [reefref28_Scatter.l0]
      rw [if_neg (by omega)]
    | succ d ih =>
      intro i hi
      have hlen := scatU_len s l i
      refine Ev.step (f := fun k => reefref28_Scatter.l0 k s l (scatU s l (i + 1)) ((i + 1 : Nat) : Int)) (fun k => ?_) (ih (i + 1) (by omega))
      have w1 : wrap64 ((i : Int) + 1) = ((i + 1 : Nat) : Int) := by rw [wrap_of (by omega) (by omega)]; omega
      obtain ⟨f, hf⟩ : ∃ f, rd_T51 l (i : Int) = f := ⟨_, rfl⟩
      simp only [reefref28_Scatter.l0, w1, hf, scatU]
      rw [if_pos (by omega), if_pos (by omega)]
      unfold cutS
      by_cases h1 : f.f3 < 0
      · rw [if_pos h1, if_pos (by omega), if_neg (fun q => by omega)]
      · by_cases h2 : f.f2 < 0
        · rw [if_neg h1, if_pos h2, if_pos (by omega), if_neg (fun q => by omega)]
        · by_cases h3 : f.f3 > (s.size : Int)
          · rw [if_neg h1, if_neg h2, if_pos h3, if_pos (by omega), if_neg (fun q => by omega)]
          · have w3 : wrap64 ((s.size : Int) - f.f3) = (s.size : Int) - f.f3 := wrap_of (by omega) (by omega)
            by_cases h4 : f.f2 > (s.size : Int) - f.f3
            · rw [if_neg h1, if_neg h2, if_neg h3, w3, if_pos h4, if_pos (by omega), if_neg (fun q => by omega)]
            · have w2 : wrap64 (f.f3 + f.f2) = f.f3 + f.f2 := wrap_of (by omega) (by omega)
              simp only [w2, w3]
              rw [if_neg h1, if_neg h2, if_neg h3, if_neg h4, if_pos (by omega), if_pos (by omega), if_pos (by omega), if_pos (by omega), if_pos ⟨by omega, by omega, by omega, by omega⟩]
  exact key l.length 0 (by omega)
theorem texts_ev (x : List ByteArray) (hx : x.length < 9223372036854775807) : Ev (fun k => reeflaw28_texts.f k x x) true := by
  have key : ∀ d i, i + d = x.length → Ev (fun k => reeflaw28_texts.l0 k x x (i : Int)) true := by
    intro d
    induction d with
    | zero =>
      intro i hi
      refine Ev.step (f := fun _ => some true) (fun k => ?_) (Ev.now _)
      simp only [reeflaw28_texts.l0]
      rw [if_neg (by omega)]
    | succ d ih =>
      intro i hi
      refine Ev.step (f := fun k => reeflaw28_texts.l0 k x x ((i + 1 : Nat) : Int)) (fun k => ?_) (ih (i + 1) (by omega))
      have w1 : wrap64 ((i : Int) + 1) = ((i + 1 : Nat) : Int) := by rw [wrap_of (by omega) (by omega)]; omega
      simp only [reeflaw28_texts.l0, w1, if_true]
      rw [if_pos (by omega), if_pos (by omega), if_pos (by omega)]
  refine Ev.congr (f := fun k => reeflaw28_texts.l0 k x x (0 : Nat)) (fun k => ?_) (key x.length 0 (by omega))
  simp only [reeflaw28_texts.f, if_true]
  rfl
/-- A row of bytes of which the first j of a text are laid at a place. -/
def laid (b : List Int) (at_ : Nat) (s : ByteArray) (j : Nat) : List Int := b.take at_ ++ ((bytesOf s).take j ++ b.drop (at_ + j))
theorem laid_len (b : List Int) (a : Nat) (s : ByteArray) (j : Nat) (h : a + j ≤ b.length) (hj : j ≤ s.size) : (laid b a s j).length = b.length := by
  unfold laid
  rw [List.length_append, List.length_append, List.length_take, List.length_take, List.length_drop, bytesOf_length]
  omega
theorem laid_zero (b : List Int) (a : Nat) (s : ByteArray) : laid b a s 0 = b := by
  unfold laid; simp
theorem laid_set (b : List Int) (a : Nat) (s : ByteArray) (j : Nat) (h : a + j < b.length) (hj : j < s.size) : (laid b a s j).set (a + j) (bt s (j : Int)) = laid b a s (j + 1) := by
  have h1 : (b.take a).length = a := by rw [List.length_take]; omega
  have h2 : ((bytesOf s).take j).length = j := by rw [List.length_take, bytesOf_length]; omega
  have h3 : bt s (j : Int) = (bytesOf s)[j]'(by rw [bytesOf_length]; exact hj) := by
    rw [← rd_bytesOf]; unfold rd; simp [List.getD_eq_getElem?_getD, bytesOf_length, hj]
  unfold laid
  rw [List.set_append_right _ _ (by omega), h1, Nat.add_sub_cancel_left, List.set_append_right _ _ (by omega), h2, Nat.sub_self]
  have h4 : b.drop (a + j) = b[a + j] :: b.drop (a + j + 1) := (List.drop_eq_getElem_cons h)
  rw [h4, List.set_cons_zero, List.take_succ_eq_append_getElem (by rw [bytesOf_length]; exact hj), List.append_assoc, ← h3]
  rfl
theorem gath_one (n : Nat) (l : List S51) (m : List ByteArray) (hn : n ≤ 4096) (hl : l.length < 4611686018427387904) (i : Nat) (b : List Int) (r : ByteArray) (h1 : i < l.length) (h2 : i < m.length) (hb : b.length = n) (h0 : 0 ≤ (rd_T51 l (i : Int)).f3)
    (hr : Ev (fun k => reefref28_Gather.l0 k (n : Int) l m (gStep n b (rd_T51 l (i : Int)) (rdOf ByteArray.empty m (i : Int))) ((i + 1 : Nat) : Int)) r) :
    Ev (fun k => reefref28_Gather.l1 k (n : Int) l m b (i : Int) 0) r := by
  obtain ⟨f, hf⟩ : ∃ f, rd_T51 l (i : Int) = f := ⟨_, rfl⟩
  obtain ⟨s, hs⟩ : ∃ s, rdOf ByteArray.empty m (i : Int) = s := ⟨_, rfl⟩
  rw [hf, hs] at hr
  rw [hf] at h0
  obtain ⟨a, ha⟩ := Int.eq_ofNat_of_zero_le h0
  have w1 : wrap64 ((i : Int) + 1) = ((i + 1 : Nat) : Int) := by rw [wrap_of (by omega) (by omega)]; omega
  obtain ⟨mm, hmm⟩ : ∃ mm, min (min f.f2.toNat s.size) (n - a) = mm := ⟨_, rfl⟩
  have m1 : mm ≤ f.f2.toNat := by omega
  have m2 : mm ≤ s.size := by omega
  have m3 : mm ≤ n - a := by omega
  have m4 : (mm : Int) < f.f2 → mm < s.size → ¬ (a : Int) < (n : Int) - (mm : Int) := fun x y => by omega
  have hend : gStep n b f s = laid b a s mm := by
    unfold gStep laid
    rw [ha, Int.toNat_natCast, hmm]
    split
    · have : mm = 0 := by omega
      subst this; simp
    · rfl
  rw [hend] at hr
  clear hend hmm h0
  have key : ∀ d j, j + d = mm → Ev (fun k => reefref28_Gather.l1 k (n : Int) l m (laid b a s j) (i : Int) (j : Int)) r := by
    intro d
    induction d with
    | zero =>
      intro j hj
      obtain rfl : j = mm := by omega
      refine Ev.step (f := fun k => reefref28_Gather.l0 k (n : Int) l m (laid b a s j) ((i + 1 : Nat) : Int)) (fun k => ?_) hr
      have w2 : wrap64 ((n : Int) - (j : Int)) = (n : Int) - (j : Int) := wrap_of (by omega) (by omega)
      clear hr
      simp only [reefref28_Gather.l1, hf, hs, w1, w2, ha]
      rw [if_pos (Int.natCast_nonneg _), if_pos (Int.ofNat_lt.2 h1)]
      by_cases q1 : (j : Int) < f.f2
      · rw [if_pos q1, if_pos (Int.ofNat_lt.2 h2)]
        by_cases q2 : (j : Int) < (s.size : Int)
        · rw [if_pos q2, if_neg (m4 q1 (Int.ofNat_lt.1 q2))]
        · rw [if_neg q2]
      · rw [if_neg q1]
    | succ d ih =>
      intro j hj
      refine Ev.step (f := fun k => reefref28_Gather.l1 k (n : Int) l m (laid b a s (j + 1)) (i : Int) ((j + 1 : Nat) : Int)) (fun k => ?_) (ih (j + 1) (by omega))
      clear hr ih m4
      have W1 := Aside0.mk w1
      clear w1
      have hll := laid_len b a s j (by omega) (by omega)
      have hset := laid_set b a s j (by omega) (by omega)
      have t1 : (j : Int) < f.f2 := by omega
      have t2 : (j : Int) < (s.size : Int) := by omega
      have t3 : (a : Int) < (n : Int) - (j : Int) := by omega
      have t4 : ((a + j : Nat) : Int) < ((laid b a s j).length : Int) := by rw [hll]; omega
      obtain ⟨w2, w3, w4⟩ : wrap64 ((n : Int) - (j : Int)) = (n : Int) - (j : Int) ∧ wrap64 ((a : Int) + (j : Int)) = ((a + j : Nat) : Int) ∧ wrap64 ((j : Int) + 1) = ((j + 1 : Nat) : Int) :=
        ⟨wrap_of (by omega) (by omega), by rw [wrap_of (by omega) (by omega)]; omega, by rw [wrap_of (by omega) (by omega)]; omega⟩
      have w1 := W1.out
      simp only [reefref28_Gather.l1, hf, hs, w1, w2, w3, w4, ha, Int.toNat_natCast, hset]
      rw [if_pos (Int.natCast_nonneg _), if_pos (Int.ofNat_lt.2 h1), if_pos t1, if_pos (Int.ofNat_lt.2 h2), if_pos t2, if_pos t3, if_pos (Int.natCast_nonneg _), if_pos (Int.natCast_nonneg _), if_pos t4]
  have := key mm 0 (by omega)
  rw [laid_zero] at this
  exact this
theorem rgath_ev (n : Nat) (l : List S51) (m : List ByteArray) (hn : n ≤ 4096) (hl : l.length < 4611686018427387904) : Ev (fun k => reefref28_Gather.l0 k (n : Int) l m (List.replicate n 0) 0) (strOfNums (gUpto n l m (min l.length m.length))) := by
  have key : ∀ d i, i + d = min l.length m.length → Ev (fun k => reefref28_Gather.l0 k (n : Int) l m (gUpto n l m i) (i : Int)) (strOfNums (gUpto n l m (min l.length m.length))) := by
    intro d
    induction d with
    | zero =>
      intro i hi
      rw [Nat.add_zero] at hi
      subst hi
      refine Ev.step (f := fun k => reefref28_Gather.j2 k (n : Int) l m (gUpto n l m (min l.length m.length)) ((min l.length m.length : Nat) : Int) false) (fun k => ?_) (Ev.step (f := fun _ => some (strOfNums (gUpto n l m (min l.length m.length)))) (fun k => ?_) (Ev.now _))
      · simp only [reefref28_Gather.l0]
        by_cases q : ((min l.length m.length : Nat) : Int) < (l.length : Int)
        · rw [if_pos q, show decide (((min l.length m.length : Nat) : Int) < (m.length : Int)) = false from decide_eq_false (by omega)]
        · rw [if_neg q]
      · simp only [reefref28_Gather.j2]
        rw [if_neg (by decide)]
    | succ d ih =>
      intro i hi
      have w1 : wrap64 ((i : Int) + 1) = ((i + 1 : Nat) : Int) := by rw [wrap_of (by omega) (by omega)]; omega
      have hr := ih (i + 1) (by omega)
      rw [gUpto] at hr
      refine Ev.step (f := fun k => reefref28_Gather.j2 k (n : Int) l m (gUpto n l m i) (i : Int) true) (fun k => ?_) ?_
      · simp only [reefref28_Gather.l0]
        rw [if_pos (by omega), show decide ((i : Int) < (m.length : Int)) = true from decide_eq_true (by omega)]
      · by_cases q : (rd_T51 l (i : Int)).f3 < 0
        · refine Ev.step (f := fun k => reefref28_Gather.l0 k (n : Int) l m (gUpto n l m i) ((i + 1 : Nat) : Int)) (fun k => ?_) ?_
          · simp only [reefref28_Gather.j2, w1, if_true]
            rw [if_pos (by omega), if_pos (by omega), if_pos q]
          · unfold gStep at hr
            rw [if_pos (.inl q)] at hr
            exact hr
        · refine Ev.step (f := fun k => reefref28_Gather.l1 k (n : Int) l m (gUpto n l m i) (i : Int) 0) (fun k => ?_) (gath_one n l m hn hl i _ _ (by omega) (by omega) (gUpto_len n l m i) (by omega) hr)
          simp only [reefref28_Gather.j2, w1, if_true]
          rw [if_pos (by omega), if_pos (by omega), if_neg q]
  exact key (min l.length m.length) 0 (by omega)
theorem gath_ev (a : Int) (l : List S51) (m : List ByteArray) (hl : l.length < 4611686018427387904) : ∃ r, stripe_Gather.f a l m = some r ∧ Ev (fun k => reefref28_Gather.f k a l m) r := by
  unfold stripe_Gather.f reefref28_Gather.f
  by_cases h : a < 0 ∨ 4096 < a
  · rw [if_pos h]
    refine ⟨_, rfl, ?_⟩
    have hj : Ev (fun k => reefref28_Gather.j0 k a l m true) (⟨#[]⟩ : ByteArray) := Ev.step (f := fun _ => some ⟨#[]⟩) (fun k => by simp only [reefref28_Gather.j0, if_true]) (Ev.now _)
    by_cases h0 : a < 0
    · exact Ev.congr (fun k => if_pos h0) hj
    · have hd : decide (a > 4096) = true := decide_eq_true (by omega)
      exact Ev.congr (fun k => by rw [if_neg h0, hd]) hj
  · rw [if_neg h]
    refine ⟨_, rfl, ?_⟩
    obtain ⟨n, rfl⟩ := Int.eq_ofNat_of_zero_le (show 0 ≤ a by omega)
    have hd : decide ((n : Int) > 4096) = false := decide_eq_false (by omega)
    refine Ev.congr (f := fun k => reefref28_Gather.j0 k (n : Int) l m false) (fun k => by rw [if_neg (by omega), hd]) ?_
    refine Ev.step (f := fun k => reefref28_Gather.l0 k (n : Int) l m (List.replicate n 0) 0) (fun k => ?_) (rgath_ev n l m (by omega) hl)
    simp only [reefref28_Gather.j0, Int.toNat_natCast]
    rw [if_neg (by decide), if_pos (by omega), if_pos (by omega)]
theorem cuts_ev (s : ByteArray) (l : List S51) (a : Int) (m : List ByteArray) (hs : s.size ≤ 140737488351232) (hl : l.length * 32 ≤ 140737488351232) : Ev (fun k => reeflaw28_StripeCuts.f k s l a m) true := by
  unfold reeflaw28_StripeCuts.f
  obtain ⟨r, h1, h2⟩ := gath_ev a l m (by omega)
  refine Ev.bind (scat_ev s l hs hl) (Ev.bind (rscat_ev s l hs hl) (Ev.bind (texts_ev _ (by rw [scatU_len]; omega)) ?_))
  simp only [if_true, h1, Option.bind_some]
  refine Ev.bind h2 ?_
  simp only [if_true]
  exact Ev.bind awake_ev (Ev.now _)
end Go.Proofs.YteajaofcgcgodaaDoor.Pure

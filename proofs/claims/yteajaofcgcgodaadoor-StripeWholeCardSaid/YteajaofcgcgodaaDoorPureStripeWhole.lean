/- The pieces of a range hold each byte of it once, where it lies, and give the bytes back. -/
import Derived.Test.YteajaofcgcgodaaDoorPureCuts0
import Derived.Test.YteajaofcgcgodaaDoorFrags
import Derived.Test.YteajaofcgcgodaaDoorP31
namespace Go.Proofs.YteajaofcgcgodaaDoor.Pure
open Go.RowKit Go.Proofs.YteajaofcgcgodaaDoor.P Go.Proofs.YteajaofcgcgodaaDoorW.PrintWords Go.Proofs.YteajaofcgcgodaaDoorW.PrintLast Go.Proofs.YteajaofcgcgodaaDoorW.PrintMore
set_option linter.unusedVariables false
theorem Lay.okL' {u c o : Nat} (h : Lay u c o) : okL u c o := by
  have hK := h.K
  have h3 : o / u ≤ o := Nat.div_le_self _ _
  refine ⟨by have := h.u1; omega, by have := h.c1; omega, ?_⟩
  rw [tdiv_nat, wrap_nat (by have := h.o64; omega)]
  omega
theorem fd_nat' {u c o : Nat} (h : Lay u c o) (off i : Nat) (hx : off + i < 4096) : fdOf u c o off i = (((pI u c (o / u) (off + i) : Nat) : Int), ((pO u c (o / u) (off + i) : Nat) : Int)) := by
  unfold fdOf
  rw [← Int.natCast_add, wrap_nat (by omega), find_nat h (off + i) (by omega)]
  rfl
/-- The pieces cover what lies from a to n. -/
def Cov (fd : Nat → Int × Int) (n : Nat) : Nat → List S51 → Prop
  | a, [] => a = n
  | a, f :: l => f.f3 = (a : Int) ∧ ∃ m : Nat, 1 ≤ m ∧ f.f2 = (m : Int) ∧ a + m ≤ n ∧ (∀ j, j < m → fd (a + j) = (f.f0, f.f1 + (j : Int))) ∧ 0 ≤ f.f1 ∧ f.f1 + (m : Int) ≤ 64 ∧ Cov fd n (a + m) l
theorem pcs_cov (fd : Nat → Int × Int) (n : Nat) (hn : n ≤ 4096) (hb : ∀ i, i < n → 0 ≤ (fd i).2 ∧ (fd i).2 < 64) : ∀ (d i : Nat) (f : S51) (a : Nat), i + d = n →
    (0 < f.f2 → ∃ m : Nat, 1 ≤ m ∧ f.f2 = (m : Int) ∧ f.f3 = (a : Int) ∧ a + m = i ∧ (∀ j, j < m → fd (a + j) = (f.f0, f.f1 + (j : Int))) ∧ 0 ≤ f.f1 ∧ f.f1 + (m : Int) ≤ 64) → (¬ 0 < f.f2 → a = i) → Cov fd n a (pcs fd d i f) := by
  intro d
  induction d with
  | zero =>
    intro i f a hi h1 h2
    rw [pcs]
    by_cases q : 0 < f.f2
    · obtain ⟨m, hm, e2, e3, e4, e5, e6, e7⟩ := h1 q
      rw [if_pos q]
      exact ⟨e3, m, hm, e2, by omega, e5, e6, e7, by show a + m = n; omega⟩
    · rw [if_neg q]
      have := h2 q
      show a = n
      omega
  | succ d ih =>
    intro i f a hi h1 h2
    have hbi := hb i (by omega)
    rw [pcs]
    by_cases q : 0 < f.f2 ∧ (fd i).1 = f.f0 ∧ (fd i).2 = wrap64 (f.f1 + f.f2)
    · obtain ⟨q0, q1, q2⟩ := q
      obtain ⟨m, hm, e2, e3, e4, e5, e6, e7⟩ := h1 q0
      obtain ⟨w1, w2⟩ : wrap64 (f.f1 + f.f2) = f.f1 + f.f2 ∧ wrap64 (f.f2 + 1) = ((m + 1 : Nat) : Int) := ⟨wrap_of (by omega) (by omega), by rw [wrap_of (by omega) (by omega)]; omega⟩
      rw [w1] at q2
      have e8 : ∀ j, j < m + 1 → fd (a + j) = (f.f0, f.f1 + (j : Int)) := fun j hj => by
        by_cases e : j < m
        · exact e5 j e
        · obtain rfl : j = m := by clear w1 w2; omega
          rw [e4, ← q1, ← e2, ← q2]
      rw [if_pos ⟨q0, q1, by rw [w1]; exact q2⟩, w2]
      clear w1 w2
      exact ih (i + 1) _ a (by omega) (fun _ => ⟨m + 1, by omega, rfl, e3, by omega, e8, e6, by show f.f1 + ((m + 1 : Nat) : Int) ≤ 64; omega⟩) (fun hq => absurd (show (0 : Int) < ((m + 1 : Nat) : Int) by omega) hq)
    · rw [if_neg q]
      clear q
      have hone : ∀ j, j < 1 → fd (i + j) = ((fd i).1, (fd i).2 + (j : Int)) := fun j hj => by
        obtain rfl : j = 0 := by omega
        simp
      have hnew : Cov fd n i (pcs fd d (i + 1) ⟨(fd i).1, (fd i).2, 1, (i : Int)⟩) :=
        ih (i + 1) _ i (by omega) (fun _ => ⟨1, by omega, rfl, rfl, rfl, hone, hbi.1, by show (fd i).2 + ((1 : Nat) : Int) ≤ 64; omega⟩) (fun hq => absurd (show (0 : Int) < 1 by omega) hq)
      by_cases q : 0 < f.f2
      · obtain ⟨m, hm, e2, e3, e4, e5, e6, e7⟩ := h1 q
        rw [if_pos q]
        refine ⟨e3, m, hm, e2, by omega, e5, e6, e7, ?_⟩
        rw [e4]
        exact hnew
      · rw [if_neg q]
        have := h2 q
        subst this
        exact hnew
theorem rd_mid (pre rest : List S51) (f : S51) : rd_T51 (pre ++ f :: rest) (pre.length : Int) = f := by
  unfold rd_T51; simp
theorem rdS_mid (pre rest : List ByteArray) (s : ByteArray) : rdOf ByteArray.empty (pre ++ s :: rest) (pre.length : Int) = s := by
  unfold rdOf; simp
theorem scatU_get (s : ByteArray) (l : List S51) (k : Nat) : ∀ n, k < n → rdOf ByteArray.empty (scatU s l n) (k : Int) = cutS s (rd_T51 l (k : Int))
  | 0, h => by omega
  | n + 1, h => by
    have hl := scatU_len s l n
    by_cases e : k = n
    · subst e
      have := rdS_mid (scatU s l k) [] (cutS s (rd_T51 l (k : Int)))
      rw [hl] at this
      exact this
    · have ih := scatU_get s l k n (by omega)
      rw [← ih, scatU]
      unfold rdOf
      simp only [Int.toNat_natCast, List.getD_eq_getElem?_getD]
      rw [List.getElem?_append_left (by omega)]
theorem bytesOf_ext (s : ByteArray) (a b : Nat) : bytesOf (s.extract a b) = ((bytesOf s).drop a).take (b - a) := by
  unfold bytesOf
  rw [ByteArray.data_extract, Array.toList_extract]
  simp [List.extract_eq_take_drop, List.map_take, List.map_drop]
theorem gStep_mid (s : ByteArray) (a m : Nat) (f : S51) (h2 : f.f2 = (m : Int)) (h3 : f.f3 = (a : Int)) (hm : 1 ≤ m) (h : a + m ≤ s.size) :
    gStep s.size ((bytesOf s).take a ++ List.replicate (s.size - a) 0) f (cutS s f) = (bytesOf s).take (a + m) ++ List.replicate (s.size - (a + m)) 0 := by
  have hc : cutS s f = s.extract a (a + m) := by
    unfold cutS
    rw [if_pos ⟨by omega, by omega, by omega, by omega⟩, h3, h2, Int.toNat_natCast]
    congr 1
  have hsz : (s.extract a (a + m)).size = m := by rw [ByteArray.size_extract]; omega
  have hl : ((bytesOf s).take a).length = a := by rw [List.length_take, bytesOf_length]; omega
  unfold gStep
  rw [if_neg (by omega), hc, hsz, h2, h3, Int.toNat_natCast, Int.toNat_natCast, Nat.min_self, Nat.min_eq_left (by omega : m ≤ s.size - a), bytesOf_ext, Nat.add_sub_cancel_left, List.take_take, Nat.min_self]
  have d1 : ((bytesOf s).take a ++ List.replicate (s.size - a) 0).take a = (bytesOf s).take a := by
    rw [List.take_append_of_le_length (by omega), List.take_take, Nat.min_self]
  have d2 : ((bytesOf s).take a ++ List.replicate (s.size - a) (0 : Int)).drop (a + m) = List.replicate (s.size - (a + m)) 0 := by
    rw [List.drop_append, hl, List.drop_eq_nil_of_le (by omega), List.nil_append, List.drop_replicate]
    congr 1
    omega
  rw [d1, d2, List.take_add, List.append_assoc]
theorem gath_all (fd : Nat → Int × Int) (s : ByteArray) (l : List S51) : ∀ (rest pre : List S51) (a : Nat), l = pre ++ rest → Cov fd s.size a rest →
    gUpto s.size l (scatU s l l.length) pre.length = (bytesOf s).take a ++ List.replicate (s.size - a) 0 → gUpto s.size l (scatU s l l.length) l.length = bytesOf s := by
  intro rest
  induction rest with
  | nil =>
    intro pre a hl hc hg
    rw [List.append_nil] at hl
    have ha : a = s.size := hc
    subst hl; subst ha
    rw [hg, Nat.sub_self, List.replicate_zero, List.append_nil, List.take_of_length_le (by rw [bytesOf_length]; omega)]
  | cons f rest ih =>
    intro pre a hl hc hg
    obtain ⟨h3, m, hm, h2, ham, _, _, _, hrest⟩ := hc
    refine ih (pre ++ [f]) (a + m) (by rw [hl, List.append_assoc]; rfl) hrest ?_
    rw [List.length_append, List.length_singleton, gUpto, hg, scatU_get _ _ _ _ (by rw [hl]; simp)]
    have : rd_T51 l (pre.length : Int) = f := by rw [hl]; exact rd_mid pre rest f
    rw [this]
    exact gStep_mid s a m f h2 h3 hm ham
theorem strOf_bytes (s : ByteArray) : strOfNums (bytesOf s) = s := by
  obtain ⟨⟨l⟩⟩ := s
  unfold strOfNums bytesOf
  simp only [List.map_map]
  have : ((fun n => UInt8.ofNat n.toNat) ∘ fun b : UInt8 => (b.toNat : Int)) = id := by funext b; simp
  rw [this, List.map_id]
theorem whole_l1 {u c o : Nat} (h : Lay u c o) (off : Nat) (s : ByteArray) (hn : off + s.size ≤ 4096) (l : List S51) (hl : l.length ≤ 4097) (p a m : Nat) (f : S51) (hp : p < l.length) (hf : rd_T51 l (p : Int) = f)
    (h3 : f.f3 = (a : Int)) (h2 : f.f2 = (m : Int)) (ham : a + m ≤ s.size) (hfd : ∀ j, j < m → fdOf u c o off (a + j) = (f.f0, f.f1 + (j : Int))) (h10 : 0 ≤ f.f1) (h11 : f.f1 + (m : Int) ≤ 64)
    (hr : Ev (fun k => reeflaw28_StripeWhole.l0 k off s l ((a + m : Nat) : Int) ((p + 1 : Nat) : Int) u c o) true) :
    ∀ d j, j + d = m → Ev (fun k => reeflaw28_StripeWhole.l1 k off s l (a : Int) (p : Int) (j : Int) u c o) true := by
  intro d
  induction d with
  | zero =>
    intro j hj
    refine Ev.step (f := fun k => reeflaw28_StripeWhole.l0 k off s l ((a + m : Nat) : Int) ((p + 1 : Nat) : Int) u c o) (fun k => ?_) hr
    clear hr
    have q1 : ¬ (j : Int) < f.f2 := by omega
    have q2 : (p : Int) < (l.length : Int) := by omega
    obtain ⟨w1, w2⟩ : wrap64 ((a : Int) + f.f2) = ((a + m : Nat) : Int) ∧ wrap64 ((p : Int) + 1) = ((p + 1 : Nat) : Int) := ⟨by rw [wrap_of (by omega) (by omega)]; omega, by rw [wrap_of (by omega) (by omega)]; omega⟩
    simp only [reeflaw28_StripeWhole.l1, hf, w1, w2]
    rw [if_pos (Int.natCast_nonneg _), if_pos q2, if_neg q1]
  | succ d ih =>
    intro j hj
    refine Ev.step (f := fun k => reeflaw28_StripeWhole.l1 k off s l (a : Int) (p : Int) ((j + 1 : Nat) : Int) u c o) (fun k => ?_) (ih (j + 1) (by omega))
    clear hr ih
    have hx := hfd j (by omega)
    rw [fd_nat' h off (a + j) (by omega)] at hx
    have hx1 := congrArg Prod.fst hx
    have hx2 := congrArg Prod.snd hx
    simp only at hx1 hx2
    have hp1 := place_nat h (off + (a + j)) (by omega)
    have q1 : (j : Int) < f.f2 := by omega
    have q2 : (p : Int) < (l.length : Int) := by omega
    obtain ⟨w1, w2, w3⟩ : wrap64 (wrap64 ((off : Int) + f.f3) + (j : Int)) = ((off + (a + j) : Nat) : Int) ∧ wrap64 (f.f1 + (j : Int)) = f.f1 + (j : Int) ∧ wrap64 ((j : Int) + 1) = ((j + 1 : Nat) : Int) :=
      ⟨by rw [wrap_of (x := (off : Int) + f.f3) (by omega) (by omega), wrap_of (by omega) (by omega)]; omega, wrap_of (by omega) (by omega), by rw [wrap_of (by omega) (by omega)]; omega⟩
    simp only [reeflaw28_StripeWhole.l1, hf, w1, w2, w3, hp1, Option.bind_some]
    rw [if_pos (Int.natCast_nonneg _), if_pos q2, if_pos q1, if_pos hx1, if_pos hx2]
theorem whole_l0 {u c o : Nat} (h : Lay u c o) (off : Nat) (s : ByteArray) (hn : off + s.size ≤ 4096) (l : List S51) (hl : l.length ≤ 4097) (hcov : Cov (fdOf u c o off) s.size 0 l) : ∀ (rest pre : List S51) (a : Nat), l = pre ++ rest → Cov (fdOf u c o off) s.size a rest →
    Ev (fun k => reeflaw28_StripeWhole.l0 k off s l (a : Int) (pre.length : Int) u c o) true := by
  intro rest
  induction rest with
  | nil =>
    intro pre a hpre hc
    rw [List.append_nil] at hpre
    have ha : a = s.size := hc
    subst hpre; subst ha
    have hg := gath_all (fdOf u c o off) s l l [] 0 rfl hcov (by simp [gUpto])
    have he : stripe_Gather.f (s.size : Int) l (scatU s l l.length) = some s := by
      unfold stripe_Gather.f
      rw [if_neg (by omega), Int.toNat_natCast, scatU_len, Nat.min_self, hg, strOf_bytes]
    refine Ev.step (f := fun k => (stripe_Scatter.f k s l).bind fun t293 => (stripe_Gather.f (s.size : Int) l t293).bind fun t296 => if t296.toList = s.toList then (reeflaw28_awake.f k).bind fun t297 => some t297 else none) (fun k => ?_) ?_
    · simp only [reeflaw28_StripeWhole.l0]
      rw [if_neg (by omega), if_pos trivial]
    · refine Ev.bind (scat_ev s l (by omega) (by omega)) ?_
      simp only [he, Option.bind_some, if_true]
      exact Ev.bind awake_ev (Ev.now _)
  | cons f rest ih =>
    intro pre a hpre hc
    obtain ⟨h3, m, hm, h2, ham, hfd, h10, h11, hrest⟩ := hc
    have hf : rd_T51 l (pre.length : Int) = f := by rw [hpre]; exact rd_mid pre rest f
    have hp : pre.length < l.length := by rw [hpre]; simp
    have hr := ih (pre ++ [f]) (a + m) (by rw [hpre, List.append_assoc]; rfl) hrest
    rw [List.length_append, List.length_singleton] at hr
    have hl1 := whole_l1 h off s hn l hl pre.length a m f hp hf h3 h2 ham hfd h10 h11 hr m 0 (by omega)
    have q2 : (pre.length : Int) < (l.length : Int) := by omega
    have hd : decide (f.f2 < 1) = false := decide_eq_false (by omega)
    refine Ev.step (f := fun k => reeflaw28_StripeWhole.j1 k off s l (a : Int) (pre.length : Int) false u c o) (fun k => ?_) (Ev.step (f := fun k => reeflaw28_StripeWhole.l1 k off s l (a : Int) (pre.length : Int) 0 u c o) (fun k => ?_) hl1)
    · simp only [reeflaw28_StripeWhole.l0, hf, hd]
      rw [if_pos q2, if_pos (Int.natCast_nonneg _), if_pos h3]
    · simp only [reeflaw28_StripeWhole.j1]
      rw [if_neg (by decide)]
theorem whole_ev (u c o off : Int) (s : ByteArray) (hs : s.size ≤ 140737488351232) : Ev (fun k => reeflaw28_StripeWhole.f k u c o off s) true := by
  unfold reeflaw28_StripeWhole.f
  obtain ⟨t, ht, _, hfit⟩ := fit_cases u c o
  rw [ht]
  simp only [Option.bind_some]
  cases t with
  | false =>
    simp only [Bool.false_eq_true, if_false]
    exact Ev.bind awake_ev (Ev.now _)
  | true =>
    obtain ⟨u, c, o, rfl, rfl, rfl, h⟩ := hfit rfl
    simp only [if_true]
    by_cases hb : off < 0 ∨ (s.size : Int) < 0 ∨ 4096 < (s.size : Int) ∨ 4096 - (s.size : Int) < off
    · have e : stripe_Frags.f u c o off (s.size : Int) = some ([], 28) := by unfold stripe_Frags.f; rw [if_pos hb]
      simp only [e, Option.bind_some]
      refine Ev.congr (f := fun k => (reeflaw28_awake.f k).bind fun t292 => some t292) (fun k => ?_) (Ev.bind awake_ev (Ev.now _))
      simp
    · obtain ⟨off, rfl⟩ := Int.eq_ofNat_of_zero_le (show 0 ≤ off by omega)
      have e : stripe_Frags.f u c o off (s.size : Int) = some (pcs (fdOf u c o off) s.size 0 z51, 0) := by unfold stripe_Frags.f; rw [if_neg hb, if_pos h.okL', Int.toNat_natCast]
      have hcov : Cov (fdOf u c o off) s.size 0 (pcs (fdOf u c o off) s.size 0 z51) := by
        refine pcs_cov _ s.size (by omega) (fun i hi => ?_) s.size 0 z51 0 (by omega) (fun q => by simp [z51] at q) (fun _ => rfl)
        rw [fd_nat' h off i (by omega)]
        have h1 := pO_lt u c (o / u) (off + i) h.u1 h.K
        rw [h.Ku] at h1
        have := h.o64
        simp only
        omega
      have hl := pcs_len (fdOf u c o off) s.size 0 z51
      simp only [e, Option.bind_some, if_true]
      exact whole_l0 h off s (by omega) _ (by omega) hcov _ [] 0 rfl hcov
end Go.Proofs.YteajaofcgcgodaaDoor.Pure

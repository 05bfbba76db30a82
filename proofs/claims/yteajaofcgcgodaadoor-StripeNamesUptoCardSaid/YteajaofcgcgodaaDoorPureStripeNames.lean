/- Names of objects are written and read as the document says. -/
import Derived.Test.YteajaofcgcgodaaDoorLawNames
namespace Go.Proofs.YteajaofcgcgodaaDoor.Pure
open Go.RowKit Go.Proofs.YteajaofcgcgodaaDoor.P Go.Proofs.YteajaofcgcgodaaDoorW.PrintWords Go.Proofs.YteajaofcgcgodaaDoorW.PrintLast Go.Proofs.YteajaofcgcgodaaDoorW.PrintMore
set_option linter.unusedVariables false
set_option linter.unusedSimpArgs false
theorem awake_evn : Ev (fun k => reeflaw28_awake.f k) true := Ev.of (k := 30) (fun k => reeflaw28_awake.mono k) (by decide +kernel)
theorem byte_ext {a b : ByteArray} (h : a.data.toList = b.data.toList) : a = b := by
  obtain ⟨⟨x⟩⟩ := a; obtain ⟨⟨y⟩⟩ := b
  simp only at h
  rw [h]
theorem data_append (a b : ByteArray) : (a ++ b).data.toList = a.data.toList ++ b.data.toList := by rw [ByteArray.data_append, Array.toList_append]
theorem ext_eq (s : ByteArray) (n : Nat) : s.extract 0 n = ⟨(s.data.toList.take n).toArray⟩ := by
  apply byte_ext
  simp [ByteArray.data_extract]
/-- What the document's Parse answers. -/
def refPV (s : ByteArray) : ByteArray × Int × Bool :=
  match refv 5 0 (s.data.toList.drop (dotAt s.data.toList + 1)) with
  | none => (⟨#[]⟩, 0, false)
  | some n => if s.toList = ([] : List UInt8) then (⟨#[]⟩, 0, false) else if (nameV (s.extract 0 (dotAt s.data.toList)) (n : Int)).toList = s.toList then (s.extract 0 (dotAt s.data.toList), (n : Int), true) else (⟨#[]⟩, 0, false)
/-- The end of the document's Parse. -/
theorem rp_end (s : ByteArray) (hs : s.size ≤ 1048576) (kk n i : Nat) (hk : kk ≤ s.size) : Ev (fun k => reefref28_ParseL.j3 k s (kk : Int) (n : Int) (i : Int) false) (if s.toList = ([] : List UInt8) then (⟨#[]⟩, 0, false) else if (nameV (s.extract 0 kk) (n : Int)).toList = s.toList then (s.extract 0 kk, (n : Int), true) else (⟨#[]⟩, 0, false)) := by
  have hsz : (s.extract 0 kk).size ≤ 1048576 := by rw [ByteArray.size_extract]; omega
  have hn : reefref28_NameL.f (s.extract 0 kk) (n : Int) = some (nameV (s.extract 0 kk) (n : Int)) := by unfold reefref28_NameL.f; rw [if_pos hsz]
  refine Ev.step (f := fun _ => some (if s.toList = ([] : List UInt8) then (⟨#[]⟩, 0, false) else if (nameV (s.extract 0 kk) (n : Int)).toList = s.toList then (s.extract 0 kk, (n : Int), true) else (⟨#[]⟩, 0, false))) (fun k => ?_) (Ev.now _)
  simp only [reefref28_ParseL.j3]
  rw [if_neg Bool.false_ne_true, show ((kk : Int)).toNat = kk by omega, hn, Option.bind_some, if_pos (show 0 ≤ (kk : Int) by omega), if_pos (show (kk : Int) ≤ (s.size : Int) by omega)]
  split
  · rfl
  · split <;> rfl
/-- The digits. -/
theorem rp_digits (s : ByteArray) (hs : s.size ≤ 1048576) (kk : Nat) (hk : kk ≤ s.size) : ∀ (m i acc : Nat), i + m = kk + 6 → acc < 10 ^ (5 - m) → m ≤ 5 →
    Ev (fun k => reefref28_ParseL.l1 k s (kk : Int) (acc : Int) (i : Int)) (match refv m acc (s.data.toList.drop i) with
      | none => (⟨#[]⟩, 0, false)
      | some n => if s.toList = ([] : List UInt8) then (⟨#[]⟩, 0, false) else if (nameV (s.extract 0 kk) (n : Int)).toList = s.toList then (s.extract 0 kk, (n : Int), true) else (⟨#[]⟩, 0, false)) := by
  have hl : s.data.toList.length = s.size := data_length s
  have hw6 : wrap64 ((kk : Int) + 6) = ((kk + 6 : Nat) : Int) := by unfold wrap64; omega
  intro m
  induction m with
  | zero =>
    intro i acc hi ha _
    rw [refv]
    refine Ev.step (fun k => ?_) (rp_end s hs kk acc i hk)
    simp only [reefref28_ParseL.l1]
    by_cases h : (i : Int) < (s.size : Int)
    · rw [if_pos h, hw6, decide_eq_false (by omega)]
    · rw [if_neg h]
  | succ m ih =>
    intro i acc hi ha hm
    by_cases he : i < s.size
    · have hil : i < s.data.toList.length := by omega
      have hbt := bt_at s i hil
      rw [List.drop_eq_getElem_cons hil, refv]
      generalize s.data.toList[i] = b at hbt
      have hb := b.toNat_lt
      refine Ev.step (f := fun k => reefref28_ParseL.j3 k s (kk : Int) (acc : Int) (i : Int) true) (fun k => ?_) ?_
      · simp only [reefref28_ParseL.l1]
        rw [if_pos (show (i : Int) < (s.size : Int) by omega), hw6, decide_eq_true (by omega)]
      · by_cases hd : b.toNat < 48 ∨ 57 < b.toNat
        · rw [if_pos hd]
          refine Ev.step (f := fun _ => some (⟨#[]⟩, 0, false)) (fun k => ?_) (Ev.now _)
          simp only [reefref28_ParseL.j3]
          rw [if_pos trivial, if_pos (by omega), if_pos (by omega), hbt]
          by_cases h1 : (b.toNat : Int) < 48
          · rw [if_pos h1]
          · rw [if_neg h1, if_pos (show (b.toNat : Int) > 57 by omega)]
        · rw [if_neg hd]
          have hpw : 10 ^ (5 - m) = 10 * 10 ^ (5 - (m + 1)) := by
            rw [show 5 - m = (5 - (m + 1)) + 1 by omega, Nat.pow_succ, Nat.mul_comm]
          have hacc : 10 * acc + (b.toNat - 48) < 10 ^ (5 - m) := by rw [hpw]; omega
          have hp5 : 10 ^ (5 - m) ≤ 100000 := by
            have : m = 0 ∨ m = 1 ∨ m = 2 ∨ m = 3 ∨ m = 4 := by omega
            rcases this with rfl | rfl | rfl | rfl | rfl <;> decide
          have hval : wrap64 ((wrap64 (10 * (acc : Int))) + (((b.toNat : Int) - 48) % 256)) = ((10 * acc + (b.toNat - 48) : Nat) : Int) := by
            have e1 : wrap64 (10 * (acc : Int)) = 10 * (acc : Int) := by unfold wrap64; omega
            rw [e1]; unfold wrap64; omega
          refine Ev.step (fun k => ?_) (ih (i + 1) (10 * acc + (b.toNat - 48)) (by omega) hacc (by omega))
          simp only [reefref28_ParseL.j3]
          rw [if_pos trivial, if_pos (by omega), if_pos (by omega), hbt, if_neg (show ¬ (b.toNat : Int) < 48 by omega), if_neg (show ¬ (b.toNat : Int) > 57 by omega), hval, wrap_s i (by omega)]
    · rw [List.drop_of_length_le (by omega), refv]
      · refine Ev.step (fun k => ?_) (rp_end s hs kk acc i hk)
        simp only [reefref28_ParseL.l1]
        rw [if_neg (by omega)]
      · intro q; cases q
theorem dot_drop (l : List UInt8) (i : Nat) (h : i ≤ dotAt l) : dotAt l = i + dotAt (l.drop i) := by
  induction l generalizing i with
  | nil => simp [dotAt] at h ⊢; omega
  | cons b l ih =>
    cases i with
    | zero => simp
    | succ i =>
      rw [dotAt] at h ⊢
      by_cases hb : b = 46
      · rw [if_pos hb] at h; omega
      · rw [if_neg hb] at h ⊢
        rw [List.drop_succ_cons, ih i (by omega)]; omega
theorem rp_dot (s : ByteArray) (hs : s.size ≤ 1048576) : ∀ (m i : Nat), i + m = s.size → i ≤ dotAt s.data.toList → Ev (fun k => reefref28_ParseL.l0 k s (i : Int)) (refPV s) := by
  have hl : s.data.toList.length = s.size := data_length s
  have hd := dot_le s.data.toList
  have fin : ∀ i : Nat, i = dotAt s.data.toList → Ev (fun k => reefref28_ParseL.j1 k s (i : Int)) (refPV s) := by
    intro i hi
    subst hi
    refine Ev.step (fun k => ?_) (rp_digits s hs (dotAt s.data.toList) (by omega) 5 (dotAt s.data.toList + 1) 0 (by omega) (by decide) (by decide))
    simp only [reefref28_ParseL.j1]
    rw [wrap_s _ (by omega)]
    rfl
  intro m
  induction m with
  | zero =>
    intro i hi hle
    refine Ev.step (fun k => ?_) (fin i (by omega))
    simp only [reefref28_ParseL.l0]
    rw [if_neg (by omega)]
  | succ m ih =>
    intro i hi hle
    have hil : i < s.data.toList.length := by omega
    have hbt := bt_at s i hil
    have hdd := dot_drop s.data.toList i hle
    rw [List.drop_eq_getElem_cons hil, dotAt] at hdd
    by_cases hb : s.data.toList[i] = 46
    · rw [if_pos hb] at hdd
      refine Ev.step (fun k => ?_) (fin i (by omega))
      simp only [reefref28_ParseL.l0]
      rw [if_pos (by omega), if_pos (by omega), hbt, if_pos (by rw [hb]; rfl)]
    · rw [if_neg hb] at hdd
      have hn : ¬ (s.data.toList[i].toNat : Int) = 46 := by
        intro q
        apply hb
        apply UInt8.toNat_inj.1
        have : s.data.toList[i].toNat = 46 := by omega
        rw [this]; rfl
      refine Ev.step (fun k => ?_) (ih (i + 1) (by omega) (by omega))
      simp only [reefref28_ParseL.l0]
      rw [if_pos (by omega), if_pos (by omega), hbt, if_neg hn, wrap_s i (by omega)]
theorem rparse_ev (s : ByteArray) (hs : s.size ≤ 1048576) : Ev (fun k => reefref28_ParseL.f k s) (refPV s) := rp_dot s hs s.size 0 (by omega) (Nat.zero_le _)
/-! ## both are one -/
theorem name_list (s : ByteArray) (v : Nat) (hi : imgV s = true) (h : v < 4096) : (nameV s (v : Int)).data.toList = s.data.toList ++ 46 :: dig v := by
  unfold nameV
  rw [if_pos ⟨hi, by omega, by omega⟩, data_append, data_append]
  unfold itoaS
  rw [itoa_dig v h, List.append_assoc]
  rfl
theorem name_some (A s : ByteArray) (v : Int) (hs : s ≠ ⟨#[]⟩) (h : nameV A v = s) : imgV A = true ∧ ∃ n : Nat, v = (n : Int) ∧ n < 4096 ∧ s.data.toList = A.data.toList ++ 46 :: dig n := by
  by_cases q : imgV A = true ∧ 0 ≤ v ∧ v < 4096
  · obtain ⟨q1, q2, q3⟩ := q
    obtain ⟨n, rfl⟩ := Int.eq_ofNat_of_zero_le q2
    refine ⟨q1, n, rfl, by omega, ?_⟩
    rw [← h, name_list A n q1 (by omega)]
  · unfold nameV at h
    rw [if_neg q] at h
    exact absurd h.symm hs
theorem toList_iff (a b : ByteArray) : a.toList = b.toList ↔ a = b := by
  rw [ByteArray.toList_eq, ByteArray.toList_eq]
  exact ⟨byte_ext, fun h => by rw [h]⟩
theorem toList_nil (s : ByteArray) : s.toList = ([] : List UInt8) ↔ s = ⟨#[]⟩ := by
  rw [ByteArray.toList_eq]
  constructor
  · intro h; exact byte_ext h
  · rintro rfl; rfl
theorem parse_eq (s : ByteArray) : refPV s = parseV s := by
  unfold refPV parseV
  rw [cut_dot]
  by_cases hd : dotAt s.data.toList < s.data.toList.length
  · rw [if_pos hd]
    simp only
    have hne : s ≠ ⟨#[]⟩ := by
      rintro rfl; exact absurd hd (Nat.not_lt_zero _)
    have hsl := take_dot s.data.toList hd
    have hA := ext_eq s (dotAt s.data.toList)
    rw [hA]
    have key : ∀ v : Int, nameV ⟨(s.data.toList.take (dotAt s.data.toList)).toArray⟩ v = s → ∃ n : Nat, v = (n : Int) ∧ n < 4096 ∧ s.data.toList.drop (dotAt s.data.toList + 1) = dig n := by
      intro v h
      obtain ⟨_, n, hv, hn, hl⟩ := name_some _ s v hne h
      refine ⟨n, hv, hn, ?_⟩
      have e : s.data.toList.take (dotAt s.data.toList) ++ 46 :: s.data.toList.drop (dotAt s.data.toList + 1) = s.data.toList.take (dotAt s.data.toList) ++ 46 :: dig n := hsl.symm.trans hl
      have := List.append_cancel_left e
      exact (List.cons.inj this).2
    generalize s.data.toList.drop (dotAt s.data.toList + 1) = D at key
    generalize (⟨(s.data.toList.take (dotAt s.data.toList)).toArray⟩ : ByteArray) = A at key
    by_cases hx : ∃ n : Nat, n < 4096 ∧ D = dig n
    · obtain ⟨n, hn, rfl⟩ := hx
      rw [atoi_dig n hn, refv_dig n hn]
      simp only
      rw [if_neg (fun q => hne ((toList_nil s).1 q))]
      by_cases hq : nameV A (n : Int) = s
      · rw [if_pos ((toList_iff _ _).2 hq), if_pos ⟨trivial, hq⟩]
      · rw [if_neg (fun q => hq ((toList_iff _ _).1 q)), if_neg (fun q => hq q.2)]
    · have no : ∀ v : Int, ¬ nameV A v = s := fun v q => by
        obtain ⟨n, _, hn, he⟩ := key v q
        exact hx ⟨n, hn, he⟩
      have l1 : (match refv 5 0 D with
          | none => ((⟨#[]⟩ : ByteArray), (0 : Int), false)
          | some n => if s.toList = ([] : List UInt8) then (⟨#[]⟩, 0, false) else if (nameV A (n : Int)).toList = s.toList then (A, (n : Int), true) else (⟨#[]⟩, 0, false)) = (⟨#[]⟩, 0, false) := by
        cases refv 5 0 D with
        | none => rfl
        | some n =>
          simp only
          rw [if_neg (fun q => hne ((toList_nil s).1 q)), if_neg (fun q => no _ ((toList_iff _ _).1 q))]
      have l2 : (match Lib.atoiAll D with
          | .ok v => if True ∧ nameV A v = s then (A, v, true) else ((⟨#[]⟩ : ByteArray), (0 : Int), false)
          | _ => (⟨#[]⟩, 0, false)) = (⟨#[]⟩, 0, false) := by
        cases Lib.atoiAll D with
        | ok v => simp only; rw [if_neg (fun q => no _ q.2)]
        | «syntax» => rfl
        | range => rfl
      rw [l1]
      exact l2.symm
  · rw [if_neg hd]
    simp only
    have hdl : dotAt s.data.toList = s.data.toList.length := by have := dot_le s.data.toList; omega
    rw [hdl, List.drop_of_length_le (by omega)]
    have hat : Lib.atoiAll [] = .«syntax» := rfl
    rw [hat]
    simp only [refv]
    by_cases hz : s.toList = ([] : List UInt8)
    · rw [if_pos hz]
    · rw [if_neg hz, if_neg]
      intro q
      have hq := (toList_iff _ _).1 q
      have hne : s ≠ ⟨#[]⟩ := fun h => hz ((toList_nil s).2 h)
      obtain ⟨_, n, _, _, hl⟩ := name_some _ s _ hne hq
      rw [ext_eq, List.take_length] at hl
      have := congrArg List.length hl
      simp at this
theorem parse_name (s : ByteArray) (i : Int) (h : nameV s i ≠ ⟨#[]⟩) : parseV (nameV s i) = (s, i, true) := by
  obtain ⟨hi, n, rfl, hn, hl⟩ := name_some s (nameV s i) i h rfl
  have hch : ∀ b ∈ s.data.toList, b ≠ 46 := by
    intro b hb q
    unfold imgV at hi
    rw [Bool.and_eq_true] at hi
    have := List.all_eq_true.1 hi.1 b hb
    rw [q] at this
    exact absurd this (by decide)
  have hd := dot_append s.data.toList (dig n) hch
  unfold parseV
  rw [hl, cut_dot, hd, if_pos (by simp)]
  simp only
  have e1 : (s.data.toList ++ 46 :: dig n).take s.data.toList.length = s.data.toList := List.take_left
  have e2 : (s.data.toList ++ 46 :: dig n).drop (s.data.toList.length + 1) = dig n := by
    rw [← List.drop_drop, List.drop_left]; rfl
  rw [e1, e2, atoi_dig n hn]
  simp only
  have e3 : (⟨s.data.toList.toArray⟩ : ByteArray) = s := by apply byte_ext; rfl
  rw [e3, if_pos ⟨trivial, trivial⟩]
theorem name_size (s : ByteArray) (i : Int) : (nameV s i).size ≤ 1048576 := by
  unfold nameV
  by_cases q : imgV s = true ∧ 0 ≤ i ∧ i < 4096
  · rw [if_pos q, ByteArray.size_append, ByteArray.size_append]
    obtain ⟨q1, q2, q3⟩ := q
    have h1 : s.size ≤ 16 := by
      unfold imgV szI at q1
      rw [Bool.and_eq_true] at q1
      exact (of_decide_eq_true q1.2).2
    have h2 : (itoaS i).size ≤ 21 := by
      have := Lib.itoa_length_le i (by omega) (by omega)
      show (Lib.itoa i).toArray.size ≤ 21
      simpa using this
    have h3 : (⟨#[46]⟩ : ByteArray).size = 1 := rfl
    omega
  · rw [if_neg q]; exact Nat.zero_le _
/-- The law of StripeNames. -/
theorem stripeNames_ev (a0 : ByteArray) (a1 : Int) (a2 : ByteArray) (h0 : a0.size ≤ 1048576) (h2 : a2.size ≤ 1048576) : Ev (fun k => reeflaw28_StripeNames.f k a0 a1 a2) true := by
  have hp : ∀ s : ByteArray, s.size ≤ 1048576 → stripe_ParseL.f s = some (parseV s) := fun s hs => by unfold stripe_ParseL.f; rw [if_pos hs]
  have hn : stripe_NameL.f a0 a1 = some (nameV a0 a1) := by unfold stripe_NameL.f; rw [if_pos h0]
  have hr : reefref28_NameL.f a0 a1 = some (nameV a0 a1) := by unfold reefref28_NameL.f; rw [if_pos h0]
  have hq := rparse_ev a2 h2
  rw [parse_eq] at hq
  unfold reeflaw28_StripeNames.f
  refine Ev.congr (fun k => by rw [hp a2 h2, Option.bind_some]) (Ev.bind hq ?_)
  refine Ev.congr (f := fun k => reeflaw28_StripeNames.j0 k a0 a1 (nameV a0 a1) false) (fun k => ?_) ?_
  · rw [hn, Option.bind_some, if_pos rfl, if_pos rfl, if_neg (by rw [bne_self_eq_false]; decide), hr, Option.bind_some, bne_self_eq_false]
  · by_cases he : nameV a0 a1 = ⟨#[]⟩
    · refine Ev.step (f := fun k => (reeflaw28_awake.f k).bind fun t => some t) (fun k => ?_) (Ev.bind awake_evn (Ev.now _))
      simp only [reeflaw28_StripeNames.j0]
      rw [if_neg Bool.false_ne_true, if_pos ((toList_nil _).2 he)]
    · refine Ev.step (f := fun k => (reeflaw28_awake.f k).bind fun t => some t) (fun k => ?_) (Ev.bind awake_evn (Ev.now _))
      simp only [reeflaw28_StripeNames.j0]
      rw [if_neg Bool.false_ne_true, if_neg (fun q => he ((toList_nil _).1 q)), hp _ (name_size a0 a1), Option.bind_some, parse_name a0 a1 he]
      simp only
      rw [if_pos trivial, if_pos trivial, if_pos trivial]
end Go.Proofs.YteajaofcgcgodaaDoor.Pure
